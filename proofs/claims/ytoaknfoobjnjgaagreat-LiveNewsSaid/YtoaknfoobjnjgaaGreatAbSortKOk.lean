import Derived.Test.YtoaknfoobjnjgaaGreatAbSortK
import Derived.Test.YtoaknfoobjnjgaaGreatAbSortOk
import Derived.Shelf.SlSortCmp.NoneTotal
set_option linter.all false
namespace Go.Ab
open Go.Proofs Go.Shelf
set_option maxRecDepth 100000
section
variable {P:Program} {G:Nat→Option (List PV)} {w0:bu} {μ:Ro} {φ:Nat→aH} {m:Mem} {w w':World}
def uH:PV→Value
 |.int k n=>.int k n
 |.bool b=>.bool b
 |.str s=>.string ⟨s.toArray⟩
 |_=>.bool false
theorem aak{p:PV}{x:Value}(h:aq P μ p x)(hs:afc p=true):x=uH p∧(∀μ',aq P μ' p (uH p))∧(uH p).oneCell'=true:=by
 cases h<;>first|(cases hs;done)|skip
 ·exact⟨rfl,fun _=>.int ‹_›,rfl⟩
 ·exact⟨rfl,fun _=>.bool,rfl⟩
 ·exact⟨rfl,fun _=>.str ‹_›,rfl⟩
theorem aA.amH{α:Type}[Inhabited α](kk:Nat)(hk0:0<kk)(enc:α→List Value)(val:α→List PV)(agi:∀x,enc x=(val x).map uH)(OD:∀x,(val x).length=kk)(Lw:∀x,∀p∈val x,aq P μ p (uH p)∧(uH p).oneCell'=true)(hM:aA P G w0 μ φ m w){id g:Nat}{et:TypeId}{es:List PV}(hm:m id=some (.arr kk et es))(hg:(φ id).g=some g)(mm:Nat)(os:Array Obj)(dk:Array α)(hd:dk.size=es.length):aA P G w0 μ φ (aw m id (.arr kk et (fu (dk.toList.map val)))) (sortWorldK enc kk w g 0 mm dk os):=by
 have hA:=hM.dB id _ hm;have hA:aL P μ φ w id kk et es:=hA;obtain⟨a1,a2,a3,a4,a5,a6,a7⟩:=hA;rw[hg]at a7;obtain⟨c,T,c1,c2,c3,c4,c5⟩:=a7;have amI:g<w.heap.size:=(T0.1 c1).1;obtain⟨F,hF⟩:∃F,F=Go.Sort.flatK enc kk dk:=⟨_,rfl⟩;have hFs:F.size=dk.size*kk:=by rw[hF];simp
 have Py:∀k,(Go.Sort.putRow _root_.id (Go.Sort.ahead w mm) g 0 F).heap[k]?=if k=g then some (.cells (Go.Sort.putCells _root_.id 0 F c) T (0,0))else w.heap[k]?:=fun k=>by
  unfold Go.Sort.putRow Go.Sort.mapBlock Go.Sort.ahead;simp only[apD];by_cases e:g=k
  ·simp_all[Go.Sort.onCells]
  grind
 have M7:(Go.Sort.putCells _root_.id 0 F c).size=c.size:=by simp[Go.Sort.putCells]
 have tB:dk.size*kk≤c.size:=aov (an8 _ (by omega)) c2;have Ey:∀k,k<dk.size*kk→(Go.Sort.putCells _root_.id 0 F c)[k]?=some ((enc dk[k/kk]!)[k%kk]!):=fun k hk=>by
  unfold Go.Sort.putCells;rw[Array.getElem?_mapIdx];have hkc:k<c.size:=by omega
  rw[Yh hkc];simp only[IS,aqN,apa,true_and,hFs,hk,BY,arf,_root_.id_eq];grind [Go.Sort.get_flatK]
 have hlen:(fu (dk.toList.map val)).length=es.length:=by simp[fu,hd]
 have ey:∀(i:Nat)e,(fu (dk.toList.map val))[i]?=some e→i<dk.size∧e=CM (val dk[i]!):=fun i e he=>by simp only[fu,apL,AT,alj]at he;grind
 have hec:∀x:α,∀j,j<kk→∃n,(enc x)[j]! =uH n∧(val x)[j]?=some n∧n∈val x:=fun x j hj=>by
  have YK:j<(val x).length:=by rw[OD];omega
  refine⟨(val x)[j],?_,ta YK,an7 YK⟩;simp_all
 have h1:aA P G w0 μ φ (aw m id (.arr kk et (fu (dk.toList.map val)))) (Go.Sort.putRow _root_.id (Go.Sort.ahead w mm) g 0 F):=by
  refine hM.write hm rfl hg ⟨⟨rfl,rfl,rfl,?_,fun k hk=>?_⟩,?_⟩ ?_ (fun k hk=>?_) ?_ rfl (by simp[bL.names])
  ·simp[Go.Sort.putRow,Go.Sort.mapBlock,Go.Sort.ahead]
  ·grind
  ·simp[Go.Sort.putRow,Go.Sort.mapBlock,Go.Sort.ahead]
  ·simp[Go.Sort.putRow,Go.Sort.mapBlock,Go.Sort.ahead]
  ·rw[Py k,QU hk]
  ·show aL P μ φ _ id kk et _;refine⟨by omega,a2,a3,a4,fun i e he=>?_,a6,?_⟩
   ·obtain⟨_,rfl⟩:=ey i e he;simp[CM,PV.cells,OD]
   ·rw[hg];refine⟨_,T,by rw[Py g,No rfl],by omega,by omega,fun i e j p x he hp hx=>?_,fun i x hi hx=>?_⟩
    ·obtain⟨hi,rfl⟩:=ey i e he;simp only[CM,PV.cells]at hp;have hn:=hp;have hj:j<kk:=by grind
     have bF:i*kk+j<dk.size*kk:=by have:(i+1)*kk≤dk.size*kk:=an8 _ (by omega);grind
     rw[Ey _ bF]at hx;have e1:(i*kk+j)/kk=i:=by rw[aqf,Nat.mul_add_div hk0,Nat.div_eq_of_lt hj,apU]
     grind [Nat.mul_comm,Nat.mul_add_mod,Nat.mod_eq_of_lt,Option.some.injEq]
    grind [Option.some.injEq,Nat.mod_lt]
 have h2:aA P G w0 μ φ (aw m id (.arr kk et (fu (dk.toList.map val)))) (Go.Sort.grow (Go.Sort.putRow _root_.id (Go.Sort.ahead w mm) g 0 F) os):=by
  refine h1.later ?_;refine⟨⟨rfl,rfl,rfl,?_,fun k hk=>?_⟩,fun _=>aoa _⟩
  ·simp[Go.Sort.grow]
  grind [Go.Sort.grow,Array.getElem?_append_left]
 rw[hF]at h2;exact h2
theorem Nt{P:Program}{G:Nat→Option (List PV)}{ρr:Ren}(L:SlLaysF0.n6 P ρr){gs:FuncId}(hgs:ρr.f 6=gs)(amJ:∃fn c,P.funcs[gs]?=some fn∧fn.body=some c∧(fn.name== "runtime.NumGoroutine")=false){kk:Nat}(aE:∀w,(isAgg (ρr.t 24)).run P w=.ok true w)(zE:∀w,(Go.sizeOf (ρr.t 24)).run P w=.ok kk w){clo:FuncId→Option (List PV→Option PV)}(amK:∀g M,clo g=some M→AR P G g M){R:Type}{args:List V}{f:Fr}{m:Mem}{k:V→Fr→Mem→Option R}{r:R}(h:Cv kk clo R args f m k=some r):M3 P G gs args f m k r:=by
 unfold Cv at h;split at h
 ·rename_i id gc caps;split at h
  ·rename_i sz et es hm;split at h
   ·rename_i M hM;split at h
    ·rename_i ou;obtain⟨rfl,bw,hgb⟩:=ou;obtain⟨es',hs,hk⟩:=By.1 h;obtain⟨ns,Px,cf,e1,e2,hf⟩:=L3 hs;obtain⟨⟨fc,cc,fc1,fc2,fc3⟩,hMs⟩:=amK gc M hM;refine⟨amJ,fun w0 μ φ ρ w xs hR hF hlen kF GR=>?_⟩;have WA:∃x0 x1,xs= #[x0,x1]:=by
      obtain⟨l⟩:=xs;match l,hlen with
      |[x0,x1],_=>simp
      |[],h=>simp at h
      |[_],h=>simp at h
      |_::_::_::_,h=>simp at h
     obtain⟨x0,x1,rfl⟩:=WA;have r0:=kF 0 _ x0 rfl rfl;have r1:=kF 1 _ x1 rfl rfl;have hA:aL P μ φ w id sz et es:=hR.dB id _ hm;have nothing:es=[]→∀p c,x0=.slice p 0 c→Calls P gs #[x0,x1] w fun e w'=>∃v f' m' y μ' φ',k v f' m'=some r∧e=.returned y∧aA P G w0 μ' φ' m' w'∧cd P μ' φ' m' f' ρ∧an P μ' φ' v y∧∀id,v.has id=true→(m' id).isSome=true:=by
      intro he p c hx;subst hx;have KL:ns=[]:=by simp_all[fu]
      have amL:Px=[]:=by have:=hf.perm;simp_all
      rw[e2,amL]at hk;have hme:aw m id (.arr sz et (fu []))=m:=Pz (by rw[hm,he];rfl);rw[hme]at hk;rw[←hgs];refine(AnyF.slices_SortFunc_none L p c x1 w).mono ?_;rintro e w' ⟨rfl,rfl⟩;exact⟨_,_,_,_,μ,φ,hk,rfl,hR,hF,.aI rfl (by simp),fun id hid=>by simp[V.has,cp]at hid⟩
     cases r0 with
     |vO hg=>obtain⟨a1,a2,a3,a4,a5,a6,a7⟩:=hA;simp_all
     | @os _ g hg=>
      have Dq:=hA;obtain⟨a1,a2,a3,a4,a5,a6,a7⟩:=hA;rw[hg]at a7;obtain⟨c,T,c1,c2,c3,c4,c5⟩:=a7;by_cases OB:es=[]
      ·simp_all
      have bU:ns≠[]:=fun h=>OB (by rw[e1,h];rfl);obtain⟨n0,hn0⟩:=List.exists_mem_of_ne_nil ns bU;cases r1 with
      | @fn _ _ cb anV Xk=>
       rw[uk hgb];let α:={n:List PV//n∈ns};let _:Inhabited α:=⟨⟨n0,hn0⟩⟩;let enc:α→List Value:=fun x=>x.1.map uH;let cf':α→α→Int:=fun x y=>cf x.1 y.1;let d:Array α:=ns.attach.toArray;have ZI:d.size=ns.length:=by grind
       have hdv:d.toList.map (fun x:α=>x.1)=ns:=by grind [List.attach_map_subtype_val]
       have Z2:d.size=es.length:=by rw[e1,ZI];simp[fu]
       have OD:∀x:α,x.1.length=sz:=fun x=>hf.len _ x.2;have anW:ns.length*sz≤c.size:=aov (an8 _ (by omega)) c2;have HY:∀(i:Nat)(r:List PV),ns[i]?=some r→∀(j:Nat)n,r[j]?=some n→i*sz+j<c.size∧c[i*sz+j]?=some (uH n)∧(∀μ',aq P μ' n (uH n))∧(uH n).oneCell'=true:=fun i r hi j n hj=>by
        have hie:es[i]?=some (CM r):=by rw[e1];simp[fu,hi]
        have I0:i<ns.length:=(IN.1 hi).1;have tf:j<sz:=by grind
        have bF:i*sz+j<c.size:=by have:(i+1)*sz≤ns.length*sz:=an8 _ (by omega);grind
        have:=c4 i _ j n c[i*sz+j] hie (by simp[CM,PV.cells,hj]) (Yh bF);rw[Yh bF];obtain⟨v1,v2,v3⟩:=aak this (hf.WH _ (an4 hi) _ (an4 hj));grind
       have Lw:∀x:α,∀n∈x.1,(∀μ',aq P μ' n (uH n))∧(uH n).oneCell'=true:=fun x n hn=>by grind [List.getElem?_of_mem]
       have hH:Go.Sort.HoldsK enc sz w g 0 d:=fun t ht=>by
        have ht:t<d.size*sz:=by simpa using ht
        have hti:t/sz<d.size:=Nat.div_lt_of_lt_mul (by grind);have htj:t%sz<sz:=aq1 _ a4;have hdj:ns[t/sz]?=some d[t/sz]!.1:=by grind
        have tf:t%sz<d[t/sz]!.1.length:=by rw[OD];omega
        obtain⟨h1,h2,h3⟩:=HY _ _ hdj _ _ (ta tf);have het:t/sz*sz+t%sz=t:=by simp[aqf,Nat.div_add_mod]
        rw[het]at h1 h2;have KA:(Go.Sort.flatK enc sz d)[t]! =uH (d[t/sz]!.1[t%sz]):=by grind [Go.Sort.get_flatK,uH]
        refine⟨?_,?_⟩
        ·rw[KA];simp only[World.cell?,c1,apa,h2,apS,AI,OF,_root_.id_eq]
        ·simp only[World.frozen?,c1,apa];simp
       have hO:Go.Sort.SWO (ltOf cf'):=by
        refine⟨fun x=>?_,fun x y z h1 h2=>?_,fun x y z h1 h2=>?_⟩
        ·simp only[ltOf,aoP];exact hf.irrefl x.1 x.2
        ·simp only[ltOf,tc]at h1 h2⊢;exact hf.trans _ x.2 _ y.2 _ z.2 h1 h2
        ·simp only[ltOf,aoP]at h1 h2⊢;intro h3;by_cases h4:cf y.1 x.1<0
         ·exact h2 (hf.trans _ y.2 _ x.2 _ z.2 h4 h3)
         ·have:=hf.total _ x.2 _ y.2 h1 h4;grind
       have nb:=fun(mm:Nat)(os:Array Obj)(dk:Array α)(hd:dk.size=d.size)=>aA.amH sz a4 enc (fun x=>x.1) (fun _=>rfl) OD (fun x p hp=>⟨(Lw x p hp).1 _,(Lw x p hp).2⟩) hR hm hg mm os dk (by omega);have hrp:∀x:α,aq P (fun _=>none) (CM x.1) (.agg (enc x).toArray):=fun x=>by
        refine .agg (by simp[enc]) (fun i p y hp hy=>?_) (fun i y hy=>?_)
        ·grind
        grind
       have amM:CmpLays P gc cb enc sz cf' g 0 d.size w:=by
        intro mm os dk hd x y;have hW:=nb mm os dk hd;have hr:=hf.reads (dk.toList.map fun x=>x.1) (by simp_all) (fun z hz=>by grind) x.1 x.2 y.1 y.2;obtain⟨ps,qk,hMp⟩:=By.1 hr;obtain⟨p1,p2⟩:=gL qk;refine(hMs _ _ hMp _ (kK _) _ (fun _ _ h=>h) (fun g cs hg=>(hW.az g cs hg).mono hW.Cm) (by simp;omega) (fun i q z hq hz=>?_)).mono ?_
        ·match i with
         |0=>
          rw[apl (by simp)]at hz;have e3:q=CM x.1:=by simpa using hq.symm
          have e4:z=.agg (enc x).toArray:=by simpa using hz.symm
          rw[e3,e4];exact(hrp x).mono (fun _ _ h=>by cases h)
         |1=>
          rw[apl (by simp)]at hz;have e3:q=CM y.1:=by simpa using hq.symm
          have e4:z=.agg (enc y).toArray:=by simpa using hz.symm
          rw[e3,e4];exact(hrp y).mono (fun _ _ h=>by cases h)
         |i+2=>
          simp only[apP]at hq;obtain⟨u,hu,yW⟩:=p2 i q hq;have hz':cb[i]?=some z:=by rw[Array.getElem?_append_right (by simp)]at hz;simpa using hz
          exact yb hW hW.Cm (fun _ _ _ _ _=>rfl) _ yW (Xk i u z hu hz')
        ·rintro e w' ⟨v,rfl,hb,hv⟩;cases hv with
         |int _=>exact⟨rfl,aal hb⟩
       have hgl:g<w.heap.size:=(T0.1 c1).1;have TY:d.size<4611686018427387904:=by grind [ab,decide]
       have yj:∀x:α,∀v∈enc x,v.oneCell'=true:=fun x v hv=>by grind
       have qp:=AnyQ.slices_SortFunc L sz aE zE enc (fun x=>by simp[enc,OD]) yj cf' hO gc cb g 0 (φ id).cap d w (fun a W=>Ct fc1 fc3 fc2) amM hH hgl TY;rw[hgs]at qp;have WA:Value.slice (some ⟨g,0,none⟩) (φ id).len (φ id).cap=Value.slice (some ⟨g,0,none⟩) d.size (φ id).cap:=by rw[a1,Z2]
       rw[WA];refine qp.mono ?_;rintro e w' ⟨rfl,d',n,os,hp,WG,rfl⟩;have hW:=nb n os d' hp.1;have ai4:(d'.toList.map fun x=>x.1).Perm ns:=by
        have h3:=hp.2.2;have e3:d'.extract 0 d.size=d':=by rw[←hp.1];simp
        grind
       have amN:(d'.toList.map fun x=>x.1).Pairwise fun a b=>¬cf b a<0:=by
        rw[aqH,aoH];intro i j hi hj Zq;have l8:i<d'.size:=by omega
        have YK:j<d'.size:=by omega
        have:=WG i j (aqN _) Zq (by rw[←hp.1];omega);grind [ltOf,decide_eq_false_iff_not]
       have heq:(d'.toList.map fun x=>x.1)=Px:=lz.unique (c1:=cf) (c2:=cf) ⟨hf.len,hf.WH,ai4,hf.reads,hf.irrefl,hf.trans,hf.total,amN⟩ hf;rw[heq,←e2]at hW;exact⟨_,_,_,_,μ,φ,hk,rfl,hW,hF.oI (fun _ _ h=>h) (.set),.aI rfl (by simp),fun id hid=>by simp[V.has,cp]at hid⟩
    ·cases h
   ·cases h
  ·cases h
 ·cases h
end
end Go.Ab
