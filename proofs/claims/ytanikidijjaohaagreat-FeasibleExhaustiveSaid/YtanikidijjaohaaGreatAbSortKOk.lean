import Derived.Test.YtanikidijjaohaaGreatAbSortK
import Derived.Test.YtanikidijjaohaaGreatAbSortOk
import Derived.Shelf.SlSortCmp.NoneTotal
set_option linter.unusedVariables false
set_option linter.unusedSimpArgs false
namespace Go.Ab
open Go.Proofs Go.Shelf
set_option maxRecDepth 100000
section
variable {P:Program} {G:Nat→Option (List PV)} {w0:bI} {μ:Ro} {φ:Nat→aH} {m:Mem} {w w':World}
def pI:PV→Value
 |.int k n=>.int k n
 |.bool b=>.bool b
 |.str s=>.string ⟨s.toArray⟩
 |_=>.bool false
theorem Xl{p:PV}{x:Value}(h:ai P μ p x)(hs:abl p=true):x=pI p∧(∀μ',ai P μ' p (pI p))∧(pI p).oneCell'=true:=by
 cases h<;>first|(cases hs;done)|skip
 ·exact⟨rfl,fun _=>.int ‹_›,rfl⟩
 ·exact⟨rfl,fun _=>.bool,rfl⟩
 ·exact⟨rfl,fun _=>.str ‹_›,rfl⟩
theorem az.ahB{α:Type}[Inhabited α](kk:Nat)(hk0:0<kk)(enc:α→List Value)(val:α→List PV)(aae:∀x,enc x=(val x).map pI)(WA:∀x,(val x).length=kk)(AX:∀x,∀p∈val x,ai P μ p (pI p)∧(pI p).oneCell'=true)(hM:az P G w0 μ φ m w){id g:Nat}{et:TypeId}{es:List PV}(hm:m id=some (.arr kk et es))(hg:(φ id).g=some g)(mm:Nat)(os:Array Obj)(dk:Array α)(hd:dk.size=es.length):az P G w0 μ φ (aq m id (.arr kk et (eQ (dk.toList.map val)))) (sortWorldK enc kk w g 0 mm dk os):=by
 have hA:=hM.dH id _ hm;have hA:aN P μ φ w id kk et es:=hA;obtain⟨a1,a2,a3,a4,a5,a6,a7⟩:=hA;rw[hg]at a7;obtain⟨c,T,c1,c2,c3,c4,c5⟩:=a7;have ahC:g<w.heap.size:=(adp.1 c1).1;obtain⟨F,hF⟩:∃F,F=Go.Sort.flatK enc kk dk:=⟨_,rfl⟩;have hFs:F.size=dk.size*kk:=by rw[hF];simp
 have FX:∀k,(Go.Sort.putRow _root_.id (Go.Sort.ahead w mm) g 0 F).heap[k]?=if k=g then some (.cells (Go.Sort.putCells _root_.id 0 F c) T (0,0))else w.heap[k]?:=fun k=>by
  unfold Go.Sort.putRow Go.Sort.mapBlock Go.Sort.ahead;simp only[ale];by_cases e:g=k
  ·subst e;simp[c1,Go.Sort.onCells]
  ·rw[IN e,IN fun h=>e h.symm]
 have VM:(Go.Sort.putCells _root_.id 0 F c).size=c.size:=by simp[Go.Sort.putCells]
 have qd:dk.size*kk≤c.size:=ajP (adq _ (by omega)) c2;have zo:∀k,k<dk.size*kk→(Go.Sort.putCells _root_.id 0 F c)[k]?=some ((enc dk[k/kk]!)[k%kk]!):=fun k hk=>by
  unfold Go.Sort.putCells;rw[amJ];have hkc:k<c.size:=by omega
  rw[T0 hkc];simp only[ah5,ama,ako,true_and,hFs,hk,aaV,alC,_root_.id_eq];rw[hF,Go.Sort.get_flatK _ _ _ _ hk]
 have hlen:(eQ (dk.toList.map val)).length=es.length:=by simp[eQ,hd]
 have ec:∀(i:Nat)e,(eQ (dk.toList.map val))[i]?=some e→i<dk.size∧e=y4 (val dk[i]!):=fun i e he=>by
  simp only[eQ,alQ,IT,ah2]at he;obtain⟨x,hx,rfl⟩:=he;have hi:i<dk.size:=by have:=(IS.1 hx).1;simpa using this
  refine⟨hi,?_⟩;have:dk[i]! =x:=by rw[getElem!_pos dk i hi];simpa[hi]using hx
  rw[this];rfl
 have hec:∀x:α,∀j,j<kk→∃n,(enc x)[j]! =pI n∧(val x)[j]?=some n∧n∈val x:=fun x j hj=>by
  have KX:j<(val x).length:=by rw[WA];exact hj
  refine⟨(val x)[j],?_,AI KX,ajz KX⟩;rw[aae,getElem!_pos _ j (by simpa using KX)];simp
 have h1:az P G w0 μ φ (aq m id (.arr kk et (eQ (dk.toList.map val)))) (Go.Sort.putRow _root_.id (Go.Sort.ahead w mm) g 0 F):=by
  refine hM.write hm rfl hg ⟨⟨rfl,rfl,rfl,?_,fun k hk=>?_⟩,?_⟩ ?_ (fun k hk=>?_) ?_ rfl (by simp[bR.names])
  ·simp[Go.Sort.putRow,Go.Sort.mapBlock,Go.Sort.ahead]
  ·rw[FX k,IN (by omega)]
  ·simp[Go.Sort.putRow,Go.Sort.mapBlock,Go.Sort.ahead]
  ·simp[Go.Sort.putRow,Go.Sort.mapBlock,Go.Sort.ahead]
  ·rw[FX k,IN hk]
  ·show aN P μ φ _ id kk et _;refine⟨by rw[a1,hlen],a2,a3,a4,fun i e he=>?_,a6,?_⟩
   ·obtain⟨_,rfl⟩:=ec i e he;simp[y4,PV.cells,WA]
   ·rw[hg];refine⟨_,T,by rw[FX g,BK rfl],by rw[VM];exact c2,by rw[hlen];exact c3,fun i e j p x he hp hx=>?_,fun i x hi hx=>?_⟩
    ·obtain⟨hi,rfl⟩:=ec i e he;simp only[y4,PV.cells]at hp;have hn:=hp;have hj:j<kk:=by have:=(IS.1 hn).1;rw[WA]at this;exact this
     have cd:i*kk+j<dk.size*kk:=by have:(i+1)*kk≤dk.size*kk:=adq _ (by omega);rw[Nat.succ_mul]at this;omega
     rw[zo _ cd]at hx;have e1:(i*kk+j)/kk=i:=by rw[alJ,Nat.mul_add_div hk0,amG hj,akB]
     have e2:(i*kk+j)%kk=j:=by rw[alJ,amL,alq hj]
     rw[e1,e2]at hx;obtain⟨n',h1,h2,h3⟩:=hec dk[i]! j hj;rw[h1]at hx;rw[hn]at h2;simp only[AT]at hx h2;subst hx;subst h2;exact(AX _ _ h3).1
    ·rw[hlen,←hd]at hi;rw[zo i hi]at hx;simp only[AT]at hx;subst hx;obtain⟨n',h1,_,h3⟩:=hec dk[i/kk]! (i%kk) (amR _ hk0);rw[h1];exact(AX _ _ h3).2
 have h2:az P G w0 μ φ (aq m id (.arr kk et (eQ (dk.toList.map val)))) (Go.Sort.grow (Go.Sort.putRow _root_.id (Go.Sort.ahead w mm) g 0 F) os):=by
  refine h1.abm ?_;refine⟨⟨rfl,rfl,rfl,?_,fun k hk=>?_⟩,fun _=>ajC _⟩
  ·simp[Go.Sort.grow]
  ·unfold Go.Sort.grow;rw[akT hk]
 rw[hF]at h2;exact h2
theorem JE{P:Program}{G:Nat→Option (List PV)}{ρr:Ren}(L:SlLaysF0.n6 P ρr){gs:FuncId}(hgs:ρr.f 6=gs)(ahD:∃fn c,P.funcs[gs]?=some fn∧fn.body=some c∧(fn.name== "runtime.NumGoroutine")=false){kk:Nat}(aE:∀w,(isAgg (ρr.t 24)).run P w=.ok true w)(zE:∀w,(Go.sizeOf (ρr.t 24)).run P w=.ok kk w){clo:FuncId→Option (List PV→Option PV)}(ahE:∀g M,clo g=some M→vp P G g M){R:Type}{args:List V}{f:Fr}{m:Mem}{k:V→Fr→Mem→Option R}{r:R}(h:yS kk clo R args f m k=some r):Jr P G gs args f m k r:=by
 unfold yS at h;split at h
 ·rename_i id gc caps;split at h
  ·rename_i sz et es hm;split at h
   ·rename_i M hM;split at h
    ·rename_i oh;obtain⟨rfl,e9,hgb⟩:=oh;obtain⟨es',hs,hk⟩:=BY.1 h;obtain⟨ns,LQ,cf,e1,e2,hf⟩:=Ij hs;obtain⟨⟨fc,cc,fc1,fc2,fc3⟩,hMs⟩:=ahE gc M hM;refine⟨ahD,fun w0 μ φ ρ w xs hR hF hlen ku Db=>?_⟩;have Oy:∃x0 x1,xs= #[x0,x1]:=by
      obtain⟨l⟩:=xs;match l,hlen with
      |[x0,x1],_=>exact⟨x0,x1,rfl⟩
      |[],h=>simp at h
      |[_],h=>simp at h
      |_::_::_::_,h=>simp at h
     obtain⟨x0,x1,rfl⟩:=Oy;have r0:=ku 0 _ x0 rfl rfl;have r1:=ku 1 _ x1 rfl rfl;have hA:aN P μ φ w id sz et es:=hR.dH id _ hm;have nothing:es=[]→∀p c,x0=.slice p 0 c→Calls P gs #[x0,x1] w fun e w'=>∃v f' m' y μ' φ',k v f' m'=some r∧e=.returned y∧az P G w0 μ' φ' m' w'∧cu P μ' φ' m' f' ρ∧ah P μ' φ' v y∧∀id,v.has id=true→(m' id).isSome=true:=by
      intro he p c hx;subst hx;have HR:ns=[]:=by
       have:eQ ns=[]:=by rw[←e1];exact he
       simpa[eQ]using this
      have ahF:LQ=[]:=by have:=hf.perm;rw[HR]at this;exact List.Perm.eq_nil this
      rw[e2,ahF]at hk;have hme:aq m id (.arr sz et (eQ []))=m:=LR (by rw[hm,he];rfl);rw[hme]at hk;rw[←hgs];refine(AnyF.slices_SortFunc_none L p c x1 w).mono ?_;rintro e w' ⟨rfl,rfl⟩;exact⟨_,_,_,_,μ,φ,hk,rfl,hR,hF,.bu rfl (by simp),fun id av=>by simp[V.has,cD]at av⟩
     cases r0 with
     |s9 hg=>obtain⟨a1,a2,a3,a4,a5,a6,a7⟩:=hA;rw[hg]at a7;exact nothing a7.1 _ _ rfl
     | @os _ g hg=>
      have zi:=hA;obtain⟨a1,a2,a3,a4,a5,a6,a7⟩:=hA;rw[hg]at a7;obtain⟨c,T,c1,c2,c3,c4,c5⟩:=a7;by_cases H2:es=[]
      ·refine nothing H2 (some ⟨g,0,none⟩) (φ id).cap ?_;rw[a1,H2];rfl
      have cY:ns≠[]:=fun h=>H2 (by rw[e1,h];rfl);obtain⟨n0,hn0⟩:=List.exists_mem_of_ne_nil ns cY;cases r1 with
      | @fn _ _ cb ajo FY=>
       rw[rK hgb];let α:={n:List PV//n∈ns};let _:Inhabited α:=⟨⟨n0,hn0⟩⟩;let enc:α→List Value:=fun x=>x.1.map pI;let cf':α→α→Int:=fun x y=>cf x.1 y.1;let d:Array α:=ns.attach.toArray;have OU:d.size=ns.length:=by show ns.attach.toArray.size=ns.length;rw[akr];exact List.length_attach
       have hdv:d.toList.map (fun x:α=>x.1)=ns:=by show ns.attach.toArray.toList.map (fun x=>x.1)=ns;exact List.attach_map_subtype_val ns
       have hds:d.size=es.length:=by rw[e1,OU];simp[eQ]
       have WA:∀x:α,x.1.length=sz:=fun x=>hf.len _ x.2;have ajp:ns.length*sz≤c.size:=ajP (adq _ (by rw[←OU,hds];exact c3)) c2;have hat:∀(i:Nat)(r:List PV),ns[i]?=some r→∀(j:Nat)n,r[j]?=some n→i*sz+j<c.size∧c[i*sz+j]?=some (pI n)∧(∀μ',ai P μ' n (pI n))∧(pI n).oneCell'=true:=fun i r hi j n hj=>by
        have hie:es[i]?=some (y4 r):=by rw[e1];simp[eQ,hi]
        have hil:i<ns.length:=(IS.1 hi).1;have Ca:j<sz:=by have:=(IS.1 hj).1;rw[hf.len _ (ah3 hi)]at this;exact this
        have cd:i*sz+j<c.size:=by have:(i+1)*sz≤ns.length*sz:=adq _ (by omega);rw[Nat.succ_mul]at this;omega
        have:=c4 i _ j n c[i*sz+j] hie (by simp[y4,PV.cells,hj]) (T0 cd);rw[T0 cd];obtain⟨v1,v2,v3⟩:=Xl this (hf.Wu _ (ah3 hi) _ (ah3 hj));exact⟨cd,by rw[v1],v2,v3⟩
       have AX:∀x:α,∀n∈x.1,(∀μ',ai P μ' n (pI n))∧(pI n).oneCell'=true:=fun x n hn=>by obtain⟨i,hi⟩:=ajX x.2;obtain⟨j,hj⟩:=ajX hn;exact(hat i _ hi j n hj).2.2
       have hH:Go.Sort.HoldsK enc sz w g 0 d:=fun t ht=>by
        have ht:t<d.size*sz:=by simpa using ht
        have hti:t/sz<d.size:=Nat.div_lt_of_lt_mul (by rw[alJ];exact ht);have Zg:t%sz<sz:=amR _ a4;have hdj:ns[t/sz]?=some d[t/sz]!.1:=by
         rw[getElem!_pos d _ hti];have h7:(d.toList.map (fun x:α=>x.1))[t/sz]?=ns[t/sz]?:=by rw[hdv]
         rw[←h7,IT,ajL,T0 hti];rfl
        have Ca:t%sz<d[t/sz]!.1.length:=by rw[WA];exact Zg
        obtain⟨h1,h2,h3⟩:=hat _ _ hdj _ _ (AI Ca);have het:t/sz*sz+t%sz=t:=by rw[alJ];exact Nat.div_add_mod t sz
        rw[het]at h1 h2;have hfl:(Go.Sort.flatK enc sz d)[t]! =pI (d[t/sz]!.1[t%sz]):=by rw[Go.Sort.get_flatK _ _ _ _ ht];show(d[t/sz]!.1.map pI)[t%sz]! =_;rw[getElem!_pos _ _ (by simpa using Ca)];simp
        refine⟨?_,?_⟩
        ·rw[hfl];simp only[World.cell?,c1,ako,h2,amh,By,abG,_root_.id_eq]
        ·simp only[World.frozen?,c1,ako];simp
       have hO:Go.Sort.SWO (ltOf cf'):=by
        refine⟨fun x=>?_,fun x y z h1 h2=>?_,fun x y z h1 h2=>?_⟩
        ·simp only[ltOf,ajK];exact hf.irrefl x.1 x.2
        ·simp only[ltOf,I5]at h1 h2⊢;exact hf.trans _ x.2 _ y.2 _ z.2 h1 h2
        ·simp only[ltOf,ajK]at h1 h2⊢;intro h3;by_cases h4:cf y.1 x.1<0
         ·exact h2 (hf.trans _ y.2 _ x.2 _ z.2 h4 h3)
         ·have:=hf.total _ x.2 _ y.2 h1 h4;have h5:x=y:=Subtype.ext this;subst h5;exact h2 h3
       have lB:=fun(mm:Nat)(os:Array Obj)(dk:Array α)(hd:dk.size=d.size)=>az.ahB sz a4 enc (fun x=>x.1) (fun _=>rfl) WA (fun x p hp=>⟨(AX x p hp).1 _,(AX x p hp).2⟩) hR hm hg mm os dk (by rw[hd,hds]);have hrp:∀x:α,ai P (fun _=>none) (y4 x.1) (.agg (enc x).toArray):=fun x=>by
        refine .agg (by simp[enc]) (fun i p y hp hy=>?_) (fun i y hy=>?_)
        ·have hy:(x.1.map pI).toArray[i]?=some y:=hy;rw[aj0,IT,hp]at hy;simp only[ah5,AT]at hy;rw[←hy];exact(AX x p (ah3 hp)).1 _
        ·have hy:(x.1.map pI).toArray[i]?=some y:=hy;rw[aj0,IT,ah2]at hy;obtain⟨n,hn,rfl⟩:=hy;exact(AX x n (ah3 hn)).2
       have ahG:CmpLays P gc cb enc sz cf' g 0 d.size w:=by
        intro mm os dk hd x y;have hW:=lB mm os dk hd;have hr:=hf.reads (dk.toList.map fun x=>x.1) (by rw[OF,akX,hd,OU]) (fun z hz=>by obtain⟨q,_,rfl⟩:=ajJ.1 hz;exact q.2) x.1 x.2 y.1 y.2;obtain⟨ps,pX,hMp⟩:=BY.1 hr;obtain⟨p1,p2⟩:=iE pX;refine(hMs _ _ hMp _ (kx _) _ (fun _ _ h=>h) (fun g cs hg=>(hW.aM g cs hg).mono hW.yI) (by simp;omega) (fun i q z hq hz=>?_)).mono ?_
        ·match i with
         |0=>
          rw[akT (by simp)]at hz;have e3:q=y4 x.1:=by simpa using hq.symm
          have e4:z=.agg (enc x).toArray:=by simpa using hz.symm
          rw[e3,e4];exact(hrp x).mono (fun _ _ h=>by cases h)
         |1=>
          rw[akT (by simp)]at hz;have e3:q=y4 y.1:=by simpa using hq.symm
          have e4:z=.agg (enc y).toArray:=by simpa using hz.symm
          rw[e3,e4];exact(hrp y).mono (fun _ _ h=>by cases h)
         |i+2=>
          simp only[alo]at hq;obtain⟨u,hu,wM⟩:=p2 i q hq;have Wh:cb[i]?=some z:=by rw[Array.getElem?_append_right (by simp)]at hz;simpa using hz
          exact uq hW hW.yI (fun _ _ _ _ _=>rfl) _ wM (FY i u z hu Wh)
        ·rintro e w' ⟨v,rfl,hb,hv⟩;cases hv with
         |int _=>exact⟨rfl,Xm hb⟩
       have hgl:g<w.heap.size:=(adp.1 c1).1;have St:d.size<4611686018427387904:=by
        have h2:af<4611686018427387904:=by decide
        omega
       have ta:∀x:α,∀v∈enc x,v.oneCell'=true:=fun x v hv=>by obtain⟨n,hn,rfl⟩:=ajJ.1 hv;exact(AX x n hn).2
       have Bf:=AnyQ.slices_SortFunc L sz aE zE enc (fun x=>by simp[enc,WA]) ta cf' hO gc cb g 0 (φ id).cap d w (fun a W=>yO fc1 fc3 fc2) ahG hH hgl St;rw[hgs]at Bf;have Oy:Value.slice (some ⟨g,0,none⟩) (φ id).len (φ id).cap=Value.slice (some ⟨g,0,none⟩) d.size (φ id).cap:=by rw[a1,hds]
       rw[Oy];refine Bf.mono ?_;rintro e w' ⟨rfl,d',n,os,hp,ZL,rfl⟩;have hW:=lB n os d' hp.1;have aem:(d'.toList.map fun x=>x.1).Perm ns:=by
        have h3:=hp.2.2;have e3:d'.extract 0 d.size=d':=by rw[←hp.1];exact Array.extract_size
        rw[e3,Array.extract_size]at h3;have h4:=h3.map (fun x:α=>x.1);rw[hdv]at h4;exact h4
       have ahH:(d'.toList.map fun x=>x.1).Pairwise fun a b=>¬cf b a<0:=by
        rw[List.pairwise_map,akZ];intro i j hi hj OE;have ow:i<d'.size:=by simpa using hi
        have KX:j<d'.size:=by simpa using hj
        have:=ZL i j (ama _) OE (by rw[←hp.1];exact KX);rw[getElem!_pos d' j KX,getElem!_pos d' i ow]at this;simp only[ltOf,ajK]at this;simpa using this
       have heq:(d'.toList.map fun x=>x.1)=LQ:=k8.unique (c1:=cf) (c2:=cf) ⟨hf.len,hf.Wu,aem,hf.reads,hf.irrefl,hf.trans,hf.total,ahH⟩ hf;rw[heq,←e2]at hW;exact⟨_,_,_,_,μ,φ,hk,rfl,hW,hF.ni (fun _ _ h=>h) (.set),.bu rfl (by simp),fun id av=>by simp[V.has,cD]at av⟩
    ·cases h
   ·cases h
  ·cases h
 ·cases h
end
end Go.Ab
