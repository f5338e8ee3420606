import Derived.Test.YtanikidijjaohaaGreatAbSortK
import Derived.Test.YtanikidijjaohaaGreatAbSortOk
import Derived.Shelf.SlSortCmp.NoneTotal
set_option linter.unusedVariables false
set_option linter.unusedSimpArgs false
namespace Go.Ab
open Go.Proofs Go.Shelf
set_option maxRecDepth 100000
section
variable {P:Program} {G:Nat→Option (List PV)} {w0:bu} {μ:Ro} {φ:Nat→aA} {m:Mem} {w w':World}
def nX:PV→Value
 |.int k n=>.int k n
 |.bool b=>.bool b
 |.str s=>.string ⟨s.toArray⟩
 |_=>.bool false
theorem TR{p:PV}{x:Value}(h:af P μ p x)(hs:Yk p=true):x=nX p∧(∀μ',af P μ' p (nX p))∧(nX p).oneCell'=true:=by
 cases h<;>first|(cases hs;done)|skip
 ·exact⟨rfl,fun _=>.int ‹_›,rfl⟩
 ·exact⟨rfl,fun _=>.bool,rfl⟩
 ·exact⟨rfl,fun _=>.str ‹_›,rfl⟩
theorem aw.aeT{α:Type}[Inhabited α](kk:Nat)(hk0:0<kk)(enc:α→List Value)(val:α→List PV)(WB:∀x,enc x=(val x).map nX)(S6:∀x,(val x).length=kk)(yV:∀x,∀p∈val x,af P μ p (nX p)∧(nX p).oneCell'=true)(hM:aw P G w0 μ φ m w){id g:Nat}{et:TypeId}{es:List PV}(hm:m id=some (.arr kk et es))(hg:(φ id).g=some g)(mm:Nat)(os:Array Obj)(dk:Array α)(hd:dk.size=es.length):aw P G w0 μ φ (al m id (.arr kk et (eo (dk.toList.map val)))) (sortWorldK enc kk w g 0 mm dk os):=by
 have hA:=hM.du id _ hm;have hA:aK P μ φ w id kk et es:=hA;obtain⟨a1,a2,a3,a4,a5,a6,a7⟩:=hA;rw[hg]at a7;obtain⟨c,T,c1,c2,c3,c4,c5⟩:=a7;have aeU:g<w.heap.size:=(YH.1 c1).1;obtain⟨F,hF⟩:∃F,F=Go.Sort.flatK enc kk dk:=⟨_,rfl⟩;have hFs:F.size=dk.size*kk:=by rw[hF];simp
 have Dy:∀k,(Go.Sort.putRow _root_.id (Go.Sort.ahead w mm) g 0 F).heap[k]?=if k=g then some (.cells (Go.Sort.putCells _root_.id 0 F c) T (0,0))else w.heap[k]?:=fun k=>by
  unfold Go.Sort.putRow Go.Sort.mapBlock Go.Sort.ahead;simp only[aia];by_cases e:g=k
  ·subst e;simp[c1,Go.Sort.onCells]
  ·rw[IN e,IN fun h=>e h.symm]
 have Sf:(Go.Sort.putCells _root_.id 0 F c).size=c.size:=by simp[Go.Sort.putCells]
 have oz:dk.size*kk≤c.size:=ahl (aaP _ (by omega)) c2;have xh:∀k,k<dk.size*kk→(Go.Sort.putCells _root_.id 0 F c)[k]?=some ((enc dk[k/kk]!)[k%kk]!):=fun k hk=>by
  unfold Go.Sort.putCells;rw[ajE];have hkc:k<c.size:=by omega
  rw[OF hkc];simp only[adN,ajr,ahp,true_and,hFs,hk,T1,aiC,_root_.id_eq];rw[hF,Go.Sort.get_flatK _ _ _ _ hk]
 have hlen:(eo (dk.toList.map val)).length=es.length:=by simp[eo,hd]
 have eH:∀(i:Nat)e,(eo (dk.toList.map val))[i]?=some e→i<dk.size∧e=wT (val dk[i]!):=fun i e he=>by
  simp only[eo,aiK,IS,aaO]at he;obtain⟨x,hx,rfl⟩:=he;have hi:i<dk.size:=by have:=(HO.1 hx).1;simpa using this
  refine⟨hi,?_⟩;have:dk[i]! =x:=by rw[getElem!_pos dk i hi];simpa[hi]using hx
  rw[this];rfl
 have hec:∀x:α,∀j,j<kk→∃n,(enc x)[j]! =nX n∧(val x)[j]?=some n∧n∈val x:=fun x j hj=>by
  have H7:j<(val x).length:=by rw[S6];exact hj
  refine⟨(val x)[j],?_,AS H7,agQ H7⟩;rw[WB,getElem!_pos _ j (by simpa using H7)];simp
 have h1:aw P G w0 μ φ (al m id (.arr kk et (eo (dk.toList.map val)))) (Go.Sort.putRow _root_.id (Go.Sort.ahead w mm) g 0 F):=by
  refine hM.write hm rfl hg ⟨⟨rfl,rfl,rfl,?_,fun k hk=>?_⟩,?_⟩ ?_ (fun k hk=>?_) ?_ rfl (by simp[bF.names])
  ·simp[Go.Sort.putRow,Go.Sort.mapBlock,Go.Sort.ahead]
  ·rw[Dy k,IN (by omega)]
  ·simp[Go.Sort.putRow,Go.Sort.mapBlock,Go.Sort.ahead]
  ·simp[Go.Sort.putRow,Go.Sort.mapBlock,Go.Sort.ahead]
  ·rw[Dy k,IN hk]
  ·show aK P μ φ _ id kk et _;refine⟨by rw[a1,hlen],a2,a3,a4,fun i e he=>?_,a6,?_⟩
   ·obtain⟨_,rfl⟩:=eH i e he;simp[wT,PV.cells,S6]
   ·rw[hg];refine⟨_,T,by rw[Dy g,BY rfl],by rw[Sf];exact c2,by rw[hlen];exact c3,fun i e j p x he hp hx=>?_,fun i x hi hx=>?_⟩
    ·obtain⟨hi,rfl⟩:=eH i e he;simp only[wT,PV.cells]at hp;have hn:=hp;have hj:j<kk:=by have:=(HO.1 hn).1;rw[S6]at this;exact this
     have bS:i*kk+j<dk.size*kk:=by have:(i+1)*kk≤dk.size*kk:=aaP _ (by omega);rw[Nat.succ_mul]at this;omega
     rw[xh _ bS]at hx;have e1:(i*kk+j)/kk=i:=by rw[aiD,Nat.mul_add_div hk0,ajw hj,ahL]
     have e2:(i*kk+j)%kk=j:=by rw[aiD,ajG,aio hj]
     rw[e1,e2]at hx;obtain⟨n',h1,h2,h3⟩:=hec dk[i]! j hj;rw[h1]at hx;rw[hn]at h2;simp only[AI]at hx h2;subst hx;subst h2;exact(yV _ _ h3).1
    ·rw[hlen,←hd]at hi;rw[xh i hi]at hx;simp only[AI]at hx;subst hx;obtain⟨n',h1,_,h3⟩:=hec dk[i/kk]! (i%kk) (ajI _ hk0);rw[h1];exact(yV _ _ h3).2
 have h2:aw P G w0 μ φ (al m id (.arr kk et (eo (dk.toList.map val)))) (Go.Sort.grow (Go.Sort.putRow _root_.id (Go.Sort.ahead w mm) g 0 F) os):=by
  refine h1.Yl ?_;refine⟨⟨rfl,rfl,rfl,?_,fun k hk=>?_⟩,fun _=>agM _⟩
  ·simp[Go.Sort.grow]
  ·unfold Go.Sort.grow;rw[ahO hk]
 rw[hF]at h2;exact h2
theorem G3{P:Program}{G:Nat→Option (List PV)}{ρr:Ren}(L:SlLaysF0.n6 P ρr){gs:FuncId}(hgs:ρr.f 6=gs)(aeV:∃fn c,P.funcs[gs]?=some fn∧fn.body=some c∧(fn.name== "runtime.NumGoroutine")=false){kk:Nat}(aE:∀w,(isAgg (ρr.t 24)).run P w=.ok true w)(zE:∀w,(Go.sizeOf (ρr.t 24)).run P w=.ok kk w){WA:FuncId→Option (List PV→Option PV)}(aeW:∀g M,WA g=some M→tr P G g M){R:Type}{args:List V}{f:Fr}{m:Mem}{k:V→Fr→Mem→Option R}{r:R}(h:wM kk WA R args f m k=some r):GQ P G gs args f m k r:=by
 unfold wM at h;split at h
 ·rename_i id gc caps;split at h
  ·rename_i sz et es hm;split at h
   ·rename_i M hM;split at h
    ·rename_i mP;obtain⟨rfl,gu,hgb⟩:=mP;obtain⟨es',hs,hk⟩:=By.1 h;obtain⟨ns,I2,cf,e1,e2,hf⟩:=FJ hs;obtain⟨⟨fc,cc,fc1,fc2,fc3⟩,hMs⟩:=aeW gc M hM;refine⟨aeV,fun w0 μ φ ρ w xs hR hF hlen jI A4=>?_⟩;have Lp:∃x0 x1,xs= #[x0,x1]:=by
      obtain⟨l⟩:=xs;match l,hlen with
      |[x0,x1],_=>exact⟨x0,x1,rfl⟩
      |[],h=>simp at h
      |[_],h=>simp at h
      |_::_::_::_,h=>simp at h
     obtain⟨x0,x1,rfl⟩:=Lp;have r0:=jI 0 _ x0 rfl rfl;have r1:=jI 1 _ x1 rfl rfl;have hA:aK P μ φ w id sz et es:=hR.du id _ hm;have nothing:es=[]→∀p c,x0=.slice p 0 c→Calls P gs #[x0,x1] w fun e w'=>∃v f' m' y μ' φ',k v f' m'=some r∧e=.returned y∧aw P G w0 μ' φ' m' w'∧bX P μ' φ' m' f' ρ∧ae P μ' φ' v y∧∀id,v.has id=true→(m' id).isSome=true:=by
      intro he p c hx;subst hx;have Fh:ns=[]:=by
       have:eo ns=[]:=by rw[←e1];exact he
       simpa[eo]using this
      have aeX:I2=[]:=by have:=hf.perm;rw[Fh]at this;exact List.Perm.eq_nil this
      rw[e2,aeX]at hk;have hme:al m id (.arr sz et (eo []))=m:=I3 (by rw[hm,he];rfl);rw[hme]at hk;rw[←hgs];refine(AnyF.slices_SortFunc_none L p c x1 w).mono ?_;rintro e w' ⟨rfl,rfl⟩;exact⟨_,_,_,_,μ,φ,hk,rfl,hR,hF,.bn rfl (by simp),fun id an=>by simp[V.has,ck]at an⟩
     cases r0 with
     |q6 hg=>obtain⟨a1,a2,a3,a4,a5,a6,a7⟩:=hA;rw[hg]at a7;exact nothing a7.1 _ _ rfl
     | @os _ g hg=>
      have xc:=hA;obtain⟨a1,a2,a3,a4,a5,a6,a7⟩:=hA;rw[hg]at a7;obtain⟨c,T,c1,c2,c3,c4,c5⟩:=a7;by_cases Ft:es=[]
      ·refine nothing Ft (some ⟨g,0,none⟩) (φ id).cap ?_;rw[a1,Ft];rfl
      have cL:ns≠[]:=fun h=>Ft (by rw[e1,h];rfl);obtain⟨n0,hn0⟩:=List.exists_mem_of_ne_nil ns cL;cases r1 with
      | @fn _ _ cb agE Dz=>
       rw[pP hgb];let α:={n:List PV//n∈ns};let _:Inhabited α:=⟨⟨n0,hn0⟩⟩;let enc:α→List Value:=fun x=>x.1.map nX;let cf':α→α→Int:=fun x y=>cf x.1 y.1;let d:Array α:=ns.attach.toArray;have LM:d.size=ns.length:=by show ns.attach.toArray.size=ns.length;rw[ahr];exact List.length_attach
       have hdv:d.toList.map (fun x:α=>x.1)=ns:=by show ns.attach.toArray.toList.map (fun x=>x.1)=ns;exact List.attach_map_subtype_val ns
       have hds:d.size=es.length:=by rw[e1,LM];simp[eo]
       have S6:∀x:α,x.1.length=sz:=fun x=>hf.len _ x.2;have agF:ns.length*sz≤c.size:=ahl (aaP _ (by rw[←LM,hds];exact c3)) c2;have Ym:∀(i:Nat)(r:List PV),ns[i]?=some r→∀(j:Nat)n,r[j]?=some n→i*sz+j<c.size∧c[i*sz+j]?=some (nX n)∧(∀μ',af P μ' n (nX n))∧(nX n).oneCell'=true:=fun i r hi j n hj=>by
        have hie:es[i]?=some (wT r):=by rw[e1];simp[eo,hi]
        have Zp:i<ns.length:=(HO.1 hi).1;have Ad:j<sz:=by have:=(HO.1 hj).1;rw[hf.len _ (aaQ hi)]at this;exact this
        have bS:i*sz+j<c.size:=by have:(i+1)*sz≤ns.length*sz:=aaP _ (by omega);rw[Nat.succ_mul]at this;omega
        have:=c4 i _ j n c[i*sz+j] hie (by simp[wT,PV.cells,hj]) (OF bS);rw[OF bS];obtain⟨v1,v2,v3⟩:=TR this (hf.SZ _ (aaQ hi) _ (aaQ hj));exact⟨bS,by rw[v1],v2,v3⟩
       have yV:∀x:α,∀n∈x.1,(∀μ',af P μ' n (nX n))∧(nX n).oneCell'=true:=fun x n hn=>by obtain⟨i,hi⟩:=ag4 x.2;obtain⟨j,hj⟩:=ag4 hn;exact(Ym i _ hi j n hj).2.2
       have hH:Go.Sort.HoldsK enc sz w g 0 d:=fun t ht=>by
        have ht:t<d.size*sz:=by simpa using ht
        have hti:t/sz<d.size:=Nat.div_lt_of_lt_mul (by rw[aiD];exact ht);have VD:t%sz<sz:=ajI _ a4;have hdj:ns[t/sz]?=some d[t/sz]!.1:=by
         rw[getElem!_pos d _ hti];have h7:(d.toList.map (fun x:α=>x.1))[t/sz]?=ns[t/sz]?:=by rw[hdv]
         rw[←h7,IS,agR,OF hti];rfl
        have Ad:t%sz<d[t/sz]!.1.length:=by rw[S6];exact VD
        obtain⟨h1,h2,h3⟩:=Ym _ _ hdj _ _ (AS Ad);have het:t/sz*sz+t%sz=t:=by rw[aiD];exact Nat.div_add_mod t sz
        rw[het]at h1 h2;have hfl:(Go.Sort.flatK enc sz d)[t]! =nX (d[t/sz]!.1[t%sz]):=by rw[Go.Sort.get_flatK _ _ _ _ ht];show(d[t/sz]!.1.map nX)[t%sz]! =_;rw[getElem!_pos _ _ (by simpa using Ad)];simp
        refine⟨?_,?_⟩
        ·rw[hfl];simp only[World.cell?,c1,ahp,h2,aje,AT,Xq,_root_.id_eq]
        ·simp only[World.frozen?,c1,ahp];simp
       have hO:Go.Sort.SWO (ltOf cf'):=by
        refine⟨fun x=>?_,fun x y z h1 h2=>?_,fun x y z h1 h2=>?_⟩
        ·simp only[ltOf,agW];exact hf.irrefl x.1 x.2
        ·simp only[ltOf,No]at h1 h2⊢;exact hf.trans _ x.2 _ y.2 _ z.2 h1 h2
        ·simp only[ltOf,agW]at h1 h2⊢;intro h3;by_cases h4:cf y.1 x.1<0
         ·exact h2 (hf.trans _ y.2 _ x.2 _ z.2 h4 h3)
         ·have:=hf.total _ x.2 _ y.2 h1 h4;have h5:x=y:=Subtype.ext this;subst h5;exact h2 h3
       have kx:=fun(mm:Nat)(os:Array Obj)(dk:Array α)(hd:dk.size=d.size)=>aw.aeT sz a4 enc (fun x=>x.1) (fun _=>rfl) S6 (fun x p hp=>⟨(yV x p hp).1 _,(yV x p hp).2⟩) hR hm hg mm os dk (by rw[hd,hds]);have hrp:∀x:α,af P (fun _=>none) (wT x.1) (.agg (enc x).toArray):=fun x=>by
        refine .agg (by simp[enc]) (fun i p y hp hy=>?_) (fun i y hy=>?_)
        ·have hy:(x.1.map nX).toArray[i]?=some y:=hy;rw[ag8,IS,hp]at hy;simp only[adN,AI]at hy;rw[←hy];exact(yV x p (aaQ hp)).1 _
        ·have hy:(x.1.map nX).toArray[i]?=some y:=hy;rw[ag8,IS,aaO]at hy;obtain⟨n,hn,rfl⟩:=hy;exact(yV x n (aaQ hn)).2
       have aeY:CmpLays P gc cb enc sz cf' g 0 d.size w:=by
        intro mm os dk hd x y;have hW:=kx mm os dk hd;have hr:=hf.reads (dk.toList.map fun x=>x.1) (by rw[T0,ahV,hd,LM]) (fun z hz=>by obtain⟨q,_,rfl⟩:=agZ.1 hz;exact q.2) x.1 x.2 y.1 y.2;obtain⟨ps,ou,hMp⟩:=By.1 hr;obtain⟨p1,p2⟩:=gz ou;refine(hMs _ _ hMp _ (jK _) _ (fun _ _ h=>h) (fun g cs hg=>(hW.aH g cs hg).mono hW.wB) (by simp;omega) (fun i q z hq hz=>?_)).mono ?_
        ·match i with
         |0=>
          rw[ahO (by simp)]at hz;have e3:q=wT x.1:=by simpa using hq.symm
          have e4:z=.agg (enc x).toArray:=by simpa using hz.symm
          rw[e3,e4];exact(hrp x).mono (fun _ _ h=>by cases h)
         |1=>
          rw[ahO (by simp)]at hz;have e3:q=wT y.1:=by simpa using hq.symm
          have e4:z=.agg (enc y).toArray:=by simpa using hz.symm
          rw[e3,e4];exact(hrp y).mono (fun _ _ h=>by cases h)
         |i+2=>
          simp only[aim]at hq;obtain⟨u,hu,uA⟩:=p2 i q hq;have SK:cb[i]?=some z:=by rw[Array.getElem?_append_right (by simp)]at hz;simpa using hz
          exact su hW hW.wB (fun _ _ _ _ _=>rfl) _ uA (Dz i u z hu SK)
        ·rintro e w' ⟨v,rfl,hb,hv⟩;cases hv with
         |int _=>exact⟨rfl,TS hb⟩
       have Y0:g<w.heap.size:=(YH.1 c1).1;have Pm:d.size<4611686018427387904:=by
        have h2:aj<4611686018427387904:=by decide
        omega
       have sy:∀x:α,∀v∈enc x,v.oneCell'=true:=fun x v hv=>by obtain⟨n,hn,rfl⟩:=agZ.1 hv;exact(yV x n hn).2
       have zh:=AnyQ.slices_SortFunc L sz aE zE enc (fun x=>by simp[enc,S6]) sy cf' hO gc cb g 0 (φ id).cap d w (fun a W=>wI fc1 fc3 fc2) aeY hH Y0 Pm;rw[hgs]at zh;have Lp:Value.slice (some ⟨g,0,none⟩) (φ id).len (φ id).cap=Value.slice (some ⟨g,0,none⟩) d.size (φ id).cap:=by rw[a1,hds]
       rw[Lp];refine zh.mono ?_;rintro e w' ⟨rfl,d',n,os,hp,V6,rfl⟩;have hW:=kx n os d' hp.1;have abJ:(d'.toList.map fun x=>x.1).Perm ns:=by
        have h3:=hp.2.2;have e3:d'.extract 0 d.size=d':=by rw[←hp.1];exact Array.extract_size
        rw[e3,Array.extract_size]at h3;have h4:=h3.map (fun x:α=>x.1);rw[hdv]at h4;exact h4
       have aeZ:(d'.toList.map fun x=>x.1).Pairwise fun a b=>¬cf b a<0:=by
        rw[List.pairwise_map,aic];intro i j hi hj Ps;have mT:i<d'.size:=by simpa using hi
        have H7:j<d'.size:=by simpa using hj
        have:=V6 i j (ajr _) Ps (by rw[←hp.1];exact H7);rw[getElem!_pos d' j H7,getElem!_pos d' i mT]at this;simp only[ltOf,agW]at this;simpa using this
       have heq:(d'.toList.map fun x=>x.1)=I2:=ke.unique (c1:=cf) (c2:=cf) ⟨hf.len,hf.SZ,abJ,hf.reads,hf.irrefl,hf.trans,hf.total,aeZ⟩ hf;rw[heq,←e2]at hW;exact⟨_,_,_,_,μ,φ,hk,rfl,hW,hF.l0 (fun _ _ h=>h) (.set),.bn rfl (by simp),fun id an=>by simp[V.has,ck]at an⟩
    ·cases h
   ·cases h
  ·cases h
 ·cases h
end
end Go.Ab
