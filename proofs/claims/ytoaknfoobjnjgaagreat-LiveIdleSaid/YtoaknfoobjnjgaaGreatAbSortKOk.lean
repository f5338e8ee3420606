import Derived.Test.YtoaknfoobjnjgaaGreatAbSortK
import Derived.Test.YtoaknfoobjnjgaaGreatAbSortOk
import Derived.Shelf.SlSortCmp.NoneTotal
set_option linter.all false
namespace Go.Ab
open Go.Proofs Go.Shelf
set_option maxRecDepth 100000
section
variable {P:Program} {G:Nat→Option (List PV)} {w0:bl} {μ:Ro} {φ:Nat→aK} {m:Mem} {w w':World}
def tC:PV→Value
 |.int k n=>.int k n
 |.bool b=>.bool b
 |.str s=>.string ⟨s.toArray⟩
 |_=>.bool false
theorem Yo{p:PV}{x:Value}(h:au P μ p x)(hs:aeE p=true):x=tC p∧(∀μ',au P μ' p (tC p))∧(tC p).oneCell'=true:=by
 cases h<;>first|(cases hs;done)|skip
 ·exact⟨rfl,fun _=>.int ‹_›,rfl⟩
 ·exact⟨rfl,fun _=>.bool,rfl⟩
 ·exact⟨rfl,fun _=>.str ‹_›,rfl⟩
theorem aG.alP{α:Type}[Inhabited α](kk:Nat)(hk0:0<kk)(enc:α→List Value)(val:α→List PV)(afL:∀x,enc x=(val x).map tC)(QQ:∀x,(val x).length=kk)(JU:∀x,∀p∈val x,au P μ p (tC p)∧(tC p).oneCell'=true)(hM:aG P G w0 μ φ m w){id g:Nat}{et:TypeId}{es:List PV}(hm:m id=some (.arr kk et es))(hg:(φ id).g=some g)(mm:Nat)(os:Array Obj)(dk:Array α)(hd:dk.size=es.length):aG P G w0 μ φ (aB m id (.arr kk et (fg (dk.toList.map val)))) (sortWorldK enc kk w g 0 mm dk os):=by
 have hA:=hM.dF id _ hm;have hA:aP P μ φ w id kk et es:=hA;obtain⟨a1,a2,a3,a4,a5,a6,a7⟩:=hA;rw[hg]at a7;obtain⟨c,T,c1,c2,c3,c4,c5⟩:=a7;have alQ:g<w.heap.size:=(adW.1 c1).1;obtain⟨F,hF⟩:∃F,F=Go.Sort.flatK enc kk dk:=⟨_,rfl⟩;have hFs:F.size=dk.size*kk:=by rw[hF];simp
 have Ol:∀k,(Go.Sort.putRow _root_.id (Go.Sort.ahead w mm) g 0 F).heap[k]?=if k=g then some (.cells (Go.Sort.putCells _root_.id 0 F c) T (0,0))else w.heap[k]?:=fun k=>by
  unfold Go.Sort.putRow Go.Sort.mapBlock Go.Sort.ahead;simp only[ao0];by_cases e:g=k
  ·simp_all[Go.Sort.onCells]
  grind
 have Jk:(Go.Sort.putCells _root_.id 0 F c).size=c.size:=by simp[Go.Sort.putCells]
 have su:dk.size*kk≤c.size:=anW (amt _ (by omega)) c2;have CM:∀k,k<dk.size*kk→(Go.Sort.putCells _root_.id 0 F c)[k]?=some ((enc dk[k/kk]!)[k%kk]!):=fun k hk=>by
  unfold Go.Sort.putCells;rw[Array.getElem?_mapIdx];have hkc:k<c.size:=by omega
  rw[T1 hkc];simp only[No,apM,aoy,true_and,hFs,hk,IS,aqx,_root_.id_eq];grind [Go.Sort.get_flatK]
 have hlen:(fg (dk.toList.map val)).length=es.length:=by simp[fg,hd]
 have eE:∀(i:Nat)e,(fg (dk.toList.map val))[i]?=some e→i<dk.size∧e=AU (val dk[i]!):=fun i e he=>by simp only[fg,ao8,AT,ae0]at he;grind
 have hec:∀x:α,∀j,j<kk→∃n,(enc x)[j]! =tC n∧(val x)[j]?=some n∧n∈val x:=fun x j hj=>by
  have Nh:j<(val x).length:=by rw[QQ];omega
  refine⟨(val x)[j],?_,ta Nh,agZ Nh⟩;simp_all
 have h1:aG P G w0 μ φ (aB m id (.arr kk et (fg (dk.toList.map val)))) (Go.Sort.putRow _root_.id (Go.Sort.ahead w mm) g 0 F):=by
  refine hM.write hm rfl hg ⟨⟨rfl,rfl,rfl,?_,fun k hk=>?_⟩,?_⟩ ?_ (fun k hk=>?_) ?_ rfl (by simp[bI.names])
  ·simp[Go.Sort.putRow,Go.Sort.mapBlock,Go.Sort.ahead]
  ·grind
  ·simp[Go.Sort.putRow,Go.Sort.mapBlock,Go.Sort.ahead]
  ·simp[Go.Sort.putRow,Go.Sort.mapBlock,Go.Sort.ahead]
  ·rw[Ol k,IT hk]
  ·show aP P μ φ _ id kk et _;refine⟨by omega,a2,a3,a4,fun i e he=>?_,a6,?_⟩
   ·obtain⟨_,rfl⟩:=eE i e he;simp[AU,PV.cells,QQ]
   ·rw[hg];refine⟨_,T,by rw[Ol g,BY rfl],by omega,by omega,fun i e j p x he hp hx=>?_,fun i x hi hx=>?_⟩
    ·obtain⟨hi,rfl⟩:=eE i e he;simp only[AU,PV.cells]at hp;have hn:=hp;have hj:j<kk:=by grind
     have bK:i*kk+j<dk.size*kk:=by have:(i+1)*kk≤dk.size*kk:=amt _ (by omega);grind
     rw[CM _ bK]at hx;have e1:(i*kk+j)/kk=i:=by rw[apO,Nat.mul_add_div hk0,Nat.div_eq_of_lt hj,apn]
     grind [Nat.mul_comm,Nat.mul_add_mod,Nat.mod_eq_of_lt,Option.some.injEq]
    grind [Option.some.injEq,Nat.mod_lt]
 have h2:aG P G w0 μ φ (aB m id (.arr kk et (fg (dk.toList.map val)))) (Go.Sort.grow (Go.Sort.putRow _root_.id (Go.Sort.ahead w mm) g 0 F) os):=by
  refine h1.later ?_;refine⟨⟨rfl,rfl,rfl,?_,fun k hk=>?_⟩,fun _=>anz _⟩
  ·simp[Go.Sort.grow]
  grind [Go.Sort.grow,Array.getElem?_append_left]
 rw[hF]at h2;exact h2
theorem LU{P:Program}{G:Nat→Option (List PV)}{ρr:Ren}(L:SlLaysF0.n6 P ρr){gs:FuncId}(hgs:ρr.f 6=gs)(alR:∃fn c,P.funcs[gs]?=some fn∧fn.body=some c∧(fn.name== "runtime.NumGoroutine")=false){kk:Nat}(aE:∀w,(isAgg (ρr.t 24)).run P w=.ok true w)(zE:∀w,(Go.sizeOf (ρr.t 24)).run P w=.ok kk w){clo:FuncId→Option (List PV→Option PV)}(alS:∀g M,clo g=some M→yR P G g M){R:Type}{args:List V}{f:Fr}{m:Mem}{k:V→Fr→Mem→Option R}{r:R}(h:Av kk clo R args f m k=some r):Lw P G gs args f m k r:=by
 unfold Av at h;split at h
 ·rename_i id gc caps;split at h
  ·rename_i sz et es hm;split at h
   ·rename_i M hM;split at h
    ·rename_i n9;obtain⟨rfl,cr,hgb⟩:=n9;obtain⟨es',hs,hk⟩:=AI.1 h;obtain⟨ns,Oj,cf,e1,e2,hf⟩:=Kq hs;obtain⟨⟨fc,cc,fc1,fc2,fc3⟩,hMs⟩:=alS gc M hM;refine⟨alR,fun w0 μ φ ρ w xs hR hF hlen kL EW=>?_⟩;have UJ:∃x0 x1,xs= #[x0,x1]:=by
      obtain⟨l⟩:=xs;match l,hlen with
      |[x0,x1],_=>simp
      |[],h=>simp at h
      |[_],h=>simp at h
      |_::_::_::_,h=>simp at h
     obtain⟨x0,x1,rfl⟩:=UJ;have r0:=kL 0 _ x0 rfl rfl;have r1:=kL 1 _ x1 rfl rfl;have hA:aP P μ φ w id sz et es:=hR.dF id _ hm;have nothing:es=[]→∀p c,x0=.slice p 0 c→Calls P gs #[x0,x1] w fun e w'=>∃v f' m' y μ' φ',k v f' m'=some r∧e=.returned y∧aG P G w0 μ' φ' m' w'∧b9 P μ' φ' m' f' ρ∧aq P μ' φ' v y∧∀id,v.has id=true→(m' id).isSome=true:=by
      intro he p c hx;subst hx;have Ji:ns=[]:=by simp_all[fg]
      have alT:Oj=[]:=by have:=hf.perm;simp_all
      rw[e2,alT]at hk;have hme:aB m id (.arr sz et (fg []))=m:=Om (by rw[hm,he];rfl);rw[hme]at hk;rw[←hgs];refine(AnyF.slices_SortFunc_none L p c x1 w).mono ?_;rintro e w' ⟨rfl,rfl⟩;exact⟨_,_,_,_,μ,φ,hk,rfl,hR,hF,.aV rfl (by simp),fun id hid=>by simp[V.has,cq]at hid⟩
     cases r0 with
     |ux hg=>obtain⟨a1,a2,a3,a4,a5,a6,a7⟩:=hA;simp_all
     | @os _ g hg=>
      have AN:=hA;obtain⟨a1,a2,a3,a4,a5,a6,a7⟩:=hA;rw[hg]at a7;obtain⟨c,T,c1,c2,c3,c4,c5⟩:=a7;by_cases Nf:es=[]
      ·simp_all
      have cy:ns≠[]:=fun h=>Nf (by rw[e1,h];rfl);obtain⟨n0,hn0⟩:=List.exists_mem_of_ne_nil ns cy;cases r1 with
      | @fn _ _ cb anj HM=>
       rw[sY hgb];let α:={n:List PV//n∈ns};let _:Inhabited α:=⟨⟨n0,hn0⟩⟩;let enc:α→List Value:=fun x=>x.1.map tC;let cf':α→α→Int:=fun x y=>cf x.1 y.1;let d:Array α:=ns.attach.toArray;have XR:d.size=ns.length:=by grind
       have hdv:d.toList.map (fun x:α=>x.1)=ns:=by grind [List.attach_map_subtype_val]
       have WU:d.size=es.length:=by rw[e1,XR];simp[fg]
       have QQ:∀x:α,x.1.length=sz:=fun x=>hf.len _ x.2;have ank:ns.length*sz≤c.size:=anW (amt _ (by omega)) c2;have Qk:∀(i:Nat)(r:List PV),ns[i]?=some r→∀(j:Nat)n,r[j]?=some n→i*sz+j<c.size∧c[i*sz+j]?=some (tC n)∧(∀μ',au P μ' n (tC n))∧(tC n).oneCell'=true:=fun i r hi j n hj=>by
        have hie:es[i]?=some (AU r):=by rw[e1];simp[fg,hi]
        have I7:i<ns.length:=(IN.1 hi).1;have yD:j<sz:=by grind
        have bK:i*sz+j<c.size:=by have:(i+1)*sz≤ns.length*sz:=amt _ (by omega);grind
        have:=c4 i _ j n c[i*sz+j] hie (by simp[AU,PV.cells,hj]) (T1 bK);rw[T1 bK];obtain⟨v1,v2,v3⟩:=Yo this (hf.UP _ (amq hi) _ (amq hj));grind
       have JU:∀x:α,∀n∈x.1,(∀μ',au P μ' n (tC n))∧(tC n).oneCell'=true:=fun x n hn=>by grind [List.getElem?_of_mem]
       have hH:Go.Sort.HoldsK enc sz w g 0 d:=fun t ht=>by
        have ht:t<d.size*sz:=by simpa using ht
        have hti:t/sz<d.size:=Nat.div_lt_of_lt_mul (by grind);have htj:t%sz<sz:=aqF _ a4;have hdj:ns[t/sz]?=some d[t/sz]!.1:=by grind
        have yD:t%sz<d[t/sz]!.1.length:=by rw[QQ];omega
        obtain⟨h1,h2,h3⟩:=Qk _ _ hdj _ _ (ta yD);have het:t/sz*sz+t%sz=t:=by simp[apO,Nat.div_add_mod]
        rw[het]at h1 h2;have Kn:(Go.Sort.flatK enc sz d)[t]! =tC (d[t/sz]!.1[t%sz]):=by grind [Go.Sort.get_flatK,tC]
        refine⟨?_,?_⟩
        ·rw[Kn];simp only[World.cell?,c1,aoy,h2,aoY,tc,PS,_root_.id_eq]
        ·simp only[World.frozen?,c1,aoy];simp
       have hO:Go.Sort.SWO (ltOf cf'):=by
        refine⟨fun x=>?_,fun x y z h1 h2=>?_,fun x y z h1 h2=>?_⟩
        ·simp only[ltOf,anQ];exact hf.irrefl x.1 x.2
        ·simp only[ltOf,te]at h1 h2⊢;exact hf.trans _ x.2 _ y.2 _ z.2 h1 h2
        ·simp only[ltOf,anQ]at h1 h2⊢;intro h3;by_cases h4:cf y.1 x.1<0
         ·exact h2 (hf.trans _ y.2 _ x.2 _ z.2 h4 h3)
         ·have:=hf.total _ x.2 _ y.2 h1 h4;grind
       have mT:=fun(mm:Nat)(os:Array Obj)(dk:Array α)(hd:dk.size=d.size)=>aG.alP sz a4 enc (fun x=>x.1) (fun _=>rfl) QQ (fun x p hp=>⟨(JU x p hp).1 _,(JU x p hp).2⟩) hR hm hg mm os dk (by omega);have hrp:∀x:α,au P (fun _=>none) (AU x.1) (.agg (enc x).toArray):=fun x=>by
        refine .agg (by simp[enc]) (fun i p y hp hy=>?_) (fun i y hy=>?_)
        ·grind
        grind
       have alU:CmpLays P gc cb enc sz cf' g 0 d.size w:=by
        intro mm os dk hd x y;have hW:=mT mm os dk hd;have hr:=hf.reads (dk.toList.map fun x=>x.1) (by simp_all) (fun z hz=>by grind) x.1 x.2 y.1 y.2;obtain⟨ps,pS,hMp⟩:=AI.1 hr;obtain⟨p1,p2⟩:=gJ pS;refine(hMs _ _ hMp _ (kP _) _ (fun _ _ h=>h) (fun g cs hg=>(hW.aF g cs hg).mono hW.Al) (by simp;omega) (fun i q z hq hz=>?_)).mono ?_
        ·match i with
         |0=>
          rw[aoJ (by simp)]at hz;have e3:q=AU x.1:=by simpa using hq.symm
          have e4:z=.agg (enc x).toArray:=by simpa using hz.symm
          rw[e3,e4];exact(hrp x).mono (fun _ _ h=>by cases h)
         |1=>
          rw[aoJ (by simp)]at hz;have e3:q=AU y.1:=by simpa using hq.symm
          have e4:z=.agg (enc y).toArray:=by simpa using hz.symm
          rw[e3,e4];exact(hrp y).mono (fun _ _ h=>by cases h)
         |i+2=>
          simp only[apa]at hq;obtain⟨u,hu,xh⟩:=p2 i q hq;have hz':cb[i]?=some z:=by rw[Array.getElem?_append_right (by simp)]at hz;simpa using hz
          exact wk hW hW.Al (fun _ _ _ _ _=>rfl) _ xh (HM i u z hu hz')
        ·rintro e w' ⟨v,rfl,hb,hv⟩;cases hv with
         |int _=>exact⟨rfl,Yp hb⟩
       have hgl:g<w.heap.size:=(adW.1 c1).1;have SC:d.size<4611686018427387904:=by grind [aa,decide]
       have wq:∀x:α,∀v∈enc x,v.oneCell'=true:=fun x v hv=>by grind
       have iW:=AnyQ.slices_SortFunc L sz aE zE enc (fun x=>by simp[enc,QQ]) wq cf' hO gc cb g 0 (φ id).cap d w (fun a W=>As fc1 fc3 fc2) alU hH hgl SC;rw[hgs]at iW;have UJ:Value.slice (some ⟨g,0,none⟩) (φ id).len (φ id).cap=Value.slice (some ⟨g,0,none⟩) d.size (φ id).cap:=by rw[a1,WU]
       rw[UJ];refine iW.mono ?_;rintro e w' ⟨rfl,d',n,os,hp,UO,rfl⟩;have hW:=mT n os d' hp.1;have ahY:(d'.toList.map fun x=>x.1).Perm ns:=by
        have h3:=hp.2.2;have e3:d'.extract 0 d.size=d':=by rw[←hp.1];simp
        grind
       have alV:(d'.toList.map fun x=>x.1).Pairwise fun a b=>¬cf b a<0:=by
        rw[aqe,an8];intro i j hi hj XC;have oa:i<d'.size:=by omega
        have Nh:j<d'.size:=by omega
        have:=UO i j (apM _) XC (by rw[←hp.1];omega);grind [ltOf,decide_eq_false_iff_not]
       have heq:(d'.toList.map fun x=>x.1)=Oj:=lD.unique (c1:=cf) (c2:=cf) ⟨hf.len,hf.UP,ahY,hf.reads,hf.irrefl,hf.trans,hf.total,alV⟩ hf;rw[heq,←e2]at hW;exact⟨_,_,_,_,μ,φ,hk,rfl,hW,hF.oA (fun _ _ h=>h) (.set),.aV rfl (by simp),fun id hid=>by simp[V.has,cq]at hid⟩
    ·cases h
   ·cases h
  ·cases h
 ·cases h
end
end Go.Ab
