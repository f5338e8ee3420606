import Derived.Test.YtanikidijjaohaaGreatAbSortK
import Derived.Test.YtanikidijjaohaaGreatAbSortOk
import Derived.Shelf.SlSortCmp.NoneTotal
set_option linter.unusedVariables false
namespace Go.Ab
open Go.Proofs Go.Shelf
set_option maxRecDepth 100000
section
variable {P:Program} {G:Nat→Option (List PV)} {w0:br} {μ:Ro} {φ:Nat→aA} {m:Mem} {w w':World}
def oE:PV→Value
 |.int k n=>.int k n
 |.bool b=>.bool b
 |.str s=>.string ⟨s.toArray⟩
 |_=>.bool false
theorem U0{p:PV}{x:Value}(h:af P μ p x)(hs:Zo p=true):x=oE p∧(∀μ',af P μ' p (oE p))∧(oE p).oneCell'=true:=by
 cases h<;>first|(cases hs;done)|skip
 ·exact⟨rfl,fun _=>.int ‹_›,rfl⟩
 ·exact⟨rfl,fun _=>.bool,rfl⟩
 ·exact⟨rfl,fun _=>.str ‹_›,rfl⟩
theorem av.afF{α:Type}[Inhabited α](kk:Nat)(hk0:0<kk)(enc:α→List Value)(val:α→List PV)(XI:∀x,enc x=(val x).map oE)(Ub:∀x,(val x).length=kk)(zi:∀x,∀p∈val x,af P μ p (oE p)∧(oE p).oneCell'=true)(hM:av P G w0 μ φ m w){id g:Nat}{et:TypeId}{es:List PV}(hm:m id=some (.arr kk et es))(hg:(φ id).g=some g)(mm:Nat)(os:Array Obj)(dk:Array α)(hd:dk.size=es.length):av P G w0 μ φ (ak m id (.arr kk et (eB (dk.toList.map val)))) (sortWorldK enc kk w g 0 mm dk os):=by
 have hA:=hM.dy id _ hm;have hA:aF P μ φ w id kk et es:=hA;obtain⟨a1,a2,a3,a4,a5,a6,a7⟩:=hA;rw[hg]at a7;obtain⟨c,T,c1,c2,c3,c4,c5⟩:=a7;have afG:g<w.heap.size:=(Array.getElem?_eq_some_iff.1 c1).1;obtain⟨F,hF⟩:∃F,F=Go.Sort.flatK enc kk dk:=⟨_,rfl⟩;have hFs:F.size=dk.size*kk:=by rw[hF];simp
 have Ek:∀k,(Go.Sort.putRow _root_.id (Go.Sort.ahead w mm) g 0 F).heap[k]?=if k=g then some (.cells (Go.Sort.putCells _root_.id 0 F c) T (0,0))else w.heap[k]?:=fun k=>by
  unfold Go.Sort.putRow Go.Sort.mapBlock Go.Sort.ahead;simp only[Array.getElem?_modify];by_cases e:g=k
  ·subst e;simp[c1,Go.Sort.onCells]
  ·rw[if_neg e,if_neg fun h=>e h.symm]
 have Qc:(Go.Sort.putCells _root_.id 0 F c).size=c.size:=by simp[Go.Sort.putCells]
 have oR:dk.size*kk≤c.size:=Nat.le_trans (Nat.mul_le_mul_right _ (by omega)) c2;have xB:∀k,k<dk.size*kk→(Go.Sort.putCells _root_.id 0 F c)[k]?=some ((enc dk[k/kk]!)[k%kk]!):=fun k hk=>by
  unfold Go.Sort.putCells;rw[Array.getElem?_mapIdx];have hkc:k<c.size:=by omega
  rw[Array.getElem?_eq_getElem hkc];simp only[Option.map_some,Nat.zero_le,Nat.zero_add,true_and,hFs,hk,if_true,Nat.sub_zero,_root_.id_eq];rw[hF,Go.Sort.get_flatK _ _ _ _ hk]
 have hlen:(eB (dk.toList.map val)).length=es.length:=by simp[eB,hd]
 have er:∀(i:Nat)e,(eB (dk.toList.map val))[i]?=some e→i<dk.size∧e=xg (val dk[i]!):=fun i e he=>by
  simp only[eB,List.map_map,List.getElem?_map,Option.map_eq_some_iff]at he;obtain⟨x,hx,rfl⟩:=he;have hi:i<dk.size:=by have:=(List.getElem?_eq_some_iff.1 hx).1;simpa using this
  refine⟨hi,?_⟩;have:dk[i]! =x:=by rw[getElem!_pos dk i hi];simpa[hi]using hx
  rw[this];rfl
 have hec:∀x:α,∀j,j<kk→∃n,(enc x)[j]! =oE n∧(val x)[j]?=some n∧n∈val x:=fun x j hj=>by
  have I2:j<(val x).length:=by rw[Ub];exact hj
  refine⟨(val x)[j],?_,List.getElem?_eq_getElem I2,List.getElem_mem I2⟩;rw[XI,getElem!_pos _ j (by simpa using I2)];simp
 have h1:av P G w0 μ φ (ak m id (.arr kk et (eB (dk.toList.map val)))) (Go.Sort.putRow _root_.id (Go.Sort.ahead w mm) g 0 F):=by
  refine hM.write hm rfl hg ⟨⟨rfl,rfl,rfl,?_,fun k hk=>?_⟩,?_⟩ ?_ (fun k hk=>?_) ?_ rfl (by simp[bE.names])
  ·simp[Go.Sort.putRow,Go.Sort.mapBlock,Go.Sort.ahead]
  ·rw[Ek k,if_neg (by omega)]
  ·simp[Go.Sort.putRow,Go.Sort.mapBlock,Go.Sort.ahead]
  ·simp[Go.Sort.putRow,Go.Sort.mapBlock,Go.Sort.ahead]
  ·rw[Ek k,if_neg hk]
  ·show aF P μ φ _ id kk et _;refine⟨by rw[a1,hlen],a2,a3,a4,fun i e he=>?_,a6,?_⟩
   ·obtain⟨_,rfl⟩:=er i e he;simp[xg,PV.cells,Ub]
   ·rw[hg];refine⟨_,T,by rw[Ek g,if_pos rfl],by rw[Qc];exact c2,by rw[hlen];exact c3,fun i e j p x he hp hx=>?_,fun i x hi hx=>?_⟩
    ·obtain⟨hi,rfl⟩:=er i e he;simp only[xg,PV.cells]at hp;have hn:=hp;have hj:j<kk:=by have:=(List.getElem?_eq_some_iff.1 hn).1;rw[Ub]at this;exact this
     have bm:i*kk+j<dk.size*kk:=by have:(i+1)*kk≤dk.size*kk:=Nat.mul_le_mul_right _ (by omega);rw[Nat.succ_mul]at this;omega
     rw[xB _ bm]at hx;have e1:(i*kk+j)/kk=i:=by rw[Nat.mul_comm,Nat.mul_add_div hk0,Nat.div_eq_of_lt hj,Nat.add_zero]
     have e2:(i*kk+j)%kk=j:=by rw[Nat.mul_comm,Nat.mul_add_mod,Nat.mod_eq_of_lt hj]
     rw[e1,e2]at hx;obtain⟨n',h1,h2,h3⟩:=hec dk[i]! j hj;rw[h1]at hx;rw[hn]at h2;simp only[Option.some.injEq]at hx h2;subst hx;subst h2;exact(zi _ _ h3).1
    ·rw[hlen,←hd]at hi;rw[xB i hi]at hx;simp only[Option.some.injEq]at hx;subst hx;obtain⟨n',h1,_,h3⟩:=hec dk[i/kk]! (i%kk) (Nat.mod_lt _ hk0);rw[h1];exact(zi _ _ h3).2
 have h2:av P G w0 μ φ (ak m id (.arr kk et (eB (dk.toList.map val)))) (Go.Sort.grow (Go.Sort.putRow _root_.id (Go.Sort.ahead w mm) g 0 F) os):=by
  refine h1.later ?_;refine⟨⟨rfl,rfl,rfl,?_,fun k hk=>?_⟩,fun _=>Nat.le_refl _⟩
  ·simp[Go.Sort.grow]
  ·unfold Go.Sort.grow;rw[Array.getElem?_append_left hk]
 rw[hF]at h2;exact h2
theorem HM{P:Program}{G:Nat→Option (List PV)}{ρr:Ren}(L:SlLaysF0.n6 P ρr){gs:FuncId}(hgs:ρr.f 6=gs)(afH:∃fn c,P.funcs[gs]?=some fn∧fn.body=some c∧(fn.name== "runtime.NumGoroutine")=false){kk:Nat}(aE:∀w,(isAgg (ρr.t 24)).run P w=.ok true w)(zE:∀w,(Go.sizeOf (ρr.t 24)).run P w=.ok kk w){XH:FuncId→Option (List PV→Option PV)}(afI:∀g M,XH g=some M→tX P G g M){R:Type}{args:List V}{f:Fr}{m:Mem}{k:V→Fr→Mem→Option R}{r:R}(h:wZ kk XH R args f m k=some r):HB P G gs args f m k r:=by
 unfold wZ at h;split at h
 ·rename_i id gc caps;split at h
  ·rename_i sz et es hm;split at h
   ·rename_i M hM;split at h
    ·rename_i l0;obtain⟨rfl,gu,hgb⟩:=l0;obtain⟨es',hs,hk⟩:=Option.bind_eq_some_iff.1 h;obtain⟨ns,JT,cf,e1,e2,hf⟩:=Gw hs;obtain⟨⟨fc,cc,fc1,fc2,fc3⟩,hMs⟩:=afI gc M hM;refine⟨afH,fun w0 μ φ ρ w xs hR hF hlen jd BC=>?_⟩;have Ma:∃x0 x1,xs= #[x0,x1]:=by
      obtain⟨l⟩:=xs;match l,hlen with
      |[x0,x1],_=>exact⟨x0,x1,rfl⟩
      |[],h=>simp at h
      |[_],h=>simp at h
      |_::_::_::_,h=>simp at h
     obtain⟨x0,x1,rfl⟩:=Ma;have r0:=jd 0 _ x0 rfl rfl;have r1:=jd 1 _ x1 rfl rfl;have hA:aF P μ φ w id sz et es:=hR.dy id _ hm;have nothing:es=[]→∀p c,x0=.slice p 0 c→Calls P gs #[x0,x1] w fun e w'=>∃v f' m' y μ' φ',k v f' m'=some r∧e=.returned y∧av P G w0 μ' φ' m' w'∧bZ P μ' φ' m' f' ρ∧ae P μ' φ' v y∧∀id,v.has id=true→(m' id).isSome=true:=by
      intro he p c hx;subst hx;have F7:ns=[]:=by
       have:eB ns=[]:=by rw[←e1];exact he
       simpa[eB]using this
      have afJ:JT=[]:=by have:=hf.perm;rw[F7]at this;exact List.Perm.eq_nil this
      rw[e2,afJ]at hk;have hme:ak m id (.arr sz et (eB []))=m:=JU (by rw[hm,he];rfl);rw[hme]at hk;rw[←hgs];refine(AnyF.slices_SortFunc_none L p c x1 w).mono ?_;rintro e w' ⟨rfl,rfl⟩;exact⟨_,_,_,_,μ,φ,hk,rfl,hR,hF,.bt rfl (by simp),fun id hid=>by simp[V.has,cm]at hid⟩
     cases r0 with
     |rL hg=>obtain⟨a1,a2,a3,a4,a5,a6,a7⟩:=hA;rw[hg]at a7;exact nothing a7.1 _ _ rfl
     | @os _ g hg=>
      have xw:=hA;obtain⟨a1,a2,a3,a4,a5,a6,a7⟩:=hA;rw[hg]at a7;obtain⟨c,T,c1,c2,c3,c4,c5⟩:=a7;by_cases Ff:es=[]
      ·refine nothing Ff (some ⟨g,0,none⟩) (φ id).cap ?_;rw[a1,Ff];rfl
      have cB:ns≠[]:=fun h=>Ff (by rw[e1,h];rfl);obtain⟨n0,hn0⟩:=List.exists_mem_of_ne_nil ns cB;cases r1 with
      | @fn _ _ cb agK El=>
       rw[qo hgb];let α:={n:List PV//n∈ns};let _:Inhabited α:=⟨⟨n0,hn0⟩⟩;let enc:α→List Value:=fun x=>x.1.map oE;let cf':α→α→Int:=fun x y=>cf x.1 y.1;let d:Array α:=ns.attach.toArray;have Mv:d.size=ns.length:=by show ns.attach.toArray.size=ns.length;rw[List.size_toArray];exact List.length_attach
       have hdv:d.toList.map (fun x:α=>x.1)=ns:=by show ns.attach.toArray.toList.map (fun x=>x.1)=ns;exact List.attach_map_subtype_val ns
       have hds:d.size=es.length:=by rw[e1,Mv];simp[eB]
       have Ub:∀x:α,x.1.length=sz:=fun x=>hf.len _ x.2;have agL:ns.length*sz≤c.size:=Nat.le_trans (Nat.mul_le_mul_right _ (by rw[←Mv,hds];exact c3)) c2;have Zp:∀(i:Nat)(r:List PV),ns[i]?=some r→∀(j:Nat)n,r[j]?=some n→i*sz+j<c.size∧c[i*sz+j]?=some (oE n)∧(∀μ',af P μ' n (oE n))∧(oE n).oneCell'=true:=fun i r hi j n hj=>by
        have hie:es[i]?=some (xg r):=by rw[e1];simp[eB,hi]
        have hil:i<ns.length:=(List.getElem?_eq_some_iff.1 hi).1;have Al:j<sz:=by have:=(List.getElem?_eq_some_iff.1 hj).1;rw[hf.len _ (List.mem_of_getElem? hi)]at this;exact this
        have bm:i*sz+j<c.size:=by have:(i+1)*sz≤ns.length*sz:=Nat.mul_le_mul_right _ (by omega);rw[Nat.succ_mul]at this;omega
        have:=c4 i _ j n c[i*sz+j] hie (by simp[xg,PV.cells,hj]) (Array.getElem?_eq_getElem bm);rw[Array.getElem?_eq_getElem bm];obtain⟨v1,v2,v3⟩:=U0 this (hf.T5 _ (List.mem_of_getElem? hi) _ (List.mem_of_getElem? hj));exact⟨bm,by rw[v1],v2,v3⟩
       have zi:∀x:α,∀n∈x.1,(∀μ',af P μ' n (oE n))∧(oE n).oneCell'=true:=fun x n hn=>by obtain⟨i,hi⟩:=List.getElem?_of_mem x.2;obtain⟨j,hj⟩:=List.getElem?_of_mem hn;exact(Zp i _ hi j n hj).2.2
       have hH:Go.Sort.HoldsK enc sz w g 0 d:=fun t ht=>by
        have ht:t<d.size*sz:=by simpa using ht
        have hti:t/sz<d.size:=Nat.div_lt_of_lt_mul (by rw[Nat.mul_comm];exact ht);have Tn:t%sz<sz:=Nat.mod_lt _ a4;have hdj:ns[t/sz]?=some d[t/sz]!.1:=by
         rw[getElem!_pos d _ hti];have h7:(d.toList.map (fun x:α=>x.1))[t/sz]?=ns[t/sz]?:=by rw[hdv]
         rw[←h7,List.getElem?_map,Array.getElem?_toList,Array.getElem?_eq_getElem hti];rfl
        have Al:t%sz<d[t/sz]!.1.length:=by rw[Ub];exact Tn
        obtain⟨h1,h2,h3⟩:=Zp _ _ hdj _ _ (List.getElem?_eq_getElem Al);have het:t/sz*sz+t%sz=t:=by rw[Nat.mul_comm];exact Nat.div_add_mod t sz
        rw[het]at h1 h2;have hfl:(Go.Sort.flatK enc sz d)[t]! =oE (d[t/sz]!.1[t%sz]):=by rw[Go.Sort.get_flatK _ _ _ _ ht];show(d[t/sz]!.1.map oE)[t%sz]! =_;rw[getElem!_pos _ _ (by simpa using Al)];simp
        refine⟨?_,?_⟩
        ·rw[hfl];simp only[World.cell?,c1,Nat.zero_add,h2,Option.isSome_none,Bool.false_eq_true,if_false,_root_.id_eq]
        ·simp only[World.frozen?,c1,Nat.zero_add];simp
       have hO:Go.Sort.SWO (ltOf cf'):=by
        refine⟨fun x=>?_,fun x y z h1 h2=>?_,fun x y z h1 h2=>?_⟩
        ·simp only[ltOf,decide_eq_false_iff_not];exact hf.irrefl x.1 x.2
        ·simp only[ltOf,decide_eq_true_eq]at h1 h2⊢;exact hf.trans _ x.2 _ y.2 _ z.2 h1 h2
        ·simp only[ltOf,decide_eq_false_iff_not]at h1 h2⊢;intro h3;by_cases h4:cf y.1 x.1<0
         ·exact h2 (hf.trans _ y.2 _ x.2 _ z.2 h4 h3)
         ·have:=hf.total _ x.2 _ y.2 h1 h4;have h5:x=y:=Subtype.ext this;subst h5;exact h2 h3
       have jT:=fun(mm:Nat)(os:Array Obj)(dk:Array α)(hd:dk.size=d.size)=>av.afF sz a4 enc (fun x=>x.1) (fun _=>rfl) Ub (fun x p hp=>⟨(zi x p hp).1 _,(zi x p hp).2⟩) hR hm hg mm os dk (by rw[hd,hds]);have hrp:∀x:α,af P (fun _=>none) (xg x.1) (.agg (enc x).toArray):=fun x=>by
        refine .agg (by simp[enc]) (fun i p y hp hy=>?_) (fun i y hy=>?_)
        ·have hy:(x.1.map oE).toArray[i]?=some y:=hy;rw[List.getElem?_toArray,List.getElem?_map,hp]at hy;simp only[Option.map_some,Option.some.injEq]at hy;rw[←hy];exact(zi x p (List.mem_of_getElem? hp)).1 _
        ·have hy:(x.1.map oE).toArray[i]?=some y:=hy;rw[List.getElem?_toArray,List.getElem?_map,Option.map_eq_some_iff]at hy;obtain⟨n,hn,rfl⟩:=hy;exact(zi x n (List.mem_of_getElem? hn)).2
       have afK:CmpLays P gc cb enc sz cf' g 0 d.size w:=by
        intro mm os dk hd x y;have hW:=jT mm os dk hd;have hr:=hf.reads (dk.toList.map fun x=>x.1) (by rw[List.length_map,Array.length_toList,hd,Mv]) (fun z hz=>by obtain⟨q,_,rfl⟩:=List.mem_map.1 hz;exact q.2) x.1 x.2 y.1 y.2;obtain⟨ps,nd,hMp⟩:=Option.bind_eq_some_iff.1 hr;obtain⟨p1,p2⟩:=gV nd;refine(hMs _ _ hMp _ (e9 _) _ (fun _ _ h=>h) (fun g cs hg=>(hW.aD g cs hg).mono hW.wP) (by simp;omega) (fun i q z hq hz=>?_)).mono ?_
        ·match i with
         |0=>
          rw[Array.getElem?_append_left (by simp)]at hz;have e3:q=xg x.1:=by simpa using hq.symm
          have e4:z=.agg (enc x).toArray:=by simpa using hz.symm
          rw[e3,e4];exact(hrp x).mono (fun _ _ h=>by cases h)
         |1=>
          rw[Array.getElem?_append_left (by simp)]at hz;have e3:q=xg y.1:=by simpa using hq.symm
          have e4:z=.agg (enc y).toArray:=by simpa using hz.symm
          rw[e3,e4];exact(hrp y).mono (fun _ _ h=>by cases h)
         |i+2=>
          simp only[List.getElem?_cons_succ]at hq;obtain⟨u,hu,vi⟩:=p2 i q hq;have TM:cb[i]?=some z:=by rw[Array.getElem?_append_right (by simp)]at hz;simpa using hz
          exact sU hW hW.wP (fun _ _ _ _ _=>rfl) _ vi (El i u z hu TM)
        ·rintro e w' ⟨v,rfl,hb,hv⟩;cases hv with
         |int _=>exact⟨rfl,U1 hb⟩
       have Z3:g<w.heap.size:=(Array.getElem?_eq_some_iff.1 c1).1;have P0:d.size<4611686018427387904:=by
        have h2:an<4611686018427387904:=by decide
        omega
       have sX:∀x:α,∀v∈enc x,v.oneCell'=true:=fun x v hv=>by obtain⟨n,hn,rfl⟩:=List.mem_map.1 hv;exact(zi x n hn).2
       have zD:=AnyQ.slices_SortFunc L sz aE zE enc (fun x=>by simp[enc,Ub]) sX cf' hO gc cb g 0 (φ id).cap d w (fun a W=>wV fc1 fc3 fc2) afK hH Z3 P0;rw[hgs]at zD;have Ma:Value.slice (some ⟨g,0,none⟩) (φ id).len (φ id).cap=Value.slice (some ⟨g,0,none⟩) d.size (φ id).cap:=by rw[a1,hds]
       rw[Ma];refine zD.mono ?_;rintro e w' ⟨rfl,d',n,os,hp,Xh,rfl⟩;have hW:=jT n os d' hp.1;have ab9:(d'.toList.map fun x=>x.1).Perm ns:=by
        have h3:=hp.2.2;have e3:d'.extract 0 d.size=d':=by rw[←hp.1];exact Array.extract_size
        rw[e3,Array.extract_size]at h3;have h4:=h3.map (fun x:α=>x.1);rw[hdv]at h4;exact h4
       have afL:(d'.toList.map fun x=>x.1).Pairwise fun a b=>¬cf b a<0:=by
        rw[List.pairwise_map,List.pairwise_iff_getElem];intro i j hi hj Hz;have ny:i<d'.size:=by simpa using hi
        have I2:j<d'.size:=by simpa using hj
        have:=Xh i j (Nat.zero_le _) Hz (by rw[←hp.1];exact I2);rw[getElem!_pos d' j I2,getElem!_pos d' i ny]at this;simp only[ltOf,decide_eq_false_iff_not]at this;simpa using this
       have heq:(d'.toList.map fun x=>x.1)=JT:=kA.unique (c1:=cf) (c2:=cf) ⟨hf.len,hf.T5,ab9,hf.reads,hf.irrefl,hf.trans,hf.total,afL⟩ hf;rw[heq,←e2]at hW;exact⟨_,_,_,_,μ,φ,hk,rfl,hW,hF.ml (fun _ _ h=>h) (.set),.bt rfl (by simp),fun id hid=>by simp[V.has,cm]at hid⟩
    ·cases h
   ·cases h
  ·cases h
 ·cases h
end
end Go.Ab
