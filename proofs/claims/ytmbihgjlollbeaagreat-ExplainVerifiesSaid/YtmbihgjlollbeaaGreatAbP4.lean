import Derived.Test.YtmbihgjlollbeaaGreatAbP3
import Derived.WideKeyRuns
import Derived.MapKept
import Derived.RangeFuncRecord
set_option linter.all false
namespace Go.Ab
open Go.RowKit (Below)
section
variable {R:Type} {E:Env}
theorem cells_one{x:Value}(h:x.oneCell'=true):x.cells= #[x]:=by cases x<;>first|rfl|(simp[Value.oneCell']at h)
theorem av.elem{P:Program}{μ:Ro}{n:Nat}{p:PV}{x:Value}(h:av P μ p x)(hl:p.cells.length=n)(hp:p.plain=true):zi P μ n p x:=by
 cases hq:p.isAgg with
 |true=>
  cases p<;>simp[PV.isAgg]at hq;cases h with
  |agg h1 h2 h3=>exact⟨hl,by simp_all[PV.cells,Value.cells],h2,h3⟩
 |false=>
  have hc:p.cells=[p]:=by cases p<;>first|rfl|(simp[PV.isAgg]at hq)
  have h1:x.oneCell'=true:=h.one (fun cs e=>by subst e;simp[PV.isAgg]at hq) (fun cs e=>by subst e;simp[PV.plain]at hp) (fun e=>by subst e;simp[PV.plain]at hp);have hx:=cells_one h1;refine⟨hl,by simp_all,fun j q y hj hy=>?_,fun j y hy=>?_⟩
  ·grind
  grind
variable{t:TypeId}
theorem Ig{z:PV}(h:H5 E t=some z):∃i zv,E.P.info? t=some i∧i.zero=some zv∧i.size=bj E.P t∧(∀μ,av E.P μ z zv)∧∀μ,zi E.P μ (bj E.P t) z zv:=by
 unfold H5 zeroV at h;cases hi:E.P.info? t with
 |none=>simp[hi]at h
 |some i=>
  cases hz:i.zero with
  |none=>simp[hi,hz]at h
  |some zv=>
   simp only[hi,hz,asq,No]at h;split at h
   ·rename_i p hp;split at h
    ·rename_i hc;simp only[cO]at h;subst h;have hr:∀μ,av E.P μ p zv:=fun μ=>Av 2 hp (Ar (φ:=fun _=>default) zv);exact⟨i,zv,rfl,hz,by simp[bj,hi],hr,fun μ=>(hr μ).elem hc.2.1 hc.2.2⟩
    ·cases h
   ·cases h
theorem Ua{z:PV}(h:H5 E t=some z):∃zv,(∀w,(zeroValue t).run E.P w=.ok zv w)∧∀μ,av E.P μ z zv:=by obtain⟨i,zv,h1,h2,h3,h4,_⟩:=Ig h;simp_all[sF]
theorem Cells.made{P:Program}{μ:Ro}{sz:Nat}{z:PV}{zv:Value}(hE:zi P μ sz z zv)(eS:0<sz)(n cap:Nat)(hn:n≤cap):Cells P μ sz (List.replicate n z) ((madeCells zv.cells (cap*sz)).toList.take ((List.replicate n z).length*sz)):=by
 have hle:n*sz≤cap*sz:=asj _ hn;have eR:∀k y,((madeCells zv.cells (cap*sz)).toList.take ((List.replicate n z).length*sz))[k]?=some y→zv.cells[k%sz]?=some y:=by
  intro k y hk;obtain⟨h1,h2⟩:=jH hk;simp only[as7]at h1;have cd:k%sz<zv.cells.size:=by rw[hE.size];exact avi _ eS
  rw[asX,madeCells,Array.getElem?_map,Array.getElem?_range]at h2;rw[IN (by omega)]at h2;simp only[No,cO,hE.size]at h2;simp_all
 refine⟨by rw[asQ,as7,auE,size_madeCells];omega,fun i e hi=>?_,fun i e j p y hi hj hy=>?_,fun k y hk=>hE.one _ y (eR k y hk)⟩
 ·rw[au0]at hi;split at hi
  ·simp only[cO]at hi;subst hi;exact hE.len
  ·cases hi
 ·rw[au0]at hi;split at hi
  ·simp only[cO]at hi;subst hi;have zj:j<sz:=by rw[←hE.len];grind
   have:=eR _ y hy;rw[auo,Nat.mul_add_mod,at5 zj]at this;exact hE.rep j p y hj this
  ·cases hi
theorem Nq{draw:Bool}{site:Nat}{len cap:V}{f:Fr}{m:Mem}{k:V→Fr→Mem→bN→Option R}{r:R}(h:vX E draw site t len cap f m k=some r):∃f' m' b,(draw=true→m site=none∧f'=f∧m'=aD m site b∧∀(f2:Fr)(m2:Mem),m2 site=none→∀(R':Type)(k':V→Fr→Mem→bN→Option R'),vX E true site t len cap f2 m2 k'=k' (.os site) f2 (aD m2 site b) [(true,site)])∧k (.os site) f' m' [(true,site)]=some r∧(m' site).isSome=true∧∀(G:Nat→Option (List PV))(w0:bO)(μ:Ro)(φ:Nat→aP)(w:World)(ρ:Nat→Value)(yl yc:Value),aL E.P G w0 μ φ m w→cp E.P μ φ m f ρ→au E.P μ φ len yl→au E.P μ φ cap yc→∃w' y φ',(Instr.makeSlice t yl yc).run E.P w=.ok y w'∧aL E.P G w0 μ φ' m' w'∧cp E.P μ φ' m' f' ρ∧au E.P μ φ' (.os site) y:=by
 unfold vX at h;split at h
 ·rename_i e ql n qc c hu;split at h
  ·rename_i z hz;split at h
   ·rename_i hb;obtain⟨f',m',_,hk,CA,Fb,Ce⟩:=eM h;refine⟨f',m',.arr (bj E.P e) e (List.replicate n.toNat z),fun hd=>?_,hk,by simp[CA],fun G w0 μ φ w ρ yl yc hM hF hl hc=>?_⟩
    ·simp_all[vX,IN,fresh]
    ·obtain⟨i,zv,h1,h2,h3,_,h4⟩:=Ig hz;obtain⟨hib,_⟩:=Ob h1;have hc1:c.toNat≤140737488355328:=by have:c.toNat*1≤c.toNat*Nf E.P e:=atD _ hb.2.2.2.1;grind [ah]
     cases hl with
     |pv hl=>cases hl with
      |int wl=>
       cases hc with
       |pv hc=>cases hc with
        |int wc=>
         have ai9:(i.bytes:Int)*c≤281474976710656:=by grind [ah,Nf,Int.natCast_mul,Int.toNat_of_nonneg,Int.mul_comm]
         have hr:=run_make (P:=E.P) w t e i zv hu h1 h2 ql qc n c hb.1 hb.2.1 ai9 (by omega);rw[h3]at hr;obtain⟨φ',a1,a2,a3⟩:=Ce E.P G w0 μ φ w _ ρ (JY (some w.heap.size) c.toNat (List.replicate n.toNat z).length (bj E.P e)) hM hF (nA.alloc (o:=.cells (madeCells zv.cells (c.toNat*bj E.P e)) e) hM rfl (fun φ' hp _=>aX.tH (g:=w.heap.size) (by rw[hp]) rfl hb.2.2.2.2 (by rw[hp];simp only[maxLen];omega) (gq w _) (by rw[hp];simp[size_madeCells]) (by rw[hp];simp;omega) (Cells.made (h4 μ) hb.2.2.2.2 _ _ (by omega))) (by simp[bX.names]));refine⟨_,_,φ',hr,a2,a3,?_⟩;have:=au.os (P:=E.P) (μ:=μ) (φ:=φ') (id:=site) (g:=w.heap.size) (by rw[a1]);simp_all
   ·cases h
  ·cases h
 ·cases h
theorem Ub(cells:Array Value)(n:Nat):Builtin.zeroCells cells n=madeCells cells (n*cells.size):=rfl
theorem Z0{x:V}{m:Mem}{k:V→Mem→bN→Option R}{r:R}(h:KH E t x m k=some r):∃id b,(∀m2:Mem,m2 id=m id→∀(R':Type)(k':V→Mem→bN→Option R'),KH E t x m2 k'=k' .top (aD m2 id b) [(true,id)])∧k .top (aD m id b) [(true,id)]=some r∧∀(G:Nat→Option (List PV))(w0:bO)(μ:Ro)(φ:Nat→aP)(w:World)(ρ:Nat→Value)(f:Fr)(yx:Value)(ts:List TypeId)(ty:TypeId),aL E.P G w0 μ φ m w→cp E.P μ φ m f ρ→au E.P μ φ x yx→∃w',(Builtin.clear_ (t::ts).toArray ty #[yx]).run E.P w=.ok (.tuple #[]) w'∧aL E.P G w0 μ φ (aD m id b) w'∧cp E.P μ φ (aD m id b) f ρ:=by
 unfold KH at h;split at h
 ·rename_i e hu;split at h
  ·rename_i id lo len z hz;split at h
   ·rename_i sz et es hm;split at h
    ·rename_i hc;obtain⟨rW,rfl,hle,eS⟩:=hc;refine⟨id,_,fun m2 db R' k'=>?_,h,fun G w0 μ φ w ρ f yx ts ty hM hF hx=>?_⟩
     ·simp_all[KH,IN,trivial]
     ·obtain⟨i,zv,h1,h2,h3,h4,h5⟩:=Ig hz;have hA:aX E.P μ φ w id sz et es:=hM.dX id _ hm;have amI:len=0→aD m id (.arr sz et (es.take lo++(List.replicate len z++es.drop (lo+len))))=m:=by
       intro h0;subst h0;rw[List.replicate_zero,atC,atv,List.take_append_drop];funext j;by_cases ej:j=id
       ·subst ej;simp[hm]
       ·rw[aF ej]
      cases hx with
      |wa hg=>rw[amI rfl];simp_all[Builtin.clear_,run_underlying]
      | @gx _ _ _ cap g a hg hl ha hc1 hc2=>
       by_cases h0:len=0
       ·simp_all[Builtin.clear_,run_underlying]
       ·have vb:=hA.tG;have Oa:=hA.1;have ar4:=hA.2.1;have amJ:a=⟨g,lo*sz,none⟩:=by grind
        subst amJ;obtain⟨c,T,c1,c2,c3,c4,c5⟩:=hA.cells hg;have Ws:zv.cells.size=sz:=by rw[(h5 μ).size,rW]
        have hn:len*zv.cells.size=len*sz:=by rw[Ws]
        have hlen:(madeCells zv.cells (len*sz)).toList.length=len*sz:=by simp[size_madeCells]
        have ZU:(lo+len)*sz≤es.length*sz:=asj _ hle;have yq:(lo+len)*sz=lo*sz+len*sz:=as2 _ _ _;have Bg:=Cells.made (P:=E.P) (μ:=μ) (by rw[←rW]at h5;exact h5 μ) (by omega) len len (ast _);have Au:∀v∈(madeCells zv.cells (len*sz)).toList,v.oneCell'=true:=fun v hv=>by obtain⟨j,hj⟩:=asE hv;refine Bg.one j v ?_;grind
        have uQ:=run_storeCells_at E.P g (lo*sz) T (madeCells zv.cells (len*sz)).toList 0 c w c1 (by omega) Au;rw[hlen,atv]at uQ;have hnl:(es.take lo++(List.replicate len z++es.drop (lo+len))).length=es.length:=by simp;omega
        refine⟨w.setRow g (c.toList.take (lo*sz)++(madeCells zv.cells (len*sz)).toList++c.toList.drop (lo*sz+len*sz)).toArray,?_,hM.write hm rfl hg (nD.setRow (ast _)) setRow_size (fun k hk=>cr hk) ?_ rfl (by simp[bX.names]),hF.pP (fun _ _ h=>h) .set⟩
        ·obtain⟨n',rfl⟩:∃n',len=n'+1:=⟨len-1,by omega⟩;simp_all[Builtin.clear_,run_underlying,sF,Ub]
        ·refine aX.tH (g:=g) ?_ hA.2.2.1 hA.2.2.2.1 vb.2 (setRow_heap w g c _ T (0,0) c1) ?_ (by omega) ?_
         ·rw[hnl,←hA.1,←hA.2.1];cases hq:(φ id).toJk with
          |mk a b c d=>simp_all
         ·grind
         ·rw[hnl];have hM2:Cells E.P μ sz (List.replicate len z) (madeCells zv.cells (len*sz)).toList:=by grind
          have hX:=(c5.take lo).append (hM2.append (c5.drop (lo+len)));have e1:(c.toList.take (lo*sz)++(madeCells zv.cells (len*sz)).toList++c.toList.drop (lo*sz+len*sz)).take (es.length*sz)=(c.toList.take (es.length*sz)).take (lo*sz)++((madeCells zv.cells (len*sz)).toList++(c.toList.take (es.length*sz)).drop ((lo+len)*sz)):=by
           have l1:(c.toList.take (lo*sz)).length=lo*sz:=by grind
           have l2:(c.toList.take (lo*sz)++(madeCells zv.cells (len*sz)).toList).length=lo*sz+len*sz:=by simp_all
           grind [List.take_append,List.take_of_length_le,Nat.min_eq_left,List.drop_take,List.append_assoc]
          rw[e1];omega
    ·cases h
   ·cases h
  ·cases h
 ·cases h
theorem Jq(off:Nat):∀(l:List Value)(k:Nat)(c:Array Value),off+k+l.length≤c.size→(l.zipIdx k).foldl (fun cs(x:Value×Nat)=>cs.setIfInBounds (off+x.2) x.1) c=(bY c.toList (off+k) l).toArray
 |[],k,c,_=>by simp[eu]
 |v::r,k,c,h=>by simp only[List.zipIdx_cons,auD];rw[Jq off r (k+1) _ (by simp at h⊢;omega)];congr 1;have e:=list_seg_step c.toList (off+k) v r (by omega);simp_all[eu,auJ,asW]
theorem Ez{place:Nat→Option (Nat×Nat)}{c:Array Value}{i off size:Nat}{v:Value}{rest:List (Nat×Value)}(hp:place i=some (off,size))(hv:v.cells.size=size)(hb:off+size≤c.size):Instr.fill place c ((i,v)::rest)=Instr.fill place (bY c.toList off v.cells.toList).toArray rest:=by
 have h1:v.cells.zipIdx.foldl (fun cs(x:Value×Nat)=>cs.setIfInBounds (off+x.2) x.1) c=(bY c.toList off v.cells.toList).toArray:=by rw[←Array.foldl_toList,Array.toList_zipIdx];simp_all[Jq]
 simp_all[Instr.fill,IS]
theorem K8{place:Nat→Option (Nat×Nat)}:∀{parts:List (Nat×V)}{cs T5:List V},NM place cs parts=some T5→(∀id,cA id T5=true→cA id cs=true∨cA id (parts.map (·.2))=true)∧T5.length=cs.length∧∀(P:Program)(μ:Ro)(φ:Nat→aP)(c:Array Value)(dF:List (Nat×Value)),dF.length=parts.length→(∀(j i:Nat)v,parts[j]?=some (i,v)→∃y,dF[j]?=some (i,y)∧au P μ φ v y)→c.size=cs.length→(∀(i:Nat)u y,cs[i]?=some u→c[i]?=some y→au P μ φ u y)→(∀(i:Nat)(y:Value),c[i]?=some y→y.oneCell'=true)→∃c',Instr.fill place c dF=some c'∧c'.size=T5.length∧(∀(i:Nat)u y,T5[i]?=some u→c'[i]?=some y→au P μ φ u y)∧(∀(i:Nat)(y:Value),c'[i]?=some y→y.oneCell'=true)
 |[],cs,T5,h=>by simp only[NM,cO]at h;subst h;refine⟨fun id hid=>.inl hid,rfl,fun P μ φ c dF hl _ hs hr h1=>?_⟩;have:dF=[]:=aso (by simpa using hl);subst this;exact⟨c,rfl,hs,hr,h1⟩
 |(i,v)::rest,cs,T5,h=>by
  simp only[NM]at h;split at h
  ·rename_i off size hp;split at h
   ·rename_i new hn;split at h
    ·rename_i hb;obtain⟨n1,n2,n3⟩:=toCells_ok hn;obtain⟨f1,f2,f3⟩:=K8 h;have hlen:(bY cs off new).length=cs.length:=cL (by omega);refine⟨fun id hid=>?_,by rw[f2,hlen],fun P μ φ c dF hl pk hs hr h1=>?_⟩
     ·rcases f1 id hid with h|h
      ·obtain⟨u,hu,hh⟩:=cW.1 h;simp only[eu,asF]at hu;rcases hu with(hu|hu)|hu
       ·exact .inl (bZ (atq hu) hh)
       ·exact .inr (by simp only[ass,cA,asz];exact .inl (n2 id (bZ hu hh)))
       ·exact .inl (bZ (atx hu) hh)
      ·exact .inr (by simp only[ass,cA,asz];exact .inr h)
     ·obtain⟨y,hy,hvy⟩:=pk 0 i v (by simp);cases dF with
      |nil=>simp at hl
      |cons a pK=>
       simp at hy;subst hy;obtain⟨x1,x2,x3⟩:=n3 P μ φ y hvy;rw[Ez hp x1 (by omega)];have oI:off+y.cells.toList.length≤c.toList.length:=by simp;omega
       have e1:y.cells.toList.length=new.length:=by simp;omega
       refine f3 P μ φ _ pK (by simpa using hl) (fun j i' v' hj=>?_) ?_ (fun j u z hu hz=>?_) (fun j z hz=>?_)
       ·have:=pk (j+1) i' v' (by simpa using hj);simpa using this
       ·simp only[atn];rw[cL oI,hlen];simp[hs]
       ·rw[asM]at hz;rcases dE oI hz with⟨b1,b2,b3⟩|⟨b1,b2⟩<;>rcases dE (by omega) hu with⟨d1,d2,d3⟩|⟨d1,d2⟩
        ·exact x2 _ u z d3 (by simpa using b3)
        ·exfalso;omega
        ·exfalso;omega
        ·exact hr j u z d2 (by simpa using b2)
       ·rw[asM]at hz;rcases dE oI hz with⟨b1,b2,b3⟩|⟨b1,b2⟩
        ·exact x3 _ z (by simpa using b3)
        ·exact h1 j z (by simpa using b2)
    ·cases h
   ·cases h
  ·cases h
theorem K9:∀{fs:List Field},fs.all (fun f=>(E.P.info? f.type).isSome)=true→fs.mapM (fun f=>(E.P.info? f.type).map fun i=>(f.offset,i.size))=some (fs.map fun f=>(f.offset,bj E.P f.type))
 |[],_=>rfl
 |f::r,h=>by simp only[au2,amm]at h;obtain⟨i,hi⟩:=asA.1 h.1;simp only[auQ,hi,No,K9 h.2,ass];simp[bj,hi]
theorem Z1{parts:List (Nat×V)}{k:V→Option R}{r:R}(h:H4 E t parts k=some r):∃v,(∀(R':Type)(k':V→Option R'),H4 E t parts k'=k' v)∧k v=some r∧(∀id,v.has id=true→cA id (parts.map (·.2))=true)∧∀(μ:Ro)(φ:Nat→aP)(w:World)(dF:Array (Nat×Value)),dF.size=parts.length→(∀(j i:Nat)v,parts[j]?=some (i,v)→∃y,dF[j]?=some (i,y)∧au E.P μ φ v y)→∃z,(Instr.build t dF).run E.P w=.ok z w∧au E.P μ φ v z:=by
 unfold H4 at h;split at h
 ·rename_i z fs hz hu;split at h
  ·rename_i yr;split at h
   ·rename_i cs hf;obtain⟨i,zv,h1,h2,h3,h4,h5,h6,h7,h8⟩:=fb hz;obtain⟨f1,f2,f3⟩:=K8 hf;refine⟨_,fun R' k'=>by simp_all[H4,IN],h,fun id hid=>?_,fun μ φ w dF hl hp=>?_⟩
    ·grind [V.has,id]
    ·obtain⟨c',c1,c2,c3,c4⟩:=f3 E.P μ φ zv.cells dF.toList (by omega) (fun j i v hj=>by simpa using hp j i v hj) (by omega) (h7 μ φ) h8;refine⟨_,run_build w t dF c' ?_,.agg c2.symm c3 c4⟩;simp only[Program.built,h1,hu,h2,K9 yr];rw[←c1];congr 1;funext j;simp[placesOf]
   ·cases h
  ·cases h
 ·rename_i z n e hz hu;split at h
  ·rename_i eS;split at h
   ·rename_i cs hf;obtain⟨i,zv,h1,h2,h3,h4,h5,h6,h7,h8⟩:=fb hz;obtain⟨f1,f2,f3⟩:=K8 hf;refine⟨_,fun R' k'=>by simp_all[H4,IN],h,fun id hid=>?_,fun μ φ w dF hl hp=>?_⟩
    ·grind [V.has,id]
    ·obtain⟨c',c1,c2,c3,c4⟩:=f3 E.P μ φ zv.cells dF.toList (by omega) (fun j i v hj=>by simpa using hp j i v hj) (by omega) (h7 μ φ) h8;obtain⟨ie,hie,hse⟩:=Es (P:=E.P) (t:=e) (by omega);refine⟨_,run_build w t dF c' ?_,.agg c2.symm c3 c4⟩;simp only[Program.built,h1,hu,h2,hie,hse];omega
   ·cases h
  ·cases h
 ·cases h
theorem zl{n:Nat}{agg:Bool}:∀{parts:List (Nat×V)}{m m':Mem}{i:Nat}{ps:List PV},fP m n agg i parts=some (ps,m')→mh m m'∧ps.length=parts.length∧∀(P:Program)(G:Nat→Option (List PV))(w0:bO)(μ:Ro)(φ:Nat→aP)(w:World)(dF:List (Nat×Value))(es:List PV)(c:Array Value),aL P G w0 μ φ m w→dF.length=parts.length→(∀(j i:Nat)v,parts[j]?=some (i,v)→∃y,dF[j]?=some (i,y)∧au P μ φ v y)→es.length=i→c.size=(i+parts.length)*n→Cells P μ n es (c.toList.take (es.length*n))→∃μ' c',(∀b o,μ b=some o→μ' b=some o)∧aL P G w0 μ' φ m' w∧Instr.fill (fun i=>some (i*n,n)) c dF=some c'∧c'.size=(i+parts.length)*n∧Cells P μ' n (es++ps) c'.toList
 |[],m,m',i,ps,h=>by
  simp only[fP,cO,amn]at h;obtain⟨rfl,rfl⟩:=h;refine⟨.refl _,rfl,fun P G w0 μ φ w dF es c hM hl _ he hc hC=>⟨μ,c,fun _ _ h=>h,hM,?_,hc,?_⟩⟩
  ·have:dF=[]:=aso (by omega);subst this;rfl
  simp_all[atf,asG,ast]
 |(j,v)::r,m,m',i,ps,h=>by
  simp only[fP]at h;split at h
  ·rename_i Uc;subst Uc;split at h
   ·rename_i p m1 hf;split at h
    ·rename_i ps1 m2 hr;simp only[cO,amn]at h;obtain⟨rfl,rfl⟩:=h;obtain⟨a1,a2⟩:=K3 hf;obtain⟨b1,b2,b3⟩:=zl hr;refine⟨a1.trans b1,by simp[b2],fun P G w0 μ φ w dF es c hM hl hp he hc hC=>?_⟩;obtain⟨y,hy,hvy⟩:=hp 0 i v (by simp);cases dF with
     |nil=>simp at hl
     |cons a pK=>
      simp at hy;subst hy;obtain⟨μ1,c1,c2,c3⟩:=a2 P G w0 μ φ w y hM hvy;have oI:i*n+n≤c.size:=by grind
      have hyl:y.cells.toList.length=n:=by simpa using c3.size
      have aim:i*n+y.cells.toList.length≤c.toList.length:=by simp_all
      obtain⟨μ2,c',d1,d2,d3,d4,d5⟩:=b3 P G w0 μ1 φ w pK (es++[p]) (bY c.toList (i*n) y.cells.toList).toArray c2 (by simpa using hl) (fun j i' v' hj=>by
       obtain⟨z,hz1,hz2⟩:=hp (j+1) i' v' (by simpa using hj);exact⟨z,by simpa using hz1,hz2.E3 c1⟩) (by simp[he]) (by
       simp only[atn];rw[cL aim];grind) (by
       have e1:((bY c.toList (i*n) y.cells.toList).toArray.toList.take ((es++[p]).length*n))=c.toList.take (es.length*n)++y.cells.toList:=by simp only[eu,asn,asN,he];exact List.take_left' (by grind)
       rw[e1];refine(hC.mono c1).append ⟨by simp[hyl],fun k e hk=>?_,fun k e l q z hk hl hz=>?_,fun k z hz=>c3.one k z (by simpa using hz)⟩
       ·cases k with
        |zero=>simp at hk;subst hk;exact c3.len
        |succ k=>simp at hk
       ·cases k with
        |zero=>simp at hk;subst hk;exact c3.rep l q z hl (by simpa using hz)
        |succ k=>simp at hk)
      refine⟨μ2,c',fun b o h=>d1 b o (c1 b o h),d2,?_,by grind,by simpa using d5⟩;rw[Ez rfl c3.size oI];omega
    ·cases h
   ·cases h
  ·cases h
theorem Od:∀{parts:List (Nat×V)}{i:Nat}{cs:List V},KG i parts=some cs→cs.length=parts.length∧(∀id,cA id cs=true→cA id (parts.map Prod.snd)=true)∧∀(P:Program)(μ:Ro)(φ:Nat→aP)(dF:List (Nat×Value))(c:Array Value),dF.length=parts.length→(∀(j i:Nat)v,parts[j]?=some (i,v)→∃y,dF[j]?=some (i,y)∧au P μ φ v y)→c.size=i+parts.length→∃c',Instr.fill (fun i=>some (i*1,1)) c dF=some c'∧c'.size=c.size∧(∀j,j<i→c'[j]?=c[j]?)∧∀j u,cs[j]?=some u→∃y,c'[i+j]?=some y∧au P μ φ u y∧y.oneCell'=true
 |[],i,cs,h=>by simp only[KG,cO]at h;subst h;refine⟨rfl,by simp[cA],fun P μ φ dF c hl _ hc=>⟨c,?_,rfl,fun _ _=>rfl,by simp⟩⟩;have:dF=[]:=aso (by omega);subst this;rfl
 |(j,v)::r,i,cs,h=>by
  simp only[KG]at h;split at h
  ·rename_i Uc;subst Uc;split at h
   ·rename_i us0 hf;split at h
    ·rename_i us hr;simp only[cO]at h;subst h;obtain⟨a1,a2,a3⟩:=toCells_ok hf;obtain⟨b1,b2,b3⟩:=Od hr;refine⟨by simp[a1,b1];omega,fun id hid=>?_,fun P μ φ dF c hl hp hc=>?_⟩
     ·obtain⟨u,hu,hh⟩:=cW.1 hid;rcases asF.1 hu with hu|hu
      ·simp only[ass,cA,asz];exact .inl (a2 id (bZ hu hh))
      ·simp only[ass,cA,asz];exact .inr (b2 id (bZ hu hh))
     ·obtain⟨y,hy,hvy⟩:=hp 0 i v (by simp);cases dF with
      |nil=>simp at hl
      |cons a pK=>
       simp at hy;subst hy;obtain⟨c1,c2,c3⟩:=a3 P μ φ y hvy;have oI:i*1+1≤c.size:=by simp at hc;omega
       have hyl:y.cells.toList.length=1:=by omega
       have aim:i*1+y.cells.toList.length≤c.toList.length:=by simp_all
       obtain⟨c',d1,d2,d3,d4⟩:=b3 P μ φ pK (bY c.toList (i*1) y.cells.toList).toArray (by simpa using hl) (fun j i' v' hj=>by
        obtain⟨z,hz1,hz2⟩:=hp (j+1) i' v' (by simpa using hj);simp_all) (by
        grind [List.size_toArray,cL,Array.length_toList,List.length_cons])
       have Ey:∀k,(bY c.toList (i*1) y.cells.toList).toArray[k]?=if k=i then y.cells[0]? else c[k]?:=fun k=>by rw[asM];rw[eu];rw[asD,asH,asQ,as1 (by omega),asH,hyl];grind
       refine⟨c',?_,by simp_all[atn,cL],fun k hk=>?_,fun k u hu=>?_⟩
       ·rw[Ez rfl c1 oI];omega
       ·grind
       ·have h0:us0.length=1:=a1;rw[asH,h0]at hu;split at hu
        ·rename_i hk;have hk0:k=0:=by omega
         subst hk0;have h5:=d3 i (by omega);grind
        grind
    ·cases h
   ·cases h
  ·cases h
end
section
variable {P:Program}
theorem jJ:∀(d:Nat)(t:TypeId)(ks:List Kd),HT P d t=some ks→∀(D:Nat)(w:World)(em:Bool)(ps:List PV),mK ks ps=true→(Instr.checkKey em (D+d) t (fo P t ps)).run P w=.ok () w
 |0,t,ks,h,_,_,_,_,_=>by simp[HT]at h
 |d+1,t,ks,h,D,w,em,ps,hp=>by
  have ih:=jJ d;unfold HT at h;split at h
  ·rename_i q hu;simp only[cO]at h;subst h;have ha:aN P t=false:=by simp[aN,hu]
   obtain⟨p,rfl,hkp⟩:=pO hp;simp_all[Al,fo,valOf,asW,Instr.checkKey,run_underlying]
  ·rename_i hu;simp only[cO]at h;subst h;have ha:aN P t=false:=by simp[aN,hu]
   obtain⟨p,rfl,hkp⟩:=pO hp;simp_all[Al,fo,valOf,asW,Instr.checkKey,run_underlying]
  ·rename_i hu;simp only[cO]at h;subst h;have ha:aN P t=false:=by simp[aN,hu]
   obtain⟨p,rfl,hkp⟩:=pO hp;simp_all[Al,fo,valOf,asW,Instr.checkKey,run_underlying]
  ·rename_i fs hu;split at h
   ·cases h
   ·obtain⟨a,ha,h⟩:=By.1 h;split at h
    ·rename_i hlen;simp only[cO]at h;subst h;have TI:aN P t=true:=by simp[aN,hu]
     simp only[fo,TI,BY,←asW];rw[Instr.checkKey];simp only[Sem.run_bind,run_underlying hu,Result.andThen_ok];rw[←Array.forIn_toList];have key:∀(L:List Field)(off:Nat)(b:List Kd),vU (HT P d) L off=some b→off≤ps.length→mK b (ps.drop off)=true→(forIn L PUnit.unit fun f(_:PUnit)=>(do
       if f.name≠ "_" then Instr.checkKey em (D+d) f.type (←part f.type (ps.map valOf).toArray f.offset)
       pure (ForInStep.yield PUnit.unit):Sem (ForInStep PUnit))).run P w=.ok PUnit.unit w:=by
      intro L;induction L with
      |nil=>simp
      |cons f L ihL=>
       intro off b hb o1 h1;simp only[vU]at hb;split at hb
       ·rename_i hf;obtain⟨c,hc,hb⟩:=By.1 hb;obtain⟨b',ke,hb⟩:=By.1 hb;simp only[cO]at hb;subst hb;rw[wg]at h1;have l1:=vc h1.1;simp only[asQ,auu]at l1;have p1:=mO (w:=w) (ps:=ps) (off:=off) hc (by omega);have p3:=ih f.type c hc D w em _ h1.1;have p4:=ihL (off+c.length) b' ke (by omega) (by simp_all);simp_all
       ·cases hb
     have:=key fs.toList 0 a ha (by simp) (by simpa using hp);simp_all
    ·cases h
  ·rename_i n e hu;obtain⟨a,ha,h⟩:=By.1 h;split at h
   ·rename_i hlen;simp only[cO]at h;subst h;have TI:aN P t=true:=by simp[aN,hu]
    obtain⟨_,_,de,hde⟩:=Eu ha;have rW:(sizeOf e).run P w=.ok a.length w:=by rw[hlen.1];exact Jn hde
    simp only[fo,TI,BY,←asW];rw[Instr.checkKey];simp only[Sem.run_bind,run_underlying hu,Result.andThen_ok];simp only[Std.Legacy.Range.forIn_eq_forIn_range',Std.Legacy.Range.size,au6,Nat.add_one_sub_one,Nat.div_one];have key:∀(k j:Nat),j*a.length≤ps.length→mK (vV a k) (ps.drop (j*a.length))=true→(forIn (List.range' j k) PUnit.unit fun i(_:PUnit)=>(do
      Instr.checkKey em (D+d) e (←part e (ps.map valOf).toArray (i*(←sizeOf e)))
      pure (ForInStep.yield PUnit.unit):Sem (ForInStep PUnit))).run P w=.ok PUnit.unit w:=by
     intro k;induction k with
     |zero=>simp
     |succ k ihk=>
      intro j o1 h1;simp only[vV]at h1;rw[wg]at h1;have l1:=vc h1.1;simp only[asQ,auu]at l1;have p1:=mO (w:=w) (ps:=ps) (off:=j*a.length) ha (by omega);have p3:=ih e a ha D w em _ h1.1;have ej:(j+1)*a.length=j*a.length+a.length:=by rw[as2];omega
      have p4:=ihk (j+1) (by omega) (by simp_all);simp_all[at6,List.forIn_cons,Sem.run_bind,Result.andThen_ok,Sem.run_pure]
    simp_all
   ·cases h
  ·cases h
variable{kt:TypeId}{ks:List Kd}
theorem po{μ:Ro}{k:PV}{y:Value}(h:B0 P kt ks k=true)(hy:av P μ k y):mK ks k.cells=true∧y=fo P kt k.cells:=by
 simp only[B0,amm,beq_iff_eq]at h;refine⟨h.1,?_⟩;cases hq:k.isAgg with
 |true=>
  cases k<;>simp[PV.isAgg]at hq;cases hy with
  |agg h1 h2 h3=>have:=zf h.1 h1.symm h2;grind [fo,PV.isAgg,PV.cells]
 |false=>
  have hc:k.cells=[k]:=by cases k<;>first|rfl|(simp[PV.isAgg]at hq)
  have h1:=h.1;rw[hc]at h1;cases ks with
  |nil=>simp[mK]at h1
  |cons kd r=>simp only[mK,amm]at h1;grind [N3,fo]
theorem Pz:∀{ks:List Kd}{ps qs:List PV},mK ks ps=true→mK ks qs=true→cz ps qs=true→ps=qs
 |[],[],[],_,_,_=>rfl
 |k::ks,p::ps,q::qs,h1,h2,h3=>by
  simp only[mK,amm]at h1 h2;simp only[cz,amm]at h3;rw[Pz h1.2 h2.2 h3.2];have:p=q:=by cases k<;>cases p<;>simp[Al]at h1<;>cases q<;>simp[Al]at h2<;>simp[peq]at h3<;>simp_all
  rw[this]
 |[],p::ps,_,h,_,_=>by simp[mK]at h
 |k::ks,[],_,h,_,_=>by simp[mK]at h
 |[],[],q::qs,_,h,_=>by simp[mK]at h
 |k::ks,p::ps,[],_,h,_=>by simp[mK]at h
structure CO(P:Program)(μ:Ro)(kt:TypeId)(ks:List Kd)(l:List (PV×PV))(es:List MapEntry):Prop where
 len:es.length=l.length
 key:∀(i:Nat)k v,l[i]?=some (k,v)→B0 P kt ks k=true
 rep:∀(i:Nat)k v e,l[i]?=some (k,v)→es[i]?=some e→av P μ k e.key∧av P μ v e.val
variable{l:List (PV×PV)}{es:List MapEntry}
theorem CO.tail{μ:Ro}{x:PV×PV}{e:MapEntry}(h:CO P μ kt ks (x::l) (e::es)):CO P μ kt ks l es:=⟨by simpa using h.len,fun i k v hi=>h.key (i+1) k v (by simpa using hi),fun i k v e hi he=>h.rep (i+1) k v e (by simpa using hi) (by simpa using he)⟩
inductive Found(k v:PV)(z:PV)(l:List (PV×PV))(es:List MapEntry)(i:Nat):Option (Nat×Value)→Prop
 |none:yj k l=false→cB k z l=z→dJ k v l=l++[(k,v)]→Found k v z l es i none
 |some {j:Nat} {a u:PV} {e:MapEntry}:l[j]?=some (a,u)→es[j]?=some e→cz k.cells a.cells=true→yj k l=true→cB k z l=u→dJ k v l=l.set j (k,v)→Found k v z l es i (some (i+j,e.val))
theorem Found.cons{k v z:PV}{x:PV×PV}{l:List (PV×PV)}{e:MapEntry}{es:List MapEntry}{i:Nat}{r:Option (Nat×Value)}(hx:cz k.cells x.1.cells=false)(h:Found k v z l es (i+1) r):Found k v z (x::l) (e::es) i r:=by
 obtain⟨a,u⟩:=x;cases h with
 |none h1 h2 h3=>exact .none (by simpa[yj,hx]using h1) (by simpa[cB,hx]using h2) (by simpa[dJ,hx]using h3)
 | @some j a' u' e' h1 h2 h3 h4 h5 h6=>have:=Found.some (k:=k) (v:=v) (z:=z) (l:=(a,u)::l) (es:=e::es) (i:=i) (j:=j+1) (a:=a') (u:=u') (e:=e') (by simpa using h1) (by simpa using h2) h3 (by simpa[yj,hx]using h4) (by simpa[cB,hx]using h5) (by simpa[dJ,hx]using h6);grind
theorem Found.here{k v z:PV}{a u:PV}{e:MapEntry}{i:Nat}(hx:cz k.cells a.cells=true):Found k v z ((a,u)::l) (e::es) i (Option.some (i,e.val)):=by have:=Found.some (k:=k) (v:=v) (z:=z) (l:=(a,u)::l) (es:=e::es) (i:=i) (j:=0) (a:=a) (u:=u) (e:=e) (by simp) (by simp) hx (by simp[yj,hx]) (by simp[cB,hx]) (by simp[dJ,hx]);omega
theorem wu{μ:Ro}{kt:TypeId}{ks:List Kd}{k v z:PV}(hk:HT P 8 kt=some ks)(B5:mK ks k.cells=true)(w:World):∀(l:List (PV×PV))(es:List MapEntry)(i:Nat),CO P μ kt ks l es→∃r,(Instr.findAsking kt (fo P kt k.cells) es i).run P w=.ok r w∧Found k v z l es i r
 |[],es,i,h=>by have:es=[]:=aso (by simpa using h.len);subst this;exact⟨none,by rfl,.none rfl rfl rfl⟩
 |(a,u)::l,es,i,h=>by
  cases es with
  |nil=>have:=h.len;simp at this
  |cons e es=>
   have hka:=h.key 0 a u (by simp);obtain⟨h1,h2⟩:=po hka (h.rep 0 a u e (by simp) (by simp)).1;have he:(Op.equal kt (fo P kt k.cells) e.key).run P w=.ok (cz k.cells a.cells) w:=by rw[h2];exact tW 8 kt ks hk 9992 w _ _ B5 h1
   cases hp:cz k.cells a.cells with
   |true=>exact⟨some (i,e.val),by simp[Instr.findAsking,he,hp],.here hp⟩
   |false=>obtain⟨r,r1,r2⟩:=wu (v:=v) (z:=z) hk B5 w l es (i+1) h.tail;exact⟨r,by simp[Instr.findAsking,he,hp,r1],r2.cons hp⟩
theorem Jr{μ:Ro}{kt:TypeId}{d:TypeDesc}{ks:List Kd}{k v z:PV}(hu:P.underlying kt=some d)(ha:aN P kt=false)(hk:HT P 8 kt=some ks)(B5:mK ks k.cells=true):∀(l:List (PV×PV))(es:List MapEntry)(i:Nat),CO P μ kt ks l es→∃r,Instr.findNow d (fo P kt k.cells) es i=some r∧Found k v z l es i r
 |[],es,i,h=>by have:es=[]:=aso (by simpa using h.len);subst this;exact⟨none,by rfl,.none rfl rfl rfl⟩
 |(a,u)::l,es,i,h=>by
  cases es with
  |nil=>have:=h.len;simp at this
  |cons e es=>
   have hka:=h.key 0 a u (by simp);obtain⟨h1,h2⟩:=po hka (h.rep 0 a u e (by simp) (by simp)).1;have he:Instr.sameNow d (fo P kt k.cells) e.key=some (cz k.cells a.cells):=by
    rw[h2];have sG:=hk;unfold HT at sG;rw[hu]at sG;cases d<;>simp at sG<;>try (simp[aN,hu]at ha;done)
    all_goals subst sG;obtain⟨p,hp1,hp2⟩:=pO B5;obtain⟨q,hq1,hq2⟩:=pO h1;rw[hp1,hq1];cases p<;>simp[Al]at hp2;cases q<;>simp[Al]at hq2;simp_all[fo,valOf,Instr.sameNow,cz,peq]
    all_goals (rw[asS,Go.MapKept.bytes_beq];simp_all)
   cases hp:cz k.cells a.cells with
   |true=>exact⟨some (i,e.val),by simp[Instr.findNow,he,hp],.here hp⟩
   |false=>obtain⟨r,r1,r2⟩:=Jr (v:=v) (z:=z) hu ha hk B5 l es (i+1) h.tail;exact⟨r,by simp[Instr.findNow,he,hp,r1],r2.cons hp⟩
theorem ob{μ:Ro}{k v z:PV}(hk:HT P 8 kt=some ks)(B5:mK ks k.cells=true)(w:World)(h:CO P μ kt ks l es):∃r,(Instr.findKey kt (fo P kt k.cells) es).run P w=.ok r w∧Found k v z l es 0 r:=by
 obtain⟨_,_,d,hu⟩:=Eu hk;cases ha:aN P kt with
 |true=>rw[run_findKey_eq w (by grind [aN])];exact wu hk B5 w l es 0 h
 |false=>obtain⟨r,r1,r2⟩:=Jr (v:=v) (z:=z) hu ha hk B5 l es 0 h;simp_all[Go.MapKept.run_findKey]
end
section
variable {R:Type} {E:Env}
variable{P:Program}{t:TypeId}{ks:List Kd}
theorem EA(h:yy P t=some ks):HT P 8 t=some ks:=by simp_all[yy]
variable{kt:TypeId}
theorem Ay{v:V}{key:PV}(h:keyOf E kt v=some key):∃ks,yy E.P kt=some ks∧B0 E.P kt ks key=true∧∀(μ:Ro)(φ:Nat→aP)(y:Value),au E.P μ φ v y→av E.P μ key y:=by
 unfold keyOf at h;split at h
 ·rename_i ks hks;refine⟨ks,hks,?_⟩;split at h
  ·rename_i ha;split at h
   ·rename_i cs hc;split at h
    ·rename_i ps hp;split at h
     ·rename_i Wk;simp only[cO]at h;subst h;obtain⟨_,c2⟩:=tF hc;obtain⟨p1,p2⟩:=iZ hp;refine⟨by simp_all[B0,PV.cells,PV.isAgg],fun μ φ y hy=>?_⟩;obtain⟨xs,rfl,h1,h2,h3⟩:=c2 E.P μ φ y hy;refine .agg (by omega) (fun i q z hq hz=>?_) h3;grind [Av]
     ·cases h
    ·cases h
   ·cases h
  ·rename_i ha;split at h
   ·rename_i p;split at h
    ·rename_i Wk;simp only[cO]at h;subst h;refine⟨?_,fun μ φ y hy=>by cases hy with|pv hy=>omega⟩;cases ks with
     |nil=>simp[mK]at Wk
     |cons kd r=>
      have amK:=Wk;simp only[mK,amm]at amK;have ha':aN E.P kt=false:=by simpa using ha
      cases kd<;>cases p<;>simp[Al]at amK<;>simp_all[B0,PV.cells,PV.isAgg]
    ·cases h
   ·cases h
 ·cases h
variable{en:Array MapEntry}
theorem oG.push{clock:Nat}(h:oG en clock){k v:Value}:oG (en.push {key:=k,val:=v,born:=clock}) (clock+1):=by
 intro i e hi;rw[auz]at hi;split at hi
 ·rename_i e1;simp only[cO]at hi;subst hi;refine⟨Nat.lt_succ_self _,fun j e' hj hb=>?_⟩;rw[auz]at hj;split at hj
  ·omega
  ·have:=(h j e' hj).1;simp_all
 ·obtain⟨h1,h2⟩:=h i e hi;grind
theorem oG.modify{en:Array MapEntry}{clock:Nat}(h:oG en clock)(f:MapEntry→MapEntry)(hf:∀e,(f e).born=e.born)(k:Nat):oG (en.modify k f) clock:=by
 have key:∀(i:Nat)e,(en.modify k f)[i]?=some e→∃e0,en[i]?=some e0∧e.born=e0.born:=fun i e hi=>by grind
 intro i e hi;obtain⟨e0,h0,hb0⟩:=key i e hi;obtain⟨h1,h2⟩:=h i e0 h0;grind
inductive ach(w:World):Value→Array MapEntry→Prop
 |nil:ach w (.map none) #[]
 |at{g clock:Nat} {en:Array MapEntry}:w.heap[g]?=some (.map en clock)→ach w (.map (some g)) en
theorem wv{μ:Ro}{et:TypeId}{key z:PV}{zv y yi:Value}{w:World}{l:List (PV×PV)}{ok:Bool}(hu:P.underlying t=some (.map kt et))(hk:yy P kt=some ks)(Cf:B0 P kt ks key=true)(hyi:av P μ key yi)(hy:ach w y en)(hE:CO P μ kt ks l en.toList)(hz:(zeroValue et).run P w=.ok zv w)(hzr:av P μ z zv):∃v,(Instr.lookup t y yi ok).run P w=.ok (if ok then .tuple #[v,.bool (yj key l)]else v) w∧av P μ (cB key z l) v:=by
 have Z2:=EA hk;obtain⟨hc,hv⟩:=po Cf hyi;obtain⟨r,r1,r2⟩:=ob (v:=.bad) (z:=z) Z2 hc w hE;have h1:=jJ 8 kt ks Z2 9992 w en.isEmpty key.cells hc;rw[hv];have zd:∀(x:Value×Bool),(r=none→x=(zv,false))→(∀j v,r=some (j,v)→x=(v,true))→(Instr.lookup t y (fo P kt key.cells) ok).run P w=.ok (if ok then .tuple #[x.1,.bool x.2]else x.1) w:=by
  intro x hx1 hx2;cases hy with
  |nil=>
   have h1':(Instr.checkKey true 10000 kt (fo P kt key.cells)).run P w=.ok () w:=h1;have r1':(Instr.findKey kt (fo P kt key.cells) []).run P w=.ok r w:=r1;unfold Instr.lookup;simp only[Sem.run_bind,run_underlying hu,Result.andThen_ok,Sem.run_pure];cases r with
   |none=>simp_all
   |some jv=>obtain⟨j,v⟩:=jv;simp_all
  | «at» hg=>
   have Nn:=Go.MapKept.run_getObj_map (P:=P) hg;have h1':(Instr.checkKey en.isEmpty 10000 kt (fo P kt key.cells)).run P w=.ok () w:=h1;unfold Instr.lookup;simp only[Sem.run_bind,run_underlying hu,Result.andThen_ok,Sem.run_pure,Nn];cases r with
   |none=>simp_all
   |some jv=>obtain⟨j,v⟩:=jv;simp_all
 cases r2 with
 |none f1 f2 f3=>grind
 | @some j a u e f1 f2 f3 f4 f5 f6=>refine⟨e.val,?_,by rw[f5];exact(hE.rep j a u e f1 f2).2⟩;simp_all
variable{m:Mem}
theorem Ud{x ix:V}{ok:Bool}{k:V→bN→Option R}{r:R}(h:A7 E t x ix ok m k=some r):∃v ft,(∀m2:Mem,(∀x∈ft,m2 x.2=m x.2)→∀(R':Type)(k':V→bN→Option R'),A7 E t x ix ok m2 k'=k' v ft)∧k v ft=some r∧(∀x∈ft,x.1=false)∧(∀id,v.has id=false)∧∀(G:Nat→Option (List PV))(w0:bO)(μ:Ro)(φ:Nat→aP)(w:World)(y yi:Value),aL E.P G w0 μ φ m w→au E.P μ φ x y→au E.P μ φ ix yi→∃u,(Instr.lookup t y yi ok).run E.P w=.ok u w∧au E.P μ φ v u:=by
 have out:∀(q:PV)(b:Bool)(id:Nat),(if ok=true then V.aG [.pv q,.pv (.bool b)]else .pv q).has id=false:=by grind [id,V.has,cA]
 have rep:∀(μ:Ro)(φ:Nat→aP)(q:PV)(b:Bool)(v:Value),av E.P μ q v→au E.P μ φ (if ok=true then V.aG [.pv q,.pv (.bool b)]else .pv q) (if ok=true then .tuple #[v,.bool b]else v):=by
  intro μ φ q b v hv;cases ok with
  |false=>exact .pv hv
  |true=>
   refine .aG (by simp) fun i p y hp hy=>?_;match i with
   |0=>simp at hp hy;subst hp;subst hy;exact .pv hv
   |1=>simp at hp hy;subst hp;subst hy;exact .pv .bool
   |n+2=>simp at hp
 unfold A7 at h;split at h
 ·rename_i kt et hu;split at h
  ·rename_i z hz;obtain⟨zv,hz1,hz2⟩:=Ua hz;split at h
   ·rename_i id;split at h
    ·rename_i Cx es hm;split at h
     ·rename_i hkt;subst hkt;obtain⟨key,Cf,h⟩:=By.1 h;obtain⟨q,q1,q2,q3,_⟩:=nZ h;obtain⟨ks,k1,k2,k3⟩:=Ay Cf;refine⟨_,_,fun m2 db R' k'=>by have:=db (false,id) (by simp);simp_all[A7,asq,BY],q2,by simp,out q _,fun G w0 μ φ w y yi hM hx hi=>?_⟩;obtain⟨g,en,clock,kk,hg,hh,hs,hk,Wk,_,hv⟩:=hM.dX id _ hm;rw[k1]at hk;simp only[cO]at hk;subst hk;cases hx with
      |om du=>rw[hg]at du;simp only[cO]at du;subst du;obtain⟨v,v1,v2⟩:=wv (ok:=ok) (z:=z) hu k1 k2 (k3 μ φ yi hi) (.at hh) (l:=es) ⟨by omega,Wk,fun i k v e h1 h2=>hv i k v e h1 (by simpa using h2)⟩ (hz1 w) (hz2 μ);exact⟨_,v1,rep μ φ q _ v (q3 _ _ _ v2)⟩
     ·cases h
    ·cases h
   ·rename_i pm;unfold da at h;split at h
    ·obtain⟨key,Cf,h⟩:=By.1 h;obtain⟨ks,k1,k2,k3⟩:=Ay Cf;refine⟨_,_,fun m2 db R' k'=>by simp_all[A7,da,asq],h,by simp,out z _,fun G w0 μ φ w y yi hM hx hi=>?_⟩;cases hx with
     |pv hx=>cases hx with
      |A3=>obtain⟨v,v1,v2⟩:=wv (ok:=ok) (z:=z) hu k1 k2 (k3 μ φ yi hi) .nil (l:=[]) ⟨by simp,by simp,by simp⟩ (hz1 w) (hz2 μ);exact⟨_,v1,rep μ φ z _ v v2⟩
    ·rename_i Cx ks' vs';split at h
     ·rename_i hkt;subst hkt;obtain⟨key,Cf,h⟩:=By.1 h;obtain⟨q,q1,q2,q3,_⟩:=nZ h;obtain⟨ks,k1,k2,k3⟩:=Ay Cf;refine⟨_,_,fun m2 db R' k'=>by simp_all[A7,da,asq,BY],q2,by simp,out q _,fun G w0 μ φ w y yi hM hx hi=>?_⟩;cases hx with
      |pv hx=>cases hx with
       | @rm _ _ _ b clock en kk m1 m2 m3 m4 m5 m6 m7=>
        rw[k1]at m4;simp only[cO]at m4;subst m4;have aja:∀(i:Nat)k v,(ks'.zip vs')[i]?=some (k,v)→ks'[i]?=some k∧vs'[i]?=some v:=fun i k v h=>by grind
        obtain⟨v,v1,v2⟩:=wv (ok:=ok) (z:=z) hu k1 k2 (k3 μ φ yi hi) (.at (hM.ro _ _ m1)) (l:=ks'.zip vs') ⟨by simp[m2,m3],fun i k v h=>m5 i k (aja i k v h).1,fun i k v e h1 h2=>⟨m6 i k e (aja i k v h1).1 (by simpa using h2),m7 i v e (aja i k v h1).2 (by simpa using h2)⟩⟩ (hz1 w) (hz2 μ);exact⟨_,v1,rep μ φ q _ v (q3 _ _ _ v2)⟩
     ·cases h
    ·cases h
   ·cases h
  ·cases h
 ·cases h
variable{m':Mem}
theorem Oe{v:V}{p:PV}(h:A4 m v=some (p,m')):mh m m'∧∀(P:Program)(G:Nat→Option (List PV))(w0:bO)(μ:Ro)(φ:Nat→aP)(w:World)(x:Value),aL P G w0 μ φ m w→au P μ φ v x→∃μ',(∀b o,μ b=some o→μ' b=some o)∧aL P G w0 μ' φ m' w∧av P μ' p x:=by
 unfold A4 at h;split at h
 ·rename_i cs;split at h
  ·rename_i ps m1 hf;simp only[cO,amn]at h;obtain⟨rfl,rfl⟩:=h;obtain⟨f1,f2,f3⟩:=K2 hf;refine⟨f1,fun P G w0 μ φ w x hM hx=>?_⟩;cases hx with
   | @agg _ xs h1 h2 h3=>
    have hX:∀(i:Nat),i<cs.length→xs[i]?=some (xs.getD i undef):=fun i hi=>by simp_all
    obtain⟨μ',e1,e2,e3⟩:=f3 P G w0 μ φ w (fun i=>xs.getD i undef) hM fun i u hu=>h2 i u _ hu (hX i (OF.1 hu).1);refine⟨μ',e1,e2,.agg (by omega) (fun j q y hq hy=>?_) h3⟩;grind
  ·cases h
 ·exact Wq h
theorem Js{v:V}{p:PV}(h:A4 dq v=some (p,m')):∀(P:Program)(μ:Ro)(φ:Nat→aP)(x:Value),au P μ φ v x→av P μ p x:=by
 unfold A4 at h;split at h
 ·rename_i cs;split at h
  ·rename_i ps m1 hf;simp only[cO,amn]at h;obtain⟨rfl,rfl⟩:=h;obtain⟨f2,f3⟩:=FJ hf;intro P μ φ x hx;cases hx with
   | @agg _ xs h1 h2 h3=>
    have hX:∀(i:Nat),i<cs.length→xs[i]?=some (xs.getD i undef):=fun i hi=>by simp_all
    have e3:=f3 P μ φ (fun i=>xs.getD i undef) fun i u hu=>h2 i u _ hu (hX i (OF.1 hu).1);refine .agg (by omega) (fun j q y hq hy=>?_) h3;grind
  ·cases h
 ·exact N7 h
theorem Ue{draw:Bool}{v:V}{p:PV}(h:GM draw m v=some (p,m')):mh m m'∧(draw=true→m'=m∧∀m2:Mem,GM true m2 v=some (p,m2))∧∀(P:Program)(G:Nat→Option (List PV))(w0:bO)(μ:Ro)(φ:Nat→aP)(w:World)(x:Value),aL P G w0 μ φ m w→au P μ φ v x→∃μ',(∀b o,μ b=some o→μ' b=some o)∧aL P G w0 μ' φ m' w∧av P μ' p x:=by
 unfold GM at h;split at h
 ·rename_i hd;split at h
  ·rename_i q m1 hf;simp only[cO,amn]at h;obtain⟨rfl,rfl⟩:=h;exact⟨.refl _,fun _=>⟨rfl,fun m2=>by simp[GM,hf]⟩,fun P G w0 μ φ w x hM hx=>⟨μ,fun _ _ h=>h,hM,Js hf P μ φ x hx⟩⟩
  ·cases h
 grind [Oe,absurd]
theorem Fc:∀{ps:List PV},mK ks ps=true→∀(n:Nat),(ps.map valOf).all (fun v=>Instr.sameBits n v v)=true:=by
 induction ks with
 |nil=>intro ps h n;cases ps<;>simp[mK]at h;rfl
 |cons k ks ih=>
  intro ps h n;cases ps with
  |nil=>rfl
  |cons p ps=>simp only[mK,amm]at h;simp only[ass,au2,ih h.2 n,atc];cases k<;>cases p<;>simp[Al]at h<;>simp[valOf,Instr.sameBits,Go.MapKept.bytes_beq]
theorem CP{ps:List PV}(h:mK ks ps=true)(hl:aN P t=false→ps.length=1)(n:Nat):Instr.sameBits (n+1) (fo P t ps) (fo P t ps)=true:=by
 unfold fo;cases ha:aN P t with
 |true=>have:=Fc h n;simp only[BY,Instr.sameBits,BEq.rfl,as0];grind
 |false=>
  have h1:=hl ha;match ps,h1 with
  |[p],_=>have:=Fc h (n+1);simpa using this
theorem Fe{draw:Bool}{x key val:V}{k:Mem→bN→Option R}{r:R}(h:rV E draw t x key val m k=some r):∃m' ft,k m' ft=some r∧(draw=true→∃id b,m'=aD m id b∧ft=[(true,id)]∧∀m2:Mem,m2 id=m id→∀(R':Type)(k':Mem→bN→Option R'),rV E true t x key val m2 k'=k' (aD m2 id b) [(true,id)])∧mh m m'∧∀(G:Nat→Option (List PV))(w0:bO)(μ:Ro)(φ:Nat→aP)(w:World)(ya yk yv:Value),aL E.P G w0 μ φ m w→au E.P μ φ x ya→au E.P μ φ key yk→au E.P μ φ val yv→∃w' μ',(Instr.mapUpdate t ya yk yv).run E.P w=.ok () w'∧(∀b o,μ b=some o→μ' b=some o)∧aL E.P G w0 μ' φ m' w':=by
 unfold rV at h;split at h
 ·rename_i kt et hu;split at h
  ·rename_i id;split at h
   ·rename_i v m1 hf;obtain⟨f1,f2,f3⟩:=Ue hf;split at h
    ·rename_i Cx es hm;split at h
     ·rename_i hkt;subst hkt;obtain⟨kp,Cf,h⟩:=By.1 h;obtain⟨ks,k1,k2,k3⟩:=Ay Cf;refine⟨_,_,h,fun hd=>?_,f1.trans .set,fun G w0 μ φ w ya yk yv hM hx hk hv=>?_⟩
      ·obtain⟨rfl,f4⟩:=f2 hd;exact⟨id,_,rfl,rfl,fun m2 db R' k'=>by simp_all[rV,asq,BY]⟩
      ·obtain⟨μ',g1,g2,g3⟩:=f3 _ _ _ _ _ _ _ hM hv;obtain⟨g,en,clock,kk,hg,hh,hs,B5,Wk,Cy,nC⟩:=g2.dX id _ hm;rw[k1]at B5;simp only[cO]at B5;subst B5;have Z2:=EA k1;have hkr:=(k3 μ φ yk hk).mono g1;obtain⟨hc,hkv⟩:=po k2 hkr;have hE:CO E.P μ' Cx ks es en.toList:=⟨by omega,Wk,fun i k v e h1 h2=>nC i k v e h1 (by simpa using h2)⟩;obtain⟨res,r1,r2⟩:=ob (v:=v) (z:=.bad) Z2 hc w hE;have Nn:=Go.MapKept.run_getObj_map (P:=E.P) hh;have h1:(Instr.checkKey false 10000 Cx yk).run E.P w=.ok () w:=by rw[hkv];exact jJ 8 Cx ks Z2 9992 w false kp.cells hc
       rw[←hkv]at r1;have cd:g<w.heap.size:=(apj.1 hh).1;cases hx with
       |om du=>
        rw[hg]at du;simp only[cO]at du;subst du;have fin:∀(o:Obj)(TM:Array MapEntry)(tY:Nat),o=.map TM tY→(Instr.mapUpdate t (.map (some g)) yk yv).run E.P w=.ok () {w with heap:=w.heap.setIfInBounds g o}→oG TM tY→CO E.P μ' Cx ks (dJ kp v es) TM.toList→∃w' μ',(Instr.mapUpdate t (.map (some g)) yk yv).run E.P w=.ok () w'∧(∀b o,μ b=some o→μ' b=some o)∧aL E.P G w0 μ' φ (aD m1 id (.map Cx (dJ kp v es))) w':=by rintro o TM tY rfl hr apT hE';refine⟨_,μ',hr,g1,g2.write hm rfl hg ⟨⟨rfl,rfl,rfl,by simp,fun k hk=>by grind⟩,fun _=>ast _⟩ (by simp) (fun k hk=>by grind) ?_ rfl (by simp[bX.names])⟩;exact⟨g,TM,tY,ks,hg,by simp[cd],by simpa using hE'.len,k1,hE'.key,apT,fun i k v e h1 h2=>hE'.rep i k v e h1 (by simpa using h2)⟩
        cases r2 with
        |none e1 e2 e3=>
         have Z3:=Go.MapKept.run_setObj_map (P:=E.P) (.map (en.push {key:=yk,val:=yv,born:=clock}) (clock+1)) hh;refine fin _ _ _ rfl (by simp only[Instr.mapUpdate,Sem.run_bind,run_underlying hu,Nn,h1,r1,Result.andThen_ok];exact Z3) Cy.push ?_;rw[e3];have eR:∀(i:Nat)k' v' e,(es++[(kp,v)])[i]?=some (k',v')→(en.push {key:=yk,val:=yv,born:=clock}).toList[i]?=some e→(es[i]?=some (k',v')∧en.toList[i]?=some e)∨(k'=kp∧v'=v∧e.key=yk∧e.val=yv):=by grind
         refine⟨by simp[hs],fun i k' v' h=>?_,fun i k' v' e h1 h2=>?_⟩
         ·grind
         grind
        | @some j a u e e1 e2 e3 e4 e5 e6=>
         have e2':en[j]?=some e:=by simpa using e2
         obtain⟨hca,hva⟩:=po (Wk j a u e1) (nC j a u e e1 e2').1;have Bh:=Pz hc hca e3;have hsb:Instr.sameBits 10000 e.key yk=true:=by rw[hva,hkv,←Bh];refine CP (n:=9999) hc (fun ha=>?_);rw[vc hc];exact(Eu Z2).2.1 ha
         have Z3:=Go.MapKept.run_setObj_map (P:=E.P) (.map (en.modify j fun e=>{e with key:=yk,val:=yv}) clock) hh;have zj:j<en.size:=(apj.1 e2').1;refine fin _ _ _ rfl (by simp only[Instr.mapUpdate,Sem.run_bind,run_underlying hu,Nn,h1,r1,Result.andThen_ok];simp only[as5,e2',No,atk,Instr.keyThatStays,hsb,BY,Sem.run_pure,Result.andThen_ok];exact Z3) (Cy.modify (fun e=>{e with key:=yk,val:=yv}) (fun _=>rfl) _) ?_;rw[e6];have rX:∀(i:Nat)k' v',(es.set j (kp,v))[i]?=some (k',v')→(i=j∧k'=kp∧v'=v)∨(i≠j∧es[i]?=some (k',v')):=by grind
         refine⟨by simp[hs],fun i k' v' h=>?_,fun i k' v' e' h1 h2=>?_⟩
         ·grind
         grind
     ·cases h
    ·cases h
   ·cases h
  ·cases h
 ·cases h
theorem Rn{μ:Ro}{φ:Nat→aP}{w:World}{site:Nat}(hk:yy P kt=some ks)(hφ:(φ site).g=some w.heap.size):iK P μ φ (w.alloc (.map #[] 0)) site (.map kt []):=⟨w.heap.size,#[],0,ks,hφ,gq w _,rfl,hk,by simp,fun i e h=>by simp at h,by simp⟩
end
def Bb(P:Program)(G:Nat→Option (List PV))(g:FuncId)(M:List PV→Option PV):Prop:=
 (∃fn c,P.funcs[g]?=some fn∧fn.body=some c∧(fn.name== "runtime.NumGoroutine")=false)∧
 ∀(ps:List PV)(r:PV),M ps=some r→∀(w:World)(μ:Ro)(xs:Array Value),(∀b o,μ b=some o→w.heap[b]?=some o)→(∀g cs,G g=some cs→E2 P μ g cs)→ps.length=xs.size→(∀(i:Nat)p x,ps[i]?=some p→xs[i]?=some x→av P μ p x)→Calls P g xs w fun e w'=>∃y,e=.returned y∧nD w.heap.size w w'∧av P (cH μ w w') r y
def H9(P:Program)(G:Nat→Option (List PV))(g:FuncId)(M:List PV→Option PV):Prop:=
 (∃fn c,P.funcs[g]?=some fn∧fn.body=some c∧(fn.name== "runtime.NumGoroutine")=false)∧
 ∀(fn:Func)(t e:TypeId),P.funcs[g]?=some fn→fn.resultTypes.toList=[t]→P.underlying t=some (.slice e)→∀(ps:List PV)(r:PV),M ps=some r→∀(w:World)(μ:Ro)(xs:Array Value),(∀b o,μ b=some o→w.heap[b]?=some o)→(∀g cs,G g=some cs→E2 P μ g cs)→ps.length=xs.size→(∀(i:Nat)p x,ps[i]?=some p→xs[i]?=some x→av P μ p x)→Calls P g xs w fun en w'=>∃(y:Value)(ph:aP)(es:List PV),en=.returned y∧nD w.heap.size w w'∧r=.rs (bj P e) es∧(∀g,ph.g=some g→w.heap.size≤g)∧aX P (pL (cH μ w w') ph.g) (fun _=>ph) w' 0 (bj P e) e es∧au P μ (fun _=>ph) (.os 0) y
def amL(m:Mem):Option (Nat×bX)→Mem
 |some (id,b)=>aD m id b
 |none=>m
def amM(E:Env)(g:FuncId)(args:List V)(f:Fr)(m:Mem)(v:V)(f':Fr)(m':Mem):Prop:=
 (∃fn c,E.P.funcs[g]?=some fn∧fn.body=some c∧(fn.name== "runtime.NumGoroutine")=false)∧
 ∀(w0:bO)(μ:Ro)(φ:Nat→aP)(ρ:Nat→Value)(w:World)(xs:Array Value),aL E.P E.aW w0 μ φ m w→cp E.P μ φ m f ρ→args.length=xs.size→(∀(i:Nat)v x,args[i]?=some v→xs[i]?=some x→au E.P μ φ v x)→(∀id,cA id args=true→(m id).isSome=true)→Calls E.P g xs w fun e w'=>∃y μ' φ',e=.returned y∧aL E.P E.aW w0 μ' φ' m' w'∧cp E.P μ' φ' m' f' ρ∧au E.P μ' φ' v y∧∀id,v.has id=true→(m' id).isSome=true
def PA{R:Type}(P:Program)(G:Nat→Option (List PV))(g:FuncId)(args:List V)(f:Fr)(m:Mem)(k:V→Fr→Mem→Option R)(r:R):Prop:=
 (∃fn c,P.funcs[g]?=some fn∧fn.body=some c∧(fn.name== "runtime.NumGoroutine")=false)∧
 ∀(w0:bO)(μ:Ro)(φ:Nat→aP)(ρ:Nat→Value)(w:World)(xs:Array Value),aL P G w0 μ φ m w→cp P μ φ m f ρ→args.length=xs.size→(∀(i:Nat)v x,args[i]?=some v→xs[i]?=some x→au P μ φ v x)→(∀id,cA id args=true→(m id).isSome=true)→Calls P g xs w fun e w'=>∃v f' m' y μ' φ',k v f' m'=some r∧e=.returned y∧aL P G w0 μ' φ' m' w'∧cp P μ' φ' m' f' ρ∧au P μ' φ' v y∧∀id,v.has id=true→(m' id).isSome=true
def Aq(P:Program)(G:Nat→Option (List PV))(nt:Nat)(yl:YL)(w0:bO):Prop:=∀(R:Type)site id args f m(k:V→Fr→Mem→Option R)r,yl R nt site id args f m k=some r→∀(μ:Ro)(φ:Nat→aP)(ρ:Nat→Value)(w:World)(xs:Array Value),aL P G w0 μ φ m w→cp P μ φ m f ρ→(∀t,nt≤t→ρ t=w0.sv t)→args.length=xs.size→(∀(i:Nat)v x,args[i]?=some v→xs[i]?=some x→au P μ φ v x)→(∀id,cA id args=true→(m id).isSome=true)→∀g,(φ id).g=some g→∃fn tmps assign body,(Instr.yield g xs).run P w=.ok (.round g fn tmps assign body) w∧RoundIn Fence.wide 0 P g fn tmps assign body w fun e w'=>∃v f' m' y μ' φ',k v f' m'=some r∧e=.returned y∧(∀b o,μ b=some o→μ' b=some o)∧aL P G w0 μ' φ' m' w'∧cp P μ' φ' m' f' ρ∧au P μ' φ' v y∧∀id,v.has id=true→(m' id).isSome=true
theorem GQ(P:Program)(G:Nat→Option (List PV))(nt:Nat)(w0:bO):Aq P G nt HX w0:=fun R site id args f m k r h=>by cases h
variable{G:Nat→Option (List PV)}{φ:Nat→aP}
theorem aL.FM{P:Program}{w0:bO}{μ:Ro}{m:Mem}{w:World}(h:aL P G w0 μ φ m w){K:Ro}(hK:∀b o,K b=some o→μ b=some o):aL P G {w0 with dY:=K} μ φ m w:=⟨h.below,h.ro,h.aW,h.dX,h.own,h.inj,h.apart,h.gz,h.base,hK,h.Jj⟩
theorem aL.La{P:Program}{w0:bO}{μ:Ro}{m:Mem}{w:World}{K:Ro}(h:aL P G {w0 with dY:=K} μ φ m w)(hK:∀b o,w0.dY b=some o→K b=some o):aL P G w0 μ φ m w:=⟨h.below,h.ro,h.aW,h.dX,h.own,h.inj,h.apart,h.gz,h.base,fun b o hb=>h.dY b o (hK b o hb),h.Jj⟩
theorem Aq.FM{P:Program}{G:Nat→Option (List PV)}{nt:Nat}{yl:YL}{w0:bO}(h:Aq P G nt yl w0){K:Ro}(hK:∀b o,w0.dY b=some o→K b=some o):Aq P G nt yl {w0 with dY:=K}:=fun R site id args f m k r hy μ φ ρ w xs hM hF hρ hl hr Ps g hg=>
  let⟨fn,tmps,assign,body,y1,y2⟩:=h R site id args f m k r hy μ φ ρ w xs (hM.La hK) hF hρ hl hr Ps g hg
  ⟨fn,tmps,assign,body,y1,y2.mono fun e w'⟨v,f',m',y,μ',φ',a1,a2,a3,a4,a5⟩=>⟨v,f',m',y,μ',φ',a1,a2,a3,a4.FM fun b o hb=>a3 b o (hM.dY b o hb),a5⟩⟩
def TZ{R:Type}(P:Program)(G:Nat→Option (List PV))(g:FuncId)(yl:YL)(args:List V)(f:Fr)(m:Mem)(k:V→Fr→Mem→Option R)(r:R):Prop:=
 ∃fn c,P.funcs[g]?=some fn∧fn.body=some c∧(fn.name== "runtime.NumGoroutine")=false∧
 ∀(w0:bO)(μ:Ro)(φ:Nat→aP)(ρ:Nat→Value)(w:World)(xs:Array Value),aL P G w0 μ φ m w→cp P μ φ m f ρ→args.length=xs.size→(∀(i:Nat)v x,args[i]?=some v→xs[i]?=some x→au P μ φ v x)→(∀id,cA id args=true→(m id).isSome=true)→Aq P G fn.ntmps yl {w0 with sv:=fun t=>ρ (t-fn.ntmps)}→Calls P g xs w fun e w'=>∃v f' m' y μ' φ',k v f' m'=some r∧e=.returned y∧aL P G w0 μ' φ' m' w'∧cp P μ' φ' m' f' ρ∧au P μ' φ' v y∧∀id,v.has id=true→(m' id).isSome=true
structure mb(E:Env):Prop where
 mixed:E.P.follows .mixedOrders=true
 lp:∀(S R:Type)(body:S→(S→Option R)→Option R)s r,E.lp.run body s=some r→∃n,cE body n s=some r
 ctx:∀g M,E.ctx g=some M→Bb E.P E.aW g M
 own:∀g M,E.own g=some M→H9 E.P E.aW g M
 inl:∀(R:Type)g TN args f m(k:V→Fr→Mem→Option R)r,E.inl R g TN args f m k=some r→PA E.P E.aW g args f m k r
 rng:∀(R:Type)g TN yl args f m(k:V→Fr→Mem→Option R)r,E.rng R g TN yl args f m k=some r→TZ E.P E.aW g yl args f m k r
section
variable {R:Type} {E:Env}
theorem eT{f:V→List Nat}{id:Nat}:∀{cs:List V},id∈j7 f cs↔∃v∈cs,id∈f v
 |[]=>by simp[j7]
 |c::r=>by simp[j7,eT (cs:=r)]
theorem oJ{g g':V→Option PV}:∀{cs:List V},(∀v∈cs,g' v=g v)→uZ g' cs=uZ g cs
 |[],_=>rfl
 |c::r,h=>by simp_all[uZ,oJ]
theorem vM{m m2:Mem}:∀(d:Nat){v:V},(∀id∈dd m d v,m2 id=m id)→nv m2 d v=nv m d v
 |0,v,_=>rfl
 |d+1,v,h=>by
  cases v with
  |agg cs=>simp only[nv];rw[oJ fun v hv=>vM d fun id hid=>h id (by simp only[dd];exact eT.2 ⟨v,hv,hid⟩)]
  |aG cs=>simp only[nv];rw[oJ fun v hv=>vM d fun id hid=>h id (by simp only[dd];exact eT.2 ⟨v,hv,hid⟩)]
  |fn g cs=>simp only[nv];rw[oJ fun v hv=>vM d fun id hid=>h id (by simp only[dd];exact eT.2 ⟨v,hv,hid⟩)]
  |op id off=>
   have h0:=h id (by simp[dd]);simp only[nv,h0];split
   ·rename_i cs hm;rw[oJ fun v hv=>vM d fun yn hid=>h yn (by simp only[dd,hm];exact atJ _ (eT.2 ⟨v,hv,hid⟩))]
   rfl
  |oe id i off=>grind [nv,id,dd]
  |os id=>grind [nv,id,dd]
  |gx id lo len=>grind [nv,id,dd]
  |om id=>grind [nv,id,dd]
  |CC id i off=>grind [nv,id,dd]
  |_=>rfl
theorem kj{g g':V→List Nat}:∀{cs:List V},(∀v∈cs,g' v=g v)→j7 g' cs=j7 g cs
 |[],_=>rfl
 |c::r,h=>by simp_all[j7,kj]
theorem pq{m m2:Mem}:∀(d:Nat){v:V},(∀id∈dd m d v,m2 id=m id)→dd m2 d v=dd m d v
 |0,v,_=>rfl
 |d+1,v,h=>by
  cases v with
  |agg cs=>simp only[dd];exact kj fun v hv=>pq d fun id hid=>h id (by simp only[dd];exact eT.2 ⟨v,hv,hid⟩)
  |aG cs=>simp only[dd];exact kj fun v hv=>pq d fun id hid=>h id (by simp only[dd];exact eT.2 ⟨v,hv,hid⟩)
  |fn g cs=>simp only[dd];exact kj fun v hv=>pq d fun id hid=>h id (by simp only[dd];exact eT.2 ⟨v,hv,hid⟩)
  |op id off=>
   have h0:=h id (by simp[dd]);simp only[dd,h0];split
   ·rename_i cs hm;rw[kj fun v hv=>pq d fun yn hid=>h yn (by simp only[dd,hm];exact atJ _ (eT.2 ⟨v,hv,hid⟩))]
   rfl
  |_=>rfl
variable{p:PV}
theorem Jt{t:TypeId}{k:PV→Option R}{r:R}(hs:A8 E t=true)(h:jE E t p k=some r):∃q,(∀(R':Type)(k':PV→Option R'),jE E t p k'=k' q)∧k q=some r∧∀(P:Program)(μ μ':Ro)x,av P μ p x→av P μ' q x:=by
 unfold A8 at hs;unfold jE at h;split at h
 ·rename_i q hu;obtain⟨n,hn,hk⟩:=By.1 h;have hp:p=.int q n:=by cases p<;>simp[asInt]at hn;simp_all
  exact⟨.int q n,fun R' k'=>by simp[jE,hu,hn],hk,fun P μ μ' x hx=>by subst hp;cases hx with|int h=>exact .int h⟩
 ·rename_i hu;obtain⟨n,hn,hk⟩:=By.1 h;have hp:p=.bool n:=by cases p<;>simp[asBool]at hn;subst hn;rfl
  exact⟨.bool n,fun R' k'=>by simp[jE,hu,hn],hk,fun P μ μ' x hx=>by subst hp;cases hx;exact .bool⟩
 ·rename_i hu;obtain⟨n,hn,hk⟩:=By.1 h;have hp:p=.str n:=by cases p<;>simp[aO]at hn;subst hn;rfl
  exact⟨.str n,fun R' k'=>by simp[jE,hu,hn],hk,fun P μ μ' x hx=>by subst hp;cases hx with|str h=>exact .str h⟩
 all_goals simp_all
theorem Rp:∀{ts:List TypeId}{ps:List PV}{k:List V→Option R}{r:R},Jb E ts ps k=some r→∃vs,(∀(R':Type)(k':List V→Option R'),Jb E ts ps k'=k' vs)∧k vs=some r∧vs.length=ps.length∧(∀id,cA id vs=false)∧(∀(P:Program)(μ:Ro)(φ:Nat→aP)(i:Nat)p v x,ps[i]?=some p→vs[i]?=some v→av P μ p x→au P μ φ v x)∧(ts.all (A8 E)=true→∀(P:Program)(μ μ':Ro)(φ:Nat→aP)(i:Nat)p v x,ps[i]?=some p→vs[i]?=some v→av P μ p x→au P μ' φ v x)
 |[],[],k,r,h=>⟨[],fun R' k'=>rfl,h,rfl,fun _=>rfl,by simp,by simp⟩
 |t::ts,p::ps,k,r,h=>by
  simp only[Jb]at h;obtain⟨q,q1,q2,q3,_⟩:=nZ h;obtain⟨vs,v1,v2,v3,v4,v5,v6⟩:=Rp q2;refine⟨.pv q::vs,fun R' k'=>by simp only[Jb];rw[q1,v1],v2,by simp[v3],fun id=>by simp[cA,v4],fun P μ φ i p' v x hp hv hx=>?_,fun hs P μ μ' φ i p' v x hp hv hx=>?_⟩
  ·cases i with
   |zero=>simp at hp hv;subst hp;subst hv;exact .pv (q3 _ _ _ hx)
   |succ i=>grind
  ·simp only[au2,amm]at hs;cases i with
   |zero=>
    simp at hp hv;subst hp;subst hv;obtain⟨q',s1,s2,s3⟩:=Jt hs.1 h;have:q'=q:=by have e1:=s1 PV some;grind
    subst this;exact .pv (s3 P μ μ' x hx)
   |succ i=>grind
 |[],p::ps,k,r,h=>by simp[Jb]at h
 |t::ts,[],k,r,h=>by simp[Jb]at h
theorem Rq{n:Nat}{r:PV}{vs:List PV}(h:cn n r=some vs):r=.aG vs∧vs.length=n:=by cases r<;>simp[cn]at h;grind
variable{ts:List TypeId}
theorem Rr{k:V→Option R}{r:R}(h:Jc E ts p k=some r):∃v,(∀(R':Type)(k':V→Option R'),Jc E ts p k'=k' v)∧k v=some r∧(∀id,v.has id=false)∧(∀(P:Program)(μ:Ro)(φ:Nat→aP)x,av P μ p x→au P μ φ v x)∧(ts.all (A8 E)=true→∀(P:Program)(μ μ':Ro)(φ:Nat→aP)x,av P μ p x→au P μ' φ v x):=by
 unfold Jc at h;split at h
 ·obtain⟨vs,hv,hk⟩:=By.1 h;obtain⟨rfl,hl⟩:=Rq hv;have:vs=[]:=aso hl;subst this;have key:∀(P:Program)(μ μ':Ro)(φ:Nat→aP)x,av P μ (.aG []) x→au P μ' φ (.aG []) x:=fun P μ μ' φ x hx=>by
   cases hx with
   |aG h1 h2=>exact .aG h1 (by simp)
  grind [Jc,V.has,cA]
 ·rename_i t;obtain⟨q,q1,q2,q3,_⟩:=nZ h;refine⟨.pv q,fun R' k'=>by simp only[Jc];rw[q1],q2,by simp,fun P μ φ x hx=>.pv (q3 _ _ _ hx),fun hs P μ μ' φ x hx=>?_⟩;obtain⟨q',s1,s2,s3⟩:=Jt (by simpa using hs) h;have:q'=q:=by have e1:=s1 PV some;grind
  subst this;exact .pv (s3 P μ μ' x hx)
 ·rename_i ar5 ar6;obtain⟨vs,hv,hk⟩:=By.1 h;obtain⟨rfl,hl⟩:=Rq hv;obtain⟨us,u1,u2,u3,u4,u5,u6⟩:=Rp hk;have amN:((List.range ts.length).map fun j=>vs.getD j .bad)=vs:=by apply asB;grind
  rw[amN]at u3 u5 u6;refine⟨.aG us,fun R' k'=>?_,u2,fun id=>by simp[V.has,u4],fun P μ φ x hx=>?_,fun hs P μ μ' φ x hx=>?_⟩
  ·unfold Jc;simp_all
  ·cases hx with
   |aG h1 h2=>
    refine .aG (by omega) fun i v y hv hy=>?_;have hi:i<vs.length:=by grind
    exact u5 P μ φ i _ v y (cN hi) hv (h2 i _ y (cN hi) hy)
  ·cases hx with
   |aG h1 h2=>
    refine .aG (by omega) fun i v y hv hy=>?_;have hi:i<vs.length:=by grind
    exact u6 hs P μ μ' φ i _ v y (cN hi) hv (h2 i _ y (cN hi) hy)
theorem zn:∀{args:List V}{m m':Mem}{ps:List PV},j8 m args=some (ps,m')→mh m m'∧ps.length=args.length∧∀(P:Program)(G:Nat→Option (List PV))(w0:bO)(μ:Ro)(φ:Nat→aP)(w:World)(X:Nat→Value),aL P G w0 μ φ m w→(∀(i:Nat)u,args[i]?=some u→au P μ φ u (X i))→∃μ',(∀b o,μ b=some o→μ' b=some o)∧aL P G w0 μ' φ m' w∧∀(i:Nat)p,ps[i]?=some p→av P μ' p (X i)
 |[],m,m',ps,h=>by simp only[j8,cO,amn]at h;obtain⟨rfl,rfl⟩:=h;exact⟨.refl _,rfl,fun P G w0 μ φ w X hM _=>⟨μ,fun _ _ h=>h,hM,by simp⟩⟩
 |c::r,m,m',ps,h=>by
  simp only[j8]at h;split at h
  ·rename_i p m1 h1;split at h
   ·rename_i ps1 m2 h2;simp only[cO,amn]at h;obtain⟨rfl,rfl⟩:=h;obtain⟨a1,a2⟩:=Oe h1;obtain⟨b1,b2,b3⟩:=zn h2;refine⟨a1.trans b1,by simp[b2],fun P G w0 μ φ w X hM hx=>?_⟩;obtain⟨μ1,c1,c2,c3⟩:=a2 P G w0 μ φ w (X 0) hM (hx 0 c (by simp));obtain⟨μ2,d1,d2,d3⟩:=b3 P G w0 μ1 φ w (fun i=>X (i+1)) c2 (fun i u hu=>(hx (i+1) u (by simpa using hu)).E3 c1);refine⟨μ2,fun b o h=>d1 b o (c1 b o h),d2,fun i q hq=>?_⟩;cases i with
    |zero=>simp at hq;subst hq;exact c3.mono d1
    |succ i=>simp_all
   ·cases h
  ·cases h
theorem PB{m':Mem}{v:V}(h:A4 dq v=some (p,m')):m'=dq:=by
 have key:∀{cs:List V}{m':Mem}{ps:List PV},pj dq cs=some (ps,m')→m'=dq:=by
  intro cs;induction cs with
  |nil=>simp[pj,cO,amn]
  |cons c r ih=>grind [pj,wq,Option.some.injEq,Prod.mk.injEq]
 unfold A4 at h;grind [Option.some.injEq,Prod.mk.injEq,wq]
theorem tZ:∀{args:List V}{m':Mem}{ps:List PV},j8 dq args=some (ps,m')→ps.length=args.length∧∀(P:Program)(μ:Ro)(φ:Nat→aP)(X:Nat→Value),(∀(i:Nat)u,args[i]?=some u→au P μ φ u (X i))→∀(i:Nat)p,ps[i]?=some p→av P μ p (X i)
 |[],m',ps,h=>by simp only[j8,cO,amn]at h;simp_all
 |c::r,m',ps,h=>by
  simp only[j8]at h;split at h
  ·rename_i p m1 h1;have:=PB h1;subst this;split at h
   ·rename_i ps1 m2 h2;simp only[cO,amn]at h;obtain⟨rfl,rfl⟩:=h;obtain⟨b2,b3⟩:=tZ h2;refine⟨by simp[b2],fun P μ φ X hx i q hq=>?_⟩;cases i with
    |zero=>simp at hq;subst hq;exact Js h1 P μ φ _ (hx 0 c (by simp))
    |succ i=>exact b3 P μ φ (fun i=>X (i+1)) (fun i u hu=>hx (i+1) u (by simpa using hu)) i q (by simpa using hq)
   ·cases h
  ·cases h
variable{φ:Nat→aP}
theorem aX.move{P:Program}{μ μ':Ro}{φ':Nat→aP}{w:World}{i j sz:Nat}{et:TypeId}{es:List PV}(h:aX P μ φ w i sz et es)(hφ:φ' j=φ i)(hμ:∀b o,μ b=some o→μ' b=some o):aX P μ' φ' w j sz et es:=by
 unfold aX at*;rw[hφ];obtain⟨h1,h2,h3,h4,h5,h6,h7⟩:=h;refine⟨h1,h2,h3,h4,h5,h6,?_⟩;split at h7
 ·omega
 ·obtain⟨c,T,c1,c2,c3,c4,c5⟩:=h7;exact⟨c,T,c1,c2,c3,fun i e j p x he hp hx=>(c4 i e j p x he hp hx).mono hμ,c5⟩
theorem aX.aci{P:Program}{ν μ:Ro}{w:World}{i:Nat}{et:TypeId}{es:List PV}(h:aX P ν φ w i 1 et es):aX P μ φ w i 1 et (es.map NN):=by
 unfold aX at*;obtain⟨h1,h2,h3,h4,h5,h6,h7⟩:=h;have hc:∀p:PV,(NN p).cells.length=1:=fun p=>by cases p<;>rfl
 refine⟨by simpa using h1,h2,h3,h4,fun j e he=>?_,h6,?_⟩
 ·grind
 ·split at h7
  ·simp_all
  ·obtain⟨c,T,c1,c2,c3,c4,c5⟩:=h7;refine⟨c,T,c1,c2,by simpa using c3,fun j e l p x he hp hx=>?_,fun j x hj hx=>c5 j x (by simpa using hj) hx⟩;simp only[AT,aqX]at he;obtain⟨q,hq,rfl⟩:=he;have hl:l=0:=by grind
   subst hl;cases q<;>(simp only[NN,PV.cells,asL,cO]at hp;subst hp);case int=>have:=c4 j _ 0 _ x hq rfl hx;cases this with|int h=>exact .int h
   case bool=>have:=c4 j _ 0 _ x hq rfl hx;cases this;exact .bool
   case str=>have:=c4 j _ 0 _ x hq rfl hx;cases this with|str h=>exact .str h
   all_goals exact .bad
mutual
theorem acj:∀(s:FS)(p:PV)(a:List PV),rdL s p=some a→a.length=s.n∧∀r,Pj s (a++r)=(p,r)
 |.raw,p,a,h=>by simp only[rdL,cO]at h;subst h;exact⟨rfl,fun r=>rfl⟩
 |.fn g cs,p,a,h=>by
  cases p<;>simp only[rdL]at h<;>try (cases h;done)
  split at h
  ·rename_i e;subst e;obtain⟨h1,h2⟩:=PC cs _ a h;exact⟨by simp[FS.n,h1],fun r=>by simp[Pj,h2 r]⟩
  ·cases h
 |.ptr cs,p,a,h=>by
  cases p<;>simp only[rdL]at h<;>try (cases h;done)
  obtain⟨h1,h2⟩:=PC cs _ a h;exact⟨by simp[FS.n,h1],fun r=>by simp[Pj,h2 r]⟩
theorem PC:∀(ss:List FS)(ps:List PV)(a:List PV),QZ ss ps=some a→a.length=nFs ss∧∀r,Ja ss (a++r)=(ps,r)
 |[],ps,a,h=>by
  cases ps with
  |nil=>simp only[QZ,cO]at h;subst h;exact⟨rfl,fun r=>rfl⟩
  |cons p ps=>simp[QZ]at h
 |s::ss,ps,a,h=>by
  cases ps with
  |nil=>simp[QZ]at h
  |cons p ps=>simp only[QZ]at h;obtain⟨x,hx,h⟩:=By.1 h;obtain⟨y,hy,h⟩:=By.1 h;simp only[cO]at h;subst h;obtain⟨a1,a2⟩:=acj s p x hx;obtain⟨b1,b2⟩:=PC ss ps y hy;refine⟨by simp[nFs,a1,b1],fun r=>?_⟩;simp only[Ja,asD,a2,b2]
end
theorem Wu{s:FS}{ls:List PV}(h:rdL s p=some ls):(Pj s ((List.range s.n).map fun j=>ls.getD j .bad)).1=p:=by
 obtain⟨h1,h2⟩:=acj s p ls h;have:((List.range s.n).map fun j=>ls.getD j .bad)=ls:=by apply asB;grind
 rw[this];have:=h2 [];simp_all
theorem Z4{fid:FuncId}{k:V→Option R}{r:R}(h:HY E fid ts p k=some r):∃v,(∀(R':Type)(k':V→Option R'),HY E fid ts p k'=k' v)∧k v=some r∧(∀id,v.has id=false)∧(∀(P:Program)(μ:Ro)(φ:Nat→aP)x,av P μ p x→au P μ φ v x)∧True:=by
 unfold HY at h;split at h
 ·rename_i s hs;obtain⟨ls,hl,hk⟩:=By.1 h;refine⟨_,fun R' k'=>by simp_all[HY,asq],hk,fun id=>rfl,fun P μ φ x hx=>.pv ?_,trivial⟩;rw[Wu hl];omega
 ·rename_i hs;obtain⟨v,v1,v2,v3,v4,_⟩:=Rr h;exact⟨v,fun R' k'=>by simp_all[HY],v2,v3,v4,trivial⟩
theorem ack(hE:mb E){draw:Bool}{site:Nat}{g:FuncId}{args:List V}{f:Fr}{m:Mem}{k:V→Fr→Mem→bN→Option R}{r:R}(h:B1 E draw site g args f m k=some r):(∃v f' m' ft,k v f' m' ft=some r∧(draw=true→f'=f∧∃wr:Option (Nat×bX),m'=amL m wr∧(∀id b,wr=some (id,b)→(true,id)∈ft)∧∀(f2:Fr)(m2:Mem),(∀x∈ft,m2 x.2=m x.2)→∀(R':Type)(k':V→Fr→Mem→bN→Option R'),B1 E true site g args f2 m2 k'=k' v f2 (amL m2 wr) ft)∧((∀x∈ft,x.1=false)→f'=f∧m'=m)∧amM E g args f m v f' m')∨(draw=false∧PA E.P E.aW g args f m (fun v f m=>k v f m [(true,0)]) r):=by
 have hX:∀(P:Program)(μ:Ro)(φ:Nat→aP)(xs:Array Value),args.length=xs.size→(∀(i:Nat)v x,args[i]?=some v→xs[i]?=some x→au P μ φ v x)→∀(i:Nat)u,args[i]?=some u→xs[i]?=some (xs.getD i undef)∧au P μ φ u (xs.getD i undef):=by
  intro P μ φ xs hl hr i u hu;have cd:i<xs.size:=by grind
  have:xs[i]?=some (xs.getD i undef):=by simp_all
  grind
 unfold B1 at h;split at h
 ·rename_i M Z5;obtain⟨hfn,hM⟩:=hE.ctx g M Z5;split at h
  ·rename_i fn hg;split at h
   ·rename_i hsc;split at h
    ·rename_i ps tU;obtain⟨p,hp,h⟩:=By.1 h;obtain⟨v,v1,v2,v3,v4,v5⟩:=Rr h;refine .inl ⟨v,f,m,_,v2,fun hd=>⟨rfl,none,rfl,by simp,fun f2 m2 db R' k'=>?_⟩,fun _=>⟨rfl,rfl⟩,hfn,fun w0 μ φ ρ w xs hR hF hl hr Ps=>?_⟩
     ·have TI:uZ (nv m2 fl) args=uZ (nv m fl) args:=oJ fun v hv=>vM _ fun id hid=>db (false,id) (by simp only[asC];exact⟨id,eT.2 ⟨v,hv,hid⟩,rfl⟩);have k8:((j7 (dd m2 fl) args).map fun i=>(false,i))=((j7 (dd m fl) args).map fun i=>(false,i)):=by have:j7 (dd m2 fl) args=j7 (dd m fl) args:=kj fun v hv=>pq _ fun id hid=>db (false,id) (by simp only[asC];exact⟨id,eT.2 ⟨v,hv,hid⟩,rfl⟩);rw[this]
      simp only[B1,Z5,hg];rw[IN hsc];simp only[TI,tU,hp,asq,k8];rw[v1];rfl
     ·obtain⟨p1,p2⟩:=iZ tU;refine(hM ps p hp w (mc w) xs (fun _ _ h=>h) (fun g cs hg=>(hR.aW g cs hg).mono hR.Et) (by omega) (fun i q x hq hx=>?_)).mono ?_
      ·obtain⟨u,hu,hf⟩:=p2 i q hq;exact Ap hR hR.Et (fun _ _ _ _ _=>rfl) _ hf (hr i u x hu hx)
      ·rintro e w' ⟨y,rfl,hb,hy⟩;exact⟨y,cH μ w w',φ,rfl,hR.called hb,hF.pP (mP hR w') (.refl _),v5 hsc E.P _ _ φ y hy,fun id hid=>by simp_all⟩
    ·cases h
   ·rename_i hsc;split at h
    ·rename_i ps m1 tU;obtain⟨p,hp,h⟩:=By.1 h;obtain⟨v,v1,v2,v3,v4,v5⟩:=Z4 h;cases draw with
     |true=>
      simp only[BY]at tU v2;obtain⟨q1,q2⟩:=tZ tU;refine .inl ⟨v,f,m,_,v2,fun _=>⟨rfl,none,rfl,by simp,fun f2 m2 db R' k'=>?_⟩,fun _=>⟨rfl,rfl⟩,hfn,fun w0 μ φ ρ w xs hR hF hl hr Ps=>?_⟩
      ·simp only[B1,Z5,hg];rw[IS hsc];simp only[BY,tU,hp,asq];rw[v1];rfl
      ·refine(hM ps p hp w μ xs hR.ro hR.aW (by omega) (fun i q x hq hx=>?_)).mono ?_
       ·have:=q2 E.P μ φ (fun i=>xs.getD i undef) (fun i u hu=>(hX E.P μ φ xs hl hr i u hu).2) i q hq;simp_all
       ·rintro e w' ⟨y,rfl,hb,hy⟩;exact⟨y,cH μ w w',φ,rfl,hR.called hb,hF.pP (mP hR w') (.refl _),v4 E.P _ φ y hy,fun id hid=>by simp_all⟩
     |false=>
      simp only[cQ,IT]at tU v2;obtain⟨q0,q1,q2⟩:=zn tU;refine .inl ⟨v,f,m1,_,v2,fun hd=>by(cases hd),fun hq=>absurd (hq (true,0) (by simp)) (by simp),hfn,fun w0 μ φ ρ w xs hR hF hl hr Ps=>?_⟩;obtain⟨μ1,r1,r2,r3⟩:=q2 E.P E.aW w0 μ φ w (fun i=>xs.getD i undef) hR (fun i u hu=>(hX E.P μ φ xs hl hr i u hu).2);refine(hM ps p hp w μ1 xs r2.ro r2.aW (by omega) (fun i q x hq hx=>?_)).mono ?_
      ·have:=r3 i q hq;have cd:i<xs.size:=(apj.1 hx).1;simp_all[undef,aiX,cO,Array.getD]
      ·rintro e w' ⟨y,rfl,hb,hy⟩;exact⟨y,cH μ1 w w',φ,rfl,r2.called hb,hF.pP (fun b o h=>mP r2 w' b o (r1 b o h)) q0,v4 E.P _ φ y hy,fun id hid=>by grind⟩
    ·cases h
  ·cases h
 ·rename_i Z5;split at h
  ·rename_i M H7;obtain⟨hfn,hM⟩:=hE.own g M H7;split at h
   ·rename_i fn hg;split at h
    ·rename_i t ht;split at h
     ·rename_i e hu;split at h
      ·rename_i hsc;obtain⟨hsc,Au⟩:=hsc;split at h
       ·rename_i ps tU;obtain⟨p,hp,h⟩:=By.1 h;obtain⟨es,QI,h⟩:=By.1 h;obtain⟨f',m',n1,n2,n3,n4,n5⟩:=eM h;refine .inl ⟨_,f',m',_,n2,fun hd=>?_,fun hq=>absurd (hq (true,site) (by simp)) (by simp),hfn,fun w0 μ φ ρ w xs hR hF hl hr Ps=>?_⟩
        ·obtain⟨d1,d2,d3⟩:=n4 hd;subst hd;refine⟨d2,some (site,_),d3,by simp,fun f2 m2 db R' k'=>?_⟩;have TI:uZ (nv m2 fl) args=uZ (nv m fl) args:=oJ fun v hv=>vM _ fun id hid=>db (false,id) (by simp only[asF,asC];exact .inr ⟨id,eT.2 ⟨v,hv,hid⟩,rfl⟩);have k8:j7 (dd m2 fl) args=j7 (dd m fl) args:=kj fun v hv=>pq _ fun id hid=>db (false,id) (by simp only[asF,asC];exact .inr ⟨id,eT.2 ⟨v,hv,hid⟩,rfl⟩);simp only[B1,Z5,H7,hg,ht,hu];rw[IN ⟨hsc,Au⟩];simp only[TI,tU,hp,asq,QI,k8];have hs2:m2 site=none:=by rw[db (true,site) (by simp)];omega
         simp only[fresh,hs2];rfl
        ·obtain⟨p1,p2⟩:=iZ tU;refine(hM fn t e hg ht hu ps p hp w (mc w) xs (fun _ _ h=>h) (fun g cs hg=>(hR.aW g cs hg).mono hR.Et) (by omega) (fun i q x hq hx=>?_)).mono ?_
         ·obtain⟨u,wh,hf⟩:=p2 i q hq;exact Ap hR hR.Et (fun _ _ _ _ _=>rfl) _ hf (hr i u x wh hx)
         rintro en w' ⟨y,ph,es',rfl,hb,rfl,Nn,hA,hy⟩;have ajb:es'=es:=by simp only[ao,BY,cO]at QI;omega
         subst ajb;rw[Au]at hA;have hA2:aX E.P (pL (cH μ w w') ph.g) (fun _=>ph) w' 0 1 e (es'.map NN):=hA.aci;have Of:=hR.N6 hb Nn;have hF2:cp E.P (pL (cH μ w w') ph.g) φ m f ρ:=hF.pP (fun b o h=>FI hR w' Nn b o h) (.refl _);have hP:nA E.P w0 (pL (cH μ w w') ph.g) φ m w' w' site (.arr (bj E.P e) e (es'.map NN)) ph:=by
          refine⟨nD.refl _ _,Of.ro,fun _ _ _ _ _=>rfl,fun g hg=>⟨?_,?_,?_⟩,fun φ' hp _=>by rw[Au];exact hA2.move hp (fun _ _ h=>h),by simp[bX.names],fun st h=>by cases h⟩
          ·have:=Nn g hg;have:=hR.below.size;grind
          ·simp[pL,hg]
          ·intro id b' ke du;have h1:=(hR.dX id b' ke).KZ du;grind
         obtain⟨φ',a1,a2,a3⟩:=n5 E.P E.aW w0 _ φ w' w' ρ ph Of hF2 hP;refine⟨y,_,φ',rfl,a2,a3,?_,fun id hid=>?_⟩
         ·cases hy with
          |yp h=>exact .yp (by rw[a1];omega)
          | @os _ g h=>have:=au.os (P:=E.P) (μ:=pL (cH μ w w') ph.g) (φ:=φ') (id:=site) (g:=g) (by rw[a1];omega);grind
         ·have hid:=Ka hid;subst hid;simp[n3]
       ·cases h
      rename_i hsc;split at h
      ·rename_i ps m1 tU;obtain⟨p,hp,h⟩:=By.1 h;obtain⟨es,QI,h⟩:=By.1 h;obtain⟨f',m',n1,n2,n3,n4,n5⟩:=eM h;have fin:∀(w0:bO)(μ μ1:Ro)(φ:Nat→aP)(ρ:Nat→Value)(w:World)(xs:Array Value),(∀b o,μ b=some o→μ1 b=some o)→mh m (if draw then m else m1)→aL E.P E.aW w0 μ1 φ (if draw then m else m1) w→cp E.P μ φ m f ρ→ps.length=xs.size→(∀(i:Nat)p x,ps[i]?=some p→xs[i]?=some x→av E.P μ1 p x)→Calls E.P g xs w fun e w'=>∃y μ' φ',e=.returned y∧aL E.P E.aW w0 μ' φ' m' w'∧cp E.P μ' φ' m' f' ρ∧au E.P μ' φ' (.os site) y∧∀id,(V.os site).has id=true→(m' id).isSome=true:=by
        intro w0 μ μ1 φ ρ w xs hle Ps hR hF hl hr;refine(hM fn t e hg ht hu ps p hp w μ1 xs hR.ro hR.aW hl hr).mono ?_;rintro en w' ⟨y,ph,es',rfl,hb,rfl,Nn,hA,hy⟩;have ajb:es'=es:=by simp only[ao,BY,cO]at QI;omega
        subst ajb;have Of:=hR.N6 hb Nn;have hF2:cp E.P (pL (cH μ1 w w') ph.g) φ (if draw then m else m1) f ρ:=hF.pP (fun b o h=>FI hR w' Nn b o (hle b o h)) Ps;have hP:nA E.P w0 (pL (cH μ1 w w') ph.g) φ (if draw then m else m1) w' w' site (.arr (bj E.P e) e es') ph:=by
         refine⟨nD.refl _ _,Of.ro,fun _ _ _ _ _=>rfl,fun g hg=>⟨?_,?_,?_⟩,fun φ' hp _=>hA.move hp (fun _ _ h=>h),by simp[bX.names],fun st h=>by cases h⟩
         ·have:=Nn g hg;have:=hR.below.size;grind
         ·simp[pL,hg]
         ·intro id b' ke du;have h1:=(hR.dX id b' ke).KZ du;grind
        obtain⟨φ',a1,a2,a3⟩:=n5 E.P E.aW w0 _ φ w' w' ρ ph Of hF2 hP;refine⟨y,_,φ',rfl,a2,a3,?_,fun id hid=>?_⟩
        ·cases hy with
         |yp h=>exact .yp (by rw[a1];omega)
         | @os _ g h=>have:=au.os (P:=E.P) (μ:=pL (cH μ1 w w') ph.g) (φ:=φ') (id:=site) (g:=g) (by rw[a1];omega);grind
        ·have hid:=Ka hid;subst hid;simp[n3]
       cases draw with
       |true=>
        simp only[BY]at tU n2 fin n4;obtain⟨q1,q2⟩:=tZ tU;obtain⟨d1,d2,d3⟩:=n4 trivial;refine .inl ⟨_,f',m',_,n2,fun _=>⟨d2,some (site,_),d3,by simp,fun f2 m2 db R' k'=>?_⟩,fun hq=>absurd (hq (true,site) (by simp)) (by simp),hfn,fun w0 μ φ ρ w xs hR hF hl hr Ps=>?_⟩
        ·simp only[B1,Z5,H7,hg,ht,hu];rw[IS hsc];simp only[BY,tU,hp,asq,QI];have hs2:m2 site=none:=by rw[db (true,site) (by simp)];omega
         simp only[fresh,hs2];rfl
        ·refine fin w0 μ μ φ ρ w xs (fun _ _ h=>h) (.refl _) hR hF (by omega) fun i q x hq hx=>?_;have:=q2 E.P μ φ (fun i=>xs.getD i undef) (fun i u hu=>(hX E.P μ φ xs hl hr i u hu).2) i q hq;have cd:i<xs.size:=(apj.1 hx).1;have e:xs.getD i undef=x:=by rw[aiX cd]at hx;simp only[cO]at hx;simp[Array.getD,cd,hx]
         rw[←e];omega
       |false=>
        simp only[cQ,IT]at tU n2 fin n4;obtain⟨q0,q1,q2⟩:=zn tU;refine .inl ⟨_,f',m',_,n2,fun hd=>by(cases hd),fun hq=>absurd (hq (true,site) (by simp)) (by simp),hfn,fun w0 μ φ ρ w xs hR hF hl hr Ps=>?_⟩;obtain⟨μ1,r1,r2,r3⟩:=q2 E.P E.aW w0 μ φ w (fun i=>xs.getD i undef) hR (fun i u hu=>(hX E.P μ φ xs hl hr i u hu).2);refine fin w0 μ μ1 φ ρ w xs r1 q0 r2 hF (by omega) fun i q x hq hx=>?_;have:=r3 i q hq;have cd:i<xs.size:=(apj.1 hx).1;have e:xs.getD i undef=x:=by rw[aiX cd]at hx;simp only[cO]at hx;simp[Array.getD,cd,hx]
        rw[←e];omega
      ·cases h
     ·cases h
    ·cases h
   ·cases h
  ·split at h
   ·cases h
   ·rename_i hd;exact .inr ⟨by simpa using hd,hE.inl _ _ _ _ _ _ _ _ h⟩
end
end Go.Ab
