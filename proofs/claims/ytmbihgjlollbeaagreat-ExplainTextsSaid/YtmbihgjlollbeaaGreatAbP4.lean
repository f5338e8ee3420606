import Derived.Test.YtmbihgjlollbeaaGreatAbP3
import Derived.WideKeyRuns
import Derived.MapKept
import Derived.RangeFuncRecord
set_option linter.unusedVariables false
set_option linter.unusedSimpArgs false
namespace Go.Ab
open Go.RowKit (Below)
section
variable {R:Type} {E:Env}
theorem cells_one{x:Value}(h:x.oneCell'=true):x.cells= #[x]:=by cases x<;>first|rfl|(simp[Value.oneCell']at h)
theorem ah.elem{P:Program}{μ:Ro}{n:Nat}{p:PV}{x:Value}(h:ah P μ p x)(hl:p.cells.length=n)(hp:p.plain=true):rU P μ n p x:=by
 cases hq:p.isAgg with
 |true=>
  cases p<;>simp[PV.isAgg]at hq;cases h with
  |agg h1 h2 h3=>exact⟨hl,by simp_all[PV.cells,Value.cells],h2,h3⟩
 |false=>
  have hc:p.cells=[p]:=by cases p<;>first|rfl|(simp[PV.isAgg]at hq)
  have h1:x.oneCell'=true:=h.one (fun cs e=>by subst e;simp[PV.isAgg]at hq) (fun cs e=>by subst e;simp[PV.plain]at hp) (fun e=>by subst e;simp[PV.plain]at hp);have hx:=cells_one h1;refine⟨hl,by simp_all,fun j q y hj hy=>?_,fun j y hy=>?_⟩
  ·grind
  grind
variable{t:TypeId}
theorem AP{z:PV}(h:AG E t=some z):∃i zv,E.P.info? t=some i∧i.zero=some zv∧i.size=aQ E.P t∧(∀μ,ah E.P μ z zv)∧∀μ,rU E.P μ (aQ E.P t) z zv:=by
 unfold AG zeroV at h;cases hi:E.P.info? t with
 |none=>simp[hi]at h
 |some i=>
  cases hz:i.zero with
  |none=>simp[hi,hz]at h
  |some zv=>
   simp only[hi,hz,aiH,aff]at h;split at h
   ·rename_i p hp;split at h
    ·rename_i hc;simp only[cN]at h;subst h;have hr:∀μ,ah E.P μ p zv:=fun μ=>sJ 2 hp (sH (φ:=fun _=>default) zv);exact⟨i,zv,rfl,hz,by simp[aQ,hi],hr,fun μ=>(hr μ).elem hc.2.1 hc.2.2⟩
    ·cases h
   ·cases h
theorem MS{z:PV}(h:AG E t=some z):∃zv,(∀w,(zeroValue t).run E.P w=.ok zv w)∧∀μ,ah E.P μ z zv:=by obtain⟨i,zv,h1,h2,h3,h4,_⟩:=AP h;simp_all[nA]
theorem Cells.made{P:Program}{μ:Ro}{sz:Nat}{z:PV}{zv:Value}(hE:rU P μ sz z zv)(eB:0<sz)(n cap:Nat)(hn:n≤cap):Cells P μ sz (List.replicate n z) ((madeCells zv.cells (cap*sz)).toList.take ((List.replicate n z).length*sz)):=by
 have hle:n*sz≤cap*sz:=ZG _ hn;have fh:∀k y,((madeCells zv.cells (cap*sz)).toList.take ((List.replicate n z).length*sz))[k]?=some y→zv.cells[k%sz]?=some y:=by
  intro k y hk;obtain⟨h1,h2⟩:=eA hk;simp only[ajF]at h1;have bT:k%sz<zv.cells.size:=by rw[hE.size];exact alk _ eB
  rw[aiM,madeCells,akT,Array.getElem?_range]at h2;rw[AI (by omega)]at h2;simp only[aff,cN,hE.size]at h2;simp_all
 refine⟨by rw[ajo,ajF,ajD,size_madeCells];omega,fun i e hi=>?_,fun i e j p y hi hj hy=>?_,fun k y hk=>hE.one _ y (fh k y hk)⟩
 ·rw[ajx]at hi;split at hi
  ·simp only[cN]at hi;subst hi;exact hE.len
  ·cases hi
 ·rw[ajx]at hi;split at hi
  ·simp only[cN]at hi;subst hi;have Cq:j<sz:=by rw[←hE.len];grind
   have:=fh _ y hy;rw[akl,ala,ajP Cq]at this;exact hE.rep j p y hj this
  ·cases hi
theorem Fj{draw:Bool}{site:Nat}{len cap:V}{f:Fr}{m:Mem}{k:V→Fr→Mem→bq→Option R}{r:R}(h:pI E draw site t len cap f m k=some r):∃f' m' b,(draw=true→m site=none∧f'=f∧m'=al m site b∧∀(f2:Fr)(m2:Mem),m2 site=none→∀(R':Type)(k':V→Fr→Mem→bq→Option R'),pI E true site t len cap f2 m2 k'=k' (.os site) f2 (al m2 site b) [(true,site)])∧k (.os site) f' m' [(true,site)]=some r∧(m' site).isSome=true∧∀(G:Nat→Option (List PV))(w0:bw)(μ:Ro)(φ:Nat→aA)(w:World)(ρ:Nat→Value)(yl yc:Value),av E.P G w0 μ φ m w→bU E.P μ φ m f ρ→ag E.P μ φ len yl→ag E.P μ φ cap yc→∃w' y φ',(Instr.makeSlice t yl yc).run E.P w=.ok y w'∧av E.P G w0 μ φ' m' w'∧bU E.P μ φ' m' f' ρ∧ag E.P μ φ' (.os site) y:=by
 unfold pI at h;split at h
 ·rename_i e ql n qc c hu;split at h
  ·rename_i z hz;split at h
   ·rename_i hb;obtain⟨f',m',_,hk,vd,xz,uS⟩:=dY h;refine⟨f',m',.arr (aQ E.P e) e (List.replicate n.toNat z),fun hd=>?_,hk,by simp[vd],fun G w0 μ φ w ρ yl yc hM hF hl hc=>?_⟩
    ·simp_all[pI,AI,fresh]
    ·obtain⟨i,zv,h1,h2,h3,_,h4⟩:=AP hz;obtain⟨hib,_⟩:=F4 h1;have Z7:c.toNat≤140737488355328:=by have:c.toNat*1≤c.toNat*E9 E.P e:=ajL _ hb.2.2.2.1;grind [ar]
     cases hl with
     |pv hl=>cases hl with
      |int wl=>
       cases hc with
       |pv hc=>cases hc with
        |int wc=>
         have aad:(i.bytes:Int)*c≤281474976710656:=by grind [ar,E9,Int.natCast_mul,Int.toNat_of_nonneg,Int.mul_comm]
         have hr:=run_make (P:=E.P) w t e i zv hu h1 h2 ql qc n c hb.1 hb.2.1 aad (by omega);rw[h3]at hr;obtain⟨φ',a1,a2,a3⟩:=uS E.P G w0 μ φ w _ ρ (Cn (some w.heap.size) c.toNat (List.replicate n.toNat z).length (aQ E.P e)) hM hF (jM.alloc (o:=.cells (madeCells zv.cells (c.toNat*aQ E.P e)) e) hM rfl (fun φ' hp _=>aH.nJ (g:=w.heap.size) (by rw[hp]) rfl hb.2.2.2.2 (by rw[hp];simp only[maxLen];omega) (fj w _) (by rw[hp];simp[size_madeCells]) (by rw[hp];simp;omega) (Cells.made (h4 μ) hb.2.2.2.2 _ _ (by omega))) (by simp[bF.names]));refine⟨_,_,φ',hr,a2,a3,?_⟩;have:=ag.os (P:=E.P) (μ:=μ) (φ:=φ') (id:=site) (g:=w.heap.size) (by rw[a1]);simp_all
   ·cases h
  ·cases h
 ·cases h
theorem MT(cells:Array Value)(n:Nat):Builtin.zeroCells cells n=madeCells cells (n*cells.size):=rfl
theorem RZ{x:V}{m:Mem}{k:V→Mem→bq→Option R}{r:R}(h:C5 E t x m k=some r):∃id b,(∀m2:Mem,m2 id=m id→∀(R':Type)(k':V→Mem→bq→Option R'),C5 E t x m2 k'=k' .top (al m2 id b) [(true,id)])∧k .top (al m id b) [(true,id)]=some r∧∀(G:Nat→Option (List PV))(w0:bw)(μ:Ro)(φ:Nat→aA)(w:World)(ρ:Nat→Value)(f:Fr)(yx:Value)(ts:List TypeId)(ty:TypeId),av E.P G w0 μ φ m w→bU E.P μ φ m f ρ→ag E.P μ φ x yx→∃w',(Builtin.clear_ (t::ts).toArray ty #[yx]).run E.P w=.ok (.tuple #[]) w'∧av E.P G w0 μ φ (al m id b) w'∧bU E.P μ φ (al m id b) f ρ:=by
 unfold C5 at h;split at h
 ·rename_i e hu;split at h
  ·rename_i id lo len z hz;split at h
   ·rename_i sz et es hm;split at h
    ·rename_i hc;obtain⟨mI,rfl,hle,eB⟩:=hc;refine⟨id,_,fun m2 cL R' k'=>?_,h,fun G w0 μ φ w ρ f yx ts ty hM hF hx=>?_⟩
     ·simp_all[C5,AI,trivial]
     ·obtain⟨i,zv,h1,h2,h3,h4,h5⟩:=AP hz;have hA:aH E.P μ φ w id sz et es:=hM.dw id _ hm;have acq:len=0→al m id (.arr sz et (es.take lo++(List.replicate len z++es.drop (lo+len))))=m:=by
       intro h0;subst h0;rw[List.replicate_zero,ajN,akj,List.take_append_drop];funext j;by_cases ej:j=id
       ·subst ej;simp[hm]
       ·rw[ao ej]
      cases hx with
      |pL hg=>rw[acq rfl];simp_all[Builtin.clear_,run_underlying]
      | @fq _ _ _ cap g a hg hl ha Z7 T8=>
       by_cases h0:len=0
       ·simp_all[Builtin.clear_,run_underlying]
       ·have od:=hA.nI;have RY:=hA.1;have ain:=hA.2.1;have acr:a=⟨g,lo*sz,none⟩:=by grind
        subst acr;obtain⟨c,T,c1,c2,c3,c4,c5⟩:=hA.cells hg;have MQ:zv.cells.size=sz:=by rw[(h5 μ).size,mI]
        have hn:len*zv.cells.size=len*sz:=by rw[MQ]
        have hlen:(madeCells zv.cells (len*sz)).toList.length=len*sz:=by simp[size_madeCells]
        have Y0:(lo+len)*sz≤es.length*sz:=ZG _ hle;have uw:(lo+len)*sz=lo*sz+len*sz:=ajc _ _ _;have tE:=Cells.made (P:=E.P) (μ:=μ) (by rw[←mI]at h5;exact h5 μ) (by omega) len len (aiJ _);have sI:∀v∈(madeCells zv.cells (len*sz)).toList,v.oneCell'=true:=fun v hv=>by obtain⟨j,hj⟩:=aiU hv;refine tE.one j v ?_;grind
        have vw:=run_storeCells_at E.P g (lo*sz) T (madeCells zv.cells (len*sz)).toList 0 c w c1 (by omega) sI;rw[hlen,akj]at vw;have hnl:(es.take lo++(List.replicate len z++es.drop (lo+len))).length=es.length:=by simp;omega
        refine⟨w.setRow g (c.toList.take (lo*sz)++(madeCells zv.cells (len*sz)).toList++c.toList.drop (lo*sz+len*sz)).toArray,?_,hM.write hm rfl hg (jS.setRow (aiJ _)) setRow_size (fun k hk=>bW hk) ?_ rfl (by simp[bF.names]),hF.lS (fun _ _ h=>h) .set⟩
        ·obtain⟨n',rfl⟩:∃n',len=n'+1:=⟨len-1,by omega⟩;simp_all[Builtin.clear_,run_underlying,nA,MT]
        ·refine aH.nJ (g:=g) ?_ hA.2.2.1 hA.2.2.2.1 od.2 (setRow_heap w g c _ T (0,0) c1) ?_ (by omega) ?_
         ·rw[hnl,←hA.1,←hA.2.1];cases hq:(φ id).toBI with
          |mk a b c d=>simp_all
         ·grind
         ·rw[hnl];have hM2:Cells E.P μ sz (List.replicate len z) (madeCells zv.cells (len*sz)).toList:=by grind
          have hX:=(c5.take lo).append (hM2.append (c5.drop (lo+len)));have e1:(c.toList.take (lo*sz)++(madeCells zv.cells (len*sz)).toList++c.toList.drop (lo*sz+len*sz)).take (es.length*sz)=(c.toList.take (es.length*sz)).take (lo*sz)++((madeCells zv.cells (len*sz)).toList++(c.toList.take (es.length*sz)).drop ((lo+len)*sz)):=by
           have l1:(c.toList.take (lo*sz)).length=lo*sz:=by grind
           have l2:(c.toList.take (lo*sz)++(madeCells zv.cells (len*sz)).toList).length=lo*sz+len*sz:=by simp_all
           grind [List.take_append,List.take_of_length_le,Nat.min_eq_left,List.drop_take,List.append_assoc]
          rw[e1];omega
    ·cases h
   ·cases h
  ·cases h
 ·cases h
theorem BO(off:Nat):∀(l:List Value)(k:Nat)(c:Array Value),off+k+l.length≤c.size→(l.zipIdx k).foldl (fun cs(x:Value×Nat)=>cs.setIfInBounds (off+x.2) x.1) c=(bG c.toList (off+k) l).toArray
 |[],k,c,_=>by simp[dx]
 |v::r,k,c,h=>by simp only[List.zipIdx_cons,ak9];rw[BO off r (k+1) _ (by simp at h⊢;omega)];congr 1;have e:=list_seg_step c.toList (off+k) v r (by omega);simp_all[dx,akM,ajg]
theorem wS{place:Nat→Option (Nat×Nat)}{c:Array Value}{i off size:Nat}{v:Value}{rest:List (Nat×Value)}(hp:place i=some (off,size))(hv:v.cells.size=size)(hb:off+size≤c.size):Instr.fill place c ((i,v)::rest)=Instr.fill place (bG c.toList off v.cells.toList).toArray rest:=by
 have h1:v.cells.zipIdx.foldl (fun cs(x:Value×Nat)=>cs.setIfInBounds (off+x.2) x.1) c=(bG c.toList off v.cells.toList).toArray:=by rw[←Array.foldl_toList,Array.toList_zipIdx];simp_all[BO]
 simp_all[Instr.fill,By]
theorem Dx{place:Nat→Option (Nat×Nat)}:∀{parts:List (Nat×V)}{cs ML:List V},FF place cs parts=some ML→(∀id,cd id ML=true→cd id cs=true∨cd id (parts.map (·.2))=true)∧ML.length=cs.length∧∀(P:Program)(μ:Ro)(φ:Nat→aA)(c:Array Value)(dd:List (Nat×Value)),dd.length=parts.length→(∀(j i:Nat)v,parts[j]?=some (i,v)→∃y,dd[j]?=some (i,y)∧ag P μ φ v y)→c.size=cs.length→(∀(i:Nat)u y,cs[i]?=some u→c[i]?=some y→ag P μ φ u y)→(∀(i:Nat)(y:Value),c[i]?=some y→y.oneCell'=true)→∃c',Instr.fill place c dd=some c'∧c'.size=ML.length∧(∀(i:Nat)u y,ML[i]?=some u→c'[i]?=some y→ag P μ φ u y)∧(∀(i:Nat)(y:Value),c'[i]?=some y→y.oneCell'=true)
 |[],cs,ML,h=>by simp only[FF,cN]at h;subst h;refine⟨fun id hid=>.inl hid,rfl,fun P μ φ c dd hl _ hs hr h1=>?_⟩;have:dd=[]:=ahk (by simpa using hl);subst this;exact⟨c,rfl,hs,hr,h1⟩
 |(i,v)::rest,cs,ML,h=>by
  simp only[FF]at h;split at h
  ·rename_i off size hp;split at h
   ·rename_i new hn;split at h
    ·rename_i hb;obtain⟨n1,n2,n3⟩:=toCells_ok hn;obtain⟨f1,f2,f3⟩:=Dx h;have hlen:(bG cs off new).length=cs.length:=cw (by omega);refine⟨fun id hid=>?_,by rw[f2,hlen],fun P μ φ c dd hl mJ hs hr h1=>?_⟩
     ·rcases f1 id hid with h|h
      ·obtain⟨u,hu,hh⟩:=cC.1 h;simp only[dx,aiW]at hu;rcases hu with(hu|hu)|hu
       ·exact .inl (bH (ajX hu) hh)
       ·exact .inr (by simp only[aiL,cd,aiI];exact .inl (n2 id (bH hu hh)))
       ·exact .inl (bH (akd hu) hh)
      ·exact .inr (by simp only[aiL,cd,aiI];exact .inr h)
     ·obtain⟨y,hy,Xk⟩:=mJ 0 i v (by simp);cases dd with
      |nil=>simp at hl
      |cons a lN=>
       simp at hy;subst hy;obtain⟨x1,x2,x3⟩:=n3 P μ φ y Xk;rw[wS hp x1 (by omega)];have pV:off+y.cells.toList.length≤c.toList.length:=by simp;omega
       have e1:y.cells.toList.length=new.length:=by simp;omega
       refine f3 P μ φ _ lN (by simpa using hl) (fun j i' v' hj=>?_) ?_ (fun j u z hu hz=>?_) (fun j z hz=>?_)
       ·have:=mJ (j+1) i' v' (by simpa using hj);simpa using this
       ·simp only[ajj];rw[cw pV,hlen];simp[hs]
       ·rw[ai0]at hz;rcases dc pV hz with⟨b1,b2,b3⟩|⟨b1,b2⟩<;>rcases dc (by omega) hu with⟨d1,d2,d3⟩|⟨d1,d2⟩
        ·exact x2 _ u z d3 (by simpa using b3)
        ·exfalso;omega
        ·exfalso;omega
        ·exact hr j u z d2 (by simpa using b2)
       ·rw[ai0]at hz;rcases dc pV hz with⟨b1,b2,b3⟩|⟨b1,b2⟩
        ·exact x3 _ z (by simpa using b3)
        ·exact h1 j z (by simpa using b2)
    ·cases h
   ·cases h
  ·cases h
theorem Dy:∀{fs:List Field},fs.all (fun f=>(E.P.info? f.type).isSome)=true→fs.mapM (fun f=>(E.P.info? f.type).map fun i=>(f.offset,i.size))=some (fs.map fun f=>(f.offset,aQ E.P f.type))
 |[],_=>rfl
 |f::r,h=>by simp only[ak3,No]at h;obtain⟨i,hi⟩:=aiO.1 h.1;simp only[akU,hi,aff,Dy h.2,aiL];simp[aQ,hi]
theorem R0{parts:List (Nat×V)}{k:V→Option R}{r:R}(h:AF E t parts k=some r):∃v,(∀(R':Type)(k':V→Option R'),AF E t parts k'=k' v)∧k v=some r∧(∀id,v.has id=true→cd id (parts.map (·.2))=true)∧∀(μ:Ro)(φ:Nat→aA)(w:World)(dd:Array (Nat×Value)),dd.size=parts.length→(∀(j i:Nat)v,parts[j]?=some (i,v)→∃y,dd[j]?=some (i,y)∧ag E.P μ φ v y)→∃z,(Instr.build t dd).run E.P w=.ok z w∧ag E.P μ φ v z:=by
 unfold AF at h;split at h
 ·rename_i z fs hz hu;split at h
  ·rename_i Fk;split at h
   ·rename_i cs hf;obtain⟨i,zv,h1,h2,h3,h4,h5,h6,h7,h8⟩:=ei hz;obtain⟨f1,f2,f3⟩:=Dx hf;refine⟨_,fun R' k'=>by simp_all[AF,AI],h,fun id hid=>?_,fun μ φ w dd hl hp=>?_⟩
    ·grind [V.has,id]
    ·obtain⟨c',c1,c2,c3,c4⟩:=f3 E.P μ φ zv.cells dd.toList (by omega) (fun j i v hj=>by simpa using hp j i v hj) (by omega) (h7 μ φ) h8;refine⟨_,run_build w t dd c' ?_,.agg c2.symm c3 c4⟩;simp only[Program.built,h1,hu,h2,Dy Fk];rw[←c1];congr 1;funext j;simp[placesOf]
   ·cases h
  ·cases h
 ·rename_i z n e hz hu;split at h
  ·rename_i eB;split at h
   ·rename_i cs hf;obtain⟨i,zv,h1,h2,h3,h4,h5,h6,h7,h8⟩:=ei hz;obtain⟨f1,f2,f3⟩:=Dx hf;refine⟨_,fun R' k'=>by simp_all[AF,AI],h,fun id hid=>?_,fun μ φ w dd hl hp=>?_⟩
    ·grind [V.has,id]
    ·obtain⟨c',c1,c2,c3,c4⟩:=f3 E.P μ φ zv.cells dd.toList (by omega) (fun j i v hj=>by simpa using hp j i v hj) (by omega) (h7 μ φ) h8;obtain⟨ie,hie,hse⟩:=wN (P:=E.P) (t:=e) (by omega);refine⟨_,run_build w t dd c' ?_,.agg c2.symm c3 c4⟩;simp only[Program.built,h1,hu,h2,hie,hse];omega
   ·cases h
  ·cases h
 ·cases h
theorem rW{n:Nat}{agg:Bool}:∀{parts:List (Nat×V)}{m m':Mem}{i:Nat}{ps:List PV},eU m n agg i parts=some (ps,m')→jj m m'∧ps.length=parts.length∧∀(P:Program)(G:Nat→Option (List PV))(w0:bw)(μ:Ro)(φ:Nat→aA)(w:World)(dd:List (Nat×Value))(es:List PV)(c:Array Value),av P G w0 μ φ m w→dd.length=parts.length→(∀(j i:Nat)v,parts[j]?=some (i,v)→∃y,dd[j]?=some (i,y)∧ag P μ φ v y)→es.length=i→c.size=(i+parts.length)*n→Cells P μ n es (c.toList.take (es.length*n))→∃μ' c',(∀b o,μ b=some o→μ' b=some o)∧av P G w0 μ' φ m' w∧Instr.fill (fun i=>some (i*n,n)) c dd=some c'∧c'.size=(i+parts.length)*n∧Cells P μ' n (es++ps) c'.toList
 |[],m,m',i,ps,h=>by
  simp only[eU,cN,IT]at h;obtain⟨rfl,rfl⟩:=h;refine⟨.refl _,rfl,fun P G w0 μ φ w dd es c hM hl _ he hc hC=>⟨μ,c,fun _ _ h=>h,hM,?_,hc,?_⟩⟩
  ·have:dd=[]:=ahk (by omega);subst this;rfl
  simp_all[aja,ajs,aiJ]
 |(j,v)::r,m,m',i,ps,h=>by
  simp only[eU]at h;split at h
  ·rename_i Y5;subst Y5;split at h
   ·rename_i p m1 hf;split at h
    ·rename_i Y2 m2 hr;simp only[cN,IT]at h;obtain⟨rfl,rfl⟩:=h;obtain⟨a1,a2⟩:=Dr hf;obtain⟨b1,b2,b3⟩:=rW hr;refine⟨a1.trans b1,by simp[b2],fun P G w0 μ φ w dd es c hM hl hp he hc hC=>?_⟩;obtain⟨y,hy,Xk⟩:=hp 0 i v (by simp);cases dd with
     |nil=>simp at hl
     |cons a lN=>
      simp at hy;subst hy;obtain⟨μ1,c1,c2,c3⟩:=a2 P G w0 μ φ w y hM Xk;have pV:i*n+n≤c.size:=by grind
      have YU:y.cells.toList.length=n:=by simpa using c3.size
      have Y6:i*n+y.cells.toList.length≤c.toList.length:=by simp_all
      obtain⟨μ2,c',d1,d2,d3,d4,d5⟩:=b3 P G w0 μ1 φ w lN (es++[p]) (bG c.toList (i*n) y.cells.toList).toArray c2 (by simpa using hl) (fun j i' v' hj=>by
       obtain⟨z,Y7,hz2⟩:=hp (j+1) i' v' (by simpa using hj);exact⟨z,by simpa using Y7,hz2.xn c1⟩) (by simp[he]) (by
       simp only[ajj];rw[cw Y6];grind) (by
       have e1:((bG c.toList (i*n) y.cells.toList).toArray.toList.take ((es++[p]).length*n))=c.toList.take (es.length*n)++y.cells.toList:=by simp only[dx,ai1,List.length_singleton,he];exact akK (by grind)
       rw[e1];refine(hC.mono c1).append ⟨by simp[YU],fun k e hk=>?_,fun k e l q z hk hl hz=>?_,fun k z hz=>c3.one k z (by simpa using hz)⟩
       ·cases k with
        |zero=>simp at hk;subst hk;exact c3.len
        |succ k=>simp at hk
       ·cases k with
        |zero=>simp at hk;subst hk;exact c3.rep l q z hl (by simpa using hz)
        |succ k=>simp at hk)
      refine⟨μ2,c',fun b o h=>d1 b o (c1 b o h),d2,?_,by grind,by simpa using d5⟩;rw[wS rfl c3.size pV];omega
    ·cases h
   ·cases h
  ·cases h
theorem F6:∀{parts:List (Nat×V)}{i:Nat}{cs:List V},C4 i parts=some cs→cs.length=parts.length∧(∀id,cd id cs=true→cd id (parts.map Prod.snd)=true)∧∀(P:Program)(μ:Ro)(φ:Nat→aA)(dd:List (Nat×Value))(c:Array Value),dd.length=parts.length→(∀(j i:Nat)v,parts[j]?=some (i,v)→∃y,dd[j]?=some (i,y)∧ag P μ φ v y)→c.size=i+parts.length→∃c',Instr.fill (fun i=>some (i*1,1)) c dd=some c'∧c'.size=c.size∧(∀j,j<i→c'[j]?=c[j]?)∧∀j u,cs[j]?=some u→∃y,c'[i+j]?=some y∧ag P μ φ u y∧y.oneCell'=true
 |[],i,cs,h=>by simp only[C4,cN]at h;subst h;refine⟨rfl,by simp[cd],fun P μ φ dd c hl _ hc=>⟨c,?_,rfl,fun _ _=>rfl,by simp⟩⟩;have:dd=[]:=ahk (by omega);subst this;rfl
 |(j,v)::r,i,cs,h=>by
  simp only[C4]at h;split at h
  ·rename_i Y5;subst Y5;split at h
   ·rename_i us0 hf;split at h
    ·rename_i us hr;simp only[cN]at h;subst h;obtain⟨a1,a2,a3⟩:=toCells_ok hf;obtain⟨b1,b2,b3⟩:=F6 hr;refine⟨by simp[a1,b1];omega,fun id hid=>?_,fun P μ φ dd c hl hp hc=>?_⟩
     ·obtain⟨u,hu,hh⟩:=cC.1 hid;rcases aiW.1 hu with hu|hu
      ·simp only[aiL,cd,aiI];exact .inl (a2 id (bH hu hh))
      ·simp only[aiL,cd,aiI];exact .inr (b2 id (bH hu hh))
     ·obtain⟨y,hy,Xk⟩:=hp 0 i v (by simp);cases dd with
      |nil=>simp at hl
      |cons a lN=>
       simp at hy;subst hy;obtain⟨c1,c2,c3⟩:=a3 P μ φ y Xk;have pV:i*1+1≤c.size:=by simp at hc;omega
       have YU:y.cells.toList.length=1:=by omega
       have Y6:i*1+y.cells.toList.length≤c.toList.length:=by simp_all
       obtain⟨c',d1,d2,d3,d4⟩:=b3 P μ φ lN (bG c.toList (i*1) y.cells.toList).toArray (by simpa using hl) (fun j i' v' hj=>by
        obtain⟨z,Y7,hz2⟩:=hp (j+1) i' v' (by simpa using hj);simp_all) (by
        grind [List.size_toArray,cw,Array.length_toList,List.length_cons])
       have sx:∀k,(bG c.toList (i*1) y.cells.toList).toArray[k]?=if k=i then y.cells[0]? else c[k]?:=fun k=>by rw[ai0];rw[dx];rw[abW,aiX,ajo,ajY (by omega),aiX,YU];grind
       refine⟨c',?_,by simp_all[ajj,cw],fun k hk=>?_,fun k u hu=>?_⟩
       ·rw[wS rfl c1 pV];omega
       ·grind
       ·have h0:us0.length=1:=a1;rw[aiX,h0]at hu;split at hu
        ·rename_i hk;have hk0:k=0:=by omega
         subst hk0;have h5:=d3 i (by omega);grind
        grind
    ·cases h
   ·cases h
  ·cases h
end
section
variable {P:Program}
theorem gC:∀(d:Nat)(t:TypeId)(ks:List Kd),As P d t=some ks→∀(D:Nat)(w:World)(em:Bool)(ps:List PV),jc ks ps=true→(Instr.checkKey em (D+d) t (eC P t ps)).run P w=.ok () w
 |0,t,ks,h,_,_,_,_,_=>by simp[As]at h
 |d+1,t,ks,h,D,w,em,ps,hp=>by
  have ih:=gC d;unfold As at h;split at h
  ·rename_i q hu;simp only[cN]at h;subst h;have ha:ax P t=false:=by simp[ax,hu]
   obtain⟨p,rfl,Tw⟩:=lR hp;clear hp;cases p<;>simp[sC]at Tw;simp[eC,ha,valOf,←ajg,Instr.checkKey,run_underlying hu]
  ·rename_i hu;simp only[cN]at h;subst h;have ha:ax P t=false:=by simp[ax,hu]
   obtain⟨p,rfl,Tw⟩:=lR hp;clear hp;cases p<;>simp[sC]at Tw;simp[eC,ha,valOf,←ajg,Instr.checkKey,run_underlying hu]
  ·rename_i hu;simp only[cN]at h;subst h;have ha:ax P t=false:=by simp[ax,hu]
   obtain⟨p,rfl,Tw⟩:=lR hp;clear hp;cases p<;>simp[sC]at Tw;simp[eC,ha,valOf,←ajg,Instr.checkKey,run_underlying hu]
  ·rename_i fs hu;split at h
   ·cases h
   ·obtain⟨a,ha,h⟩:=cQ.1 h;split at h
    ·rename_i hlen;simp only[cN]at h;subst h;have Ub:ax P t=true:=by simp[ax,hu]
     simp only[eC,Ub,IS,←ajg];rw[Instr.checkKey];simp only[Sem.run_bind,run_underlying hu,Result.andThen_ok];rw[←Array.forIn_toList];have key:∀(L:List Field)(off:Nat)(b:List Kd),pF (As P d) L off=some b→off≤ps.length→jc b (ps.drop off)=true→(forIn L PUnit.unit fun f(_:PUnit)=>(do
       if f.name≠ "_" then Instr.checkKey em (D+d) f.type (←part f.type (ps.map valOf).toArray f.offset)
       pure (ForInStep.yield PUnit.unit):Sem (ForInStep PUnit))).run P w=.ok PUnit.unit w:=by
      intro L;induction L with
      |nil=>intro off b _ _ _;simp
      |cons f L ihL=>
       intro off b hb o1 h1;simp only[pF]at hb;split at hb
       ·rename_i hf;obtain⟨c,hc,hb⟩:=cQ.1 hb;obtain⟨b',gN,hb⟩:=cQ.1 hb;simp only[cN]at hb;subst hb;rw[pP]at h1;have l1:=pd h1.1;simp only[ajo,aj4]at l1;have p1:=jz (w:=w) (ps:=ps) (off:=off) hc (by omega);have p3:=ih f.type c hc D w em _ h1.1;have p4:=ihL (off+c.length) b' gN (by omega) (by rw[←ajt];exact h1.2);simp only[List.forIn_cons,hf.2,alC,akr,IS,Sem.run_bind,hf.1,p1,p3,Result.andThen_ok,Sem.run_pure];exact p4
       ·cases hb
     have:=key fs.toList 0 a ha (by simp) (by simpa using hp);simp at this;simp[this]
    ·cases h
  ·rename_i n e hu;obtain⟨a,ha,h⟩:=cQ.1 h;split at h
   ·rename_i hlen;simp only[cN]at h;subst h;have Ub:ax P t=true:=by simp[ax,hu]
    obtain⟨_,_,de,hde⟩:=wP ha;have mI:(sizeOf e).run P w=.ok a.length w:=by rw[hlen.1];exact BL hde
    simp only[eC,Ub,IS,←ajg];rw[Instr.checkKey];simp only[Sem.run_bind,run_underlying hu,Result.andThen_ok];simp only[Std.Legacy.Range.forIn_eq_forIn_range',Std.Legacy.Range.size,alz,Nat.add_one_sub_one,Nat.div_one];have key:∀(k j:Nat),j*a.length≤ps.length→jc (pG a k) (ps.drop (j*a.length))=true→(forIn (List.range' j k) PUnit.unit fun i(_:PUnit)=>(do
      Instr.checkKey em (D+d) e (←part e (ps.map valOf).toArray (i*(←sizeOf e)))
      pure (ForInStep.yield PUnit.unit):Sem (ForInStep PUnit))).run P w=.ok PUnit.unit w:=by
     intro k;induction k with
     |zero=>intro j _ _;simp
     |succ k ihk=>
      intro j o1 h1;simp only[pG]at h1;rw[pP]at h1;have l1:=pd h1.1;simp only[ajo,aj4]at l1;have p1:=jz (w:=w) (ps:=ps) (off:=j*a.length) ha (by omega);have p3:=ih e a ha D w em _ h1.1;have ej:(j+1)*a.length=j*a.length+a.length:=by rw[ajc];omega
      have p4:=ihk (j+1) (by omega) (by rw[ej,←ajt];exact h1.2);rw[akx];simp only[List.forIn_cons,Sem.run_bind,mI,p1,p3,Result.andThen_ok,Sem.run_pure];exact p4
    have:=key n 0 (by simp) (by simpa using hp);simp at this;simp[this]
   ·cases h
  ·cases h
variable{kt:TypeId}{ks:List Kd}
theorem lj{μ:Ro}{k:PV}{y:Value}(h:uq P kt ks k=true)(hy:ah P μ k y):jc ks k.cells=true∧y=eC P kt k.cells:=by
 simp only[uq,No,beq_iff_eq]at h;refine⟨h.1,?_⟩;cases hq:k.isAgg with
 |true=>
  cases k<;>simp[PV.isAgg]at hq;cases hy with
  |agg h1 h2 h3=>have:=rR h.1 h1.symm h2;rw[this];simp[eC,h.2,PV.isAgg,PV.cells]
 |false=>
  have hc:k.cells=[k]:=by cases k<;>first|rfl|(simp[PV.isAgg]at hq)
  have h1:=h.1;rw[hc]at h1;cases ks with
  |nil=>simp[jc]at h1
  |cons kd r=>simp only[jc,No]at h1;have:=FW h1.1 hy;simp[eC,h.2,hq,hc,this]
theorem He:∀{ks:List Kd}{ps qs:List PV},jc ks ps=true→jc ks qs=true→dr ps qs=true→ps=qs
 |[],[],[],_,_,_=>rfl
 |k::ks,p::ps,q::qs,h1,h2,h3=>by
  simp only[jc,No]at h1 h2;simp only[dr,No]at h3;rw[He h1.2 h2.2 h3.2];have:p=q:=by cases k<;>cases p<;>simp[sC]at h1<;>cases q<;>simp[sC]at h2<;>simp[peq]at h3<;>simp_all
  rw[this]
 |[],p::ps,_,h,_,_=>by simp[jc]at h
 |k::ks,[],_,h,_,_=>by simp[jc]at h
 |[],[],q::qs,_,h,_=>by simp[jc]at h
 |k::ks,p::ps,[],_,h,_=>by simp[jc]at h
structure vA(P:Program)(μ:Ro)(kt:TypeId)(ks:List Kd)(l:List (PV×PV))(es:List MapEntry):Prop where
 len:es.length=l.length
 key:∀(i:Nat)k v,l[i]?=some (k,v)→uq P kt ks k=true
 rep:∀(i:Nat)k v e,l[i]?=some (k,v)→es[i]?=some e→ah P μ k e.key∧ah P μ v e.val
variable{l:List (PV×PV)}{es:List MapEntry}
theorem vA.tail{μ:Ro}{x:PV×PV}{e:MapEntry}(h:vA P μ kt ks (x::l) (e::es)):vA P μ kt ks l es:=⟨by simpa using h.len,fun i k v hi=>h.key (i+1) k v (by simpa using hi),fun i k v e hi he=>h.rep (i+1) k v e (by simpa using hi) (by simpa using he)⟩
inductive Found(k v:PV)(z:PV)(l:List (PV×PV))(es:List MapEntry)(i:Nat):Option (Nat×Value)→Prop
 |none:tp k l=false→cH k z l=z→dE k v l=l++[(k,v)]→Found k v z l es i none
 |some {j:Nat} {a u:PV} {e:MapEntry}:l[j]?=some (a,u)→es[j]?=some e→dr k.cells a.cells=true→tp k l=true→cH k z l=u→dE k v l=l.set j (k,v)→Found k v z l es i (some (i+j,e.val))
theorem Found.cons{k v z:PV}{x:PV×PV}{l:List (PV×PV)}{e:MapEntry}{es:List MapEntry}{i:Nat}{r:Option (Nat×Value)}(hx:dr k.cells x.1.cells=false)(h:Found k v z l es (i+1) r):Found k v z (x::l) (e::es) i r:=by
 obtain⟨a,u⟩:=x;cases h with
 |none h1 h2 h3=>exact .none (by simpa[tp,hx]using h1) (by simpa[cH,hx]using h2) (by simpa[dE,hx]using h3)
 | @some j a' u' e' h1 h2 h3 h4 h5 h6=>have:=Found.some (k:=k) (v:=v) (z:=z) (l:=(a,u)::l) (es:=e::es) (i:=i) (j:=j+1) (a:=a') (u:=u') (e:=e') (by simpa using h1) (by simpa using h2) h3 (by simpa[tp,hx]using h4) (by simpa[cH,hx]using h5) (by simpa[dE,hx]using h6);rw[show i+1+j=i+(j+1) by omega];exact this
theorem Found.here{k v z:PV}{a u:PV}{e:MapEntry}{i:Nat}(hx:dr k.cells a.cells=true):Found k v z ((a,u)::l) (e::es) i (Option.some (i,e.val)):=by have:=Found.some (k:=k) (v:=v) (z:=z) (l:=(a,u)::l) (es:=e::es) (i:=i) (j:=0) (a:=a) (u:=u) (e:=e) (by simp) (by simp) hx (by simp[tp,hx]) (by simp[cH,hx]) (by simp[dE,hx]);simpa using this
theorem pW{μ:Ro}{kt:TypeId}{ks:List Kd}{k v z:PV}(hk:As P 8 kt=some ks)(E5:jc ks k.cells=true)(w:World):∀(l:List (PV×PV))(es:List MapEntry)(i:Nat),vA P μ kt ks l es→∃r,(Instr.findAsking kt (eC P kt k.cells) es i).run P w=.ok r w∧Found k v z l es i r
 |[],es,i,h=>by have:es=[]:=ahk (by simpa using h.len);subst this;exact⟨none,by simp[Instr.findAsking],.none rfl rfl rfl⟩
 |(a,u)::l,es,i,h=>by
  cases es with
  |nil=>have:=h.len;simp at this
  |cons e es=>
   have hka:=h.key 0 a u (by simp);obtain⟨h1,h2⟩:=lj hka (h.rep 0 a u e (by simp) (by simp)).1;have he:(Op.equal kt (eC P kt k.cells) e.key).run P w=.ok (dr k.cells a.cells) w:=by rw[h2];exact og 8 kt ks hk 9992 w _ _ E5 h1
   cases hp:dr k.cells a.cells with
   |true=>exact⟨some (i,e.val),by simp[Instr.findAsking,he,hp],.here hp⟩
   |false=>obtain⟨r,r1,r2⟩:=pW (v:=v) (z:=z) hk E5 w l es (i+1) h.tail;exact⟨r,by simp[Instr.findAsking,he,hp,r1],r2.cons hp⟩
theorem BP{μ:Ro}{kt:TypeId}{d:TypeDesc}{ks:List Kd}{k v z:PV}(hu:P.underlying kt=some d)(ha:ax P kt=false)(hk:As P 8 kt=some ks)(E5:jc ks k.cells=true):∀(l:List (PV×PV))(es:List MapEntry)(i:Nat),vA P μ kt ks l es→∃r,Instr.findNow d (eC P kt k.cells) es i=some r∧Found k v z l es i r
 |[],es,i,h=>by have:es=[]:=ahk (by simpa using h.len);subst this;exact⟨none,by simp[Instr.findNow],.none rfl rfl rfl⟩
 |(a,u)::l,es,i,h=>by
  cases es with
  |nil=>have:=h.len;simp at this
  |cons e es=>
   have hka:=h.key 0 a u (by simp);obtain⟨h1,h2⟩:=lj hka (h.rep 0 a u e (by simp) (by simp)).1;have he:Instr.sameNow d (eC P kt k.cells) e.key=some (dr k.cells a.cells):=by
    rw[h2];have pX:=hk;unfold As at pX;rw[hu]at pX;cases d<;>simp at pX<;>try (simp[ax,hu]at ha;done)
    all_goals subst pX;obtain⟨p,hp1,hp2⟩:=lR E5;obtain⟨q,hq1,hq2⟩:=lR h1;rw[hp1,hq1];cases p<;>simp[sC]at hp2;cases q<;>simp[sC]at hq2;simp[eC,ha,valOf,Instr.sameNow,dr,peq,hp2,hq2]
    all_goals (rw[aiN,Go.MapKept.bytes_beq];simp only[beq_iff_eq];exact⟨fun hh=>by have:=congrArg ByteArray.data hh;simpa using this,fun hh=>by rw[hh]⟩)
   cases hp:dr k.cells a.cells with
   |true=>exact⟨some (i,e.val),by simp[Instr.findNow,he,hp],.here hp⟩
   |false=>obtain⟨r,r1,r2⟩:=BP (v:=v) (z:=z) hu ha hk E5 l es (i+1) h.tail;exact⟨r,by simp[Instr.findNow,he,hp,r1],r2.cons hp⟩
theorem kD{μ:Ro}{k v z:PV}(hk:As P 8 kt=some ks)(E5:jc ks k.cells=true)(w:World)(h:vA P μ kt ks l es):∃r,(Instr.findKey kt (eC P kt k.cells) es).run P w=.ok r w∧Found k v z l es 0 r:=by
 obtain⟨_,_,d,hu⟩:=wP hk;cases ha:ax P kt with
 |true=>rw[run_findKey_eq w (by unfold ax at ha;rw[hu]at ha⊢;cases d<;>simp_all)];exact pW hk E5 w l es 0 h
 |false=>obtain⟨r,r1,r2⟩:=BP (v:=v) (z:=z) hu ha hk E5 l es 0 h;exact⟨r,Go.MapKept.run_findKey hu r1,r2⟩
end
section
variable {R:Type} {E:Env}
variable{P:Program}{t:TypeId}{ks:List Kd}
theorem wT(h:re P t=some ks):As P 8 t=some ks:=by simp_all[re]
variable{kt:TypeId}
theorem sM{v:V}{key:PV}(h:keyOf E kt v=some key):∃ks,re E.P kt=some ks∧uq E.P kt ks key=true∧∀(μ:Ro)(φ:Nat→aA)(y:Value),ag E.P μ φ v y→ah E.P μ key y:=by
 unfold keyOf at h;split at h
 ·rename_i ks Uc;refine⟨ks,Uc,?_⟩;split at h
  ·rename_i ha;split at h
   ·rename_i cs hc;split at h
    ·rename_i ps hp;split at h
     ·rename_i Qu;simp only[cN]at h;subst h;obtain⟨_,c2⟩:=nH hc;obtain⟨p1,p2⟩:=gr hp;refine⟨by simp_all[uq,PV.cells,PV.isAgg],fun μ φ y hy=>?_⟩;obtain⟨xs,rfl,h1,h2,h3⟩:=c2 E.P μ φ y hy;refine .agg (by omega) (fun i q z hq hz=>?_) h3;grind [sJ]
     ·cases h
    ·cases h
   ·cases h
  ·rename_i ha;split at h
   ·rename_i p;split at h
    ·rename_i Qu;simp only[cN]at h;subst h;refine⟨?_,fun μ φ y hy=>by cases hy with|pv hy=>omega⟩;cases ks with
     |nil=>simp[jc]at Qu
     |cons kd r=>
      have acs:=Qu;simp only[jc,No]at acs;have YW:ax E.P kt=false:=by simpa using ha
      cases kd<;>cases p<;>simp[sC]at acs<;>simp_all[uq,PV.cells,PV.isAgg]
    ·cases h
   ·cases h
 ·cases h
variable{en:Array MapEntry}
theorem kL.push{clock:Nat}(h:kL en clock){k v:Value}:kL (en.push {key:=k,val:=v,born:=clock}) (clock+1):=by
 intro i e hi;rw[akH]at hi;split at hi
 ·rename_i e1;simp only[cN]at hi;subst hi;refine⟨Nat.lt_succ_self _,fun j e' hj hb=>?_⟩;rw[akH]at hj;split at hj
  ·omega
  ·have:=(h j e' hj).1;simp_all
 ·obtain⟨h1,h2⟩:=h i e hi;grind
theorem kL.modify{en:Array MapEntry}{clock:Nat}(h:kL en clock)(f:MapEntry→MapEntry)(hf:∀e,(f e).born=e.born)(k:Nat):kL (en.modify k f) clock:=by
 have key:∀(i:Nat)e,(en.modify k f)[i]?=some e→∃e0,en[i]?=some e0∧e.born=e0.born:=fun i e hi=>by grind
 intro i e hi;obtain⟨e0,h0,hb0⟩:=key i e hi;obtain⟨h1,h2⟩:=h i e0 h0;grind
inductive Uo(w:World):Value→Array MapEntry→Prop
 |nil:Uo w (.map none) #[]
 |at{g clock:Nat} {en:Array MapEntry}:w.heap[g]?=some (.map en clock)→Uo w (.map (some g)) en
theorem pY{μ:Ro}{et:TypeId}{key z:PV}{zv y yi:Value}{w:World}{l:List (PV×PV)}{ok:Bool}(hu:P.underlying t=some (.map kt et))(hk:re P kt=some ks)(xf:uq P kt ks key=true)(hyi:ah P μ key yi)(hy:Uo w y en)(hE:vA P μ kt ks l en.toList)(hz:(zeroValue et).run P w=.ok zv w)(hzr:ah P μ z zv):∃v,(Instr.lookup t y yi ok).run P w=.ok (if ok then .tuple #[v,.bool (tp key l)]else v) w∧ah P μ (cH key z l) v:=by
 have R1:=wT hk;obtain⟨hc,hv⟩:=lj xf hyi;obtain⟨r,r1,r2⟩:=kD (v:=.bad) (z:=z) R1 hc w hE;have h1:=gC 8 kt ks R1 9992 w en.isEmpty key.cells hc;rw[hv];have ob:∀(x:Value×Bool),(r=none→x=(zv,false))→(∀j v,r=some (j,v)→x=(v,true))→(Instr.lookup t y (eC P kt key.cells) ok).run P w=.ok (if ok then .tuple #[x.1,.bool x.2]else x.1) w:=by
  intro x hx1 hx2;cases hy with
  |nil=>
   have WK:(Instr.checkKey true 10000 kt (eC P kt key.cells)).run P w=.ok () w:=h1;have r1':(Instr.findKey kt (eC P kt key.cells) []).run P w=.ok r w:=r1;unfold Instr.lookup;simp only[Sem.run_bind,run_underlying hu,Result.andThen_ok,Sem.run_pure];cases r with
   |none=>simp_all
   |some jv=>obtain⟨j,v⟩:=jv;simp_all
  | «at» hg=>
   have Fh:=Go.MapKept.run_getObj_map (P:=P) hg;have WK:(Instr.checkKey en.isEmpty 10000 kt (eC P kt key.cells)).run P w=.ok () w:=h1;unfold Instr.lookup;simp only[Sem.run_bind,run_underlying hu,Result.andThen_ok,Sem.run_pure,Fh];cases r with
   |none=>simp_all
   |some jv=>obtain⟨j,v⟩:=jv;simp_all
 cases r2 with
 |none f1 f2 f3=>grind
 | @some j a u e f1 f2 f3 f4 f5 f6=>refine⟨e.val,?_,by rw[f5];exact(hE.rep j a u e f1 f2).2⟩;simp_all
variable{m:Mem}
theorem MU{x ix:V}{ok:Bool}{k:V→bq→Option R}{r:R}(h:tu E t x ix ok m k=some r):∃v ft,(∀m2:Mem,(∀x∈ft,m2 x.2=m x.2)→∀(R':Type)(k':V→bq→Option R'),tu E t x ix ok m2 k'=k' v ft)∧k v ft=some r∧(∀x∈ft,x.1=false)∧(∀id,v.has id=false)∧∀(G:Nat→Option (List PV))(w0:bw)(μ:Ro)(φ:Nat→aA)(w:World)(y yi:Value),av E.P G w0 μ φ m w→ag E.P μ φ x y→ag E.P μ φ ix yi→∃u,(Instr.lookup t y yi ok).run E.P w=.ok u w∧ag E.P μ φ v u:=by
 have out:∀(q:PV)(b:Bool)(id:Nat),(if ok=true then V.aP [.pv q,.pv (.bool b)]else .pv q).has id=false:=by grind [id,V.has,cd]
 have rep:∀(μ:Ro)(φ:Nat→aA)(q:PV)(b:Bool)(v:Value),ah E.P μ q v→ag E.P μ φ (if ok=true then V.aP [.pv q,.pv (.bool b)]else .pv q) (if ok=true then .tuple #[v,.bool b]else v):=by
  intro μ φ q b v hv;cases ok with
  |false=>exact .pv hv
  |true=>
   refine .aP (by simp) fun i p y hp hy=>?_;match i with
   |0=>simp at hp hy;subst hp;subst hy;exact .pv hv
   |1=>simp at hp hy;subst hp;subst hy;exact .pv .bool
   |n+2=>simp at hp
 unfold tu at h;split at h
 ·rename_i kt et hu;split at h
  ·rename_i z hz;obtain⟨zv,Y7,hz2⟩:=MS hz;split at h
   ·rename_i id;split at h
    ·rename_i uR es hm;split at h
     ·rename_i hkt;subst hkt;obtain⟨key,xf,h⟩:=cQ.1 h;obtain⟨q,q1,q2,q3,_⟩:=kA h;obtain⟨ks,k1,k2,k3⟩:=sM xf;refine⟨_,_,fun m2 cL R' k'=>by have:=cL (false,id) (by simp);simp_all[tu,aiH,IS],q2,by simp,out q _,fun G w0 μ φ w y yi hM hx hi=>?_⟩;obtain⟨g,en,clock,kk,hg,hh,hs,hk,Qu,_,hv⟩:=hM.dw id _ hm;rw[k1]at hk;simp only[cN]at hk;subst hk;cases hx with
      |om cv=>rw[hg]at cv;simp only[cN]at cv;subst cv;obtain⟨v,v1,v2⟩:=pY (ok:=ok) (z:=z) hu k1 k2 (k3 μ φ yi hi) (.at hh) (l:=es) ⟨by omega,Qu,fun i k v e h1 h2=>hv i k v e h1 (by simpa using h2)⟩ (Y7 w) (hz2 μ);exact⟨_,v1,rep μ φ q _ v (q3 _ _ _ v2)⟩
     ·cases h
    ·cases h
   ·rename_i pm;unfold df at h;split at h
    ·obtain⟨key,xf,h⟩:=cQ.1 h;obtain⟨ks,k1,k2,k3⟩:=sM xf;refine⟨_,_,fun m2 cL R' k'=>by simp_all[tu,df,aiH],h,by simp,out z _,fun G w0 μ φ w y yi hM hx hi=>?_⟩;cases hx with
     |pv hx=>cases hx with
      |sA=>obtain⟨v,v1,v2⟩:=pY (ok:=ok) (z:=z) hu k1 k2 (k3 μ φ yi hi) .nil (l:=[]) ⟨by simp,by simp,by simp⟩ (Y7 w) (hz2 μ);exact⟨_,v1,rep μ φ z _ v v2⟩
    ·rename_i uR ks' vs';split at h
     ·rename_i hkt;subst hkt;obtain⟨key,xf,h⟩:=cQ.1 h;obtain⟨q,q1,q2,q3,_⟩:=kA h;obtain⟨ks,k1,k2,k3⟩:=sM xf;refine⟨_,_,fun m2 cL R' k'=>by simp_all[tu,df,aiH,IS],q2,by simp,out q _,fun G w0 μ φ w y yi hM hx hi=>?_⟩;cases hx with
      |pv hx=>cases hx with
       | @rm _ _ _ b clock en kk m1 m2 m3 m4 m5 m6 m7=>
        rw[k1]at m4;simp only[cN]at m4;subst m4;have aae:∀(i:Nat)k v,(ks'.zip vs')[i]?=some (k,v)→ks'[i]?=some k∧vs'[i]?=some v:=fun i k v h=>by grind
        obtain⟨v,v1,v2⟩:=pY (ok:=ok) (z:=z) hu k1 k2 (k3 μ φ yi hi) (.at (hM.ro _ _ m1)) (l:=ks'.zip vs') ⟨by simp[m2,m3],fun i k v h=>m5 i k (aae i k v h).1,fun i k v e h1 h2=>⟨m6 i k e (aae i k v h1).1 (by simpa using h2),m7 i v e (aae i k v h1).2 (by simpa using h2)⟩⟩ (Y7 w) (hz2 μ);exact⟨_,v1,rep μ φ q _ v (q3 _ _ _ v2)⟩
     ·cases h
    ·cases h
   ·cases h
  ·cases h
 ·cases h
variable{m':Mem}
theorem F7{v:V}{p:PV}(h:tq m v=some (p,m')):jj m m'∧∀(P:Program)(G:Nat→Option (List PV))(w0:bw)(μ:Ro)(φ:Nat→aA)(w:World)(x:Value),av P G w0 μ φ m w→ag P μ φ v x→∃μ',(∀b o,μ b=some o→μ' b=some o)∧av P G w0 μ' φ m' w∧ah P μ' p x:=by
 unfold tq at h;split at h
 ·rename_i cs;split at h
  ·rename_i ps m1 hf;simp only[cN,IT]at h;obtain⟨rfl,rfl⟩:=h;obtain⟨f1,f2,f3⟩:=Dp hf;refine⟨f1,fun P G w0 μ φ w x hM hx=>?_⟩;cases hx with
   | @agg _ xs h1 h2 h3=>
    have hX:∀(i:Nat),i<cs.length→xs[i]?=some (xs.getD i undef):=fun i hi=>by simp_all
    obtain⟨μ',e1,e2,e3⟩:=f3 P G w0 μ φ w (fun i=>xs.getD i undef) hM fun i u hu=>h2 i u _ hu (hX i (AT.1 hu).1);refine⟨μ',e1,e2,.agg (by omega) (fun j q y hq hy=>?_) h3⟩;grind
  ·cases h
 ·exact QA h
theorem BQ{v:V}{p:PV}(h:tq cU v=some (p,m')):∀(P:Program)(μ:Ro)(φ:Nat→aA)(x:Value),ag P μ φ v x→ah P μ p x:=by
 unfold tq at h;split at h
 ·rename_i cs;split at h
  ·rename_i ps m1 hf;simp only[cN,IT]at h;obtain⟨rfl,rfl⟩:=h;obtain⟨f2,f3⟩:=yj hf;intro P μ φ x hx;cases hx with
   | @agg _ xs h1 h2 h3=>
    have hX:∀(i:Nat),i<cs.length→xs[i]?=some (xs.getD i undef):=fun i hi=>by simp_all
    have e3:=f3 P μ φ (fun i=>xs.getD i undef) fun i u hu=>h2 i u _ hu (hX i (AT.1 hu).1);refine .agg (by omega) (fun j q y hq hy=>?_) h3;grind
  ·cases h
 ·exact F1 h
theorem MV{draw:Bool}{v:V}{p:PV}(h:zb draw m v=some (p,m')):jj m m'∧(draw=true→m'=m∧∀m2:Mem,zb true m2 v=some (p,m2))∧∀(P:Program)(G:Nat→Option (List PV))(w0:bw)(μ:Ro)(φ:Nat→aA)(w:World)(x:Value),av P G w0 μ φ m w→ag P μ φ v x→∃μ',(∀b o,μ b=some o→μ' b=some o)∧av P G w0 μ' φ m' w∧ah P μ' p x:=by
 unfold zb at h;split at h
 ·rename_i hd;split at h
  ·rename_i q m1 hf;simp only[cN,IT]at h;obtain⟨rfl,rfl⟩:=h;exact⟨.refl _,fun _=>⟨rfl,fun m2=>by simp[zb,hf]⟩,fun P G w0 μ φ w x hM hx=>⟨μ,fun _ _ h=>h,hM,BQ hf P μ φ x hx⟩⟩
  ·cases h
 grind [F7,absurd]
theorem xA:∀{ps:List PV},jc ks ps=true→∀(n:Nat),(ps.map valOf).all (fun v=>Instr.sameBits n v v)=true:=by
 induction ks with
 |nil=>intro ps h n;cases ps<;>simp[jc]at h;rfl
 |cons k ks ih=>
  intro ps h n;cases ps with
  |nil=>rfl
  |cons p ps=>simp only[jc,No]at h;simp only[aiL,ak3,ih h.2 n,akb];cases k<;>cases p<;>simp[sC]at h<;>simp[valOf,Instr.sameBits,Go.MapKept.bytes_beq]
theorem vB{ps:List PV}(h:jc ks ps=true)(hl:ax P t=false→ps.length=1)(n:Nat):Instr.sameBits (n+1) (eC P t ps) (eC P t ps)=true:=by
 unfold eC;cases ha:ax P t with
 |true=>have:=xA h n;simp only[IS,Instr.sameBits,BEq.rfl,aj9];grind
 |false=>
  have h1:=hl ha;match ps,h1 with
  |[p],_=>have:=xA h (n+1);simpa using this
theorem xB{draw:Bool}{x key val:V}{k:Mem→bq→Option R}{r:R}(h:mT E draw t x key val m k=some r):∃m' ft,k m' ft=some r∧(draw=true→∃id b,m'=al m id b∧ft=[(true,id)]∧∀m2:Mem,m2 id=m id→∀(R':Type)(k':Mem→bq→Option R'),mT E true t x key val m2 k'=k' (al m2 id b) [(true,id)])∧jj m m'∧∀(G:Nat→Option (List PV))(w0:bw)(μ:Ro)(φ:Nat→aA)(w:World)(ya yk yv:Value),av E.P G w0 μ φ m w→ag E.P μ φ x ya→ag E.P μ φ key yk→ag E.P μ φ val yv→∃w' μ',(Instr.mapUpdate t ya yk yv).run E.P w=.ok () w'∧(∀b o,μ b=some o→μ' b=some o)∧av E.P G w0 μ' φ m' w':=by
 unfold mT at h;split at h
 ·rename_i kt et hu;split at h
  ·rename_i id;split at h
   ·rename_i v m1 hf;obtain⟨f1,f2,f3⟩:=MV hf;split at h
    ·rename_i uR es hm;split at h
     ·rename_i hkt;subst hkt;obtain⟨kp,xf,h⟩:=cQ.1 h;obtain⟨ks,k1,k2,k3⟩:=sM xf;refine⟨_,_,h,fun hd=>?_,f1.trans .set,fun G w0 μ φ w ya yk yv hM hx hk hv=>?_⟩
      ·obtain⟨rfl,f4⟩:=f2 hd;exact⟨id,_,rfl,rfl,fun m2 cL R' k'=>by simp_all[mT,aiH,IS]⟩
      ·obtain⟨μ',g1,g2,g3⟩:=f3 _ _ _ _ _ _ _ hM hv;obtain⟨g,en,clock,kk,hg,hh,hs,E5,Qu,wK,jR⟩:=g2.dw id _ hm;rw[k1]at E5;simp only[cN]at E5;subst E5;have R1:=wT k1;have hkr:=(k3 μ φ yk hk).mono g1;obtain⟨hc,hkv⟩:=lj k2 hkr;have hE:vA E.P μ' uR ks es en.toList:=⟨by omega,Qu,fun i k v e h1 h2=>jR i k v e h1 (by simpa using h2)⟩;obtain⟨res,r1,r2⟩:=kD (v:=v) (z:=.bad) R1 hc w hE;have Fh:=Go.MapKept.run_getObj_map (P:=E.P) hh;have h1:(Instr.checkKey false 10000 uR yk).run E.P w=.ok () w:=by rw[hkv];exact gC 8 uR ks R1 9992 w false kp.cells hc
       rw[←hkv]at r1;have bT:g<w.heap.size:=(OF.1 hh).1;cases hx with
       |om cv=>
        rw[hg]at cv;simp only[cN]at cv;subst cv;have fin:∀(o:Obj)(Mq:Array MapEntry)(oi:Nat),o=.map Mq oi→(Instr.mapUpdate t (.map (some g)) yk yv).run E.P w=.ok () {w with heap:=w.heap.setIfInBounds g o}→kL Mq oi→vA E.P μ' uR ks (dE kp v es) Mq.toList→∃w' μ',(Instr.mapUpdate t (.map (some g)) yk yv).run E.P w=.ok () w'∧(∀b o,μ b=some o→μ' b=some o)∧av E.P G w0 μ' φ (al m1 id (.map uR (dE kp v es))) w':=by rintro o Mq oi rfl hr agr hE';refine⟨_,μ',hr,g1,g2.write hm rfl hg ⟨⟨rfl,rfl,rfl,by simp,fun k hk=>by grind⟩,fun _=>aiJ _⟩ (by simp) (fun k hk=>by grind) ?_ rfl (by simp[bF.names])⟩;exact⟨g,Mq,oi,ks,hg,by simp[bT],by simpa using hE'.len,k1,hE'.key,agr,fun i k v e h1 h2=>hE'.rep i k v e h1 (by simpa using h2)⟩
        cases r2 with
        |none e1 e2 e3=>
         have Xl:=Go.MapKept.run_setObj_map (P:=E.P) (.map (en.push {key:=yk,val:=yv,born:=clock}) (clock+1)) hh;refine fin _ _ _ rfl (by simp only[Instr.mapUpdate,Sem.run_bind,run_underlying hu,Fh,h1,r1,Result.andThen_ok];exact Xl) wK.push ?_;rw[e3];have fh:∀(i:Nat)k' v' e,(es++[(kp,v)])[i]?=some (k',v')→(en.push {key:=yk,val:=yv,born:=clock}).toList[i]?=some e→(es[i]?=some (k',v')∧en.toList[i]?=some e)∨(k'=kp∧v'=v∧e.key=yk∧e.val=yv):=by grind
         refine⟨by simp[hs],fun i k' v' h=>?_,fun i k' v' e h1 h2=>?_⟩
         ·grind
         grind
        | @some j a u e e1 e2 e3 e4 e5 e6=>
         have e2':en[j]?=some e:=by simpa using e2
         obtain⟨hca,hva⟩:=lj (Qu j a u e1) (jR j a u e e1 e2').1;have tF:=He hc hca e3;have hsb:Instr.sameBits 10000 e.key yk=true:=by rw[hva,hkv,←tF];refine vB (n:=9999) hc (fun ha=>?_);rw[pd hc];exact(wP R1).2.1 ha
         have Xl:=Go.MapKept.run_setObj_map (P:=E.P) (.map (en.modify j fun e=>{e with key:=yk,val:=yv}) clock) hh;have Cq:j<en.size:=(OF.1 e2').1;refine fin _ _ _ rfl (by simp only[Instr.mapUpdate,Sem.run_bind,run_underlying hu,Fh,h1,r1,Result.andThen_ok];simp only[ajk,e2',aff,aju,Instr.keyThatStays,hsb,IS,Sem.run_pure,Result.andThen_ok];exact Xl) (wK.modify (fun e=>{e with key:=yk,val:=yv}) (fun _=>rfl) _) ?_;rw[e6];have vz:∀(i:Nat)k' v',(es.set j (kp,v))[i]?=some (k',v')→(i=j∧k'=kp∧v'=v)∨(i≠j∧es[i]?=some (k',v')):=by grind
         refine⟨by simp[hs],fun i k' v' h=>?_,fun i k' v' e' h1 h2=>?_⟩
         ·grind
         grind
     ·cases h
    ·cases h
   ·cases h
  ·cases h
 ·cases h
theorem JR{μ:Ro}{φ:Nat→aA}{w:World}{site:Nat}(hk:re P kt=some ks)(hφ:(φ site).g=some w.heap.size):gf P μ φ (w.alloc (.map #[] 0)) site (.map kt []):=⟨w.heap.size,#[],0,ks,hφ,fj w _,rfl,hk,by simp,fun i e h=>by simp at h,by simp⟩
end
def tz(P:Program)(G:Nat→Option (List PV))(g:FuncId)(M:List PV→Option PV):Prop:=
 (∃fn c,P.funcs[g]?=some fn∧fn.body=some c∧(fn.name== "runtime.NumGoroutine")=false)∧
 ∀(ps:List PV)(r:PV),M ps=some r→∀(w:World)(μ:Ro)(xs:Array Value),(∀b o,μ b=some o→w.heap[b]?=some o)→(∀g cs,G g=some cs→xm P μ g cs)→ps.length=xs.size→(∀(i:Nat)p x,ps[i]?=some p→xs[i]?=some x→ah P μ p x)→Calls P g xs w fun e w'=>∃y,e=.returned y∧jS w.heap.size w w'∧ah P (cr μ w w') r y
def AK(P:Program)(G:Nat→Option (List PV))(g:FuncId)(M:List PV→Option PV):Prop:=
 (∃fn c,P.funcs[g]?=some fn∧fn.body=some c∧(fn.name== "runtime.NumGoroutine")=false)∧
 ∀(fn:Func)(t e:TypeId),P.funcs[g]?=some fn→fn.resultTypes.toList=[t]→P.underlying t=some (.slice e)→∀(ps:List PV)(r:PV),M ps=some r→∀(w:World)(μ:Ro)(xs:Array Value),(∀b o,μ b=some o→w.heap[b]?=some o)→(∀g cs,G g=some cs→xm P μ g cs)→ps.length=xs.size→(∀(i:Nat)p x,ps[i]?=some p→xs[i]?=some x→ah P μ p x)→Calls P g xs w fun en w'=>∃(y:Value)(ph:aA)(es:List PV),en=.returned y∧jS w.heap.size w w'∧r=.rs (aQ P e) es∧(∀g,ph.g=some g→w.heap.size≤g)∧aH P (lO (cr μ w w') ph.g) (fun _=>ph) w' 0 (aQ P e) e es∧ag P μ (fun _=>ph) (.os 0) y
def acu(m:Mem):Option (Nat×bF)→Mem
 |some (id,b)=>al m id b
 |none=>m
def acv(E:Env)(g:FuncId)(args:List V)(f:Fr)(m:Mem)(v:V)(f':Fr)(m':Mem):Prop:=
 (∃fn c,E.P.funcs[g]?=some fn∧fn.body=some c∧(fn.name== "runtime.NumGoroutine")=false)∧
 ∀(w0:bw)(μ:Ro)(φ:Nat→aA)(ρ:Nat→Value)(w:World)(xs:Array Value),av E.P E.aF w0 μ φ m w→bU E.P μ φ m f ρ→args.length=xs.size→(∀(i:Nat)v x,args[i]?=some v→xs[i]?=some x→ag E.P μ φ v x)→(∀id,cd id args=true→(m id).isSome=true)→Calls E.P g xs w fun e w'=>∃y μ' φ',e=.returned y∧av E.P E.aF w0 μ' φ' m' w'∧bU E.P μ' φ' m' f' ρ∧ag E.P μ' φ' v y∧∀id,v.has id=true→(m' id).isSome=true
def Hf{R:Type}(P:Program)(G:Nat→Option (List PV))(g:FuncId)(args:List V)(f:Fr)(m:Mem)(k:V→Fr→Mem→Option R)(r:R):Prop:=
 (∃fn c,P.funcs[g]?=some fn∧fn.body=some c∧(fn.name== "runtime.NumGoroutine")=false)∧
 ∀(w0:bw)(μ:Ro)(φ:Nat→aA)(ρ:Nat→Value)(w:World)(xs:Array Value),av P G w0 μ φ m w→bU P μ φ m f ρ→args.length=xs.size→(∀(i:Nat)v x,args[i]?=some v→xs[i]?=some x→ag P μ φ v x)→(∀id,cd id args=true→(m id).isSome=true)→Calls P g xs w fun e w'=>∃v f' m' y μ' φ',k v f' m'=some r∧e=.returned y∧av P G w0 μ' φ' m' w'∧bU P μ' φ' m' f' ρ∧ag P μ' φ' v y∧∀id,v.has id=true→(m' id).isSome=true
def sG(P:Program)(G:Nat→Option (List PV))(nt:Nat)(yl:YL)(w0:bw):Prop:=∀(R:Type)site id args f m(k:V→Fr→Mem→Option R)r,yl R nt site id args f m k=some r→∀(μ:Ro)(φ:Nat→aA)(ρ:Nat→Value)(w:World)(xs:Array Value),av P G w0 μ φ m w→bU P μ φ m f ρ→(∀t,nt≤t→ρ t=w0.sv t)→args.length=xs.size→(∀(i:Nat)v x,args[i]?=some v→xs[i]?=some x→ag P μ φ v x)→(∀id,cd id args=true→(m id).isSome=true)→∀g,(φ id).g=some g→∃fn tmps assign body,(Instr.yield g xs).run P w=.ok (.round g fn tmps assign body) w∧RoundIn Fence.wide 0 P g fn tmps assign body w fun e w'=>∃v f' m' y μ' φ',k v f' m'=some r∧e=.returned y∧(∀b o,μ b=some o→μ' b=some o)∧av P G w0 μ' φ' m' w'∧bU P μ' φ' m' f' ρ∧ag P μ' φ' v y∧∀id,v.has id=true→(m' id).isSome=true
theorem zg(P:Program)(G:Nat→Option (List PV))(nt:Nat)(w0:bw):sG P G nt Ax w0:=fun R site id args f m k r h=>by cases h
variable{G:Nat→Option (List PV)}{φ:Nat→aA}
theorem av.yp{P:Program}{w0:bw}{μ:Ro}{m:Mem}{w:World}(h:av P G w0 μ φ m w){K:Ro}(hK:∀b o,K b=some o→μ b=some o):av P G {w0 with dy:=K} μ φ m w:=⟨h.below,h.ro,h.aF,h.dw,h.own,h.inj,h.apart,h.fu,h.base,hK,h.BH⟩
theorem av.Dz{P:Program}{w0:bw}{μ:Ro}{m:Mem}{w:World}{K:Ro}(h:av P G {w0 with dy:=K} μ φ m w)(hK:∀b o,w0.dy b=some o→K b=some o):av P G w0 μ φ m w:=⟨h.below,h.ro,h.aF,h.dw,h.own,h.inj,h.apart,h.fu,h.base,fun b o hb=>h.dy b o (hK b o hb),h.BH⟩
theorem sG.yp{P:Program}{G:Nat→Option (List PV)}{nt:Nat}{yl:YL}{w0:bw}(h:sG P G nt yl w0){K:Ro}(hK:∀b o,w0.dy b=some o→K b=some o):sG P G nt yl {w0 with dy:=K}:=fun R site id args f m k r hy μ φ ρ w xs hM hF hρ hl hr G7 g hg=>
  let⟨fn,tmps,assign,body,y1,y2⟩:=h R site id args f m k r hy μ φ ρ w xs (hM.Dz hK) hF hρ hl hr G7 g hg
  ⟨fn,tmps,assign,body,y1,y2.mono fun e w'⟨v,f',m',y,μ',φ',a1,a2,a3,a4,a5⟩=>⟨v,f',m',y,μ',φ',a1,a2,a3,a4.yp fun b o hb=>a3 b o (hM.dy b o hb),a5⟩⟩
def MG{R:Type}(P:Program)(G:Nat→Option (List PV))(g:FuncId)(yl:YL)(args:List V)(f:Fr)(m:Mem)(k:V→Fr→Mem→Option R)(r:R):Prop:=
 ∃fn c,P.funcs[g]?=some fn∧fn.body=some c∧(fn.name== "runtime.NumGoroutine")=false∧
 ∀(w0:bw)(μ:Ro)(φ:Nat→aA)(ρ:Nat→Value)(w:World)(xs:Array Value),av P G w0 μ φ m w→bU P μ φ m f ρ→args.length=xs.size→(∀(i:Nat)v x,args[i]?=some v→xs[i]?=some x→ag P μ φ v x)→(∀id,cd id args=true→(m id).isSome=true)→sG P G fn.ntmps yl {w0 with sv:=fun t=>ρ (t-fn.ntmps)}→Calls P g xs w fun e w'=>∃v f' m' y μ' φ',k v f' m'=some r∧e=.returned y∧av P G w0 μ' φ' m' w'∧bU P μ' φ' m' f' ρ∧ag P μ' φ' v y∧∀id,v.has id=true→(m' id).isSome=true
structure je(E:Env):Prop where
 mixed:E.P.follows .mixedOrders=true
 lp:∀(S R:Type)(body:S→(S→Option R)→Option R)s r,E.lp.run body s=some r→∃n,cZ body n s=some r
 ctx:∀g M,E.ctx g=some M→tz E.P E.aF g M
 own:∀g M,E.own g=some M→AK E.P E.aF g M
 inl:∀(R:Type)g Mr args f m(k:V→Fr→Mem→Option R)r,E.inl R g Mr args f m k=some r→Hf E.P E.aF g args f m k r
 ZX:∀(R:Type)g Mr yl args f m(k:V→Fr→Mem→Option R)r,E.ZX R g Mr yl args f m k=some r→MG E.P E.aF g yl args f m k r
section
variable {R:Type} {E:Env}
theorem ee{f:V→List Nat}{id:Nat}:∀{cs:List V},id∈gT f cs↔∃v∈cs,id∈f v
 |[]=>by simp[gT]
 |c::r=>by simp[gT,ee (cs:=r)]
theorem kN{g g':V→Option PV}:∀{cs:List V},(∀v∈cs,g' v=g v)→oY g' cs=oY g cs
 |[],_=>rfl
 |c::r,h=>by simp_all[oY,kN]
theorem px{m m2:Mem}:∀(d:Nat){v:V},(∀id∈cK m d v,m2 id=m id)→jK m2 d v=jK m d v
 |0,v,_=>rfl
 |d+1,v,h=>by
  cases v with
  |agg cs=>simp only[jK];rw[kN fun v hv=>px d fun id hid=>h id (by simp only[cK];exact ee.2 ⟨v,hv,hid⟩)]
  |aP cs=>simp only[jK];rw[kN fun v hv=>px d fun id hid=>h id (by simp only[cK];exact ee.2 ⟨v,hv,hid⟩)]
  |fn g cs=>simp only[jK];rw[kN fun v hv=>px d fun id hid=>h id (by simp only[cK];exact ee.2 ⟨v,hv,hid⟩)]
  |op id off=>
   have h0:=h id (by simp[cK]);simp only[jK,h0];split
   ·rename_i cs hm;rw[kN fun v hv=>px d fun qW hid=>h qW (by simp only[cK,hm];exact akF _ (ee.2 ⟨v,hv,hid⟩))]
   rfl
  |oe id i off=>grind [jK,id,cK]
  |os id=>grind [jK,id,cK]
  |fq id lo len=>grind [jK,id,cK]
  |om id=>grind [jK,id,cK]
  |vg id i off=>grind [jK,id,cK]
  |_=>rfl
theorem gZ{g g':V→List Nat}:∀{cs:List V},(∀v∈cs,g' v=g v)→gT g' cs=gT g cs
 |[],_=>rfl
 |c::r,h=>by simp_all[gT,gZ]
theorem lk{m m2:Mem}:∀(d:Nat){v:V},(∀id∈cK m d v,m2 id=m id)→cK m2 d v=cK m d v
 |0,v,_=>rfl
 |d+1,v,h=>by
  cases v with
  |agg cs=>simp only[cK];exact gZ fun v hv=>lk d fun id hid=>h id (by simp only[cK];exact ee.2 ⟨v,hv,hid⟩)
  |aP cs=>simp only[cK];exact gZ fun v hv=>lk d fun id hid=>h id (by simp only[cK];exact ee.2 ⟨v,hv,hid⟩)
  |fn g cs=>simp only[cK];exact gZ fun v hv=>lk d fun id hid=>h id (by simp only[cK];exact ee.2 ⟨v,hv,hid⟩)
  |op id off=>
   have h0:=h id (by simp[cK]);simp only[cK,h0];split
   ·rename_i cs hm;rw[gZ fun v hv=>lk d fun qW hid=>h qW (by simp only[cK,hm];exact akF _ (ee.2 ⟨v,hv,hid⟩))]
   rfl
  |_=>rfl
variable{p:PV}
theorem BR{t:TypeId}{k:PV→Option R}{r:R}(hs:tv E t=true)(h:fV E t p k=some r):∃q,(∀(R':Type)(k':PV→Option R'),fV E t p k'=k' q)∧k q=some r∧∀(P:Program)(μ μ':Ro)x,ah P μ p x→ah P μ' q x:=by
 unfold tv at hs;unfold fV at h;split at h
 ·rename_i q hu;obtain⟨n,hn,hk⟩:=cQ.1 h;have hp:p=.int q n:=by cases p<;>simp[asInt]at hn;simp_all
  exact⟨.int q n,fun R' k'=>by simp[fV,hu,hn],hk,fun P μ μ' x hx=>by subst hp;cases hx with|int h=>exact .int h⟩
 ·rename_i hu;obtain⟨n,hn,hk⟩:=cQ.1 h;have hp:p=.bool n:=by cases p<;>simp[asBool]at hn;subst hn;rfl
  exact⟨.bool n,fun R' k'=>by simp[fV,hu,hn],hk,fun P μ μ' x hx=>by subst hp;cases hx;exact .bool⟩
 ·rename_i hu;obtain⟨n,hn,hk⟩:=cQ.1 h;have hp:p=.str n:=by cases p<;>simp[aG]at hn;subst hn;rfl
  exact⟨.str n,fun R' k'=>by simp[fV,hu,hn],hk,fun P μ μ' x hx=>by subst hp;cases hx with|str h=>exact .str h⟩
 all_goals simp_all
theorem JS:∀{ts:List TypeId}{ps:List PV}{k:List V→Option R}{r:R},Bx E ts ps k=some r→∃vs,(∀(R':Type)(k':List V→Option R'),Bx E ts ps k'=k' vs)∧k vs=some r∧vs.length=ps.length∧(∀id,cd id vs=false)∧(∀(P:Program)(μ:Ro)(φ:Nat→aA)(i:Nat)p v x,ps[i]?=some p→vs[i]?=some v→ah P μ p x→ag P μ φ v x)∧(ts.all (tv E)=true→∀(P:Program)(μ μ':Ro)(φ:Nat→aA)(i:Nat)p v x,ps[i]?=some p→vs[i]?=some v→ah P μ p x→ag P μ' φ v x)
 |[],[],k,r,h=>⟨[],fun R' k'=>rfl,h,rfl,fun _=>rfl,by simp,by simp⟩
 |t::ts,p::ps,k,r,h=>by
  simp only[Bx]at h;obtain⟨q,q1,q2,q3,_⟩:=kA h;obtain⟨vs,v1,v2,v3,v4,v5,v6⟩:=JS q2;refine⟨.pv q::vs,fun R' k'=>by simp only[Bx];rw[q1,v1],v2,by simp[v3],fun id=>by simp[cd,v4],fun P μ φ i p' v x hp hv hx=>?_,fun hs P μ μ' φ i p' v x hp hv hx=>?_⟩
  ·cases i with
   |zero=>simp at hp hv;subst hp;subst hv;exact .pv (q3 _ _ _ hx)
   |succ i=>grind
  ·simp only[ak3,No]at hs;cases i with
   |zero=>
    simp at hp hv;subst hp;subst hv;obtain⟨q',s1,s2,s3⟩:=BR hs.1 h;have:q'=q:=by have e1:=s1 PV some;grind
    subst this;exact .pv (s3 P μ μ' x hx)
   |succ i=>grind
 |[],p::ps,k,r,h=>by simp[Bx]at h
 |t::ts,[],k,r,h=>by simp[Bx]at h
theorem JT{n:Nat}{r:PV}{vs:List PV}(h:bg n r=some vs):r=.aP vs∧vs.length=n:=by cases r<;>simp[bg]at h;grind
variable{ts:List TypeId}
theorem JU{k:V→Option R}{r:R}(h:Bz E ts p k=some r):∃v,(∀(R':Type)(k':V→Option R'),Bz E ts p k'=k' v)∧k v=some r∧(∀id,v.has id=false)∧(∀(P:Program)(μ:Ro)(φ:Nat→aA)x,ah P μ p x→ag P μ φ v x)∧(ts.all (tv E)=true→∀(P:Program)(μ μ':Ro)(φ:Nat→aA)x,ah P μ p x→ag P μ' φ v x):=by
 unfold Bz at h;split at h
 ·obtain⟨vs,hv,hk⟩:=cQ.1 h;obtain⟨rfl,hl⟩:=JT hv;have:vs=[]:=ahk hl;subst this;have key:∀(P:Program)(μ μ':Ro)(φ:Nat→aA)x,ah P μ (.aP []) x→ag P μ' φ (.aP []) x:=fun P μ μ' φ x hx=>by
   cases hx with
   |aP h1 h2=>exact .aP h1 (by simp)
  grind [Bz,V.has,cd]
 ·rename_i t;obtain⟨q,q1,q2,q3,_⟩:=kA h;refine⟨.pv q,fun R' k'=>by simp only[Bz];rw[q1],q2,by simp,fun P μ φ x hx=>.pv (q3 _ _ _ hx),fun hs P μ μ' φ x hx=>?_⟩;obtain⟨q',s1,s2,s3⟩:=BR (by simpa using hs) h;have:q'=q:=by have e1:=s1 PV some;grind
  subst this;exact .pv (s3 P μ μ' x hx)
 ·rename_i aio aip;obtain⟨vs,hv,hk⟩:=cQ.1 h;obtain⟨rfl,hl⟩:=JT hv;obtain⟨us,u1,u2,u3,u4,u5,u6⟩:=JS hk;have acw:((List.range ts.length).map fun j=>vs.getD j .bad)=vs:=by apply aiY;grind
  rw[acw]at u3 u5 u6;refine⟨.aP us,fun R' k'=>?_,u2,fun id=>by simp[V.has,u4],fun P μ φ x hx=>?_,fun hs P μ μ' φ x hx=>?_⟩
  ·unfold Bz;simp_all
  ·cases hx with
   |aP h1 h2=>
    refine .aP (by omega) fun i v y hv hy=>?_;have hi:i<vs.length:=by grind
    exact u5 P μ φ i _ v y (cO hi) hv (h2 i _ y (cO hi) hy)
  ·cases hx with
   |aP h1 h2=>
    refine .aP (by omega) fun i v y hv hy=>?_;have hi:i<vs.length:=by grind
    exact u6 hs P μ μ' φ i _ v y (cO hi) hv (h2 i _ y (cO hi) hy)
theorem rX:∀{args:List V}{m m':Mem}{ps:List PV},gU m args=some (ps,m')→jj m m'∧ps.length=args.length∧∀(P:Program)(G:Nat→Option (List PV))(w0:bw)(μ:Ro)(φ:Nat→aA)(w:World)(X:Nat→Value),av P G w0 μ φ m w→(∀(i:Nat)u,args[i]?=some u→ag P μ φ u (X i))→∃μ',(∀b o,μ b=some o→μ' b=some o)∧av P G w0 μ' φ m' w∧∀(i:Nat)p,ps[i]?=some p→ah P μ' p (X i)
 |[],m,m',ps,h=>by simp only[gU,cN,IT]at h;obtain⟨rfl,rfl⟩:=h;exact⟨.refl _,rfl,fun P G w0 μ φ w X hM _=>⟨μ,fun _ _ h=>h,hM,by simp⟩⟩
 |c::r,m,m',ps,h=>by
  simp only[gU]at h;split at h
  ·rename_i p m1 h1;split at h
   ·rename_i Y2 m2 h2;simp only[cN,IT]at h;obtain⟨rfl,rfl⟩:=h;obtain⟨a1,a2⟩:=F7 h1;obtain⟨b1,b2,b3⟩:=rX h2;refine⟨a1.trans b1,by simp[b2],fun P G w0 μ φ w X hM hx=>?_⟩;obtain⟨μ1,c1,c2,c3⟩:=a2 P G w0 μ φ w (X 0) hM (hx 0 c (by simp));obtain⟨μ2,d1,d2,d3⟩:=b3 P G w0 μ1 φ w (fun i=>X (i+1)) c2 (fun i u hu=>(hx (i+1) u (by simpa using hu)).xn c1);refine⟨μ2,fun b o h=>d1 b o (c1 b o h),d2,fun i q hq=>?_⟩;cases i with
    |zero=>simp at hq;subst hq;exact c3.mono d1
    |succ i=>simp_all
   ·cases h
  ·cases h
theorem Hg{m':Mem}{v:V}(h:tq cU v=some (p,m')):m'=cU:=by
 have key:∀{cs:List V}{m':Mem}{ps:List PV},lf cU cs=some (ps,m')→m'=cU:=by
  intro cs;induction cs with
  |nil=>simp[lf,cN,IT]
  |cons c r ih=>grind [lf,pU,Option.some.injEq,Prod.mk.injEq]
 unfold tq at h;grind [Option.some.injEq,Prod.mk.injEq,pU]
theorem oq:∀{args:List V}{m':Mem}{ps:List PV},gU cU args=some (ps,m')→ps.length=args.length∧∀(P:Program)(μ:Ro)(φ:Nat→aA)(X:Nat→Value),(∀(i:Nat)u,args[i]?=some u→ag P μ φ u (X i))→∀(i:Nat)p,ps[i]?=some p→ah P μ p (X i)
 |[],m',ps,h=>by simp only[gU,cN,IT]at h;simp_all
 |c::r,m',ps,h=>by
  simp only[gU]at h;split at h
  ·rename_i p m1 h1;have:=Hg h1;subst this;split at h
   ·rename_i Y2 m2 h2;simp only[cN,IT]at h;obtain⟨rfl,rfl⟩:=h;obtain⟨b2,b3⟩:=oq h2;refine⟨by simp[b2],fun P μ φ X hx i q hq=>?_⟩;cases i with
    |zero=>simp at hq;subst hq;exact BQ h1 P μ φ _ (hx 0 c (by simp))
    |succ i=>exact b3 P μ φ (fun i=>X (i+1)) (fun i u hu=>hx (i+1) u (by simpa using hu)) i q (by simpa using hq)
   ·cases h
  ·cases h
variable{φ:Nat→aA}
theorem aH.move{P:Program}{μ μ':Ro}{φ':Nat→aA}{w:World}{i j sz:Nat}{et:TypeId}{es:List PV}(h:aH P μ φ w i sz et es)(hφ:φ' j=φ i)(hμ:∀b o,μ b=some o→μ' b=some o):aH P μ' φ' w j sz et es:=by
 unfold aH at*;rw[hφ];obtain⟨h1,h2,h3,h4,h5,h6,h7⟩:=h;refine⟨h1,h2,h3,h4,h5,h6,?_⟩;split at h7
 ·omega
 ·obtain⟨c,T,c1,c2,c3,c4,c5⟩:=h7;exact⟨c,T,c1,c2,c3,fun i e j p x he hp hx=>(c4 i e j p x he hp hx).mono hμ,c5⟩
theorem aH.Up{P:Program}{ν μ:Ro}{w:World}{i:Nat}{et:TypeId}{es:List PV}(h:aH P ν φ w i 1 et es):aH P μ φ w i 1 et (es.map FG):=by
 unfold aH at*;obtain⟨h1,h2,h3,h4,h5,h6,h7⟩:=h;have hc:∀p:PV,(FG p).cells.length=1:=fun p=>by cases p<;>rfl
 refine⟨by simpa using h1,h2,h3,h4,fun j e he=>?_,h6,?_⟩
 ·grind
 ·split at h7
  ·simp_all
  ·obtain⟨c,T,c1,c2,c3,c4,c5⟩:=h7;refine⟨c,T,c1,c2,by simpa using c3,fun j e l p x he hp hx=>?_,fun j x hj hx=>c5 j x (by simpa using hj) hx⟩;simp only[GP,Yo]at he;obtain⟨q,hq,rfl⟩:=he;have hl:l=0:=by grind
   subst hl;cases q<;>(simp only[FG,PV.cells,aje,cN]at hp;subst hp);case int=>have:=c4 j _ 0 _ x hq rfl hx;cases this with|int h=>exact .int h
   case bool=>have:=c4 j _ 0 _ x hq rfl hx;cases this;exact .bool
   case str=>have:=c4 j _ 0 _ x hq rfl hx;cases this with|str h=>exact .str h
   all_goals exact .bad
mutual
theorem Uq:∀(s:FS)(p:PV)(a:List PV),W0 s p=some a→a.length=s.n∧∀r,GY s (a++r)=(p,r)
 |.raw,p,a,h=>by simp only[W0,cN]at h;subst h;exact⟨rfl,fun r=>rfl⟩
 |.fn g cs,p,a,h=>by
  cases p<;>simp only[W0]at h<;>try (cases h;done)
  split at h
  ·rename_i e;subst e;obtain⟨h1,h2⟩:=Hh cs _ a h;exact⟨by simp[FS.n,h1],fun r=>by simp[GY,h2 r]⟩
  ·cases h
 |.ptr cs,p,a,h=>by
  cases p<;>simp only[W0]at h<;>try (cases h;done)
  obtain⟨h1,h2⟩:=Hh cs _ a h;exact⟨by simp[FS.n,h1],fun r=>by simp[GY,h2 r]⟩
theorem Hh:∀(ss:List FS)(ps:List PV)(a:List PV),Ju ss ps=some a→a.length=nFs ss∧∀r,Bw ss (a++r)=(ps,r)
 |[],ps,a,h=>by
  cases ps with
  |nil=>simp only[Ju,cN]at h;subst h;exact⟨rfl,fun r=>rfl⟩
  |cons p ps=>simp[Ju]at h
 |s::ss,ps,a,h=>by
  cases ps with
  |nil=>simp[Ju]at h
  |cons p ps=>simp only[Ju]at h;obtain⟨x,hx,h⟩:=cQ.1 h;obtain⟨y,hy,h⟩:=cQ.1 h;simp only[cN]at h;subst h;obtain⟨a1,a2⟩:=Uq s p x hx;obtain⟨b1,b2⟩:=Hh ss ps y hy;refine⟨by simp[nFs,a1,b1],fun r=>?_⟩;simp only[Bw,abW,a2,b2]
end
theorem QD{s:FS}{ls:List PV}(h:W0 s p=some ls):(GY s ((List.range s.n).map fun j=>ls.getD j .bad)).1=p:=by
 obtain⟨h1,h2⟩:=Uq s p ls h;have:((List.range s.n).map fun j=>ls.getD j .bad)=ls:=by apply aiY;grind
 rw[this];have:=h2 [];simp_all
theorem R2{fid:FuncId}{k:V→Option R}{r:R}(h:Az E fid ts p k=some r):∃v,(∀(R':Type)(k':V→Option R'),Az E fid ts p k'=k' v)∧k v=some r∧(∀id,v.has id=false)∧(∀(P:Program)(μ:Ro)(φ:Nat→aA)x,ah P μ p x→ag P μ φ v x)∧True:=by
 unfold Az at h;split at h
 ·rename_i s hs;obtain⟨ls,hl,hk⟩:=cQ.1 h;refine⟨_,fun R' k'=>by simp_all[Az,aiH],hk,fun id=>rfl,fun P μ φ x hx=>.pv ?_,trivial⟩;rw[QD hl];omega
 ·rename_i hs;obtain⟨v,v1,v2,v3,v4,_⟩:=JU h;exact⟨v,fun R' k'=>by simp_all[Az],v2,v3,v4,trivial⟩
theorem Ur(hE:je E){draw:Bool}{site:Nat}{g:FuncId}{args:List V}{f:Fr}{m:Mem}{k:V→Fr→Mem→bq→Option R}{r:R}(h:ur E draw site g args f m k=some r):(∃v f' m' ft,k v f' m' ft=some r∧(draw=true→f'=f∧∃wr:Option (Nat×bF),m'=acu m wr∧(∀id b,wr=some (id,b)→(true,id)∈ft)∧∀(f2:Fr)(m2:Mem),(∀x∈ft,m2 x.2=m x.2)→∀(R':Type)(k':V→Fr→Mem→bq→Option R'),ur E true site g args f2 m2 k'=k' v f2 (acu m2 wr) ft)∧((∀x∈ft,x.1=false)→f'=f∧m'=m)∧acv E g args f m v f' m')∨(draw=false∧Hf E.P E.aF g args f m (fun v f m=>k v f m [(true,0)]) r):=by
 have hX:∀(P:Program)(μ:Ro)(φ:Nat→aA)(xs:Array Value),args.length=xs.size→(∀(i:Nat)v x,args[i]?=some v→xs[i]?=some x→ag P μ φ v x)→∀(i:Nat)u,args[i]?=some u→xs[i]?=some (xs.getD i undef)∧ag P μ φ u (xs.getD i undef):=by
  intro P μ φ xs hl hr i u hu;have bT:i<xs.size:=by grind
  have:xs[i]?=some (xs.getD i undef):=by simp_all
  grind
 unfold ur at h;split at h
 ·rename_i M R3;obtain⟨Tu,hM⟩:=hE.ctx g M R3;split at h
  ·rename_i fn hg;split at h
   ·rename_i WL;split at h
    ·rename_i ps oa;obtain⟨p,hp,h⟩:=cQ.1 h;obtain⟨v,v1,v2,v3,v4,v5⟩:=JU h;refine .inl ⟨v,f,m,_,v2,fun hd=>⟨rfl,none,rfl,by simp,fun f2 m2 cL R' k'=>?_⟩,fun _=>⟨rfl,rfl⟩,Tu,fun w0 μ φ ρ w xs hR hF hl hr G7=>?_⟩
     ·have Ub:oY (jK m2 ev) args=oY (jK m ev) args:=kN fun v hv=>px _ fun id hid=>cL (false,id) (by simp only[aiR];exact⟨id,ee.2 ⟨v,hv,hid⟩,rfl⟩);have zn:((gT (cK m2 ev) args).map fun i=>(false,i))=((gT (cK m ev) args).map fun i=>(false,i)):=by have:gT (cK m2 ev) args=gT (cK m ev) args:=gZ fun v hv=>lk _ fun id hid=>cL (false,id) (by simp only[aiR];exact⟨id,ee.2 ⟨v,hv,hid⟩,rfl⟩);rw[this]
      simp only[ur,R3,hg];rw[AI WL];simp only[Ub,oa,hp,aiH,zn];rw[v1];rfl
     ·obtain⟨p1,p2⟩:=gr oa;refine(hM ps p hp w (jf w) xs (fun _ _ h=>h) (fun g cs hg=>(hR.aF g cs hg).mono hR.wO) (by omega) (fun i q x hq hx=>?_)).mono ?_
      ·obtain⟨u,hu,hf⟩:=p2 i q hq;exact sF hR hR.wO (fun _ _ _ _ _=>rfl) _ hf (hr i u x hu hx)
      ·rintro e w' ⟨y,rfl,hb,hy⟩;exact⟨y,cr μ w w',φ,rfl,hR.called hb,hF.lS (jA hR w') (.refl _),v5 WL E.P _ _ φ y hy,fun id hid=>by simp_all⟩
    ·cases h
   ·rename_i WL;split at h
    ·rename_i ps m1 oa;obtain⟨p,hp,h⟩:=cQ.1 h;obtain⟨v,v1,v2,v3,v4,v5⟩:=R2 h;cases draw with
     |true=>
      simp only[IS]at oa v2;obtain⟨q1,q2⟩:=oq oa;refine .inl ⟨v,f,m,_,v2,fun _=>⟨rfl,none,rfl,by simp,fun f2 m2 cL R' k'=>?_⟩,fun _=>⟨rfl,rfl⟩,Tu,fun w0 μ φ ρ w xs hR hF hl hr G7=>?_⟩
      ·simp only[ur,R3,hg];rw[By WL];simp only[IS,oa,hp,aiH];rw[v1];rfl
      ·refine(hM ps p hp w μ xs hR.ro hR.aF (by omega) (fun i q x hq hx=>?_)).mono ?_
       ·have:=q2 E.P μ φ (fun i=>xs.getD i undef) (fun i u hu=>(hX E.P μ φ xs hl hr i u hu).2) i q hq;simp_all
       ·rintro e w' ⟨y,rfl,hb,hy⟩;exact⟨y,cr μ w w',φ,rfl,hR.called hb,hF.lS (jA hR w') (.refl _),v4 E.P _ φ y hy,fun id hid=>by simp_all⟩
     |false=>
      simp only[cT,T1]at oa v2;obtain⟨q0,q1,q2⟩:=rX oa;refine .inl ⟨v,f,m1,_,v2,fun hd=>by(cases hd),fun hq=>absurd (hq (true,0) (by simp)) (by simp),Tu,fun w0 μ φ ρ w xs hR hF hl hr G7=>?_⟩;obtain⟨μ1,r1,r2,r3⟩:=q2 E.P E.aF w0 μ φ w (fun i=>xs.getD i undef) hR (fun i u hu=>(hX E.P μ φ xs hl hr i u hu).2);refine(hM ps p hp w μ1 xs r2.ro r2.aF (by omega) (fun i q x hq hx=>?_)).mono ?_
      ·have:=r3 i q hq;have bT:i<xs.size:=(OF.1 hx).1;simp_all[undef,IN,cN,Array.getD]
      ·rintro e w' ⟨y,rfl,hb,hy⟩;exact⟨y,cr μ1 w w',φ,rfl,r2.called hb,hF.lS (fun b o h=>jA r2 w' b o (r1 b o h)) q0,v4 E.P _ φ y hy,fun id hid=>by grind⟩
    ·cases h
  ·cases h
 ·rename_i R3;split at h
  ·rename_i M vp;obtain⟨Tu,hM⟩:=hE.own g M vp;split at h
   ·rename_i fn hg;split at h
    ·rename_i t ht;split at h
     ·rename_i e hu;split at h
      ·rename_i WL;obtain⟨WL,sI⟩:=WL;split at h
       ·rename_i ps oa;obtain⟨p,hp,h⟩:=cQ.1 h;obtain⟨es,F8,h⟩:=cQ.1 h;obtain⟨f',m',n1,n2,n3,n4,n5⟩:=dY h;refine .inl ⟨_,f',m',_,n2,fun hd=>?_,fun hq=>absurd (hq (true,site) (by simp)) (by simp),Tu,fun w0 μ φ ρ w xs hR hF hl hr G7=>?_⟩
        ·obtain⟨d1,d2,d3⟩:=n4 hd;subst hd;refine⟨d2,some (site,_),d3,by simp,fun f2 m2 cL R' k'=>?_⟩;have Ub:oY (jK m2 ev) args=oY (jK m ev) args:=kN fun v hv=>px _ fun id hid=>cL (false,id) (by simp only[aiW,aiR];exact .inr ⟨id,ee.2 ⟨v,hv,hid⟩,rfl⟩);have zn:gT (cK m2 ev) args=gT (cK m ev) args:=gZ fun v hv=>lk _ fun id hid=>cL (false,id) (by simp only[aiW,aiR];exact .inr ⟨id,ee.2 ⟨v,hv,hid⟩,rfl⟩);simp only[ur,R3,vp,hg,ht,hu];rw[AI ⟨WL,sI⟩];simp only[Ub,oa,hp,aiH,F8,zn];have hs2:m2 site=none:=by rw[cL (true,site) (by simp)];omega
         simp only[fresh,hs2];rfl
        ·obtain⟨p1,p2⟩:=gr oa;refine(hM fn t e hg ht hu ps p hp w (jf w) xs (fun _ _ h=>h) (fun g cs hg=>(hR.aF g cs hg).mono hR.wO) (by omega) (fun i q x hq hx=>?_)).mono ?_
         ·obtain⟨u,pQ,hf⟩:=p2 i q hq;exact sF hR hR.wO (fun _ _ _ _ _=>rfl) _ hf (hr i u x pQ hx)
         rintro en w' ⟨y,ph,es',rfl,hb,rfl,Fh,hA,hy⟩;have aaf:es'=es:=by simp only[ay,IS,cN]at F8;omega
         subst aaf;rw[sI]at hA;have hA2:aH E.P (lO (cr μ w w') ph.g) (fun _=>ph) w' 0 1 e (es'.map FG):=hA.Up;have F9:=hR.FZ hb Fh;have Xm:bU E.P (lO (cr μ w w') ph.g) φ m f ρ:=hF.lS (fun b o h=>yg hR w' Fh b o h) (.refl _);have hP:jM E.P w0 (lO (cr μ w w') ph.g) φ m w' w' site (.arr (aQ E.P e) e (es'.map FG)) ph:=by
          refine⟨jS.refl _ _,F9.ro,fun _ _ _ _ _=>rfl,fun g hg=>⟨?_,?_,?_⟩,fun φ' hp _=>by rw[sI];exact hA2.move hp (fun _ _ h=>h),by simp[bF.names],fun st h=>by cases h⟩
          ·have:=Fh g hg;have:=hR.below.size;grind
          ·simp[lO,hg]
          ·intro id b' gN cv;have h1:=(hR.dw id b' gN).Dl cv;grind
         obtain⟨φ',a1,a2,a3⟩:=n5 E.P E.aF w0 _ φ w' w' ρ ph F9 Xm hP;refine⟨y,_,φ',rfl,a2,a3,?_,fun id hid=>?_⟩
         ·cases hy with
          |qY h=>exact .qY (by rw[a1];omega)
          | @os _ g h=>have:=ag.os (P:=E.P) (μ:=lO (cr μ w w') ph.g) (φ:=φ') (id:=site) (g:=g) (by rw[a1];omega);grind
         ·have hid:=BY hid;subst hid;simp[n3]
       ·cases h
      rename_i WL;split at h
      ·rename_i ps m1 oa;obtain⟨p,hp,h⟩:=cQ.1 h;obtain⟨es,F8,h⟩:=cQ.1 h;obtain⟨f',m',n1,n2,n3,n4,n5⟩:=dY h;have fin:∀(w0:bw)(μ μ1:Ro)(φ:Nat→aA)(ρ:Nat→Value)(w:World)(xs:Array Value),(∀b o,μ b=some o→μ1 b=some o)→jj m (if draw then m else m1)→av E.P E.aF w0 μ1 φ (if draw then m else m1) w→bU E.P μ φ m f ρ→ps.length=xs.size→(∀(i:Nat)p x,ps[i]?=some p→xs[i]?=some x→ah E.P μ1 p x)→Calls E.P g xs w fun e w'=>∃y μ' φ',e=.returned y∧av E.P E.aF w0 μ' φ' m' w'∧bU E.P μ' φ' m' f' ρ∧ag E.P μ' φ' (.os site) y∧∀id,(V.os site).has id=true→(m' id).isSome=true:=by
        intro w0 μ μ1 φ ρ w xs hle G7 hR hF hl hr;refine(hM fn t e hg ht hu ps p hp w μ1 xs hR.ro hR.aF hl hr).mono ?_;rintro en w' ⟨y,ph,es',rfl,hb,rfl,Fh,hA,hy⟩;have aaf:es'=es:=by simp only[ay,IS,cN]at F8;omega
        subst aaf;have F9:=hR.FZ hb Fh;have Xm:bU E.P (lO (cr μ1 w w') ph.g) φ (if draw then m else m1) f ρ:=hF.lS (fun b o h=>yg hR w' Fh b o (hle b o h)) G7;have hP:jM E.P w0 (lO (cr μ1 w w') ph.g) φ (if draw then m else m1) w' w' site (.arr (aQ E.P e) e es') ph:=by
         refine⟨jS.refl _ _,F9.ro,fun _ _ _ _ _=>rfl,fun g hg=>⟨?_,?_,?_⟩,fun φ' hp _=>hA.move hp (fun _ _ h=>h),by simp[bF.names],fun st h=>by cases h⟩
         ·have:=Fh g hg;have:=hR.below.size;grind
         ·simp[lO,hg]
         ·intro id b' gN cv;have h1:=(hR.dw id b' gN).Dl cv;grind
        obtain⟨φ',a1,a2,a3⟩:=n5 E.P E.aF w0 _ φ w' w' ρ ph F9 Xm hP;refine⟨y,_,φ',rfl,a2,a3,?_,fun id hid=>?_⟩
        ·cases hy with
         |qY h=>exact .qY (by rw[a1];omega)
         | @os _ g h=>have:=ag.os (P:=E.P) (μ:=lO (cr μ1 w w') ph.g) (φ:=φ') (id:=site) (g:=g) (by rw[a1];omega);grind
        ·have hid:=BY hid;subst hid;simp[n3]
       cases draw with
       |true=>
        simp only[IS]at oa n2 fin n4;obtain⟨q1,q2⟩:=oq oa;obtain⟨d1,d2,d3⟩:=n4 trivial;refine .inl ⟨_,f',m',_,n2,fun _=>⟨d2,some (site,_),d3,by simp,fun f2 m2 cL R' k'=>?_⟩,fun hq=>absurd (hq (true,site) (by simp)) (by simp),Tu,fun w0 μ φ ρ w xs hR hF hl hr G7=>?_⟩
        ·simp only[ur,R3,vp,hg,ht,hu];rw[By WL];simp only[IS,oa,hp,aiH,F8];have hs2:m2 site=none:=by rw[cL (true,site) (by simp)];omega
         simp only[fresh,hs2];rfl
        ·refine fin w0 μ μ φ ρ w xs (fun _ _ h=>h) (.refl _) hR hF (by omega) fun i q x hq hx=>?_;have:=q2 E.P μ φ (fun i=>xs.getD i undef) (fun i u hu=>(hX E.P μ φ xs hl hr i u hu).2) i q hq;have bT:i<xs.size:=(OF.1 hx).1;have e:xs.getD i undef=x:=by rw[IN bT]at hx;simp only[cN]at hx;simp[Array.getD,bT,hx]
         rw[←e];omega
       |false=>
        simp only[cT,T1]at oa n2 fin n4;obtain⟨q0,q1,q2⟩:=rX oa;refine .inl ⟨_,f',m',_,n2,fun hd=>by(cases hd),fun hq=>absurd (hq (true,site) (by simp)) (by simp),Tu,fun w0 μ φ ρ w xs hR hF hl hr G7=>?_⟩;obtain⟨μ1,r1,r2,r3⟩:=q2 E.P E.aF w0 μ φ w (fun i=>xs.getD i undef) hR (fun i u hu=>(hX E.P μ φ xs hl hr i u hu).2);refine fin w0 μ μ1 φ ρ w xs r1 q0 r2 hF (by omega) fun i q x hq hx=>?_;have:=r3 i q hq;have bT:i<xs.size:=(OF.1 hx).1;have e:xs.getD i undef=x:=by rw[IN bT]at hx;simp only[cN]at hx;simp[Array.getD,bT,hx]
        rw[←e];omega
      ·cases h
     ·cases h
    ·cases h
   ·cases h
  ·split at h
   ·cases h
   ·rename_i hd;exact .inr ⟨by simpa using hd,hE.inl _ _ _ _ _ _ _ _ h⟩
end
end Go.Ab
