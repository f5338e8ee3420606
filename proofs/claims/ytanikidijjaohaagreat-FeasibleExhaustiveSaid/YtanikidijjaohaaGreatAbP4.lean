import Derived.Test.YtanikidijjaohaaGreatAbP3
import Derived.WideKeyRuns
import Derived.MapKept
import Derived.RangeFuncRecord
set_option linter.unusedVariables false
set_option linter.unusedSimpArgs false
namespace Go.Ab
open Go.RowKit (Below)
section
variable {R:Type} {E:Env}
theorem cells_one{x:Value}(h:x.oneCell'=true):x.cells= #[x]:=by cases x<;>first|rfl|(simp[Value.oneCell']at h)
theorem ai.elem{P:Program}{μ:Ro}{n:Nat}{p:PV}{x:Value}(h:ai P μ p x)(hl:p.cells.length=n)(hp:p.plain=true):tH P μ n p x:=by
 cases hq:p.isAgg with
 |true=>
  cases p<;>simp[PV.isAgg]at hq;cases h with
  |agg h1 h2 h3=>exact⟨hl,by simp_all[PV.cells,Value.cells],h2,h3⟩
 |false=>
  have hc:p.cells=[p]:=by cases p<;>first|rfl|(simp[PV.isAgg]at hq)
  have h1:x.oneCell'=true:=h.one (fun cs e=>by subst e;simp[PV.isAgg]at hq) (fun cs e=>by subst e;simp[PV.plain]at hp) (fun e=>by subst e;simp[PV.plain]at hp);have hx:=cells_one h1;refine⟨hl,by simp_all,fun j q y hj hy=>?_,fun j y hy=>?_⟩
  ·grind
  grind
variable{t:TypeId}
theorem Cc{z:PV}(h:B2 E t=some z):∃i zv,E.P.info? t=some i∧i.zero=some zv∧i.size=aV E.P t∧(∀μ,ai E.P μ z zv)∧∀μ,tH E.P μ (aV E.P t) z zv:=by
 unfold B2 zeroV at h;cases hi:E.P.info? t with
 |none=>simp[hi]at h
 |some i=>
  cases hz:i.zero with
  |none=>simp[hi,hz]at h
  |some zv=>
   simp only[hi,hz,ajH,ah5]at h;split at h
   ·rename_i p hp;split at h
    ·rename_i hc;simp only[AT]at h;subst h;have hr:∀μ,ai E.P μ p zv:=fun μ=>uv 2 hp (uu (φ:=fun _=>default) zv);exact⟨i,zv,rfl,hz,by simp[aV,hi],hr,fun μ=>(hr μ).elem hc.2.1 hc.2.2⟩
    ·cases h
   ·cases h
theorem OC{z:PV}(h:B2 E t=some z):∃zv,(∀w,(zeroValue t).run E.P w=.ok zv w)∧∀μ,ai E.P μ z zv:=by obtain⟨i,zv,h1,h2,h3,h4,_⟩:=Cc h;simp_all[pj]
theorem Cells.made{P:Program}{μ:Ro}{sz:Nat}{z:PV}{zv:Value}(hE:tH P μ sz z zv)(eF:0<sz)(n cap:Nat)(hn:n≤cap):Cells P μ sz (List.replicate n z) ((madeCells zv.cells (cap*sz)).toList.take ((List.replicate n z).length*sz)):=by
 have hle:n*sz≤cap*sz:=adq _ hn;have ec:∀k y,((madeCells zv.cells (cap*sz)).toList.take ((List.replicate n z).length*sz))[k]?=some y→zv.cells[k%sz]?=some y:=by
  intro k y hk;obtain⟨h1,h2⟩:=eZ hk;simp only[ak2]at h1;have cd:k%sz<zv.cells.size:=by rw[hE.size];exact amR _ eF
  rw[ajL,madeCells,ame,Array.getElem?_range]at h2;rw[BK (by omega)]at h2;simp only[ah5,AT,hE.size]at h2;simp_all
 refine⟨by rw[akt,ak2,akX,size_madeCells];omega,fun i e hi=>?_,fun i e j p y hi hj hy=>?_,fun k y hk=>hE.one _ y (ec k y hk)⟩
 ·rw[aj5]at hi;split at hi
  ·simp only[AT]at hi;subst hi;exact hE.len
  ·cases hi
 ·rw[aj5]at hi;split at hi
  ·simp only[AT]at hi;subst hi;have Ca:j<sz:=by rw[←hE.len];grind
   have:=ec _ y hy;rw[alJ,amL,alq Ca]at this;exact hE.rep j p y hj this
  ·cases hi
theorem Hg{draw:Bool}{site:Nat}{len cap:V}{f:Fr}{m:Mem}{k:V→Fr→Mem→bG→Option R}{r:R}(h:rG E draw site t len cap f m k=some r):∃f' m' b,(draw=true→m site=none∧f'=f∧m'=aq m site b∧∀(f2:Fr)(m2:Mem),m2 site=none→∀(R':Type)(k':V→Fr→Mem→bG→Option R'),rG E true site t len cap f2 m2 k'=k' (.os site) f2 (aq m2 site b) [(true,site)])∧k (.os site) f' m' [(true,site)]=some r∧(m' site).isSome=true∧∀(G:Nat→Option (List PV))(w0:bI)(μ:Ro)(φ:Nat→aH)(w:World)(ρ:Nat→Value)(yl yc:Value),az E.P G w0 μ φ m w→cu E.P μ φ m f ρ→ah E.P μ φ len yl→ah E.P μ φ cap yc→∃w' y φ',(Instr.makeSlice t yl yc).run E.P w=.ok y w'∧az E.P G w0 μ φ' m' w'∧cu E.P μ φ' m' f' ρ∧ah E.P μ φ' (.os site) y:=by
 unfold rG at h;split at h
 ·rename_i e ql n qc c hu;split at h
  ·rename_i z hz;split at h
   ·rename_i hb;obtain⟨f',m',_,hk,wP,zq,wM⟩:=eC h;refine⟨f',m',.arr (aV E.P e) e (List.replicate n.toNat z),fun hd=>?_,hk,by simp[wP],fun G w0 μ φ w ρ yl yc hM hF hl hc=>?_⟩
    ·simp_all[rG,BK,fresh]
    ·obtain⟨i,zv,h1,h2,h3,_,h4⟩:=Cc hz;obtain⟨hib,_⟩:=HW h1;have hc1:c.toNat≤140737488355328:=by have:c.toNat*1≤c.toNat*G6 E.P e:=akx _ hb.2.2.2.1;grind [af]
     cases hl with
     |pv hl=>cases hl with
      |int wl=>
       cases hc with
       |pv hc=>cases hc with
        |int wc=>
         have abV:(i.bytes:Int)*c≤281474976710656:=by grind [af,G6,Int.natCast_mul,Int.toNat_of_nonneg,Int.mul_comm]
         have hr:=run_make (P:=E.P) w t e i zv hu h1 h2 ql qc n c hb.1 hb.2.1 abV (by omega);rw[h3]at hr;obtain⟨φ',a1,a2,a3⟩:=wM E.P G w0 μ φ w _ ρ (DU (some w.heap.size) c.toNat (List.replicate n.toNat z).length (aV E.P e)) hM hF (ll.alloc (o:=.cells (madeCells zv.cells (c.toNat*aV E.P e)) e) hM rfl (fun φ' hp _=>aN.pB (g:=w.heap.size) (by rw[hp]) rfl hb.2.2.2.2 (by rw[hp];simp only[maxLen];omega) (fS w _) (by rw[hp];simp[size_madeCells]) (by rw[hp];simp;omega) (Cells.made (h4 μ) hb.2.2.2.2 _ _ (by omega))) (by simp[bR.names]));refine⟨_,_,φ',hr,a2,a3,?_⟩;have:=ah.os (P:=E.P) (μ:=μ) (φ:=φ') (id:=site) (g:=w.heap.size) (by rw[a1]);simp_all
   ·cases h
  ·cases h
 ·cases h
theorem OD(cells:Array Value)(n:Nat):Builtin.zeroCells cells n=madeCells cells (n*cells.size):=rfl
theorem T7{x:V}{m:Mem}{k:V→Mem→bG→Option R}{r:R}(h:EJ E t x m k=some r):∃id b,(∀m2:Mem,m2 id=m id→∀(R':Type)(k':V→Mem→bG→Option R'),EJ E t x m2 k'=k' .top (aq m2 id b) [(true,id)])∧k .top (aq m id b) [(true,id)]=some r∧∀(G:Nat→Option (List PV))(w0:bI)(μ:Ro)(φ:Nat→aH)(w:World)(ρ:Nat→Value)(f:Fr)(yx:Value)(ts:List TypeId)(ty:TypeId),az E.P G w0 μ φ m w→cu E.P μ φ m f ρ→ah E.P μ φ x yx→∃w',(Builtin.clear_ (t::ts).toArray ty #[yx]).run E.P w=.ok (.tuple #[]) w'∧az E.P G w0 μ φ (aq m id b) w'∧cu E.P μ φ (aq m id b) f ρ:=by
 unfold EJ at h;split at h
 ·rename_i e hu;split at h
  ·rename_i id lo len z hz;split at h
   ·rename_i sz et es hm;split at h
    ·rename_i hc;obtain⟨oh,rfl,hle,eF⟩:=hc;refine⟨id,_,fun m2 c9 R' k'=>?_,h,fun G w0 μ φ w ρ f yx ts ty hM hF hx=>?_⟩
     ·simp_all[EJ,BK,trivial]
     ·obtain⟨i,zv,h1,h2,h3,h4,h5⟩:=Cc hz;have hA:aN E.P μ φ w id sz et es:=hM.dH id _ hm;have adQ:len=0→aq m id (.arr sz et (es.take lo++(List.replicate len z++es.drop (lo+len))))=m:=by
       intro h0;subst h0;rw[List.replicate_zero,aj1,akB,List.take_append_drop];funext j;by_cases ej:j=id
       ·subst ej;simp[hm]
       ·rw[aw ej]
      cases hx with
      |rJ hg=>rw[adQ rfl];simp_all[Builtin.clear_,run_underlying]
      | @fX _ _ _ cap g a hg hl ha hc1 Wf=>
       by_cases h0:len=0
       ·simp_all[Builtin.clear_,run_underlying]
       ·have qd:=hA.pz;have Jo:=hA.1;have aje:=hA.2.1;have adR:a=⟨g,lo*sz,none⟩:=by grind
        subst adR;obtain⟨c,T,c1,c2,c3,c4,c5⟩:=hA.cells hg;have OA:zv.cells.size=sz:=by rw[(h5 μ).size,oh]
        have hn:len*zv.cells.size=len*sz:=by rw[OA]
        have hlen:(madeCells zv.cells (len*sz)).toList.length=len*sz:=by simp[size_madeCells]
        have hb1:(lo+len)*sz≤es.length*sz:=adq _ hle;have vg:(lo+len)*sz=lo*sz+len*sz:=ake _ _ _;have vw:=Cells.made (P:=E.P) (μ:=μ) (by rw[←oh]at h5;exact h5 μ) (by omega) len len (ajC _);have ta:∀v∈(madeCells zv.cells (len*sz)).toList,v.oneCell'=true:=fun v hv=>by obtain⟨j,hj⟩:=ajX hv;refine vw.one j v ?_;grind
        have ov:=run_storeCells_at E.P g (lo*sz) T (madeCells zv.cells (len*sz)).toList 0 c w c1 (by omega) ta;rw[hlen,akB]at ov;have hnl:(es.take lo++(List.replicate len z++es.drop (lo+len))).length=es.length:=by simp;omega
        refine⟨w.setRow g (c.toList.take (lo*sz)++(madeCells zv.cells (len*sz)).toList++c.toList.drop (lo*sz+len*sz)).toArray,?_,hM.write hm rfl hg (lA.setRow (ajC _)) setRow_size (fun k hk=>cv hk) ?_ rfl (by simp[bR.names]),hF.ni (fun _ _ h=>h) .set⟩
        ·obtain⟨n',rfl⟩:∃n',len=n'+1:=⟨len-1,by omega⟩;simp_all[Builtin.clear_,run_underlying,pj,OD]
        ·refine aN.pB (g:=g) ?_ hA.2.2.1 hA.2.2.2.1 qd.2 (setRow_heap w g c _ T (0,0) c1) ?_ (by omega) ?_
         ·rw[hnl,←hA.1,←hA.2.1];cases hq:(φ id).toDd with
          |mk a b c d=>simp_all
         ·grind
         ·rw[hnl];have hM2:Cells E.P μ sz (List.replicate len z) (madeCells zv.cells (len*sz)).toList:=by grind
          have hX:=(c5.take lo).append (hM2.append (c5.drop (lo+len)));have e1:(c.toList.take (lo*sz)++(madeCells zv.cells (len*sz)).toList++c.toList.drop (lo*sz+len*sz)).take (es.length*sz)=(c.toList.take (es.length*sz)).take (lo*sz)++((madeCells zv.cells (len*sz)).toList++(c.toList.take (es.length*sz)).drop ((lo+len)*sz)):=by
           have l1:(c.toList.take (lo*sz)).length=lo*sz:=by grind
           have l2:(c.toList.take (lo*sz)++(madeCells zv.cells (len*sz)).toList).length=lo*sz+len*sz:=by simp_all
           grind [List.take_append,List.take_of_length_le,Nat.min_eq_left,List.drop_take,List.append_assoc]
          rw[e1];omega
    ·cases h
   ·cases h
  ·cases h
 ·cases h
theorem Dj(off:Nat):∀(l:List Value)(k:Nat)(c:Array Value),off+k+l.length≤c.size→(l.zipIdx k).foldl (fun cs(x:Value×Nat)=>cs.setIfInBounds (off+x.2) x.1) c=(bT c.toList (off+k) l).toArray
 |[],k,c,_=>by simp[dI]
 |v::r,k,c,h=>by simp only[List.zipIdx_cons,amP];rw[Dj off r (k+1) _ (by simp at h⊢;omega)];congr 1;have e:=list_seg_step c.toList (off+k) v r (by omega);simp_all[dI,amb,akl]
theorem yM{place:Nat→Option (Nat×Nat)}{c:Array Value}{i off size:Nat}{v:Value}{rest:List (Nat×Value)}(hp:place i=some (off,size))(hv:v.cells.size=size)(hb:off+size≤c.size):Instr.fill place c ((i,v)::rest)=Instr.fill place (bT c.toList off v.cells.toList).toArray rest:=by
 have h1:v.cells.zipIdx.foldl (fun cs(x:Value×Nat)=>cs.setIfInBounds (off+x.2) x.1) c=(bT c.toList off v.cells.toList).toArray:=by rw[←Array.foldl_toList,Array.toList_zipIdx];simp_all[Dj]
 simp_all[Instr.fill,IN]
theorem Fa{place:Nat→Option (Nat×Nat)}:∀{parts:List (Nat×V)}{cs Ov:List V},Hx place cs parts=some Ov→(∀id,cD id Ov=true→cD id cs=true∨cD id (parts.map (·.2))=true)∧Ov.length=cs.length∧∀(P:Program)(μ:Ro)(φ:Nat→aH)(c:Array Value)(dt:List (Nat×Value)),dt.length=parts.length→(∀(j i:Nat)v,parts[j]?=some (i,v)→∃y,dt[j]?=some (i,y)∧ah P μ φ v y)→c.size=cs.length→(∀(i:Nat)u y,cs[i]?=some u→c[i]?=some y→ah P μ φ u y)→(∀(i:Nat)(y:Value),c[i]?=some y→y.oneCell'=true)→∃c',Instr.fill place c dt=some c'∧c'.size=Ov.length∧(∀(i:Nat)u y,Ov[i]?=some u→c'[i]?=some y→ah P μ φ u y)∧(∀(i:Nat)(y:Value),c'[i]?=some y→y.oneCell'=true)
 |[],cs,Ov,h=>by simp only[Hx,AT]at h;subst h;refine⟨fun id av=>.inl av,rfl,fun P μ φ c dt hl _ hs hr h1=>?_⟩;have:dt=[]:=ajB (by simpa using hl);subst this;exact⟨c,rfl,hs,hr,h1⟩
 |(i,v)::rest,cs,Ov,h=>by
  simp only[Hx]at h;split at h
  ·rename_i off size hp;split at h
   ·rename_i new hn;split at h
    ·rename_i hb;obtain⟨n1,n2,n3⟩:=toCells_ok hn;obtain⟨f1,f2,f3⟩:=Fa h;have hlen:(bT cs off new).length=cs.length:=cP (by omega);refine⟨fun id av=>?_,by rw[f2,hlen],fun P μ φ c dt hl oi hs hr h1=>?_⟩
     ·rcases f1 id av with h|h
      ·obtain⟨u,hu,hh⟩:=cW.1 h;simp only[dI,ajI]at hu;rcases hu with(hu|hu)|hu
       ·exact .inl (bU (akN hu) hh)
       ·exact .inr (by simp only[ajy,cD,ajA];exact .inl (n2 id (bU hu hh)))
       ·exact .inl (bU (ak8 hu) hh)
      ·exact .inr (by simp only[ajy,cD,ajA];exact .inr h)
     ·obtain⟨y,hy,ZK⟩:=oi 0 i v (by simp);cases dt with
      |nil=>simp at hl
      |cons a nc=>
       simp at hy;subst hy;obtain⟨x1,x2,x3⟩:=n3 P μ φ y ZK;rw[yM hp x1 (by omega)];have rT:off+y.cells.toList.length≤c.toList.length:=by simp;omega
       have e1:y.cells.toList.length=new.length:=by simp;omega
       refine f3 P μ φ _ nc (by simpa using hl) (fun j i' v' hj=>?_) ?_ (fun j u z hu hz=>?_) (fun j z hz=>?_)
       ·have:=oi (j+1) i' v' (by simpa using hj);simpa using this
       ·simp only[akr];rw[cP rT,hlen];simp[hs]
       ·rw[aj0]at hz;rcases dr rT hz with⟨b1,b2,b3⟩|⟨b1,b2⟩<;>rcases dr (by omega) hu with⟨d1,d2,d3⟩|⟨d1,d2⟩
        ·exact x2 _ u z d3 (by simpa using b3)
        ·exfalso;omega
        ·exfalso;omega
        ·exact hr j u z d2 (by simpa using b2)
       ·rw[aj0]at hz;rcases dr rT hz with⟨b1,b2,b3⟩|⟨b1,b2⟩
        ·exact x3 _ z (by simpa using b3)
        ·exact h1 j z (by simpa using b2)
    ·cases h
   ·cases h
  ·cases h
theorem Fb:∀{fs:List Field},fs.all (fun f=>(E.P.info? f.type).isSome)=true→fs.mapM (fun f=>(E.P.info? f.type).map fun i=>(f.offset,i.size))=some (fs.map fun f=>(f.offset,aV E.P f.type))
 |[],_=>rfl
 |f::r,h=>by simp only[al3,T1]at h;obtain⟨i,hi⟩:=ajR.1 h.1;simp only[amo,hi,ah5,Fb h.2,ajy];simp[aV,hi]
theorem T8{parts:List (Nat×V)}{k:V→Option R}{r:R}(h:B1 E t parts k=some r):∃v,(∀(R':Type)(k':V→Option R'),B1 E t parts k'=k' v)∧k v=some r∧(∀id,v.has id=true→cD id (parts.map (·.2))=true)∧∀(μ:Ro)(φ:Nat→aH)(w:World)(dt:Array (Nat×Value)),dt.size=parts.length→(∀(j i:Nat)v,parts[j]?=some (i,v)→∃y,dt[j]?=some (i,y)∧ah E.P μ φ v y)→∃z,(Instr.build t dt).run E.P w=.ok z w∧ah E.P μ φ v z:=by
 unfold B1 at h;split at h
 ·rename_i z fs hz hu;split at h
  ·rename_i Hh;split at h
   ·rename_i cs hf;obtain⟨i,zv,h1,h2,h3,h4,h5,h6,h7,h8⟩:=eS hz;obtain⟨f1,f2,f3⟩:=Fa hf;refine⟨_,fun R' k'=>by simp_all[B1,BK],h,fun id av=>?_,fun μ φ w dt hl hp=>?_⟩
    ·grind [V.has,id]
    ·obtain⟨c',c1,c2,c3,c4⟩:=f3 E.P μ φ zv.cells dt.toList (by omega) (fun j i v hj=>by simpa using hp j i v hj) (by omega) (h7 μ φ) h8;refine⟨_,run_build w t dt c' ?_,.agg c2.symm c3 c4⟩;simp only[Program.built,h1,hu,h2,Fb Hh];rw[←c1];congr 1;funext j;simp[placesOf]
   ·cases h
  ·cases h
 ·rename_i z n e hz hu;split at h
  ·rename_i eF;split at h
   ·rename_i cs hf;obtain⟨i,zv,h1,h2,h3,h4,h5,h6,h7,h8⟩:=eS hz;obtain⟨f1,f2,f3⟩:=Fa hf;refine⟨_,fun R' k'=>by simp_all[B1,BK],h,fun id av=>?_,fun μ φ w dt hl hp=>?_⟩
    ·grind [V.has,id]
    ·obtain⟨c',c1,c2,c3,c4⟩:=f3 E.P μ φ zv.cells dt.toList (by omega) (fun j i v hj=>by simpa using hp j i v hj) (by omega) (h7 μ φ) h8;obtain⟨ie,hie,hse⟩:=yH (P:=E.P) (t:=e) (by omega);refine⟨_,run_build w t dt c' ?_,.agg c2.symm c3 c4⟩;simp only[Program.built,h1,hu,h2,hie,hse];omega
   ·cases h
  ·cases h
 ·cases h
theorem tJ{n:Nat}{agg:Bool}:∀{parts:List (Nat×V)}{m m':Mem}{i:Nat}{ps:List PV},fp m n agg i parts=some (ps,m')→kB m m'∧ps.length=parts.length∧∀(P:Program)(G:Nat→Option (List PV))(w0:bI)(μ:Ro)(φ:Nat→aH)(w:World)(dt:List (Nat×Value))(es:List PV)(c:Array Value),az P G w0 μ φ m w→dt.length=parts.length→(∀(j i:Nat)v,parts[j]?=some (i,v)→∃y,dt[j]?=some (i,y)∧ah P μ φ v y)→es.length=i→c.size=(i+parts.length)*n→Cells P μ n es (c.toList.take (es.length*n))→∃μ' c',(∀b o,μ b=some o→μ' b=some o)∧az P G w0 μ' φ m' w∧Instr.fill (fun i=>some (i*n,n)) c dt=some c'∧c'.size=(i+parts.length)*n∧Cells P μ' n (es++ps) c'.toList
 |[],m,m',i,ps,h=>by
  simp only[fp,AT,ado]at h;obtain⟨rfl,rfl⟩:=h;refine⟨.refl _,rfl,fun P G w0 μ φ w dt es c hM hl _ he hc hC=>⟨μ,c,fun _ _ h=>h,hM,?_,hc,?_⟩⟩
  ·have:dt=[]:=ajB (by omega);subst this;rfl
  simp_all[aj2,aj8,ajC]
 |(j,v)::r,m,m',i,ps,h=>by
  simp only[fp]at h;split at h
  ·rename_i OE;subst OE;split at h
   ·rename_i p m1 hf;split at h
    ·rename_i ps1 m2 hr;simp only[AT,ado]at h;obtain⟨rfl,rfl⟩:=h;obtain⟨a1,a2⟩:=E5 hf;obtain⟨b1,b2,b3⟩:=tJ hr;refine⟨a1.trans b1,by simp[b2],fun P G w0 μ φ w dt es c hM hl hp he hc hC=>?_⟩;obtain⟨y,hy,ZK⟩:=hp 0 i v (by simp);cases dt with
     |nil=>simp at hl
     |cons a nc=>
      simp at hy;subst hy;obtain⟨μ1,c1,c2,c3⟩:=a2 P G w0 μ φ w y hM ZK;have rT:i*n+n≤c.size:=by grind
      have hyl:y.cells.toList.length=n:=by simpa using c3.size
      have aa6:i*n+y.cells.toList.length≤c.toList.length:=by simp_all
      obtain⟨μ2,c',d1,d2,d3,d4,d5⟩:=b3 P G w0 μ1 φ w nc (es++[p]) (bT c.toList (i*n) y.cells.toList).toArray c2 (by simpa using hl) (fun j i' v' hj=>by
       obtain⟨z,hz1,hz2⟩:=hp (j+1) i' v' (by simpa using hj);exact⟨z,by simpa using hz1,hz2.zf c1⟩) (by simp[he]) (by
       simp only[akr];rw[cP aa6];grind) (by
       have e1:((bT c.toList (i*n) y.cells.toList).toArray.toList.take ((es++[p]).length*n))=c.toList.take (es.length*n)++y.cells.toList:=by simp only[dI,ags,akI,he];exact al9 (by grind)
       rw[e1];refine(hC.mono c1).append ⟨by simp[hyl],fun k e hk=>?_,fun k e l q z hk hl hz=>?_,fun k z hz=>c3.one k z (by simpa using hz)⟩
       ·cases k with
        |zero=>simp at hk;subst hk;exact c3.len
        |succ k=>simp at hk
       ·cases k with
        |zero=>simp at hk;subst hk;exact c3.rep l q z hl (by simpa using hz)
        |succ k=>simp at hk)
      refine⟨μ2,c',fun b o h=>d1 b o (c1 b o h),d2,?_,by grind,by simpa using d5⟩;rw[yM rfl c3.size rT];omega
    ·cases h
   ·cases h
  ·cases h
theorem HZ:∀{parts:List (Nat×V)}{i:Nat}{cs:List V},EI i parts=some cs→cs.length=parts.length∧(∀id,cD id cs=true→cD id (parts.map Prod.snd)=true)∧∀(P:Program)(μ:Ro)(φ:Nat→aH)(dt:List (Nat×Value))(c:Array Value),dt.length=parts.length→(∀(j i:Nat)v,parts[j]?=some (i,v)→∃y,dt[j]?=some (i,y)∧ah P μ φ v y)→c.size=i+parts.length→∃c',Instr.fill (fun i=>some (i*1,1)) c dt=some c'∧c'.size=c.size∧(∀j,j<i→c'[j]?=c[j]?)∧∀j u,cs[j]?=some u→∃y,c'[i+j]?=some y∧ah P μ φ u y∧y.oneCell'=true
 |[],i,cs,h=>by simp only[EI,AT]at h;subst h;refine⟨rfl,by simp[cD],fun P μ φ dt c hl _ hc=>⟨c,?_,rfl,fun _ _=>rfl,by simp⟩⟩;have:dt=[]:=ajB (by omega);subst this;rfl
 |(j,v)::r,i,cs,h=>by
  simp only[EI]at h;split at h
  ·rename_i OE;subst OE;split at h
   ·rename_i us0 hf;split at h
    ·rename_i us hr;simp only[AT]at h;subst h;obtain⟨a1,a2,a3⟩:=toCells_ok hf;obtain⟨b1,b2,b3⟩:=HZ hr;refine⟨by simp[a1,b1];omega,fun id av=>?_,fun P μ φ dt c hl hp hc=>?_⟩
     ·obtain⟨u,hu,hh⟩:=cW.1 av;rcases ajI.1 hu with hu|hu
      ·simp only[ajy,cD,ajA];exact .inl (a2 id (bU hu hh))
      ·simp only[ajy,cD,ajA];exact .inr (b2 id (bU hu hh))
     ·obtain⟨y,hy,ZK⟩:=hp 0 i v (by simp);cases dt with
      |nil=>simp at hl
      |cons a nc=>
       simp at hy;subst hy;obtain⟨c1,c2,c3⟩:=a3 P μ φ y ZK;have rT:i*1+1≤c.size:=by simp at hc;omega
       have hyl:y.cells.toList.length=1:=by omega
       have aa6:i*1+y.cells.toList.length≤c.toList.length:=by simp_all
       obtain⟨c',d1,d2,d3,d4⟩:=b3 P μ φ nc (bT c.toList (i*1) y.cells.toList).toArray (by simpa using hl) (fun j i' v' hj=>by
        obtain⟨z,hz1,hz2⟩:=hp (j+1) i' v' (by simpa using hj);simp_all) (by
        grind [List.size_toArray,cP,Array.length_toList,List.length_cons])
       have ug:∀k,(bT c.toList (i*1) y.cells.toList).toArray[k]?=if k=i then y.cells[0]? else c[k]?:=fun k=>by rw[aj0];rw[dI];rw[ajN,ajZ,akt,akK (by omega),ajZ,hyl];grind
       refine⟨c',?_,by simp_all[akr,cP],fun k hk=>?_,fun k u hu=>?_⟩
       ·rw[yM rfl c1 rT];omega
       ·grind
       ·have h0:us0.length=1:=a1;rw[ajZ,h0]at hu;split at hu
        ·rename_i hk;have hk0:k=0:=by omega
         subst hk0;have h5:=d3 i (by omega);grind
        grind
    ·cases h
   ·cases h
  ·cases h
end
section
variable {P:Program}
theorem iO:∀(d:Nat)(t:TypeId)(ks:List Kd),BM P d t=some ks→∀(D:Nat)(w:World)(em:Bool)(ps:List PV),mP ks ps=true→(Instr.checkKey em (D+d) t (e8 P t ps)).run P w=.ok () w
 |0,t,ks,h,_,_,_,_,_=>by simp[BM]at h
 |d+1,t,ks,h,D,w,em,ps,hp=>by
  have ih:=iO d;unfold BM at h;split at h
  ·rename_i q hu;simp only[AT]at h;subst h;have ha:aF P t=false:=by simp[aF,hu]
   obtain⟨p,rfl,VI⟩:=nh hp;clear hp;cases p<;>simp[uj]at VI;simp[e8,ha,valOf,←akl,Instr.checkKey,run_underlying hu]
  ·rename_i hu;simp only[AT]at h;subst h;have ha:aF P t=false:=by simp[aF,hu]
   obtain⟨p,rfl,VI⟩:=nh hp;clear hp;cases p<;>simp[uj]at VI;simp[e8,ha,valOf,←akl,Instr.checkKey,run_underlying hu]
  ·rename_i hu;simp only[AT]at h;subst h;have ha:aF P t=false:=by simp[aF,hu]
   obtain⟨p,rfl,VI⟩:=nh hp;clear hp;cases p<;>simp[uj]at VI;simp[e8,ha,valOf,←akl,Instr.checkKey,run_underlying hu]
  ·rename_i fs hu;split at h
   ·cases h
   ·obtain⟨a,ha,h⟩:=BY.1 h;split at h
    ·rename_i hlen;simp only[AT]at h;subst h;have N5:aF P t=true:=by simp[aF,hu]
     simp only[e8,N5,aaV,←akl];rw[Instr.checkKey];simp only[Sem.run_bind,run_underlying hu,Result.andThen_ok];rw[←Array.forIn_toList];have key:∀(L:List Field)(off:Nat)(b:List Kd),rD (BM P d) L off=some b→off≤ps.length→mP b (ps.drop off)=true→(forIn L PUnit.unit fun f(_:PUnit)=>(do
       if f.name≠ "_" then Instr.checkKey em (D+d) f.type (←part f.type (ps.map valOf).toArray f.offset)
       pure (ForInStep.yield PUnit.unit):Sem (ForInStep PUnit))).run P w=.ok PUnit.unit w:=by
      intro L;induction L with
      |nil=>intro off b _ _ _;simp
      |cons f L ihL=>
       intro off b hb o1 h1;simp only[rD]at hb;split at hb
       ·rename_i hf;obtain⟨c,hc,hb⟩:=BY.1 hb;obtain⟨b',iv,hb⟩:=BY.1 hb;simp only[AT]at hb;subst hb;rw[rN]at h1;have l1:=qY h1.1;simp only[akt,akP]at l1;have p1:=kV (w:=w) (ps:=ps) (off:=off) hc (by omega);have p3:=ih f.type c hc D w em _ h1.1;have p4:=ihL (off+c.length) b' iv (by omega) (by rw[←akD];exact h1.2);simp only[List.forIn_cons,hf.2,am9,alN,aaV,Sem.run_bind,hf.1,p1,p3,Result.andThen_ok,Sem.run_pure];exact p4
       ·cases hb
     have:=key fs.toList 0 a ha (by simp) (by simpa using hp);simp at this;simp[this]
    ·cases h
  ·rename_i n e hu;obtain⟨a,ha,h⟩:=BY.1 h;split at h
   ·rename_i hlen;simp only[AT]at h;subst h;have N5:aF P t=true:=by simp[aF,hu]
    obtain⟨_,_,de,hde⟩:=yJ ha;have oh:(sizeOf e).run P w=.ok a.length w:=by rw[hlen.1];exact Dg hde
    simp only[e8,N5,aaV,←akl];rw[Instr.checkKey];simp only[Sem.run_bind,run_underlying hu,Result.andThen_ok];simp only[Std.Legacy.Range.forIn_eq_forIn_range',Std.Legacy.Range.size,alC,Nat.add_one_sub_one,Nat.div_one];have key:∀(k j:Nat),j*a.length≤ps.length→mP (rE a k) (ps.drop (j*a.length))=true→(forIn (List.range' j k) PUnit.unit fun i(_:PUnit)=>(do
      Instr.checkKey em (D+d) e (←part e (ps.map valOf).toArray (i*(←sizeOf e)))
      pure (ForInStep.yield PUnit.unit):Sem (ForInStep PUnit))).run P w=.ok PUnit.unit w:=by
     intro k;induction k with
     |zero=>intro j _ _;simp
     |succ k ihk=>
      intro j o1 h1;simp only[rE]at h1;rw[rN]at h1;have l1:=qY h1.1;simp only[akt,akP]at l1;have p1:=kV (w:=w) (ps:=ps) (off:=j*a.length) ha (by omega);have p3:=ih e a ha D w em _ h1.1;have ej:(j+1)*a.length=j*a.length+a.length:=by rw[ake];omega
      have p4:=ihk (j+1) (by omega) (by rw[ej,←akD];exact h1.2);rw[alV];simp only[List.forIn_cons,Sem.run_bind,oh,p1,p3,Result.andThen_ok,Sem.run_pure];exact p4
    have:=key n 0 (by simp) (by simpa using hp);simp at this;simp[this]
   ·cases h
  ·cases h
variable{kt:TypeId}{ks:List Kd}
theorem mS{μ:Ro}{k:PV}{y:Value}(h:wy P kt ks k=true)(hy:ai P μ k y):mP ks k.cells=true∧y=e8 P kt k.cells:=by
 simp only[wy,T1,beq_iff_eq]at h;refine⟨h.1,?_⟩;cases hq:k.isAgg with
 |true=>
  cases k<;>simp[PV.isAgg]at hq;cases hy with
  |agg h1 h2 h3=>have:=tE h.1 h1.symm h2;rw[this];simp[e8,h.2,PV.isAgg,PV.cells]
 |false=>
  have hc:k.cells=[k]:=by cases k<;>first|rfl|(simp[PV.isAgg]at hq)
  have h1:=h.1;rw[hc]at h1;cases ks with
  |nil=>simp[mP]at h1
  |cons kd r=>simp only[mP,T1]at h1;have:=HN h1.1 hy;simp[e8,h.2,hq,hc,this]
theorem Jq:∀{ks:List Kd}{ps qs:List PV},mP ks ps=true→mP ks qs=true→dW ps qs=true→ps=qs
 |[],[],[],_,_,_=>rfl
 |k::ks,p::ps,q::qs,h1,h2,h3=>by
  simp only[mP,T1]at h1 h2;simp only[dW,T1]at h3;rw[Jq h1.2 h2.2 h3.2];have:p=q:=by cases k<;>cases p<;>simp[uj]at h1<;>cases q<;>simp[uj]at h2<;>simp[peq]at h3<;>simp_all
  rw[this]
 |[],p::ps,_,h,_,_=>by simp[mP]at h
 |k::ks,[],_,h,_,_=>by simp[mP]at h
 |[],[],q::qs,_,h,_=>by simp[mP]at h
 |k::ks,p::ps,[],_,h,_=>by simp[mP]at h
structure xc(P:Program)(μ:Ro)(kt:TypeId)(ks:List Kd)(l:List (PV×PV))(es:List MapEntry):Prop where
 len:es.length=l.length
 key:∀(i:Nat)k v,l[i]?=some (k,v)→wy P kt ks k=true
 rep:∀(i:Nat)k v e,l[i]?=some (k,v)→es[i]?=some e→ai P μ k e.key∧ai P μ v e.val
variable{l:List (PV×PV)}{es:List MapEntry}
theorem xc.tail{μ:Ro}{x:PV×PV}{e:MapEntry}(h:xc P μ kt ks (x::l) (e::es)):xc P μ kt ks l es:=⟨by simpa using h.len,fun i k v hi=>h.key (i+1) k v (by simpa using hi),fun i k v e hi he=>h.rep (i+1) k v e (by simpa using hi) (by simpa using he)⟩
inductive Found(k v:PV)(z:PV)(l:List (PV×PV))(es:List MapEntry)(i:Nat):Option (Nat×Value)→Prop
 |none:wK k l=false→dS k z l=z→fg k v l=l++[(k,v)]→Found k v z l es i none
 |some {j:Nat} {a u:PV} {e:MapEntry}:l[j]?=some (a,u)→es[j]?=some e→dW k.cells a.cells=true→wK k l=true→dS k z l=u→fg k v l=l.set j (k,v)→Found k v z l es i (some (i+j,e.val))
theorem Found.cons{k v z:PV}{x:PV×PV}{l:List (PV×PV)}{e:MapEntry}{es:List MapEntry}{i:Nat}{r:Option (Nat×Value)}(hx:dW k.cells x.1.cells=false)(h:Found k v z l es (i+1) r):Found k v z (x::l) (e::es) i r:=by
 obtain⟨a,u⟩:=x;cases h with
 |none h1 h2 h3=>exact .none (by simpa[wK,hx]using h1) (by simpa[dS,hx]using h2) (by simpa[fg,hx]using h3)
 | @some j a' u' e' h1 h2 h3 h4 h5 h6=>have:=Found.some (k:=k) (v:=v) (z:=z) (l:=(a,u)::l) (es:=e::es) (i:=i) (j:=j+1) (a:=a') (u:=u') (e:=e') (by simpa using h1) (by simpa using h2) h3 (by simpa[wK,hx]using h4) (by simpa[dS,hx]using h5) (by simpa[fg,hx]using h6);rw[show i+1+j=i+(j+1) by omega];exact this
theorem Found.here{k v z:PV}{a u:PV}{e:MapEntry}{i:Nat}(hx:dW k.cells a.cells=true):Found k v z ((a,u)::l) (e::es) i (Option.some (i,e.val)):=by have:=Found.some (k:=k) (v:=v) (z:=z) (l:=(a,u)::l) (es:=e::es) (i:=i) (j:=0) (a:=a) (u:=u) (e:=e) (by simp) (by simp) hx (by simp[wK,hx]) (by simp[dS,hx]) (by simp[fg,hx]);simpa using this
theorem rU{μ:Ro}{kt:TypeId}{ks:List Kd}{k v z:PV}(hk:BM P 8 kt=some ks)(Dk:mP ks k.cells=true)(w:World):∀(l:List (PV×PV))(es:List MapEntry)(i:Nat),xc P μ kt ks l es→∃r,(Instr.findAsking kt (e8 P kt k.cells) es i).run P w=.ok r w∧Found k v z l es i r
 |[],es,i,h=>by have:es=[]:=ajB (by simpa using h.len);subst this;exact⟨none,by simp[Instr.findAsking],.none rfl rfl rfl⟩
 |(a,u)::l,es,i,h=>by
  cases es with
  |nil=>have:=h.len;simp at this
  |cons e es=>
   have hka:=h.key 0 a u (by simp);obtain⟨h1,h2⟩:=mS hka (h.rep 0 a u e (by simp) (by simp)).1;have he:(Op.equal kt (e8 P kt k.cells) e.key).run P w=.ok (dW k.cells a.cells) w:=by rw[h2];exact qe 8 kt ks hk 9992 w _ _ Dk h1
   cases hp:dW k.cells a.cells with
   |true=>exact⟨some (i,e.val),by simp[Instr.findAsking,he,hp],.here hp⟩
   |false=>obtain⟨r,r1,r2⟩:=rU (v:=v) (z:=z) hk Dk w l es (i+1) h.tail;exact⟨r,by simp[Instr.findAsking,he,hp,r1],r2.cons hp⟩
theorem Dl{μ:Ro}{kt:TypeId}{d:TypeDesc}{ks:List Kd}{k v z:PV}(hu:P.underlying kt=some d)(ha:aF P kt=false)(hk:BM P 8 kt=some ks)(Dk:mP ks k.cells=true):∀(l:List (PV×PV))(es:List MapEntry)(i:Nat),xc P μ kt ks l es→∃r,Instr.findNow d (e8 P kt k.cells) es i=some r∧Found k v z l es i r
 |[],es,i,h=>by have:es=[]:=ajB (by simpa using h.len);subst this;exact⟨none,by simp[Instr.findNow],.none rfl rfl rfl⟩
 |(a,u)::l,es,i,h=>by
  cases es with
  |nil=>have:=h.len;simp at this
  |cons e es=>
   have hka:=h.key 0 a u (by simp);obtain⟨h1,h2⟩:=mS hka (h.rep 0 a u e (by simp) (by simp)).1;have he:Instr.sameNow d (e8 P kt k.cells) e.key=some (dW k.cells a.cells):=by
    rw[h2];have qg:=hk;unfold BM at qg;rw[hu]at qg;cases d<;>simp at qg<;>try (simp[aF,hu]at ha;done)
    all_goals subst qg;obtain⟨p,hp1,hp2⟩:=nh Dk;obtain⟨q,hq1,hq2⟩:=nh h1;rw[hp1,hq1];cases p<;>simp[uj]at hp2;cases q<;>simp[uj]at hq2;simp[e8,ha,valOf,Instr.sameNow,dW,peq,hp2,hq2]
    all_goals (rw[ajO,Go.MapKept.bytes_beq];simp only[beq_iff_eq];exact⟨fun hh=>by have:=congrArg ByteArray.data hh;simpa using this,fun hh=>by rw[hh]⟩)
   cases hp:dW k.cells a.cells with
   |true=>exact⟨some (i,e.val),by simp[Instr.findNow,he,hp],.here hp⟩
   |false=>obtain⟨r,r1,r2⟩:=Dl (v:=v) (z:=z) hu ha hk Dk l es (i+1) h.tail;exact⟨r,by simp[Instr.findNow,he,hp,r1],r2.cons hp⟩
theorem mn{μ:Ro}{k v z:PV}(hk:BM P 8 kt=some ks)(Dk:mP ks k.cells=true)(w:World)(h:xc P μ kt ks l es):∃r,(Instr.findKey kt (e8 P kt k.cells) es).run P w=.ok r w∧Found k v z l es 0 r:=by
 obtain⟨_,_,d,hu⟩:=yJ hk;cases ha:aF P kt with
 |true=>rw[run_findKey_eq w (by unfold aF at ha;rw[hu]at ha⊢;cases d<;>simp_all)];exact rU hk Dk w l es 0 h
 |false=>obtain⟨r,r1,r2⟩:=Dl (v:=v) (z:=z) hu ha hk Dk l es 0 h;exact⟨r,Go.MapKept.run_findKey hu r1,r2⟩
end
section
variable {R:Type} {E:Env}
variable{P:Program}{t:TypeId}{ks:List Kd}
theorem yN(h:tg P t=some ks):BM P 8 t=some ks:=by simp_all[tg]
variable{kt:TypeId}
theorem uz{v:V}{key:PV}(h:keyOf E kt v=some key):∃ks,tg E.P kt=some ks∧wy E.P kt ks key=true∧∀(μ:Ro)(φ:Nat→aH)(y:Value),ah E.P μ φ v y→ai E.P μ key y:=by
 unfold keyOf at h;split at h
 ·rename_i ks Wi;refine⟨ks,Wi,?_⟩;split at h
  ·rename_i ha;split at h
   ·rename_i cs hc;split at h
    ·rename_i ps hp;split at h
     ·rename_i Sr;simp only[AT]at h;subst h;obtain⟨_,c2⟩:=py hc;obtain⟨p1,p2⟩:=iE hp;refine⟨by simp_all[wy,PV.cells,PV.isAgg],fun μ φ y hy=>?_⟩;obtain⟨xs,rfl,h1,h2,h3⟩:=c2 E.P μ φ y hy;refine .agg (by omega) (fun i q z hq hz=>?_) h3;grind [uv]
     ·cases h
    ·cases h
   ·cases h
  ·rename_i ha;split at h
   ·rename_i p;split at h
    ·rename_i Sr;simp only[AT]at h;subst h;refine⟨?_,fun μ φ y hy=>by cases hy with|pv hy=>omega⟩;cases ks with
     |nil=>simp[mP]at Sr
     |cons kd r=>
      have adS:=Sr;simp only[mP,T1]at adS;have ha':aF E.P kt=false:=by simpa using ha
      cases kd<;>cases p<;>simp[uj]at adS<;>simp_all[wy,PV.cells,PV.isAgg]
    ·cases h
   ·cases h
 ·cases h
variable{en:Array MapEntry}
theorem mB.push{clock:Nat}(h:mB en clock){k v:Value}:mB (en.push {key:=k,val:=v,born:=clock}) (clock+1):=by
 intro i e hi;rw[al7]at hi;split at hi
 ·rename_i e1;simp only[AT]at hi;subst hi;refine⟨Nat.lt_succ_self _,fun j e' hj hb=>?_⟩;rw[al7]at hj;split at hj
  ·omega
  ·have:=(h j e' hj).1;simp_all
 ·obtain⟨h1,h2⟩:=h i e hi;grind
theorem mB.modify{en:Array MapEntry}{clock:Nat}(h:mB en clock)(f:MapEntry→MapEntry)(hf:∀e,(f e).born=e.born)(k:Nat):mB (en.modify k f) clock:=by
 have key:∀(i:Nat)e,(en.modify k f)[i]?=some e→∃e0,en[i]?=some e0∧e.born=e0.born:=fun i e hi=>by grind
 intro i e hi;obtain⟨e0,h0,hb0⟩:=key i e hi;obtain⟨h1,h2⟩:=h i e0 h0;grind
inductive Wt(w:World):Value→Array MapEntry→Prop
 |nil:Wt w (.map none) #[]
 |at{g clock:Nat} {en:Array MapEntry}:w.heap[g]?=some (.map en clock)→Wt w (.map (some g)) en
theorem rV{μ:Ro}{et:TypeId}{key z:PV}{zv y yi:Value}{w:World}{l:List (PV×PV)}{ok:Bool}(hu:P.underlying t=some (.map kt et))(hk:tg P kt=some ks)(y0:wy P kt ks key=true)(hyi:ai P μ key yi)(hy:Wt w y en)(hE:xc P μ kt ks l en.toList)(hz:(zeroValue et).run P w=.ok zv w)(BO:ai P μ z zv):∃v,(Instr.lookup t y yi ok).run P w=.ok (if ok then .tuple #[v,.bool (wK key l)]else v) w∧ai P μ (dS key z l) v:=by
 have T9:=yN hk;obtain⟨hc,hv⟩:=mS y0 hyi;obtain⟨r,r1,r2⟩:=mn (v:=.bad) (z:=z) T9 hc w hE;have h1:=iO 8 kt ks T9 9992 w en.isEmpty key.cells hc;rw[hv];have pZ:∀(x:Value×Bool),(r=none→x=(zv,false))→(∀j v,r=some (j,v)→x=(v,true))→(Instr.lookup t y (e8 P kt key.cells) ok).run P w=.ok (if ok then .tuple #[x.1,.bool x.2]else x.1) w:=by
  intro x hx1 hx2;cases hy with
  |nil=>
   have Ua:(Instr.checkKey true 10000 kt (e8 P kt key.cells)).run P w=.ok () w:=h1;have r1':(Instr.findKey kt (e8 P kt key.cells) []).run P w=.ok r w:=r1;unfold Instr.lookup;simp only[Sem.run_bind,run_underlying hu,Result.andThen_ok,Sem.run_pure];cases r with
   |none=>simp_all
   |some jv=>obtain⟨j,v⟩:=jv;simp_all
  | «at» hg=>
   have He:=Go.MapKept.run_getObj_map (P:=P) hg;have Ua:(Instr.checkKey en.isEmpty 10000 kt (e8 P kt key.cells)).run P w=.ok () w:=h1;unfold Instr.lookup;simp only[Sem.run_bind,run_underlying hu,Result.andThen_ok,Sem.run_pure,He];cases r with
   |none=>simp_all
   |some jv=>obtain⟨j,v⟩:=jv;simp_all
 cases r2 with
 |none f1 f2 f3=>grind
 | @some j a u e f1 f2 f3 f4 f5 f6=>refine⟨e.val,?_,by rw[f5];exact(hE.rep j a u e f1 f2).2⟩;simp_all
variable{m:Mem}
theorem OG{x ix:V}{ok:Bool}{k:V→bG→Option R}{r:R}(h:vk E t x ix ok m k=some r):∃v ft,(∀m2:Mem,(∀x∈ft,m2 x.2=m x.2)→∀(R':Type)(k':V→bG→Option R'),vk E t x ix ok m2 k'=k' v ft)∧k v ft=some r∧(∀x∈ft,x.1=false)∧(∀id,v.has id=false)∧∀(G:Nat→Option (List PV))(w0:bI)(μ:Ro)(φ:Nat→aH)(w:World)(y yi:Value),az E.P G w0 μ φ m w→ah E.P μ φ x y→ah E.P μ φ ix yi→∃u,(Instr.lookup t y yi ok).run E.P w=.ok u w∧ah E.P μ φ v u:=by
 have out:∀(q:PV)(b:Bool)(id:Nat),(if ok=true then V.bu [.pv q,.pv (.bool b)]else .pv q).has id=false:=by grind [id,V.has,cD]
 have rep:∀(μ:Ro)(φ:Nat→aH)(q:PV)(b:Bool)(v:Value),ai E.P μ q v→ah E.P μ φ (if ok=true then V.bu [.pv q,.pv (.bool b)]else .pv q) (if ok=true then .tuple #[v,.bool b]else v):=by
  intro μ φ q b v hv;cases ok with
  |false=>exact .pv hv
  |true=>
   refine .bu (by simp) fun i p y hp hy=>?_;match i with
   |0=>simp at hp hy;subst hp;subst hy;exact .pv hv
   |1=>simp at hp hy;subst hp;subst hy;exact .pv .bool
   |n+2=>simp at hp
 unfold vk at h;split at h
 ·rename_i kt et hu;split at h
  ·rename_i z hz;obtain⟨zv,hz1,hz2⟩:=OC hz;split at h
   ·rename_i id;split at h
    ·rename_i wL es hm;split at h
     ·rename_i hkt;subst hkt;obtain⟨key,y0,h⟩:=BY.1 h;obtain⟨q,q1,q2,q3,_⟩:=mh h;obtain⟨ks,k1,k2,k3⟩:=uz y0;refine⟨_,_,fun m2 c9 R' k'=>by have:=c9 (false,id) (by simp);simp_all[vk,ajH,aaV],q2,by simp,out q _,fun G w0 μ φ w y yi hM hx hi=>?_⟩;obtain⟨g,en,clock,kk,hg,hh,hs,hk,Sr,_,hv⟩:=hM.dH id _ hm;rw[k1]at hk;simp only[AT]at hk;subst hk;cases hx with
      |om cO=>rw[hg]at cO;simp only[AT]at cO;subst cO;obtain⟨v,v1,v2⟩:=rV (ok:=ok) (z:=z) hu k1 k2 (k3 μ φ yi hi) (.at hh) (l:=es) ⟨by omega,Sr,fun i k v e h1 h2=>hv i k v e h1 (by simpa using h2)⟩ (hz1 w) (hz2 μ);exact⟨_,v1,rep μ φ q _ v (q3 _ _ _ v2)⟩
     ·cases h
    ·cases h
   ·rename_i pm;unfold dZ at h;split at h
    ·obtain⟨key,y0,h⟩:=BY.1 h;obtain⟨ks,k1,k2,k3⟩:=uz y0;refine⟨_,_,fun m2 c9 R' k'=>by simp_all[vk,dZ,ajH],h,by simp,out z _,fun G w0 μ φ w y yi hM hx hi=>?_⟩;cases hx with
     |pv hx=>cases hx with
      |wJ=>obtain⟨v,v1,v2⟩:=rV (ok:=ok) (z:=z) hu k1 k2 (k3 μ φ yi hi) .nil (l:=[]) ⟨by simp,by simp,by simp⟩ (hz1 w) (hz2 μ);exact⟨_,v1,rep μ φ z _ v v2⟩
    ·rename_i wL ks' vs';split at h
     ·rename_i hkt;subst hkt;obtain⟨key,y0,h⟩:=BY.1 h;obtain⟨q,q1,q2,q3,_⟩:=mh h;obtain⟨ks,k1,k2,k3⟩:=uz y0;refine⟨_,_,fun m2 c9 R' k'=>by simp_all[vk,dZ,ajH,aaV],q2,by simp,out q _,fun G w0 μ φ w y yi hM hx hi=>?_⟩;cases hx with
      |pv hx=>cases hx with
       | @rm _ _ _ b clock en kk m1 m2 m3 m4 m5 m6 m7=>
        rw[k1]at m4;simp only[AT]at m4;subst m4;have abW:∀(i:Nat)k v,(ks'.zip vs')[i]?=some (k,v)→ks'[i]?=some k∧vs'[i]?=some v:=fun i k v h=>by grind
        obtain⟨v,v1,v2⟩:=rV (ok:=ok) (z:=z) hu k1 k2 (k3 μ φ yi hi) (.at (hM.ro _ _ m1)) (l:=ks'.zip vs') ⟨by simp[m2,m3],fun i k v h=>m5 i k (abW i k v h).1,fun i k v e h1 h2=>⟨m6 i k e (abW i k v h1).1 (by simpa using h2),m7 i v e (abW i k v h1).2 (by simpa using h2)⟩⟩ (hz1 w) (hz2 μ);exact⟨_,v1,rep μ φ q _ v (q3 _ _ _ v2)⟩
     ·cases h
    ·cases h
   ·cases h
  ·cases h
 ·cases h
variable{m':Mem}
theorem H0{v:V}{p:PV}(h:vh m v=some (p,m')):kB m m'∧∀(P:Program)(G:Nat→Option (List PV))(w0:bI)(μ:Ro)(φ:Nat→aH)(w:World)(x:Value),az P G w0 μ φ m w→ah P μ φ v x→∃μ',(∀b o,μ b=some o→μ' b=some o)∧az P G w0 μ' φ m' w∧ai P μ' p x:=by
 unfold vh at h;split at h
 ·rename_i cs;split at h
  ·rename_i ps m1 hf;simp only[AT,ado]at h;obtain⟨rfl,rfl⟩:=h;obtain⟨f1,f2,f3⟩:=E4 hf;refine⟨f1,fun P G w0 μ φ w x hM hx=>?_⟩;cases hx with
   | @agg _ xs h1 h2 h3=>
    have hX:∀(i:Nat),i<cs.length→xs[i]?=some (xs.getD i undef):=fun i hi=>by simp_all
    obtain⟨μ',e1,e2,e3⟩:=f3 P G w0 μ φ w (fun i=>xs.getD i undef) hM fun i u hu=>h2 i u _ hu (hX i (IS.1 hu).1);refine⟨μ',e1,e2,.agg (by omega) (fun j q y hq hy=>?_) h3⟩;grind
  ·cases h
 ·exact Sx h
theorem Dm{v:V}{p:PV}(h:vh dh v=some (p,m')):∀(P:Program)(μ:Ro)(φ:Nat→aH)(x:Value),ah P μ φ v x→ai P μ p x:=by
 unfold vh at h;split at h
 ·rename_i cs;split at h
  ·rename_i ps m1 hf;simp only[AT,ado]at h;obtain⟨rfl,rfl⟩:=h;obtain⟨f2,f3⟩:=zP hf;intro P μ φ x hx;cases hx with
   | @agg _ xs h1 h2 h3=>
    have hX:∀(i:Nat),i<cs.length→xs[i]?=some (xs.getD i undef):=fun i hi=>by simp_all
    have e3:=f3 P μ φ (fun i=>xs.getD i undef) fun i u hu=>h2 i u _ hu (hX i (IS.1 hu).1);refine .agg (by omega) (fun j q y hq hy=>?_) h3;grind
  ·cases h
 ·exact HS h
theorem OH{draw:Bool}{v:V}{p:PV}(h:AQ draw m v=some (p,m')):kB m m'∧(draw=true→m'=m∧∀m2:Mem,AQ true m2 v=some (p,m2))∧∀(P:Program)(G:Nat→Option (List PV))(w0:bI)(μ:Ro)(φ:Nat→aH)(w:World)(x:Value),az P G w0 μ φ m w→ah P μ φ v x→∃μ',(∀b o,μ b=some o→μ' b=some o)∧az P G w0 μ' φ m' w∧ai P μ' p x:=by
 unfold AQ at h;split at h
 ·rename_i hd;split at h
  ·rename_i q m1 hf;simp only[AT,ado]at h;obtain⟨rfl,rfl⟩:=h;exact⟨.refl _,fun _=>⟨rfl,fun m2=>by simp[AQ,hf]⟩,fun P G w0 μ φ w x hM hx=>⟨μ,fun _ _ h=>h,hM,Dm hf P μ φ x hx⟩⟩
  ·cases h
 grind [H0,absurd]
theorem zs:∀{ps:List PV},mP ks ps=true→∀(n:Nat),(ps.map valOf).all (fun v=>Instr.sameBits n v v)=true:=by
 induction ks with
 |nil=>intro ps h n;cases ps<;>simp[mP]at h;rfl
 |cons k ks ih=>
  intro ps h n;cases ps with
  |nil=>rfl
  |cons p ps=>simp only[mP,T1]at h;simp only[ajy,al3,ih h.2 n,akY];cases k<;>cases p<;>simp[uj]at h<;>simp[valOf,Instr.sameBits,Go.MapKept.bytes_beq]
theorem xd{ps:List PV}(h:mP ks ps=true)(hl:aF P t=false→ps.length=1)(n:Nat):Instr.sameBits (n+1) (e8 P t ps) (e8 P t ps)=true:=by
 unfold e8;cases ha:aF P t with
 |true=>have:=zs h n;simp only[aaV,Instr.sameBits,BEq.rfl,akp];grind
 |false=>
  have h1:=hl ha;match ps,h1 with
  |[p],_=>have:=zs h (n+1);simpa using this
theorem zt{draw:Bool}{x key val:V}{k:Mem→bG→Option R}{r:R}(h:oF E draw t x key val m k=some r):∃m' ft,k m' ft=some r∧(draw=true→∃id b,m'=aq m id b∧ft=[(true,id)]∧∀m2:Mem,m2 id=m id→∀(R':Type)(k':Mem→bG→Option R'),oF E true t x key val m2 k'=k' (aq m2 id b) [(true,id)])∧kB m m'∧∀(G:Nat→Option (List PV))(w0:bI)(μ:Ro)(φ:Nat→aH)(w:World)(ya yk yv:Value),az E.P G w0 μ φ m w→ah E.P μ φ x ya→ah E.P μ φ key yk→ah E.P μ φ val yv→∃w' μ',(Instr.mapUpdate t ya yk yv).run E.P w=.ok () w'∧(∀b o,μ b=some o→μ' b=some o)∧az E.P G w0 μ' φ m' w':=by
 unfold oF at h;split at h
 ·rename_i kt et hu;split at h
  ·rename_i id;split at h
   ·rename_i v m1 hf;obtain⟨f1,f2,f3⟩:=OH hf;split at h
    ·rename_i wL es hm;split at h
     ·rename_i hkt;subst hkt;obtain⟨kp,y0,h⟩:=BY.1 h;obtain⟨ks,k1,k2,k3⟩:=uz y0;refine⟨_,_,h,fun hd=>?_,f1.trans .set,fun G w0 μ φ w ya yk yv hM hx hk hv=>?_⟩
      ·obtain⟨rfl,f4⟩:=f2 hd;exact⟨id,_,rfl,rfl,fun m2 c9 R' k'=>by simp_all[oF,ajH,aaV]⟩
      ·obtain⟨μ',g1,g2,g3⟩:=f3 _ _ _ _ _ _ _ hM hv;obtain⟨g,en,clock,kk,hg,hh,hs,Dk,Sr,yE,ku⟩:=g2.dH id _ hm;rw[k1]at Dk;simp only[AT]at Dk;subst Dk;have T9:=yN k1;have hkr:=(k3 μ φ yk hk).mono g1;obtain⟨hc,hkv⟩:=mS k2 hkr;have hE:xc E.P μ' wL ks es en.toList:=⟨by omega,Sr,fun i k v e h1 h2=>ku i k v e h1 (by simpa using h2)⟩;obtain⟨res,r1,r2⟩:=mn (v:=v) (z:=.bad) T9 hc w hE;have He:=Go.MapKept.run_getObj_map (P:=E.P) hh;have h1:(Instr.checkKey false 10000 wL yk).run E.P w=.ok () w:=by rw[hkv];exact iO 8 wL ks T9 9992 w false kp.cells hc
       rw[←hkv]at r1;have cd:g<w.heap.size:=(adp.1 hh).1;cases hx with
       |om cO=>
        rw[hg]at cO;simp only[AT]at cO;subst cO;have fin:∀(o:Obj)(N9:Array MapEntry)(qi:Nat),o=.map N9 qi→(Instr.mapUpdate t (.map (some g)) yk yv).run E.P w=.ok () {w with heap:=w.heap.setIfInBounds g o}→mB N9 qi→xc E.P μ' wL ks (fg kp v es) N9.toList→∃w' μ',(Instr.mapUpdate t (.map (some g)) yk yv).run E.P w=.ok () w'∧(∀b o,μ b=some o→μ' b=some o)∧az E.P G w0 μ' φ (aq m1 id (.map wL (fg kp v es))) w':=by rintro o N9 qi rfl hr ahb hE';refine⟨_,μ',hr,g1,g2.write hm rfl hg ⟨⟨rfl,rfl,rfl,by simp,fun k hk=>by grind⟩,fun _=>ajC _⟩ (by simp) (fun k hk=>by grind) ?_ rfl (by simp[bR.names])⟩;exact⟨g,N9,qi,ks,hg,by simp[cd],by simpa using hE'.len,k1,hE'.key,ahb,fun i k v e h1 h2=>hE'.rep i k v e h1 (by simpa using h2)⟩
        cases r2 with
        |none e1 e2 e3=>
         have ZL:=Go.MapKept.run_setObj_map (P:=E.P) (.map (en.push {key:=yk,val:=yv,born:=clock}) (clock+1)) hh;refine fin _ _ _ rfl (by simp only[Instr.mapUpdate,Sem.run_bind,run_underlying hu,He,h1,r1,Result.andThen_ok];exact ZL) yE.push ?_;rw[e3];have ec:∀(i:Nat)k' v' e,(es++[(kp,v)])[i]?=some (k',v')→(en.push {key:=yk,val:=yv,born:=clock}).toList[i]?=some e→(es[i]?=some (k',v')∧en.toList[i]?=some e)∨(k'=kp∧v'=v∧e.key=yk∧e.val=yv):=by grind
         refine⟨by simp[hs],fun i k' v' h=>?_,fun i k' v' e h1 h2=>?_⟩
         ·grind
         grind
        | @some j a u e e1 e2 e3 e4 e5 e6=>
         have e2':en[j]?=some e:=by simpa using e2
         obtain⟨hca,hva⟩:=mS (Sr j a u e1) (ku j a u e e1 e2').1;have vz:=Jq hc hca e3;have hsb:Instr.sameBits 10000 e.key yk=true:=by rw[hva,hkv,←vz];refine xd (n:=9999) hc (fun ha=>?_);rw[qY hc];exact(yJ T9).2.1 ha
         have ZL:=Go.MapKept.run_setObj_map (P:=E.P) (.map (en.modify j fun e=>{e with key:=yk,val:=yv}) clock) hh;have Ca:j<en.size:=(adp.1 e2').1;refine fin _ _ _ rfl (by simp only[Instr.mapUpdate,Sem.run_bind,run_underlying hu,He,h1,r1,Result.andThen_ok];simp only[ako,e2',ah5,akG,Instr.keyThatStays,hsb,aaV,Sem.run_pure,Result.andThen_ok];exact ZL) (yE.modify (fun e=>{e with key:=yk,val:=yv}) (fun _=>rfl) _) ?_;rw[e6];have tb:∀(i:Nat)k' v',(es.set j (kp,v))[i]?=some (k',v')→(i=j∧k'=kp∧v'=v)∨(i≠j∧es[i]?=some (k',v')):=by grind
         refine⟨by simp[hs],fun i k' v' h=>?_,fun i k' v' e' h1 h2=>?_⟩
         ·grind
         grind
     ·cases h
    ·cases h
   ·cases h
  ·cases h
 ·cases h
theorem Lp{μ:Ro}{φ:Nat→aH}{w:World}{site:Nat}(hk:tg P kt=some ks)(hφ:(φ site).g=some w.heap.size):hU P μ φ (w.alloc (.map #[] 0)) site (.map kt []):=⟨w.heap.size,#[],0,ks,hφ,fS w _,rfl,hk,by simp,fun i e h=>by simp at h,by simp⟩
end
def vp(P:Program)(G:Nat→Option (List PV))(g:FuncId)(M:List PV→Option PV):Prop:=
 (∃fn c,P.funcs[g]?=some fn∧fn.body=some c∧(fn.name== "runtime.NumGoroutine")=false)∧
 ∀(ps:List PV)(r:PV),M ps=some r→∀(w:World)(μ:Ro)(xs:Array Value),(∀b o,μ b=some o→w.heap[b]?=some o)→(∀g cs,G g=some cs→ze P μ g cs)→ps.length=xs.size→(∀(i:Nat)p x,ps[i]?=some p→xs[i]?=some x→ai P μ p x)→Calls P g xs w fun e w'=>∃y,e=.returned y∧lA w.heap.size w w'∧ai P (cN μ w w') r y
def B5(P:Program)(G:Nat→Option (List PV))(g:FuncId)(M:List PV→Option PV):Prop:=
 (∃fn c,P.funcs[g]?=some fn∧fn.body=some c∧(fn.name== "runtime.NumGoroutine")=false)∧
 ∀(fn:Func)(t e:TypeId),P.funcs[g]?=some fn→fn.resultTypes.toList=[t]→P.underlying t=some (.slice e)→∀(ps:List PV)(r:PV),M ps=some r→∀(w:World)(μ:Ro)(xs:Array Value),(∀b o,μ b=some o→w.heap[b]?=some o)→(∀g cs,G g=some cs→ze P μ g cs)→ps.length=xs.size→(∀(i:Nat)p x,ps[i]?=some p→xs[i]?=some x→ai P μ p x)→Calls P g xs w fun en w'=>∃(y:Value)(ph:aH)(es:List PV),en=.returned y∧lA w.heap.size w w'∧r=.rs (aV P e) es∧(∀g,ph.g=some g→w.heap.size≤g)∧aN P (nd (cN μ w w') ph.g) (fun _=>ph) w' 0 (aV P e) e es∧ah P μ (fun _=>ph) (.os 0) y
def adT(m:Mem):Option (Nat×bR)→Mem
 |some (id,b)=>aq m id b
 |none=>m
def adU(E:Env)(g:FuncId)(args:List V)(f:Fr)(m:Mem)(v:V)(f':Fr)(m':Mem):Prop:=
 (∃fn c,E.P.funcs[g]?=some fn∧fn.body=some c∧(fn.name== "runtime.NumGoroutine")=false)∧
 ∀(w0:bI)(μ:Ro)(φ:Nat→aH)(ρ:Nat→Value)(w:World)(xs:Array Value),az E.P E.aM w0 μ φ m w→cu E.P μ φ m f ρ→args.length=xs.size→(∀(i:Nat)v x,args[i]?=some v→xs[i]?=some x→ah E.P μ φ v x)→(∀id,cD id args=true→(m id).isSome=true)→Calls E.P g xs w fun e w'=>∃y μ' φ',e=.returned y∧az E.P E.aM w0 μ' φ' m' w'∧cu E.P μ' φ' m' f' ρ∧ah E.P μ' φ' v y∧∀id,v.has id=true→(m' id).isSome=true
def Jr{R:Type}(P:Program)(G:Nat→Option (List PV))(g:FuncId)(args:List V)(f:Fr)(m:Mem)(k:V→Fr→Mem→Option R)(r:R):Prop:=
 (∃fn c,P.funcs[g]?=some fn∧fn.body=some c∧(fn.name== "runtime.NumGoroutine")=false)∧
 ∀(w0:bI)(μ:Ro)(φ:Nat→aH)(ρ:Nat→Value)(w:World)(xs:Array Value),az P G w0 μ φ m w→cu P μ φ m f ρ→args.length=xs.size→(∀(i:Nat)v x,args[i]?=some v→xs[i]?=some x→ah P μ φ v x)→(∀id,cD id args=true→(m id).isSome=true)→Calls P g xs w fun e w'=>∃v f' m' y μ' φ',k v f' m'=some r∧e=.returned y∧az P G w0 μ' φ' m' w'∧cu P μ' φ' m' f' ρ∧ah P μ' φ' v y∧∀id,v.has id=true→(m' id).isSome=true
def ur(P:Program)(G:Nat→Option (List PV))(nt:Nat)(yl:YL)(w0:bI):Prop:=∀(R:Type)site id args f m(k:V→Fr→Mem→Option R)r,yl R nt site id args f m k=some r→∀(μ:Ro)(φ:Nat→aH)(ρ:Nat→Value)(w:World)(xs:Array Value),az P G w0 μ φ m w→cu P μ φ m f ρ→(∀t,nt≤t→ρ t=w0.sv t)→args.length=xs.size→(∀(i:Nat)v x,args[i]?=some v→xs[i]?=some x→ah P μ φ v x)→(∀id,cD id args=true→(m id).isSome=true)→∀g,(φ id).g=some g→∃fn tmps assign body,(Instr.yield g xs).run P w=.ok (.round g fn tmps assign body) w∧RoundIn Fence.wide 0 P g fn tmps assign body w fun e w'=>∃v f' m' y μ' φ',k v f' m'=some r∧e=.returned y∧(∀b o,μ b=some o→μ' b=some o)∧az P G w0 μ' φ' m' w'∧cu P μ' φ' m' f' ρ∧ah P μ' φ' v y∧∀id,v.has id=true→(m' id).isSome=true
theorem AV(P:Program)(G:Nat→Option (List PV))(nt:Nat)(w0:bI):ur P G nt BT w0:=fun R site id args f m k r h=>by cases h
variable{G:Nat→Option (List PV)}{φ:Nat→aH}
theorem az.zS{P:Program}{w0:bI}{μ:Ro}{m:Mem}{w:World}(h:az P G w0 μ φ m w){K:Ro}(hK:∀b o,K b=some o→μ b=some o):az P G {w0 with dJ:=K} μ φ m w:=⟨h.below,h.ro,h.aM,h.dH,h.own,h.inj,h.apart,h.fY,h.base,hK,h.Dc⟩
theorem az.Fc{P:Program}{w0:bI}{μ:Ro}{m:Mem}{w:World}{K:Ro}(h:az P G {w0 with dJ:=K} μ φ m w)(hK:∀b o,w0.dJ b=some o→K b=some o):az P G w0 μ φ m w:=⟨h.below,h.ro,h.aM,h.dH,h.own,h.inj,h.apart,h.fY,h.base,fun b o hb=>h.dJ b o (hK b o hb),h.Dc⟩
theorem ur.zS{P:Program}{G:Nat→Option (List PV)}{nt:Nat}{yl:YL}{w0:bI}(h:ur P G nt yl w0){K:Ro}(hK:∀b o,w0.dJ b=some o→K b=some o):ur P G nt yl {w0 with dJ:=K}:=fun R site id args f m k r hy μ φ ρ w xs hM hF hρ hl hr Jj g hg=>
  let⟨fn,tmps,assign,body,y1,y2⟩:=h R site id args f m k r hy μ φ ρ w xs (hM.Fc hK) hF hρ hl hr Jj g hg
  ⟨fn,tmps,assign,body,y1,y2.mono fun e w'⟨v,f',m',y,μ',φ',a1,a2,a3,a4,a5⟩=>⟨v,f',m',y,μ',φ',a1,a2,a3,a4.zS fun b o hb=>a3 b o (hM.dJ b o hb),a5⟩⟩
def On{R:Type}(P:Program)(G:Nat→Option (List PV))(g:FuncId)(yl:YL)(args:List V)(f:Fr)(m:Mem)(k:V→Fr→Mem→Option R)(r:R):Prop:=
 ∃fn c,P.funcs[g]?=some fn∧fn.body=some c∧(fn.name== "runtime.NumGoroutine")=false∧
 ∀(w0:bI)(μ:Ro)(φ:Nat→aH)(ρ:Nat→Value)(w:World)(xs:Array Value),az P G w0 μ φ m w→cu P μ φ m f ρ→args.length=xs.size→(∀(i:Nat)v x,args[i]?=some v→xs[i]?=some x→ah P μ φ v x)→(∀id,cD id args=true→(m id).isSome=true)→ur P G fn.ntmps yl {w0 with sv:=fun t=>ρ (t-fn.ntmps)}→Calls P g xs w fun e w'=>∃v f' m' y μ' φ',k v f' m'=some r∧e=.returned y∧az P G w0 μ' φ' m' w'∧cu P μ' φ' m' f' ρ∧ah P μ' φ' v y∧∀id,v.has id=true→(m' id).isSome=true
structure kv(E:Env):Prop where
 mixed:E.P.follows .mixedOrders=true
 lp:∀(S R:Type)(body:S→(S→Option R)→Option R)s r,E.lp.run body s=some r→∃n,cR body n s=some r
 ctx:∀g M,E.ctx g=some M→vp E.P E.aM g M
 own:∀g M,E.own g=some M→B5 E.P E.aM g M
 inl:∀(R:Type)g Oa args f m(k:V→Fr→Mem→Option R)r,E.inl R g Oa args f m k=some r→Jr E.P E.aM g args f m k r
 rng:∀(R:Type)g Oa yl args f m(k:V→Fr→Mem→Option R)r,E.rng R g Oa yl args f m k=some r→On E.P E.aM g yl args f m k r
section
variable {R:Type} {E:Env}
theorem eG{f:V→List Nat}{id:Nat}:∀{cs:List V},id∈jn f cs↔∃v∈cs,id∈f v
 |[]=>by simp[jn]
 |c::r=>by simp[jn,eG (cs:=r)]
theorem mD{g g':V→Option PV}:∀{cs:List V},(∀v∈cs,g' v=g v)→qW g' cs=qW g cs
 |[],_=>rfl
 |c::r,h=>by simp_all[qW,mD]
theorem rn{m m2:Mem}:∀(d:Nat){v:V},(∀id∈c8 m d v,m2 id=m id)→lj m2 d v=lj m d v
 |0,v,_=>rfl
 |d+1,v,h=>by
  cases v with
  |agg cs=>simp only[lj];rw[mD fun v hv=>rn d fun id av=>h id (by simp only[c8];exact eG.2 ⟨v,hv,av⟩)]
  |bu cs=>simp only[lj];rw[mD fun v hv=>rn d fun id av=>h id (by simp only[c8];exact eG.2 ⟨v,hv,av⟩)]
  |fn g cs=>simp only[lj];rw[mD fun v hv=>rn d fun id av=>h id (by simp only[c8];exact eG.2 ⟨v,hv,av⟩)]
  |op id off=>
   have h0:=h id (by simp[c8]);simp only[lj,h0];split
   ·rename_i cs hm;rw[mD fun v hv=>rn d fun sZ av=>h sZ (by simp only[c8,hm];exact alZ _ (eG.2 ⟨v,hv,av⟩))]
   rfl
  |oe id i off=>grind [lj,id,c8]
  |os id=>grind [lj,id,c8]
  |fX id lo len=>grind [lj,id,c8]
  |om id=>grind [lj,id,c8]
  |wR id i off=>grind [lj,id,c8]
  |_=>rfl
theorem ju{g g':V→List Nat}:∀{cs:List V},(∀v∈cs,g' v=g v)→jn g' cs=jn g cs
 |[],_=>rfl
 |c::r,h=>by simp_all[jn,ju]
theorem mT{m m2:Mem}:∀(d:Nat){v:V},(∀id∈c8 m d v,m2 id=m id)→c8 m2 d v=c8 m d v
 |0,v,_=>rfl
 |d+1,v,h=>by
  cases v with
  |agg cs=>simp only[c8];exact ju fun v hv=>mT d fun id av=>h id (by simp only[c8];exact eG.2 ⟨v,hv,av⟩)
  |bu cs=>simp only[c8];exact ju fun v hv=>mT d fun id av=>h id (by simp only[c8];exact eG.2 ⟨v,hv,av⟩)
  |fn g cs=>simp only[c8];exact ju fun v hv=>mT d fun id av=>h id (by simp only[c8];exact eG.2 ⟨v,hv,av⟩)
  |op id off=>
   have h0:=h id (by simp[c8]);simp only[c8,h0];split
   ·rename_i cs hm;rw[ju fun v hv=>mT d fun sZ av=>h sZ (by simp only[c8,hm];exact alZ _ (eG.2 ⟨v,hv,av⟩))]
   rfl
  |_=>rfl
variable{p:PV}
theorem Dn{t:TypeId}{k:PV→Option R}{r:R}(hs:vl E t=true)(h:gQ E t p k=some r):∃q,(∀(R':Type)(k':PV→Option R'),gQ E t p k'=k' q)∧k q=some r∧∀(P:Program)(μ μ':Ro)x,ai P μ p x→ai P μ' q x:=by
 unfold vl at hs;unfold gQ at h;split at h
 ·rename_i q hu;obtain⟨n,hn,hk⟩:=BY.1 h;have hp:p=.int q n:=by cases p<;>simp[asInt]at hn;simp_all
  exact⟨.int q n,fun R' k'=>by simp[gQ,hu,hn],hk,fun P μ μ' x hx=>by subst hp;cases hx with|int h=>exact .int h⟩
 ·rename_i hu;obtain⟨n,hn,hk⟩:=BY.1 h;have hp:p=.bool n:=by cases p<;>simp[asBool]at hn;subst hn;rfl
  exact⟨.bool n,fun R' k'=>by simp[gQ,hu,hn],hk,fun P μ μ' x hx=>by subst hp;cases hx;exact .bool⟩
 ·rename_i hu;obtain⟨n,hn,hk⟩:=BY.1 h;have hp:p=.str n:=by cases p<;>simp[dg]at hn;subst hn;rfl
  exact⟨.str n,fun R' k'=>by simp[gQ,hu,hn],hk,fun P μ μ' x hx=>by subst hp;cases hx with|str h=>exact .str h⟩
 all_goals simp_all
theorem Lq:∀{ts:List TypeId}{ps:List PV}{k:List V→Option R}{r:R},C3 E ts ps k=some r→∃vs,(∀(R':Type)(k':List V→Option R'),C3 E ts ps k'=k' vs)∧k vs=some r∧vs.length=ps.length∧(∀id,cD id vs=false)∧(∀(P:Program)(μ:Ro)(φ:Nat→aH)(i:Nat)p v x,ps[i]?=some p→vs[i]?=some v→ai P μ p x→ah P μ φ v x)∧(ts.all (vl E)=true→∀(P:Program)(μ μ':Ro)(φ:Nat→aH)(i:Nat)p v x,ps[i]?=some p→vs[i]?=some v→ai P μ p x→ah P μ' φ v x)
 |[],[],k,r,h=>⟨[],fun R' k'=>rfl,h,rfl,fun _=>rfl,by simp,by simp⟩
 |t::ts,p::ps,k,r,h=>by
  simp only[C3]at h;obtain⟨q,q1,q2,q3,_⟩:=mh h;obtain⟨vs,v1,v2,v3,v4,v5,v6⟩:=Lq q2;refine⟨.pv q::vs,fun R' k'=>by simp only[C3];rw[q1,v1],v2,by simp[v3],fun id=>by simp[cD,v4],fun P μ φ i p' v x hp hv hx=>?_,fun hs P μ μ' φ i p' v x hp hv hx=>?_⟩
  ·cases i with
   |zero=>simp at hp hv;subst hp;subst hv;exact .pv (q3 _ _ _ hx)
   |succ i=>grind
  ·simp only[al3,T1]at hs;cases i with
   |zero=>
    simp at hp hv;subst hp;subst hv;obtain⟨q',s1,s2,s3⟩:=Dn hs.1 h;have:q'=q:=by have e1:=s1 PV some;grind
    subst this;exact .pv (s3 P μ μ' x hx)
   |succ i=>grind
 |[],p::ps,k,r,h=>by simp[C3]at h
 |t::ts,[],k,r,h=>by simp[C3]at h
theorem Lr{n:Nat}{r:PV}{vs:List PV}(h:cZ n r=some vs):r=.bu vs∧vs.length=n:=by cases r<;>simp[cZ]at h;grind
variable{ts:List TypeId}
theorem Lt{k:V→Option R}{r:R}(h:C4 E ts p k=some r):∃v,(∀(R':Type)(k':V→Option R'),C4 E ts p k'=k' v)∧k v=some r∧(∀id,v.has id=false)∧(∀(P:Program)(μ:Ro)(φ:Nat→aH)x,ai P μ p x→ah P μ φ v x)∧(ts.all (vl E)=true→∀(P:Program)(μ μ':Ro)(φ:Nat→aH)x,ai P μ p x→ah P μ' φ v x):=by
 unfold C4 at h;split at h
 ·obtain⟨vs,hv,hk⟩:=BY.1 h;obtain⟨rfl,hl⟩:=Lr hv;have:vs=[]:=ajB hl;subst this;have key:∀(P:Program)(μ μ':Ro)(φ:Nat→aH)x,ai P μ (.bu []) x→ah P μ' φ (.bu []) x:=fun P μ μ' φ x hx=>by
   cases hx with
   |bu h1 h2=>exact .bu h1 (by simp)
  grind [C4,V.has,cD]
 ·rename_i t;obtain⟨q,q1,q2,q3,_⟩:=mh h;refine⟨.pv q,fun R' k'=>by simp only[C4];rw[q1],q2,by simp,fun P μ φ x hx=>.pv (q3 _ _ _ hx),fun hs P μ μ' φ x hx=>?_⟩;obtain⟨q',s1,s2,s3⟩:=Dn (by simpa using hs) h;have:q'=q:=by have e1:=s1 PV some;grind
  subst this;exact .pv (s3 P μ μ' x hx)
 ·rename_i ajf ajg;obtain⟨vs,hv,hk⟩:=BY.1 h;obtain⟨rfl,hl⟩:=Lr hv;obtain⟨us,u1,u2,u3,u4,u5,u6⟩:=Lq hk;have adV:((List.range ts.length).map fun j=>vs.getD j .bad)=vs:=by apply ajY;grind
  rw[adV]at u3 u5 u6;refine⟨.bu us,fun R' k'=>?_,u2,fun id=>by simp[V.has,u4],fun P μ φ x hx=>?_,fun hs P μ μ' φ x hx=>?_⟩
  ·unfold C4;simp_all
  ·cases hx with
   |bu h1 h2=>
    refine .bu (by omega) fun i v y hv hy=>?_;have hi:i<vs.length:=by grind
    exact u5 P μ φ i _ v y (AI hi) hv (h2 i _ y (AI hi) hy)
  ·cases hx with
   |bu h1 h2=>
    refine .bu (by omega) fun i v y hv hy=>?_;have hi:i<vs.length:=by grind
    exact u6 hs P μ μ' φ i _ v y (AI hi) hv (h2 i _ y (AI hi) hy)
theorem tK:∀{args:List V}{m m':Mem}{ps:List PV},jo m args=some (ps,m')→kB m m'∧ps.length=args.length∧∀(P:Program)(G:Nat→Option (List PV))(w0:bI)(μ:Ro)(φ:Nat→aH)(w:World)(X:Nat→Value),az P G w0 μ φ m w→(∀(i:Nat)u,args[i]?=some u→ah P μ φ u (X i))→∃μ',(∀b o,μ b=some o→μ' b=some o)∧az P G w0 μ' φ m' w∧∀(i:Nat)p,ps[i]?=some p→ai P μ' p (X i)
 |[],m,m',ps,h=>by simp only[jo,AT,ado]at h;obtain⟨rfl,rfl⟩:=h;exact⟨.refl _,rfl,fun P G w0 μ φ w X hM _=>⟨μ,fun _ _ h=>h,hM,by simp⟩⟩
 |c::r,m,m',ps,h=>by
  simp only[jo]at h;split at h
  ·rename_i p m1 h1;split at h
   ·rename_i ps1 m2 h2;simp only[AT,ado]at h;obtain⟨rfl,rfl⟩:=h;obtain⟨a1,a2⟩:=H0 h1;obtain⟨b1,b2,b3⟩:=tK h2;refine⟨a1.trans b1,by simp[b2],fun P G w0 μ φ w X hM hx=>?_⟩;obtain⟨μ1,c1,c2,c3⟩:=a2 P G w0 μ φ w (X 0) hM (hx 0 c (by simp));obtain⟨μ2,d1,d2,d3⟩:=b3 P G w0 μ1 φ w (fun i=>X (i+1)) c2 (fun i u hu=>(hx (i+1) u (by simpa using hu)).zf c1);refine⟨μ2,fun b o h=>d1 b o (c1 b o h),d2,fun i q hq=>?_⟩;cases i with
    |zero=>simp at hq;subst hq;exact c3.mono d1
    |succ i=>simp_all
   ·cases h
  ·cases h
theorem Js{m':Mem}{v:V}(h:vh dh v=some (p,m')):m'=dh:=by
 have key:∀{cs:List V}{m':Mem}{ps:List PV},mQ dh cs=some (ps,m')→m'=dh:=by
  intro cs;induction cs with
  |nil=>simp[mQ,AT,ado]
  |cons c r ih=>grind [mQ,rS,Option.some.injEq,Prod.mk.injEq]
 unfold vh at h;grind [Option.some.injEq,Prod.mk.injEq,rS]
theorem qj:∀{args:List V}{m':Mem}{ps:List PV},jo dh args=some (ps,m')→ps.length=args.length∧∀(P:Program)(μ:Ro)(φ:Nat→aH)(X:Nat→Value),(∀(i:Nat)u,args[i]?=some u→ah P μ φ u (X i))→∀(i:Nat)p,ps[i]?=some p→ai P μ p (X i)
 |[],m',ps,h=>by simp only[jo,AT,ado]at h;simp_all
 |c::r,m',ps,h=>by
  simp only[jo]at h;split at h
  ·rename_i p m1 h1;have:=Js h1;subst this;split at h
   ·rename_i ps1 m2 h2;simp only[AT,ado]at h;obtain⟨rfl,rfl⟩:=h;obtain⟨b2,b3⟩:=qj h2;refine⟨by simp[b2],fun P μ φ X hx i q hq=>?_⟩;cases i with
    |zero=>simp at hq;subst hq;exact Dm h1 P μ φ _ (hx 0 c (by simp))
    |succ i=>exact b3 P μ φ (fun i=>X (i+1)) (fun i u hu=>hx (i+1) u (by simpa using hu)) i q (by simpa using hq)
   ·cases h
  ·cases h
variable{φ:Nat→aH}
theorem aN.move{P:Program}{μ μ':Ro}{φ':Nat→aH}{w:World}{i j sz:Nat}{et:TypeId}{es:List PV}(h:aN P μ φ w i sz et es)(hφ:φ' j=φ i)(hμ:∀b o,μ b=some o→μ' b=some o):aN P μ' φ' w j sz et es:=by
 unfold aN at*;rw[hφ];obtain⟨h1,h2,h3,h4,h5,h6,h7⟩:=h;refine⟨h1,h2,h3,h4,h5,h6,?_⟩;split at h7
 ·omega
 ·obtain⟨c,T,c1,c2,c3,c4,c5⟩:=h7;exact⟨c,T,c1,c2,c3,fun i e j p x he hp hx=>(c4 i e j p x he hp hx).mono hμ,c5⟩
theorem aN.Wu{P:Program}{ν μ:Ro}{w:World}{i:Nat}{et:TypeId}{es:List PV}(h:aN P ν φ w i 1 et es):aN P μ φ w i 1 et (es.map Hy):=by
 unfold aN at*;obtain⟨h1,h2,h3,h4,h5,h6,h7⟩:=h;have hc:∀p:PV,(Hy p).cells.length=1:=fun p=>by cases p<;>rfl
 refine⟨by simpa using h1,h2,h3,h4,fun j e he=>?_,h6,?_⟩
 ·grind
 ·split at h7
  ·simp_all
  ·obtain⟨c,T,c1,c2,c3,c4,c5⟩:=h7;refine⟨c,T,c1,c2,by simpa using c3,fun j e l p x he hp hx=>?_,fun j x hj hx=>c5 j x (by simpa using hj) hx⟩;simp only[IT,ah2]at he;obtain⟨q,hq,rfl⟩:=he;have hl:l=0:=by grind
   subst hl;cases q<;>(simp only[Hy,PV.cells,akb,AT]at hp;subst hp);case int=>have:=c4 j _ 0 _ x hq rfl hx;cases this with|int h=>exact .int h
   case bool=>have:=c4 j _ 0 _ x hq rfl hx;cases this;exact .bool
   case str=>have:=c4 j _ 0 _ x hq rfl hx;cases this with|str h=>exact .str h
   all_goals exact .bad
mutual
theorem Wv:∀(s:FS)(p:PV)(a:List PV),Zs s p=some a→a.length=s.n∧∀r,Jb s (a++r)=(p,r)
 |.raw,p,a,h=>by simp only[Zs,AT]at h;subst h;exact⟨rfl,fun r=>rfl⟩
 |.fn g cs,p,a,h=>by
  cases p<;>simp only[Zs]at h<;>try (cases h;done)
  split at h
  ·rename_i e;subst e;obtain⟨h1,h2⟩:=Jt cs _ a h;exact⟨by simp[FS.n,h1],fun r=>by simp[Jb,h2 r]⟩
  ·cases h
 |.ptr cs,p,a,h=>by
  cases p<;>simp only[Zs]at h<;>try (cases h;done)
  obtain⟨h1,h2⟩:=Jt cs _ a h;exact⟨by simp[FS.n,h1],fun r=>by simp[Jb,h2 r]⟩
theorem Jt:∀(ss:List FS)(ps:List PV)(a:List PV),K3 ss ps=some a→a.length=nFs ss∧∀r,C2 ss (a++r)=(ps,r)
 |[],ps,a,h=>by
  cases ps with
  |nil=>simp only[K3,AT]at h;subst h;exact⟨rfl,fun r=>rfl⟩
  |cons p ps=>simp[K3]at h
 |s::ss,ps,a,h=>by
  cases ps with
  |nil=>simp[K3]at h
  |cons p ps=>simp only[K3]at h;obtain⟨x,hx,h⟩:=BY.1 h;obtain⟨y,hy,h⟩:=BY.1 h;simp only[AT]at h;subst h;obtain⟨a1,a2⟩:=Wv s p x hx;obtain⟨b1,b2⟩:=Jt ss ps y hy;refine⟨by simp[nFs,a1,b1],fun r=>?_⟩;simp only[C2,ajN,a2,b2]
end
theorem Sz{s:FS}{ls:List PV}(h:Zs s p=some ls):(Jb s ((List.range s.n).map fun j=>ls.getD j .bad)).1=p:=by
 obtain⟨h1,h2⟩:=Wv s p ls h;have:((List.range s.n).map fun j=>ls.getD j .bad)=ls:=by apply ajY;grind
 rw[this];have:=h2 [];simp_all
theorem Ub{fid:FuncId}{k:V→Option R}{r:R}(h:BV E fid ts p k=some r):∃v,(∀(R':Type)(k':V→Option R'),BV E fid ts p k'=k' v)∧k v=some r∧(∀id,v.has id=false)∧(∀(P:Program)(μ:Ro)(φ:Nat→aH)x,ai P μ p x→ah P μ φ v x)∧True:=by
 unfold BV at h;split at h
 ·rename_i s hs;obtain⟨ls,hl,hk⟩:=BY.1 h;refine⟨_,fun R' k'=>by simp_all[BV,ajH],hk,fun id=>rfl,fun P μ φ x hx=>.pv ?_,trivial⟩;rw[Sz hl];omega
 ·rename_i hs;obtain⟨v,v1,v2,v3,v4,_⟩:=Lt h;exact⟨v,fun R' k'=>by simp_all[BV],v2,v3,v4,trivial⟩
theorem Ww(hE:kv E){draw:Bool}{site:Nat}{g:FuncId}{args:List V}{f:Fr}{m:Mem}{k:V→Fr→Mem→bG→Option R}{r:R}(h:wz E draw site g args f m k=some r):(∃v f' m' ft,k v f' m' ft=some r∧(draw=true→f'=f∧∃wr:Option (Nat×bR),m'=adT m wr∧(∀id b,wr=some (id,b)→(true,id)∈ft)∧∀(f2:Fr)(m2:Mem),(∀x∈ft,m2 x.2=m x.2)→∀(R':Type)(k':V→Fr→Mem→bG→Option R'),wz E true site g args f2 m2 k'=k' v f2 (adT m2 wr) ft)∧((∀x∈ft,x.1=false)→f'=f∧m'=m)∧adU E g args f m v f' m')∨(draw=false∧Jr E.P E.aM g args f m (fun v f m=>k v f m [(true,0)]) r):=by
 have hX:∀(P:Program)(μ:Ro)(φ:Nat→aH)(xs:Array Value),args.length=xs.size→(∀(i:Nat)v x,args[i]?=some v→xs[i]?=some x→ah P μ φ v x)→∀(i:Nat)u,args[i]?=some u→xs[i]?=some (xs.getD i undef)∧ah P μ φ u (xs.getD i undef):=by
  intro P μ φ xs hl hr i u hu;have cd:i<xs.size:=by grind
  have:xs[i]?=some (xs.getD i undef):=by simp_all
  grind
 unfold wz at h;split at h
 ·rename_i M Uc;obtain⟨VG,hM⟩:=hE.ctx g M Uc;split at h
  ·rename_i fn hg;split at h
   ·rename_i Zd;split at h
    ·rename_i ps pX;obtain⟨p,hp,h⟩:=BY.1 h;obtain⟨v,v1,v2,v3,v4,v5⟩:=Lt h;refine .inl ⟨v,f,m,_,v2,fun hd=>⟨rfl,none,rfl,by simp,fun f2 m2 c9 R' k'=>?_⟩,fun _=>⟨rfl,rfl⟩,VG,fun w0 μ φ ρ w xs hR hF hl hr Jj=>?_⟩
     ·have N5:qW (lj m2 eW) args=qW (lj m eW) args:=mD fun v hv=>rn _ fun id av=>c9 (false,id) (by simp only[ajJ];exact⟨id,eG.2 ⟨v,hv,av⟩,rfl⟩);have jw:((jn (c8 m2 eW) args).map fun i=>(false,i))=((jn (c8 m eW) args).map fun i=>(false,i)):=by have:jn (c8 m2 eW) args=jn (c8 m eW) args:=ju fun v hv=>mT _ fun id av=>c9 (false,id) (by simp only[ajJ];exact⟨id,eG.2 ⟨v,hv,av⟩,rfl⟩);rw[this]
      simp only[wz,Uc,hg];rw[BK Zd];simp only[N5,pX,hp,ajH,jw];rw[v1];rfl
     ·obtain⟨p1,p2⟩:=iE pX;refine(hM ps p hp w (kx w) xs (fun _ _ h=>h) (fun g cs hg=>(hR.aM g cs hg).mono hR.yI) (by omega) (fun i q x hq hx=>?_)).mono ?_
      ·obtain⟨u,hu,hf⟩:=p2 i q hq;exact uq hR hR.yI (fun _ _ _ _ _=>rfl) _ hf (hr i u x hu hx)
      ·rintro e w' ⟨y,rfl,hb,hy⟩;exact⟨y,cN μ w w',φ,rfl,hR.called hb,hF.ni (kW hR w') (.refl _),v5 Zd E.P _ _ φ y hy,fun id av=>by simp_all⟩
    ·cases h
   ·rename_i Zd;split at h
    ·rename_i ps m1 pX;obtain⟨p,hp,h⟩:=BY.1 h;obtain⟨v,v1,v2,v3,v4,v5⟩:=Ub h;cases draw with
     |true=>
      simp only[aaV]at pX v2;obtain⟨q1,q2⟩:=qj pX;refine .inl ⟨v,f,m,_,v2,fun _=>⟨rfl,none,rfl,by simp,fun f2 m2 c9 R' k'=>?_⟩,fun _=>⟨rfl,rfl⟩,VG,fun w0 μ φ ρ w xs hR hF hl hr Jj=>?_⟩
      ·simp only[wz,Uc,hg];rw[IN Zd];simp only[aaV,pX,hp,ajH];rw[v1];rfl
      ·refine(hM ps p hp w μ xs hR.ro hR.aM (by omega) (fun i q x hq hx=>?_)).mono ?_
       ·have:=q2 E.P μ φ (fun i=>xs.getD i undef) (fun i u hu=>(hX E.P μ φ xs hl hr i u hu).2) i q hq;simp_all
       ·rintro e w' ⟨y,rfl,hb,hy⟩;exact⟨y,cN μ w w',φ,rfl,hR.called hb,hF.ni (kW hR w') (.refl _),v4 E.P _ φ y hy,fun id av=>by simp_all⟩
     |false=>
      simp only[By,abG]at pX v2;obtain⟨q0,q1,q2⟩:=tK pX;refine .inl ⟨v,f,m1,_,v2,fun hd=>by(cases hd),fun hq=>absurd (hq (true,0) (by simp)) (by simp),VG,fun w0 μ φ ρ w xs hR hF hl hr Jj=>?_⟩;obtain⟨μ1,r1,r2,r3⟩:=q2 E.P E.aM w0 μ φ w (fun i=>xs.getD i undef) hR (fun i u hu=>(hX E.P μ φ xs hl hr i u hu).2);refine(hM ps p hp w μ1 xs r2.ro r2.aM (by omega) (fun i q x hq hx=>?_)).mono ?_
      ·have:=r3 i q hq;have cd:i<xs.size:=(adp.1 hx).1;simp_all[undef,T0,AT,Array.getD]
      ·rintro e w' ⟨y,rfl,hb,hy⟩;exact⟨y,cN μ1 w w',φ,rfl,r2.called hb,hF.ni (fun b o h=>kW r2 w' b o (r1 b o h)) q0,v4 E.P _ φ y hy,fun id av=>by grind⟩
    ·cases h
  ·cases h
 ·rename_i Uc;split at h
  ·rename_i M wZ;obtain⟨VG,hM⟩:=hE.own g M wZ;split at h
   ·rename_i fn hg;split at h
    ·rename_i t ht;split at h
     ·rename_i e hu;split at h
      ·rename_i Zd;obtain⟨Zd,ta⟩:=Zd;split at h
       ·rename_i ps pX;obtain⟨p,hp,h⟩:=BY.1 h;obtain⟨es,H2,h⟩:=BY.1 h;obtain⟨f',m',n1,n2,n3,n4,n5⟩:=eC h;refine .inl ⟨_,f',m',_,n2,fun hd=>?_,fun hq=>absurd (hq (true,site) (by simp)) (by simp),VG,fun w0 μ φ ρ w xs hR hF hl hr Jj=>?_⟩
        ·obtain⟨d1,d2,d3⟩:=n4 hd;subst hd;refine⟨d2,some (site,_),d3,by simp,fun f2 m2 c9 R' k'=>?_⟩;have N5:qW (lj m2 eW) args=qW (lj m eW) args:=mD fun v hv=>rn _ fun id av=>c9 (false,id) (by simp only[ajI,ajJ];exact .inr ⟨id,eG.2 ⟨v,hv,av⟩,rfl⟩);have jw:jn (c8 m2 eW) args=jn (c8 m eW) args:=ju fun v hv=>mT _ fun id av=>c9 (false,id) (by simp only[ajI,ajJ];exact .inr ⟨id,eG.2 ⟨v,hv,av⟩,rfl⟩);simp only[wz,Uc,wZ,hg,ht,hu];rw[BK ⟨Zd,ta⟩];simp only[N5,pX,hp,ajH,H2,jw];have hs2:m2 site=none:=by rw[c9 (true,site) (by simp)];omega
         simp only[fresh,hs2];rfl
        ·obtain⟨p1,p2⟩:=iE pX;refine(hM fn t e hg ht hu ps p hp w (kx w) xs (fun _ _ h=>h) (fun g cs hg=>(hR.aM g cs hg).mono hR.yI) (by omega) (fun i q x hq hx=>?_)).mono ?_
         ·obtain⟨u,rO,hf⟩:=p2 i q hq;exact uq hR hR.yI (fun _ _ _ _ _=>rfl) _ hf (hr i u x rO hx)
         rintro en w' ⟨y,ph,es',rfl,hb,rfl,He,hA,hy⟩;have abX:es'=es:=by simp only[aP,aaV,AT]at H2;omega
         subst abX;rw[ta]at hA;have hA2:aN E.P (nd (cN μ w w') ph.g) (fun _=>ph) w' 0 1 e (es'.map Hy):=hA.Wu;have H3:=hR.HQ hb He;have ZM:cu E.P (nd (cN μ w w') ph.g) φ m f ρ:=hF.ni (fun b o h=>zO hR w' He b o h) (.refl _);have hP:ll E.P w0 (nd (cN μ w w') ph.g) φ m w' w' site (.arr (aV E.P e) e (es'.map Hy)) ph:=by
          refine⟨lA.refl _ _,H3.ro,fun _ _ _ _ _=>rfl,fun g hg=>⟨?_,?_,?_⟩,fun φ' hp _=>by rw[ta];exact hA2.move hp (fun _ _ h=>h),by simp[bR.names],fun st h=>by cases h⟩
          ·have:=He g hg;have:=hR.below.size;grind
          ·simp[nd,hg]
          ·intro id b' iv cO;have h1:=(hR.dH id b' iv).E1 cO;grind
         obtain⟨φ',a1,a2,a3⟩:=n5 E.P E.aM w0 _ φ w' w' ρ ph H3 ZM hP;refine⟨y,_,φ',rfl,a2,a3,?_,fun id av=>?_⟩
         ·cases hy with
          |s9 h=>exact .s9 (by rw[a1];omega)
          | @os _ g h=>have:=ah.os (P:=E.P) (μ:=nd (cN μ w w') ph.g) (φ:=φ') (id:=site) (g:=g) (by rw[a1];omega);grind
         ·have av:=No av;subst av;simp[n3]
       ·cases h
      rename_i Zd;split at h
      ·rename_i ps m1 pX;obtain⟨p,hp,h⟩:=BY.1 h;obtain⟨es,H2,h⟩:=BY.1 h;obtain⟨f',m',n1,n2,n3,n4,n5⟩:=eC h;have fin:∀(w0:bI)(μ μ1:Ro)(φ:Nat→aH)(ρ:Nat→Value)(w:World)(xs:Array Value),(∀b o,μ b=some o→μ1 b=some o)→kB m (if draw then m else m1)→az E.P E.aM w0 μ1 φ (if draw then m else m1) w→cu E.P μ φ m f ρ→ps.length=xs.size→(∀(i:Nat)p x,ps[i]?=some p→xs[i]?=some x→ai E.P μ1 p x)→Calls E.P g xs w fun e w'=>∃y μ' φ',e=.returned y∧az E.P E.aM w0 μ' φ' m' w'∧cu E.P μ' φ' m' f' ρ∧ah E.P μ' φ' (.os site) y∧∀id,(V.os site).has id=true→(m' id).isSome=true:=by
        intro w0 μ μ1 φ ρ w xs hle Jj hR hF hl hr;refine(hM fn t e hg ht hu ps p hp w μ1 xs hR.ro hR.aM hl hr).mono ?_;rintro en w' ⟨y,ph,es',rfl,hb,rfl,He,hA,hy⟩;have abX:es'=es:=by simp only[aP,aaV,AT]at H2;omega
        subst abX;have H3:=hR.HQ hb He;have ZM:cu E.P (nd (cN μ1 w w') ph.g) φ (if draw then m else m1) f ρ:=hF.ni (fun b o h=>zO hR w' He b o (hle b o h)) Jj;have hP:ll E.P w0 (nd (cN μ1 w w') ph.g) φ (if draw then m else m1) w' w' site (.arr (aV E.P e) e es') ph:=by
         refine⟨lA.refl _ _,H3.ro,fun _ _ _ _ _=>rfl,fun g hg=>⟨?_,?_,?_⟩,fun φ' hp _=>hA.move hp (fun _ _ h=>h),by simp[bR.names],fun st h=>by cases h⟩
         ·have:=He g hg;have:=hR.below.size;grind
         ·simp[nd,hg]
         ·intro id b' iv cO;have h1:=(hR.dH id b' iv).E1 cO;grind
        obtain⟨φ',a1,a2,a3⟩:=n5 E.P E.aM w0 _ φ w' w' ρ ph H3 ZM hP;refine⟨y,_,φ',rfl,a2,a3,?_,fun id av=>?_⟩
        ·cases hy with
         |s9 h=>exact .s9 (by rw[a1];omega)
         | @os _ g h=>have:=ah.os (P:=E.P) (μ:=nd (cN μ1 w w') ph.g) (φ:=φ') (id:=site) (g:=g) (by rw[a1];omega);grind
        ·have av:=No av;subst av;simp[n3]
       cases draw with
       |true=>
        simp only[aaV]at pX n2 fin n4;obtain⟨q1,q2⟩:=qj pX;obtain⟨d1,d2,d3⟩:=n4 trivial;refine .inl ⟨_,f',m',_,n2,fun _=>⟨d2,some (site,_),d3,by simp,fun f2 m2 c9 R' k'=>?_⟩,fun hq=>absurd (hq (true,site) (by simp)) (by simp),VG,fun w0 μ φ ρ w xs hR hF hl hr Jj=>?_⟩
        ·simp only[wz,Uc,wZ,hg,ht,hu];rw[IN Zd];simp only[aaV,pX,hp,ajH,H2];have hs2:m2 site=none:=by rw[c9 (true,site) (by simp)];omega
         simp only[fresh,hs2];rfl
        ·refine fin w0 μ μ φ ρ w xs (fun _ _ h=>h) (.refl _) hR hF (by omega) fun i q x hq hx=>?_;have:=q2 E.P μ φ (fun i=>xs.getD i undef) (fun i u hu=>(hX E.P μ φ xs hl hr i u hu).2) i q hq;have cd:i<xs.size:=(adp.1 hx).1;have e:xs.getD i undef=x:=by rw[T0 cd]at hx;simp only[AT]at hx;simp[Array.getD,cd,hx]
         rw[←e];omega
       |false=>
        simp only[By,abG]at pX n2 fin n4;obtain⟨q0,q1,q2⟩:=tK pX;refine .inl ⟨_,f',m',_,n2,fun hd=>by(cases hd),fun hq=>absurd (hq (true,site) (by simp)) (by simp),VG,fun w0 μ φ ρ w xs hR hF hl hr Jj=>?_⟩;obtain⟨μ1,r1,r2,r3⟩:=q2 E.P E.aM w0 μ φ w (fun i=>xs.getD i undef) hR (fun i u hu=>(hX E.P μ φ xs hl hr i u hu).2);refine fin w0 μ μ1 φ ρ w xs r1 q0 r2 hF (by omega) fun i q x hq hx=>?_;have:=r3 i q hq;have cd:i<xs.size:=(adp.1 hx).1;have e:xs.getD i undef=x:=by rw[T0 cd]at hx;simp only[AT]at hx;simp[Array.getD,cd,hx]
        rw[←e];omega
      ·cases h
     ·cases h
    ·cases h
   ·cases h
  ·split at h
   ·cases h
   ·rename_i hd;exact .inr ⟨by simpa using hd,hE.inl _ _ _ _ _ _ _ _ h⟩
end
end Go.Ab
