import Derived.Test.YtmbihgjlollbeaaGreatAbP3
import Derived.WideKeyRuns
import Derived.MapKept
import Derived.RangeFuncRecord
set_option linter.unusedVariables false
set_option linter.unusedSimpArgs false
namespace Go.Ab
open Go.RowKit (Below)
section
variable {R:Type} {E:Env}
theorem cells_one{x:Value}(h:x.oneCell'=true):x.cells= #[x]:=by cases x<;>first|rfl|(simp[Value.oneCell']at h)
theorem ai.elem{P:Program}{μ:Ro}{n:Nat}{p:PV}{x:Value}(h:ai P μ p x)(hl:p.cells.length=n)(hp:p.plain=true):tv P μ n p x:=by
 cases hq:p.isAgg with
 |true=>
  cases p<;>simp[PV.isAgg]at hq;cases h with
  |agg h1 h2 h3=>exact⟨hl,by simp_all[PV.cells,Value.cells],h2,h3⟩
 |false=>
  have hc:p.cells=[p]:=by cases p<;>first|rfl|(simp[PV.isAgg]at hq)
  have h1:x.oneCell'=true:=h.one (fun cs e=>by subst e;simp[PV.isAgg]at hq) (fun cs e=>by subst e;simp[PV.plain]at hp) (fun e=>by subst e;simp[PV.plain]at hp);have hx:=cells_one h1;refine⟨hl,by simp_all,fun j q y hj hy=>?_,fun j y hy=>?_⟩
  ·grind
  grind
variable{t:TypeId}
theorem B9{z:PV}(h:B0 E t=some z):∃i zv,E.P.info? t=some i∧i.zero=some zv∧i.size=aO E.P t∧(∀μ,ai E.P μ z zv)∧∀μ,tv E.P μ (aO E.P t) z zv:=by
 unfold B0 zeroV at h;cases hi:E.P.info? t with
 |none=>simp[hi]at h
 |some i=>
  cases hz:i.zero with
  |none=>simp[hi,hz]at h
  |some zv=>
   simp only[hi,hz,ajn,ajg]at h;split at h
   ·rename_i p hp;split at h
    ·rename_i hc;simp only[cN]at h;subst h;have hr:∀μ,ai E.P μ p zv:=fun μ=>uw 2 hp (ur (φ:=fun _=>default) zv);exact⟨i,zv,rfl,hz,by simp[aO,hi],hr,fun μ=>(hr μ).elem hc.2.1 hc.2.2⟩
    ·cases h
   ·cases h
theorem MX{z:PV}(h:B0 E t=some z):∃zv,(∀w,(zeroValue t).run E.P w=.ok zv w)∧∀μ,ai E.P μ z zv:=by obtain⟨i,zv,h1,h2,h3,h4,_⟩:=B9 h;simp_all[pd]
theorem Cells.made{P:Program}{μ:Ro}{sz:Nat}{z:PV}{zv:Value}(hE:tv P μ sz z zv)(ff:0<sz)(n cap:Nat)(hn:n≤cap):Cells P μ sz (List.replicate n z) ((madeCells zv.cells (cap*sz)).toList.take ((List.replicate n z).length*sz)):=by
 have hle:n*sz≤cap*sz:=agw _ hn;have eX:∀k y,((madeCells zv.cells (cap*sz)).toList.take ((List.replicate n z).length*sz))[k]?=some y→zv.cells[k%sz]?=some y:=by
  intro k y hk;obtain⟨h1,h2⟩:=iy hk;simp only[aj1]at h1;have bT:k%sz<zv.cells.size:=by rw[hE.size];exact al4 _ ff
  rw[ajR,madeCells,Array.getElem?_map,Array.getElem?_range]at h2;rw[GW (by omega)]at h2;simp only[ajg,cN,hE.size]at h2;simp_all
 refine⟨by rw[ajP,aj1,alv,size_madeCells];omega,fun i e hi=>?_,fun i e j p y hi hj hy=>?_,fun k y hk=>hE.one _ y (eX k y hk)⟩
 ·rw[alP]at hi;split at hi
  ·simp only[cN]at hi;subst hi;exact hE.len
  ·cases hi
 ·rw[alP]at hi;split at hi
  ·simp only[cN]at hi;subst hi;have zK:j<sz:=by rw[←hE.len];grind
   have:=eX _ y hy;rw[ali,Nat.mul_add_mod,ak5 zK]at this;exact hE.rep j p y hj this
  ·cases hi
theorem GD{draw:Bool}{site:Nat}{len cap:V}{f:Fr}{m:Mem}{k:V→Fr→Mem→bq→Option R}{r:R}(h:ri E draw site t len cap f m k=some r):∃f' m' b,(draw=true→m site=none∧f'=f∧m'=ao m site b∧∀(f2:Fr)(m2:Mem),m2 site=none→∀(R':Type)(k':V→Fr→Mem→bq→Option R'),ri E true site t len cap f2 m2 k'=k' (.os site) f2 (ao m2 site b) [(true,site)])∧k (.os site) f' m' [(true,site)]=some r∧(m' site).isSome=true∧∀(G:Nat→Option (List PV))(w0:bx)(μ:Ro)(φ:Nat→aA)(w:World)(ρ:Nat→Value)(yl yc:Value),av E.P G w0 μ φ m w→bS E.P μ φ m f ρ→af E.P μ φ len yl→af E.P μ φ cap yc→∃w' y φ',(Instr.makeSlice t yl yc).run E.P w=.ok y w'∧av E.P G w0 μ φ' m' w'∧bS E.P μ φ' m' f' ρ∧af E.P μ φ' (.os site) y:=by
 unfold ri at h;split at h
 ·rename_i e ql n qc c hu;split at h
  ·rename_i z hz;split at h
   ·rename_i hb;obtain⟨f',m',_,hk,wH,zj,vZ⟩:=dZ h;refine⟨f',m',.arr (aO E.P e) e (List.replicate n.toNat z),fun hd=>?_,hk,by simp[wH],fun G w0 μ φ w ρ yl yc hM hF hl hc=>?_⟩
    ·simp_all[ri,GW,fresh]
    ·obtain⟨i,zv,h1,h2,h3,_,h4⟩:=B9 hz;obtain⟨hib,_⟩:=Hu h1;have hc1:c.toNat≤140737488355328:=by have:c.toNat*1≤c.toNat*Gt E.P e:=akz _ hb.2.2.2.1;grind [ah]
     cases hl with
     |pv hl=>cases hl with
      |int wl=>
       cases hc with
       |pv hc=>cases hc with
        |int wc=>
         have abw:(i.bytes:Int)*c≤281474976710656:=by grind [ah,Gt,Int.natCast_mul,Int.toNat_of_nonneg,Int.mul_comm]
         have hr:=run_make (P:=E.P) w t e i zv hu h1 h2 ql qc n c hb.1 hb.2.1 abw (by omega);rw[h3]at hr;obtain⟨φ',a1,a2,a3⟩:=vZ E.P G w0 μ φ w _ ρ (Dz (some w.heap.size) c.toNat (List.replicate n.toNat z).length (aO E.P e)) hM hF (lz.alloc (o:=.cells (madeCells zv.cells (c.toNat*aO E.P e)) e) hM rfl (fun φ' hp _=>aH.pA (g:=w.heap.size) (by rw[hp]) rfl hb.2.2.2.2 (by rw[hp];simp only[maxLen];omega) (fE w _) (by rw[hp];simp[size_madeCells]) (by rw[hp];simp;omega) (Cells.made (h4 μ) hb.2.2.2.2 _ _ (by omega))) (by simp[bH.names]));refine⟨_,_,φ',hr,a2,a3,?_⟩;have:=af.os (P:=E.P) (μ:=μ) (φ:=φ') (id:=site) (g:=w.heap.size) (by rw[a1]);simp_all
   ·cases h
  ·cases h
 ·cases h
theorem MY(cells:Array Value)(n:Nat):Builtin.zeroCells cells n=madeCells cells (n*cells.size):=rfl
theorem Rm{x:V}{m:Mem}{k:V→Mem→bq→Option R}{r:R}(h:Eb E t x m k=some r):∃id b,(∀m2:Mem,m2 id=m id→∀(R':Type)(k':V→Mem→bq→Option R'),Eb E t x m2 k'=k' .top (ao m2 id b) [(true,id)])∧k .top (ao m id b) [(true,id)]=some r∧∀(G:Nat→Option (List PV))(w0:bx)(μ:Ro)(φ:Nat→aA)(w:World)(ρ:Nat→Value)(f:Fr)(yx:Value)(ts:List TypeId)(ty:TypeId),av E.P G w0 μ φ m w→bS E.P μ φ m f ρ→af E.P μ φ x yx→∃w',(Builtin.clear_ (t::ts).toArray ty #[yx]).run E.P w=.ok (.tuple #[]) w'∧av E.P G w0 μ φ (ao m id b) w'∧bS E.P μ φ (ao m id b) f ρ:=by
 unfold Eb at h;split at h
 ·rename_i e hu;split at h
  ·rename_i id lo len z hz;split at h
   ·rename_i sz et es hm;split at h
    ·rename_i hc;obtain⟨oD,rfl,hle,ff⟩:=hc;refine⟨id,_,fun m2 cK R' k'=>?_,h,fun G w0 μ φ w ρ f yx ts ty hM hF hx=>?_⟩
     ·simp_all[Eb,GW,trivial]
     ·obtain⟨i,zv,h1,h2,h3,h4,h5⟩:=B9 hz;have hA:aH E.P μ φ w id sz et es:=hM.dx id _ hm;have adK:len=0→ao m id (.arr sz et (es.take lo++(List.replicate len z++es.drop (lo+len))))=m:=by
       intro h0;subst h0;rw[List.replicate_zero,akK,akt,List.take_append_drop];funext j;by_cases ej:j=id
       ·subst ej;simp[hm]
       ·rw[aq ej]
      cases hx with
      |rq hg=>rw[adK rfl];simp_all[Builtin.clear_,run_underlying]
      | @fL _ _ _ cap g a hg hl ha hc1 Tm=>
       by_cases h0:len=0
       ·simp_all[Builtin.clear_,run_underlying]
       ·have qI:=hA.pz;have MA:=hA.1;have ai0:=hA.2.1;have adL:a=⟨g,lo*sz,none⟩:=by grind
        subst adL;obtain⟨c,T,c1,c2,c3,c4,c5⟩:=hA.cells hg;have Pc:zv.cells.size=sz:=by rw[(h5 μ).size,oD]
        have hn:len*zv.cells.size=len*sz:=by rw[Pc]
        have hlen:(madeCells zv.cells (len*sz)).toList.length=len*sz:=by simp[size_madeCells]
        have TW:(lo+len)*sz≤es.length*sz:=agw _ hle;have ux:(lo+len)*sz=lo*sz+len*sz:=ajV _ _ _;have vh:=Cells.made (P:=E.P) (μ:=μ) (by rw[←oD]at h5;exact h5 μ) (by omega) len len (ajo _);have uv:∀v∈(madeCells zv.cells (len*sz)).toList,v.oneCell'=true:=fun v hv=>by obtain⟨j,hj⟩:=ajB hv;refine vh.one j v ?_;grind
        have uf:=run_storeCells_at E.P g (lo*sz) T (madeCells zv.cells (len*sz)).toList 0 c w c1 (by omega) uv;rw[hlen,akt]at uf;have hnl:(es.take lo++(List.replicate len z++es.drop (lo+len))).length=es.length:=by simp;omega
        refine⟨w.setRow g (c.toList.take (lo*sz)++(madeCells zv.cells (len*sz)).toList++c.toList.drop (lo*sz+len*sz)).toArray,?_,hM.write hm rfl hg (lD.setRow (ajo _)) setRow_size (fun k hk=>bU hk) ?_ rfl (by simp[bH.names]),hF.nh (fun _ _ h=>h) .set⟩
        ·obtain⟨n',rfl⟩:∃n',len=n'+1:=⟨len-1,by omega⟩;simp_all[Builtin.clear_,run_underlying,pd,MY]
        ·refine aH.pA (g:=g) ?_ hA.2.2.1 hA.2.2.2.1 qI.2 (setRow_heap w g c _ T (0,0) c1) ?_ (by omega) ?_
         ·rw[hnl,←hA.1,←hA.2.1];cases hq:(φ id).toCP with
          |mk a b c d=>simp_all
         ·grind
         ·rw[hnl];have hM2:Cells E.P μ sz (List.replicate len z) (madeCells zv.cells (len*sz)).toList:=by grind
          have hX:=(c5.take lo).append (hM2.append (c5.drop (lo+len)));have e1:(c.toList.take (lo*sz)++(madeCells zv.cells (len*sz)).toList++c.toList.drop (lo*sz+len*sz)).take (es.length*sz)=(c.toList.take (es.length*sz)).take (lo*sz)++((madeCells zv.cells (len*sz)).toList++(c.toList.take (es.length*sz)).drop ((lo+len)*sz)):=by
           have l1:(c.toList.take (lo*sz)).length=lo*sz:=by grind
           have l2:(c.toList.take (lo*sz)++(madeCells zv.cells (len*sz)).toList).length=lo*sz+len*sz:=by simp_all
           grind [List.take_append,List.take_of_length_le,Nat.min_eq_left,List.drop_take,List.append_assoc]
          rw[e1];omega
    ·cases h
   ·cases h
  ·cases h
 ·cases h
theorem CV(off:Nat):∀(l:List Value)(k:Nat)(c:Array Value),off+k+l.length≤c.size→(l.zipIdx k).foldl (fun cs(x:Value×Nat)=>cs.setIfInBounds (off+x.2) x.1) c=(bJ c.toList (off+k) l).toArray
 |[],k,c,_=>by simp[dP]
 |v::r,k,c,h=>by simp only[List.zipIdx_cons,alp];rw[CV off r (k+1) _ (by simp at h⊢;omega)];congr 1;have e:=list_seg_step c.toList (off+k) v r (by omega);simp_all[dP,alx,ajU]
theorem yC{place:Nat→Option (Nat×Nat)}{c:Array Value}{i off size:Nat}{v:Value}{rest:List (Nat×Value)}(hp:place i=some (off,size))(hv:v.cells.size=size)(hb:off+size≤c.size):Instr.fill place c ((i,v)::rest)=Instr.fill place (bJ c.toList off v.cells.toList).toArray rest:=by
 have h1:v.cells.zipIdx.foldl (fun cs(x:Value×Nat)=>cs.setIfInBounds (off+x.2) x.1) c=(bJ c.toList off v.cells.toList).toArray:=by rw[←Array.foldl_toList,Array.toList_zipIdx];simp_all[CV]
 simp_all[Instr.fill,No]
theorem EF{place:Nat→Option (Nat×Nat)}:∀{parts:List (Nat×V)}{cs MS:List V},G5 place cs parts=some MS→(∀id,b8 id MS=true→b8 id cs=true∨b8 id (parts.map (·.2))=true)∧MS.length=cs.length∧∀(P:Program)(μ:Ro)(φ:Nat→aA)(c:Array Value)(da:List (Nat×Value)),da.length=parts.length→(∀(j i:Nat)v,parts[j]?=some (i,v)→∃y,da[j]?=some (i,y)∧af P μ φ v y)→c.size=cs.length→(∀(i:Nat)u y,cs[i]?=some u→c[i]?=some y→af P μ φ u y)→(∀(i:Nat)(y:Value),c[i]?=some y→y.oneCell'=true)→∃c',Instr.fill place c da=some c'∧c'.size=MS.length∧(∀(i:Nat)u y,MS[i]?=some u→c'[i]?=some y→af P μ φ u y)∧(∀(i:Nat)(y:Value),c'[i]?=some y→y.oneCell'=true)
 |[],cs,MS,h=>by simp only[G5,cN]at h;subst h;refine⟨fun id hid=>.inl hid,rfl,fun P μ φ c da hl _ hs hr h1=>?_⟩;have:da=[]:=ajl (by simpa using hl);subst this;exact⟨c,rfl,hs,hr,h1⟩
 |(i,v)::rest,cs,MS,h=>by
  simp only[G5]at h;split at h
  ·rename_i off size hp;split at h
   ·rename_i new hn;split at h
    ·rename_i hb;obtain⟨n1,n2,n3⟩:=toCells_ok hn;obtain⟨f1,f2,f3⟩:=EF h;have hlen:(bJ cs off new).length=cs.length:=cn (by omega);refine⟨fun id hid=>?_,by rw[f2,hlen],fun P μ φ c da hl ot hs hr h1=>?_⟩
     ·rcases f1 id hid with h|h
      ·obtain⟨u,hu,hh⟩:=cy.1 h;simp only[dP,ajA]at hu;rcases hu with(hu|hu)|hu
       ·exact .inl (bK (akn hu) hh)
       ·exact .inr (by simp only[ajr,b8,ajt];exact .inl (n2 id (bK hu hh)))
       ·exact .inl (bK (akv hu) hh)
      ·exact .inr (by simp only[ajr,b8,ajt];exact .inr h)
     ·obtain⟨y,hy,YQ⟩:=ot 0 i v (by simp);cases da with
      |nil=>simp at hl
      |cons a nb=>
       simp at hy;subst hy;obtain⟨x1,x2,x3⟩:=n3 P μ φ y YQ;rw[yC hp x1 (by omega)];have mo:off+y.cells.toList.length≤c.toList.length:=by simp;omega
       have e1:y.cells.toList.length=new.length:=by simp;omega
       refine f3 P μ φ _ nb (by simpa using hl) (fun j i' v' hj=>?_) ?_ (fun j u z hu hz=>?_) (fun j z hz=>?_)
       ·have:=ot (j+1) i' v' (by simpa using hj);simpa using this
       ·simp only[ake];rw[cn mo,hlen];simp[hs]
       ·rw[ajL]at hz;rcases cZ mo hz with⟨b1,b2,b3⟩|⟨b1,b2⟩<;>rcases cZ (by omega) hu with⟨d1,d2,d3⟩|⟨d1,d2⟩
        ·exact x2 _ u z d3 (by simpa using b3)
        ·exfalso;omega
        ·exfalso;omega
        ·exact hr j u z d2 (by simpa using b2)
       ·rw[ajL]at hz;rcases cZ mo hz with⟨b1,b2,b3⟩|⟨b1,b2⟩
        ·exact x3 _ z (by simpa using b3)
        ·exact h1 j z (by simpa using b2)
    ·cases h
   ·cases h
  ·cases h
theorem EG:∀{fs:List Field},fs.all (fun f=>(E.P.info? f.type).isSome)=true→fs.mapM (fun f=>(E.P.info? f.type).map fun i=>(f.offset,i.size))=some (fs.map fun f=>(f.offset,aO E.P f.type))
 |[],_=>rfl
 |f::r,h=>by simp only[alQ,OF]at h;obtain⟨i,hi⟩:=ajv.1 h.1;simp only[alF,hi,ajg,EG h.2,ajr];simp[aO,hi]
theorem Rn{parts:List (Nat×V)}{k:V→Option R}{r:R}(h:BZ E t parts k=some r):∃v,(∀(R':Type)(k':V→Option R'),BZ E t parts k'=k' v)∧k v=some r∧(∀id,v.has id=true→b8 id (parts.map (·.2))=true)∧∀(μ:Ro)(φ:Nat→aA)(w:World)(da:Array (Nat×Value)),da.size=parts.length→(∀(j i:Nat)v,parts[j]?=some (i,v)→∃y,da[j]?=some (i,y)∧af E.P μ φ v y)→∃z,(Instr.build t da).run E.P w=.ok z w∧af E.P μ φ v z:=by
 unfold BZ at h;split at h
 ·rename_i z fs hz hu;split at h
  ·rename_i wa;split at h
   ·rename_i cs hf;obtain⟨i,zv,h1,h2,h3,h4,h5,h6,h7,h8⟩:=ek hz;obtain⟨f1,f2,f3⟩:=EF hf;refine⟨_,fun R' k'=>by simp_all[BZ,GW],h,fun id hid=>?_,fun μ φ w da hl hp=>?_⟩
    ·grind [V.has,id]
    ·obtain⟨c',c1,c2,c3,c4⟩:=f3 E.P μ φ zv.cells da.toList (by omega) (fun j i v hj=>by simpa using hp j i v hj) (by omega) (h7 μ φ) h8;refine⟨_,run_build w t da c' ?_,.agg c2.symm c3 c4⟩;simp only[Program.built,h1,hu,h2,EG wa];rw[←c1];congr 1;funext j;simp[placesOf]
   ·cases h
  ·cases h
 ·rename_i z n e hz hu;split at h
  ·rename_i ff;split at h
   ·rename_i cs hf;obtain⟨i,zv,h1,h2,h3,h4,h5,h6,h7,h8⟩:=ek hz;obtain⟨f1,f2,f3⟩:=EF hf;refine⟨_,fun R' k'=>by simp_all[BZ,GW],h,fun id hid=>?_,fun μ φ w da hl hp=>?_⟩
    ·grind [V.has,id]
    ·obtain⟨c',c1,c2,c3,c4⟩:=f3 E.P μ φ zv.cells da.toList (by omega) (fun j i v hj=>by simpa using hp j i v hj) (by omega) (h7 μ φ) h8;obtain⟨ie,hie,hse⟩:=yu (P:=E.P) (t:=e) (by omega);refine⟨_,run_build w t da c' ?_,.agg c2.symm c3 c4⟩;simp only[Program.built,h1,hu,h2,hie,hse];omega
   ·cases h
  ·cases h
 ·cases h
theorem tx{n:Nat}{agg:Bool}:∀{parts:List (Nat×V)}{m m':Mem}{i:Nat}{ps:List PV},eW m n agg i parts=some (ps,m')→kn m m'∧ps.length=parts.length∧∀(P:Program)(G:Nat→Option (List PV))(w0:bx)(μ:Ro)(φ:Nat→aA)(w:World)(da:List (Nat×Value))(es:List PV)(c:Array Value),av P G w0 μ φ m w→da.length=parts.length→(∀(j i:Nat)v,parts[j]?=some (i,v)→∃y,da[j]?=some (i,y)∧af P μ φ v y)→es.length=i→c.size=(i+parts.length)*n→Cells P μ n es (c.toList.take (es.length*n))→∃μ' c',(∀b o,μ b=some o→μ' b=some o)∧av P G w0 μ' φ m' w∧Instr.fill (fun i=>some (i*n,n)) c da=some c'∧c'.size=(i+parts.length)*n∧Cells P μ' n (es++ps) c'.toList
 |[],m,m',i,ps,h=>by
  simp only[eW,cN,aab]at h;obtain⟨rfl,rfl⟩:=h;refine⟨.refl _,rfl,fun P G w0 μ φ w da es c hM hl _ he hc hC=>⟨μ,c,fun _ _ h=>h,hM,?_,hc,?_⟩⟩
  ·have:da=[]:=ajl (by omega);subst this;rfl
  simp_all[akl,ajM,ajo]
 |(j,v)::r,m,m',i,ps,h=>by
  simp only[eW]at h;split at h
  ·rename_i To;subst To;split at h
   ·rename_i p m1 hf;split at h
    ·rename_i ps1 m2 hr;simp only[cN,aab]at h;obtain⟨rfl,rfl⟩:=h;obtain⟨a1,a2⟩:=EA hf;obtain⟨b1,b2,b3⟩:=tx hr;refine⟨a1.trans b1,by simp[b2],fun P G w0 μ φ w da es c hM hl hp he hc hC=>?_⟩;obtain⟨y,hy,YQ⟩:=hp 0 i v (by simp);cases da with
     |nil=>simp at hl
     |cons a nb=>
      simp at hy;subst hy;obtain⟨μ1,c1,c2,c3⟩:=a2 P G w0 μ φ w y hM YQ;have mo:i*n+n≤c.size:=by grind
      have hyl:y.cells.toList.length=n:=by simpa using c3.size
      have aaw:i*n+y.cells.toList.length≤c.toList.length:=by simp_all
      obtain⟨μ2,c',d1,d2,d3,d4,d5⟩:=b3 P G w0 μ1 φ w nb (es++[p]) (bJ c.toList (i*n) y.cells.toList).toArray c2 (by simpa using hl) (fun j i' v' hj=>by
       obtain⟨z,hz1,hz2⟩:=hp (j+1) i' v' (by simpa using hj);exact⟨z,by simpa using hz1,hz2.za c1⟩) (by simp[he]) (by
       simp only[ake];rw[cn aaw];grind) (by
       have e1:((bJ c.toList (i*n) y.cells.toList).toArray.toList.take ((es++[p]).length*n))=c.toList.take (es.length*n)++y.cells.toList:=by simp only[dP,aju,akd,he];exact List.take_left' (by grind)
       rw[e1];refine(hC.mono c1).append ⟨by simp[hyl],fun k e hk=>?_,fun k e l q z hk hl hz=>?_,fun k z hz=>c3.one k z (by simpa using hz)⟩
       ·cases k with
        |zero=>simp at hk;subst hk;exact c3.len
        |succ k=>simp at hk
       ·cases k with
        |zero=>simp at hk;subst hk;exact c3.rep l q z hl (by simpa using hz)
        |succ k=>simp at hk)
      refine⟨μ2,c',fun b o h=>d1 b o (c1 b o h),d2,?_,by grind,by simpa using d5⟩;rw[yC rfl c3.size mo];omega
    ·cases h
   ·cases h
  ·cases h
theorem Hw:∀{parts:List (Nat×V)}{i:Nat}{cs:List V},Ea i parts=some cs→cs.length=parts.length∧(∀id,b8 id cs=true→b8 id (parts.map Prod.snd)=true)∧∀(P:Program)(μ:Ro)(φ:Nat→aA)(da:List (Nat×Value))(c:Array Value),da.length=parts.length→(∀(j i:Nat)v,parts[j]?=some (i,v)→∃y,da[j]?=some (i,y)∧af P μ φ v y)→c.size=i+parts.length→∃c',Instr.fill (fun i=>some (i*1,1)) c da=some c'∧c'.size=c.size∧(∀j,j<i→c'[j]?=c[j]?)∧∀j u,cs[j]?=some u→∃y,c'[i+j]?=some y∧af P μ φ u y∧y.oneCell'=true
 |[],i,cs,h=>by simp only[Ea,cN]at h;subst h;refine⟨rfl,by simp[b8],fun P μ φ da c hl _ hc=>⟨c,?_,rfl,fun _ _=>rfl,by simp⟩⟩;have:da=[]:=ajl (by omega);subst this;rfl
 |(j,v)::r,i,cs,h=>by
  simp only[Ea]at h;split at h
  ·rename_i To;subst To;split at h
   ·rename_i us0 hf;split at h
    ·rename_i us hr;simp only[cN]at h;subst h;obtain⟨a1,a2,a3⟩:=toCells_ok hf;obtain⟨b1,b2,b3⟩:=Hw hr;refine⟨by simp[a1,b1];omega,fun id hid=>?_,fun P μ φ da c hl hp hc=>?_⟩
     ·obtain⟨u,hu,hh⟩:=cy.1 hid;rcases ajA.1 hu with hu|hu
      ·simp only[ajr,b8,ajt];exact .inl (a2 id (bK hu hh))
      ·simp only[ajr,b8,ajt];exact .inr (b2 id (bK hu hh))
     ·obtain⟨y,hy,YQ⟩:=hp 0 i v (by simp);cases da with
      |nil=>simp at hl
      |cons a nb=>
       simp at hy;subst hy;obtain⟨c1,c2,c3⟩:=a3 P μ φ y YQ;have mo:i*1+1≤c.size:=by simp at hc;omega
       have hyl:y.cells.toList.length=1:=by omega
       have aaw:i*1+y.cells.toList.length≤c.toList.length:=by simp_all
       obtain⟨c',d1,d2,d3,d4⟩:=b3 P μ φ nb (bJ c.toList (i*1) y.cells.toList).toArray (by simpa using hl) (fun j i' v' hj=>by
        obtain⟨z,hz1,hz2⟩:=hp (j+1) i' v' (by simpa using hj);simp_all) (by
        grind [List.size_toArray,cn,Array.length_toList,List.length_cons])
       have yB:∀k,(bJ c.toList (i*1) y.cells.toList).toArray[k]?=if k=i then y.cells[0]? else c[k]?:=fun k=>by rw[ajL];rw[dP];rw[ajD,ajF,ajP,aki (by omega),ajF,hyl];grind
       refine⟨c',?_,by simp_all[ake,cn],fun k hk=>?_,fun k u hu=>?_⟩
       ·rw[yC rfl c1 mo];omega
       ·grind
       ·have h0:us0.length=1:=a1;rw[ajF,h0]at hu;split at hu
        ·rename_i hk;have hk0:k=0:=by omega
         subst hk0;have h5:=d3 i (by omega);grind
        grind
    ·cases h
   ·cases h
  ·cases h
end
section
variable {P:Program}
theorem iB:∀(d:Nat)(t:TypeId)(ks:List Kd),BP P d t=some ks→∀(D:Nat)(w:World)(em:Bool)(ps:List PV),lN ks ps=true→(Instr.checkKey em (D+d) t (eD P t ps)).run P w=.ok () w
 |0,t,ks,h,_,_,_,_,_=>by simp[BP]at h
 |d+1,t,ks,h,D,w,em,ps,hp=>by
  have ih:=iB d;unfold BP at h;split at h
  ·rename_i q hu;simp only[cN]at h;subst h;have ha:ax P t=false:=by simp[ax,hu]
   obtain⟨p,rfl,YH⟩:=ng hp;simp_all[ug,eD,valOf,ajU,Instr.checkKey,run_underlying]
  ·rename_i hu;simp only[cN]at h;subst h;have ha:ax P t=false:=by simp[ax,hu]
   obtain⟨p,rfl,YH⟩:=ng hp;simp_all[ug,eD,valOf,ajU,Instr.checkKey,run_underlying]
  ·rename_i hu;simp only[cN]at h;subst h;have ha:ax P t=false:=by simp[ax,hu]
   obtain⟨p,rfl,YH⟩:=ng hp;simp_all[ug,eD,valOf,ajU,Instr.checkKey,run_underlying]
  ·rename_i fs hu;split at h
   ·cases h
   ·obtain⟨a,ha,h⟩:=cT.1 h;split at h
    ·rename_i hlen;simp only[cN]at h;subst h;have My:ax P t=true:=by simp[ax,hu]
     simp only[eD,My,IS,←ajU];rw[Instr.checkKey];simp only[Sem.run_bind,run_underlying hu,Result.andThen_ok];rw[←Array.forIn_toList];have key:∀(L:List Field)(off:Nat)(b:List Kd),q9 (BP P d) L off=some b→off≤ps.length→lN b (ps.drop off)=true→(forIn L PUnit.unit fun f(_:PUnit)=>(do
       if f.name≠ "_" then Instr.checkKey em (D+d) f.type (←part f.type (ps.map valOf).toArray f.offset)
       pure (ForInStep.yield PUnit.unit):Sem (ForInStep PUnit))).run P w=.ok PUnit.unit w:=by
      intro L;induction L with
      |nil=>simp
      |cons f L ihL=>
       intro off b hb o1 h1;simp only[q9]at hb;split at hb
       ·rename_i hf;obtain⟨c,hc,hb⟩:=cT.1 hb;obtain⟨b',jG,hb⟩:=cT.1 hb;simp only[cN]at hb;subst hb;rw[rA]at h1;have l1:=qJ h1.1;simp only[ajP,alj]at l1;have p1:=kK (w:=w) (ps:=ps) (off:=off) hc (by omega);have p3:=ih f.type c hc D w em _ h1.1;have p4:=ihL (off+c.length) b' jG (by omega) (by simp_all);simp_all
       ·cases hb
     have:=key fs.toList 0 a ha (by simp) (by simpa using hp);simp_all
    ·cases h
  ·rename_i n e hu;obtain⟨a,ha,h⟩:=cT.1 h;split at h
   ·rename_i hlen;simp only[cN]at h;subst h;have My:ax P t=true:=by simp[ax,hu]
    obtain⟨_,_,de,hde⟩:=yy ha;have oD:(sizeOf e).run P w=.ok a.length w:=by rw[hlen.1];exact CS hde
    simp only[eD,My,IS,←ajU];rw[Instr.checkKey];simp only[Sem.run_bind,run_underlying hu,Result.andThen_ok];simp only[Std.Legacy.Range.forIn_eq_forIn_range',Std.Legacy.Range.size,amf,Nat.add_one_sub_one,Nat.div_one];have key:∀(k j:Nat),j*a.length≤ps.length→lN (re a k) (ps.drop (j*a.length))=true→(forIn (List.range' j k) PUnit.unit fun i(_:PUnit)=>(do
      Instr.checkKey em (D+d) e (←part e (ps.map valOf).toArray (i*(←sizeOf e)))
      pure (ForInStep.yield PUnit.unit):Sem (ForInStep PUnit))).run P w=.ok PUnit.unit w:=by
     intro k;induction k with
     |zero=>simp
     |succ k ihk=>
      intro j o1 h1;simp only[re]at h1;rw[rA]at h1;have l1:=qJ h1.1;simp only[ajP,alj]at l1;have p1:=kK (w:=w) (ps:=ps) (off:=j*a.length) ha (by omega);have p3:=ih e a ha D w em _ h1.1;have ej:(j+1)*a.length=j*a.length+a.length:=by rw[ajV];omega
      have p4:=ihk (j+1) (by omega) (by simp_all);simp_all[ak4,List.forIn_cons,Sem.run_bind,Result.andThen_ok,Sem.run_pure]
    simp_all
   ·cases h
  ·cases h
variable{kt:TypeId}{ks:List Kd}
theorem mN{μ:Ro}{k:PV}{y:Value}(h:vP P kt ks k=true)(hy:ai P μ k y):lN ks k.cells=true∧y=eD P kt k.cells:=by
 simp only[vP,OF,beq_iff_eq]at h;refine⟨h.1,?_⟩;cases hq:k.isAgg with
 |true=>
  cases k<;>simp[PV.isAgg]at hq;cases hy with
  |agg h1 h2 h3=>have:=tp h.1 h1.symm h2;grind [eD,PV.isAgg,PV.cells]
 |false=>
  have hc:k.cells=[k]:=by cases k<;>first|rfl|(simp[PV.isAgg]at hq)
  have h1:=h.1;rw[hc]at h1;cases ks with
  |nil=>simp[lN]at h1
  |cons kd r=>simp only[lN,OF]at h1;grind [Hm,eD]
theorem II:∀{ks:List Kd}{ps qs:List PV},lN ks ps=true→lN ks qs=true→cz ps qs=true→ps=qs
 |[],[],[],_,_,_=>rfl
 |k::ks,p::ps,q::qs,h1,h2,h3=>by
  simp only[lN,OF]at h1 h2;simp only[cz,OF]at h3;rw[II h1.2 h2.2 h3.2];have:p=q:=by cases k<;>cases p<;>simp[ug]at h1<;>cases q<;>simp[ug]at h2<;>simp[peq]at h3<;>simp_all
  rw[this]
 |[],p::ps,_,h,_,_=>by simp[lN]at h
 |k::ks,[],_,h,_,_=>by simp[lN]at h
 |[],[],q::qs,_,h,_=>by simp[lN]at h
 |k::ks,p::ps,[],_,h,_=>by simp[lN]at h
structure wU(P:Program)(μ:Ro)(kt:TypeId)(ks:List Kd)(l:List (PV×PV))(es:List MapEntry):Prop where
 len:es.length=l.length
 key:∀(i:Nat)k v,l[i]?=some (k,v)→vP P kt ks k=true
 rep:∀(i:Nat)k v e,l[i]?=some (k,v)→es[i]?=some e→ai P μ k e.key∧ai P μ v e.val
variable{l:List (PV×PV)}{es:List MapEntry}
theorem wU.tail{μ:Ro}{x:PV×PV}{e:MapEntry}(h:wU P μ kt ks (x::l) (e::es)):wU P μ kt ks l es:=⟨by simpa using h.len,fun i k v hi=>h.key (i+1) k v (by simpa using hi),fun i k v e hi he=>h.rep (i+1) k v e (by simpa using hi) (by simpa using he)⟩
inductive Found(k v:PV)(z:PV)(l:List (PV×PV))(es:List MapEntry)(i:Nat):Option (Nat×Value)→Prop
 |none:sH k l=false→b9 k z l=z→df k v l=l++[(k,v)]→Found k v z l es i none
 |some {j:Nat} {a u:PV} {e:MapEntry}:l[j]?=some (a,u)→es[j]?=some e→cz k.cells a.cells=true→sH k l=true→b9 k z l=u→df k v l=l.set j (k,v)→Found k v z l es i (some (i+j,e.val))
theorem Found.cons{k v z:PV}{x:PV×PV}{l:List (PV×PV)}{e:MapEntry}{es:List MapEntry}{i:Nat}{r:Option (Nat×Value)}(hx:cz k.cells x.1.cells=false)(h:Found k v z l es (i+1) r):Found k v z (x::l) (e::es) i r:=by
 obtain⟨a,u⟩:=x;cases h with
 |none h1 h2 h3=>exact .none (by simpa[sH,hx]using h1) (by simpa[b9,hx]using h2) (by simpa[df,hx]using h3)
 | @some j a' u' e' h1 h2 h3 h4 h5 h6=>have:=Found.some (k:=k) (v:=v) (z:=z) (l:=(a,u)::l) (es:=e::es) (i:=i) (j:=j+1) (a:=a') (u:=u') (e:=e') (by simpa using h1) (by simpa using h2) h3 (by simpa[sH,hx]using h4) (by simpa[b9,hx]using h5) (by simpa[df,hx]using h6);grind
theorem Found.here{k v z:PV}{a u:PV}{e:MapEntry}{i:Nat}(hx:cz k.cells a.cells=true):Found k v z ((a,u)::l) (e::es) i (Option.some (i,e.val)):=by have:=Found.some (k:=k) (v:=v) (z:=z) (l:=(a,u)::l) (es:=e::es) (i:=i) (j:=0) (a:=a) (u:=u) (e:=e) (by simp) (by simp) hx (by simp[sH,hx]) (by simp[b9,hx]) (by simp[df,hx]);omega
theorem rG{μ:Ro}{kt:TypeId}{ks:List Kd}{k v z:PV}(hk:BP P 8 kt=some ks)(Aq:lN ks k.cells=true)(w:World):∀(l:List (PV×PV))(es:List MapEntry)(i:Nat),wU P μ kt ks l es→∃r,(Instr.findAsking kt (eD P kt k.cells) es i).run P w=.ok r w∧Found k v z l es i r
 |[],es,i,h=>by have:es=[]:=ajl (by simpa using h.len);subst this;exact⟨none,by rfl,.none rfl rfl rfl⟩
 |(a,u)::l,es,i,h=>by
  cases es with
  |nil=>have:=h.len;simp at this
  |cons e es=>
   have hka:=h.key 0 a u (by simp);obtain⟨h1,h2⟩:=mN hka (h.rep 0 a u e (by simp) (by simp)).1;have he:(Op.equal kt (eD P kt k.cells) e.key).run P w=.ok (cz k.cells a.cells) w:=by rw[h2];exact pN 8 kt ks hk 9992 w _ _ Aq h1
   cases hp:cz k.cells a.cells with
   |true=>exact⟨some (i,e.val),by simp[Instr.findAsking,he,hp],.here hp⟩
   |false=>obtain⟨r,r1,r2⟩:=rG (v:=v) (z:=z) hk Aq w l es (i+1) h.tail;exact⟨r,by simp[Instr.findAsking,he,hp,r1],r2.cons hp⟩
theorem CW{μ:Ro}{kt:TypeId}{d:TypeDesc}{ks:List Kd}{k v z:PV}(hu:P.underlying kt=some d)(ha:ax P kt=false)(hk:BP P 8 kt=some ks)(Aq:lN ks k.cells=true):∀(l:List (PV×PV))(es:List MapEntry)(i:Nat),wU P μ kt ks l es→∃r,Instr.findNow d (eD P kt k.cells) es i=some r∧Found k v z l es i r
 |[],es,i,h=>by have:es=[]:=ajl (by simpa using h.len);subst this;exact⟨none,by rfl,.none rfl rfl rfl⟩
 |(a,u)::l,es,i,h=>by
  cases es with
  |nil=>have:=h.len;simp at this
  |cons e es=>
   have hka:=h.key 0 a u (by simp);obtain⟨h1,h2⟩:=mN hka (h.rep 0 a u e (by simp) (by simp)).1;have he:Instr.sameNow d (eD P kt k.cells) e.key=some (cz k.cells a.cells):=by
    rw[h2];have DQ:=hk;unfold BP at DQ;rw[hu]at DQ;cases d<;>simp at DQ<;>try (simp[ax,hu]at ha;done)
    all_goals subst DQ;obtain⟨p,hp1,hp2⟩:=ng Aq;obtain⟨q,hq1,hq2⟩:=ng h1;rw[hp1,hq1];cases p<;>simp[ug]at hp2;cases q<;>simp[ug]at hq2;simp_all[eD,valOf,Instr.sameNow,cz,peq]
    all_goals (rw[akh,Go.MapKept.bytes_beq];simp_all)
   cases hp:cz k.cells a.cells with
   |true=>exact⟨some (i,e.val),by simp[Instr.findNow,he,hp],.here hp⟩
   |false=>obtain⟨r,r1,r2⟩:=CW (v:=v) (z:=z) hu ha hk Aq l es (i+1) h.tail;exact⟨r,by simp[Instr.findNow,he,hp,r1],r2.cons hp⟩
theorem lY{μ:Ro}{k v z:PV}(hk:BP P 8 kt=some ks)(Aq:lN ks k.cells=true)(w:World)(h:wU P μ kt ks l es):∃r,(Instr.findKey kt (eD P kt k.cells) es).run P w=.ok r w∧Found k v z l es 0 r:=by
 obtain⟨_,_,d,hu⟩:=yy hk;cases ha:ax P kt with
 |true=>rw[run_findKey_eq w (by grind [ax])];exact rG hk Aq w l es 0 h
 |false=>obtain⟨r,r1,r2⟩:=CW (v:=v) (z:=z) hu ha hk Aq l es 0 h;simp_all[Go.MapKept.run_findKey]
end
section
variable {R:Type} {E:Env}
variable{P:Program}{t:TypeId}{ks:List Kd}
theorem yD(h:sU P t=some ks):BP P 8 t=some ks:=by simp_all[sU]
variable{kt:TypeId}
theorem uA{v:V}{key:PV}(h:keyOf E kt v=some key):∃ks,sU E.P kt=some ks∧vP E.P kt ks key=true∧∀(μ:Ro)(φ:Nat→aA)(y:Value),af E.P μ φ v y→ai E.P μ key y:=by
 unfold keyOf at h;split at h
 ·rename_i ks TS;refine⟨ks,TS,?_⟩;split at h
  ·rename_i ha;split at h
   ·rename_i cs hc;split at h
    ·rename_i ps hp;split at h
     ·rename_i O4;simp only[cN]at h;subst h;obtain⟨_,c2⟩:=py hc;obtain⟨p1,p2⟩:=gP hp;refine⟨by simp_all[vP,PV.cells,PV.isAgg],fun μ φ y hy=>?_⟩;obtain⟨xs,rfl,h1,h2,h3⟩:=c2 E.P μ φ y hy;refine .agg (by omega) (fun i q z hq hz=>?_) h3;grind [uw]
     ·cases h
    ·cases h
   ·cases h
  ·rename_i ha;split at h
   ·rename_i p;split at h
    ·rename_i O4;simp only[cN]at h;subst h;refine⟨?_,fun μ φ y hy=>by cases hy with|pv hy=>omega⟩;cases ks with
     |nil=>simp[lN]at O4
     |cons kd r=>
      have adM:=O4;simp only[lN,OF]at adM;have ha':ax E.P kt=false:=by simpa using ha
      cases kd<;>cases p<;>simp[ug]at adM<;>simp_all[vP,PV.cells,PV.isAgg]
    ·cases h
   ·cases h
 ·cases h
variable{en:Array MapEntry}
theorem ml.push{clock:Nat}(h:ml en clock){k v:Value}:ml (en.push {key:=k,val:=v,born:=clock}) (clock+1):=by
 intro i e hi;rw[alr]at hi;split at hi
 ·rename_i e1;simp only[cN]at hi;subst hi;refine⟨Nat.lt_succ_self _,fun j e' hj hb=>?_⟩;rw[alr]at hj;split at hj
  ·omega
  ·have:=(h j e' hj).1;simp_all
 ·obtain⟨h1,h2⟩:=h i e hi;grind
theorem ml.modify{en:Array MapEntry}{clock:Nat}(h:ml en clock)(f:MapEntry→MapEntry)(hf:∀e,(f e).born=e.born)(k:Nat):ml (en.modify k f) clock:=by
 have key:∀(i:Nat)e,(en.modify k f)[i]?=some e→∃e0,en[i]?=some e0∧e.born=e0.born:=fun i e hi=>by grind
 intro i e hi;obtain⟨e0,h0,hb0⟩:=key i e hi;obtain⟨h1,h2⟩:=h i e0 h0;grind
inductive T8(w:World):Value→Array MapEntry→Prop
 |nil:T8 w (.map none) #[]
 |at{g clock:Nat} {en:Array MapEntry}:w.heap[g]?=some (.map en clock)→T8 w (.map (some g)) en
theorem rH{μ:Ro}{et:TypeId}{key z:PV}{zv y yi:Value}{w:World}{l:List (PV×PV)}{ok:Bool}(hu:P.underlying t=some (.map kt et))(hk:sU P kt=some ks)(yX:vP P kt ks key=true)(hyi:ai P μ key yi)(hy:T8 w y en)(hE:wU P μ kt ks l en.toList)(hz:(zeroValue et).run P w=.ok zv w)(hzr:ai P μ z zv):∃v,(Instr.lookup t y yi ok).run P w=.ok (if ok then .tuple #[v,.bool (sH key l)]else v) w∧ai P μ (b9 key z l) v:=by
 have Rp:=yD hk;obtain⟨hc,hv⟩:=mN yX hyi;obtain⟨r,r1,r2⟩:=lY (v:=.bad) (z:=z) Rp hc w hE;have h1:=iB 8 kt ks Rp 9992 w en.isEmpty key.cells hc;rw[hv];have uk:∀(x:Value×Bool),(r=none→x=(zv,false))→(∀j v,r=some (j,v)→x=(v,true))→(Instr.lookup t y (eD P kt key.cells) ok).run P w=.ok (if ok then .tuple #[x.1,.bool x.2]else x.1) w:=by
  intro x YP hx2;cases hy with
  |nil=>
   have h1':(Instr.checkKey true 10000 kt (eD P kt key.cells)).run P w=.ok () w:=h1;have r1':(Instr.findKey kt (eD P kt key.cells) []).run P w=.ok r w:=r1;unfold Instr.lookup;simp only[Sem.run_bind,run_underlying hu,Result.andThen_ok,Sem.run_pure];cases r with
   |none=>simp_all
   |some jv=>obtain⟨j,v⟩:=jv;simp_all
  | «at» hg=>
   have GA:=Go.MapKept.run_getObj_map (P:=P) hg;have h1':(Instr.checkKey en.isEmpty 10000 kt (eD P kt key.cells)).run P w=.ok () w:=h1;unfold Instr.lookup;simp only[Sem.run_bind,run_underlying hu,Result.andThen_ok,Sem.run_pure,GA];cases r with
   |none=>simp_all
   |some jv=>obtain⟨j,v⟩:=jv;simp_all
 cases r2 with
 |none f1 f2 f3=>grind
 | @some j a u e f1 f2 f3 f4 f5 f6=>refine⟨e.val,?_,by rw[f5];exact(hE.rep j a u e f1 f2).2⟩;simp_all
variable{m:Mem}
theorem MZ{x ix:V}{ok:Bool}{k:V→bq→Option R}{r:R}(h:uY E t x ix ok m k=some r):∃v ft,(∀m2:Mem,(∀x∈ft,m2 x.2=m x.2)→∀(R':Type)(k':V→bq→Option R'),uY E t x ix ok m2 k'=k' v ft)∧k v ft=some r∧(∀x∈ft,x.1=false)∧(∀id,v.has id=false)∧∀(G:Nat→Option (List PV))(w0:bx)(μ:Ro)(φ:Nat→aA)(w:World)(y yi:Value),av E.P G w0 μ φ m w→af E.P μ φ x y→af E.P μ φ ix yi→∃u,(Instr.lookup t y yi ok).run E.P w=.ok u w∧af E.P μ φ v u:=by
 have out:∀(q:PV)(b:Bool)(id:Nat),(if ok=true then V.aP [.pv q,.pv (.bool b)]else .pv q).has id=false:=by grind [id,V.has,b8]
 have rep:∀(μ:Ro)(φ:Nat→aA)(q:PV)(b:Bool)(v:Value),ai E.P μ q v→af E.P μ φ (if ok=true then V.aP [.pv q,.pv (.bool b)]else .pv q) (if ok=true then .tuple #[v,.bool b]else v):=by
  intro μ φ q b v hv;cases ok with
  |false=>exact .pv hv
  |true=>
   refine .aP (by simp) fun i p y hp hy=>?_;match i with
   |0=>simp at hp hy;subst hp;subst hy;exact .pv hv
   |1=>simp at hp hy;subst hp;subst hy;exact .pv .bool
   |n+2=>simp at hp
 unfold uY at h;split at h
 ·rename_i kt et hu;split at h
  ·rename_i z hz;obtain⟨zv,hz1,hz2⟩:=MX hz;split at h
   ·rename_i id;split at h
    ·rename_i wE es hm;split at h
     ·rename_i hkt;subst hkt;obtain⟨key,yX,h⟩:=cT.1 h;obtain⟨q,q1,q2,q3,_⟩:=lV h;obtain⟨ks,k1,k2,k3⟩:=uA yX;refine⟨_,_,fun m2 cK R' k'=>by have:=cK (false,id) (by simp);simp_all[uY,ajn,IS],q2,by simp,out q _,fun G w0 μ φ w y yi hM hx hi=>?_⟩;obtain⟨g,en,clock,kk,hg,hh,hs,hk,O4,_,hv⟩:=hM.dx id _ hm;rw[k1]at hk;simp only[cN]at hk;subst hk;cases hx with
      |om cP=>rw[hg]at cP;simp only[cN]at cP;subst cP;obtain⟨v,v1,v2⟩:=rH (ok:=ok) (z:=z) hu k1 k2 (k3 μ φ yi hi) (.at hh) (l:=es) ⟨by omega,O4,fun i k v e h1 h2=>hv i k v e h1 (by simpa using h2)⟩ (hz1 w) (hz2 μ);exact⟨_,v1,rep μ φ q _ v (q3 _ _ _ v2)⟩
     ·cases h
    ·cases h
   ·rename_i pm;unfold cD at h;split at h
    ·obtain⟨key,yX,h⟩:=cT.1 h;obtain⟨ks,k1,k2,k3⟩:=uA yX;refine⟨_,_,fun m2 cK R' k'=>by simp_all[uY,cD,ajn],h,by simp,out z _,fun G w0 μ φ w y yi hM hx hi=>?_⟩;cases hx with
     |pv hx=>cases hx with
      |uU=>obtain⟨v,v1,v2⟩:=rH (ok:=ok) (z:=z) hu k1 k2 (k3 μ φ yi hi) .nil (l:=[]) ⟨by simp,by simp,by simp⟩ (hz1 w) (hz2 μ);exact⟨_,v1,rep μ φ z _ v v2⟩
    ·rename_i wE ks' vs';split at h
     ·rename_i hkt;subst hkt;obtain⟨key,yX,h⟩:=cT.1 h;obtain⟨q,q1,q2,q3,_⟩:=lV h;obtain⟨ks,k1,k2,k3⟩:=uA yX;refine⟨_,_,fun m2 cK R' k'=>by simp_all[uY,cD,ajn,IS],q2,by simp,out q _,fun G w0 μ φ w y yi hM hx hi=>?_⟩;cases hx with
      |pv hx=>cases hx with
       | @rm _ _ _ b clock en kk m1 m2 m3 m4 m5 m6 m7=>
        rw[k1]at m4;simp only[cN]at m4;subst m4;have abx:∀(i:Nat)k v,(ks'.zip vs')[i]?=some (k,v)→ks'[i]?=some k∧vs'[i]?=some v:=fun i k v h=>by grind
        obtain⟨v,v1,v2⟩:=rH (ok:=ok) (z:=z) hu k1 k2 (k3 μ φ yi hi) (.at (hM.ro _ _ m1)) (l:=ks'.zip vs') ⟨by simp[m2,m3],fun i k v h=>m5 i k (abx i k v h).1,fun i k v e h1 h2=>⟨m6 i k e (abx i k v h1).1 (by simpa using h2),m7 i v e (abx i k v h1).2 (by simpa using h2)⟩⟩ (hz1 w) (hz2 μ);exact⟨_,v1,rep μ φ q _ v (q3 _ _ _ v2)⟩
     ·cases h
    ·cases h
   ·cases h
  ·cases h
 ·cases h
variable{m':Mem}
theorem Hx{v:V}{p:PV}(h:uV m v=some (p,m')):kn m m'∧∀(P:Program)(G:Nat→Option (List PV))(w0:bx)(μ:Ro)(φ:Nat→aA)(w:World)(x:Value),av P G w0 μ φ m w→af P μ φ v x→∃μ',(∀b o,μ b=some o→μ' b=some o)∧av P G w0 μ' φ m' w∧ai P μ' p x:=by
 unfold uV at h;split at h
 ·rename_i cs;split at h
  ·rename_i ps m1 hf;simp only[cN,aab]at h;obtain⟨rfl,rfl⟩:=h;obtain⟨f1,f2,f3⟩:=Ez hf;refine⟨f1,fun P G w0 μ φ w x hM hx=>?_⟩;cases hx with
   | @agg _ xs h1 h2 h3=>
    have hX:∀(i:Nat),i<cs.length→xs[i]?=some (xs.getD i undef):=fun i hi=>by simp_all
    obtain⟨μ',e1,e2,e3⟩:=f3 P G w0 μ φ w (fun i=>xs.getD i undef) hM fun i u hu=>h2 i u _ hu (hX i (By.1 hu).1);refine⟨μ',e1,e2,.agg (by omega) (fun j q y hq hy=>?_) h3⟩;grind
  ·cases h
 ·exact Pa h
theorem CX{v:V}{p:PV}(h:uV cM v=some (p,m')):∀(P:Program)(μ:Ro)(φ:Nat→aA)(x:Value),af P μ φ v x→ai P μ p x:=by
 unfold uV at h;split at h
 ·rename_i cs;split at h
  ·rename_i ps m1 hf;simp only[cN,aab]at h;obtain⟨rfl,rfl⟩:=h;obtain⟨f2,f3⟩:=zJ hf;intro P μ φ x hx;cases hx with
   | @agg _ xs h1 h2 h3=>
    have hX:∀(i:Nat),i<cs.length→xs[i]?=some (xs.getD i undef):=fun i hi=>by simp_all
    have e3:=f3 P μ φ (fun i=>xs.getD i undef) fun i u hu=>h2 i u _ hu (hX i (By.1 hu).1);refine .agg (by omega) (fun j q y hq hy=>?_) h3;grind
  ·cases h
 ·exact Hr h
theorem M0{draw:Bool}{v:V}{p:PV}(h:Aw draw m v=some (p,m')):kn m m'∧(draw=true→m'=m∧∀m2:Mem,Aw true m2 v=some (p,m2))∧∀(P:Program)(G:Nat→Option (List PV))(w0:bx)(μ:Ro)(φ:Nat→aA)(w:World)(x:Value),av P G w0 μ φ m w→af P μ φ v x→∃μ',(∀b o,μ b=some o→μ' b=some o)∧av P G w0 μ' φ m' w∧ai P μ' p x:=by
 unfold Aw at h;split at h
 ·rename_i hd;split at h
  ·rename_i q m1 hf;simp only[cN,aab]at h;obtain⟨rfl,rfl⟩:=h;exact⟨.refl _,fun _=>⟨rfl,fun m2=>by simp[Aw,hf]⟩,fun P G w0 μ φ w x hM hx=>⟨μ,fun _ _ h=>h,hM,CX hf P μ φ x hx⟩⟩
  ·cases h
 grind [Hx,absurd]
theorem zk:∀{ps:List PV},lN ks ps=true→∀(n:Nat),(ps.map valOf).all (fun v=>Instr.sameBits n v v)=true:=by
 induction ks with
 |nil=>intro ps h n;cases ps<;>simp[lN]at h;rfl
 |cons k ks ih=>
  intro ps h n;cases ps with
  |nil=>rfl
  |cons p ps=>simp only[lN,OF]at h;simp only[ajr,alQ,ih h.2 n,akw];cases k<;>cases p<;>simp[ug]at h<;>simp[valOf,Instr.sameBits,Go.MapKept.bytes_beq]
theorem wV{ps:List PV}(h:lN ks ps=true)(hl:ax P t=false→ps.length=1)(n:Nat):Instr.sameBits (n+1) (eD P t ps) (eD P t ps)=true:=by
 unfold eD;cases ha:ax P t with
 |true=>have:=zk h n;simp only[IS,Instr.sameBits,BEq.rfl,aj3];grind
 |false=>
  have h1:=hl ha;match ps,h1 with
  |[p],_=>have:=zk h (n+1);simpa using this
theorem zl{draw:Bool}{x key val:V}{k:Mem→bq→Option R}{r:R}(h:oC E draw t x key val m k=some r):∃m' ft,k m' ft=some r∧(draw=true→∃id b,m'=ao m id b∧ft=[(true,id)]∧∀m2:Mem,m2 id=m id→∀(R':Type)(k':Mem→bq→Option R'),oC E true t x key val m2 k'=k' (ao m2 id b) [(true,id)])∧kn m m'∧∀(G:Nat→Option (List PV))(w0:bx)(μ:Ro)(φ:Nat→aA)(w:World)(ya yk yv:Value),av E.P G w0 μ φ m w→af E.P μ φ x ya→af E.P μ φ key yk→af E.P μ φ val yv→∃w' μ',(Instr.mapUpdate t ya yk yv).run E.P w=.ok () w'∧(∀b o,μ b=some o→μ' b=some o)∧av E.P G w0 μ' φ m' w':=by
 unfold oC at h;split at h
 ·rename_i kt et hu;split at h
  ·rename_i id;split at h
   ·rename_i v m1 hf;obtain⟨f1,f2,f3⟩:=M0 hf;split at h
    ·rename_i wE es hm;split at h
     ·rename_i hkt;subst hkt;obtain⟨kp,yX,h⟩:=cT.1 h;obtain⟨ks,k1,k2,k3⟩:=uA yX;refine⟨_,_,h,fun hd=>?_,f1.trans .set,fun G w0 μ φ w ya yk yv hM hx hk hv=>?_⟩
      ·obtain⟨rfl,f4⟩:=f2 hd;exact⟨id,_,rfl,rfl,fun m2 cK R' k'=>by simp_all[oC,ajn,IS]⟩
      ·obtain⟨μ',g1,g2,g3⟩:=f3 _ _ _ _ _ _ _ hM hv;obtain⟨g,en,clock,kk,hg,hh,hs,Aq,O4,yq,lC⟩:=g2.dx id _ hm;rw[k1]at Aq;simp only[cN]at Aq;subst Aq;have Rp:=yD k1;have hkr:=(k3 μ φ yk hk).mono g1;obtain⟨hc,hkv⟩:=mN k2 hkr;have hE:wU E.P μ' wE ks es en.toList:=⟨by omega,O4,fun i k v e h1 h2=>lC i k v e h1 (by simpa using h2)⟩;obtain⟨res,r1,r2⟩:=lY (v:=v) (z:=.bad) Rp hc w hE;have GA:=Go.MapKept.run_getObj_map (P:=E.P) hh;have h1:(Instr.checkKey false 10000 wE yk).run E.P w=.ok () w:=by rw[hkv];exact iB 8 wE ks Rp 9992 w false kp.cells hc
       rw[←hkv]at r1;have bT:g<w.heap.size:=(abi.1 hh).1;cases hx with
       |om cP=>
        rw[hg]at cP;simp only[cN]at cP;subst cP;have fin:∀(o:Obj)(MB:Array MapEntry)(pP:Nat),o=.map MB pP→(Instr.mapUpdate t (.map (some g)) yk yv).run E.P w=.ok () {w with heap:=w.heap.setIfInBounds g o}→ml MB pP→wU E.P μ' wE ks (df kp v es) MB.toList→∃w' μ',(Instr.mapUpdate t (.map (some g)) yk yv).run E.P w=.ok () w'∧(∀b o,μ b=some o→μ' b=some o)∧av E.P G w0 μ' φ (ao m1 id (.map wE (df kp v es))) w':=by rintro o MB pP rfl hr ag5 hE';refine⟨_,μ',hr,g1,g2.write hm rfl hg ⟨⟨rfl,rfl,rfl,by simp,fun k hk=>by grind⟩,fun _=>ajo _⟩ (by simp) (fun k hk=>by grind) ?_ rfl (by simp[bH.names])⟩;exact⟨g,MB,pP,ks,hg,by simp[bT],by simpa using hE'.len,k1,hE'.key,ag5,fun i k v e h1 h2=>hE'.rep i k v e h1 (by simpa using h2)⟩
        cases r2 with
        |none e1 e2 e3=>
         have Rq:=Go.MapKept.run_setObj_map (P:=E.P) (.map (en.push {key:=yk,val:=yv,born:=clock}) (clock+1)) hh;refine fin _ _ _ rfl (by simp only[Instr.mapUpdate,Sem.run_bind,run_underlying hu,GA,h1,r1,Result.andThen_ok];exact Rq) yq.push ?_;rw[e3];have eX:∀(i:Nat)k' v' e,(es++[(kp,v)])[i]?=some (k',v')→(en.push {key:=yk,val:=yv,born:=clock}).toList[i]?=some e→(es[i]?=some (k',v')∧en.toList[i]?=some e)∨(k'=kp∧v'=v∧e.key=yk∧e.val=yv):=by grind
         refine⟨by simp[hs],fun i k' v' h=>?_,fun i k' v' e h1 h2=>?_⟩
         ·grind
         grind
        | @some j a u e e1 e2 e3 e4 e5 e6=>
         have e2':en[j]?=some e:=by simpa using e2
         obtain⟨hca,hva⟩:=mN (O4 j a u e1) (lC j a u e e1 e2').1;have vi:=II hc hca e3;have hsb:Instr.sameBits 10000 e.key yk=true:=by rw[hva,hkv,←vi];refine wV (n:=9999) hc (fun ha=>?_);rw[qJ hc];exact(yy Rp).2.1 ha
         have Rq:=Go.MapKept.run_setObj_map (P:=E.P) (.map (en.modify j fun e=>{e with key:=yk,val:=yv}) clock) hh;have zK:j<en.size:=(abi.1 e2').1;refine fin _ _ _ rfl (by simp only[Instr.mapUpdate,Sem.run_bind,run_underlying hu,GA,h1,r1,Result.andThen_ok];simp only[aj0,e2',ajg,aka,Instr.keyThatStays,hsb,IS,Sem.run_pure,Result.andThen_ok];exact Rq) (yq.modify (fun e=>{e with key:=yk,val:=yv}) (fun _=>rfl) _) ?_;rw[e6];have sL:∀(i:Nat)k' v',(es.set j (kp,v))[i]?=some (k',v')→(i=j∧k'=kp∧v'=v)∨(i≠j∧es[i]?=some (k',v')):=by grind
         refine⟨by simp[hs],fun i k' v' h=>?_,fun i k' v' e' h1 h2=>?_⟩
         ·grind
         grind
     ·cases h
    ·cases h
   ·cases h
  ·cases h
 ·cases h
theorem Kw{μ:Ro}{φ:Nat→aA}{w:World}{site:Nat}(hk:sU P kt=some ks)(hφ:(φ site).g=some w.heap.size):gG P μ φ (w.alloc (.map #[] 0)) site (.map kt []):=⟨w.heap.size,#[],0,ks,hφ,fE w _,rfl,hk,by simp,fun i e h=>by simp at h,by simp⟩
end
def vc(P:Program)(G:Nat→Option (List PV))(g:FuncId)(M:List PV→Option PV):Prop:=
 (∃fn c,P.funcs[g]?=some fn∧fn.body=some c∧(fn.name== "runtime.NumGoroutine")=false)∧
 ∀(ps:List PV)(r:PV),M ps=some r→∀(w:World)(μ:Ro)(xs:Array Value),(∀b o,μ b=some o→w.heap[b]?=some o)→(∀g cs,G g=some cs→y9 P μ g cs)→ps.length=xs.size→(∀(i:Nat)p x,ps[i]?=some p→xs[i]?=some x→ai P μ p x)→Calls P g xs w fun e w'=>∃y,e=.returned y∧lD w.heap.size w w'∧ai P (ck μ w w') r y
def B4(P:Program)(G:Nat→Option (List PV))(g:FuncId)(M:List PV→Option PV):Prop:=
 (∃fn c,P.funcs[g]?=some fn∧fn.body=some c∧(fn.name== "runtime.NumGoroutine")=false)∧
 ∀(fn:Func)(t e:TypeId),P.funcs[g]?=some fn→fn.resultTypes.toList=[t]→P.underlying t=some (.slice e)→∀(ps:List PV)(r:PV),M ps=some r→∀(w:World)(μ:Ro)(xs:Array Value),(∀b o,μ b=some o→w.heap[b]?=some o)→(∀g cs,G g=some cs→y9 P μ g cs)→ps.length=xs.size→(∀(i:Nat)p x,ps[i]?=some p→xs[i]?=some x→ai P μ p x)→Calls P g xs w fun en w'=>∃(y:Value)(ph:aA)(es:List PV),en=.returned y∧lD w.heap.size w w'∧r=.rs (aO P e) es∧(∀g,ph.g=some g→w.heap.size≤g)∧aH P (nc (ck μ w w') ph.g) (fun _=>ph) w' 0 (aO P e) e es∧af P μ (fun _=>ph) (.os 0) y
def adN(m:Mem):Option (Nat×bH)→Mem
 |some (id,b)=>ao m id b
 |none=>m
def adO(E:Env)(g:FuncId)(args:List V)(f:Fr)(m:Mem)(v:V)(f':Fr)(m':Mem):Prop:=
 (∃fn c,E.P.funcs[g]?=some fn∧fn.body=some c∧(fn.name== "runtime.NumGoroutine")=false)∧
 ∀(w0:bx)(μ:Ro)(φ:Nat→aA)(ρ:Nat→Value)(w:World)(xs:Array Value),av E.P E.aG w0 μ φ m w→bS E.P μ φ m f ρ→args.length=xs.size→(∀(i:Nat)v x,args[i]?=some v→xs[i]?=some x→af E.P μ φ v x)→(∀id,b8 id args=true→(m id).isSome=true)→Calls E.P g xs w fun e w'=>∃y μ' φ',e=.returned y∧av E.P E.aG w0 μ' φ' m' w'∧bS E.P μ' φ' m' f' ρ∧af E.P μ' φ' v y∧∀id,v.has id=true→(m' id).isSome=true
def IJ{R:Type}(P:Program)(G:Nat→Option (List PV))(g:FuncId)(args:List V)(f:Fr)(m:Mem)(k:V→Fr→Mem→Option R)(r:R):Prop:=
 (∃fn c,P.funcs[g]?=some fn∧fn.body=some c∧(fn.name== "runtime.NumGoroutine")=false)∧
 ∀(w0:bx)(μ:Ro)(φ:Nat→aA)(ρ:Nat→Value)(w:World)(xs:Array Value),av P G w0 μ φ m w→bS P μ φ m f ρ→args.length=xs.size→(∀(i:Nat)v x,args[i]?=some v→xs[i]?=some x→af P μ φ v x)→(∀id,b8 id args=true→(m id).isSome=true)→Calls P g xs w fun e w'=>∃v f' m' y μ' φ',k v f' m'=some r∧e=.returned y∧av P G w0 μ' φ' m' w'∧bS P μ' φ' m' f' ρ∧af P μ' φ' v y∧∀id,v.has id=true→(m' id).isSome=true
def uq(P:Program)(G:Nat→Option (List PV))(nt:Nat)(yl:YL)(w0:bx):Prop:=∀(R:Type)site id args f m(k:V→Fr→Mem→Option R)r,yl R nt site id args f m k=some r→∀(μ:Ro)(φ:Nat→aA)(ρ:Nat→Value)(w:World)(xs:Array Value),av P G w0 μ φ m w→bS P μ φ m f ρ→(∀t,nt≤t→ρ t=w0.sv t)→args.length=xs.size→(∀(i:Nat)v x,args[i]?=some v→xs[i]?=some x→af P μ φ v x)→(∀id,b8 id args=true→(m id).isSome=true)→∀g,(φ id).g=some g→∃fn tmps assign body,(Instr.yield g xs).run P w=.ok (.round g fn tmps assign body) w∧RoundIn Fence.wide 0 P g fn tmps assign body w fun e w'=>∃v f' m' y μ' φ',k v f' m'=some r∧e=.returned y∧(∀b o,μ b=some o→μ' b=some o)∧av P G w0 μ' φ' m' w'∧bS P μ' φ' m' f' ρ∧af P μ' φ' v y∧∀id,v.has id=true→(m' id).isSome=true
theorem AA(P:Program)(G:Nat→Option (List PV))(nt:Nat)(w0:bx):uq P G nt BS w0:=fun R site id args f m k r h=>by cases h
variable{G:Nat→Option (List PV)}{φ:Nat→aA}
theorem av.zN{P:Program}{w0:bx}{μ:Ro}{m:Mem}{w:World}(h:av P G w0 μ φ m w){K:Ro}(hK:∀b o,K b=some o→μ b=some o):av P G {w0 with dA:=K} μ φ m w:=⟨h.below,h.ro,h.aG,h.dx,h.own,h.inj,h.apart,h.fO,h.base,hK,h.CO⟩
theorem av.EH{P:Program}{w0:bx}{μ:Ro}{m:Mem}{w:World}{K:Ro}(h:av P G {w0 with dA:=K} μ φ m w)(hK:∀b o,w0.dA b=some o→K b=some o):av P G w0 μ φ m w:=⟨h.below,h.ro,h.aG,h.dx,h.own,h.inj,h.apart,h.fO,h.base,fun b o hb=>h.dA b o (hK b o hb),h.CO⟩
theorem uq.zN{P:Program}{G:Nat→Option (List PV)}{nt:Nat}{yl:YL}{w0:bx}(h:uq P G nt yl w0){K:Ro}(hK:∀b o,w0.dA b=some o→K b=some o):uq P G nt yl {w0 with dA:=K}:=fun R site id args f m k r hy μ φ ρ w xs hM hF hρ hl hr IB g hg=>
  let⟨fn,tmps,assign,body,y1,y2⟩:=h R site id args f m k r hy μ φ ρ w xs (hM.EH hK) hF hρ hl hr IB g hg
  ⟨fn,tmps,assign,body,y1,y2.mono fun e w'⟨v,f',m',y,μ',φ',a1,a2,a3,a4,a5⟩=>⟨v,f',m',y,μ',φ',a1,a2,a3,a4.zN fun b o hb=>a3 b o (hM.dA b o hb),a5⟩⟩
def MN{R:Type}(P:Program)(G:Nat→Option (List PV))(g:FuncId)(yl:YL)(args:List V)(f:Fr)(m:Mem)(k:V→Fr→Mem→Option R)(r:R):Prop:=
 ∃fn c,P.funcs[g]?=some fn∧fn.body=some c∧(fn.name== "runtime.NumGoroutine")=false∧
 ∀(w0:bx)(μ:Ro)(φ:Nat→aA)(ρ:Nat→Value)(w:World)(xs:Array Value),av P G w0 μ φ m w→bS P μ φ m f ρ→args.length=xs.size→(∀(i:Nat)v x,args[i]?=some v→xs[i]?=some x→af P μ φ v x)→(∀id,b8 id args=true→(m id).isSome=true)→uq P G fn.ntmps yl {w0 with sv:=fun t=>ρ (t-fn.ntmps)}→Calls P g xs w fun e w'=>∃v f' m' y μ' φ',k v f' m'=some r∧e=.returned y∧av P G w0 μ' φ' m' w'∧bS P μ' φ' m' f' ρ∧af P μ' φ' v y∧∀id,v.has id=true→(m' id).isSome=true
structure ke(E:Env):Prop where
 mixed:E.P.follows .mixedOrders=true
 lp:∀(S R:Type)(body:S→(S→Option R)→Option R)s r,E.lp.run body s=some r→∃n,cA body n s=some r
 ctx:∀g M,E.ctx g=some M→vc E.P E.aG g M
 own:∀g M,E.own g=some M→B4 E.P E.aG g M
 inl:∀(R:Type)g MC args f m(k:V→Fr→Mem→Option R)r,E.inl R g MC args f m k=some r→IJ E.P E.aG g args f m k r
 rng:∀(R:Type)g MC yl args f m(k:V→Fr→Mem→Option R)r,E.rng R g MC yl args f m k=some r→MN E.P E.aG g yl args f m k r
section
variable {R:Type} {E:Env}
theorem ef{f:V→List Nat}{id:Nat}:∀{cs:List V},id∈iU f cs↔∃v∈cs,id∈f v
 |[]=>by simp[iU]
 |c::r=>by simp[iU,ef (cs:=r)]
theorem mq{g g':V→Option PV}:∀{cs:List V},(∀v∈cs,g' v=g v)→qF g' cs=qF g cs
 |[],_=>rfl
 |c::r,h=>by simp_all[qF,mq]
theorem qV{m m2:Mem}:∀(d:Nat){v:V},(∀id∈cE m d v,m2 id=m id)→lx m2 d v=lx m d v
 |0,v,_=>rfl
 |d+1,v,h=>by
  cases v with
  |agg cs=>simp only[lx];rw[mq fun v hv=>qV d fun id hid=>h id (by simp only[cE];exact ef.2 ⟨v,hv,hid⟩)]
  |aP cs=>simp only[lx];rw[mq fun v hv=>qV d fun id hid=>h id (by simp only[cE];exact ef.2 ⟨v,hv,hid⟩)]
  |fn g cs=>simp only[lx];rw[mq fun v hv=>qV d fun id hid=>h id (by simp only[cE];exact ef.2 ⟨v,hv,hid⟩)]
  |op id off=>
   have h0:=h id (by simp[cE]);simp only[lx,h0];split
   ·rename_i cs hm;rw[mq fun v hv=>qV d fun sI hid=>h sI (by simp only[cE,hm];exact akD _ (ef.2 ⟨v,hv,hid⟩))]
   rfl
  |oe id i off=>grind [lx,id,cE]
  |os id=>grind [lx,id,cE]
  |fL id lo len=>grind [lx,id,cE]
  |om id=>grind [lx,id,cE]
  |wI id i off=>grind [lx,id,cE]
  |_=>rfl
theorem jb{g g':V→List Nat}:∀{cs:List V},(∀v∈cs,g' v=g v)→iU g' cs=iU g cs
 |[],_=>rfl
 |c::r,h=>by simp_all[iU,jb]
theorem mO{m m2:Mem}:∀(d:Nat){v:V},(∀id∈cE m d v,m2 id=m id)→cE m2 d v=cE m d v
 |0,v,_=>rfl
 |d+1,v,h=>by
  cases v with
  |agg cs=>simp only[cE];exact jb fun v hv=>mO d fun id hid=>h id (by simp only[cE];exact ef.2 ⟨v,hv,hid⟩)
  |aP cs=>simp only[cE];exact jb fun v hv=>mO d fun id hid=>h id (by simp only[cE];exact ef.2 ⟨v,hv,hid⟩)
  |fn g cs=>simp only[cE];exact jb fun v hv=>mO d fun id hid=>h id (by simp only[cE];exact ef.2 ⟨v,hv,hid⟩)
  |op id off=>
   have h0:=h id (by simp[cE]);simp only[cE,h0];split
   ·rename_i cs hm;rw[jb fun v hv=>mO d fun sI hid=>h sI (by simp only[cE,hm];exact akD _ (ef.2 ⟨v,hv,hid⟩))]
   rfl
  |_=>rfl
variable{p:PV}
theorem CY{t:TypeId}{k:PV→Option R}{r:R}(hs:uZ E t=true)(h:iu E t p k=some r):∃q,(∀(R':Type)(k':PV→Option R'),iu E t p k'=k' q)∧k q=some r∧∀(P:Program)(μ μ':Ro)x,ai P μ p x→ai P μ' q x:=by
 unfold uZ at hs;unfold iu at h;split at h
 ·rename_i q hu;obtain⟨n,hn,hk⟩:=cT.1 h;have hp:p=.int q n:=by cases p<;>simp[asInt]at hn;simp_all
  exact⟨.int q n,fun R' k'=>by simp[iu,hu,hn],hk,fun P μ μ' x hx=>by subst hp;cases hx with|int h=>exact .int h⟩
 ·rename_i hu;obtain⟨n,hn,hk⟩:=cT.1 h;have hp:p=.bool n:=by cases p<;>simp[asBool]at hn;subst hn;rfl
  exact⟨.bool n,fun R' k'=>by simp[iu,hu,hn],hk,fun P μ μ' x hx=>by subst hp;cases hx;exact .bool⟩
 ·rename_i hu;obtain⟨n,hn,hk⟩:=cT.1 h;have hp:p=.str n:=by cases p<;>simp[bG]at hn;subst hn;rfl
  exact⟨.str n,fun R' k'=>by simp[iu,hu,hn],hk,fun P μ μ' x hx=>by subst hp;cases hx with|str h=>exact .str h⟩
 all_goals simp_all
theorem Kx:∀{ts:List TypeId}{ps:List PV}{k:List V→Option R}{r:R},CG E ts ps k=some r→∃vs,(∀(R':Type)(k':List V→Option R'),CG E ts ps k'=k' vs)∧k vs=some r∧vs.length=ps.length∧(∀id,b8 id vs=false)∧(∀(P:Program)(μ:Ro)(φ:Nat→aA)(i:Nat)p v x,ps[i]?=some p→vs[i]?=some v→ai P μ p x→af P μ φ v x)∧(ts.all (uZ E)=true→∀(P:Program)(μ μ':Ro)(φ:Nat→aA)(i:Nat)p v x,ps[i]?=some p→vs[i]?=some v→ai P μ p x→af P μ' φ v x)
 |[],[],k,r,h=>⟨[],fun R' k'=>rfl,h,rfl,fun _=>rfl,by simp,by simp⟩
 |t::ts,p::ps,k,r,h=>by
  simp only[CG]at h;obtain⟨q,q1,q2,q3,_⟩:=lV h;obtain⟨vs,v1,v2,v3,v4,v5,v6⟩:=Kx q2;refine⟨.pv q::vs,fun R' k'=>by simp only[CG];rw[q1,v1],v2,by simp[v3],fun id=>by simp[b8,v4],fun P μ φ i p' v x hp hv hx=>?_,fun hs P μ μ' φ i p' v x hp hv hx=>?_⟩
  ·cases i with
   |zero=>simp at hp hv;subst hp;subst hv;exact .pv (q3 _ _ _ hx)
   |succ i=>grind
  ·simp only[alQ,OF]at hs;cases i with
   |zero=>
    simp at hp hv;subst hp;subst hv;obtain⟨q',s1,s2,s3⟩:=CY hs.1 h;have:q'=q:=by have e1:=s1 PV some;grind
    subst this;exact .pv (s3 P μ μ' x hx)
   |succ i=>grind
 |[],p::ps,k,r,h=>by simp[CG]at h
 |t::ts,[],k,r,h=>by simp[CG]at h
theorem Ky{n:Nat}{r:PV}{vs:List PV}(h:dq n r=some vs):r=.aP vs∧vs.length=n:=by cases r<;>simp[dq]at h;grind
variable{ts:List TypeId}
theorem Kz{k:V→Option R}{r:R}(h:CH E ts p k=some r):∃v,(∀(R':Type)(k':V→Option R'),CH E ts p k'=k' v)∧k v=some r∧(∀id,v.has id=false)∧(∀(P:Program)(μ:Ro)(φ:Nat→aA)x,ai P μ p x→af P μ φ v x)∧(ts.all (uZ E)=true→∀(P:Program)(μ μ':Ro)(φ:Nat→aA)x,ai P μ p x→af P μ' φ v x):=by
 unfold CH at h;split at h
 ·obtain⟨vs,hv,hk⟩:=cT.1 h;obtain⟨rfl,hl⟩:=Ky hv;have:vs=[]:=ajl hl;subst this;have key:∀(P:Program)(μ μ':Ro)(φ:Nat→aA)x,ai P μ (.aP []) x→af P μ' φ (.aP []) x:=fun P μ μ' φ x hx=>by
   cases hx with
   |aP h1 h2=>exact .aP h1 (by simp)
  grind [CH,V.has,b8]
 ·rename_i t;obtain⟨q,q1,q2,q3,_⟩:=lV h;refine⟨.pv q,fun R' k'=>by simp only[CH];rw[q1],q2,by simp,fun P μ φ x hx=>.pv (q3 _ _ _ hx),fun hs P μ μ' φ x hx=>?_⟩;obtain⟨q',s1,s2,s3⟩:=CY (by simpa using hs) h;have:q'=q:=by have e1:=s1 PV some;grind
  subst this;exact .pv (s3 P μ μ' x hx)
 ·rename_i ai1 ai2;obtain⟨vs,hv,hk⟩:=cT.1 h;obtain⟨rfl,hl⟩:=Ky hv;obtain⟨us,u1,u2,u3,u4,u5,u6⟩:=Kx hk;have adP:((List.range ts.length).map fun j=>vs.getD j .bad)=vs:=by apply ajw;grind
  rw[adP]at u3 u5 u6;refine⟨.aP us,fun R' k'=>?_,u2,fun id=>by simp[V.has,u4],fun P μ φ x hx=>?_,fun hs P μ μ' φ x hx=>?_⟩
  ·unfold CH;simp_all
  ·cases hx with
   |aP h1 h2=>
    refine .aP (by omega) fun i v y hv hy=>?_;have hi:i<vs.length:=by grind
    exact u5 P μ φ i _ v y (cO hi) hv (h2 i _ y (cO hi) hy)
  ·cases hx with
   |aP h1 h2=>
    refine .aP (by omega) fun i v y hv hy=>?_;have hi:i<vs.length:=by grind
    exact u6 hs P μ μ' φ i _ v y (cO hi) hv (h2 i _ y (cO hi) hy)
theorem tz:∀{args:List V}{m m':Mem}{ps:List PV},iV m args=some (ps,m')→kn m m'∧ps.length=args.length∧∀(P:Program)(G:Nat→Option (List PV))(w0:bx)(μ:Ro)(φ:Nat→aA)(w:World)(X:Nat→Value),av P G w0 μ φ m w→(∀(i:Nat)u,args[i]?=some u→af P μ φ u (X i))→∃μ',(∀b o,μ b=some o→μ' b=some o)∧av P G w0 μ' φ m' w∧∀(i:Nat)p,ps[i]?=some p→ai P μ' p (X i)
 |[],m,m',ps,h=>by simp only[iV,cN,aab]at h;obtain⟨rfl,rfl⟩:=h;exact⟨.refl _,rfl,fun P G w0 μ φ w X hM _=>⟨μ,fun _ _ h=>h,hM,by simp⟩⟩
 |c::r,m,m',ps,h=>by
  simp only[iV]at h;split at h
  ·rename_i p m1 h1;split at h
   ·rename_i ps1 m2 h2;simp only[cN,aab]at h;obtain⟨rfl,rfl⟩:=h;obtain⟨a1,a2⟩:=Hx h1;obtain⟨b1,b2,b3⟩:=tz h2;refine⟨a1.trans b1,by simp[b2],fun P G w0 μ φ w X hM hx=>?_⟩;obtain⟨μ1,c1,c2,c3⟩:=a2 P G w0 μ φ w (X 0) hM (hx 0 c (by simp));obtain⟨μ2,d1,d2,d3⟩:=b3 P G w0 μ1 φ w (fun i=>X (i+1)) c2 (fun i u hu=>(hx (i+1) u (by simpa using hu)).za c1);refine⟨μ2,fun b o h=>d1 b o (c1 b o h),d2,fun i q hq=>?_⟩;cases i with
    |zero=>simp at hq;subst hq;exact c3.mono d1
    |succ i=>simp_all
   ·cases h
  ·cases h
theorem IK{m':Mem}{v:V}(h:uV cM v=some (p,m')):m'=cM:=by
 have key:∀{cs:List V}{m':Mem}{ps:List PV},mL cM cs=some (ps,m')→m'=cM:=by
  intro cs;induction cs with
  |nil=>simp[mL,cN,aab]
  |cons c r ih=>grind [mL,rF,Option.some.injEq,Prod.mk.injEq]
 unfold uV at h;grind [Option.some.injEq,Prod.mk.injEq,rF]
theorem pQ:∀{args:List V}{m':Mem}{ps:List PV},iV cM args=some (ps,m')→ps.length=args.length∧∀(P:Program)(μ:Ro)(φ:Nat→aA)(X:Nat→Value),(∀(i:Nat)u,args[i]?=some u→af P μ φ u (X i))→∀(i:Nat)p,ps[i]?=some p→ai P μ p (X i)
 |[],m',ps,h=>by simp only[iV,cN,aab]at h;simp_all
 |c::r,m',ps,h=>by
  simp only[iV]at h;split at h
  ·rename_i p m1 h1;have:=IK h1;subst this;split at h
   ·rename_i ps1 m2 h2;simp only[cN,aab]at h;obtain⟨rfl,rfl⟩:=h;obtain⟨b2,b3⟩:=pQ h2;refine⟨by simp[b2],fun P μ φ X hx i q hq=>?_⟩;cases i with
    |zero=>simp at hq;subst hq;exact CX h1 P μ φ _ (hx 0 c (by simp))
    |succ i=>exact b3 P μ φ (fun i=>X (i+1)) (fun i u hu=>hx (i+1) u (by simpa using hu)) i q (by simpa using hq)
   ·cases h
  ·cases h
variable{φ:Nat→aA}
theorem aH.move{P:Program}{μ μ':Ro}{φ':Nat→aA}{w:World}{i j sz:Nat}{et:TypeId}{es:List PV}(h:aH P μ φ w i sz et es)(hφ:φ' j=φ i)(hμ:∀b o,μ b=some o→μ' b=some o):aH P μ' φ' w j sz et es:=by
 unfold aH at*;rw[hφ];obtain⟨h1,h2,h3,h4,h5,h6,h7⟩:=h;refine⟨h1,h2,h3,h4,h5,h6,?_⟩;split at h7
 ·omega
 ·obtain⟨c,T,c1,c2,c3,c4,c5⟩:=h7;exact⟨c,T,c1,c2,c3,fun i e j p x he hp hx=>(c4 i e j p x he hp hx).mono hμ,c5⟩
theorem aH.T9{P:Program}{ν μ:Ro}{w:World}{i:Nat}{et:TypeId}{es:List PV}(h:aH P ν φ w i 1 et es):aH P μ φ w i 1 et (es.map G6):=by
 unfold aH at*;obtain⟨h1,h2,h3,h4,h5,h6,h7⟩:=h;have hc:∀p:PV,(G6 p).cells.length=1:=fun p=>by cases p<;>rfl
 refine⟨by simpa using h1,h2,h3,h4,fun j e he=>?_,h6,?_⟩
 ·grind
 ·split at h7
  ·simp_all
  ·obtain⟨c,T,c1,c2,c3,c4,c5⟩:=h7;refine⟨c,T,c1,c2,by simpa using c3,fun j e l p x he hp hx=>?_,fun j x hj hx=>c5 j x (by simpa using hj) hx⟩;simp only[IN,adr]at he;obtain⟨q,hq,rfl⟩:=he;have hl:l=0:=by grind
   subst hl;cases q<;>(simp only[G6,PV.cells,ajK,cN]at hp;subst hp);case int=>have:=c4 j _ 0 _ x hq rfl hx;cases this with|int h=>exact .int h
   case bool=>have:=c4 j _ 0 _ x hq rfl hx;cases this;exact .bool
   case str=>have:=c4 j _ 0 _ x hq rfl hx;cases this with|str h=>exact .str h
   all_goals exact .bad
mutual
theorem Ua:∀(s:FS)(p:PV)(a:List PV),Yu s p=some a→a.length=s.n∧∀r,Is s (a++r)=(p,r)
 |.raw,p,a,h=>by simp only[Yu,cN]at h;subst h;exact⟨rfl,fun r=>rfl⟩
 |.fn g cs,p,a,h=>by
  cases p<;>simp only[Yu]at h<;>try (cases h;done)
  split at h
  ·rename_i e;subst e;obtain⟨h1,h2⟩:=IL cs _ a h;exact⟨by simp[FS.n,h1],fun r=>by simp[Is,h2 r]⟩
  ·cases h
 |.ptr cs,p,a,h=>by
  cases p<;>simp only[Yu]at h<;>try (cases h;done)
  obtain⟨h1,h2⟩:=IL cs _ a h;exact⟨by simp[FS.n,h1],fun r=>by simp[Is,h2 r]⟩
theorem IL:∀(ss:List FS)(ps:List PV)(a:List PV),J7 ss ps=some a→a.length=nFs ss∧∀r,CE ss (a++r)=(ps,r)
 |[],ps,a,h=>by
  cases ps with
  |nil=>simp only[J7,cN]at h;subst h;exact⟨rfl,fun r=>rfl⟩
  |cons p ps=>simp[J7]at h
 |s::ss,ps,a,h=>by
  cases ps with
  |nil=>simp[J7]at h
  |cons p ps=>simp only[J7]at h;obtain⟨x,hx,h⟩:=cT.1 h;obtain⟨y,hy,h⟩:=cT.1 h;simp only[cN]at h;subst h;obtain⟨a1,a2⟩:=Ua s p x hx;obtain⟨b1,b2⟩:=IL ss ps y hy;refine⟨by simp[nFs,a1,b1],fun r=>?_⟩;simp only[CE,ajD,a2,b2]
end
theorem Pe{s:FS}{ls:List PV}(h:Yu s p=some ls):(Is s ((List.range s.n).map fun j=>ls.getD j .bad)).1=p:=by
 obtain⟨h1,h2⟩:=Ua s p ls h;have:((List.range s.n).map fun j=>ls.getD j .bad)=ls:=by apply ajw;grind
 rw[this];have:=h2 [];simp_all
theorem Rr{fid:FuncId}{k:V→Option R}{r:R}(h:BT E fid ts p k=some r):∃v,(∀(R':Type)(k':V→Option R'),BT E fid ts p k'=k' v)∧k v=some r∧(∀id,v.has id=false)∧(∀(P:Program)(μ:Ro)(φ:Nat→aA)x,ai P μ p x→af P μ φ v x)∧True:=by
 unfold BT at h;split at h
 ·rename_i s hs;obtain⟨ls,hl,hk⟩:=cT.1 h;refine⟨_,fun R' k'=>by simp_all[BT,ajn],hk,fun id=>rfl,fun P μ φ x hx=>.pv ?_,trivial⟩;rw[Pe hl];omega
 ·rename_i hs;obtain⟨v,v1,v2,v3,v4,_⟩:=Kz h;exact⟨v,fun R' k'=>by simp_all[BT],v2,v3,v4,trivial⟩
theorem Ub(hE:ke E){draw:Bool}{site:Nat}{g:FuncId}{args:List V}{f:Fr}{m:Mem}{k:V→Fr→Mem→bq→Option R}{r:R}(h:vQ E draw site g args f m k=some r):(∃v f' m' ft,k v f' m' ft=some r∧(draw=true→f'=f∧∃wr:Option (Nat×bH),m'=adN m wr∧(∀id b,wr=some (id,b)→(true,id)∈ft)∧∀(f2:Fr)(m2:Mem),(∀x∈ft,m2 x.2=m x.2)→∀(R':Type)(k':V→Fr→Mem→bq→Option R'),vQ E true site g args f2 m2 k'=k' v f2 (adN m2 wr) ft)∧((∀x∈ft,x.1=false)→f'=f∧m'=m)∧adO E g args f m v f' m')∨(draw=false∧IJ E.P E.aG g args f m (fun v f m=>k v f m [(true,0)]) r):=by
 have hX:∀(P:Program)(μ:Ro)(φ:Nat→aA)(xs:Array Value),args.length=xs.size→(∀(i:Nat)v x,args[i]?=some v→xs[i]?=some x→af P μ φ v x)→∀(i:Nat)u,args[i]?=some u→xs[i]?=some (xs.getD i undef)∧af P μ φ u (xs.getD i undef):=by
  intro P μ φ xs hl hr i u hu;have bT:i<xs.size:=by grind
  have:xs[i]?=some (xs.getD i undef):=by simp_all
  grind
 unfold vQ at h;split at h
 ·rename_i M Rt;obtain⟨Tl,hM⟩:=hE.ctx g M Rt;split at h
  ·rename_i fn hg;split at h
   ·rename_i Yk;split at h
    ·rename_i ps pM;obtain⟨p,hp,h⟩:=cT.1 h;obtain⟨v,v1,v2,v3,v4,v5⟩:=Kz h;refine .inl ⟨v,f,m,_,v2,fun hd=>⟨rfl,none,rfl,by simp,fun f2 m2 cK R' k'=>?_⟩,fun _=>⟨rfl,rfl⟩,Tl,fun w0 μ φ ρ w xs hR hF hl hr IB=>?_⟩
     ·have My:qF (lx m2 eB) args=qF (lx m eB) args:=mq fun v hv=>qV _ fun id hid=>cK (false,id) (by simp only[ajy];exact⟨id,ef.2 ⟨v,hv,hid⟩,rfl⟩);have pB:((iU (cE m2 eB) args).map fun i=>(false,i))=((iU (cE m eB) args).map fun i=>(false,i)):=by have:iU (cE m2 eB) args=iU (cE m eB) args:=jb fun v hv=>mO _ fun id hid=>cK (false,id) (by simp only[ajy];exact⟨id,ef.2 ⟨v,hv,hid⟩,rfl⟩);rw[this]
      simp only[vQ,Rt,hg];rw[GW Yk];simp only[My,pM,hp,ajn,pB];rw[v1];rfl
     ·obtain⟨p1,p2⟩:=gP pM;refine(hM ps p hp w (kg w) xs (fun _ _ h=>h) (fun g cs hg=>(hR.aG g cs hg).mono hR.yw) (by omega) (fun i q x hq hx=>?_)).mono ?_
      ·obtain⟨u,hu,hf⟩:=p2 i q hq;exact uo hR hR.yw (fun _ _ _ _ _=>rfl) _ hf (hr i u x hu hx)
      ·rintro e w' ⟨y,rfl,hb,hy⟩;exact⟨y,ck μ w w',φ,rfl,hR.called hb,hF.nh (kL hR w') (.refl _),v5 Yk E.P _ _ φ y hy,fun id hid=>by simp_all⟩
    ·cases h
   ·rename_i Yk;split at h
    ·rename_i ps m1 pM;obtain⟨p,hp,h⟩:=cT.1 h;obtain⟨v,v1,v2,v3,v4,v5⟩:=Rr h;cases draw with
     |true=>
      simp only[IS]at pM v2;obtain⟨q1,q2⟩:=pQ pM;refine .inl ⟨v,f,m,_,v2,fun _=>⟨rfl,none,rfl,by simp,fun f2 m2 cK R' k'=>?_⟩,fun _=>⟨rfl,rfl⟩,Tl,fun w0 μ φ ρ w xs hR hF hl hr IB=>?_⟩
      ·simp only[vQ,Rt,hg];rw[No Yk];simp only[IS,pM,hp,ajn];rw[v1];rfl
      ·refine(hM ps p hp w μ xs hR.ro hR.aG (by omega) (fun i q x hq hx=>?_)).mono ?_
       ·have:=q2 E.P μ φ (fun i=>xs.getD i undef) (fun i u hu=>(hX E.P μ φ xs hl hr i u hu).2) i q hq;simp_all
       ·rintro e w' ⟨y,rfl,hb,hy⟩;exact⟨y,ck μ w w',φ,rfl,hR.called hb,hF.nh (kL hR w') (.refl _),v4 E.P _ φ y hy,fun id hid=>by simp_all⟩
     |false=>
      simp only[cQ,S3]at pM v2;obtain⟨q0,q1,q2⟩:=tz pM;refine .inl ⟨v,f,m1,_,v2,fun hd=>by(cases hd),fun hq=>absurd (hq (true,0) (by simp)) (by simp),Tl,fun w0 μ φ ρ w xs hR hF hl hr IB=>?_⟩;obtain⟨μ1,r1,r2,r3⟩:=q2 E.P E.aG w0 μ φ w (fun i=>xs.getD i undef) hR (fun i u hu=>(hX E.P μ φ xs hl hr i u hu).2);refine(hM ps p hp w μ1 xs r2.ro r2.aG (by omega) (fun i q x hq hx=>?_)).mono ?_
      ·have:=r3 i q hq;have bT:i<xs.size:=(abi.1 hx).1;simp_all[undef,IT,cN,Array.getD]
      ·rintro e w' ⟨y,rfl,hb,hy⟩;exact⟨y,ck μ1 w w',φ,rfl,r2.called hb,hF.nh (fun b o h=>kL r2 w' b o (r1 b o h)) q0,v4 E.P _ φ y hy,fun id hid=>by grind⟩
    ·cases h
  ·cases h
 ·rename_i Rt;split at h
  ·rename_i M B2;obtain⟨Tl,hM⟩:=hE.own g M B2;split at h
   ·rename_i fn hg;split at h
    ·rename_i t ht;split at h
     ·rename_i e hu;split at h
      ·rename_i Yk;obtain⟨Yk,uv⟩:=Yk;split at h
       ·rename_i ps pM;obtain⟨p,hp,h⟩:=cT.1 h;obtain⟨es,JU,h⟩:=cT.1 h;obtain⟨f',m',n1,n2,n3,n4,n5⟩:=dZ h;refine .inl ⟨_,f',m',_,n2,fun hd=>?_,fun hq=>absurd (hq (true,site) (by simp)) (by simp),Tl,fun w0 μ φ ρ w xs hR hF hl hr IB=>?_⟩
        ·obtain⟨d1,d2,d3⟩:=n4 hd;subst hd;refine⟨d2,some (site,_),d3,by simp,fun f2 m2 cK R' k'=>?_⟩;have My:qF (lx m2 eB) args=qF (lx m eB) args:=mq fun v hv=>qV _ fun id hid=>cK (false,id) (by simp only[ajA,ajy];exact .inr ⟨id,ef.2 ⟨v,hv,hid⟩,rfl⟩);have pB:iU (cE m2 eB) args=iU (cE m eB) args:=jb fun v hv=>mO _ fun id hid=>cK (false,id) (by simp only[ajA,ajy];exact .inr ⟨id,ef.2 ⟨v,hv,hid⟩,rfl⟩);simp only[vQ,Rt,B2,hg,ht,hu];rw[GW ⟨Yk,uv⟩];simp only[My,pM,hp,ajn,JU,pB];have hs2:m2 site=none:=by rw[cK (true,site) (by simp)];omega
         simp only[fresh,hs2];rfl
        ·obtain⟨p1,p2⟩:=gP pM;refine(hM fn t e hg ht hu ps p hp w (kg w) xs (fun _ _ h=>h) (fun g cs hg=>(hR.aG g cs hg).mono hR.yw) (by omega) (fun i q x hq hx=>?_)).mono ?_
         ·obtain⟨u,rB,hf⟩:=p2 i q hq;exact uo hR hR.yw (fun _ _ _ _ _=>rfl) _ hf (hr i u x rB hx)
         rintro en w' ⟨y,ph,es',rfl,hb,rfl,GA,hA,hy⟩;have aby:es'=es:=by simp only[aw,IS,cN]at JU;omega
         subst aby;rw[uv]at hA;have hA2:aH E.P (nc (ck μ w w') ph.g) (fun _=>ph) w' 0 1 e (es'.map G6):=hA.T9;have Hy:=hR.Hq hb GA;have YR:bS E.P (nc (ck μ w w') ph.g) φ m f ρ:=hF.nh (fun b o h=>zI hR w' GA b o h) (.refl _);have hP:lz E.P w0 (nc (ck μ w w') ph.g) φ m w' w' site (.arr (aO E.P e) e (es'.map G6)) ph:=by
          refine⟨lD.refl _ _,Hy.ro,fun _ _ _ _ _=>rfl,fun g hg=>⟨?_,?_,?_⟩,fun φ' hp _=>by rw[uv];exact hA2.move hp (fun _ _ h=>h),by simp[bH.names],fun st h=>by cases h⟩
          ·have:=GA g hg;have:=hR.below.size;grind
          ·simp[nc,hg]
          ·intro id b' jG cP;have h1:=(hR.dx id b' jG).Ev cP;grind
         obtain⟨φ',a1,a2,a3⟩:=n5 E.P E.aG w0 _ φ w' w' ρ ph Hy YR hP;refine⟨y,_,φ',rfl,a2,a3,?_,fun id hid=>?_⟩
         ·cases hy with
          |sK h=>exact .sK (by rw[a1];omega)
          | @os _ g h=>have:=af.os (P:=E.P) (μ:=nc (ck μ w w') ph.g) (φ:=φ') (id:=site) (g:=g) (by rw[a1];omega);grind
         ·have hid:=AI hid;subst hid;simp[n3]
       ·cases h
      rename_i Yk;split at h
      ·rename_i ps m1 pM;obtain⟨p,hp,h⟩:=cT.1 h;obtain⟨es,JU,h⟩:=cT.1 h;obtain⟨f',m',n1,n2,n3,n4,n5⟩:=dZ h;have fin:∀(w0:bx)(μ μ1:Ro)(φ:Nat→aA)(ρ:Nat→Value)(w:World)(xs:Array Value),(∀b o,μ b=some o→μ1 b=some o)→kn m (if draw then m else m1)→av E.P E.aG w0 μ1 φ (if draw then m else m1) w→bS E.P μ φ m f ρ→ps.length=xs.size→(∀(i:Nat)p x,ps[i]?=some p→xs[i]?=some x→ai E.P μ1 p x)→Calls E.P g xs w fun e w'=>∃y μ' φ',e=.returned y∧av E.P E.aG w0 μ' φ' m' w'∧bS E.P μ' φ' m' f' ρ∧af E.P μ' φ' (.os site) y∧∀id,(V.os site).has id=true→(m' id).isSome=true:=by
        intro w0 μ μ1 φ ρ w xs hle IB hR hF hl hr;refine(hM fn t e hg ht hu ps p hp w μ1 xs hR.ro hR.aG hl hr).mono ?_;rintro en w' ⟨y,ph,es',rfl,hb,rfl,GA,hA,hy⟩;have aby:es'=es:=by simp only[aw,IS,cN]at JU;omega
        subst aby;have Hy:=hR.Hq hb GA;have YR:bS E.P (nc (ck μ1 w w') ph.g) φ (if draw then m else m1) f ρ:=hF.nh (fun b o h=>zI hR w' GA b o (hle b o h)) IB;have hP:lz E.P w0 (nc (ck μ1 w w') ph.g) φ (if draw then m else m1) w' w' site (.arr (aO E.P e) e es') ph:=by
         refine⟨lD.refl _ _,Hy.ro,fun _ _ _ _ _=>rfl,fun g hg=>⟨?_,?_,?_⟩,fun φ' hp _=>hA.move hp (fun _ _ h=>h),by simp[bH.names],fun st h=>by cases h⟩
         ·have:=GA g hg;have:=hR.below.size;grind
         ·simp[nc,hg]
         ·intro id b' jG cP;have h1:=(hR.dx id b' jG).Ev cP;grind
        obtain⟨φ',a1,a2,a3⟩:=n5 E.P E.aG w0 _ φ w' w' ρ ph Hy YR hP;refine⟨y,_,φ',rfl,a2,a3,?_,fun id hid=>?_⟩
        ·cases hy with
         |sK h=>exact .sK (by rw[a1];omega)
         | @os _ g h=>have:=af.os (P:=E.P) (μ:=nc (ck μ1 w w') ph.g) (φ:=φ') (id:=site) (g:=g) (by rw[a1];omega);grind
        ·have hid:=AI hid;subst hid;simp[n3]
       cases draw with
       |true=>
        simp only[IS]at pM n2 fin n4;obtain⟨q1,q2⟩:=pQ pM;obtain⟨d1,d2,d3⟩:=n4 trivial;refine .inl ⟨_,f',m',_,n2,fun _=>⟨d2,some (site,_),d3,by simp,fun f2 m2 cK R' k'=>?_⟩,fun hq=>absurd (hq (true,site) (by simp)) (by simp),Tl,fun w0 μ φ ρ w xs hR hF hl hr IB=>?_⟩
        ·simp only[vQ,Rt,B2,hg,ht,hu];rw[No Yk];simp only[IS,pM,hp,ajn,JU];have hs2:m2 site=none:=by rw[cK (true,site) (by simp)];omega
         simp only[fresh,hs2];rfl
        ·refine fin w0 μ μ φ ρ w xs (fun _ _ h=>h) (.refl _) hR hF (by omega) fun i q x hq hx=>?_;have:=q2 E.P μ φ (fun i=>xs.getD i undef) (fun i u hu=>(hX E.P μ φ xs hl hr i u hu).2) i q hq;have bT:i<xs.size:=(abi.1 hx).1;have e:xs.getD i undef=x:=by rw[IT bT]at hx;simp only[cN]at hx;simp[Array.getD,bT,hx]
         rw[←e];omega
       |false=>
        simp only[cQ,S3]at pM n2 fin n4;obtain⟨q0,q1,q2⟩:=tz pM;refine .inl ⟨_,f',m',_,n2,fun hd=>by(cases hd),fun hq=>absurd (hq (true,site) (by simp)) (by simp),Tl,fun w0 μ φ ρ w xs hR hF hl hr IB=>?_⟩;obtain⟨μ1,r1,r2,r3⟩:=q2 E.P E.aG w0 μ φ w (fun i=>xs.getD i undef) hR (fun i u hu=>(hX E.P μ φ xs hl hr i u hu).2);refine fin w0 μ μ1 φ ρ w xs r1 q0 r2 hF (by omega) fun i q x hq hx=>?_;have:=r3 i q hq;have bT:i<xs.size:=(abi.1 hx).1;have e:xs.getD i undef=x:=by rw[IT bT]at hx;simp only[cN]at hx;simp[Array.getD,bT,hx]
        rw[←e];omega
      ·cases h
     ·cases h
    ·cases h
   ·cases h
  ·split at h
   ·cases h
   ·rename_i hd;exact .inr ⟨by simpa using hd,hE.inl _ _ _ _ _ _ _ _ h⟩
end
end Go.Ab
