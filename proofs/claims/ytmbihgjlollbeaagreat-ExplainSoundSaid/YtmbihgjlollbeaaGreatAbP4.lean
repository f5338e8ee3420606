import Derived.Test.YtmbihgjlollbeaaGreatAbP3
import Derived.WideKeyRuns
import Derived.MapKept
import Derived.RangeFuncRecord
set_option linter.all false
namespace Go.Ab
open Go.RowKit (Below)
section
variable {R:Type} {E:Env}
theorem cells_one{x:Value}(h:x.oneCell'=true):x.cells= #[x]:=by cases x<;>first|rfl|(simp[Value.oneCell']at h)
theorem ah.elem{P:Program}{μ:Ro}{n:Nat}{p:PV}{x:Value}(h:ah P μ p x)(hl:p.cells.length=n)(hp:p.plain=true):tT P μ n p x:=by
 cases hq:p.isAgg with
 |true=>
  cases p<;>simp[PV.isAgg]at hq;cases h with
  |agg h1 h2 h3=>exact⟨hl,by simp_all[PV.cells,Value.cells],h2,h3⟩
 |false=>
  have hc:p.cells=[p]:=by cases p<;>first|rfl|(simp[PV.isAgg]at hq)
  have h1:x.oneCell'=true:=h.one (fun cs e=>by subst e;simp[PV.isAgg]at hq) (fun cs e=>by subst e;simp[PV.plain]at hp) (fun e=>by subst e;simp[PV.plain]at hp);have hx:=cells_one h1;refine⟨hl,by simp_all,fun j q y hj hy=>?_,fun j y hy=>?_⟩
  ·grind
  grind
variable{t:TypeId}
theorem Cp{z:PV}(h:Cg E t=some z):∃i zv,E.P.info? t=some i∧i.zero=some zv∧i.size=aN E.P t∧(∀μ,ah E.P μ z zv)∧∀μ,tT E.P μ (aN E.P t) z zv:=by
 unfold Cg zeroV at h;cases hi:E.P.info? t with
 |none=>simp[hi]at h
 |some i=>
  cases hz:i.zero with
  |none=>simp[hi,hz]at h
  |some zv=>
   simp only[hi,hz,akj,akb]at h;split at h
   ·rename_i p hp;split at h
    ·rename_i hc;simp only[cO]at h;subst h;have hr:∀μ,ah E.P μ p zv:=fun μ=>uP 2 hp (uM (φ:=fun _=>default) zv);exact⟨i,zv,rfl,hz,by simp[aN,hi],hr,fun μ=>(hr μ).elem hc.2.1 hc.2.2⟩
    ·cases h
   ·cases h
theorem NF{z:PV}(h:Cg E t=some z):∃zv,(∀w,(zeroValue t).run E.P w=.ok zv w)∧∀μ,ah E.P μ z zv:=by obtain⟨i,zv,h1,h2,h3,h4,_⟩:=Cp h;simp_all[pB]
theorem Cells.made{P:Program}{μ:Ro}{sz:Nat}{z:PV}{zv:Value}(hE:tT P μ sz z zv)(fl:0<sz)(n cap:Nat)(hn:n≤cap):Cells P μ sz (List.replicate n z) ((madeCells zv.cells (cap*sz)).toList.take ((List.replicate n z).length*sz)):=by
 have hle:n*sz≤cap*sz:=ahw _ hn;have fe:∀k y,((madeCells zv.cells (cap*sz)).toList.take ((List.replicate n z).length*sz))[k]?=some y→zv.cells[k%sz]?=some y:=by
  intro k y hk;obtain⟨h1,h2⟩:=iD hk;simp only[akW]at h1;have bZ:k%sz<zv.cells.size:=by rw[hE.size];exact amZ _ fl
  rw[akL,madeCells,Array.getElem?_map,Array.getElem?_range]at h2;rw[AI (by omega)]at h2;simp only[akb,cO,hE.size]at h2;simp_all
 refine⟨by rw[akI,akW,amo,size_madeCells];omega,fun i e hi=>?_,fun i e j p y hi hj hy=>?_,fun k y hk=>hE.one _ y (fe k y hk)⟩
 ·rw[amI]at hi;split at hi
  ·simp only[cO]at hi;subst hi;exact hE.len
  ·cases hi
 ·rw[amI]at hi;split at hi
  ·simp only[cO]at hi;subst hi;have Am:j<sz:=by rw[←hE.len];grind
   have:=fe _ y hy;rw[amf,Nat.mul_add_mod,alL Am]at this;exact hE.rep j p y hj this
  ·cases hi
theorem G9{draw:Bool}{site:Nat}{len cap:V}{f:Fr}{m:Mem}{k:V→Fr→Mem→bq→Option R}{r:R}(h:rV E draw site t len cap f m k=some r):∃f' m' b,(draw=true→m site=none∧f'=f∧m'=ao m site b∧∀(f2:Fr)(m2:Mem),m2 site=none→∀(R':Type)(k':V→Fr→Mem→bq→Option R'),rV E true site t len cap f2 m2 k'=k' (.os site) f2 (ao m2 site b) [(true,site)])∧k (.os site) f' m' [(true,site)]=some r∧(m' site).isSome=true∧∀(G:Nat→Option (List PV))(w0:bA)(μ:Ro)(φ:Nat→aA)(w:World)(ρ:Nat→Value)(yl yc:Value),av E.P G w0 μ φ m w→bR E.P μ φ m f ρ→af E.P μ φ len yl→af E.P μ φ cap yc→∃w' y φ',(Instr.makeSlice t yl yc).run E.P w=.ok y w'∧av E.P G w0 μ φ' m' w'∧bR E.P μ φ' m' f' ρ∧af E.P μ φ' (.os site) y:=by
 unfold rV at h;split at h
 ·rename_i e ql n qc c hu;split at h
  ·rename_i z hz;split at h
   ·rename_i hb;obtain⟨f',m',_,hk,xm,zN,wF⟩:=ef h;refine⟨f',m',.arr (aN E.P e) e (List.replicate n.toNat z),fun hd=>?_,hk,by simp[xm],fun G w0 μ φ w ρ yl yc hM hF hl hc=>?_⟩
    ·simp_all[rV,AI,fresh]
    ·obtain⟨i,zv,h1,h2,h3,_,h4⟩:=Cp hz;obtain⟨hib,_⟩:=HR h1;have hc1:c.toNat≤140737488355328:=by have:c.toNat*1≤c.toNat*GZ E.P e:=alr _ hb.2.2.2.1;grind [ae]
     cases hl with
     |pv hl=>cases hl with
      |int wl=>
       cases hc with
       |pv hc=>cases hc with
        |int wc=>
         have acS:(i.bytes:Int)*c≤281474976710656:=by grind [ae,GZ,Int.natCast_mul,Int.toNat_of_nonneg,Int.mul_comm]
         have hr:=run_make (P:=E.P) w t e i zv hu h1 h2 ql qc n c hb.1 hb.2.1 acS (by omega);rw[h3]at hr;obtain⟨φ',a1,a2,a3⟩:=wF E.P G w0 μ φ w _ ρ (DQ (some w.heap.size) c.toNat (List.replicate n.toNat z).length (aN E.P e)) hM hF (lH.alloc (o:=.cells (madeCells zv.cells (c.toNat*aN E.P e)) e) hM rfl (fun φ' hp _=>aH.pO (g:=w.heap.size) (by rw[hp]) rfl hb.2.2.2.2 (by rw[hp];simp only[maxLen];omega) (fM w _) (by rw[hp];simp[size_madeCells]) (by rw[hp];simp;omega) (Cells.made (h4 μ) hb.2.2.2.2 _ _ (by omega))) (by simp[bH.names]));refine⟨_,_,φ',hr,a2,a3,?_⟩;have:=af.os (P:=E.P) (μ:=μ) (φ:=φ') (id:=site) (g:=w.heap.size) (by rw[a1]);simp_all
   ·cases h
  ·cases h
 ·cases h
theorem NG(cells:Array Value)(n:Nat):Builtin.zeroCells cells n=madeCells cells (n*cells.size):=rfl
theorem Su{x:V}{m:Mem}{k:V→Mem→bq→Option R}{r:R}(h:EC E t x m k=some r):∃id b,(∀m2:Mem,m2 id=m id→∀(R':Type)(k':V→Mem→bq→Option R'),EC E t x m2 k'=k' .top (ao m2 id b) [(true,id)])∧k .top (ao m id b) [(true,id)]=some r∧∀(G:Nat→Option (List PV))(w0:bA)(μ:Ro)(φ:Nat→aA)(w:World)(ρ:Nat→Value)(f:Fr)(yx:Value)(ts:List TypeId)(ty:TypeId),av E.P G w0 μ φ m w→bR E.P μ φ m f ρ→af E.P μ φ x yx→∃w',(Builtin.clear_ (t::ts).toArray ty #[yx]).run E.P w=.ok (.tuple #[]) w'∧av E.P G w0 μ φ (ao m id b) w'∧bR E.P μ φ (ao m id b) f ρ:=by
 unfold EC at h;split at h
 ·rename_i e hu;split at h
  ·rename_i id lo len z hz;split at h
   ·rename_i sz et es hm;split at h
    ·rename_i hc;obtain⟨oP,rfl,hle,fl⟩:=hc;refine⟨id,_,fun m2 cL R' k'=>?_,h,fun G w0 μ φ w ρ f yx ts ty hM hF hx=>?_⟩
     ·simp_all[EC,AI,trivial]
     ·obtain⟨i,zv,h1,h2,h3,h4,h5⟩:=Cp hz;have hA:aH E.P μ φ w id sz et es:=hM.dy id _ hm;have aeU:len=0→ao m id (.arr sz et (es.take lo++(List.replicate len z++es.drop (lo+len))))=m:=by
       intro h0;subst h0;rw[List.replicate_zero,alz,alp,List.take_append_drop];funext j;by_cases ej:j=id
       ·subst ej;simp[hm]
       ·rw[aq ej]
      cases hx with
      |rY hg=>rw[aeU rfl];simp_all[Builtin.clear_,run_underlying]
      | @fR _ _ _ cap g a hg hl ha hc1 Us=>
       by_cases h0:len=0
       ·simp_all[Builtin.clear_,run_underlying]
       ·have qW:=hA.pN;have Nc:=hA.1;have ajV:=hA.2.1;have aeV:a=⟨g,lo*sz,none⟩:=by grind
        subst aeV;obtain⟨c,T,c1,c2,c3,c4,c5⟩:=hA.cells hg;have P7:zv.cells.size=sz:=by rw[(h5 μ).size,oP]
        have hn:len*zv.cells.size=len*sz:=by rw[P7]
        have hlen:(madeCells zv.cells (len*sz)).toList.length=len*sz:=by simp[size_madeCells]
        have U4:(lo+len)*sz≤es.length*sz:=ahw _ hle;have uQ:(lo+len)*sz=lo*sz+len*sz:=akR _ _ _;have vF:=Cells.made (P:=E.P) (μ:=μ) (by rw[←oP]at h5;exact h5 μ) (by omega) len len (akk _);have uO:∀v∈(madeCells zv.cells (len*sz)).toList,v.oneCell'=true:=fun v hv=>by obtain⟨j,hj⟩:=aky hv;refine vF.one j v ?_;grind
        have vp:=run_storeCells_at E.P g (lo*sz) T (madeCells zv.cells (len*sz)).toList 0 c w c1 (by omega) uO;rw[hlen,alp]at vp;have hnl:(es.take lo++(List.replicate len z++es.drop (lo+len))).length=es.length:=by simp;omega
        refine⟨w.setRow g (c.toList.take (lo*sz)++(madeCells zv.cells (len*sz)).toList++c.toList.drop (lo*sz+len*sz)).toArray,?_,hM.write hm rfl hg (lM.setRow (akk _)) setRow_size (fun k hk=>bT hk) ?_ rfl (by simp[bH.names]),hF.nA (fun _ _ h=>h) .set⟩
        ·obtain⟨n',rfl⟩:∃n',len=n'+1:=⟨len-1,by omega⟩;simp_all[Builtin.clear_,run_underlying,pB,NG]
        ·refine aH.pO (g:=g) ?_ hA.2.2.1 hA.2.2.2.1 qW.2 (setRow_heap w g c _ T (0,0) c1) ?_ (by omega) ?_
         ·rw[hnl,←hA.1,←hA.2.1];cases hq:(φ id).toC6 with
          |mk a b c d=>simp_all
         ·grind
         ·rw[hnl];have hM2:Cells E.P μ sz (List.replicate len z) (madeCells zv.cells (len*sz)).toList:=by grind
          have hX:=(c5.take lo).append (hM2.append (c5.drop (lo+len)));have e1:(c.toList.take (lo*sz)++(madeCells zv.cells (len*sz)).toList++c.toList.drop (lo*sz+len*sz)).take (es.length*sz)=(c.toList.take (es.length*sz)).take (lo*sz)++((madeCells zv.cells (len*sz)).toList++(c.toList.take (es.length*sz)).drop ((lo+len)*sz)):=by
           have l1:(c.toList.take (lo*sz)).length=lo*sz:=by grind
           have l2:(c.toList.take (lo*sz)++(madeCells zv.cells (len*sz)).toList).length=lo*sz+len*sz:=by simp_all
           grind [List.take_append,List.take_of_length_le,Nat.min_eq_left,List.drop_take,List.append_assoc]
          rw[e1];omega
    ·cases h
   ·cases h
  ·cases h
 ·cases h
theorem Dc(off:Nat):∀(l:List Value)(k:Nat)(c:Array Value),off+k+l.length≤c.size→(l.zipIdx k).foldl (fun cs(x:Value×Nat)=>cs.setIfInBounds (off+x.2) x.1) c=(bI c.toList (off+k) l).toArray
 |[],k,c,_=>by simp[dU]
 |v::r,k,c,h=>by simp only[List.zipIdx_cons,amn];rw[Dc off r (k+1) _ (by simp at h⊢;omega)];congr 1;have e:=list_seg_step c.toList (off+k) v r (by omega);simp_all[dU,ams,akO]
theorem y8{place:Nat→Option (Nat×Nat)}{c:Array Value}{i off size:Nat}{v:Value}{rest:List (Nat×Value)}(hp:place i=some (off,size))(hv:v.cells.size=size)(hb:off+size≤c.size):Instr.fill place c ((i,v)::rest)=Instr.fill place (bI c.toList off v.cells.toList).toArray rest:=by
 have h1:v.cells.zipIdx.foldl (fun cs(x:Value×Nat)=>cs.setIfInBounds (off+x.2) x.1) c=(bI c.toList off v.cells.toList).toArray:=by rw[←Array.foldl_toList,Array.toList_zipIdx];simp_all[Dc]
 simp_all[Instr.fill,IS]
theorem E4{place:Nat→Option (Nat×Nat)}:∀{parts:List (Nat×V)}{cs Nz:List V},Ht place cs parts=some Nz→(∀id,b8 id Nz=true→b8 id cs=true∨b8 id (parts.map (·.2))=true)∧Nz.length=cs.length∧∀(P:Program)(μ:Ro)(φ:Nat→aA)(c:Array Value)(db:List (Nat×Value)),db.length=parts.length→(∀(j i:Nat)v,parts[j]?=some (i,v)→∃y,db[j]?=some (i,y)∧af P μ φ v y)→c.size=cs.length→(∀(i:Nat)u y,cs[i]?=some u→c[i]?=some y→af P μ φ u y)→(∀(i:Nat)(y:Value),c[i]?=some y→y.oneCell'=true)→∃c',Instr.fill place c db=some c'∧c'.size=Nz.length∧(∀(i:Nat)u y,Nz[i]?=some u→c'[i]?=some y→af P μ φ u y)∧(∀(i:Nat)(y:Value),c'[i]?=some y→y.oneCell'=true)
 |[],cs,Nz,h=>by simp only[Ht,cO]at h;subst h;refine⟨fun id hid=>.inl hid,rfl,fun P μ φ c db hl _ hs hr h1=>?_⟩;have:db=[]:=akg (by simpa using hl);subst this;exact⟨c,rfl,hs,hr,h1⟩
 |(i,v)::rest,cs,Nz,h=>by
  simp only[Ht]at h;split at h
  ·rename_i off size hp;split at h
   ·rename_i new hn;split at h
    ·rename_i hb;obtain⟨n1,n2,n3⟩:=toCells_ok hn;obtain⟨f1,f2,f3⟩:=E4 h;have hlen:(bI cs off new).length=cs.length:=cn (by omega);refine⟨fun id hid=>?_,by rw[f2,hlen],fun P μ φ c db hl oF hs hr h1=>?_⟩
     ·rcases f1 id hid with h|h
      ·obtain⟨u,hu,hh⟩:=cz.1 h;simp only[dU,aku]at hu;rcases hu with(hu|hu)|hu
       ·exact .inl (bJ (ale hu) hh)
       ·exact .inr (by simp only[akn,b8,akp];exact .inl (n2 id (bJ hu hh)))
       ·exact .inl (bJ (alm hu) hh)
      ·exact .inr (by simp only[akn,b8,akp];exact .inr h)
     ·obtain⟨y,hy,ZU⟩:=oF 0 i v (by simp);cases db with
      |nil=>simp at hl
      |cons a nr=>
       simp at hy;subst hy;obtain⟨x1,x2,x3⟩:=n3 P μ φ y ZU;rw[y8 hp x1 (by omega)];have mH:off+y.cells.toList.length≤c.toList.length:=by simp;omega
       have e1:y.cells.toList.length=new.length:=by simp;omega
       refine f3 P μ φ _ nr (by simpa using hl) (fun j i' v' hj=>?_) ?_ (fun j u z hu hz=>?_) (fun j z hz=>?_)
       ·have:=oF (j+1) i' v' (by simpa using hj);simpa using this
       ·simp only[ak7];rw[cn mH,hlen];simp[hs]
       ·rw[akH]at hz;rcases da mH hz with⟨b1,b2,b3⟩|⟨b1,b2⟩<;>rcases da (by omega) hu with⟨d1,d2,d3⟩|⟨d1,d2⟩
        ·exact x2 _ u z d3 (by simpa using b3)
        ·exfalso;omega
        ·exfalso;omega
        ·exact hr j u z d2 (by simpa using b2)
       ·rw[akH]at hz;rcases da mH hz with⟨b1,b2,b3⟩|⟨b1,b2⟩
        ·exact x3 _ z (by simpa using b3)
        ·exact h1 j z (by simpa using b2)
    ·cases h
   ·cases h
  ·cases h
theorem E5:∀{fs:List Field},fs.all (fun f=>(E.P.info? f.type).isSome)=true→fs.mapM (fun f=>(E.P.info? f.type).map fun i=>(f.offset,i.size))=some (fs.map fun f=>(f.offset,aN E.P f.type))
 |[],_=>rfl
 |f::r,h=>by simp only[amK,No]at h;obtain⟨i,hi⟩:=akq.1 h.1;simp only[amB,hi,akb,E5 h.2,akn];simp[aN,hi]
theorem Sv{parts:List (Nat×V)}{k:V→Option R}{r:R}(h:Cf E t parts k=some r):∃v,(∀(R':Type)(k':V→Option R'),Cf E t parts k'=k' v)∧k v=some r∧(∀id,v.has id=true→b8 id (parts.map (·.2))=true)∧∀(μ:Ro)(φ:Nat→aA)(w:World)(db:Array (Nat×Value)),db.size=parts.length→(∀(j i:Nat)v,parts[j]?=some (i,v)→∃y,db[j]?=some (i,y)∧af E.P μ φ v y)→∃z,(Instr.build t db).run E.P w=.ok z w∧af E.P μ φ v z:=by
 unfold Cf at h;split at h
 ·rename_i z fs hz hu;split at h
  ·rename_i zu;split at h
   ·rename_i cs hf;obtain⟨i,zv,h1,h2,h3,h4,h5,h6,h7,h8⟩:=eu hz;obtain⟨f1,f2,f3⟩:=E4 hf;refine⟨_,fun R' k'=>by simp_all[Cf,AI],h,fun id hid=>?_,fun μ φ w db hl hp=>?_⟩
    ·grind [V.has,id]
    ·obtain⟨c',c1,c2,c3,c4⟩:=f3 E.P μ φ zv.cells db.toList (by omega) (fun j i v hj=>by simpa using hp j i v hj) (by omega) (h7 μ φ) h8;refine⟨_,run_build w t db c' ?_,.agg c2.symm c3 c4⟩;simp only[Program.built,h1,hu,h2,E5 zu];rw[←c1];congr 1;funext j;simp[placesOf]
   ·cases h
  ·cases h
 ·rename_i z n e hz hu;split at h
  ·rename_i fl;split at h
   ·rename_i cs hf;obtain⟨i,zv,h1,h2,h3,h4,h5,h6,h7,h8⟩:=eu hz;obtain⟨f1,f2,f3⟩:=E4 hf;refine⟨_,fun R' k'=>by simp_all[Cf,AI],h,fun id hid=>?_,fun μ φ w db hl hp=>?_⟩
    ·grind [V.has,id]
    ·obtain⟨c',c1,c2,c3,c4⟩:=f3 E.P μ φ zv.cells db.toList (by omega) (fun j i v hj=>by simpa using hp j i v hj) (by omega) (h7 μ φ) h8;obtain⟨ie,hie,hse⟩:=yV (P:=E.P) (t:=e) (by omega);refine⟨_,run_build w t db c' ?_,.agg c2.symm c3 c4⟩;simp only[Program.built,h1,hu,h2,hie,hse];omega
   ·cases h
  ·cases h
 ·cases h
theorem tV{n:Nat}{agg:Bool}:∀{parts:List (Nat×V)}{m m':Mem}{i:Nat}{ps:List PV},fb m n agg i parts=some (ps,m')→ky m m'∧ps.length=parts.length∧∀(P:Program)(G:Nat→Option (List PV))(w0:bA)(μ:Ro)(φ:Nat→aA)(w:World)(db:List (Nat×Value))(es:List PV)(c:Array Value),av P G w0 μ φ m w→db.length=parts.length→(∀(j i:Nat)v,parts[j]?=some (i,v)→∃y,db[j]?=some (i,y)∧af P μ φ v y)→es.length=i→c.size=(i+parts.length)*n→Cells P μ n es (c.toList.take (es.length*n))→∃μ' c',(∀b o,μ b=some o→μ' b=some o)∧av P G w0 μ' φ m' w∧Instr.fill (fun i=>some (i*n,n)) c db=some c'∧c'.size=(i+parts.length)*n∧Cells P μ' n (es++ps) c'.toList
 |[],m,m',i,ps,h=>by
  simp only[fb,cO,Ua]at h;obtain⟨rfl,rfl⟩:=h;refine⟨.refl _,rfl,fun P G w0 μ φ w db es c hM hl _ he hc hC=>⟨μ,c,fun _ _ h=>h,hM,?_,hc,?_⟩⟩
  ·have:db=[]:=akg (by omega);subst this;rfl
  simp_all[akP,akE,akk]
 |(j,v)::r,m,m',i,ps,h=>by
  simp only[fb]at h;split at h
  ·rename_i Uu;subst Uu;split at h
   ·rename_i p m1 hf;split at h
    ·rename_i ps1 m2 hr;simp only[cO,Ua]at h;obtain⟨rfl,rfl⟩:=h;obtain⟨a1,a2⟩:=EZ hf;obtain⟨b1,b2,b3⟩:=tV hr;refine⟨a1.trans b1,by simp[b2],fun P G w0 μ φ w db es c hM hl hp he hc hC=>?_⟩;obtain⟨y,hy,ZU⟩:=hp 0 i v (by simp);cases db with
     |nil=>simp at hl
     |cons a nr=>
      simp at hy;subst hy;obtain⟨μ1,c1,c2,c3⟩:=a2 P G w0 μ φ w y hM ZU;have mH:i*n+n≤c.size:=by grind
      have hyl:y.cells.toList.length=n:=by simpa using c3.size
      have abN:i*n+y.cells.toList.length≤c.toList.length:=by simp_all
      obtain⟨μ2,c',d1,d2,d3,d4,d5⟩:=b3 P G w0 μ1 φ w nr (es++[p]) (bI c.toList (i*n) y.cells.toList).toArray c2 (by simpa using hl) (fun j i' v' hj=>by
       obtain⟨z,hz1,hz2⟩:=hp (j+1) i' v' (by simpa using hj);exact⟨z,by simpa using hz1,hz2.zD c1⟩) (by simp[he]) (by
       simp only[ak7];rw[cn abN];grind) (by
       have e1:((bI c.toList (i*n) y.cells.toList).toArray.toList.take ((es++[p]).length*n))=c.toList.take (es.length*n)++y.cells.toList:=by simp only[dU,ako,ak5,he];exact List.take_left' (by grind)
       rw[e1];refine(hC.mono c1).append ⟨by simp[hyl],fun k e hk=>?_,fun k e l q z hk hl hz=>?_,fun k z hz=>c3.one k z (by simpa using hz)⟩
       ·cases k with
        |zero=>simp at hk;subst hk;exact c3.len
        |succ k=>simp at hk
       ·cases k with
        |zero=>simp at hk;subst hk;exact c3.rep l q z hl (by simpa using hz)
        |succ k=>simp at hk)
      refine⟨μ2,c',fun b o h=>d1 b o (c1 b o h),d2,?_,by grind,by simpa using d5⟩;rw[y8 rfl c3.size mH];omega
    ·cases h
   ·cases h
  ·cases h
theorem HT:∀{parts:List (Nat×V)}{i:Nat}{cs:List V},EB i parts=some cs→cs.length=parts.length∧(∀id,b8 id cs=true→b8 id (parts.map Prod.snd)=true)∧∀(P:Program)(μ:Ro)(φ:Nat→aA)(db:List (Nat×Value))(c:Array Value),db.length=parts.length→(∀(j i:Nat)v,parts[j]?=some (i,v)→∃y,db[j]?=some (i,y)∧af P μ φ v y)→c.size=i+parts.length→∃c',Instr.fill (fun i=>some (i*1,1)) c db=some c'∧c'.size=c.size∧(∀j,j<i→c'[j]?=c[j]?)∧∀j u,cs[j]?=some u→∃y,c'[i+j]?=some y∧af P μ φ u y∧y.oneCell'=true
 |[],i,cs,h=>by simp only[EB,cO]at h;subst h;refine⟨rfl,by simp[b8],fun P μ φ db c hl _ hc=>⟨c,?_,rfl,fun _ _=>rfl,by simp⟩⟩;have:db=[]:=akg (by omega);subst this;rfl
 |(j,v)::r,i,cs,h=>by
  simp only[EB]at h;split at h
  ·rename_i Uu;subst Uu;split at h
   ·rename_i us0 hf;split at h
    ·rename_i us hr;simp only[cO]at h;subst h;obtain⟨a1,a2,a3⟩:=toCells_ok hf;obtain⟨b1,b2,b3⟩:=HT hr;refine⟨by simp[a1,b1];omega,fun id hid=>?_,fun P μ φ db c hl hp hc=>?_⟩
     ·obtain⟨u,hu,hh⟩:=cz.1 hid;rcases aku.1 hu with hu|hu
      ·simp only[akn,b8,akp];exact .inl (a2 id (bJ hu hh))
      ·simp only[akn,b8,akp];exact .inr (b2 id (bJ hu hh))
     ·obtain⟨y,hy,ZU⟩:=hp 0 i v (by simp);cases db with
      |nil=>simp at hl
      |cons a nr=>
       simp at hy;subst hy;obtain⟨c1,c2,c3⟩:=a3 P μ φ y ZU;have mH:i*1+1≤c.size:=by simp at hc;omega
       have hyl:y.cells.toList.length=1:=by omega
       have abN:i*1+y.cells.toList.length≤c.toList.length:=by simp_all
       obtain⟨c',d1,d2,d3,d4⟩:=b3 P μ φ nr (bI c.toList (i*1) y.cells.toList).toArray (by simpa using hl) (fun j i' v' hj=>by
        obtain⟨z,hz1,hz2⟩:=hp (j+1) i' v' (by simpa using hj);simp_all) (by
        grind [List.size_toArray,cn,Array.length_toList,List.length_cons])
       have y7:∀k,(bI c.toList (i*1) y.cells.toList).toArray[k]?=if k=i then y.cells[0]? else c[k]?:=fun k=>by rw[akH];rw[dU];rw[akh,akA,akI,ald (by omega),akA,hyl];grind
       refine⟨c',?_,by simp_all[ak7,cn],fun k hk=>?_,fun k u hu=>?_⟩
       ·rw[y8 rfl c1 mH];omega
       ·grind
       ·have h0:us0.length=1:=a1;rw[akA,h0]at hu;split at hu
        ·rename_i hk;have hk0:k=0:=by omega
         subst hk0;have h5:=d3 i (by omega);grind
        grind
    ·cases h
   ·cases h
  ·cases h
end
section
variable {P:Program}
theorem iF:∀(d:Nat)(t:TypeId)(ks:List Kd),B6 P d t=some ks→∀(D:Nat)(w:World)(em:Bool)(ps:List PV),lK ks ps=true→(Instr.checkKey em (D+d) t (eG P t ps)).run P w=.ok () w
 |0,t,ks,h,_,_,_,_,_=>by simp[B6]at h
 |d+1,t,ks,h,D,w,em,ps,hp=>by
  have ih:=iF d;unfold B6 at h;split at h
  ·rename_i q hu;simp only[cO]at h;subst h;have ha:ax P t=false:=by simp[ax,hu]
   obtain⟨p,rfl,ZM⟩:=ny hp;simp_all[uF,eG,valOf,akO,Instr.checkKey,run_underlying]
  ·rename_i hu;simp only[cO]at h;subst h;have ha:ax P t=false:=by simp[ax,hu]
   obtain⟨p,rfl,ZM⟩:=ny hp;simp_all[uF,eG,valOf,akO,Instr.checkKey,run_underlying]
  ·rename_i hu;simp only[cO]at h;subst h;have ha:ax P t=false:=by simp[ax,hu]
   obtain⟨p,rfl,ZM⟩:=ny hp;simp_all[uF,eG,valOf,akO,Instr.checkKey,run_underlying]
  ·rename_i fs hu;split at h
   ·cases h
   ·obtain⟨a,ha,h⟩:=cT.1 h;split at h
    ·rename_i hlen;simp only[cO]at h;subst h;have M9:ax P t=true:=by simp[ax,hu]
     simp only[eG,M9,Ko,←akO];rw[Instr.checkKey];simp only[Sem.run_bind,run_underlying hu,Result.andThen_ok];rw[←Array.forIn_toList];have key:∀(L:List Field)(off:Nat)(b:List Kd),rR (B6 P d) L off=some b→off≤ps.length→lK b (ps.drop off)=true→(forIn L PUnit.unit fun f(_:PUnit)=>(do
       if f.name≠ "_" then Instr.checkKey em (D+d) f.type (←part f.type (ps.map valOf).toArray f.offset)
       pure (ForInStep.yield PUnit.unit):Sem (ForInStep PUnit))).run P w=.ok PUnit.unit w:=by
      intro L;induction L with
      |nil=>simp
      |cons f L ihL=>
       intro off b hb o1 h1;simp only[rR]at hb;split at hb
       ·rename_i hf;obtain⟨c,hc,hb⟩:=cT.1 hb;obtain⟨b',jc,hb⟩:=cT.1 hb;simp only[cO]at hb;subst hb;rw[sc]at h1;have l1:=qX h1.1;simp only[akI,alO]at l1;have p1:=kT (w:=w) (ps:=ps) (off:=off) hc (by omega);have p3:=ih f.type c hc D w em _ h1.1;have p4:=ihL (off+c.length) b' jc (by omega) (by simp_all);simp_all
       ·cases hb
     have:=key fs.toList 0 a ha (by simp) (by simpa using hp);simp_all
    ·cases h
  ·rename_i n e hu;obtain⟨a,ha,h⟩:=cT.1 h;split at h
   ·rename_i hlen;simp only[cO]at h;subst h;have M9:ax P t=true:=by simp[ax,hu]
    obtain⟨_,_,de,hde⟩:=yX ha;have oP:(sizeOf e).run P w=.ok a.length w:=by rw[hlen.1];exact C9 hde
    simp only[eG,M9,Ko,←akO];rw[Instr.checkKey];simp only[Sem.run_bind,run_underlying hu,Result.andThen_ok];simp only[Std.Legacy.Range.forIn_eq_forIn_range',Std.Legacy.Range.size,anf,Nat.add_one_sub_one,Nat.div_one];have key:∀(k j:Nat),j*a.length≤ps.length→lK (rS a k) (ps.drop (j*a.length))=true→(forIn (List.range' j k) PUnit.unit fun i(_:PUnit)=>(do
      Instr.checkKey em (D+d) e (←part e (ps.map valOf).toArray (i*(←sizeOf e)))
      pure (ForInStep.yield PUnit.unit):Sem (ForInStep PUnit))).run P w=.ok PUnit.unit w:=by
     intro k;induction k with
     |zero=>simp
     |succ k ihk=>
      intro j o1 h1;simp only[rS]at h1;rw[sc]at h1;have l1:=qX h1.1;simp only[akI,alO]at l1;have p1:=kT (w:=w) (ps:=ps) (off:=j*a.length) ha (by omega);have p3:=ih e a ha D w em _ h1.1;have ej:(j+1)*a.length=j*a.length+a.length:=by rw[akR];omega
      have p4:=ihk (j+1) (by omega) (by simp_all);simp_all[al0,List.forIn_cons,Sem.run_bind,Result.andThen_ok,Sem.run_pure]
    simp_all
   ·cases h
  ·cases h
variable{kt:TypeId}{ks:List Kd}
theorem na{μ:Ro}{k:PV}{y:Value}(h:wv P kt ks k=true)(hy:ah P μ k y):lK ks k.cells=true∧y=eG P kt k.cells:=by
 simp only[wv,No,beq_iff_eq]at h;refine⟨h.1,?_⟩;cases hq:k.isAgg with
 |true=>
  cases k<;>simp[PV.isAgg]at hq;cases hy with
  |agg h1 h2 h3=>have:=tQ h.1 h1.symm h2;grind [eG,PV.isAgg,PV.cells]
 |false=>
  have hc:k.cells=[k]:=by cases k<;>first|rfl|(simp[PV.isAgg]at hq)
  have h1:=h.1;rw[hc]at h1;cases ks with
  |nil=>simp[lK]at h1
  |cons kd r=>simp only[lK,No]at h1;grind [HK,eG]
theorem Jh:∀{ks:List Kd}{ps qs:List PV},lK ks ps=true→lK ks qs=true→cu ps qs=true→ps=qs
 |[],[],[],_,_,_=>rfl
 |k::ks,p::ps,q::qs,h1,h2,h3=>by
  simp only[lK,No]at h1 h2;simp only[cu,No]at h3;rw[Jh h1.2 h2.2 h3.2];have:p=q:=by cases k<;>cases p<;>simp[uF]at h1<;>cases q<;>simp[uF]at h2<;>simp[peq]at h3<;>simp_all
  rw[this]
 |[],p::ps,_,h,_,_=>by simp[lK]at h
 |k::ks,[],_,h,_,_=>by simp[lK]at h
 |[],[],q::qs,_,h,_=>by simp[lK]at h
 |k::ks,p::ps,[],_,h,_=>by simp[lK]at h
structure xB(P:Program)(μ:Ro)(kt:TypeId)(ks:List Kd)(l:List (PV×PV))(es:List MapEntry):Prop where
 len:es.length=l.length
 key:∀(i:Nat)k v,l[i]?=some (k,v)→wv P kt ks k=true
 rep:∀(i:Nat)k v e,l[i]?=some (k,v)→es[i]?=some e→ah P μ k e.key∧ah P μ v e.val
variable{l:List (PV×PV)}{es:List MapEntry}
theorem xB.tail{μ:Ro}{x:PV×PV}{e:MapEntry}(h:xB P μ kt ks (x::l) (e::es)):xB P μ kt ks l es:=⟨by simpa using h.len,fun i k v hi=>h.key (i+1) k v (by simpa using hi),fun i k v e hi he=>h.rep (i+1) k v e (by simpa using hi) (by simpa using he)⟩
inductive Found(k v:PV)(z:PV)(l:List (PV×PV))(es:List MapEntry)(i:Nat):Option (Nat×Value)→Prop
 |none:th k l=false→b9 k z l=z→dh k v l=l++[(k,v)]→Found k v z l es i none
 |some {j:Nat} {a u:PV} {e:MapEntry}:l[j]?=some (a,u)→es[j]?=some e→cu k.cells a.cells=true→th k l=true→b9 k z l=u→dh k v l=l.set j (k,v)→Found k v z l es i (some (i+j,e.val))
theorem Found.cons{k v z:PV}{x:PV×PV}{l:List (PV×PV)}{e:MapEntry}{es:List MapEntry}{i:Nat}{r:Option (Nat×Value)}(hx:cu k.cells x.1.cells=false)(h:Found k v z l es (i+1) r):Found k v z (x::l) (e::es) i r:=by
 obtain⟨a,u⟩:=x;cases h with
 |none h1 h2 h3=>exact .none (by simpa[th,hx]using h1) (by simpa[b9,hx]using h2) (by simpa[dh,hx]using h3)
 | @some j a' u' e' h1 h2 h3 h4 h5 h6=>have:=Found.some (k:=k) (v:=v) (z:=z) (l:=(a,u)::l) (es:=e::es) (i:=i) (j:=j+1) (a:=a') (u:=u') (e:=e') (by simpa using h1) (by simpa using h2) h3 (by simpa[th,hx]using h4) (by simpa[b9,hx]using h5) (by simpa[dh,hx]using h6);grind
theorem Found.here{k v z:PV}{a u:PV}{e:MapEntry}{i:Nat}(hx:cu k.cells a.cells=true):Found k v z ((a,u)::l) (e::es) i (Option.some (i,e.val)):=by have:=Found.some (k:=k) (v:=v) (z:=z) (l:=(a,u)::l) (es:=e::es) (i:=i) (j:=0) (a:=a) (u:=u) (e:=e) (by simp) (by simp) hx (by simp[th,hx]) (by simp[b9,hx]) (by simp[dh,hx]);omega
theorem sj{μ:Ro}{kt:TypeId}{ks:List Kd}{k v z:PV}(hk:B6 P 8 kt=some ks)(AV:lK ks k.cells=true)(w:World):∀(l:List (PV×PV))(es:List MapEntry)(i:Nat),xB P μ kt ks l es→∃r,(Instr.findAsking kt (eG P kt k.cells) es i).run P w=.ok r w∧Found k v z l es i r
 |[],es,i,h=>by have:es=[]:=akg (by simpa using h.len);subst this;exact⟨none,by rfl,.none rfl rfl rfl⟩
 |(a,u)::l,es,i,h=>by
  cases es with
  |nil=>have:=h.len;simp at this
  |cons e es=>
   have hka:=h.key 0 a u (by simp);obtain⟨h1,h2⟩:=na hka (h.rep 0 a u e (by simp) (by simp)).1;have he:(Op.equal kt (eG P kt k.cells) e.key).run P w=.ok (cu k.cells a.cells) w:=by rw[h2];exact qf 8 kt ks hk 9992 w _ _ AV h1
   cases hp:cu k.cells a.cells with
   |true=>exact⟨some (i,e.val),by simp[Instr.findAsking,he,hp],.here hp⟩
   |false=>obtain⟨r,r1,r2⟩:=sj (v:=v) (z:=z) hk AV w l es (i+1) h.tail;exact⟨r,by simp[Instr.findAsking,he,hp,r1],r2.cons hp⟩
theorem Dd{μ:Ro}{kt:TypeId}{d:TypeDesc}{ks:List Kd}{k v z:PV}(hu:P.underlying kt=some d)(ha:ax P kt=false)(hk:B6 P 8 kt=some ks)(AV:lK ks k.cells=true):∀(l:List (PV×PV))(es:List MapEntry)(i:Nat),xB P μ kt ks l es→∃r,Instr.findNow d (eG P kt k.cells) es i=some r∧Found k v z l es i r
 |[],es,i,h=>by have:es=[]:=akg (by simpa using h.len);subst this;exact⟨none,by rfl,.none rfl rfl rfl⟩
 |(a,u)::l,es,i,h=>by
  cases es with
  |nil=>have:=h.len;simp at this
  |cons e es=>
   have hka:=h.key 0 a u (by simp);obtain⟨h1,h2⟩:=na hka (h.rep 0 a u e (by simp) (by simp)).1;have he:Instr.sameNow d (eG P kt k.cells) e.key=some (cu k.cells a.cells):=by
    rw[h2];have DT:=hk;unfold B6 at DT;rw[hu]at DT;cases d<;>simp at DT<;>try (simp[ax,hu]at ha;done)
    all_goals subst DT;obtain⟨p,hp1,hp2⟩:=ny AV;obtain⟨q,hq1,hq2⟩:=ny h1;rw[hp1,hq1];cases p<;>simp[uF]at hp2;cases q<;>simp[uF]at hq2;simp_all[eG,valOf,Instr.sameNow,cu,peq]
    all_goals (rw[ak9,Go.MapKept.bytes_beq];simp_all)
   cases hp:cu k.cells a.cells with
   |true=>exact⟨some (i,e.val),by simp[Instr.findNow,he,hp],.here hp⟩
   |false=>obtain⟨r,r1,r2⟩:=Dd (v:=v) (z:=z) hu ha hk AV l es (i+1) h.tail;exact⟨r,by simp[Instr.findNow,he,hp,r1],r2.cons hp⟩
theorem mh{μ:Ro}{k v z:PV}(hk:B6 P 8 kt=some ks)(AV:lK ks k.cells=true)(w:World)(h:xB P μ kt ks l es):∃r,(Instr.findKey kt (eG P kt k.cells) es).run P w=.ok r w∧Found k v z l es 0 r:=by
 obtain⟨_,_,d,hu⟩:=yX hk;cases ha:ax P kt with
 |true=>rw[run_findKey_eq w (by grind [ax])];exact sj hk AV w l es 0 h
 |false=>obtain⟨r,r1,r2⟩:=Dd (v:=v) (z:=z) hu ha hk AV l es 0 h;simp_all[Go.MapKept.run_findKey]
end
section
variable {R:Type} {E:Env}
variable{P:Program}{t:TypeId}{ks:List Kd}
theorem y9(h:tx P t=some ks):B6 P 8 t=some ks:=by simp_all[tx]
variable{kt:TypeId}
theorem uT{v:V}{key:PV}(h:keyOf E kt v=some key):∃ks,tx E.P kt=some ks∧wv E.P kt ks key=true∧∀(μ:Ro)(φ:Nat→aA)(y:Value),af E.P μ φ v y→ah E.P μ key y:=by
 unfold keyOf at h;split at h
 ·rename_i ks U0;refine⟨ks,U0,?_⟩;split at h
  ·rename_i ha;split at h
   ·rename_i cs hc;split at h
    ·rename_i ps hp;split at h
     ·rename_i P0;simp only[cO]at h;subst h;obtain⟨_,c2⟩:=pM hc;obtain⟨p1,p2⟩:=gT hp;refine⟨by simp_all[wv,PV.cells,PV.isAgg],fun μ φ y hy=>?_⟩;obtain⟨xs,rfl,h1,h2,h3⟩:=c2 E.P μ φ y hy;refine .agg (by omega) (fun i q z hq hz=>?_) h3;grind [uP]
     ·cases h
    ·cases h
   ·cases h
  ·rename_i ha;split at h
   ·rename_i p;split at h
    ·rename_i P0;simp only[cO]at h;subst h;refine⟨?_,fun μ φ y hy=>by cases hy with|pv hy=>omega⟩;cases ks with
     |nil=>simp[lK]at P0
     |cons kd r=>
      have aeW:=P0;simp only[lK,No]at aeW;have ha':ax E.P kt=false:=by simpa using ha
      cases kd<;>cases p<;>simp[uF]at aeW<;>simp_all[wv,PV.cells,PV.isAgg]
    ·cases h
   ·cases h
 ·cases h
variable{en:Array MapEntry}
theorem mF.push{clock:Nat}(h:mF en clock){k v:Value}:mF (en.push {key:=k,val:=v,born:=clock}) (clock+1):=by
 intro i e hi;rw[aml]at hi;split at hi
 ·rename_i e1;simp only[cO]at hi;subst hi;refine⟨Nat.lt_succ_self _,fun j e' hj hb=>?_⟩;rw[aml]at hj;split at hj
  ·omega
  ·have:=(h j e' hj).1;simp_all
 ·obtain⟨h1,h2⟩:=h i e hi;grind
theorem mF.modify{en:Array MapEntry}{clock:Nat}(h:mF en clock)(f:MapEntry→MapEntry)(hf:∀e,(f e).born=e.born)(k:Nat):mF (en.modify k f) clock:=by
 have key:∀(i:Nat)e,(en.modify k f)[i]?=some e→∃e0,en[i]?=some e0∧e.born=e0.born:=fun i e hi=>by grind
 intro i e hi;obtain⟨e0,h0,hb0⟩:=key i e hi;obtain⟨h1,h2⟩:=h i e0 h0;grind
inductive Vf(w:World):Value→Array MapEntry→Prop
 |nil:Vf w (.map none) #[]
 |at{g clock:Nat} {en:Array MapEntry}:w.heap[g]?=some (.map en clock)→Vf w (.map (some g)) en
theorem sk{μ:Ro}{et:TypeId}{key z:PV}{zv y yi:Value}{w:World}{l:List (PV×PV)}{ok:Bool}(hu:P.underlying t=some (.map kt et))(hk:tx P kt=some ks)(zw:wv P kt ks key=true)(hyi:ah P μ key yi)(hy:Vf w y en)(hE:xB P μ kt ks l en.toList)(hz:(zeroValue et).run P w=.ok zv w)(hzr:ah P μ z zv):∃v,(Instr.lookup t y yi ok).run P w=.ok (if ok then .tuple #[v,.bool (th key l)]else v) w∧ah P μ (b9 key z l) v:=by
 have Sw:=y9 hk;obtain⟨hc,hv⟩:=na zw hyi;obtain⟨r,r1,r2⟩:=mh (v:=.bad) (z:=z) Sw hc w hE;have h1:=iF 8 kt ks Sw 9992 w en.isEmpty key.cells hc;rw[hv];have uJ:∀(x:Value×Bool),(r=none→x=(zv,false))→(∀j v,r=some (j,v)→x=(v,true))→(Instr.lookup t y (eG P kt key.cells) ok).run P w=.ok (if ok then .tuple #[x.1,.bool x.2]else x.1) w:=by
  intro x ZT hx2;cases hy with
  |nil=>
   have h1':(Instr.checkKey true 10000 kt (eG P kt key.cells)).run P w=.ok () w:=h1;have r1':(Instr.findKey kt (eG P kt key.cells) []).run P w=.ok r w:=r1;unfold Instr.lookup;simp only[Sem.run_bind,run_underlying hu,Result.andThen_ok,Sem.run_pure];cases r with
   |none=>simp_all
   |some jv=>obtain⟨j,v⟩:=jv;simp_all
  | «at» hg=>
   have G6:=Go.MapKept.run_getObj_map (P:=P) hg;have h1':(Instr.checkKey en.isEmpty 10000 kt (eG P kt key.cells)).run P w=.ok () w:=h1;unfold Instr.lookup;simp only[Sem.run_bind,run_underlying hu,Result.andThen_ok,Sem.run_pure,G6];cases r with
   |none=>simp_all
   |some jv=>obtain⟨j,v⟩:=jv;simp_all
 cases r2 with
 |none f1 f2 f3=>grind
 | @some j a u e f1 f2 f3 f4 f5 f6=>refine⟨e.val,?_,by rw[f5];exact(hE.rep j a u e f1 f2).2⟩;simp_all
variable{m:Mem}
theorem NH{x ix:V}{ok:Bool}{k:V→bq→Option R}{r:R}(h:vu E t x ix ok m k=some r):∃v ft,(∀m2:Mem,(∀x∈ft,m2 x.2=m x.2)→∀(R':Type)(k':V→bq→Option R'),vu E t x ix ok m2 k'=k' v ft)∧k v ft=some r∧(∀x∈ft,x.1=false)∧(∀id,v.has id=false)∧∀(G:Nat→Option (List PV))(w0:bA)(μ:Ro)(φ:Nat→aA)(w:World)(y yi:Value),av E.P G w0 μ φ m w→af E.P μ φ x y→af E.P μ φ ix yi→∃u,(Instr.lookup t y yi ok).run E.P w=.ok u w∧af E.P μ φ v u:=by
 have out:∀(q:PV)(b:Bool)(id:Nat),(if ok=true then V.aO [.pv q,.pv (.bool b)]else .pv q).has id=false:=by grind [id,V.has,b8]
 have rep:∀(μ:Ro)(φ:Nat→aA)(q:PV)(b:Bool)(v:Value),ah E.P μ q v→af E.P μ φ (if ok=true then V.aO [.pv q,.pv (.bool b)]else .pv q) (if ok=true then .tuple #[v,.bool b]else v):=by
  intro μ φ q b v hv;cases ok with
  |false=>exact .pv hv
  |true=>
   refine .aO (by simp) fun i p y hp hy=>?_;match i with
   |0=>simp at hp hy;subst hp;subst hy;exact .pv hv
   |1=>simp at hp hy;subst hp;subst hy;exact .pv .bool
   |n+2=>simp at hp
 unfold vu at h;split at h
 ·rename_i kt et hu;split at h
  ·rename_i z hz;obtain⟨zv,hz1,hz2⟩:=NF hz;split at h
   ·rename_i id;split at h
    ·rename_i xh es hm;split at h
     ·rename_i hkt;subst hkt;obtain⟨key,zw,h⟩:=cT.1 h;obtain⟨q,q1,q2,q3,_⟩:=ma h;obtain⟨ks,k1,k2,k3⟩:=uT zw;refine⟨_,_,fun m2 cL R' k'=>by have:=cL (false,id) (by simp);simp_all[vu,akj,Ko],q2,by simp,out q _,fun G w0 μ φ w y yi hM hx hi=>?_⟩;obtain⟨g,en,clock,kk,hg,hh,hs,hk,P0,_,hv⟩:=hM.dy id _ hm;rw[k1]at hk;simp only[cO]at hk;subst hk;cases hx with
      |om cS=>rw[hg]at cS;simp only[cO]at cS;subst cS;obtain⟨v,v1,v2⟩:=sk (ok:=ok) (z:=z) hu k1 k2 (k3 μ φ yi hi) (.at hh) (l:=es) ⟨by omega,P0,fun i k v e h1 h2=>hv i k v e h1 (by simpa using h2)⟩ (hz1 w) (hz2 μ);exact⟨_,v1,rep μ φ q _ v (q3 _ _ _ v2)⟩
     ·cases h
    ·cases h
   ·rename_i pm;unfold cD at h;split at h
    ·obtain⟨key,zw,h⟩:=cT.1 h;obtain⟨ks,k1,k2,k3⟩:=uT zw;refine⟨_,_,fun m2 cL R' k'=>by simp_all[vu,cD,akj],h,by simp,out z _,fun G w0 μ φ w y yi hM hx hi=>?_⟩;cases hx with
     |pv hx=>cases hx with
      |vq=>obtain⟨v,v1,v2⟩:=sk (ok:=ok) (z:=z) hu k1 k2 (k3 μ φ yi hi) .nil (l:=[]) ⟨by simp,by simp,by simp⟩ (hz1 w) (hz2 μ);exact⟨_,v1,rep μ φ z _ v v2⟩
    ·rename_i xh ks' vs';split at h
     ·rename_i hkt;subst hkt;obtain⟨key,zw,h⟩:=cT.1 h;obtain⟨q,q1,q2,q3,_⟩:=ma h;obtain⟨ks,k1,k2,k3⟩:=uT zw;refine⟨_,_,fun m2 cL R' k'=>by simp_all[vu,cD,akj,Ko],q2,by simp,out q _,fun G w0 μ φ w y yi hM hx hi=>?_⟩;cases hx with
      |pv hx=>cases hx with
       | @rm _ _ _ b clock en kk m1 m2 m3 m4 m5 m6 m7=>
        rw[k1]at m4;simp only[cO]at m4;subst m4;have acT:∀(i:Nat)k v,(ks'.zip vs')[i]?=some (k,v)→ks'[i]?=some k∧vs'[i]?=some v:=fun i k v h=>by grind
        obtain⟨v,v1,v2⟩:=sk (ok:=ok) (z:=z) hu k1 k2 (k3 μ φ yi hi) (.at (hM.ro _ _ m1)) (l:=ks'.zip vs') ⟨by simp[m2,m3],fun i k v h=>m5 i k (acT i k v h).1,fun i k v e h1 h2=>⟨m6 i k e (acT i k v h1).1 (by simpa using h2),m7 i v e (acT i k v h1).2 (by simpa using h2)⟩⟩ (hz1 w) (hz2 μ);exact⟨_,v1,rep μ φ q _ v (q3 _ _ _ v2)⟩
     ·cases h
    ·cases h
   ·cases h
  ·cases h
 ·cases h
variable{m':Mem}
theorem HU{v:V}{p:PV}(h:vr m v=some (p,m')):ky m m'∧∀(P:Program)(G:Nat→Option (List PV))(w0:bA)(μ:Ro)(φ:Nat→aA)(w:World)(x:Value),av P G w0 μ φ m w→af P μ φ v x→∃μ',(∀b o,μ b=some o→μ' b=some o)∧av P G w0 μ' φ m' w∧ah P μ' p x:=by
 unfold vr at h;split at h
 ·rename_i cs;split at h
  ·rename_i ps m1 hf;simp only[cO,Ua]at h;obtain⟨rfl,rfl⟩:=h;obtain⟨f1,f2,f3⟩:=EY hf;refine⟨f1,fun P G w0 μ φ w x hM hx=>?_⟩;cases hx with
   | @agg _ xs h1 h2 h3=>
    have hX:∀(i:Nat),i<cs.length→xs[i]?=some (xs.getD i undef):=fun i hi=>by simp_all
    obtain⟨μ',e1,e2,e3⟩:=f3 P G w0 μ φ w (fun i=>xs.getD i undef) hM fun i u hu=>h2 i u _ hu (hX i (By.1 hu).1);refine⟨μ',e1,e2,.agg (by omega) (fun j q y hq hy=>?_) h3⟩;grind
  ·cases h
 ·exact P6 h
theorem De{v:V}{p:PV}(h:vr cP v=some (p,m')):∀(P:Program)(μ:Ro)(φ:Nat→aA)(x:Value),af P μ φ v x→ah P μ p x:=by
 unfold vr at h;split at h
 ·rename_i cs;split at h
  ·rename_i ps m1 hf;simp only[cO,Ua]at h;obtain⟨rfl,rfl⟩:=h;obtain⟨f2,f3⟩:=Al hf;intro P μ φ x hx;cases hx with
   | @agg _ xs h1 h2 h3=>
    have hX:∀(i:Nat),i<cs.length→xs[i]?=some (xs.getD i undef):=fun i hi=>by simp_all
    have e3:=f3 P μ φ (fun i=>xs.getD i undef) fun i u hu=>h2 i u _ hu (hX i (By.1 hu).1);refine .agg (by omega) (fun j q y hq hy=>?_) h3;grind
  ·cases h
 ·exact HO h
theorem NI{draw:Bool}{v:V}{p:PV}(h:A1 draw m v=some (p,m')):ky m m'∧(draw=true→m'=m∧∀m2:Mem,A1 true m2 v=some (p,m2))∧∀(P:Program)(G:Nat→Option (List PV))(w0:bA)(μ:Ro)(φ:Nat→aA)(w:World)(x:Value),av P G w0 μ φ m w→af P μ φ v x→∃μ',(∀b o,μ b=some o→μ' b=some o)∧av P G w0 μ' φ m' w∧ah P μ' p x:=by
 unfold A1 at h;split at h
 ·rename_i hd;split at h
  ·rename_i q m1 hf;simp only[cO,Ua]at h;obtain⟨rfl,rfl⟩:=h;exact⟨.refl _,fun _=>⟨rfl,fun m2=>by simp[A1,hf]⟩,fun P G w0 μ φ w x hM hx=>⟨μ,fun _ _ h=>h,hM,De hf P μ φ x hx⟩⟩
  ·cases h
 grind [HU,absurd]
theorem zO:∀{ps:List PV},lK ks ps=true→∀(n:Nat),(ps.map valOf).all (fun v=>Instr.sameBits n v v)=true:=by
 induction ks with
 |nil=>intro ps h n;cases ps<;>simp[lK]at h;rfl
 |cons k ks ih=>
  intro ps h n;cases ps with
  |nil=>rfl
  |cons p ps=>simp only[lK,No]at h;simp only[akn,amK,ih h.2 n,aln];cases k<;>cases p<;>simp[uF]at h<;>simp[valOf,Instr.sameBits,Go.MapKept.bytes_beq]
theorem xC{ps:List PV}(h:lK ks ps=true)(hl:ax P t=false→ps.length=1)(n:Nat):Instr.sameBits (n+1) (eG P t ps) (eG P t ps)=true:=by
 unfold eG;cases ha:ax P t with
 |true=>have:=zO h n;simp only[Ko,Instr.sameBits,BEq.rfl,ak4];grind
 |false=>
  have h1:=hl ha;match ps,h1 with
  |[p],_=>have:=zO h (n+1);simpa using this
theorem zP{draw:Bool}{x key val:V}{k:Mem→bq→Option R}{r:R}(h:oO E draw t x key val m k=some r):∃m' ft,k m' ft=some r∧(draw=true→∃id b,m'=ao m id b∧ft=[(true,id)]∧∀m2:Mem,m2 id=m id→∀(R':Type)(k':Mem→bq→Option R'),oO E true t x key val m2 k'=k' (ao m2 id b) [(true,id)])∧ky m m'∧∀(G:Nat→Option (List PV))(w0:bA)(μ:Ro)(φ:Nat→aA)(w:World)(ya yk yv:Value),av E.P G w0 μ φ m w→af E.P μ φ x ya→af E.P μ φ key yk→af E.P μ φ val yv→∃w' μ',(Instr.mapUpdate t ya yk yv).run E.P w=.ok () w'∧(∀b o,μ b=some o→μ' b=some o)∧av E.P G w0 μ' φ m' w':=by
 unfold oO at h;split at h
 ·rename_i kt et hu;split at h
  ·rename_i id;split at h
   ·rename_i v m1 hf;obtain⟨f1,f2,f3⟩:=NI hf;split at h
    ·rename_i xh es hm;split at h
     ·rename_i hkt;subst hkt;obtain⟨kp,zw,h⟩:=cT.1 h;obtain⟨ks,k1,k2,k3⟩:=uT zw;refine⟨_,_,h,fun hd=>?_,f1.trans .set,fun G w0 μ φ w ya yk yv hM hx hk hv=>?_⟩
      ·obtain⟨rfl,f4⟩:=f2 hd;exact⟨id,_,rfl,rfl,fun m2 cL R' k'=>by simp_all[oO,akj,Ko]⟩
      ·obtain⟨μ',g1,g2,g3⟩:=f3 _ _ _ _ _ _ _ hM hv;obtain⟨g,en,clock,kk,hg,hh,hs,AV,P0,yS,lL⟩:=g2.dy id _ hm;rw[k1]at AV;simp only[cO]at AV;subst AV;have Sw:=y9 k1;have hkr:=(k3 μ φ yk hk).mono g1;obtain⟨hc,hkv⟩:=na k2 hkr;have hE:xB E.P μ' xh ks es en.toList:=⟨by omega,P0,fun i k v e h1 h2=>lL i k v e h1 (by simpa using h2)⟩;obtain⟨res,r1,r2⟩:=mh (v:=v) (z:=.bad) Sw hc w hE;have G6:=Go.MapKept.run_getObj_map (P:=E.P) hh;have h1:(Instr.checkKey false 10000 xh yk).run E.P w=.ok () w:=by rw[hkv];exact iF 8 xh ks Sw 9992 w false kp.cells hc
       rw[←hkv]at r1;have bZ:g<w.heap.size:=(abq.1 hh).1;cases hx with
       |om cS=>
        rw[hg]at cS;simp only[cO]at cS;subst cS;have fin:∀(o:Obj)(Nf:Array MapEntry)(qi:Nat),o=.map Nf qi→(Instr.mapUpdate t (.map (some g)) yk yv).run E.P w=.ok () {w with heap:=w.heap.setIfInBounds g o}→mF Nf qi→xB E.P μ' xh ks (dh kp v es) Nf.toList→∃w' μ',(Instr.mapUpdate t (.map (some g)) yk yv).run E.P w=.ok () w'∧(∀b o,μ b=some o→μ' b=some o)∧av E.P G w0 μ' φ (ao m1 id (.map xh (dh kp v es))) w':=by rintro o Nf qi rfl hr ah2 hE';refine⟨_,μ',hr,g1,g2.write hm rfl hg ⟨⟨rfl,rfl,rfl,by simp,fun k hk=>by grind⟩,fun _=>akk _⟩ (by simp) (fun k hk=>by grind) ?_ rfl (by simp[bH.names])⟩;exact⟨g,Nf,qi,ks,hg,by simp[bZ],by simpa using hE'.len,k1,hE'.key,ah2,fun i k v e h1 h2=>hE'.rep i k v e h1 (by simpa using h2)⟩
        cases r2 with
        |none e1 e2 e3=>
         have Sx:=Go.MapKept.run_setObj_map (P:=E.P) (.map (en.push {key:=yk,val:=yv,born:=clock}) (clock+1)) hh;refine fin _ _ _ rfl (by simp only[Instr.mapUpdate,Sem.run_bind,run_underlying hu,G6,h1,r1,Result.andThen_ok];exact Sx) yS.push ?_;rw[e3];have fe:∀(i:Nat)k' v' e,(es++[(kp,v)])[i]?=some (k',v')→(en.push {key:=yk,val:=yv,born:=clock}).toList[i]?=some e→(es[i]?=some (k',v')∧en.toList[i]?=some e)∨(k'=kp∧v'=v∧e.key=yk∧e.val=yv):=by grind
         refine⟨by simp[hs],fun i k' v' h=>?_,fun i k' v' e h1 h2=>?_⟩
         ·grind
         grind
        | @some j a u e e1 e2 e3 e4 e5 e6=>
         have e2':en[j]?=some e:=by simpa using e2
         obtain⟨hca,hva⟩:=na (P0 j a u e1) (lL j a u e e1 e2').1;have vG:=Jh hc hca e3;have hsb:Instr.sameBits 10000 e.key yk=true:=by rw[hva,hkv,←vG];refine xC (n:=9999) hc (fun ha=>?_);rw[qX hc];exact(yX Sw).2.1 ha
         have Sx:=Go.MapKept.run_setObj_map (P:=E.P) (.map (en.modify j fun e=>{e with key:=yk,val:=yv}) clock) hh;have Am:j<en.size:=(abq.1 e2').1;refine fin _ _ _ rfl (by simp only[Instr.mapUpdate,Sem.run_bind,run_underlying hu,G6,h1,r1,Result.andThen_ok];simp only[akV,e2',akb,ak2,Instr.keyThatStays,hsb,Ko,Sem.run_pure,Result.andThen_ok];exact Sx) (yS.modify (fun e=>{e with key:=yk,val:=yv}) (fun _=>rfl) _) ?_;rw[e6];have qY:∀(i:Nat)k' v',(es.set j (kp,v))[i]?=some (k',v')→(i=j∧k'=kp∧v'=v)∨(i≠j∧es[i]?=some (k',v')):=by grind
         refine⟨by simp[hs],fun i k' v' h=>?_,fun i k' v' e' h1 h2=>?_⟩
         ·grind
         grind
     ·cases h
    ·cases h
   ·cases h
  ·cases h
 ·cases h
theorem K8{μ:Ro}{φ:Nat→aA}{w:World}{site:Nat}(hk:tx P kt=some ks)(hφ:(φ site).g=some w.heap.size):gM P μ φ (w.alloc (.map #[] 0)) site (.map kt []):=⟨w.heap.size,#[],0,ks,hφ,fM w _,rfl,hk,by simp,fun i e h=>by simp at h,by simp⟩
end
def vA(P:Program)(G:Nat→Option (List PV))(g:FuncId)(M:List PV→Option PV):Prop:=
 (∃fn c,P.funcs[g]?=some fn∧fn.body=some c∧(fn.name== "runtime.NumGoroutine")=false)∧
 ∀(ps:List PV)(r:PV),M ps=some r→∀(w:World)(μ:Ro)(xs:Array Value),(∀b o,μ b=some o→w.heap[b]?=some o)→(∀g cs,G g=some cs→zC P μ g cs)→ps.length=xs.size→(∀(i:Nat)p x,ps[i]?=some p→xs[i]?=some x→ah P μ p x)→Calls P g xs w fun e w'=>∃y,e=.returned y∧lM w.heap.size w w'∧ah P (cm μ w w') r y
def Ck(P:Program)(G:Nat→Option (List PV))(g:FuncId)(M:List PV→Option PV):Prop:=
 (∃fn c,P.funcs[g]?=some fn∧fn.body=some c∧(fn.name== "runtime.NumGoroutine")=false)∧
 ∀(fn:Func)(t e:TypeId),P.funcs[g]?=some fn→fn.resultTypes.toList=[t]→P.underlying t=some (.slice e)→∀(ps:List PV)(r:PV),M ps=some r→∀(w:World)(μ:Ro)(xs:Array Value),(∀b o,μ b=some o→w.heap[b]?=some o)→(∀g cs,G g=some cs→zC P μ g cs)→ps.length=xs.size→(∀(i:Nat)p x,ps[i]?=some p→xs[i]?=some x→ah P μ p x)→Calls P g xs w fun en w'=>∃(y:Value)(ph:aA)(es:List PV),en=.returned y∧lM w.heap.size w w'∧r=.rs (aN P e) es∧(∀g,ph.g=some g→w.heap.size≤g)∧aH P (nu (cm μ w w') ph.g) (fun _=>ph) w' 0 (aN P e) e es∧af P μ (fun _=>ph) (.os 0) y
def aeX(m:Mem):Option (Nat×bH)→Mem
 |some (id,b)=>ao m id b
 |none=>m
def aeY(E:Env)(g:FuncId)(args:List V)(f:Fr)(m:Mem)(v:V)(f':Fr)(m':Mem):Prop:=
 (∃fn c,E.P.funcs[g]?=some fn∧fn.body=some c∧(fn.name== "runtime.NumGoroutine")=false)∧
 ∀(w0:bA)(μ:Ro)(φ:Nat→aA)(ρ:Nat→Value)(w:World)(xs:Array Value),av E.P E.aG w0 μ φ m w→bR E.P μ φ m f ρ→args.length=xs.size→(∀(i:Nat)v x,args[i]?=some v→xs[i]?=some x→af E.P μ φ v x)→(∀id,b8 id args=true→(m id).isSome=true)→Calls E.P g xs w fun e w'=>∃y μ' φ',e=.returned y∧av E.P E.aG w0 μ' φ' m' w'∧bR E.P μ' φ' m' f' ρ∧af E.P μ' φ' v y∧∀id,v.has id=true→(m' id).isSome=true
def Ji{R:Type}(P:Program)(G:Nat→Option (List PV))(g:FuncId)(args:List V)(f:Fr)(m:Mem)(k:V→Fr→Mem→Option R)(r:R):Prop:=
 (∃fn c,P.funcs[g]?=some fn∧fn.body=some c∧(fn.name== "runtime.NumGoroutine")=false)∧
 ∀(w0:bA)(μ:Ro)(φ:Nat→aA)(ρ:Nat→Value)(w:World)(xs:Array Value),av P G w0 μ φ m w→bR P μ φ m f ρ→args.length=xs.size→(∀(i:Nat)v x,args[i]?=some v→xs[i]?=some x→af P μ φ v x)→(∀id,b8 id args=true→(m id).isSome=true)→Calls P g xs w fun e w'=>∃v f' m' y μ' φ',k v f' m'=some r∧e=.returned y∧av P G w0 μ' φ' m' w'∧bR P μ' φ' m' f' ρ∧af P μ' φ' v y∧∀id,v.has id=true→(m' id).isSome=true
def uL(P:Program)(G:Nat→Option (List PV))(nt:Nat)(yl:YL)(w0:bA):Prop:=∀(R:Type)site id args f m(k:V→Fr→Mem→Option R)r,yl R nt site id args f m k=some r→∀(μ:Ro)(φ:Nat→aA)(ρ:Nat→Value)(w:World)(xs:Array Value),av P G w0 μ φ m w→bR P μ φ m f ρ→(∀t,nt≤t→ρ t=w0.sv t)→args.length=xs.size→(∀(i:Nat)v x,args[i]?=some v→xs[i]?=some x→af P μ φ v x)→(∀id,b8 id args=true→(m id).isSome=true)→∀g,(φ id).g=some g→∃fn tmps assign body,(Instr.yield g xs).run P w=.ok (.round g fn tmps assign body) w∧RoundIn Fence.wide 0 P g fn tmps assign body w fun e w'=>∃v f' m' y μ' φ',k v f' m'=some r∧e=.returned y∧(∀b o,μ b=some o→μ' b=some o)∧av P G w0 μ' φ' m' w'∧bR P μ' φ' m' f' ρ∧af P μ' φ' v y∧∀id,v.has id=true→(m' id).isSome=true
theorem A6(P:Program)(G:Nat→Option (List PV))(nt:Nat)(w0:bA):uL P G nt B8 w0:=fun R site id args f m k r h=>by cases h
variable{G:Nat→Option (List PV)}{φ:Nat→aA}
theorem av.Ap{P:Program}{w0:bA}{μ:Ro}{m:Mem}{w:World}(h:av P G w0 μ φ m w){K:Ro}(hK:∀b o,K b=some o→μ b=some o):av P G {w0 with dC:=K} μ φ m w:=⟨h.below,h.ro,h.aG,h.dy,h.own,h.inj,h.apart,h.fT,h.base,hK,h.C5⟩
theorem av.E6{P:Program}{w0:bA}{μ:Ro}{m:Mem}{w:World}{K:Ro}(h:av P G {w0 with dC:=K} μ φ m w)(hK:∀b o,w0.dC b=some o→K b=some o):av P G w0 μ φ m w:=⟨h.below,h.ro,h.aG,h.dy,h.own,h.inj,h.apart,h.fT,h.base,fun b o hb=>h.dC b o (hK b o hb),h.C5⟩
theorem uL.Ap{P:Program}{G:Nat→Option (List PV)}{nt:Nat}{yl:YL}{w0:bA}(h:uL P G nt yl w0){K:Ro}(hK:∀b o,w0.dC b=some o→K b=some o):uL P G nt yl {w0 with dC:=K}:=fun R site id args f m k r hy μ φ ρ w xs hM hF hρ hl hr Ja g hg=>
  let⟨fn,tmps,assign,body,y1,y2⟩:=h R site id args f m k r hy μ φ ρ w xs (hM.E6 hK) hF hρ hl hr Ja g hg
  ⟨fn,tmps,assign,body,y1,y2.mono fun e w'⟨v,f',m',y,μ',φ',a1,a2,a3,a4,a5⟩=>⟨v,f',m',y,μ',φ',a1,a2,a3,a4.Ap fun b o hb=>a3 b o (hM.dC b o hb),a5⟩⟩
def Nu{R:Type}(P:Program)(G:Nat→Option (List PV))(g:FuncId)(yl:YL)(args:List V)(f:Fr)(m:Mem)(k:V→Fr→Mem→Option R)(r:R):Prop:=
 ∃fn c,P.funcs[g]?=some fn∧fn.body=some c∧(fn.name== "runtime.NumGoroutine")=false∧
 ∀(w0:bA)(μ:Ro)(φ:Nat→aA)(ρ:Nat→Value)(w:World)(xs:Array Value),av P G w0 μ φ m w→bR P μ φ m f ρ→args.length=xs.size→(∀(i:Nat)v x,args[i]?=some v→xs[i]?=some x→af P μ φ v x)→(∀id,b8 id args=true→(m id).isSome=true)→uL P G fn.ntmps yl {w0 with sv:=fun t=>ρ (t-fn.ntmps)}→Calls P g xs w fun e w'=>∃v f' m' y μ' φ',k v f' m'=some r∧e=.returned y∧av P G w0 μ' φ' m' w'∧bR P μ' φ' m' f' ρ∧af P μ' φ' v y∧∀id,v.has id=true→(m' id).isSome=true
structure ku(E:Env):Prop where
 mixed:E.P.follows .mixedOrders=true
 lp:∀(S R:Type)(body:S→(S→Option R)→Option R)s r,E.lp.run body s=some r→∃n,cg body n s=some r
 ctx:∀g M,E.ctx g=some M→vA E.P E.aG g M
 own:∀g M,E.own g=some M→Ck E.P E.aG g M
 inl:∀(R:Type)g Ng args f m(k:V→Fr→Mem→Option R)r,E.inl R g Ng args f m k=some r→Ji E.P E.aG g args f m k r
 rng:∀(R:Type)g Ng yl args f m(k:V→Fr→Mem→Option R)r,E.rng R g Ng yl args f m k=some r→Nu E.P E.aG g yl args f m k r
section
variable {R:Type} {E:Env}
theorem ek{f:V→List Nat}{id:Nat}:∀{cs:List V},id∈iW f cs↔∃v∈cs,id∈f v
 |[]=>by simp[iW]
 |c::r=>by simp[iW,ek (cs:=r)]
theorem mI{g g':V→Option PV}:∀{cs:List V},(∀v∈cs,g' v=g v)→qT g' cs=qT g cs
 |[],_=>rfl
 |c::r,h=>by simp_all[qT,mI]
theorem rF{m m2:Mem}:∀(d:Nat){v:V},(∀id∈cE m d v,m2 id=m id)→lF m2 d v=lF m d v
 |0,v,_=>rfl
 |d+1,v,h=>by
  cases v with
  |agg cs=>simp only[lF];rw[mI fun v hv=>rF d fun id hid=>h id (by simp only[cE];exact ek.2 ⟨v,hv,hid⟩)]
  |aO cs=>simp only[lF];rw[mI fun v hv=>rF d fun id hid=>h id (by simp only[cE];exact ek.2 ⟨v,hv,hid⟩)]
  |fn g cs=>simp only[lF];rw[mI fun v hv=>rF d fun id hid=>h id (by simp only[cE];exact ek.2 ⟨v,hv,hid⟩)]
  |op id off=>
   have h0:=h id (by simp[cE]);simp only[lF,h0];split
   ·rename_i cs hm;rw[mI fun v hv=>rF d fun tl hid=>h tl (by simp only[cE,hm];exact aly _ (ek.2 ⟨v,hv,hid⟩))]
   rfl
  |oe id i off=>grind [lF,id,cE]
  |os id=>grind [lF,id,cE]
  |fR id lo len=>grind [lF,id,cE]
  |om id=>grind [lF,id,cE]
  |xn id i off=>grind [lF,id,cE]
  |_=>rfl
theorem jg{g g':V→List Nat}:∀{cs:List V},(∀v∈cs,g' v=g v)→iW g' cs=iW g cs
 |[],_=>rfl
 |c::r,h=>by simp_all[iW,jg]
theorem nb{m m2:Mem}:∀(d:Nat){v:V},(∀id∈cE m d v,m2 id=m id)→cE m2 d v=cE m d v
 |0,v,_=>rfl
 |d+1,v,h=>by
  cases v with
  |agg cs=>simp only[cE];exact jg fun v hv=>nb d fun id hid=>h id (by simp only[cE];exact ek.2 ⟨v,hv,hid⟩)
  |aO cs=>simp only[cE];exact jg fun v hv=>nb d fun id hid=>h id (by simp only[cE];exact ek.2 ⟨v,hv,hid⟩)
  |fn g cs=>simp only[cE];exact jg fun v hv=>nb d fun id hid=>h id (by simp only[cE];exact ek.2 ⟨v,hv,hid⟩)
  |op id off=>
   have h0:=h id (by simp[cE]);simp only[cE,h0];split
   ·rename_i cs hm;rw[jg fun v hv=>nb d fun tl hid=>h tl (by simp only[cE,hm];exact aly _ (ek.2 ⟨v,hv,hid⟩))]
   rfl
  |_=>rfl
variable{p:PV}
theorem Df{t:TypeId}{k:PV→Option R}{r:R}(hs:vv E t=true)(h:iB E t p k=some r):∃q,(∀(R':Type)(k':PV→Option R'),iB E t p k'=k' q)∧k q=some r∧∀(P:Program)(μ μ':Ro)x,ah P μ p x→ah P μ' q x:=by
 unfold vv at hs;unfold iB at h;split at h
 ·rename_i q hu;obtain⟨n,hn,hk⟩:=cT.1 h;have hp:p=.int q n:=by cases p<;>simp[asInt]at hn;simp_all
  exact⟨.int q n,fun R' k'=>by simp[iB,hu,hn],hk,fun P μ μ' x hx=>by subst hp;cases hx with|int h=>exact .int h⟩
 ·rename_i hu;obtain⟨n,hn,hk⟩:=cT.1 h;have hp:p=.bool n:=by cases p<;>simp[asBool]at hn;subst hn;rfl
  exact⟨.bool n,fun R' k'=>by simp[iB,hu,hn],hk,fun P μ μ' x hx=>by subst hp;cases hx;exact .bool⟩
 ·rename_i hu;obtain⟨n,hn,hk⟩:=cT.1 h;have hp:p=.str n:=by cases p<;>simp[bu]at hn;subst hn;rfl
  exact⟨.str n,fun R' k'=>by simp[iB,hu,hn],hk,fun P μ μ' x hx=>by subst hp;cases hx with|str h=>exact .str h⟩
 all_goals simp_all
theorem K9:∀{ts:List TypeId}{ps:List PV}{k:List V→Option R}{r:R},CX E ts ps k=some r→∃vs,(∀(R':Type)(k':List V→Option R'),CX E ts ps k'=k' vs)∧k vs=some r∧vs.length=ps.length∧(∀id,b8 id vs=false)∧(∀(P:Program)(μ:Ro)(φ:Nat→aA)(i:Nat)p v x,ps[i]?=some p→vs[i]?=some v→ah P μ p x→af P μ φ v x)∧(ts.all (vv E)=true→∀(P:Program)(μ μ':Ro)(φ:Nat→aA)(i:Nat)p v x,ps[i]?=some p→vs[i]?=some v→ah P μ p x→af P μ' φ v x)
 |[],[],k,r,h=>⟨[],fun R' k'=>rfl,h,rfl,fun _=>rfl,by simp,by simp⟩
 |t::ts,p::ps,k,r,h=>by
  simp only[CX]at h;obtain⟨q,q1,q2,q3,_⟩:=ma h;obtain⟨vs,v1,v2,v3,v4,v5,v6⟩:=K9 q2;refine⟨.pv q::vs,fun R' k'=>by simp only[CX];rw[q1,v1],v2,by simp[v3],fun id=>by simp[b8,v4],fun P μ φ i p' v x hp hv hx=>?_,fun hs P μ μ' φ i p' v x hp hv hx=>?_⟩
  ·cases i with
   |zero=>simp at hp hv;subst hp;subst hv;exact .pv (q3 _ _ _ hx)
   |succ i=>grind
  ·simp only[amK,No]at hs;cases i with
   |zero=>
    simp at hp hv;subst hp;subst hv;obtain⟨q',s1,s2,s3⟩:=Df hs.1 h;have:q'=q:=by have e1:=s1 PV some;grind
    subst this;exact .pv (s3 P μ μ' x hx)
   |succ i=>grind
 |[],p::ps,k,r,h=>by simp[CX]at h
 |t::ts,[],k,r,h=>by simp[CX]at h
theorem La{n:Nat}{r:PV}{vs:List PV}(h:dn n r=some vs):r=.aO vs∧vs.length=n:=by cases r<;>simp[dn]at h;grind
variable{ts:List TypeId}
theorem Lb{k:V→Option R}{r:R}(h:CY E ts p k=some r):∃v,(∀(R':Type)(k':V→Option R'),CY E ts p k'=k' v)∧k v=some r∧(∀id,v.has id=false)∧(∀(P:Program)(μ:Ro)(φ:Nat→aA)x,ah P μ p x→af P μ φ v x)∧(ts.all (vv E)=true→∀(P:Program)(μ μ':Ro)(φ:Nat→aA)x,ah P μ p x→af P μ' φ v x):=by
 unfold CY at h;split at h
 ·obtain⟨vs,hv,hk⟩:=cT.1 h;obtain⟨rfl,hl⟩:=La hv;have:vs=[]:=akg hl;subst this;have key:∀(P:Program)(μ μ':Ro)(φ:Nat→aA)x,ah P μ (.aO []) x→af P μ' φ (.aO []) x:=fun P μ μ' φ x hx=>by
   cases hx with
   |aO h1 h2=>exact .aO h1 (by simp)
  grind [CY,V.has,b8]
 ·rename_i t;obtain⟨q,q1,q2,q3,_⟩:=ma h;refine⟨.pv q,fun R' k'=>by simp only[CY];rw[q1],q2,by simp,fun P μ φ x hx=>.pv (q3 _ _ _ hx),fun hs P μ μ' φ x hx=>?_⟩;obtain⟨q',s1,s2,s3⟩:=Df (by simpa using hs) h;have:q'=q:=by have e1:=s1 PV some;grind
  subst this;exact .pv (s3 P μ μ' x hx)
 ·rename_i ajW ajX;obtain⟨vs,hv,hk⟩:=cT.1 h;obtain⟨rfl,hl⟩:=La hv;obtain⟨us,u1,u2,u3,u4,u5,u6⟩:=K9 hk;have aeZ:((List.range ts.length).map fun j=>vs.getD j .bad)=vs:=by apply aks;grind
  rw[aeZ]at u3 u5 u6;refine⟨.aO us,fun R' k'=>?_,u2,fun id=>by simp[V.has,u4],fun P μ φ x hx=>?_,fun hs P μ μ' φ x hx=>?_⟩
  ·unfold CY;simp_all
  ·cases hx with
   |aO h1 h2=>
    refine .aO (by omega) fun i v y hv hy=>?_;have hi:i<vs.length:=by grind
    exact u5 P μ φ i _ v y (cN hi) hv (h2 i _ y (cN hi) hy)
  ·cases hx with
   |aO h1 h2=>
    refine .aO (by omega) fun i v y hv hy=>?_;have hi:i<vs.length:=by grind
    exact u6 hs P μ μ' φ i _ v y (cN hi) hv (h2 i _ y (cN hi) hy)
theorem tW:∀{args:List V}{m m':Mem}{ps:List PV},iY m args=some (ps,m')→ky m m'∧ps.length=args.length∧∀(P:Program)(G:Nat→Option (List PV))(w0:bA)(μ:Ro)(φ:Nat→aA)(w:World)(X:Nat→Value),av P G w0 μ φ m w→(∀(i:Nat)u,args[i]?=some u→af P μ φ u (X i))→∃μ',(∀b o,μ b=some o→μ' b=some o)∧av P G w0 μ' φ m' w∧∀(i:Nat)p,ps[i]?=some p→ah P μ' p (X i)
 |[],m,m',ps,h=>by simp only[iY,cO,Ua]at h;obtain⟨rfl,rfl⟩:=h;exact⟨.refl _,rfl,fun P G w0 μ φ w X hM _=>⟨μ,fun _ _ h=>h,hM,by simp⟩⟩
 |c::r,m,m',ps,h=>by
  simp only[iY]at h;split at h
  ·rename_i p m1 h1;split at h
   ·rename_i ps1 m2 h2;simp only[cO,Ua]at h;obtain⟨rfl,rfl⟩:=h;obtain⟨a1,a2⟩:=HU h1;obtain⟨b1,b2,b3⟩:=tW h2;refine⟨a1.trans b1,by simp[b2],fun P G w0 μ φ w X hM hx=>?_⟩;obtain⟨μ1,c1,c2,c3⟩:=a2 P G w0 μ φ w (X 0) hM (hx 0 c (by simp));obtain⟨μ2,d1,d2,d3⟩:=b3 P G w0 μ1 φ w (fun i=>X (i+1)) c2 (fun i u hu=>(hx (i+1) u (by simpa using hu)).zD c1);refine⟨μ2,fun b o h=>d1 b o (c1 b o h),d2,fun i q hq=>?_⟩;cases i with
    |zero=>simp at hq;subst hq;exact c3.mono d1
    |succ i=>simp_all
   ·cases h
  ·cases h
theorem Jj{m':Mem}{v:V}(h:vr cP v=some (p,m')):m'=cP:=by
 have key:∀{cs:List V}{m':Mem}{ps:List PV},mY cP cs=some (ps,m')→m'=cP:=by
  intro cs;induction cs with
  |nil=>simp[mY,cO,Ua]
  |cons c r ih=>grind [mY,si,Option.some.injEq,Prod.mk.injEq]
 unfold vr at h;grind [Option.some.injEq,Prod.mk.injEq,si]
theorem qj:∀{args:List V}{m':Mem}{ps:List PV},iY cP args=some (ps,m')→ps.length=args.length∧∀(P:Program)(μ:Ro)(φ:Nat→aA)(X:Nat→Value),(∀(i:Nat)u,args[i]?=some u→af P μ φ u (X i))→∀(i:Nat)p,ps[i]?=some p→ah P μ p (X i)
 |[],m',ps,h=>by simp only[iY,cO,Ua]at h;simp_all
 |c::r,m',ps,h=>by
  simp only[iY]at h;split at h
  ·rename_i p m1 h1;have:=Jj h1;subst this;split at h
   ·rename_i ps1 m2 h2;simp only[cO,Ua]at h;obtain⟨rfl,rfl⟩:=h;obtain⟨b2,b3⟩:=qj h2;refine⟨by simp[b2],fun P μ φ X hx i q hq=>?_⟩;cases i with
    |zero=>simp at hq;subst hq;exact De h1 P μ φ _ (hx 0 c (by simp))
    |succ i=>exact b3 P μ φ (fun i=>X (i+1)) (fun i u hu=>hx (i+1) u (by simpa using hu)) i q (by simpa using hq)
   ·cases h
  ·cases h
variable{φ:Nat→aA}
theorem aH.move{P:Program}{μ μ':Ro}{φ':Nat→aA}{w:World}{i j sz:Nat}{et:TypeId}{es:List PV}(h:aH P μ φ w i sz et es)(hφ:φ' j=φ i)(hμ:∀b o,μ b=some o→μ' b=some o):aH P μ' φ' w j sz et es:=by
 unfold aH at*;rw[hφ];obtain⟨h1,h2,h3,h4,h5,h6,h7⟩:=h;refine⟨h1,h2,h3,h4,h5,h6,?_⟩;split at h7
 ·omega
 ·obtain⟨c,T,c1,c2,c3,c4,c5⟩:=h7;exact⟨c,T,c1,c2,c3,fun i e j p x he hp hx=>(c4 i e j p x he hp hx).mono hμ,c5⟩
theorem aH.Vg{P:Program}{ν μ:Ro}{w:World}{i:Nat}{et:TypeId}{es:List PV}(h:aH P ν φ w i 1 et es):aH P μ φ w i 1 et (es.map Hu):=by
 unfold aH at*;obtain⟨h1,h2,h3,h4,h5,h6,h7⟩:=h;have hc:∀p:PV,(Hu p).cells.length=1:=fun p=>by cases p<;>rfl
 refine⟨by simpa using h1,h2,h3,h4,fun j e he=>?_,h6,?_⟩
 ·grind
 ·split at h7
  ·simp_all
  ·obtain⟨c,T,c1,c2,c3,c4,c5⟩:=h7;refine⟨c,T,c1,c2,by simpa using c3,fun j e l p x he hp hx=>?_,fun j x hj hx=>c5 j x (by simpa using hj) hx⟩;simp only[IT,acG]at he;obtain⟨q,hq,rfl⟩:=he;have hl:l=0:=by grind
   subst hl;cases q<;>(simp only[Hu,PV.cells,akG,cO]at hp;subst hp);case int=>have:=c4 j _ 0 _ x hq rfl hx;cases this with|int h=>exact .int h
   case bool=>have:=c4 j _ 0 _ x hq rfl hx;cases this;exact .bool
   case str=>have:=c4 j _ 0 _ x hq rfl hx;cases this with|str h=>exact .str h
   all_goals exact .bad
mutual
theorem Vh:∀(s:FS)(p:PV)(a:List PV),Zz s p=some a→a.length=s.n∧∀r,I0 s (a++r)=(p,r)
 |.raw,p,a,h=>by simp only[Zz,cO]at h;subst h;exact⟨rfl,fun r=>rfl⟩
 |.fn g cs,p,a,h=>by
  cases p<;>simp only[Zz]at h<;>try (cases h;done)
  split at h
  ·rename_i e;subst e;obtain⟨h1,h2⟩:=Jk cs _ a h;exact⟨by simp[FS.n,h1],fun r=>by simp[I0,h2 r]⟩
  ·cases h
 |.ptr cs,p,a,h=>by
  cases p<;>simp only[Zz]at h<;>try (cases h;done)
  obtain⟨h1,h2⟩:=Jk cs _ a h;exact⟨by simp[FS.n,h1],fun r=>by simp[I0,h2 r]⟩
theorem Jk:∀(ss:List FS)(ps:List PV)(a:List PV),KK ss ps=some a→a.length=nFs ss∧∀r,CW ss (a++r)=(ps,r)
 |[],ps,a,h=>by
  cases ps with
  |nil=>simp only[KK,cO]at h;subst h;exact⟨rfl,fun r=>rfl⟩
  |cons p ps=>simp[KK]at h
 |s::ss,ps,a,h=>by
  cases ps with
  |nil=>simp[KK]at h
  |cons p ps=>simp only[KK]at h;obtain⟨x,hx,h⟩:=cT.1 h;obtain⟨y,hy,h⟩:=cT.1 h;simp only[cO]at h;subst h;obtain⟨a1,a2⟩:=Vh s p x hx;obtain⟨b1,b2⟩:=Jk ss ps y hy;refine⟨by simp[nFs,a1,b1],fun r=>?_⟩;simp only[CW,akh,a2,b2]
end
theorem P9{s:FS}{ls:List PV}(h:Zz s p=some ls):(I0 s ((List.range s.n).map fun j=>ls.getD j .bad)).1=p:=by
 obtain⟨h1,h2⟩:=Vh s p ls h;have:((List.range s.n).map fun j=>ls.getD j .bad)=ls:=by apply aks;grind
 rw[this];have:=h2 [];simp_all
theorem Sy{fid:FuncId}{k:V→Option R}{r:R}(h:Ca E fid ts p k=some r):∃v,(∀(R':Type)(k':V→Option R'),Ca E fid ts p k'=k' v)∧k v=some r∧(∀id,v.has id=false)∧(∀(P:Program)(μ:Ro)(φ:Nat→aA)x,ah P μ p x→af P μ φ v x)∧True:=by
 unfold Ca at h;split at h
 ·rename_i s hs;obtain⟨ls,hl,hk⟩:=cT.1 h;refine⟨_,fun R' k'=>by simp_all[Ca,akj],hk,fun id=>rfl,fun P μ φ x hx=>.pv ?_,trivial⟩;rw[P9 hl];omega
 ·rename_i hs;obtain⟨v,v1,v2,v3,v4,_⟩:=Lb h;exact⟨v,fun R' k'=>by simp_all[Ca],v2,v3,v4,trivial⟩
theorem Vi(hE:ku E){draw:Bool}{site:Nat}{g:FuncId}{args:List V}{f:Fr}{m:Mem}{k:V→Fr→Mem→bq→Option R}{r:R}(h:wx E draw site g args f m k=some r):(∃v f' m' ft,k v f' m' ft=some r∧(draw=true→f'=f∧∃wr:Option (Nat×bH),m'=aeX m wr∧(∀id b,wr=some (id,b)→(true,id)∈ft)∧∀(f2:Fr)(m2:Mem),(∀x∈ft,m2 x.2=m x.2)→∀(R':Type)(k':V→Fr→Mem→bq→Option R'),wx E true site g args f2 m2 k'=k' v f2 (aeX m2 wr) ft)∧((∀x∈ft,x.1=false)→f'=f∧m'=m)∧aeY E g args f m v f' m')∨(draw=false∧Ji E.P E.aG g args f m (fun v f m=>k v f m [(true,0)]) r):=by
 have hX:∀(P:Program)(μ:Ro)(φ:Nat→aA)(xs:Array Value),args.length=xs.size→(∀(i:Nat)v x,args[i]?=some v→xs[i]?=some x→af P μ φ v x)→∀(i:Nat)u,args[i]?=some u→xs[i]?=some (xs.getD i undef)∧af P μ φ u (xs.getD i undef):=by
  intro P μ φ xs hl hr i u hu;have bZ:i<xs.size:=by grind
  have:xs[i]?=some (xs.getD i undef):=by simp_all
  grind
 unfold wx at h;split at h
 ·rename_i M Sz;obtain⟨Ur,hM⟩:=hE.ctx g M Sz;split at h
  ·rename_i fn hg;split at h
   ·rename_i Zp;split at h
    ·rename_i ps qe;obtain⟨p,hp,h⟩:=cT.1 h;obtain⟨v,v1,v2,v3,v4,v5⟩:=Lb h;refine .inl ⟨v,f,m,_,v2,fun hd=>⟨rfl,none,rfl,by simp,fun f2 m2 cL R' k'=>?_⟩,fun _=>⟨rfl,rfl⟩,Ur,fun w0 μ φ ρ w xs hR hF hl hr Ja=>?_⟩
     ·have M9:qT (lF m2 eE) args=qT (lF m eE) args:=mI fun v hv=>rF _ fun id hid=>cL (false,id) (by simp only[akt];exact⟨id,ek.2 ⟨v,hv,hid⟩,rfl⟩);have pP:((iW (cE m2 eE) args).map fun i=>(false,i))=((iW (cE m eE) args).map fun i=>(false,i)):=by have:iW (cE m2 eE) args=iW (cE m eE) args:=jg fun v hv=>nb _ fun id hid=>cL (false,id) (by simp only[akt];exact⟨id,ek.2 ⟨v,hv,hid⟩,rfl⟩);rw[this]
      simp only[wx,Sz,hg];rw[AI Zp];simp only[M9,qe,hp,akj,pP];rw[v1];rfl
     ·obtain⟨p1,p2⟩:=gT qe;refine(hM ps p hp w (jd w) xs (fun _ _ h=>h) (fun g cs hg=>(hR.aG g cs hg).mono hR.yW) (by omega) (fun i q x hq hx=>?_)).mono ?_
      ·obtain⟨u,hu,hf⟩:=p2 i q hq;exact uK hR hR.yW (fun _ _ _ _ _=>rfl) _ hf (hr i u x hu hx)
      ·rintro e w' ⟨y,rfl,hb,hy⟩;exact⟨y,cm μ w w',φ,rfl,hR.called hb,hF.nA (kU hR w') (.refl _),v5 Zp E.P _ _ φ y hy,fun id hid=>by simp_all⟩
    ·cases h
   ·rename_i Zp;split at h
    ·rename_i ps m1 qe;obtain⟨p,hp,h⟩:=cT.1 h;obtain⟨v,v1,v2,v3,v4,v5⟩:=Sy h;cases draw with
     |true=>
      simp only[Ko]at qe v2;obtain⟨q1,q2⟩:=qj qe;refine .inl ⟨v,f,m,_,v2,fun _=>⟨rfl,none,rfl,by simp,fun f2 m2 cL R' k'=>?_⟩,fun _=>⟨rfl,rfl⟩,Ur,fun w0 μ φ ρ w xs hR hF hl hr Ja=>?_⟩
      ·simp only[wx,Sz,hg];rw[IS Zp];simp only[Ko,qe,hp,akj];rw[v1];rfl
      ·refine(hM ps p hp w μ xs hR.ro hR.aG (by omega) (fun i q x hq hx=>?_)).mono ?_
       ·have:=q2 E.P μ φ (fun i=>xs.getD i undef) (fun i u hu=>(hX E.P μ φ xs hl hr i u hu).2) i q hq;simp_all
       ·rintro e w' ⟨y,rfl,hb,hy⟩;exact⟨y,cm μ w w',φ,rfl,hR.called hb,hF.nA (kU hR w') (.refl _),v4 E.P _ φ y hy,fun id hid=>by simp_all⟩
     |false=>
      simp only[cQ,abp]at qe v2;obtain⟨q0,q1,q2⟩:=tW qe;refine .inl ⟨v,f,m1,_,v2,fun hd=>by(cases hd),fun hq=>absurd (hq (true,0) (by simp)) (by simp),Ur,fun w0 μ φ ρ w xs hR hF hl hr Ja=>?_⟩;obtain⟨μ1,r1,r2,r3⟩:=q2 E.P E.aG w0 μ φ w (fun i=>xs.getD i undef) hR (fun i u hu=>(hX E.P μ φ xs hl hr i u hu).2);refine(hM ps p hp w μ1 xs r2.ro r2.aG (by omega) (fun i q x hq hx=>?_)).mono ?_
      ·have:=r3 i q hq;have bZ:i<xs.size:=(abq.1 hx).1;simp_all[undef,OF,cO,Array.getD]
      ·rintro e w' ⟨y,rfl,hb,hy⟩;exact⟨y,cm μ1 w w',φ,rfl,r2.called hb,hF.nA (fun b o h=>kU r2 w' b o (r1 b o h)) q0,v4 E.P _ φ y hy,fun id hid=>by grind⟩
    ·cases h
  ·cases h
 ·rename_i Sz;split at h
  ·rename_i M Ci;obtain⟨Ur,hM⟩:=hE.own g M Ci;split at h
   ·rename_i fn hg;split at h
    ·rename_i t ht;split at h
     ·rename_i e hu;split at h
      ·rename_i Zp;obtain⟨Zp,uO⟩:=Zp;split at h
       ·rename_i ps qe;obtain⟨p,hp,h⟩:=cT.1 h;obtain⟨es,Kx,h⟩:=cT.1 h;obtain⟨f',m',n1,n2,n3,n4,n5⟩:=ef h;refine .inl ⟨_,f',m',_,n2,fun hd=>?_,fun hq=>absurd (hq (true,site) (by simp)) (by simp),Ur,fun w0 μ φ ρ w xs hR hF hl hr Ja=>?_⟩
        ·obtain⟨d1,d2,d3⟩:=n4 hd;subst hd;refine⟨d2,some (site,_),d3,by simp,fun f2 m2 cL R' k'=>?_⟩;have M9:qT (lF m2 eE) args=qT (lF m eE) args:=mI fun v hv=>rF _ fun id hid=>cL (false,id) (by simp only[aku,akt];exact .inr ⟨id,ek.2 ⟨v,hv,hid⟩,rfl⟩);have pP:iW (cE m2 eE) args=iW (cE m eE) args:=jg fun v hv=>nb _ fun id hid=>cL (false,id) (by simp only[aku,akt];exact .inr ⟨id,ek.2 ⟨v,hv,hid⟩,rfl⟩);simp only[wx,Sz,Ci,hg,ht,hu];rw[AI ⟨Zp,uO⟩];simp only[M9,qe,hp,akj,Kx,pP];have hs2:m2 site=none:=by rw[cL (true,site) (by simp)];omega
         simp only[fresh,hs2];rfl
        ·obtain⟨p1,p2⟩:=gT qe;refine(hM fn t e hg ht hu ps p hp w (jd w) xs (fun _ _ h=>h) (fun g cs hg=>(hR.aG g cs hg).mono hR.yW) (by omega) (fun i q x hq hx=>?_)).mono ?_
         ·obtain⟨u,sd,hf⟩:=p2 i q hq;exact uK hR hR.yW (fun _ _ _ _ _=>rfl) _ hf (hr i u x sd hx)
         rintro en w' ⟨y,ph,es',rfl,hb,rfl,G6,hA,hy⟩;have acU:es'=es:=by simp only[aw,Ko,cO]at Kx;omega
         subst acU;rw[uO]at hA;have hA2:aH E.P (nu (cm μ w w') ph.g) (fun _=>ph) w' 0 1 e (es'.map Hu):=hA.Vg;have HV:=hR.HN hb G6;have ZV:bR E.P (nu (cm μ w w') ph.g) φ m f ρ:=hF.nA (fun b o h=>Ak hR w' G6 b o h) (.refl _);have hP:lH E.P w0 (nu (cm μ w w') ph.g) φ m w' w' site (.arr (aN E.P e) e (es'.map Hu)) ph:=by
          refine⟨lM.refl _ _,HV.ro,fun _ _ _ _ _=>rfl,fun g hg=>⟨?_,?_,?_⟩,fun φ' hp _=>by rw[uO];exact hA2.move hp (fun _ _ h=>h),by simp[bH.names],fun st h=>by cases h⟩
          ·have:=G6 g hg;have:=hR.below.size;grind
          ·simp[nu,hg]
          ·intro id b' jc cS;have h1:=(hR.dy id b' jc).EV cS;grind
         obtain⟨φ',a1,a2,a3⟩:=n5 E.P E.aG w0 _ φ w' w' ρ ph HV ZV hP;refine⟨y,_,φ',rfl,a2,a3,?_,fun id hid=>?_⟩
         ·cases hy with
          |tp h=>exact .tp (by rw[a1];omega)
          | @os _ g h=>have:=af.os (P:=E.P) (μ:=nu (cm μ w w') ph.g) (φ:=φ') (id:=site) (g:=g) (by rw[a1];omega);grind
         ·have hid:=IN hid;subst hid;simp[n3]
       ·cases h
      rename_i Zp;split at h
      ·rename_i ps m1 qe;obtain⟨p,hp,h⟩:=cT.1 h;obtain⟨es,Kx,h⟩:=cT.1 h;obtain⟨f',m',n1,n2,n3,n4,n5⟩:=ef h;have fin:∀(w0:bA)(μ μ1:Ro)(φ:Nat→aA)(ρ:Nat→Value)(w:World)(xs:Array Value),(∀b o,μ b=some o→μ1 b=some o)→ky m (if draw then m else m1)→av E.P E.aG w0 μ1 φ (if draw then m else m1) w→bR E.P μ φ m f ρ→ps.length=xs.size→(∀(i:Nat)p x,ps[i]?=some p→xs[i]?=some x→ah E.P μ1 p x)→Calls E.P g xs w fun e w'=>∃y μ' φ',e=.returned y∧av E.P E.aG w0 μ' φ' m' w'∧bR E.P μ' φ' m' f' ρ∧af E.P μ' φ' (.os site) y∧∀id,(V.os site).has id=true→(m' id).isSome=true:=by
        intro w0 μ μ1 φ ρ w xs hle Ja hR hF hl hr;refine(hM fn t e hg ht hu ps p hp w μ1 xs hR.ro hR.aG hl hr).mono ?_;rintro en w' ⟨y,ph,es',rfl,hb,rfl,G6,hA,hy⟩;have acU:es'=es:=by simp only[aw,Ko,cO]at Kx;omega
        subst acU;have HV:=hR.HN hb G6;have ZV:bR E.P (nu (cm μ1 w w') ph.g) φ (if draw then m else m1) f ρ:=hF.nA (fun b o h=>Ak hR w' G6 b o (hle b o h)) Ja;have hP:lH E.P w0 (nu (cm μ1 w w') ph.g) φ (if draw then m else m1) w' w' site (.arr (aN E.P e) e es') ph:=by
         refine⟨lM.refl _ _,HV.ro,fun _ _ _ _ _=>rfl,fun g hg=>⟨?_,?_,?_⟩,fun φ' hp _=>hA.move hp (fun _ _ h=>h),by simp[bH.names],fun st h=>by cases h⟩
         ·have:=G6 g hg;have:=hR.below.size;grind
         ·simp[nu,hg]
         ·intro id b' jc cS;have h1:=(hR.dy id b' jc).EV cS;grind
        obtain⟨φ',a1,a2,a3⟩:=n5 E.P E.aG w0 _ φ w' w' ρ ph HV ZV hP;refine⟨y,_,φ',rfl,a2,a3,?_,fun id hid=>?_⟩
        ·cases hy with
         |tp h=>exact .tp (by rw[a1];omega)
         | @os _ g h=>have:=af.os (P:=E.P) (μ:=nu (cm μ1 w w') ph.g) (φ:=φ') (id:=site) (g:=g) (by rw[a1];omega);grind
        ·have hid:=IN hid;subst hid;simp[n3]
       cases draw with
       |true=>
        simp only[Ko]at qe n2 fin n4;obtain⟨q1,q2⟩:=qj qe;obtain⟨d1,d2,d3⟩:=n4 trivial;refine .inl ⟨_,f',m',_,n2,fun _=>⟨d2,some (site,_),d3,by simp,fun f2 m2 cL R' k'=>?_⟩,fun hq=>absurd (hq (true,site) (by simp)) (by simp),Ur,fun w0 μ φ ρ w xs hR hF hl hr Ja=>?_⟩
        ·simp only[wx,Sz,Ci,hg,ht,hu];rw[IS Zp];simp only[Ko,qe,hp,akj,Kx];have hs2:m2 site=none:=by rw[cL (true,site) (by simp)];omega
         simp only[fresh,hs2];rfl
        ·refine fin w0 μ μ φ ρ w xs (fun _ _ h=>h) (.refl _) hR hF (by omega) fun i q x hq hx=>?_;have:=q2 E.P μ φ (fun i=>xs.getD i undef) (fun i u hu=>(hX E.P μ φ xs hl hr i u hu).2) i q hq;have bZ:i<xs.size:=(abq.1 hx).1;have e:xs.getD i undef=x:=by rw[OF bZ]at hx;simp only[cO]at hx;simp[Array.getD,bZ,hx]
         rw[←e];omega
       |false=>
        simp only[cQ,abp]at qe n2 fin n4;obtain⟨q0,q1,q2⟩:=tW qe;refine .inl ⟨_,f',m',_,n2,fun hd=>by(cases hd),fun hq=>absurd (hq (true,site) (by simp)) (by simp),Ur,fun w0 μ φ ρ w xs hR hF hl hr Ja=>?_⟩;obtain⟨μ1,r1,r2,r3⟩:=q2 E.P E.aG w0 μ φ w (fun i=>xs.getD i undef) hR (fun i u hu=>(hX E.P μ φ xs hl hr i u hu).2);refine fin w0 μ μ1 φ ρ w xs r1 q0 r2 hF (by omega) fun i q x hq hx=>?_;have:=r3 i q hq;have bZ:i<xs.size:=(abq.1 hx).1;have e:xs.getD i undef=x:=by rw[OF bZ]at hx;simp only[cO]at hx;simp[Array.getD,bZ,hx]
        rw[←e];omega
      ·cases h
     ·cases h
    ·cases h
   ·cases h
  ·split at h
   ·cases h
   ·rename_i hd;exact .inr ⟨by simpa using hd,hE.inl _ _ _ _ _ _ _ _ h⟩
end
end Go.Ab
