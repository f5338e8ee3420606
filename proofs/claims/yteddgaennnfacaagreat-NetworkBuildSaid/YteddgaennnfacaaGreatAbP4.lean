import Derived.Test.YteddgaennnfacaaGreatAbP3
import Derived.WideKeyRuns
import Derived.MapKept
import Derived.RangeFuncRecord
set_option linter.all false
namespace Go.Ab
open Go.RowKit (Below)
section
variable {R:Type} {E:Env}
theorem cells_one{x:Value}(h:x.oneCell'=true):x.cells= #[x]:=by cases x<;>first|rfl|(simp[Value.oneCell']at h)
theorem ao.elem{P:Program}{μ:Ro}{n:Nat}{p:PV}{x:Value}(h:ao P μ p x)(hl:p.cells.length=n)(hp:p.plain=true):wA P μ n p x:=by
 cases hq:p.isAgg with
 |true=>
  cases p<;>simp[PV.isAgg]at hq;cases h with
  |agg h1 h2 h3=>exact⟨hl,by simp_all[PV.cells,Value.cells],h2,h3⟩
 |false=>
  have hc:p.cells=[p]:=by cases p<;>first|rfl|(simp[PV.isAgg]at hq)
  have h1:x.oneCell'=true:=h.one (fun cs e=>by subst e;simp[PV.isAgg]at hq) (fun cs e=>by subst e;simp[PV.plain]at hp) (fun e=>by subst e;simp[PV.plain]at hp);have hx:=cells_one h1;refine⟨hl,by simp_all,fun j q y hj hy=>?_,fun j y hy=>?_⟩
  ·grind
  grind
variable{t:TypeId}
theorem Fb{z:PV}(h:E3 E t=some z):∃i zv,E.P.info? t=some i∧i.zero=some zv∧i.size=aV E.P t∧(∀μ,ao E.P μ z zv)∧∀μ,wA E.P μ (aV E.P t) z zv:=by
 unfold E3 zeroV at h;cases hi:E.P.info? t with
 |none=>simp[hi]at h
 |some i=>
  cases hz:i.zero with
  |none=>simp[hi,hz]at h
  |some zv=>
   simp only[hi,hz,alr,No]at h;split at h
   ·rename_i p hp;split at h
    ·rename_i hc;simp only[By]at h;subst h;have hr:∀μ,ao E.P μ p zv:=fun μ=>xH 2 hp (xE (φ:=fun _=>default) zv);exact⟨i,zv,rfl,hz,by simp[aV,hi],hr,fun μ=>(hr μ).elem hc.2.1 hc.2.2⟩
    ·cases h
   ·cases h
theorem Qg{z:PV}(h:E3 E t=some z):∃zv,(∀w,(zeroValue t).run E.P w=.ok zv w)∧∀μ,ao E.P μ z zv:=by obtain⟨i,zv,h1,h2,h3,h4,_⟩:=Fb h;simp_all[qx]
theorem Cells.made{P:Program}{μ:Ro}{sz:Nat}{z:PV}{zv:Value}(hE:wA P μ sz z zv)(ez:0<sz)(n cap:Nat)(hn:n≤cap):Cells P μ sz (List.replicate n z) ((madeCells zv.cells (cap*sz)).toList.take ((List.replicate n z).length*sz)):=by
 have hle:n*sz≤cap*sz:=alo _ hn;have fo:∀k y,((madeCells zv.cells (cap*sz)).toList.take ((List.replicate n z).length*sz))[k]?=some y→zv.cells[k%sz]?=some y:=by
  intro k y hk;obtain⟨h1,h2⟩:=iF hk;simp only[al5]at h1;have bQ:k%sz<zv.cells.size:=by rw[hE.size];exact aok _ ez
  rw[al3,madeCells,Array.getElem?_map,Array.getElem?_range]at h2;rw[T0 (by omega)]at h2;simp only[No,By,hE.size]at h2;simp_all
 refine⟨by rw[alF,al5,anK,size_madeCells];omega,fun i e hi=>?_,fun i e j p y hi hj hy=>?_,fun k y hk=>hE.one _ y (fo k y hk)⟩
 ·rw[an1]at hi;split at hi
  ·simp only[By]at hi;subst hi;exact hE.len
  ·cases hi
 ·rw[an1]at hi;split at hi
  ·simp only[By]at hi;subst hi;have rz:j<sz:=by rw[←hE.len];grind
   have:=fo _ y hy;rw[anE,Nat.mul_add_mod,Nat.mod_eq_of_lt rz]at this;exact hE.rep j p y hj this
  ·cases hi
theorem JY{draw:Bool}{site:Nat}{len cap:V}{f:Fr}{m:Mem}{k:V→Fr→Mem→bD→Option R}{r:R}(h:tN E draw site t len cap f m k=some r):∃f' m' b,(draw=true→m site=none∧f'=f∧m'=aw m site b∧∀(f2:Fr)(m2:Mem),m2 site=none→∀(R':Type)(k':V→Fr→Mem→bD→Option R'),tN E true site t len cap f2 m2 k'=k' (.os site) f2 (aw m2 site b) [(true,site)])∧k (.os site) f' m' [(true,site)]=some r∧(m' site).isSome=true∧∀(G:Nat→Option (List PV))(w0:bE)(μ:Ro)(φ:Nat→aI)(w:World)(ρ:Nat→Value)(yl yc:Value),aA E.P G w0 μ φ m w→cg E.P μ φ m f ρ→an E.P μ φ len yl→an E.P μ φ cap yc→∃w' y φ',(Instr.makeSlice t yl yc).run E.P w=.ok y w'∧aA E.P G w0 μ φ' m' w'∧cg E.P μ φ' m' f' ρ∧an E.P μ φ' (.os site) y:=by
 unfold tN at h;split at h
 ·rename_i e ql n qc c hu;split at h
  ·rename_i z hz;split at h
   ·rename_i hb;obtain⟨f',m',_,hk,zS,Ai,zG⟩:=cv h;refine⟨f',m',.arr (aV E.P e) e (List.replicate n.toNat z),fun hd=>?_,hk,by simp[zS],fun G w0 μ φ w ρ yl yc hM hF hl hc=>?_⟩
    ·simp_all[tN,T0,fresh]
    ·obtain⟨i,zv,h1,h2,h3,_,h4⟩:=Fb hz;obtain⟨hib,_⟩:=KJ h1;have hc1:c.toNat≤140737488355328:=by have:c.toNat*1≤c.toNat*JP E.P e:=amL _ hb.2.2.2.1;grind [ag]
     cases hl with
     |pv hl=>cases hl with
      |int wl=>
       cases hc with
       |pv hc=>cases hc with
        |int wc=>
         have adM:(i.bytes:Int)*c≤281474976710656:=by grind [ag,JP,Int.natCast_mul,Int.toNat_of_nonneg,Int.mul_comm]
         have hr:=run_make (P:=E.P) w t e i zv hu h1 h2 ql qc n c hb.1 hb.2.1 adM (by omega);rw[h3]at hr;obtain⟨φ',a1,a2,a3⟩:=zG E.P G w0 μ φ w _ ρ (G0 (some w.heap.size) c.toNat (List.replicate n.toNat z).length (aV E.P e)) hM hF (lB.alloc (o:=.cells (madeCells zv.cells (c.toNat*aV E.P e)) e) hM rfl (fun φ' hp _=>aN.rA (g:=w.heap.size) (by rw[hp]) rfl hb.2.2.2.2 (by rw[hp];simp only[maxLen];omega) (fP w _) (by rw[hp];simp[size_madeCells]) (by rw[hp];simp;omega) (Cells.made (h4 μ) hb.2.2.2.2 _ _ (by omega))) (by simp[bK.names]));refine⟨_,_,φ',hr,a2,a3,?_⟩;have:=an.os (P:=E.P) (μ:=μ) (φ:=φ') (id:=site) (g:=w.heap.size) (by rw[a1]);simp_all
   ·cases h
  ·cases h
 ·cases h
theorem Qh(cells:Array Value)(n:Nat):Builtin.zeroCells cells n=madeCells cells (n*cells.size):=rfl
theorem UH{x:V}{m:Mem}{k:V→Mem→bD→Option R}{r:R}(h:Hy E t x m k=some r):∃id b,(∀m2:Mem,m2 id=m id→∀(R':Type)(k':V→Mem→bD→Option R'),Hy E t x m2 k'=k' .top (aw m2 id b) [(true,id)])∧k .top (aw m id b) [(true,id)]=some r∧∀(G:Nat→Option (List PV))(w0:bE)(μ:Ro)(φ:Nat→aI)(w:World)(ρ:Nat→Value)(f:Fr)(yx:Value)(ts:List TypeId)(ty:TypeId),aA E.P G w0 μ φ m w→cg E.P μ φ m f ρ→an E.P μ φ x yx→∃w',(Builtin.clear_ (t::ts).toArray ty #[yx]).run E.P w=.ok (.tuple #[]) w'∧aA E.P G w0 μ φ (aw m id b) w'∧cg E.P μ φ (aw m id b) f ρ:=by
 unfold Hy at h;split at h
 ·rename_i e hu;split at h
  ·rename_i id lo len z hz;split at h
   ·rename_i sz et es hm;split at h
    ·rename_i hc;obtain⟨pT,rfl,hle,ez⟩:=hc;refine⟨id,_,fun m2 cS R' k'=>?_,h,fun G w0 μ φ w ρ f yx ts ty hM hF hx=>?_⟩
     ·simp_all[Hy,T0,trivial]
     ·obtain⟨i,zv,h1,h2,h3,h4,h5⟩:=Fb hz;have hA:aN E.P μ φ w id sz et es:=hM.dJ id _ hm;have af7:len=0→aw m id (.arr sz et (es.take lo++(List.replicate len z++es.drop (lo+len))))=m:=by
       intro h0;subst h0;rw[List.replicate_zero,amC,am1,List.take_append_drop];funext j;by_cases ej:j=id
       ·subst ej;simp[hm]
       ·rw[ax ej]
      cases hx with
      |tQ hg=>rw[af7 rfl];simp_all[Builtin.clear_,run_underlying]
      | @fS _ _ _ cap g a hg hl ha hc1 WH=>
       by_cases h0:len=0
       ·simp_all[Builtin.clear_,run_underlying]
       ·have sU:=hA.ry;have Sr:=hA.1;have akZ:=hA.2.1;have af8:a=⟨g,lo*sz,none⟩:=by grind
        subst af8;obtain⟨c,T,c1,c2,c3,c4,c5⟩:=hA.cells hg;have Ss:zv.cells.size=sz:=by rw[(h5 μ).size,pT]
        have hn:len*zv.cells.size=len*sz:=by rw[Ss]
        have hlen:(madeCells zv.cells (len*sz)).toList.length=len*sz:=by simp[size_madeCells]
        have PL:(lo+len)*sz≤es.length*sz:=alo _ hle;have vE:(lo+len)*sz=lo*sz+len*sz:=amb _ _ _;have yA:=Cells.made (P:=E.P) (μ:=μ) (by rw[←pT]at h5;exact h5 μ) (by omega) len len (alz _);have xG:∀v∈(madeCells zv.cells (len*sz)).toList,v.oneCell'=true:=fun v hv=>by obtain⟨j,hj⟩:=alR hv;refine yA.one j v ?_;grind
        have nO:=run_storeCells_at E.P g (lo*sz) T (madeCells zv.cells (len*sz)).toList 0 c w c1 (by omega) xG;rw[hlen,am1]at nO;have hnl:(es.take lo++(List.replicate len z++es.drop (lo+len))).length=es.length:=by simp;omega
        refine⟨w.setRow g (c.toList.take (lo*sz)++(madeCells zv.cells (len*sz)).toList++c.toList.drop (lo*sz+len*sz)).toArray,?_,hM.write hm rfl hg (lL.setRow (alz _)) setRow_size (fun k hk=>cj hk) ?_ rfl (by simp[bK.names]),hF.nP (fun _ _ h=>h) .set⟩
        ·obtain⟨n',rfl⟩:∃n',len=n'+1:=⟨len-1,by omega⟩;simp_all[Builtin.clear_,run_underlying,qx,Qh]
        ·refine aN.rA (g:=g) ?_ hA.2.2.1 hA.2.2.2.1 sU.2 (setRow_heap w g c _ T (0,0) c1) ?_ (by omega) ?_
         ·rw[hnl,←hA.1,←hA.2.1];cases hq:(φ id).toGe with
          |mk a b c d=>simp_all
         ·grind
         ·rw[hnl];have hM2:Cells E.P μ sz (List.replicate len z) (madeCells zv.cells (len*sz)).toList:=by grind
          have hX:=(c5.take lo).append (hM2.append (c5.drop (lo+len)));have e1:(c.toList.take (lo*sz)++(madeCells zv.cells (len*sz)).toList++c.toList.drop (lo*sz+len*sz)).take (es.length*sz)=(c.toList.take (es.length*sz)).take (lo*sz)++((madeCells zv.cells (len*sz)).toList++(c.toList.take (es.length*sz)).drop ((lo+len)*sz)):=by
           have l1:(c.toList.take (lo*sz)).length=lo*sz:=by grind
           have l2:(c.toList.take (lo*sz)++(madeCells zv.cells (len*sz)).toList).length=lo*sz+len*sz:=by simp_all
           grind [List.take_append,List.take_of_length_le,Nat.min_eq_left,List.drop_take,List.append_assoc]
          rw[e1];omega
    ·cases h
   ·cases h
  ·cases h
 ·cases h
theorem Gl(off:Nat):∀(l:List Value)(k:Nat)(c:Array Value),off+k+l.length≤c.size→(l.zipIdx k).foldl (fun cs(x:Value×Nat)=>cs.setIfInBounds (off+x.2) x.1) c=(bN c.toList (off+k) l).toArray
 |[],k,c,_=>by simp[dZ]
 |v::r,k,c,h=>by simp only[List.zipIdx_cons,ans];rw[Gl off r (k+1) _ (by simp at h⊢;omega)];congr 1;have e:=list_seg_step c.toList (off+k) v r (by omega);simp_all[dZ,anM,al9]
theorem BP{place:Nat→Option (Nat×Nat)}{c:Array Value}{i off size:Nat}{v:Value}{rest:List (Nat×Value)}(hp:place i=some (off,size))(hv:v.cells.size=size)(hb:off+size≤c.size):Instr.fill place c ((i,v)::rest)=Instr.fill place (bN c.toList off v.cells.toList).toArray rest:=by
 have h1:v.cells.zipIdx.foldl (fun cs(x:Value×Nat)=>cs.setIfInBounds (off+x.2) x.1) c=(bN c.toList off v.cells.toList).toArray:=by rw[←Array.foldl_toList,Array.toList_zipIdx];simp_all[Gl]
 simp_all[Instr.fill,acB]
theorem HZ{place:Nat→Option (Nat×Nat)}:∀{parts:List (Nat×V)}{cs ND:List V},Kk place cs parts=some ND→(∀id,cu id ND=true→cu id cs=true∨cu id (parts.map (·.2))=true)∧ND.length=cs.length∧∀(P:Program)(μ:Ro)(φ:Nat→aI)(c:Array Value)(du:List (Nat×Value)),du.length=parts.length→(∀(j i:Nat)v,parts[j]?=some (i,v)→∃y,du[j]?=some (i,y)∧an P μ φ v y)→c.size=cs.length→(∀(i:Nat)u y,cs[i]?=some u→c[i]?=some y→an P μ φ u y)→(∀(i:Nat)(y:Value),c[i]?=some y→y.oneCell'=true)→∃c',Instr.fill place c du=some c'∧c'.size=ND.length∧(∀(i:Nat)u y,ND[i]?=some u→c'[i]?=some y→an P μ φ u y)∧(∀(i:Nat)(y:Value),c'[i]?=some y→y.oneCell'=true)
 |[],cs,ND,h=>by simp only[Kk,By]at h;subst h;refine⟨fun id hid=>.inl hid,rfl,fun P μ φ c du hl _ hs hr h1=>?_⟩;have:du=[]:=alv (by simpa using hl);subst this;exact⟨c,rfl,hs,hr,h1⟩
 |(i,v)::rest,cs,ND,h=>by
  simp only[Kk]at h;split at h
  ·rename_i off size hp;split at h
   ·rename_i new hn;split at h
    ·rename_i hb;obtain⟨n1,n2,n3⟩:=toCells_ok hn;obtain⟨f1,f2,f3⟩:=HZ h;have hlen:(bN cs off new).length=cs.length:=cF (by omega);refine⟨fun id hid=>?_,by rw[f2,hlen],fun P μ φ c du hl nq hs hr h1=>?_⟩
     ·rcases f1 id hid with h|h
      ·obtain⟨u,hu,hh⟩:=cN.1 h;simp only[dZ,alM]at hu;rcases hu with(hu|hu)|hu
       ·exact .inl (bO (amG hu) hh)
       ·exact .inr (by simp only[alu,cu,aly];exact .inl (n2 id (bO hu hh)))
       ·exact .inl (bO (anc hu) hh)
      ·exact .inr (by simp only[alu,cu,aly];exact .inr h)
     ·obtain⟨y,hy,hvy⟩:=nq 0 i v (by simp);cases du with
      |nil=>simp at hl
      |cons a nK=>
       simp at hy;subst hy;obtain⟨x1,x2,x3⟩:=n3 P μ φ y hvy;rw[BP hp x1 (by omega)];have nQ:off+y.cells.toList.length≤c.toList.length:=by simp;omega
       have e1:y.cells.toList.length=new.length:=by simp;omega
       refine f3 P μ φ _ nK (by simpa using hl) (fun j i' v' hj=>?_) ?_ (fun j u z hu hz=>?_) (fun j z hz=>?_)
       ·have:=nq (j+1) i' v' (by simpa using hj);simpa using this
       ·simp only[amr];rw[cF nQ,hlen];simp[hs]
       ·rw[alY]at hz;rcases dt nQ hz with⟨b1,b2,b3⟩|⟨b1,b2⟩<;>rcases dt (by omega) hu with⟨d1,d2,d3⟩|⟨d1,d2⟩
        ·exact x2 _ u z d3 (by simpa using b3)
        ·exfalso;omega
        ·exfalso;omega
        ·exact hr j u z d2 (by simpa using b2)
       ·rw[alY]at hz;rcases dt nQ hz with⟨b1,b2,b3⟩|⟨b1,b2⟩
        ·exact x3 _ z (by simpa using b3)
        ·exact h1 j z (by simpa using b2)
    ·cases h
   ·cases h
  ·cases h
theorem H0:∀{fs:List Field},fs.all (fun f=>(E.P.info? f.type).isSome)=true→fs.mapM (fun f=>(E.P.info? f.type).map fun i=>(f.offset,i.size))=some (fs.map fun f=>(f.offset,aV E.P f.type))
 |[],_=>rfl
 |f::r,h=>by simp only[an5,ale]at h;obtain⟨i,hi⟩:=alK.1 h.1;simp only[anU,hi,No,H0 h.2,alu];simp[aV,hi]
theorem UI{parts:List (Nat×V)}{k:V→Option R}{r:R}(h:E2 E t parts k=some r):∃v,(∀(R':Type)(k':V→Option R'),E2 E t parts k'=k' v)∧k v=some r∧(∀id,v.has id=true→cu id (parts.map (·.2))=true)∧∀(μ:Ro)(φ:Nat→aI)(w:World)(du:Array (Nat×Value)),du.size=parts.length→(∀(j i:Nat)v,parts[j]?=some (i,v)→∃y,du[j]?=some (i,y)∧an E.P μ φ v y)→∃z,(Instr.build t du).run E.P w=.ok z w∧an E.P μ φ v z:=by
 unfold E2 at h;split at h
 ·rename_i z fs hz hu;split at h
  ·rename_i vu;split at h
   ·rename_i cs hf;obtain⟨i,zv,h1,h2,h3,h4,h5,h6,h7,h8⟩:=eK hz;obtain⟨f1,f2,f3⟩:=HZ hf;refine⟨_,fun R' k'=>by simp_all[E2,T0],h,fun id hid=>?_,fun μ φ w du hl hp=>?_⟩
    ·grind [V.has,id]
    ·obtain⟨c',c1,c2,c3,c4⟩:=f3 E.P μ φ zv.cells du.toList (by omega) (fun j i v hj=>by simpa using hp j i v hj) (by omega) (h7 μ φ) h8;refine⟨_,run_build w t du c' ?_,.agg c2.symm c3 c4⟩;simp only[Program.built,h1,hu,h2,H0 vu];rw[←c1];congr 1;funext j;simp[placesOf]
   ·cases h
  ·cases h
 ·rename_i z n e hz hu;split at h
  ·rename_i ez;split at h
   ·rename_i cs hf;obtain⟨i,zv,h1,h2,h3,h4,h5,h6,h7,h8⟩:=eK hz;obtain⟨f1,f2,f3⟩:=HZ hf;refine⟨_,fun R' k'=>by simp_all[E2,T0],h,fun id hid=>?_,fun μ φ w du hl hp=>?_⟩
    ·grind [V.has,id]
    ·obtain⟨c',c1,c2,c3,c4⟩:=f3 E.P μ φ zv.cells du.toList (by omega) (fun j i v hj=>by simpa using hp j i v hj) (by omega) (h7 μ φ) h8;obtain⟨ie,hie,hse⟩:=BJ (P:=E.P) (t:=e) (by omega);refine⟨_,run_build w t du c' ?_,.agg c2.symm c3 c4⟩;simp only[Program.built,h1,hu,h2,hie,hse];omega
   ·cases h
  ·cases h
 ·cases h
theorem wC{n:Nat}{agg:Bool}:∀{parts:List (Nat×V)}{m m':Mem}{i:Nat}{ps:List PV},fl m n agg i parts=some (ps,m')→ky m m'∧ps.length=parts.length∧∀(P:Program)(G:Nat→Option (List PV))(w0:bE)(μ:Ro)(φ:Nat→aI)(w:World)(du:List (Nat×Value))(es:List PV)(c:Array Value),aA P G w0 μ φ m w→du.length=parts.length→(∀(j i:Nat)v,parts[j]?=some (i,v)→∃y,du[j]?=some (i,y)∧an P μ φ v y)→es.length=i→c.size=(i+parts.length)*n→Cells P μ n es (c.toList.take (es.length*n))→∃μ' c',(∀b o,μ b=some o→μ' b=some o)∧aA P G w0 μ' φ m' w∧Instr.fill (fun i=>some (i*n,n)) c du=some c'∧c'.size=(i+parts.length)*n∧Cells P μ' n (es++ps) c'.toList
 |[],m,m',i,ps,h=>by
  simp only[fl,By,akj]at h;obtain⟨rfl,rfl⟩:=h;refine⟨.refl _,rfl,fun P G w0 μ φ w du es c hM hl _ he hc hC=>⟨μ,c,fun _ _ h=>h,hM,?_,hc,?_⟩⟩
  ·have:du=[]:=alv (by omega);subst this;rfl
  simp_all[alO,alU,alz]
 |(j,v)::r,m,m',i,ps,h=>by
  simp only[fl]at h;split at h
  ·rename_i St;subst St;split at h
   ·rename_i p m1 hf;split at h
    ·rename_i ps1 m2 hr;simp only[By,akj]at h;obtain⟨rfl,rfl⟩:=h;obtain⟨a1,a2⟩:=HT hf;obtain⟨b1,b2,b3⟩:=wC hr;refine⟨a1.trans b1,by simp[b2],fun P G w0 μ φ w du es c hM hl hp he hc hC=>?_⟩;obtain⟨y,hy,hvy⟩:=hp 0 i v (by simp);cases du with
     |nil=>simp at hl
     |cons a nK=>
      simp at hy;subst hy;obtain⟨μ1,c1,c2,c3⟩:=a2 P G w0 μ φ w y hM hvy;have nQ:i*n+n≤c.size:=by grind
      have hyl:y.cells.toList.length=n:=by simpa using c3.size
      have ac0:i*n+y.cells.toList.length≤c.toList.length:=by simp_all
      obtain⟨μ2,c',d1,d2,d3,d4,d5⟩:=b3 P G w0 μ1 φ w nK (es++[p]) (bN c.toList (i*n) y.cells.toList).toArray c2 (by simpa using hl) (fun j i' v' hj=>by
       obtain⟨z,hz1,hz2⟩:=hp (j+1) i' v' (by simpa using hj);exact⟨z,by simpa using hz1,hz2.Ck c1⟩) (by simp[he]) (by
       simp only[amr];rw[cF ac0];grind) (by
       have e1:((bN c.toList (i*n) y.cells.toList).toArray.toList.take ((es++[p]).length*n))=c.toList.take (es.length*n)++y.cells.toList:=by simp only[dZ,aln,List.length_singleton,he];exact List.take_left' (by grind)
       rw[e1];refine(hC.mono c1).append ⟨by simp[hyl],fun k e hk=>?_,fun k e l q z hk hl hz=>?_,fun k z hz=>c3.one k z (by simpa using hz)⟩
       ·cases k with
        |zero=>simp at hk;subst hk;exact c3.len
        |succ k=>simp at hk
       ·cases k with
        |zero=>simp at hk;subst hk;exact c3.rep l q z hl (by simpa using hz)
        |succ k=>simp at hk)
      refine⟨μ2,c',fun b o h=>d1 b o (c1 b o h),d2,?_,by grind,by simpa using d5⟩;rw[BP rfl c3.size nQ];omega
    ·cases h
   ·cases h
  ·cases h
theorem KL:∀{parts:List (Nat×V)}{i:Nat}{cs:List V},Hx i parts=some cs→cs.length=parts.length∧(∀id,cu id cs=true→cu id (parts.map Prod.snd)=true)∧∀(P:Program)(μ:Ro)(φ:Nat→aI)(du:List (Nat×Value))(c:Array Value),du.length=parts.length→(∀(j i:Nat)v,parts[j]?=some (i,v)→∃y,du[j]?=some (i,y)∧an P μ φ v y)→c.size=i+parts.length→∃c',Instr.fill (fun i=>some (i*1,1)) c du=some c'∧c'.size=c.size∧(∀j,j<i→c'[j]?=c[j]?)∧∀j u,cs[j]?=some u→∃y,c'[i+j]?=some y∧an P μ φ u y∧y.oneCell'=true
 |[],i,cs,h=>by simp only[Hx,By]at h;subst h;refine⟨rfl,by simp[cu],fun P μ φ du c hl _ hc=>⟨c,?_,rfl,fun _ _=>rfl,by simp⟩⟩;have:du=[]:=alv (by omega);subst this;rfl
 |(j,v)::r,i,cs,h=>by
  simp only[Hx]at h;split at h
  ·rename_i St;subst St;split at h
   ·rename_i us0 hf;split at h
    ·rename_i us hr;simp only[By]at h;subst h;obtain⟨a1,a2,a3⟩:=toCells_ok hf;obtain⟨b1,b2,b3⟩:=KL hr;refine⟨by simp[a1,b1];omega,fun id hid=>?_,fun P μ φ du c hl hp hc=>?_⟩
     ·obtain⟨u,hu,hh⟩:=cN.1 hid;rcases alM.1 hu with hu|hu
      ·simp only[alu,cu,aly];exact .inl (a2 id (bO hu hh))
      ·simp only[alu,cu,aly];exact .inr (b2 id (bO hu hh))
     ·obtain⟨y,hy,hvy⟩:=hp 0 i v (by simp);cases du with
      |nil=>simp at hl
      |cons a nK=>
       simp at hy;subst hy;obtain⟨c1,c2,c3⟩:=a3 P μ φ y hvy;have nQ:i*1+1≤c.size:=by simp at hc;omega
       have hyl:y.cells.toList.length=1:=by omega
       have ac0:i*1+y.cells.toList.length≤c.toList.length:=by simp_all
       obtain⟨c',d1,d2,d3,d4⟩:=b3 P μ φ nK (bN c.toList (i*1) y.cells.toList).toArray (by simpa using hl) (fun j i' v' hj=>by
        obtain⟨z,hz1,hz2⟩:=hp (j+1) i' v' (by simpa using hj);simp_all) (by
        grind [List.size_toArray,cF,Array.length_toList,List.length_cons])
       have BO:∀k,(bN c.toList (i*1) y.cells.toList).toArray[k]?=if k=i then y.cells[0]? else c[k]?:=fun k=>by rw[alY];rw[dZ];rw[alJ,alV,alF,amd (by omega),alV,hyl];grind
       refine⟨c',?_,by simp_all[amr,cF],fun k hk=>?_,fun k u hu=>?_⟩
       ·rw[BP rfl c1 nQ];omega
       ·grind
       ·have h0:us0.length=1:=a1;rw[alV,h0]at hu;split at hu
        ·rename_i hk;have hk0:k=0:=by omega
         subst hk0;have h5:=d3 i (by omega);grind
        grind
    ·cases h
   ·cases h
  ·cases h
end
section
variable {P:Program}
theorem iH:∀(d:Nat)(t:TypeId)(ks:List Kd),ES P d t=some ks→∀(D:Nat)(w:World)(em:Bool)(ps:List PV),iV ks ps=true→(Instr.checkKey em (D+d) t (eR P t ps)).run P w=.ok () w
 |0,t,ks,h,_,_,_,_,_=>by simp[ES]at h
 |d+1,t,ks,h,D,w,em,ps,hp=>by
  have ih:=iH d;unfold ES at h;split at h
  ·rename_i q hu;simp only[By]at h;subst h;have ha:aD P t=false:=by simp[aD,hu]
   obtain⟨p,rfl,hkp⟩:=nN hp;simp_all[xx,eR,valOf,al9,Instr.checkKey,run_underlying]
  ·rename_i hu;simp only[By]at h;subst h;have ha:aD P t=false:=by simp[aD,hu]
   obtain⟨p,rfl,hkp⟩:=nN hp;simp_all[xx,eR,valOf,al9,Instr.checkKey,run_underlying]
  ·rename_i hu;simp only[By]at h;subst h;have ha:aD P t=false:=by simp[aD,hu]
   obtain⟨p,rfl,hkp⟩:=nN hp;simp_all[xx,eR,valOf,al9,Instr.checkKey,run_underlying]
  ·rename_i fs hu;split at h
   ·cases h
   ·obtain⟨a,ha,h⟩:=M1.1 h;split at h
    ·rename_i hlen;simp only[By]at h;subst h;have Xe:aD P t=true:=by simp[aD,hu]
     simp only[eR,Xe,IT,←al9];rw[Instr.checkKey];simp only[Sem.run_bind,run_underlying hu,Result.andThen_ok];rw[←Array.forIn_toList];have key:∀(L:List Field)(off:Nat)(b:List Kd),tK (ES P d) L off=some b→off≤ps.length→iV b (ps.drop off)=true→(forIn L PUnit.unit fun f(_:PUnit)=>(do
       if f.name≠ "_" then Instr.checkKey em (D+d) f.type (←part f.type (ps.map valOf).toArray f.offset)
       pure (ForInStep.yield PUnit.unit):Sem (ForInStep PUnit))).run P w=.ok PUnit.unit w:=by
      intro L;induction L with
      |nil=>simp
      |cons f L ihL=>
       intro off b hb o1 h1;simp only[tK]at hb;split at hb
       ·rename_i hf;obtain⟨c,hc,hb⟩:=M1.1 hb;obtain⟨b',je,hb⟩:=M1.1 hb;simp only[By]at hb;subst hb;rw[tT]at h1;have l1:=sV h1.1;simp only[alF,anG]at l1;have p1:=kL (w:=w) (ps:=ps) (off:=off) hc (by omega);have p3:=ih f.type c hc D w em _ h1.1;have p4:=ihL (off+c.length) b' je (by omega) (by simp_all);simp_all
       ·cases hb
     have:=key fs.toList 0 a ha (by simp) (by simpa using hp);simp_all
    ·cases h
  ·rename_i n e hu;obtain⟨a,ha,h⟩:=M1.1 h;split at h
   ·rename_i hlen;simp only[By]at h;subst h;have Xe:aD P t=true:=by simp[aD,hu]
    obtain⟨_,_,de,hde⟩:=BL ha;have pT:(sizeOf e).run P w=.ok a.length w:=by rw[hlen.1];exact Gh hde
    simp only[eR,Xe,IT,←al9];rw[Instr.checkKey];simp only[Sem.run_bind,run_underlying hu,Result.andThen_ok];simp only[Std.Legacy.Range.forIn_eq_forIn_range',Std.Legacy.Range.size,aox,Nat.add_one_sub_one,Nat.div_one];have key:∀(k j:Nat),j*a.length≤ps.length→iV (tL a k) (ps.drop (j*a.length))=true→(forIn (List.range' j k) PUnit.unit fun i(_:PUnit)=>(do
      Instr.checkKey em (D+d) e (←part e (ps.map valOf).toArray (i*(←sizeOf e)))
      pure (ForInStep.yield PUnit.unit):Sem (ForInStep PUnit))).run P w=.ok PUnit.unit w:=by
     intro k;induction k with
     |zero=>simp
     |succ k ihk=>
      intro j o1 h1;simp only[tL]at h1;rw[tT]at h1;have l1:=sV h1.1;simp only[alF,anG]at l1;have p1:=kL (w:=w) (ps:=ps) (off:=j*a.length) ha (by omega);have p3:=ih e a ha D w em _ h1.1;have ej:(j+1)*a.length=j*a.length+a.length:=by rw[amb];omega
      have p4:=ihk (j+1) (by omega) (by simp_all);simp_all[anj,List.forIn_cons,Sem.run_bind,Result.andThen_ok,Sem.run_pure]
    simp_all
   ·cases h
  ·cases h
variable{kt:TypeId}{ks:List Kd}
theorem nu{μ:Ro}{k:PV}{y:Value}(h:zr P kt ks k=true)(hy:ao P μ k y):iV ks k.cells=true∧y=eR P kt k.cells:=by
 simp only[zr,ale,beq_iff_eq]at h;refine⟨h.1,?_⟩;cases hq:k.isAgg with
 |true=>
  cases k<;>simp[PV.isAgg]at hq;cases hy with
  |agg h1 h2 h3=>have:=wx h.1 h1.symm h2;grind [eR,PV.isAgg,PV.cells]
 |false=>
  have hc:k.cells=[k]:=by cases k<;>first|rfl|(simp[PV.isAgg]at hq)
  have h1:=h.1;rw[hc]at h1;cases ks with
  |nil=>simp[iV]at h1
  |cons kd r=>simp only[iV,ale]at h1;grind [KC,eR]
theorem LZ:∀{ks:List Kd}{ps qs:List PV},iV ks ps=true→iV ks qs=true→bM ps qs=true→ps=qs
 |[],[],[],_,_,_=>rfl
 |k::ks,p::ps,q::qs,h1,h2,h3=>by
  simp only[iV,ale]at h1 h2;simp only[bM,ale]at h3;rw[LZ h1.2 h2.2 h3.2];have:p=q:=by cases k<;>cases p<;>simp[xx]at h1<;>cases q<;>simp[xx]at h2<;>simp[peq]at h3<;>simp_all
  rw[this]
 |[],p::ps,_,h,_,_=>by simp[iV]at h
 |k::ks,[],_,h,_,_=>by simp[iV]at h
 |[],[],q::qs,_,h,_=>by simp[iV]at h
 |k::ks,p::ps,[],_,h,_=>by simp[iV]at h
structure Aj(P:Program)(μ:Ro)(kt:TypeId)(ks:List Kd)(l:List (PV×PV))(es:List MapEntry):Prop where
 len:es.length=l.length
 key:∀(i:Nat)k v,l[i]?=some (k,v)→zr P kt ks k=true
 rep:∀(i:Nat)k v e,l[i]?=some (k,v)→es[i]?=some e→ao P μ k e.key∧ao P μ v e.val
variable{l:List (PV×PV)}{es:List MapEntry}
theorem Aj.tail{μ:Ro}{x:PV×PV}{e:MapEntry}(h:Aj P μ kt ks (x::l) (e::es)):Aj P μ kt ks l es:=⟨by simpa using h.len,fun i k v hi=>h.key (i+1) k v (by simpa using hi),fun i k v e hi he=>h.rep (i+1) k v e (by simpa using hi) (by simpa using he)⟩
inductive Found(k v:PV)(z:PV)(l:List (PV×PV))(es:List MapEntry)(i:Nat):Option (Nat×Value)→Prop
 |none:lM k l=false→bS k z l=z→dm k v l=l++[(k,v)]→Found k v z l es i none
 |some {j:Nat} {a u:PV} {e:MapEntry}:l[j]?=some (a,u)→es[j]?=some e→bM k.cells a.cells=true→lM k l=true→bS k z l=u→dm k v l=l.set j (k,v)→Found k v z l es i (some (i+j,e.val))
theorem Found.cons{k v z:PV}{x:PV×PV}{l:List (PV×PV)}{e:MapEntry}{es:List MapEntry}{i:Nat}{r:Option (Nat×Value)}(hx:bM k.cells x.1.cells=false)(h:Found k v z l es (i+1) r):Found k v z (x::l) (e::es) i r:=by
 obtain⟨a,u⟩:=x;cases h with
 |none h1 h2 h3=>exact .none (by simpa[lM,hx]using h1) (by simpa[bS,hx]using h2) (by simpa[dm,hx]using h3)
 | @some j a' u' e' h1 h2 h3 h4 h5 h6=>have:=Found.some (k:=k) (v:=v) (z:=z) (l:=(a,u)::l) (es:=e::es) (i:=i) (j:=j+1) (a:=a') (u:=u') (e:=e') (by simpa using h1) (by simpa using h2) h3 (by simpa[lM,hx]using h4) (by simpa[bS,hx]using h5) (by simpa[dm,hx]using h6);grind
theorem Found.here{k v z:PV}{a u:PV}{e:MapEntry}{i:Nat}(hx:bM k.cells a.cells=true):Found k v z ((a,u)::l) (e::es) i (Option.some (i,e.val)):=by have:=Found.some (k:=k) (v:=v) (z:=z) (l:=(a,u)::l) (es:=e::es) (i:=i) (j:=0) (a:=a) (u:=u) (e:=e) (by simp) (by simp) hx (by simp[lM,hx]) (by simp[bS,hx]) (by simp[dm,hx]);omega
theorem tZ{μ:Ro}{kt:TypeId}{ks:List Kd}{k v z:PV}(hk:ES P 8 kt=some ks)(vv:iV ks k.cells=true)(w:World):∀(l:List (PV×PV))(es:List MapEntry)(i:Nat),Aj P μ kt ks l es→∃r,(Instr.findAsking kt (eR P kt k.cells) es i).run P w=.ok r w∧Found k v z l es i r
 |[],es,i,h=>by have:es=[]:=alv (by simpa using h.len);subst this;exact⟨none,by rfl,.none rfl rfl rfl⟩
 |(a,u)::l,es,i,h=>by
  cases es with
  |nil=>have:=h.len;simp at this
  |cons e es=>
   have hka:=h.key 0 a u (by simp);obtain⟨h1,h2⟩:=nu hka (h.rep 0 a u e (by simp) (by simp)).1;have he:(Op.equal kt (eR P kt k.cells) e.key).run P w=.ok (bM k.cells a.cells) w:=by rw[h2];exact rU 8 kt ks hk 9992 w _ _ vv h1
   cases hp:bM k.cells a.cells with
   |true=>exact⟨some (i,e.val),by simp[Instr.findAsking,he,hp],.here hp⟩
   |false=>obtain⟨r,r1,r2⟩:=tZ (v:=v) (z:=z) hk vv w l es (i+1) h.tail;exact⟨r,by simp[Instr.findAsking,he,hp,r1],r2.cons hp⟩
theorem Gm{μ:Ro}{kt:TypeId}{d:TypeDesc}{ks:List Kd}{k v z:PV}(hu:P.underlying kt=some d)(ha:aD P kt=false)(hk:ES P 8 kt=some ks)(vv:iV ks k.cells=true):∀(l:List (PV×PV))(es:List MapEntry)(i:Nat),Aj P μ kt ks l es→∃r,Instr.findNow d (eR P kt k.cells) es i=some r∧Found k v z l es i r
 |[],es,i,h=>by have:es=[]:=alv (by simpa using h.len);subst this;exact⟨none,by rfl,.none rfl rfl rfl⟩
 |(a,u)::l,es,i,h=>by
  cases es with
  |nil=>have:=h.len;simp at this
  |cons e es=>
   have hka:=h.key 0 a u (by simp);obtain⟨h1,h2⟩:=nu hka (h.rep 0 a u e (by simp) (by simp)).1;have he:Instr.sameNow d (eR P kt k.cells) e.key=some (bM k.cells a.cells):=by
    rw[h2];have ko:=hk;unfold ES at ko;rw[hu]at ko;cases d<;>simp at ko<;>try (simp[aD,hu]at ha;done)
    all_goals subst ko;obtain⟨p,hp1,hp2⟩:=nN vv;obtain⟨q,hq1,hq2⟩:=nN h1;rw[hp1,hq1];cases p<;>simp[xx]at hp2;cases q<;>simp[xx]at hq2;simp_all[eR,valOf,Instr.sameNow,bM,peq]
    all_goals (rw[alE,Go.MapKept.bytes_beq];simp_all)
   cases hp:bM k.cells a.cells with
   |true=>exact⟨some (i,e.val),by simp[Instr.findNow,he,hp],.here hp⟩
   |false=>obtain⟨r,r1,r2⟩:=Gm (v:=v) (z:=z) hu ha hk vv l es (i+1) h.tail;exact⟨r,by simp[Instr.findNow,he,hp,r1],r2.cons hp⟩
theorem me{μ:Ro}{k v z:PV}(hk:ES P 8 kt=some ks)(vv:iV ks k.cells=true)(w:World)(h:Aj P μ kt ks l es):∃r,(Instr.findKey kt (eR P kt k.cells) es).run P w=.ok r w∧Found k v z l es 0 r:=by
 obtain⟨_,_,d,hu⟩:=BL hk;cases ha:aD P kt with
 |true=>rw[run_findKey_eq w (by grind [aD])];exact tZ hk vv w l es 0 h
 |false=>obtain⟨r,r1,r2⟩:=Gm (v:=v) (z:=z) hu ha hk vv l es 0 h;simp_all[Go.MapKept.run_findKey]
end
section
variable {R:Type} {E:Env}
variable{P:Program}{t:TypeId}{ks:List Kd}
theorem BQ(h:vz P t=some ks):ES P 8 t=some ks:=by simp_all[vz]
variable{kt:TypeId}
theorem xL{v:V}{key:PV}(h:keyOf E kt v=some key):∃ks,vz E.P kt=some ks∧zr E.P kt ks key=true∧∀(μ:Ro)(φ:Nat→aI)(y:Value),an E.P μ φ v y→ao E.P μ key y:=by
 unfold keyOf at h;split at h
 ·rename_i ks Xf;refine⟨ks,Xf,?_⟩;split at h
  ·rename_i ha;split at h
   ·rename_i cs hc;split at h
    ·rename_i ps hp;split at h
     ·rename_i Sg;simp only[By]at h;subst h;obtain⟨_,c2⟩:=ru hc;obtain⟨p1,p2⟩:=gX hp;refine⟨by simp_all[zr,PV.cells,PV.isAgg],fun μ φ y hy=>?_⟩;obtain⟨xs,rfl,h1,h2,h3⟩:=c2 E.P μ φ y hy;refine .agg (by omega) (fun i q z hq hz=>?_) h3;grind [xH]
     ·cases h
    ·cases h
   ·cases h
  ·rename_i ha;split at h
   ·rename_i p;split at h
    ·rename_i Sg;simp only[By]at h;subst h;refine⟨?_,fun μ φ y hy=>by cases hy with|pv hy=>omega⟩;cases ks with
     |nil=>simp[iV]at Sg
     |cons kd r=>
      have af9:=Sg;simp only[iV,ale]at af9;have ha':aD E.P kt=false:=by simpa using ha
      cases kd<;>cases p<;>simp[xx]at af9<;>simp_all[zr,PV.cells,PV.isAgg]
    ·cases h
   ·cases h
 ·cases h
variable{en:Array MapEntry}
theorem mF.push{clock:Nat}(h:mF en clock){k v:Value}:mF (en.push {key:=k,val:=v,born:=clock}) (clock+1):=by
 intro i e hi;rw[anL]at hi;split at hi
 ·rename_i e1;simp only[By]at hi;subst hi;refine⟨Nat.lt_succ_self _,fun j e' hj hb=>?_⟩;rw[anL]at hj;split at hj
  ·omega
  ·have:=(h j e' hj).1;simp_all
 ·obtain⟨h1,h2⟩:=h i e hi;grind
theorem mF.modify{en:Array MapEntry}{clock:Nat}(h:mF en clock)(f:MapEntry→MapEntry)(hf:∀e,(f e).born=e.born)(k:Nat):mF (en.modify k f) clock:=by
 have key:∀(i:Nat)e,(en.modify k f)[i]?=some e→∃e0,en[i]?=some e0∧e.born=e0.born:=fun i e hi=>by grind
 intro i e hi;obtain⟨e0,h0,hb0⟩:=key i e hi;obtain⟨h1,h2⟩:=h i e0 h0;grind
inductive Xs(w:World):Value→Array MapEntry→Prop
 |nil:Xs w (.map none) #[]
 |at{g clock:Nat} {en:Array MapEntry}:w.heap[g]?=some (.map en clock)→Xs w (.map (some g)) en
theorem ua{μ:Ro}{et:TypeId}{key z:PV}{zv y yi:Value}{w:World}{l:List (PV×PV)}{ok:Bool}(hu:P.underlying t=some (.map kt et))(hk:vz P kt=some ks)(sW:zr P kt ks key=true)(hyi:ao P μ key yi)(hy:Xs w y en)(hE:Aj P μ kt ks l en.toList)(hz:(zeroValue et).run P w=.ok zv w)(hzr:ao P μ z zv):∃v,(Instr.lookup t y yi ok).run P w=.ok (if ok then .tuple #[v,.bool (lM key l)]else v) w∧ao P μ (bS key z l) v:=by
 have UJ:=BQ hk;obtain⟨hc,hv⟩:=nu sW hyi;obtain⟨r,r1,r2⟩:=me (v:=.bad) (z:=z) UJ hc w hE;have h1:=iH 8 kt ks UJ 9992 w en.isEmpty key.cells hc;rw[hv];have wu:∀(x:Value×Bool),(r=none→x=(zv,false))→(∀j v,r=some (j,v)→x=(v,true))→(Instr.lookup t y (eR P kt key.cells) ok).run P w=.ok (if ok then .tuple #[x.1,.bool x.2]else x.1) w:=by
  intro x hx1 hx2;cases hy with
  |nil=>
   have h1':(Instr.checkKey true 10000 kt (eR P kt key.cells)).run P w=.ok () w:=h1;have r1':(Instr.findKey kt (eR P kt key.cells) []).run P w=.ok r w:=r1;unfold Instr.lookup;simp only[Sem.run_bind,run_underlying hu,Result.andThen_ok,Sem.run_pure];cases r with
   |none=>simp_all
   |some jv=>obtain⟨j,v⟩:=jv;simp_all
  | «at» hg=>
   have JX:=Go.MapKept.run_getObj_map (P:=P) hg;have h1':(Instr.checkKey en.isEmpty 10000 kt (eR P kt key.cells)).run P w=.ok () w:=h1;unfold Instr.lookup;simp only[Sem.run_bind,run_underlying hu,Result.andThen_ok,Sem.run_pure,JX];cases r with
   |none=>simp_all
   |some jv=>obtain⟨j,v⟩:=jv;simp_all
 cases r2 with
 |none f1 f2 f3=>grind
 | @some j a u e f1 f2 f3 f4 f5 f6=>refine⟨e.val,?_,by rw[f5];exact(hE.rep j a u e f1 f2).2⟩;simp_all
variable{m:Mem}
theorem Qi{x ix:V}{ok:Bool}{k:V→bD→Option R}{r:R}(h:yo E t x ix ok m k=some r):∃v ft,(∀m2:Mem,(∀x∈ft,m2 x.2=m x.2)→∀(R':Type)(k':V→bD→Option R'),yo E t x ix ok m2 k'=k' v ft)∧k v ft=some r∧(∀x∈ft,x.1=false)∧(∀id,v.has id=false)∧∀(G:Nat→Option (List PV))(w0:bE)(μ:Ro)(φ:Nat→aI)(w:World)(y yi:Value),aA E.P G w0 μ φ m w→an E.P μ φ x y→an E.P μ φ ix yi→∃u,(Instr.lookup t y yi ok).run E.P w=.ok u w∧an E.P μ φ v u:=by
 have out:∀(q:PV)(b:Bool)(id:Nat),(if ok=true then V.aG [.pv q,.pv (.bool b)]else .pv q).has id=false:=by grind [id,V.has,cu]
 have rep:∀(μ:Ro)(φ:Nat→aI)(q:PV)(b:Bool)(v:Value),ao E.P μ q v→an E.P μ φ (if ok=true then V.aG [.pv q,.pv (.bool b)]else .pv q) (if ok=true then .tuple #[v,.bool b]else v):=by
  intro μ φ q b v hv;cases ok with
  |false=>exact .pv hv
  |true=>
   refine .aG (by simp) fun i p y hp hy=>?_;match i with
   |0=>simp at hp hy;subst hp;subst hy;exact .pv hv
   |1=>simp at hp hy;subst hp;subst hy;exact .pv .bool
   |n+2=>simp at hp
 unfold yo at h;split at h
 ·rename_i kt et hu;split at h
  ·rename_i z hz;obtain⟨zv,hz1,hz2⟩:=Qg hz;split at h
   ·rename_i id;split at h
    ·rename_i zR es hm;split at h
     ·rename_i hkt;subst hkt;obtain⟨key,sW,h⟩:=M1.1 h;obtain⟨q,q1,q2,q3,_⟩:=ma h;obtain⟨ks,k1,k2,k3⟩:=xL sW;refine⟨_,_,fun m2 cS R' k'=>by have:=cS (false,id) (by simp);simp_all[yo,alr,IT],q2,by simp,out q _,fun G w0 μ φ w y yi hM hx hi=>?_⟩;obtain⟨g,en,clock,kk,hg,hh,hs,hk,Sg,_,hv⟩:=hM.dJ id _ hm;rw[k1]at hk;simp only[By]at hk;subst hk;cases hx with
      |om dn=>rw[hg]at dn;simp only[By]at dn;subst dn;obtain⟨v,v1,v2⟩:=ua (ok:=ok) (z:=z) hu k1 k2 (k3 μ φ yi hi) (.at hh) (l:=es) ⟨by omega,Sg,fun i k v e h1 h2=>hv i k v e h1 (by simpa using h2)⟩ (hz1 w) (hz2 μ);exact⟨_,v1,rep μ φ q _ v (q3 _ _ _ v2)⟩
     ·cases h
    ·cases h
   ·rename_i pm;unfold cM at h;split at h
    ·obtain⟨key,sW,h⟩:=M1.1 h;obtain⟨ks,k1,k2,k3⟩:=xL sW;refine⟨_,_,fun m2 cS R' k'=>by simp_all[yo,cM,alr],h,by simp,out z _,fun G w0 μ φ w y yi hM hx hi=>?_⟩;cases hx with
     |pv hx=>cases hx with
      |rr=>obtain⟨v,v1,v2⟩:=ua (ok:=ok) (z:=z) hu k1 k2 (k3 μ φ yi hi) .nil (l:=[]) ⟨by simp,by simp,by simp⟩ (hz1 w) (hz2 μ);exact⟨_,v1,rep μ φ z _ v v2⟩
    ·rename_i zR ks' vs';split at h
     ·rename_i hkt;subst hkt;obtain⟨key,sW,h⟩:=M1.1 h;obtain⟨q,q1,q2,q3,_⟩:=ma h;obtain⟨ks,k1,k2,k3⟩:=xL sW;refine⟨_,_,fun m2 cS R' k'=>by simp_all[yo,cM,alr,IT],q2,by simp,out q _,fun G w0 μ φ w y yi hM hx hi=>?_⟩;cases hx with
      |pv hx=>cases hx with
       | @rm _ _ _ b clock en kk m1 m2 m3 m4 m5 m6 m7=>
        rw[k1]at m4;simp only[By]at m4;subst m4;have adN:∀(i:Nat)k v,(ks'.zip vs')[i]?=some (k,v)→ks'[i]?=some k∧vs'[i]?=some v:=fun i k v h=>by grind
        obtain⟨v,v1,v2⟩:=ua (ok:=ok) (z:=z) hu k1 k2 (k3 μ φ yi hi) (.at (hM.ro _ _ m1)) (l:=ks'.zip vs') ⟨by simp[m2,m3],fun i k v h=>m5 i k (adN i k v h).1,fun i k v e h1 h2=>⟨m6 i k e (adN i k v h1).1 (by simpa using h2),m7 i v e (adN i k v h1).2 (by simpa using h2)⟩⟩ (hz1 w) (hz2 μ);exact⟨_,v1,rep μ φ q _ v (q3 _ _ _ v2)⟩
     ·cases h
    ·cases h
   ·cases h
  ·cases h
 ·cases h
variable{m':Mem}
theorem KM{v:V}{p:PV}(h:yj m v=some (p,m')):ky m m'∧∀(P:Program)(G:Nat→Option (List PV))(w0:bE)(μ:Ro)(φ:Nat→aI)(w:World)(x:Value),aA P G w0 μ φ m w→an P μ φ v x→∃μ',(∀b o,μ b=some o→μ' b=some o)∧aA P G w0 μ' φ m' w∧ao P μ' p x:=by
 unfold yj at h;split at h
 ·rename_i cs;split at h
  ·rename_i ps m1 hf;simp only[By,akj]at h;obtain⟨rfl,rfl⟩:=h;obtain⟨f1,f2,f3⟩:=HS hf;refine⟨f1,fun P G w0 μ φ w x hM hx=>?_⟩;cases hx with
   | @agg _ xs h1 h2 h3=>
    have hX:∀(i:Nat),i<cs.length→xs[i]?=some (xs.getD i undef):=fun i hi=>by simp_all
    obtain⟨μ',e1,e2,e3⟩:=f3 P G w0 μ φ w (fun i=>xs.getD i undef) hM fun i u hu=>h2 i u _ hu (hX i (OF.1 hu).1);refine⟨μ',e1,e2,.agg (by omega) (fun j q y hq hy=>?_) h3⟩;grind
  ·cases h
 ·exact Sq h
theorem Gn{v:V}{p:PV}(h:yj dc v=some (p,m')):∀(P:Program)(μ:Ro)(φ:Nat→aI)(x:Value),an P μ φ v x→ao P μ p x:=by
 unfold yj at h;split at h
 ·rename_i cs;split at h
  ·rename_i ps m1 hf;simp only[By,akj]at h;obtain⟨rfl,rfl⟩:=h;obtain⟨f2,f3⟩:=CM hf;intro P μ φ x hx;cases hx with
   | @agg _ xs h1 h2 h3=>
    have hX:∀(i:Nat),i<cs.length→xs[i]?=some (xs.getD i undef):=fun i hi=>by simp_all
    have e3:=f3 P μ φ (fun i=>xs.getD i undef) fun i u hu=>h2 i u _ hu (hX i (OF.1 hu).1);refine .agg (by omega) (fun j q y hq hy=>?_) h3;grind
  ·cases h
 ·exact KG h
theorem Qj{draw:Bool}{v:V}{p:PV}(h:DO draw m v=some (p,m')):ky m m'∧(draw=true→m'=m∧∀m2:Mem,DO true m2 v=some (p,m2))∧∀(P:Program)(G:Nat→Option (List PV))(w0:bE)(μ:Ro)(φ:Nat→aI)(w:World)(x:Value),aA P G w0 μ φ m w→an P μ φ v x→∃μ',(∀b o,μ b=some o→μ' b=some o)∧aA P G w0 μ' φ m' w∧ao P μ' p x:=by
 unfold DO at h;split at h
 ·rename_i hd;split at h
  ·rename_i q m1 hf;simp only[By,akj]at h;obtain⟨rfl,rfl⟩:=h;exact⟨.refl _,fun _=>⟨rfl,fun m2=>by simp[DO,hf]⟩,fun P G w0 μ φ w x hM hx=>⟨μ,fun _ _ h=>h,hM,Gn hf P μ φ x hx⟩⟩
  ·cases h
 grind [KM,absurd]
theorem Cs:∀{ps:List PV},iV ks ps=true→∀(n:Nat),(ps.map valOf).all (fun v=>Instr.sameBits n v v)=true:=by
 induction ks with
 |nil=>intro ps h n;cases ps<;>simp[iV]at h;rfl
 |cons k ks ih=>
  intro ps h n;cases ps with
  |nil=>rfl
  |cons p ps=>simp only[iV,ale]at h;simp only[alu,an5,ih h.2 n,amH];cases k<;>cases p<;>simp[xx]at h<;>simp[valOf,Instr.sameBits,Go.MapKept.bytes_beq]
theorem Ak{ps:List PV}(h:iV ks ps=true)(hl:aD P t=false→ps.length=1)(n:Nat):Instr.sameBits (n+1) (eR P t ps) (eR P t ps)=true:=by
 unfold eR;cases ha:aD P t with
 |true=>have:=Cs h n;simp only[IT,Instr.sameBits,BEq.rfl,ama];grind
 |false=>
  have h1:=hl ha;match ps,h1 with
  |[p],_=>have:=Cs h (n+1);simpa using this
theorem Ct{draw:Bool}{x key val:V}{k:Mem→bD→Option R}{r:R}(h:pS E draw t x key val m k=some r):∃m' ft,k m' ft=some r∧(draw=true→∃id b,m'=aw m id b∧ft=[(true,id)]∧∀m2:Mem,m2 id=m id→∀(R':Type)(k':Mem→bD→Option R'),pS E true t x key val m2 k'=k' (aw m2 id b) [(true,id)])∧ky m m'∧∀(G:Nat→Option (List PV))(w0:bE)(μ:Ro)(φ:Nat→aI)(w:World)(ya yk yv:Value),aA E.P G w0 μ φ m w→an E.P μ φ x ya→an E.P μ φ key yk→an E.P μ φ val yv→∃w' μ',(Instr.mapUpdate t ya yk yv).run E.P w=.ok () w'∧(∀b o,μ b=some o→μ' b=some o)∧aA E.P G w0 μ' φ m' w':=by
 unfold pS at h;split at h
 ·rename_i kt et hu;split at h
  ·rename_i id;split at h
   ·rename_i v m1 hf;obtain⟨f1,f2,f3⟩:=Qj hf;split at h
    ·rename_i zR es hm;split at h
     ·rename_i hkt;subst hkt;obtain⟨kp,sW,h⟩:=M1.1 h;obtain⟨ks,k1,k2,k3⟩:=xL sW;refine⟨_,_,h,fun hd=>?_,f1.trans .set,fun G w0 μ φ w ya yk yv hM hx hk hv=>?_⟩
      ·obtain⟨rfl,f4⟩:=f2 hd;exact⟨id,_,rfl,rfl,fun m2 cS R' k'=>by simp_all[pS,alr,IT]⟩
      ·obtain⟨μ',g1,g2,g3⟩:=f3 _ _ _ _ _ _ _ hM hv;obtain⟨g,en,clock,kk,hg,hh,hs,vv,Sg,BG,gL⟩:=g2.dJ id _ hm;rw[k1]at vv;simp only[By]at vv;subst vv;have UJ:=BQ k1;have hkr:=(k3 μ φ yk hk).mono g1;obtain⟨hc,hkv⟩:=nu k2 hkr;have hE:Aj E.P μ' zR ks es en.toList:=⟨by omega,Sg,fun i k v e h1 h2=>gL i k v e h1 (by simpa using h2)⟩;obtain⟨res,r1,r2⟩:=me (v:=v) (z:=.bad) UJ hc w hE;have JX:=Go.MapKept.run_getObj_map (P:=E.P) hh;have h1:(Instr.checkKey false 10000 zR yk).run E.P w=.ok () w:=by rw[hkv];exact iH 8 zR ks UJ 9992 w false kp.cells hc
       rw[←hkv]at r1;have bQ:g<w.heap.size:=(alm.1 hh).1;cases hx with
       |om dn=>
        rw[hg]at dn;simp only[By]at dn;subst dn;have fin:∀(o:Obj)(PR:Array MapEntry)(rX:Nat),o=.map PR rX→(Instr.mapUpdate t (.map (some g)) yk yv).run E.P w=.ok () {w with heap:=w.heap.setIfInBounds g o}→mF PR rX→Aj E.P μ' zR ks (dm kp v es) PR.toList→∃w' μ',(Instr.mapUpdate t (.map (some g)) yk yv).run E.P w=.ok () w'∧(∀b o,μ b=some o→μ' b=some o)∧aA E.P G w0 μ' φ (aw m1 id (.map zR (dm kp v es))) w':=by rintro o PR rX rfl hr ajp hE';refine⟨_,μ',hr,g1,g2.write hm rfl hg ⟨⟨rfl,rfl,rfl,by simp,fun k hk=>by grind⟩,fun _=>alz _⟩ (by simp) (fun k hk=>by grind) ?_ rfl (by simp[bK.names])⟩;exact⟨g,PR,rX,ks,hg,by simp[bQ],by simpa using hE'.len,k1,hE'.key,ajp,fun i k v e h1 h2=>hE'.rep i k v e h1 (by simpa using h2)⟩
        cases r2 with
        |none e1 e2 e3=>
         have UK:=Go.MapKept.run_setObj_map (P:=E.P) (.map (en.push {key:=yk,val:=yv,born:=clock}) (clock+1)) hh;refine fin _ _ _ rfl (by simp only[Instr.mapUpdate,Sem.run_bind,run_underlying hu,JX,h1,r1,Result.andThen_ok];exact UK) BG.push ?_;rw[e3];have fo:∀(i:Nat)k' v' e,(es++[(kp,v)])[i]?=some (k',v')→(en.push {key:=yk,val:=yv,born:=clock}).toList[i]?=some e→(es[i]?=some (k',v')∧en.toList[i]?=some e)∨(k'=kp∧v'=v∧e.key=yk∧e.val=yv):=by grind
         refine⟨by simp[hs],fun i k' v' h=>?_,fun i k' v' e h1 h2=>?_⟩
         ·grind
         grind
        | @some j a u e e1 e2 e3 e4 e5 e6=>
         have e2':en[j]?=some e:=by simpa using e2
         obtain⟨hca,hva⟩:=nu (Sg j a u e1) (gL j a u e e1 e2').1;have yB:=LZ hc hca e3;have hsb:Instr.sameBits 10000 e.key yk=true:=by rw[hva,hkv,←yB];refine Ak (n:=9999) hc (fun ha=>?_);rw[sV hc];exact(BL UJ).2.1 ha
         have UK:=Go.MapKept.run_setObj_map (P:=E.P) (.map (en.modify j fun e=>{e with key:=yk,val:=yv}) clock) hh;have rz:j<en.size:=(alm.1 e2').1;refine fin _ _ _ rfl (by simp only[Instr.mapUpdate,Sem.run_bind,run_underlying hu,JX,h1,r1,Result.andThen_ok];simp only[amq,e2',No,amo,Instr.keyThatStays,hsb,IT,Sem.run_pure,Result.andThen_ok];exact UK) (BG.modify (fun e=>{e with key:=yk,val:=yv}) (fun _=>rfl) _) ?_;rw[e6];have rV:∀(i:Nat)k' v',(es.set j (kp,v))[i]?=some (k',v')→(i=j∧k'=kp∧v'=v)∨(i≠j∧es[i]?=some (k',v')):=by grind
         refine⟨by simp[hs],fun i k' v' h=>?_,fun i k' v' e' h1 h2=>?_⟩
         ·grind
         grind
     ·cases h
    ·cases h
   ·cases h
  ·cases h
 ·cases h
theorem NJ{μ:Ro}{φ:Nat→aI}{w:World}{site:Nat}(hk:vz P kt=some ks)(hφ:(φ site).g=some w.heap.size):gM P μ φ (w.alloc (.map #[] 0)) site (.map kt []):=⟨w.heap.size,#[],0,ks,hφ,fP w _,rfl,hk,by simp,fun i e h=>by simp at h,by simp⟩
end
def Ad(P:Program)(G:Nat→Option (List PV))(g:FuncId)(M:List PV→Option PV):Prop:=
 (∃fn c,P.funcs[g]?=some fn∧fn.body=some c∧(fn.name== "runtime.NumGoroutine")=false)∧
 ∀(ps:List PV)(r:PV),M ps=some r→∀(w:World)(μ:Ro)(xs:Array Value),(∀b o,μ b=some o→w.heap[b]?=some o)→(∀g cs,G g=some cs→Cj P μ g cs)→ps.length=xs.size→(∀(i:Nat)p x,ps[i]?=some p→xs[i]?=some x→ao P μ p x)→Calls P g xs w fun e w'=>∃y,e=.returned y∧lL w.heap.size w w'∧ao P (cB μ w w') r y
def E7(P:Program)(G:Nat→Option (List PV))(g:FuncId)(M:List PV→Option PV):Prop:=
 (∃fn c,P.funcs[g]?=some fn∧fn.body=some c∧(fn.name== "runtime.NumGoroutine")=false)∧
 ∀(fn:Func)(t e:TypeId),P.funcs[g]?=some fn→fn.resultTypes.toList=[t]→P.underlying t=some (.slice e)→∀(ps:List PV)(r:PV),M ps=some r→∀(w:World)(μ:Ro)(xs:Array Value),(∀b o,μ b=some o→w.heap[b]?=some o)→(∀g cs,G g=some cs→Cj P μ g cs)→ps.length=xs.size→(∀(i:Nat)p x,ps[i]?=some p→xs[i]?=some x→ao P μ p x)→Calls P g xs w fun en w'=>∃(y:Value)(ph:aI)(es:List PV),en=.returned y∧lL w.heap.size w w'∧r=.rs (aV P e) es∧(∀g,ph.g=some g→w.heap.size≤g)∧aN P (nL (cB μ w w') ph.g) (fun _=>ph) w' 0 (aV P e) e es∧an P μ (fun _=>ph) (.os 0) y
def aga(m:Mem):Option (Nat×bK)→Mem
 |some (id,b)=>aw m id b
 |none=>m
def agb(E:Env)(g:FuncId)(args:List V)(f:Fr)(m:Mem)(v:V)(f':Fr)(m':Mem):Prop:=
 (∃fn c,E.P.funcs[g]?=some fn∧fn.body=some c∧(fn.name== "runtime.NumGoroutine")=false)∧
 ∀(w0:bE)(μ:Ro)(φ:Nat→aI)(ρ:Nat→Value)(w:World)(xs:Array Value),aA E.P E.aM w0 μ φ m w→cg E.P μ φ m f ρ→args.length=xs.size→(∀(i:Nat)v x,args[i]?=some v→xs[i]?=some x→an E.P μ φ v x)→(∀id,cu id args=true→(m id).isSome=true)→Calls E.P g xs w fun e w'=>∃y μ' φ',e=.returned y∧aA E.P E.aM w0 μ' φ' m' w'∧cg E.P μ' φ' m' f' ρ∧an E.P μ' φ' v y∧∀id,v.has id=true→(m' id).isSome=true
def L2{R:Type}(P:Program)(G:Nat→Option (List PV))(g:FuncId)(args:List V)(f:Fr)(m:Mem)(k:V→Fr→Mem→Option R)(r:R):Prop:=
 (∃fn c,P.funcs[g]?=some fn∧fn.body=some c∧(fn.name== "runtime.NumGoroutine")=false)∧
 ∀(w0:bE)(μ:Ro)(φ:Nat→aI)(ρ:Nat→Value)(w:World)(xs:Array Value),aA P G w0 μ φ m w→cg P μ φ m f ρ→args.length=xs.size→(∀(i:Nat)v x,args[i]?=some v→xs[i]?=some x→an P μ φ v x)→(∀id,cu id args=true→(m id).isSome=true)→Calls P g xs w fun e w'=>∃v f' m' y μ' φ',k v f' m'=some r∧e=.returned y∧aA P G w0 μ' φ' m' w'∧cg P μ' φ' m' f' ρ∧an P μ' φ' v y∧∀id,v.has id=true→(m' id).isSome=true
def xC(P:Program)(G:Nat→Option (List PV))(nt:Nat)(yl:YL)(w0:bE):Prop:=∀(R:Type)site id args f m(k:V→Fr→Mem→Option R)r,yl R nt site id args f m k=some r→∀(μ:Ro)(φ:Nat→aI)(ρ:Nat→Value)(w:World)(xs:Array Value),aA P G w0 μ φ m w→cg P μ φ m f ρ→(∀t,nt≤t→ρ t=w0.sv t)→args.length=xs.size→(∀(i:Nat)v x,args[i]?=some v→xs[i]?=some x→an P μ φ v x)→(∀id,cu id args=true→(m id).isSome=true)→∀g,(φ id).g=some g→∃fn tmps assign body,(Instr.yield g xs).run P w=.ok (.round g fn tmps assign body) w∧RoundIn Fence.wide 0 P g fn tmps assign body w fun e w'=>∃v f' m' y μ' φ',k v f' m'=some r∧e=.returned y∧(∀b o,μ b=some o→μ' b=some o)∧aA P G w0 μ' φ' m' w'∧cg P μ' φ' m' f' ρ∧an P μ' φ' v y∧∀id,v.has id=true→(m' id).isSome=true
theorem DT(P:Program)(G:Nat→Option (List PV))(nt:Nat)(w0:bE):xC P G nt EV w0:=fun R site id args f m k r h=>by cases h
variable{G:Nat→Option (List PV)}{φ:Nat→aI}
theorem aA.CP{P:Program}{w0:bE}{μ:Ro}{m:Mem}{w:World}(h:aA P G w0 μ φ m w){K:Ro}(hK:∀b o,K b=some o→μ b=some o):aA P G {w0 with dK:=K} μ φ m w:=⟨h.below,h.ro,h.aM,h.dJ,h.own,h.inj,h.apart,h.fT,h.base,hK,h.Gd⟩
theorem aA.H2{P:Program}{w0:bE}{μ:Ro}{m:Mem}{w:World}{K:Ro}(h:aA P G {w0 with dK:=K} μ φ m w)(hK:∀b o,w0.dK b=some o→K b=some o):aA P G w0 μ φ m w:=⟨h.below,h.ro,h.aM,h.dJ,h.own,h.inj,h.apart,h.fT,h.base,fun b o hb=>h.dK b o (hK b o hb),h.Gd⟩
theorem xC.CP{P:Program}{G:Nat→Option (List PV)}{nt:Nat}{yl:YL}{w0:bE}(h:xC P G nt yl w0){K:Ro}(hK:∀b o,w0.dK b=some o→K b=some o):xC P G nt yl {w0 with dK:=K}:=fun R site id args f m k r hy μ φ ρ w xs hM hF hρ hl hr LQ g hg=>
  let⟨fn,tmps,assign,body,y1,y2⟩:=h R site id args f m k r hy μ φ ρ w xs (hM.H2 hK) hF hρ hl hr LQ g hg
  ⟨fn,tmps,assign,body,y1,y2.mono fun e w'⟨v,f',m',y,μ',φ',a1,a2,a3,a4,a5⟩=>⟨v,f',m',y,μ',φ',a1,a2,a3,a4.CP fun b o hb=>a3 b o (hM.dK b o hb),a5⟩⟩
def P7{R:Type}(P:Program)(G:Nat→Option (List PV))(g:FuncId)(yl:YL)(args:List V)(f:Fr)(m:Mem)(k:V→Fr→Mem→Option R)(r:R):Prop:=
 ∃fn c,P.funcs[g]?=some fn∧fn.body=some c∧(fn.name== "runtime.NumGoroutine")=false∧
 ∀(w0:bE)(μ:Ro)(φ:Nat→aI)(ρ:Nat→Value)(w:World)(xs:Array Value),aA P G w0 μ φ m w→cg P μ φ m f ρ→args.length=xs.size→(∀(i:Nat)v x,args[i]?=some v→xs[i]?=some x→an P μ φ v x)→(∀id,cu id args=true→(m id).isSome=true)→xC P G fn.ntmps yl {w0 with sv:=fun t=>ρ (t-fn.ntmps)}→Calls P g xs w fun e w'=>∃v f' m' y μ' φ',k v f' m'=some r∧e=.returned y∧aA P G w0 μ' φ' m' w'∧cg P μ' φ' m' f' ρ∧an P μ' φ' v y∧∀id,v.has id=true→(m' id).isSome=true
structure ku(E:Env):Prop where
 mixed:E.P.follows .mixedOrders=true
 lp:∀(S R:Type)(body:S→(S→Option R)→Option R)s r,E.lp.run body s=some r→∃n,dQ body n s=some r
 ctx:∀g M,E.ctx g=some M→Ad E.P E.aM g M
 own:∀g M,E.own g=some M→E7 E.P E.aM g M
 inl:∀(R:Type)g PS args f m(k:V→Fr→Mem→Option R)r,E.inl R g PS args f m k=some r→L2 E.P E.aM g args f m k r
 rng:∀(R:Type)g PS yl args f m(k:V→Fr→Mem→Option R)r,E.rng R g PS yl args f m k=some r→P7 E.P E.aM g yl args f m k r
section
variable {R:Type} {E:Env}
theorem eD{f:V→List Nat}{id:Nat}:∀{cs:List V},id∈iY f cs↔∃v∈cs,id∈f v
 |[]=>by simp[iY]
 |c::r=>by simp[iY,eD (cs:=r)]
theorem mH{g g':V→Option PV}:∀{cs:List V},(∀v∈cs,g' v=g v)→sR g' cs=sR g cs
 |[],_=>rfl
 |c::r,h=>by simp_all[sR,mH]
theorem tE{m m2:Mem}:∀(d:Nat){v:V},(∀id∈cV m d v,m2 id=m id)→lz m2 d v=lz m d v
 |0,v,_=>rfl
 |d+1,v,h=>by
  cases v with
  |agg cs=>simp only[lz];rw[mH fun v hv=>tE d fun id hid=>h id (by simp only[cV];exact eD.2 ⟨v,hv,hid⟩)]
  |aG cs=>simp only[lz];rw[mH fun v hv=>tE d fun id hid=>h id (by simp only[cV];exact eD.2 ⟨v,hv,hid⟩)]
  |fn g cs=>simp only[lz];rw[mH fun v hv=>tE d fun id hid=>h id (by simp only[cV];exact eD.2 ⟨v,hv,hid⟩)]
  |op id off=>
   have h0:=h id (by simp[cV]);simp only[lz,h0];split
   ·rename_i cs hm;rw[mH fun v hv=>tE d fun vq hid=>h vq (by simp only[cV,hm];exact anH _ (eD.2 ⟨v,hv,hid⟩))]
   rfl
  |oe id i off=>grind [lz,id,cV]
  |os id=>grind [lz,id,cV]
  |fS id lo len=>grind [lz,id,cV]
  |om id=>grind [lz,id,cV]
  |zU id i off=>grind [lz,id,cV]
  |_=>rfl
theorem jj{g g':V→List Nat}:∀{cs:List V},(∀v∈cs,g' v=g v)→iY g' cs=iY g cs
 |[],_=>rfl
 |c::r,h=>by simp_all[iY,jj]
theorem nv{m m2:Mem}:∀(d:Nat){v:V},(∀id∈cV m d v,m2 id=m id)→cV m2 d v=cV m d v
 |0,v,_=>rfl
 |d+1,v,h=>by
  cases v with
  |agg cs=>simp only[cV];exact jj fun v hv=>nv d fun id hid=>h id (by simp only[cV];exact eD.2 ⟨v,hv,hid⟩)
  |aG cs=>simp only[cV];exact jj fun v hv=>nv d fun id hid=>h id (by simp only[cV];exact eD.2 ⟨v,hv,hid⟩)
  |fn g cs=>simp only[cV];exact jj fun v hv=>nv d fun id hid=>h id (by simp only[cV];exact eD.2 ⟨v,hv,hid⟩)
  |op id off=>
   have h0:=h id (by simp[cV]);simp only[cV,h0];split
   ·rename_i cs hm;rw[jj fun v hv=>nv d fun vq hid=>h vq (by simp only[cV,hm];exact anH _ (eD.2 ⟨v,hv,hid⟩))]
   rfl
  |_=>rfl
variable{p:PV}
theorem Gp{t:TypeId}{k:PV→Option R}{r:R}(hs:yp E t=true)(h:iD E t p k=some r):∃q,(∀(R':Type)(k':PV→Option R'),iD E t p k'=k' q)∧k q=some r∧∀(P:Program)(μ μ':Ro)x,ao P μ p x→ao P μ' q x:=by
 unfold yp at hs;unfold iD at h;split at h
 ·rename_i q hu;obtain⟨n,hn,hk⟩:=M1.1 h;have hp:p=.int q n:=by cases p<;>simp[asInt]at hn;simp_all
  exact⟨.int q n,fun R' k'=>by simp[iD,hu,hn],hk,fun P μ μ' x hx=>by subst hp;cases hx with|int h=>exact .int h⟩
 ·rename_i hu;obtain⟨n,hn,hk⟩:=M1.1 h;have hp:p=.bool n:=by cases p<;>simp[asBool]at hn;subst hn;rfl
  exact⟨.bool n,fun R' k'=>by simp[iD,hu,hn],hk,fun P μ μ' x hx=>by subst hp;cases hx;exact .bool⟩
 ·rename_i hu;obtain⟨n,hn,hk⟩:=M1.1 h;have hp:p=.str n:=by cases p<;>simp[aT]at hn;subst hn;rfl
  exact⟨.str n,fun R' k'=>by simp[iD,hu,hn],hk,fun P μ μ' x hx=>by subst hp;cases hx with|str h=>exact .str h⟩
 all_goals simp_all
theorem NK:∀{ts:List TypeId}{ps:List PV}{k:List V→Option R}{r:R},F5 E ts ps k=some r→∃vs,(∀(R':Type)(k':List V→Option R'),F5 E ts ps k'=k' vs)∧k vs=some r∧vs.length=ps.length∧(∀id,cu id vs=false)∧(∀(P:Program)(μ:Ro)(φ:Nat→aI)(i:Nat)p v x,ps[i]?=some p→vs[i]?=some v→ao P μ p x→an P μ φ v x)∧(ts.all (yp E)=true→∀(P:Program)(μ μ':Ro)(φ:Nat→aI)(i:Nat)p v x,ps[i]?=some p→vs[i]?=some v→ao P μ p x→an P μ' φ v x)
 |[],[],k,r,h=>⟨[],fun R' k'=>rfl,h,rfl,fun _=>rfl,by simp,by simp⟩
 |t::ts,p::ps,k,r,h=>by
  simp only[F5]at h;obtain⟨q,q1,q2,q3,_⟩:=ma h;obtain⟨vs,v1,v2,v3,v4,v5,v6⟩:=NK q2;refine⟨.pv q::vs,fun R' k'=>by simp only[F5];rw[q1,v1],v2,by simp[v3],fun id=>by simp[cu,v4],fun P μ φ i p' v x hp hv hx=>?_,fun hs P μ μ' φ i p' v x hp hv hx=>?_⟩
  ·cases i with
   |zero=>simp at hp hv;subst hp;subst hv;exact .pv (q3 _ _ _ hx)
   |succ i=>grind
  ·simp only[an5,ale]at hs;cases i with
   |zero=>
    simp at hp hv;subst hp;subst hv;obtain⟨q',s1,s2,s3⟩:=Gp hs.1 h;have:q'=q:=by have e1:=s1 PV some;grind
    subst this;exact .pv (s3 P μ μ' x hx)
   |succ i=>grind
 |[],p::ps,k,r,h=>by simp[F5]at h
 |t::ts,[],k,r,h=>by simp[F5]at h
theorem NL{n:Nat}{r:PV}{vs:List PV}(h:bR n r=some vs):r=.aG vs∧vs.length=n:=by cases r<;>simp[bR]at h;grind
variable{ts:List TypeId}
theorem NM{k:V→Option R}{r:R}(h:F6 E ts p k=some r):∃v,(∀(R':Type)(k':V→Option R'),F6 E ts p k'=k' v)∧k v=some r∧(∀id,v.has id=false)∧(∀(P:Program)(μ:Ro)(φ:Nat→aI)x,ao P μ p x→an P μ φ v x)∧(ts.all (yp E)=true→∀(P:Program)(μ μ':Ro)(φ:Nat→aI)x,ao P μ p x→an P μ' φ v x):=by
 unfold F6 at h;split at h
 ·obtain⟨vs,hv,hk⟩:=M1.1 h;obtain⟨rfl,hl⟩:=NL hv;have:vs=[]:=alv hl;subst this;have key:∀(P:Program)(μ μ':Ro)(φ:Nat→aI)x,ao P μ (.aG []) x→an P μ' φ (.aG []) x:=fun P μ μ' φ x hx=>by
   cases hx with
   |aG h1 h2=>exact .aG h1 (by simp)
  grind [F6,V.has,cu]
 ·rename_i t;obtain⟨q,q1,q2,q3,_⟩:=ma h;refine⟨.pv q,fun R' k'=>by simp only[F6];rw[q1],q2,by simp,fun P μ φ x hx=>.pv (q3 _ _ _ hx),fun hs P μ μ' φ x hx=>?_⟩;obtain⟨q',s1,s2,s3⟩:=Gp (by simpa using hs) h;have:q'=q:=by have e1:=s1 PV some;grind
  subst this;exact .pv (s3 P μ μ' x hx)
 ·rename_i ak0 ak1;obtain⟨vs,hv,hk⟩:=M1.1 h;obtain⟨rfl,hl⟩:=NL hv;obtain⟨us,u1,u2,u3,u4,u5,u6⟩:=NK hk;have agc:((List.range ts.length).map fun j=>vs.getD j .bad)=vs:=by apply alL;grind
  rw[agc]at u3 u5 u6;refine⟨.aG us,fun R' k'=>?_,u2,fun id=>by simp[V.has,u4],fun P μ φ x hx=>?_,fun hs P μ μ' φ x hx=>?_⟩
  ·unfold F6;simp_all
  ·cases hx with
   |aG h1 h2=>
    refine .aG (by omega) fun i v y hv hy=>?_;have hi:i<vs.length:=by grind
    exact u5 P μ φ i _ v y (AI hi) hv (h2 i _ y (AI hi) hy)
  ·cases hx with
   |aG h1 h2=>
    refine .aG (by omega) fun i v y hv hy=>?_;have hi:i<vs.length:=by grind
    exact u6 hs P μ μ' φ i _ v y (AI hi) hv (h2 i _ y (AI hi) hy)
theorem wE:∀{args:List V}{m m':Mem}{ps:List PV},iZ m args=some (ps,m')→ky m m'∧ps.length=args.length∧∀(P:Program)(G:Nat→Option (List PV))(w0:bE)(μ:Ro)(φ:Nat→aI)(w:World)(X:Nat→Value),aA P G w0 μ φ m w→(∀(i:Nat)u,args[i]?=some u→an P μ φ u (X i))→∃μ',(∀b o,μ b=some o→μ' b=some o)∧aA P G w0 μ' φ m' w∧∀(i:Nat)p,ps[i]?=some p→ao P μ' p (X i)
 |[],m,m',ps,h=>by simp only[iZ,By,akj]at h;obtain⟨rfl,rfl⟩:=h;exact⟨.refl _,rfl,fun P G w0 μ φ w X hM _=>⟨μ,fun _ _ h=>h,hM,by simp⟩⟩
 |c::r,m,m',ps,h=>by
  simp only[iZ]at h;split at h
  ·rename_i p m1 h1;split at h
   ·rename_i ps1 m2 h2;simp only[By,akj]at h;obtain⟨rfl,rfl⟩:=h;obtain⟨a1,a2⟩:=KM h1;obtain⟨b1,b2,b3⟩:=wE h2;refine⟨a1.trans b1,by simp[b2],fun P G w0 μ φ w X hM hx=>?_⟩;obtain⟨μ1,c1,c2,c3⟩:=a2 P G w0 μ φ w (X 0) hM (hx 0 c (by simp));obtain⟨μ2,d1,d2,d3⟩:=b3 P G w0 μ1 φ w (fun i=>X (i+1)) c2 (fun i u hu=>(hx (i+1) u (by simpa using hu)).Ck c1);refine⟨μ2,fun b o h=>d1 b o (c1 b o h),d2,fun i q hq=>?_⟩;cases i with
    |zero=>simp at hq;subst hq;exact c3.mono d1
    |succ i=>simp_all
   ·cases h
  ·cases h
theorem L3{m':Mem}{v:V}(h:yj dc v=some (p,m')):m'=dc:=by
 have key:∀{cs:List V}{m':Mem}{ps:List PV},np dc cs=some (ps,m')→m'=dc:=by
  intro cs;induction cs with
  |nil=>simp[np,By,akj]
  |cons c r ih=>grind [np,tY,Option.some.injEq,Prod.mk.injEq]
 unfold yj at h;grind [Option.some.injEq,Prod.mk.injEq,tY]
theorem rY:∀{args:List V}{m':Mem}{ps:List PV},iZ dc args=some (ps,m')→ps.length=args.length∧∀(P:Program)(μ:Ro)(φ:Nat→aI)(X:Nat→Value),(∀(i:Nat)u,args[i]?=some u→an P μ φ u (X i))→∀(i:Nat)p,ps[i]?=some p→ao P μ p (X i)
 |[],m',ps,h=>by simp only[iZ,By,akj]at h;simp_all
 |c::r,m',ps,h=>by
  simp only[iZ]at h;split at h
  ·rename_i p m1 h1;have:=L3 h1;subst this;split at h
   ·rename_i ps1 m2 h2;simp only[By,akj]at h;obtain⟨rfl,rfl⟩:=h;obtain⟨b2,b3⟩:=rY h2;refine⟨by simp[b2],fun P μ φ X hx i q hq=>?_⟩;cases i with
    |zero=>simp at hq;subst hq;exact Gn h1 P μ φ _ (hx 0 c (by simp))
    |succ i=>exact b3 P μ φ (fun i=>X (i+1)) (fun i u hu=>hx (i+1) u (by simpa using hu)) i q (by simpa using hq)
   ·cases h
  ·cases h
variable{φ:Nat→aI}
theorem aN.move{P:Program}{μ μ':Ro}{φ':Nat→aI}{w:World}{i j sz:Nat}{et:TypeId}{es:List PV}(h:aN P μ φ w i sz et es)(hφ:φ' j=φ i)(hμ:∀b o,μ b=some o→μ' b=some o):aN P μ' φ' w j sz et es:=by
 unfold aN at*;rw[hφ];obtain⟨h1,h2,h3,h4,h5,h6,h7⟩:=h;refine⟨h1,h2,h3,h4,h5,h6,?_⟩;split at h7
 ·omega
 ·obtain⟨c,T,c1,c2,c3,c4,c5⟩:=h7;exact⟨c,T,c1,c2,c3,fun i e j p x he hp hx=>(c4 i e j p x he hp hx).mono hμ,c5⟩
theorem aN.Xt{P:Program}{ν μ:Ro}{w:World}{i:Nat}{et:TypeId}{es:List PV}(h:aN P ν φ w i 1 et es):aN P μ φ w i 1 et (es.map Km):=by
 unfold aN at*;obtain⟨h1,h2,h3,h4,h5,h6,h7⟩:=h;have hc:∀p:PV,(Km p).cells.length=1:=fun p=>by cases p<;>rfl
 refine⟨by simpa using h1,h2,h3,h4,fun j e he=>?_,h6,?_⟩
 ·grind
 ·split at h7
  ·simp_all
  ·obtain⟨c,T,c1,c2,c3,c4,c5⟩:=h7;refine⟨c,T,c1,c2,by simpa using c3,fun j e l p x he hp hx=>?_,fun j x hj hx=>c5 j x (by simpa using hj) hx⟩;simp only[IS,alg]at he;obtain⟨q,hq,rfl⟩:=he;have hl:l=0:=by grind
   subst hl;cases q<;>(simp only[Km,PV.cells,al4,By]at hp;subst hp);case int=>have:=c4 j _ 0 _ x hq rfl hx;cases this with|int h=>exact .int h
   case bool=>have:=c4 j _ 0 _ x hq rfl hx;cases this;exact .bool
   case str=>have:=c4 j _ 0 _ x hq rfl hx;cases this with|str h=>exact .str h
   all_goals exact .bad
mutual
theorem Xu:∀(s:FS)(p:PV)(a:List PV),rdL s p=some a→a.length=s.n∧∀r,LH s (a++r)=(p,r)
 |.raw,p,a,h=>by simp only[rdL,By]at h;subst h;exact⟨rfl,fun r=>rfl⟩
 |.fn g cs,p,a,h=>by
  cases p<;>simp only[rdL]at h<;>try (cases h;done)
  split at h
  ·rename_i e;subst e;obtain⟨h1,h2⟩:=L4 cs _ a h;exact⟨by simp[FS.n,h1],fun r=>by simp[LH,h2 r]⟩
  ·cases h
 |.ptr cs,p,a,h=>by
  cases p<;>simp only[rdL]at h<;>try (cases h;done)
  obtain⟨h1,h2⟩:=L4 cs _ a h;exact⟨by simp[FS.n,h1],fun r=>by simp[LH,h2 r]⟩
theorem L4:∀(ss:List FS)(ps:List PV)(a:List PV),Ni ss ps=some a→a.length=nFs ss∧∀r,F4 ss (a++r)=(ps,r)
 |[],ps,a,h=>by
  cases ps with
  |nil=>simp only[Ni,By]at h;subst h;exact⟨rfl,fun r=>rfl⟩
  |cons p ps=>simp[Ni]at h
 |s::ss,ps,a,h=>by
  cases ps with
  |nil=>simp[Ni]at h
  |cons p ps=>simp only[Ni]at h;obtain⟨x,hx,h⟩:=M1.1 h;obtain⟨y,hy,h⟩:=M1.1 h;simp only[By]at h;subst h;obtain⟨a1,a2⟩:=Xu s p x hx;obtain⟨b1,b2⟩:=L4 ss ps y hy;refine⟨by simp[nFs,a1,b1],fun r=>?_⟩;simp only[F4,alJ,a2,b2]
end
theorem Su{s:FS}{ls:List PV}(h:rdL s p=some ls):(LH s ((List.range s.n).map fun j=>ls.getD j .bad)).1=p:=by
 obtain⟨h1,h2⟩:=Xu s p ls h;have:((List.range s.n).map fun j=>ls.getD j .bad)=ls:=by apply alL;grind
 rw[this];have:=h2 [];simp_all
theorem UL{fid:FuncId}{k:V→Option R}{r:R}(h:EX E fid ts p k=some r):∃v,(∀(R':Type)(k':V→Option R'),EX E fid ts p k'=k' v)∧k v=some r∧(∀id,v.has id=false)∧(∀(P:Program)(μ:Ro)(φ:Nat→aI)x,ao P μ p x→an P μ φ v x)∧True:=by
 unfold EX at h;split at h
 ·rename_i s hs;obtain⟨ls,hl,hk⟩:=M1.1 h;refine⟨_,fun R' k'=>by simp_all[EX,alr],hk,fun id=>rfl,fun P μ φ x hx=>.pv ?_,trivial⟩;rw[Su hl];omega
 ·rename_i hs;obtain⟨v,v1,v2,v3,v4,_⟩:=NM h;exact⟨v,fun R' k'=>by simp_all[EX],v2,v3,v4,trivial⟩
theorem Xv(hE:ku E){draw:Bool}{site:Nat}{g:FuncId}{args:List V}{f:Fr}{m:Mem}{k:V→Fr→Mem→bD→Option R}{r:R}(h:zs E draw site g args f m k=some r):(∃v f' m' ft,k v f' m' ft=some r∧(draw=true→f'=f∧∃wr:Option (Nat×bK),m'=aga m wr∧(∀id b,wr=some (id,b)→(true,id)∈ft)∧∀(f2:Fr)(m2:Mem),(∀x∈ft,m2 x.2=m x.2)→∀(R':Type)(k':V→Fr→Mem→bD→Option R'),zs E true site g args f2 m2 k'=k' v f2 (aga m2 wr) ft)∧((∀x∈ft,x.1=false)→f'=f∧m'=m)∧agb E g args f m v f' m')∨(draw=false∧L2 E.P E.aM g args f m (fun v f m=>k v f m [(true,0)]) r):=by
 have hX:∀(P:Program)(μ:Ro)(φ:Nat→aI)(xs:Array Value),args.length=xs.size→(∀(i:Nat)v x,args[i]?=some v→xs[i]?=some x→an P μ φ v x)→∀(i:Nat)u,args[i]?=some u→xs[i]?=some (xs.getD i undef)∧an P μ φ u (xs.getD i undef):=by
  intro P μ φ xs hl hr i u hu;have bQ:i<xs.size:=by grind
  have:xs[i]?=some (xs.getD i undef):=by simp_all
  grind
 unfold zs at h;split at h
 ·rename_i M UM;obtain⟨WG,hM⟩:=hE.ctx g M UM;split at h
  ·rename_i fn hg;split at h
   ·rename_i hsc;split at h
    ·rename_i ps rT;obtain⟨p,hp,h⟩:=M1.1 h;obtain⟨v,v1,v2,v3,v4,v5⟩:=NM h;refine .inl ⟨v,f,m,_,v2,fun hd=>⟨rfl,none,rfl,by simp,fun f2 m2 cS R' k'=>?_⟩,fun _=>⟨rfl,rfl⟩,WG,fun w0 μ φ ρ w xs hR hF hl hr LQ=>?_⟩
     ·have Xe:sR (lz m2 eP) args=sR (lz m eP) args:=mH fun v hv=>tE _ fun id hid=>cS (false,id) (by simp only[alC];exact⟨id,eD.2 ⟨v,hv,hid⟩,rfl⟩);have D3:((iY (cV m2 eP) args).map fun i=>(false,i))=((iY (cV m eP) args).map fun i=>(false,i)):=by have:iY (cV m2 eP) args=iY (cV m eP) args:=jj fun v hv=>nv _ fun id hid=>cS (false,id) (by simp only[alC];exact⟨id,eD.2 ⟨v,hv,hid⟩,rfl⟩);rw[this]
      simp only[zs,UM,hg];rw[T0 hsc];simp only[Xe,rT,hp,alr,D3];rw[v1];rfl
     ·obtain⟨p1,p2⟩:=gX rT;refine(hM ps p hp w (jf w) xs (fun _ _ h=>h) (fun g cs hg=>(hR.aM g cs hg).mono hR.BK) (by omega) (fun i q x hq hx=>?_)).mono ?_
      ·obtain⟨u,hu,hf⟩:=p2 i q hq;exact xB hR hR.BK (fun _ _ _ _ _=>rfl) _ hf (hr i u x hu hx)
      ·rintro e w' ⟨y,rfl,hb,hy⟩;exact⟨y,cB μ w w',φ,rfl,hR.called hb,hF.nP (kM hR w') (.refl _),v5 hsc E.P _ _ φ y hy,fun id hid=>by simp_all⟩
    ·cases h
   ·rename_i hsc;split at h
    ·rename_i ps m1 rT;obtain⟨p,hp,h⟩:=M1.1 h;obtain⟨v,v1,v2,v3,v4,v5⟩:=UL h;cases draw with
     |true=>
      simp only[IT]at rT v2;obtain⟨q1,q2⟩:=rY rT;refine .inl ⟨v,f,m,_,v2,fun _=>⟨rfl,none,rfl,by simp,fun f2 m2 cS R' k'=>?_⟩,fun _=>⟨rfl,rfl⟩,WG,fun w0 μ φ ρ w xs hR hF hl hr LQ=>?_⟩
      ·simp only[zs,UM,hg];rw[acB hsc];simp only[IT,rT,hp,alr];rw[v1];rfl
      ·refine(hM ps p hp w μ xs hR.ro hR.aM (by omega) (fun i q x hq hx=>?_)).mono ?_
       ·have:=q2 E.P μ φ (fun i=>xs.getD i undef) (fun i u hu=>(hX E.P μ φ xs hl hr i u hu).2) i q hq;simp_all
       ·rintro e w' ⟨y,rfl,hb,hy⟩;exact⟨y,cB μ w w',φ,rfl,hR.called hb,hF.nP (kM hR w') (.refl _),v4 E.P _ φ y hy,fun id hid=>by simp_all⟩
     |false=>
      simp only[IN,Wi]at rT v2;obtain⟨q0,q1,q2⟩:=wE rT;refine .inl ⟨v,f,m1,_,v2,fun hd=>by(cases hd),fun hq=>absurd (hq (true,0) (by simp)) (by simp),WG,fun w0 μ φ ρ w xs hR hF hl hr LQ=>?_⟩;obtain⟨μ1,r1,r2,r3⟩:=q2 E.P E.aM w0 μ φ w (fun i=>xs.getD i undef) hR (fun i u hu=>(hX E.P μ φ xs hl hr i u hu).2);refine(hM ps p hp w μ1 xs r2.ro r2.aM (by omega) (fun i q x hq hx=>?_)).mono ?_
      ·have:=r3 i q hq;have bQ:i<xs.size:=(alm.1 hx).1;simp_all[undef,ald,By,Array.getD]
      ·rintro e w' ⟨y,rfl,hb,hy⟩;exact⟨y,cB μ1 w w',φ,rfl,r2.called hb,hF.nP (fun b o h=>kM r2 w' b o (r1 b o h)) q0,v4 E.P _ φ y hy,fun id hid=>by grind⟩
    ·cases h
  ·cases h
 ·rename_i UM;split at h
  ·rename_i M E5;obtain⟨WG,hM⟩:=hE.own g M E5;split at h
   ·rename_i fn hg;split at h
    ·rename_i t ht;split at h
     ·rename_i e hu;split at h
      ·rename_i hsc;obtain⟨hsc,xG⟩:=hsc;split at h
       ·rename_i ps rT;obtain⟨p,hp,h⟩:=M1.1 h;obtain⟨es,Nf,h⟩:=M1.1 h;obtain⟨f',m',n1,n2,n3,n4,n5⟩:=cv h;refine .inl ⟨_,f',m',_,n2,fun hd=>?_,fun hq=>absurd (hq (true,site) (by simp)) (by simp),WG,fun w0 μ φ ρ w xs hR hF hl hr LQ=>?_⟩
        ·obtain⟨d1,d2,d3⟩:=n4 hd;subst hd;refine⟨d2,some (site,_),d3,by simp,fun f2 m2 cS R' k'=>?_⟩;have Xe:sR (lz m2 eP) args=sR (lz m eP) args:=mH fun v hv=>tE _ fun id hid=>cS (false,id) (by simp only[alM,alC];exact .inr ⟨id,eD.2 ⟨v,hv,hid⟩,rfl⟩);have D3:iY (cV m2 eP) args=iY (cV m eP) args:=jj fun v hv=>nv _ fun id hid=>cS (false,id) (by simp only[alM,alC];exact .inr ⟨id,eD.2 ⟨v,hv,hid⟩,rfl⟩);simp only[zs,UM,E5,hg,ht,hu];rw[T0 ⟨hsc,xG⟩];simp only[Xe,rT,hp,alr,Nf,D3];have hs2:m2 site=none:=by rw[cS (true,site) (by simp)];omega
         simp only[fresh,hs2];rfl
        ·obtain⟨p1,p2⟩:=gX rT;refine(hM fn t e hg ht hu ps p hp w (jf w) xs (fun _ _ h=>h) (fun g cs hg=>(hR.aM g cs hg).mono hR.BK) (by omega) (fun i q x hq hx=>?_)).mono ?_
         ·obtain⟨u,tU,hf⟩:=p2 i q hq;exact xB hR hR.BK (fun _ _ _ _ _=>rfl) _ hf (hr i u x tU hx)
         rintro en w' ⟨y,ph,es',rfl,hb,rfl,JX,hA,hy⟩;have adO:es'=es:=by simp only[ah,IT,By]at Nf;omega
         subst adO;rw[xG]at hA;have hA2:aN E.P (nL (cB μ w w') ph.g) (fun _=>ph) w' 0 1 e (es'.map Km):=hA.Xt;have KN:=hR.KF hb JX;have hF2:cg E.P (nL (cB μ w w') ph.g) φ m f ρ:=hF.nP (fun b o h=>CL hR w' JX b o h) (.refl _);have hP:lB E.P w0 (nL (cB μ w w') ph.g) φ m w' w' site (.arr (aV E.P e) e (es'.map Km)) ph:=by
          refine⟨lL.refl _ _,KN.ro,fun _ _ _ _ _=>rfl,fun g hg=>⟨?_,?_,?_⟩,fun φ' hp _=>by rw[xG];exact hA2.move hp (fun _ _ h=>h),by simp[bK.names],fun st h=>by cases h⟩
          ·have:=JX g hg;have:=hR.below.size;grind
          ·simp[nL,hg]
          ·intro id b' je dn;have h1:=(hR.dJ id b' je).HP dn;grind
         obtain⟨φ',a1,a2,a3⟩:=n5 E.P E.aM w0 _ φ w' w' ρ ph KN hF2 hP;refine⟨y,_,φ',rfl,a2,a3,?_,fun id hid=>?_⟩
         ·cases hy with
          |vt h=>exact .vt (by rw[a1];omega)
          | @os _ g h=>have:=an.os (P:=E.P) (μ:=nL (cB μ w w') ph.g) (φ:=φ') (id:=site) (g:=g) (by rw[a1];omega);grind
         ·have hid:=acA hid;subst hid;simp[n3]
       ·cases h
      rename_i hsc;split at h
      ·rename_i ps m1 rT;obtain⟨p,hp,h⟩:=M1.1 h;obtain⟨es,Nf,h⟩:=M1.1 h;obtain⟨f',m',n1,n2,n3,n4,n5⟩:=cv h;have fin:∀(w0:bE)(μ μ1:Ro)(φ:Nat→aI)(ρ:Nat→Value)(w:World)(xs:Array Value),(∀b o,μ b=some o→μ1 b=some o)→ky m (if draw then m else m1)→aA E.P E.aM w0 μ1 φ (if draw then m else m1) w→cg E.P μ φ m f ρ→ps.length=xs.size→(∀(i:Nat)p x,ps[i]?=some p→xs[i]?=some x→ao E.P μ1 p x)→Calls E.P g xs w fun e w'=>∃y μ' φ',e=.returned y∧aA E.P E.aM w0 μ' φ' m' w'∧cg E.P μ' φ' m' f' ρ∧an E.P μ' φ' (.os site) y∧∀id,(V.os site).has id=true→(m' id).isSome=true:=by
        intro w0 μ μ1 φ ρ w xs hle LQ hR hF hl hr;refine(hM fn t e hg ht hu ps p hp w μ1 xs hR.ro hR.aM hl hr).mono ?_;rintro en w' ⟨y,ph,es',rfl,hb,rfl,JX,hA,hy⟩;have adO:es'=es:=by simp only[ah,IT,By]at Nf;omega
        subst adO;have KN:=hR.KF hb JX;have hF2:cg E.P (nL (cB μ1 w w') ph.g) φ (if draw then m else m1) f ρ:=hF.nP (fun b o h=>CL hR w' JX b o (hle b o h)) LQ;have hP:lB E.P w0 (nL (cB μ1 w w') ph.g) φ (if draw then m else m1) w' w' site (.arr (aV E.P e) e es') ph:=by
         refine⟨lL.refl _ _,KN.ro,fun _ _ _ _ _=>rfl,fun g hg=>⟨?_,?_,?_⟩,fun φ' hp _=>hA.move hp (fun _ _ h=>h),by simp[bK.names],fun st h=>by cases h⟩
         ·have:=JX g hg;have:=hR.below.size;grind
         ·simp[nL,hg]
         ·intro id b' je dn;have h1:=(hR.dJ id b' je).HP dn;grind
        obtain⟨φ',a1,a2,a3⟩:=n5 E.P E.aM w0 _ φ w' w' ρ ph KN hF2 hP;refine⟨y,_,φ',rfl,a2,a3,?_,fun id hid=>?_⟩
        ·cases hy with
         |vt h=>exact .vt (by rw[a1];omega)
         | @os _ g h=>have:=an.os (P:=E.P) (μ:=nL (cB μ1 w w') ph.g) (φ:=φ') (id:=site) (g:=g) (by rw[a1];omega);grind
        ·have hid:=acA hid;subst hid;simp[n3]
       cases draw with
       |true=>
        simp only[IT]at rT n2 fin n4;obtain⟨q1,q2⟩:=rY rT;obtain⟨d1,d2,d3⟩:=n4 trivial;refine .inl ⟨_,f',m',_,n2,fun _=>⟨d2,some (site,_),d3,by simp,fun f2 m2 cS R' k'=>?_⟩,fun hq=>absurd (hq (true,site) (by simp)) (by simp),WG,fun w0 μ φ ρ w xs hR hF hl hr LQ=>?_⟩
        ·simp only[zs,UM,E5,hg,ht,hu];rw[acB hsc];simp only[IT,rT,hp,alr,Nf];have hs2:m2 site=none:=by rw[cS (true,site) (by simp)];omega
         simp only[fresh,hs2];rfl
        ·refine fin w0 μ μ φ ρ w xs (fun _ _ h=>h) (.refl _) hR hF (by omega) fun i q x hq hx=>?_;have:=q2 E.P μ φ (fun i=>xs.getD i undef) (fun i u hu=>(hX E.P μ φ xs hl hr i u hu).2) i q hq;have bQ:i<xs.size:=(alm.1 hx).1;have e:xs.getD i undef=x:=by rw[ald bQ]at hx;simp only[By]at hx;simp[Array.getD,bQ,hx]
         rw[←e];omega
       |false=>
        simp only[IN,Wi]at rT n2 fin n4;obtain⟨q0,q1,q2⟩:=wE rT;refine .inl ⟨_,f',m',_,n2,fun hd=>by(cases hd),fun hq=>absurd (hq (true,site) (by simp)) (by simp),WG,fun w0 μ φ ρ w xs hR hF hl hr LQ=>?_⟩;obtain⟨μ1,r1,r2,r3⟩:=q2 E.P E.aM w0 μ φ w (fun i=>xs.getD i undef) hR (fun i u hu=>(hX E.P μ φ xs hl hr i u hu).2);refine fin w0 μ μ1 φ ρ w xs r1 q0 r2 hF (by omega) fun i q x hq hx=>?_;have:=r3 i q hq;have bQ:i<xs.size:=(alm.1 hx).1;have e:xs.getD i undef=x:=by rw[ald bQ]at hx;simp only[By]at hx;simp[Array.getD,bQ,hx]
        rw[←e];omega
      ·cases h
     ·cases h
    ·cases h
   ·cases h
  ·split at h
   ·cases h
   ·rename_i hd;exact .inr ⟨by simpa using hd,hE.inl _ _ _ _ _ _ _ _ h⟩
end
end Go.Ab
