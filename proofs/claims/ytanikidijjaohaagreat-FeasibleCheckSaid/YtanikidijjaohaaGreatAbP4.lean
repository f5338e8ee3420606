import Derived.Test.YtanikidijjaohaaGreatAbP3
import Derived.WideKeyRuns
import Derived.MapKept
import Derived.RangeFuncRecord
set_option linter.unusedVariables false
set_option linter.unusedSimpArgs false
namespace Go.Ab
open Go.RowKit (Below)
section
variable {R:Type} {E:Env}
theorem cells_one{x:Value}(h:x.oneCell'=true):x.cells= #[x]:=by cases x<;>first|rfl|(simp[Value.oneCell']at h)
theorem af.elem{P:Program}{μ:Ro}{n:Nat}{p:PV}{x:Value}(h:af P μ p x)(hl:p.cells.length=n)(hp:p.plain=true):rM P μ n p x:=by
 cases hq:p.isAgg with
 |true=>
  cases p<;>simp[PV.isAgg]at hq;cases h with
  |agg h1 h2 h3=>exact⟨hl,by simp_all[PV.cells,Value.cells],h2,h3⟩
 |false=>
  have hc:p.cells=[p]:=by cases p<;>first|rfl|(simp[PV.isAgg]at hq)
  have h1:x.oneCell'=true:=h.one (fun cs e=>by subst e;simp[PV.isAgg]at hq) (fun cs e=>by subst e;simp[PV.plain]at hp) (fun e=>by subst e;simp[PV.plain]at hp);have hx:=cells_one h1;refine⟨hl,by simp_all,fun j q y hj hy=>?_,fun j y hy=>?_⟩
  ·grind
  grind
variable{t:TypeId}
theorem Af{z:PV}(h:zV E t=some z):∃i zv,E.P.info? t=some i∧i.zero=some zv∧i.size=aR E.P t∧(∀μ,af E.P μ z zv)∧∀μ,rM E.P μ (aR E.P t) z zv:=by
 unfold zV zeroV at h;cases hi:E.P.info? t with
 |none=>simp[hi]at h
 |some i=>
  cases hz:i.zero with
  |none=>simp[hi,hz]at h
  |some zv=>
   simp only[hi,hz,agO,adN]at h;split at h
   ·rename_i p hp;split at h
    ·rename_i hc;simp only[AI]at h;subst h;have hr:∀μ,af E.P μ p zv:=fun μ=>sA 2 hp (sx (φ:=fun _=>default) zv);exact⟨i,zv,rfl,hz,by simp[aR,hi],hr,fun μ=>(hr μ).elem hc.2.1 hc.2.2⟩
    ·cases h
   ·cases h
theorem Lu{z:PV}(h:zV E t=some z):∃zv,(∀w,(zeroValue t).run E.P w=.ok zv w)∧∀μ,af E.P μ z zv:=by obtain⟨i,zv,h1,h2,h3,h4,_⟩:=Af h;simp_all[nI]
theorem Cells.made{P:Program}{μ:Ro}{sz:Nat}{z:PV}{zv:Value}(hE:rM P μ sz z zv)(er:0<sz)(n cap:Nat)(hn:n≤cap):Cells P μ sz (List.replicate n z) ((madeCells zv.cells (cap*sz)).toList.take ((List.replicate n z).length*sz)):=by
 have hle:n*sz≤cap*sz:=aaP _ hn;have eH:∀k y,((madeCells zv.cells (cap*sz)).toList.take ((List.replicate n z).length*sz))[k]?=some y→zv.cells[k%sz]?=some y:=by
  intro k y hk;obtain⟨h1,h2⟩:=eC hk;simp only[ah0]at h1;have bS:k%sz<zv.cells.size:=by rw[hE.size];exact ajI _ er
  rw[agR,madeCells,ajd,Array.getElem?_range]at h2;rw[BY (by omega)]at h2;simp only[adN,AI,hE.size]at h2;simp_all
 refine⟨by rw[ahu,ah0,ahV,size_madeCells];omega,fun i e hi=>?_,fun i e j p y hi hj hy=>?_,fun k y hk=>hE.one _ y (eH k y hk)⟩
 ·rw[ag9]at hi;split at hi
  ·simp only[AI]at hi;subst hi;exact hE.len
  ·cases hi
 ·rw[ag9]at hi;split at hi
  ·simp only[AI]at hi;subst hi;have Ad:j<sz:=by rw[←hE.len];grind
   have:=eH _ y hy;rw[aiD,ajG,aio Ad]at this;exact hE.rep j p y hj this
  ·cases hi
theorem EG{draw:Bool}{site:Nat}{len cap:V}{f:Fr}{m:Mem}{k:V→Fr→Mem→bp→Option R}{r:R}(h:pL E draw site t len cap f m k=some r):∃f' m' b,(draw=true→m site=none∧f'=f∧m'=al m site b∧∀(f2:Fr)(m2:Mem),m2 site=none→∀(R':Type)(k':V→Fr→Mem→bp→Option R'),pL E true site t len cap f2 m2 k'=k' (.os site) f2 (al m2 site b) [(true,site)])∧k (.os site) f' m' [(true,site)]=some r∧(m' site).isSome=true∧∀(G:Nat→Option (List PV))(w0:bu)(μ:Ro)(φ:Nat→aA)(w:World)(ρ:Nat→Value)(yl yc:Value),aw E.P G w0 μ φ m w→bX E.P μ φ m f ρ→ae E.P μ φ len yl→ae E.P μ φ cap yc→∃w' y φ',(Instr.makeSlice t yl yc).run E.P w=.ok y w'∧aw E.P G w0 μ φ' m' w'∧bX E.P μ φ' m' f' ρ∧ae E.P μ φ' (.os site) y:=by
 unfold pL at h;split at h
 ·rename_i e ql n qc c hu;split at h
  ·rename_i z hz;split at h
   ·rename_i hb;obtain⟨f',m',_,hk,uE,xj,uA⟩:=dX h;refine⟨f',m',.arr (aR E.P e) e (List.replicate n.toNat z),fun hd=>?_,hk,by simp[uE],fun G w0 μ φ w ρ yl yc hM hF hl hc=>?_⟩
    ·simp_all[pL,BY,fresh]
    ·obtain⟨i,zv,h1,h2,h3,_,h4⟩:=Af hz;obtain⟨Ze,_⟩:=Fl h1;have Y6:c.toNat≤140737488355328:=by have:c.toNat*1≤c.toNat*Ev E.P e:=ah7 _ hb.2.2.2.1;grind [aj]
     cases hl with
     |pv hl=>cases hl with
      |int wl=>
       cases hc with
       |pv hc=>cases hc with
        |int wc=>
         have Zg:(i.bytes:Int)*c≤281474976710656:=by grind [aj,Ev,Int.natCast_mul,Int.toNat_of_nonneg,Int.mul_comm]
         have hr:=run_make (P:=E.P) w t e i zv hu h1 h2 ql qc n c hb.1 hb.2.1 Zg (by omega);rw[h3]at hr;obtain⟨φ',a1,a2,a3⟩:=uA E.P G w0 μ φ w _ ρ (BI (some w.heap.size) c.toNat (List.replicate n.toNat z).length (aR E.P e)) hM hF (kq.alloc (o:=.cells (madeCells zv.cells (c.toNat*aR E.P e)) e) hM rfl (fun φ' hp _=>aK.nR (g:=w.heap.size) (by rw[hp]) rfl hb.2.2.2.2 (by rw[hp];simp only[maxLen];omega) (fp w _) (by rw[hp];simp[size_madeCells]) (by rw[hp];simp;omega) (Cells.made (h4 μ) hb.2.2.2.2 _ _ (by omega))) (by simp[bF.names]));refine⟨_,_,φ',hr,a2,a3,?_⟩;have:=ae.os (P:=E.P) (μ:=μ) (φ:=φ') (id:=site) (g:=w.heap.size) (by rw[a1]);simp_all
   ·cases h
  ·cases h
 ·cases h
theorem Lv(cells:Array Value)(n:Nat):Builtin.zeroCells cells n=madeCells cells (n*cells.size):=rfl
theorem QO{x:V}{m:Mem}{k:V→Mem→bp→Option R}{r:R}(h:Cq E t x m k=some r):∃id b,(∀m2:Mem,m2 id=m id→∀(R':Type)(k':V→Mem→bp→Option R'),Cq E t x m2 k'=k' .top (al m2 id b) [(true,id)])∧k .top (al m id b) [(true,id)]=some r∧∀(G:Nat→Option (List PV))(w0:bu)(μ:Ro)(φ:Nat→aA)(w:World)(ρ:Nat→Value)(f:Fr)(yx:Value)(ts:List TypeId)(ty:TypeId),aw E.P G w0 μ φ m w→bX E.P μ φ m f ρ→ae E.P μ φ x yx→∃w',(Builtin.clear_ (t::ts).toArray ty #[yx]).run E.P w=.ok (.tuple #[]) w'∧aw E.P G w0 μ φ (al m id b) w'∧bX E.P μ φ (al m id b) f ρ:=by
 unfold Cq at h;split at h
 ·rename_i e hu;split at h
  ·rename_i id lo len z hz;split at h
   ·rename_i sz et es hm;split at h
    ·rename_i hc;obtain⟨mP,rfl,hle,er⟩:=hc;refine⟨id,_,fun m2 cQ R' k'=>?_,h,fun G w0 μ φ w ρ f yx ts ty hM hF hx=>?_⟩
     ·simp_all[Cq,BY,trivial]
     ·obtain⟨i,zv,h1,h2,h3,h4,h5⟩:=Af hz;have hA:aK E.P μ φ w id sz et es:=hM.du id _ hm;have abc:len=0→al m id (.arr sz et (es.take lo++(List.replicate len z++es.drop (lo+len))))=m:=by
       intro h0;subst h0;rw[List.replicate_zero,ah9,ahL,List.take_append_drop];funext j;by_cases ej:j=id
       ·subst ej;simp[hm]
       ·rw[ao ej]
      cases hx with
      |pO hg=>rw[abc rfl];simp_all[Builtin.clear_,run_underlying]
      | @fx _ _ _ cap g a hg hl ha Y6 SI=>
       by_cases h0:len=0
       ·simp_all[Builtin.clear_,run_underlying]
       ·have oz:=hA.nQ;have GN:=hA.1;have agu:=hA.2.1;have abd:a=⟨g,lo*sz,none⟩:=by grind
        subst abd;obtain⟨c,T,c1,c2,c3,c4,c5⟩:=hA.cells hg;have Lr:zv.cells.size=sz:=by rw[(h5 μ).size,mP]
        have hn:len*zv.cells.size=len*sz:=by rw[Lr]
        have hlen:(madeCells zv.cells (len*sz)).toList.length=len*sz:=by simp[size_madeCells]
        have XR:(lo+len)*sz≤es.length*sz:=aaP _ hle;have tf:(lo+len)*sz=lo*sz+len*sz:=ahj _ _ _;have tx:=Cells.made (P:=E.P) (μ:=μ) (by rw[←mP]at h5;exact h5 μ) (by omega) len len (agM _);have sy:∀v∈(madeCells zv.cells (len*sz)).toList,v.oneCell'=true:=fun v hv=>by obtain⟨j,hj⟩:=ag4 hv;refine tx.one j v ?_;grind
        have pw:=run_storeCells_at E.P g (lo*sz) T (madeCells zv.cells (len*sz)).toList 0 c w c1 (by omega) sy;rw[hlen,ahL]at pw;have hnl:(es.take lo++(List.replicate len z++es.drop (lo+len))).length=es.length:=by simp;omega
        refine⟨w.setRow g (c.toList.take (lo*sz)++(madeCells zv.cells (len*sz)).toList++c.toList.drop (lo*sz+len*sz)).toArray,?_,hM.write hm rfl hg (kv.setRow (agM _)) setRow_size (fun k hk=>bY hk) ?_ rfl (by simp[bF.names]),hF.l0 (fun _ _ h=>h) .set⟩
        ·obtain⟨n',rfl⟩:∃n',len=n'+1:=⟨len-1,by omega⟩;simp_all[Builtin.clear_,run_underlying,nI,Lv]
        ·refine aK.nR (g:=g) ?_ hA.2.2.1 hA.2.2.2.1 oz.2 (setRow_heap w g c _ T (0,0) c1) ?_ (by omega) ?_
         ·rw[hnl,←hA.1,←hA.2.1];cases hq:(φ id).toA6 with
          |mk a b c d=>simp_all
         ·grind
         ·rw[hnl];have hM2:Cells E.P μ sz (List.replicate len z) (madeCells zv.cells (len*sz)).toList:=by grind
          have hX:=(c5.take lo).append (hM2.append (c5.drop (lo+len)));have e1:(c.toList.take (lo*sz)++(madeCells zv.cells (len*sz)).toList++c.toList.drop (lo*sz+len*sz)).take (es.length*sz)=(c.toList.take (es.length*sz)).take (lo*sz)++((madeCells zv.cells (len*sz)).toList++(c.toList.take (es.length*sz)).drop ((lo+len)*sz)):=by
           have l1:(c.toList.take (lo*sz)).length=lo*sz:=by grind
           have l2:(c.toList.take (lo*sz)++(madeCells zv.cells (len*sz)).toList).length=lo*sz+len*sz:=by simp_all
           grind [List.take_append,List.take_of_length_le,Nat.min_eq_left,List.drop_take,List.append_assoc]
          rw[e1];omega
    ·cases h
   ·cases h
  ·cases h
 ·cases h
theorem Bc(off:Nat):∀(l:List Value)(k:Nat)(c:Array Value),off+k+l.length≤c.size→(l.zipIdx k).foldl (fun cs(x:Value×Nat)=>cs.setIfInBounds (off+x.2) x.1) c=(bH c.toList (off+k) l).toArray
 |[],k,c,_=>by simp[dw]
 |v::r,k,c,h=>by simp only[List.zipIdx_cons,ajH];rw[Bc off r (k+1) _ (by simp at h⊢;omega)];congr 1;have e:=list_seg_step c.toList (off+k) v r (by omega);simp_all[dw,ai7,ahm]
theorem wG{place:Nat→Option (Nat×Nat)}{c:Array Value}{i off size:Nat}{v:Value}{rest:List (Nat×Value)}(hp:place i=some (off,size))(hv:v.cells.size=size)(hb:off+size≤c.size):Instr.fill place c ((i,v)::rest)=Instr.fill place (bH c.toList off v.cells.toList).toArray rest:=by
 have h1:v.cells.zipIdx.foldl (fun cs(x:Value×Nat)=>cs.setIfInBounds (off+x.2) x.1) c=(bH c.toList off v.cells.toList).toArray:=by rw[←Array.foldl_toList,Array.toList_zipIdx];simp_all[Bc]
 simp_all[Instr.fill,IN]
theorem CQ{place:Nat→Option (Nat×Nat)}:∀{parts:List (Nat×V)}{cs Ll:List V},EW place cs parts=some Ll→(∀id,ck id Ll=true→ck id cs=true∨ck id (parts.map (·.2))=true)∧Ll.length=cs.length∧∀(P:Program)(μ:Ro)(φ:Nat→aA)(c:Array Value)(c9:List (Nat×Value)),c9.length=parts.length→(∀(j i:Nat)v,parts[j]?=some (i,v)→∃y,c9[j]?=some (i,y)∧ae P μ φ v y)→c.size=cs.length→(∀(i:Nat)u y,cs[i]?=some u→c[i]?=some y→ae P μ φ u y)→(∀(i:Nat)(y:Value),c[i]?=some y→y.oneCell'=true)→∃c',Instr.fill place c c9=some c'∧c'.size=Ll.length∧(∀(i:Nat)u y,Ll[i]?=some u→c'[i]?=some y→ae P μ φ u y)∧(∀(i:Nat)(y:Value),c'[i]?=some y→y.oneCell'=true)
 |[],cs,Ll,h=>by simp only[EW,AI]at h;subst h;refine⟨fun id an=>.inl an,rfl,fun P μ φ c c9 hl _ hs hr h1=>?_⟩;have:c9=[]:=afl (by simpa using hl);subst this;exact⟨c,rfl,hs,hr,h1⟩
 |(i,v)::rest,cs,Ll,h=>by
  simp only[EW]at h;split at h
  ·rename_i off size hp;split at h
   ·rename_i new hn;split at h
    ·rename_i hb;obtain⟨n1,n2,n3⟩:=toCells_ok hn;obtain⟨f1,f2,f3⟩:=CQ h;have hlen:(bH cs off new).length=cs.length:=cw (by omega);refine⟨fun id an=>?_,by rw[f2,hlen],fun P μ φ c c9 hl mQ hs hr h1=>?_⟩
     ·rcases f1 id an with h|h
      ·obtain⟨u,hu,hh⟩:=cF.1 h;simp only[dw,ag2]at hu;rcases hu with(hu|hu)|hu
       ·exact .inl (bI (ahJ hu) hh)
       ·exact .inr (by simp only[agP,ck,afk];exact .inl (n2 id (bI hu hh)))
       ·exact .inl (bI (ah3 hu) hh)
      ·exact .inr (by simp only[agP,ck,afk];exact .inr h)
     ·obtain⟨y,hy,V5⟩:=mQ 0 i v (by simp);cases c9 with
      |nil=>simp at hl
      |cons a lV=>
       simp at hy;subst hy;obtain⟨x1,x2,x3⟩:=n3 P μ φ y V5;rw[wG hp x1 (by omega)];have pY:off+y.cells.toList.length≤c.toList.length:=by simp;omega
       have e1:y.cells.toList.length=new.length:=by simp;omega
       refine f3 P μ φ _ lV (by simpa using hl) (fun j i' v' hj=>?_) ?_ (fun j u z hu hz=>?_) (fun j z hz=>?_)
       ·have:=mQ (j+1) i' v' (by simpa using hj);simpa using this
       ·simp only[ahr];rw[cw pY,hlen];simp[hs]
       ·rw[ag8]at hz;rcases c8 pY hz with⟨b1,b2,b3⟩|⟨b1,b2⟩<;>rcases c8 (by omega) hu with⟨d1,d2,d3⟩|⟨d1,d2⟩
        ·exact x2 _ u z d3 (by simpa using b3)
        ·exfalso;omega
        ·exfalso;omega
        ·exact hr j u z d2 (by simpa using b2)
       ·rw[ag8]at hz;rcases c8 pY hz with⟨b1,b2,b3⟩|⟨b1,b2⟩
        ·exact x3 _ z (by simpa using b3)
        ·exact h1 j z (by simpa using b2)
    ·cases h
   ·cases h
  ·cases h
theorem CR:∀{fs:List Field},fs.all (fun f=>(E.P.info? f.type).isSome)=true→fs.mapM (fun f=>(E.P.info? f.type).map fun i=>(f.offset,i.size))=some (fs.map fun f=>(f.offset,aR E.P f.type))
 |[],_=>rfl
 |f::r,h=>by simp only[aiZ,T2]at h;obtain⟨i,hi⟩:=agT.1 h.1;simp only[ajf,hi,adN,CR h.2,agP];simp[aR,hi]
theorem QP{parts:List (Nat×V)}{k:V→Option R}{r:R}(h:zU E t parts k=some r):∃v,(∀(R':Type)(k':V→Option R'),zU E t parts k'=k' v)∧k v=some r∧(∀id,v.has id=true→ck id (parts.map (·.2))=true)∧∀(μ:Ro)(φ:Nat→aA)(w:World)(c9:Array (Nat×Value)),c9.size=parts.length→(∀(j i:Nat)v,parts[j]?=some (i,v)→∃y,c9[j]?=some (i,y)∧ae E.P μ φ v y)→∃z,(Instr.build t c9).run E.P w=.ok z w∧ae E.P μ φ v z:=by
 unfold zU at h;split at h
 ·rename_i z fs hz hu;split at h
  ·rename_i EH;split at h
   ·rename_i cs hf;obtain⟨i,zv,h1,h2,h3,h4,h5,h6,h7,h8⟩:=eu hz;obtain⟨f1,f2,f3⟩:=CQ hf;refine⟨_,fun R' k'=>by simp_all[zU,BY],h,fun id an=>?_,fun μ φ w c9 hl hp=>?_⟩
    ·grind [V.has,id]
    ·obtain⟨c',c1,c2,c3,c4⟩:=f3 E.P μ φ zv.cells c9.toList (by omega) (fun j i v hj=>by simpa using hp j i v hj) (by omega) (h7 μ φ) h8;refine⟨_,run_build w t c9 c' ?_,.agg c2.symm c3 c4⟩;simp only[Program.built,h1,hu,h2,CR EH];rw[←c1];congr 1;funext j;simp[placesOf]
   ·cases h
  ·cases h
 ·rename_i z n e hz hu;split at h
  ·rename_i er;split at h
   ·rename_i cs hf;obtain⟨i,zv,h1,h2,h3,h4,h5,h6,h7,h8⟩:=eu hz;obtain⟨f1,f2,f3⟩:=CQ hf;refine⟨_,fun R' k'=>by simp_all[zU,BY],h,fun id an=>?_,fun μ φ w c9 hl hp=>?_⟩
    ·grind [V.has,id]
    ·obtain⟨c',c1,c2,c3,c4⟩:=f3 E.P μ φ zv.cells c9.toList (by omega) (fun j i v hj=>by simpa using hp j i v hj) (by omega) (h7 μ φ) h8;obtain⟨ie,hie,hse⟩:=wA (P:=E.P) (t:=e) (by omega);refine⟨_,run_build w t c9 c' ?_,.agg c2.symm c3 c4⟩;simp only[Program.built,h1,hu,h2,hie,hse];omega
   ·cases h
  ·cases h
 ·cases h
theorem rO{n:Nat}{agg:Bool}:∀{parts:List (Nat×V)}{m m':Mem}{i:Nat}{ps:List PV},eR m n agg i parts=some (ps,m')→jN m m'∧ps.length=parts.length∧∀(P:Program)(G:Nat→Option (List PV))(w0:bu)(μ:Ro)(φ:Nat→aA)(w:World)(c9:List (Nat×Value))(es:List PV)(c:Array Value),aw P G w0 μ φ m w→c9.length=parts.length→(∀(j i:Nat)v,parts[j]?=some (i,v)→∃y,c9[j]?=some (i,y)∧ae P μ φ v y)→es.length=i→c.size=(i+parts.length)*n→Cells P μ n es (c.toList.take (es.length*n))→∃μ' c',(∀b o,μ b=some o→μ' b=some o)∧aw P G w0 μ' φ m' w∧Instr.fill (fun i=>some (i*n,n)) c c9=some c'∧c'.size=(i+parts.length)*n∧Cells P μ' n (es++ps) c'.toList
 |[],m,m',i,ps,h=>by
  simp only[eR,AI,Xp]at h;obtain⟨rfl,rfl⟩:=h;refine⟨.refl _,rfl,fun P G w0 μ φ w c9 es c hM hl _ he hc hC=>⟨μ,c,fun _ _ h=>h,hM,?_,hc,?_⟩⟩
  ·have:c9=[]:=afl (by omega);subst this;rfl
  simp_all[aij,ahx,agM]
 |(j,v)::r,m,m',i,ps,h=>by
  simp only[eR]at h;split at h
  ·rename_i Ps;subst Ps;split at h
   ·rename_i p m1 hf;split at h
    ·rename_i XT m2 hr;simp only[AI,Xp]at h;obtain⟨rfl,rfl⟩:=h;obtain⟨a1,a2⟩:=CL hf;obtain⟨b1,b2,b3⟩:=rO hr;refine⟨a1.trans b1,by simp[b2],fun P G w0 μ φ w c9 es c hM hl hp he hc hC=>?_⟩;obtain⟨y,hy,V5⟩:=hp 0 i v (by simp);cases c9 with
     |nil=>simp at hl
     |cons a lV=>
      simp at hy;subst hy;obtain⟨μ1,c1,c2,c3⟩:=a2 P G w0 μ φ w y hM V5;have pY:i*n+n≤c.size:=by grind
      have XL:y.cells.toList.length=n:=by simpa using c3.size
      have XX:i*n+y.cells.toList.length≤c.toList.length:=by simp_all
      obtain⟨μ2,c',d1,d2,d3,d4,d5⟩:=b3 P G w0 μ1 φ w lV (es++[p]) (bH c.toList (i*n) y.cells.toList).toArray c2 (by simpa using hl) (fun j i' v' hj=>by
       obtain⟨z,XY,hz2⟩:=hp (j+1) i' v' (by simpa using hj);exact⟨z,by simpa using XY,hz2.w8 c1⟩) (by simp[he]) (by
       simp only[ahr];rw[cw XX];grind) (by
       have e1:((bH c.toList (i*n) y.cells.toList).toArray.toList.take ((es++[p]).length*n))=c.toList.take (es.length*n)++y.cells.toList:=by simp only[dw,ag1,ahD,he];exact ai5 (by grind)
       rw[e1];refine(hC.mono c1).append ⟨by simp[XL],fun k e hk=>?_,fun k e l q z hk hl hz=>?_,fun k z hz=>c3.one k z (by simpa using hz)⟩
       ·cases k with
        |zero=>simp at hk;subst hk;exact c3.len
        |succ k=>simp at hk
       ·cases k with
        |zero=>simp at hk;subst hk;exact c3.rep l q z hl (by simpa using hz)
        |succ k=>simp at hk)
      refine⟨μ2,c',fun b o h=>d1 b o (c1 b o h),d2,?_,by grind,by simpa using d5⟩;rw[wG rfl c3.size pY];omega
    ·cases h
   ·cases h
  ·cases h
theorem Fq:∀{parts:List (Nat×V)}{i:Nat}{cs:List V},Cp i parts=some cs→cs.length=parts.length∧(∀id,ck id cs=true→ck id (parts.map Prod.snd)=true)∧∀(P:Program)(μ:Ro)(φ:Nat→aA)(c9:List (Nat×Value))(c:Array Value),c9.length=parts.length→(∀(j i:Nat)v,parts[j]?=some (i,v)→∃y,c9[j]?=some (i,y)∧ae P μ φ v y)→c.size=i+parts.length→∃c',Instr.fill (fun i=>some (i*1,1)) c c9=some c'∧c'.size=c.size∧(∀j,j<i→c'[j]?=c[j]?)∧∀j u,cs[j]?=some u→∃y,c'[i+j]?=some y∧ae P μ φ u y∧y.oneCell'=true
 |[],i,cs,h=>by simp only[Cp,AI]at h;subst h;refine⟨rfl,by simp[ck],fun P μ φ c9 c hl _ hc=>⟨c,?_,rfl,fun _ _=>rfl,by simp⟩⟩;have:c9=[]:=afl (by omega);subst this;rfl
 |(j,v)::r,i,cs,h=>by
  simp only[Cp]at h;split at h
  ·rename_i Ps;subst Ps;split at h
   ·rename_i us0 hf;split at h
    ·rename_i us hr;simp only[AI]at h;subst h;obtain⟨a1,a2,a3⟩:=toCells_ok hf;obtain⟨b1,b2,b3⟩:=Fq hr;refine⟨by simp[a1,b1];omega,fun id an=>?_,fun P μ φ c9 c hl hp hc=>?_⟩
     ·obtain⟨u,hu,hh⟩:=cF.1 an;rcases ag2.1 hu with hu|hu
      ·simp only[agP,ck,afk];exact .inl (a2 id (bI hu hh))
      ·simp only[agP,ck,afk];exact .inr (b2 id (bI hu hh))
     ·obtain⟨y,hy,V5⟩:=hp 0 i v (by simp);cases c9 with
      |nil=>simp at hl
      |cons a lV=>
       simp at hy;subst hy;obtain⟨c1,c2,c3⟩:=a3 P μ φ y V5;have pY:i*1+1≤c.size:=by simp at hc;omega
       have XL:y.cells.toList.length=1:=by omega
       have XX:i*1+y.cells.toList.length≤c.toList.length:=by simp_all
       obtain⟨c',d1,d2,d3,d4⟩:=b3 P μ φ lV (bH c.toList (i*1) y.cells.toList).toArray (by simpa using hl) (fun j i' v' hj=>by
        obtain⟨z,XY,hz2⟩:=hp (j+1) i' v' (by simpa using hj);simp_all) (by
        grind [List.size_toArray,cw,Array.length_toList,List.length_cons])
       have sk:∀k,(bH c.toList (i*1) y.cells.toList).toArray[k]?=if k=i then y.cells[0]? else c[k]?:=fun k=>by rw[ag8];rw[dw];rw[ahk,ag7,ahu,ahH (by omega),ag7,XL];grind
       refine⟨c',?_,by simp_all[ahr,cw],fun k hk=>?_,fun k u hu=>?_⟩
       ·rw[wG rfl c1 pY];omega
       ·grind
       ·have h0:us0.length=1:=a1;rw[ag7,h0]at hu;split at hu
        ·rename_i hk;have hk0:k=0:=by omega
         subst hk0;have h5:=d3 i (by omega);grind
        grind
    ·cases h
   ·cases h
  ·cases h
end
section
variable {P:Program}
theorem gJ:∀(d:Nat)(t:TypeId)(ks:List Kd),zI P d t=some ks→∀(D:Nat)(w:World)(em:Bool)(ps:List PV),lI ks ps=true→(Instr.checkKey em (D+d) t (eD P t ps)).run P w=.ok () w
 |0,t,ks,h,_,_,_,_,_=>by simp[zI]at h
 |d+1,t,ks,h,D,w,em,ps,hp=>by
  have ih:=gJ d;unfold zI at h;split at h
  ·rename_i q hu;simp only[AI]at h;subst h;have ha:ay P t=false:=by simp[ay,hu]
   obtain⟨p,rfl,Sc⟩:=lZ hp;clear hp;cases p<;>simp[so]at Sc;simp[eD,ha,valOf,←ahm,Instr.checkKey,run_underlying hu]
  ·rename_i hu;simp only[AI]at h;subst h;have ha:ay P t=false:=by simp[ay,hu]
   obtain⟨p,rfl,Sc⟩:=lZ hp;clear hp;cases p<;>simp[so]at Sc;simp[eD,ha,valOf,←ahm,Instr.checkKey,run_underlying hu]
  ·rename_i hu;simp only[AI]at h;subst h;have ha:ay P t=false:=by simp[ay,hu]
   obtain⟨p,rfl,Sc⟩:=lZ hp;clear hp;cases p<;>simp[so]at Sc;simp[eD,ha,valOf,←ahm,Instr.checkKey,run_underlying hu]
  ·rename_i fs hu;split at h
   ·cases h
   ·obtain⟨a,ha,h⟩:=By.1 h;split at h
    ·rename_i hlen;simp only[AI]at h;subst h;have KW:ay P t=true:=by simp[ay,hu]
     simp only[eD,KW,T1,←ahm];rw[Instr.checkKey];simp only[Sem.run_bind,run_underlying hu,Result.andThen_ok];rw[←Array.forIn_toList];have key:∀(L:List Field)(off:Nat)(b:List Kd),pI (zI P d) L off=some b→off≤ps.length→lI b (ps.drop off)=true→(forIn L PUnit.unit fun f(_:PUnit)=>(do
       if f.name≠ "_" then Instr.checkKey em (D+d) f.type (←part f.type (ps.map valOf).toArray f.offset)
       pure (ForInStep.yield PUnit.unit):Sem (ForInStep PUnit))).run P w=.ok PUnit.unit w:=by
      intro L;induction L with
      |nil=>intro off b _ _ _;simp
      |cons f L ihL=>
       intro off b hb o1 h1;simp only[pI]at hb;split at hb
       ·rename_i hf;obtain⟨c,hc,hb⟩:=By.1 hb;obtain⟨b',gX,hb⟩:=By.1 hb;simp only[AI]at hb;subst hb;rw[pS]at h1;have l1:=pg h1.1;simp only[ahu,air]at l1;have p1:=j6 (w:=w) (ps:=ps) (off:=off) hc (by omega);have p3:=ih f.type c hc D w em _ h1.1;have p4:=ihL (off+c.length) b' gX (by omega) (by rw[←ahz];exact h1.2);simp only[List.forIn_cons,hf.2,aj0,aiI,T1,Sem.run_bind,hf.1,p1,p3,Result.andThen_ok,Sem.run_pure];exact p4
       ·cases hb
     have:=key fs.toList 0 a ha (by simp) (by simpa using hp);simp at this;simp[this]
    ·cases h
  ·rename_i n e hu;obtain⟨a,ha,h⟩:=By.1 h;split at h
   ·rename_i hlen;simp only[AI]at h;subst h;have KW:ay P t=true:=by simp[ay,hu]
    obtain⟨_,_,de,hde⟩:=wC ha;have mP:(sizeOf e).run P w=.ok a.length w:=by rw[hlen.1];exact A9 hde
    simp only[eD,KW,T1,←ahm];rw[Instr.checkKey];simp only[Sem.run_bind,run_underlying hu,Result.andThen_ok];simp only[Std.Legacy.Range.forIn_eq_forIn_range',Std.Legacy.Range.size,aiC,Nat.add_one_sub_one,Nat.div_one];have key:∀(k j:Nat),j*a.length≤ps.length→lI (pJ a k) (ps.drop (j*a.length))=true→(forIn (List.range' j k) PUnit.unit fun i(_:PUnit)=>(do
      Instr.checkKey em (D+d) e (←part e (ps.map valOf).toArray (i*(←sizeOf e)))
      pure (ForInStep.yield PUnit.unit):Sem (ForInStep PUnit))).run P w=.ok PUnit.unit w:=by
     intro k;induction k with
     |zero=>intro j _ _;simp
     |succ k Y9=>
      intro j o1 h1;simp only[pJ]at h1;rw[pS]at h1;have l1:=pg h1.1;simp only[ahu,air]at l1;have p1:=j6 (w:=w) (ps:=ps) (off:=j*a.length) ha (by omega);have p3:=ih e a ha D w em _ h1.1;have ej:(j+1)*a.length=j*a.length+a.length:=by rw[ahj];omega
      have p4:=Y9 (j+1) (by omega) (by rw[ej,←ahz];exact h1.2);rw[aiT];simp only[List.forIn_cons,Sem.run_bind,mP,p1,p3,Result.andThen_ok,Sem.run_pure];exact p4
    have:=key n 0 (by simp) (by simpa using hp);simp at this;simp[this]
   ·cases h
  ·cases h
variable{kt:TypeId}{ks:List Kd}
theorem lL{μ:Ro}{k:PV}{y:Value}(h:uh P kt ks k=true)(hy:af P μ k y):lI ks k.cells=true∧y=eD P kt k.cells:=by
 simp only[uh,T2,beq_iff_eq]at h;refine⟨h.1,?_⟩;cases hq:k.isAgg with
 |true=>
  cases k<;>simp[PV.isAgg]at hq;cases hy with
  |agg h1 h2 h3=>have:=rJ h.1 h1.symm h2;rw[this];simp[eD,h.2,PV.isAgg,PV.cells]
 |false=>
  have hc:k.cells=[k]:=by cases k<;>first|rfl|(simp[PV.isAgg]at hq)
  have h1:=h.1;rw[hc]at h1;cases ks with
  |nil=>simp[lI]at h1
  |cons kd r=>simp only[lI,T2]at h1;have:=Fc h1.1 hy;simp[eD,h.2,hq,hc,this]
theorem GP:∀{ks:List Kd}{ps qs:List PV},lI ks ps=true→lI ks qs=true→dF ps qs=true→ps=qs
 |[],[],[],_,_,_=>rfl
 |k::ks,p::ps,q::qs,h1,h2,h3=>by
  simp only[lI,T2]at h1 h2;simp only[dF,T2]at h3;rw[GP h1.2 h2.2 h3.2];have:p=q:=by cases k<;>cases p<;>simp[so]at h1<;>cases q<;>simp[so]at h2<;>simp[peq]at h3<;>simp_all
  rw[this]
 |[],p::ps,_,h,_,_=>by simp[lI]at h
 |k::ks,[],_,h,_,_=>by simp[lI]at h
 |[],[],q::qs,_,h,_=>by simp[lI]at h
 |k::ks,p::ps,[],_,h,_=>by simp[lI]at h
structure uS(P:Program)(μ:Ro)(kt:TypeId)(ks:List Kd)(l:List (PV×PV))(es:List MapEntry):Prop where
 len:es.length=l.length
 key:∀(i:Nat)k v,l[i]?=some (k,v)→uh P kt ks k=true
 rep:∀(i:Nat)k v e,l[i]?=some (k,v)→es[i]?=some e→af P μ k e.key∧af P μ v e.val
variable{l:List (PV×PV)}{es:List MapEntry}
theorem uS.tail{μ:Ro}{x:PV×PV}{e:MapEntry}(h:uS P μ kt ks (x::l) (e::es)):uS P μ kt ks l es:=⟨by simpa using h.len,fun i k v hi=>h.key (i+1) k v (by simpa using hi),fun i k v e hi he=>h.rep (i+1) k v e (by simpa using hi) (by simpa using he)⟩
inductive Found(k v:PV)(z:PV)(l:List (PV×PV))(es:List MapEntry)(i:Nat):Option (Nat×Value)→Prop
 |none:uy k l=false→dD k z l=z→eG k v l=l++[(k,v)]→Found k v z l es i none
 |some {j:Nat} {a u:PV} {e:MapEntry}:l[j]?=some (a,u)→es[j]?=some e→dF k.cells a.cells=true→uy k l=true→dD k z l=u→eG k v l=l.set j (k,v)→Found k v z l es i (some (i+j,e.val))
theorem Found.cons{k v z:PV}{x:PV×PV}{l:List (PV×PV)}{e:MapEntry}{es:List MapEntry}{i:Nat}{r:Option (Nat×Value)}(hx:dF k.cells x.1.cells=false)(h:Found k v z l es (i+1) r):Found k v z (x::l) (e::es) i r:=by
 obtain⟨a,u⟩:=x;cases h with
 |none h1 h2 h3=>exact .none (by simpa[uy,hx]using h1) (by simpa[dD,hx]using h2) (by simpa[eG,hx]using h3)
 | @some j a' u' e' h1 h2 h3 h4 h5 h6=>have:=Found.some (k:=k) (v:=v) (z:=z) (l:=(a,u)::l) (es:=e::es) (i:=i) (j:=j+1) (a:=a') (u:=u') (e:=e') (by simpa using h1) (by simpa using h2) h3 (by simpa[uy,hx]using h4) (by simpa[dD,hx]using h5) (by simpa[eG,hx]using h6);rw[show i+1+j=i+(j+1) by omega];exact this
theorem Found.here{k v z:PV}{a u:PV}{e:MapEntry}{i:Nat}(hx:dF k.cells a.cells=true):Found k v z ((a,u)::l) (e::es) i (Option.some (i,e.val)):=by have:=Found.some (k:=k) (v:=v) (z:=z) (l:=(a,u)::l) (es:=e::es) (i:=i) (j:=0) (a:=a) (u:=u) (e:=e) (by simp) (by simp) hx (by simp[uy,hx]) (by simp[dD,hx]) (by simp[eG,hx]);simpa using this
theorem pZ{μ:Ro}{kt:TypeId}{ks:List Kd}{k v z:PV}(hk:zI P 8 kt=some ks)(Bd:lI ks k.cells=true)(w:World):∀(l:List (PV×PV))(es:List MapEntry)(i:Nat),uS P μ kt ks l es→∃r,(Instr.findAsking kt (eD P kt k.cells) es i).run P w=.ok r w∧Found k v z l es i r
 |[],es,i,h=>by have:es=[]:=afl (by simpa using h.len);subst this;exact⟨none,by simp[Instr.findAsking],.none rfl rfl rfl⟩
 |(a,u)::l,es,i,h=>by
  cases es with
  |nil=>have:=h.len;simp at this
  |cons e es=>
   have Zh:=h.key 0 a u (by simp);obtain⟨h1,h2⟩:=lL Zh (h.rep 0 a u e (by simp) (by simp)).1;have he:(Op.equal kt (eD P kt k.cells) e.key).run P w=.ok (dF k.cells a.cells) w:=by rw[h2];exact oA 8 kt ks hk 9992 w _ _ Bd h1
   cases hp:dF k.cells a.cells with
   |true=>exact⟨some (i,e.val),by simp[Instr.findAsking,he,hp],.here hp⟩
   |false=>obtain⟨r,r1,r2⟩:=pZ (v:=v) (z:=z) hk Bd w l es (i+1) h.tail;exact⟨r,by simp[Instr.findAsking,he,hp,r1],r2.cons hp⟩
theorem Be{μ:Ro}{kt:TypeId}{d:TypeDesc}{ks:List Kd}{k v z:PV}(hu:P.underlying kt=some d)(ha:ay P kt=false)(hk:zI P 8 kt=some ks)(Bd:lI ks k.cells=true):∀(l:List (PV×PV))(es:List MapEntry)(i:Nat),uS P μ kt ks l es→∃r,Instr.findNow d (eD P kt k.cells) es i=some r∧Found k v z l es i r
 |[],es,i,h=>by have:es=[]:=afl (by simpa using h.len);subst this;exact⟨none,by simp[Instr.findNow],.none rfl rfl rfl⟩
 |(a,u)::l,es,i,h=>by
  cases es with
  |nil=>have:=h.len;simp at this
  |cons e es=>
   have Zh:=h.key 0 a u (by simp);obtain⟨h1,h2⟩:=lL Zh (h.rep 0 a u e (by simp) (by simp)).1;have he:Instr.sameNow d (eD P kt k.cells) e.key=some (dF k.cells a.cells):=by
    rw[h2];have qd:=hk;unfold zI at qd;rw[hu]at qd;cases d<;>simp at qd<;>try (simp[ay,hu]at ha;done)
    all_goals subst qd;obtain⟨p,hp1,hp2⟩:=lZ Bd;obtain⟨q,hq1,hq2⟩:=lZ h1;rw[hp1,hq1];cases p<;>simp[so]at hp2;cases q<;>simp[so]at hq2;simp[eD,ha,valOf,Instr.sameNow,dF,peq,hp2,hq2]
    all_goals (rw[agV,Go.MapKept.bytes_beq];simp only[beq_iff_eq];exact⟨fun hh=>by have:=congrArg ByteArray.data hh;simpa using this,fun hh=>by rw[hh]⟩)
   cases hp:dF k.cells a.cells with
   |true=>exact⟨some (i,e.val),by simp[Instr.findNow,he,hp],.here hp⟩
   |false=>obtain⟨r,r1,r2⟩:=Be (v:=v) (z:=z) hu ha hk Bd l es (i+1) h.tail;exact⟨r,by simp[Instr.findNow,he,hp,r1],r2.cons hp⟩
theorem lb{μ:Ro}{k v z:PV}(hk:zI P 8 kt=some ks)(Bd:lI ks k.cells=true)(w:World)(h:uS P μ kt ks l es):∃r,(Instr.findKey kt (eD P kt k.cells) es).run P w=.ok r w∧Found k v z l es 0 r:=by
 obtain⟨_,_,d,hu⟩:=wC hk;cases ha:ay P kt with
 |true=>rw[run_findKey_eq w (by unfold ay at ha;rw[hu]at ha⊢;cases d<;>simp_all)];exact pZ hk Bd w l es 0 h
 |false=>obtain⟨r,r1,r2⟩:=Be (v:=v) (z:=z) hu ha hk Bd l es 0 h;exact⟨r,Go.MapKept.run_findKey hu r1,r2⟩
end
section
variable {R:Type} {E:Env}
variable{P:Program}{t:TypeId}{ks:List Kd}
theorem wH(h:rj P t=some ks):zI P 8 t=some ks:=by simp_all[rj]
variable{kt:TypeId}
theorem sE{v:V}{key:PV}(h:keyOf E kt v=some key):∃ks,rj E.P kt=some ks∧uh E.P kt ks key=true∧∀(μ:Ro)(φ:Nat→aA)(y:Value),ae E.P μ φ v y→af E.P μ key y:=by
 unfold keyOf at h;split at h
 ·rename_i ks SL;refine⟨ks,SL,?_⟩;split at h
  ·rename_i ha;split at h
   ·rename_i cs hc;split at h
    ·rename_i ps hp;split at h
     ·rename_i Pk;simp only[AI]at h;subst h;obtain⟨_,c2⟩:=nP hc;obtain⟨p1,p2⟩:=gz hp;refine⟨by simp_all[uh,PV.cells,PV.isAgg],fun μ φ y hy=>?_⟩;obtain⟨xs,rfl,h1,h2,h3⟩:=c2 E.P μ φ y hy;refine .agg (by omega) (fun i q z hq hz=>?_) h3;grind [sA]
     ·cases h
    ·cases h
   ·cases h
  ·rename_i ha;split at h
   ·rename_i p;split at h
    ·rename_i Pk;simp only[AI]at h;subst h;refine⟨?_,fun μ φ y hy=>by cases hy with|pv hy=>omega⟩;cases ks with
     |nil=>simp[lI]at Pk
     |cons kd r=>
      have abe:=Pk;simp only[lI,T2]at abe;have XN:ay E.P kt=false:=by simpa using ha
      cases kd<;>cases p<;>simp[so]at abe<;>simp_all[uh,PV.cells,PV.isAgg]
    ·cases h
   ·cases h
 ·cases h
variable{en:Array MapEntry}
theorem lq.push{clock:Nat}(h:lq en clock){k v:Value}:lq (en.push {key:=k,val:=v,born:=clock}) (clock+1):=by
 intro i e hi;rw[ai4]at hi;split at hi
 ·rename_i e1;simp only[AI]at hi;subst hi;refine⟨Nat.lt_succ_self _,fun j e' hj hb=>?_⟩;rw[ai4]at hj;split at hj
  ·omega
  ·have:=(h j e' hj).1;simp_all
 ·obtain⟨h1,h2⟩:=h i e hi;grind
theorem lq.modify{en:Array MapEntry}{clock:Nat}(h:lq en clock)(f:MapEntry→MapEntry)(hf:∀e,(f e).born=e.born)(k:Nat):lq (en.modify k f) clock:=by
 have key:∀(i:Nat)e,(en.modify k f)[i]?=some e→∃e0,en[i]?=some e0∧e.born=e0.born:=fun i e hi=>by grind
 intro i e hi;obtain⟨e0,h0,hb0⟩:=key i e hi;obtain⟨h1,h2⟩:=h i e0 h0;grind
inductive SY(w:World):Value→Array MapEntry→Prop
 |nil:SY w (.map none) #[]
 |at{g clock:Nat} {en:Array MapEntry}:w.heap[g]?=some (.map en clock)→SY w (.map (some g)) en
theorem qe{μ:Ro}{et:TypeId}{key z:PV}{zv y yi:Value}{w:World}{l:List (PV×PV)}{ok:Bool}(hu:P.underlying t=some (.map kt et))(hk:rj P kt=some ks)(wS:uh P kt ks key=true)(hyi:af P μ key yi)(hy:SY w y en)(hE:uS P μ kt ks l en.toList)(hz:(zeroValue et).run P w=.ok zv w)(hzr:af P μ z zv):∃v,(Instr.lookup t y yi ok).run P w=.ok (if ok then .tuple #[v,.bool (uy key l)]else v) w∧af P μ (dD key z l) v:=by
 have QQ:=wH hk;obtain⟨hc,hv⟩:=lL wS hyi;obtain⟨r,r1,r2⟩:=lb (v:=.bad) (z:=z) QQ hc w hE;have h1:=gJ 8 kt ks QQ 9992 w en.isEmpty key.cells hc;rw[hv];have ow:∀(x:Value×Bool),(r=none→x=(zv,false))→(∀j v,r=some (j,v)→x=(v,true))→(Instr.lookup t y (eD P kt key.cells) ok).run P w=.ok (if ok then .tuple #[x.1,.bool x.2]else x.1) w:=by
  intro x hx1 hx2;cases hy with
  |nil=>
   have VA:(Instr.checkKey true 10000 kt (eD P kt key.cells)).run P w=.ok () w:=h1;have r1':(Instr.findKey kt (eD P kt key.cells) []).run P w=.ok r w:=r1;unfold Instr.lookup;simp only[Sem.run_bind,run_underlying hu,Result.andThen_ok,Sem.run_pure];cases r with
   |none=>simp_all
   |some jv=>obtain⟨j,v⟩:=jv;simp_all
  | «at» hg=>
   have EE:=Go.MapKept.run_getObj_map (P:=P) hg;have VA:(Instr.checkKey en.isEmpty 10000 kt (eD P kt key.cells)).run P w=.ok () w:=h1;unfold Instr.lookup;simp only[Sem.run_bind,run_underlying hu,Result.andThen_ok,Sem.run_pure,EE];cases r with
   |none=>simp_all
   |some jv=>obtain⟨j,v⟩:=jv;simp_all
 cases r2 with
 |none f1 f2 f3=>grind
 | @some j a u e f1 f2 f3 f4 f5 f6=>refine⟨e.val,?_,by rw[f5];exact(hE.rep j a u e f1 f2).2⟩;simp_all
variable{m:Mem}
theorem Lw{x ix:V}{ok:Bool}{k:V→bp→Option R}{r:R}(h:tl E t x ix ok m k=some r):∃v ft,(∀m2:Mem,(∀x∈ft,m2 x.2=m x.2)→∀(R':Type)(k':V→bp→Option R'),tl E t x ix ok m2 k'=k' v ft)∧k v ft=some r∧(∀x∈ft,x.1=false)∧(∀id,v.has id=false)∧∀(G:Nat→Option (List PV))(w0:bu)(μ:Ro)(φ:Nat→aA)(w:World)(y yi:Value),aw E.P G w0 μ φ m w→ae E.P μ φ x y→ae E.P μ φ ix yi→∃u,(Instr.lookup t y yi ok).run E.P w=.ok u w∧ae E.P μ φ v u:=by
 have out:∀(q:PV)(b:Bool)(id:Nat),(if ok=true then V.bn [.pv q,.pv (.bool b)]else .pv q).has id=false:=by grind [id,V.has,ck]
 have rep:∀(μ:Ro)(φ:Nat→aA)(q:PV)(b:Bool)(v:Value),af E.P μ q v→ae E.P μ φ (if ok=true then V.bn [.pv q,.pv (.bool b)]else .pv q) (if ok=true then .tuple #[v,.bool b]else v):=by
  intro μ φ q b v hv;cases ok with
  |false=>exact .pv hv
  |true=>
   refine .bn (by simp) fun i p y hp hy=>?_;match i with
   |0=>simp at hp hy;subst hp;subst hy;exact .pv hv
   |1=>simp at hp hy;subst hp;subst hy;exact .pv .bool
   |n+2=>simp at hp
 unfold tl at h;split at h
 ·rename_i kt et hu;split at h
  ·rename_i z hz;obtain⟨zv,XY,hz2⟩:=Lu hz;split at h
   ·rename_i id;split at h
    ·rename_i uz es hm;split at h
     ·rename_i Zi;subst Zi;obtain⟨key,wS,h⟩:=By.1 h;obtain⟨q,q1,q2,q3,_⟩:=k8 h;obtain⟨ks,k1,k2,k3⟩:=sE wS;refine⟨_,_,fun m2 cQ R' k'=>by have:=cQ (false,id) (by simp);simp_all[tl,agO,T1],q2,by simp,out q _,fun G w0 μ φ w y yi hM hx hi=>?_⟩;obtain⟨g,en,clock,kk,hg,hh,hs,hk,Pk,_,hv⟩:=hM.du id _ hm;rw[k1]at hk;simp only[AI]at hk;subst hk;cases hx with
      |om cv=>rw[hg]at cv;simp only[AI]at cv;subst cv;obtain⟨v,v1,v2⟩:=qe (ok:=ok) (z:=z) hu k1 k2 (k3 μ φ yi hi) (.at hh) (l:=es) ⟨by omega,Pk,fun i k v e h1 h2=>hv i k v e h1 (by simpa using h2)⟩ (XY w) (hz2 μ);exact⟨_,v1,rep μ φ q _ v (q3 _ _ _ v2)⟩
     ·cases h
    ·cases h
   ·rename_i pm;unfold dJ at h;split at h
    ·obtain⟨key,wS,h⟩:=By.1 h;obtain⟨ks,k1,k2,k3⟩:=sE wS;refine⟨_,_,fun m2 cQ R' k'=>by simp_all[tl,dJ,agO],h,by simp,out z _,fun G w0 μ φ w y yi hM hx hi=>?_⟩;cases hx with
     |pv hx=>cases hx with
      |ux=>obtain⟨v,v1,v2⟩:=qe (ok:=ok) (z:=z) hu k1 k2 (k3 μ φ yi hi) .nil (l:=[]) ⟨by simp,by simp,by simp⟩ (XY w) (hz2 μ);exact⟨_,v1,rep μ φ z _ v v2⟩
    ·rename_i uz ks' vs';split at h
     ·rename_i Zi;subst Zi;obtain⟨key,wS,h⟩:=By.1 h;obtain⟨q,q1,q2,q3,_⟩:=k8 h;obtain⟨ks,k1,k2,k3⟩:=sE wS;refine⟨_,_,fun m2 cQ R' k'=>by simp_all[tl,dJ,agO,T1],q2,by simp,out q _,fun G w0 μ φ w y yi hM hx hi=>?_⟩;cases hx with
      |pv hx=>cases hx with
       | @rm _ _ _ b clock en kk m1 m2 m3 m4 m5 m6 m7=>
        rw[k1]at m4;simp only[AI]at m4;subst m4;have Zj:∀(i:Nat)k v,(ks'.zip vs')[i]?=some (k,v)→ks'[i]?=some k∧vs'[i]?=some v:=fun i k v h=>by grind
        obtain⟨v,v1,v2⟩:=qe (ok:=ok) (z:=z) hu k1 k2 (k3 μ φ yi hi) (.at (hM.ro _ _ m1)) (l:=ks'.zip vs') ⟨by simp[m2,m3],fun i k v h=>m5 i k (Zj i k v h).1,fun i k v e h1 h2=>⟨m6 i k e (Zj i k v h1).1 (by simpa using h2),m7 i v e (Zj i k v h1).2 (by simpa using h2)⟩⟩ (XY w) (hz2 μ);exact⟨_,v1,rep μ φ q _ v (q3 _ _ _ v2)⟩
     ·cases h
    ·cases h
   ·cases h
  ·cases h
 ·cases h
variable{m':Mem}
theorem Fs{v:V}{p:PV}(h:tg m v=some (p,m')):jN m m'∧∀(P:Program)(G:Nat→Option (List PV))(w0:bu)(μ:Ro)(φ:Nat→aA)(w:World)(x:Value),aw P G w0 μ φ m w→ae P μ φ v x→∃μ',(∀b o,μ b=some o→μ' b=some o)∧aw P G w0 μ' φ m' w∧af P μ' p x:=by
 unfold tg at h;split at h
 ·rename_i cs;split at h
  ·rename_i ps m1 hf;simp only[AI,Xp]at h;obtain⟨rfl,rfl⟩:=h;obtain⟨f1,f2,f3⟩:=CK hf;refine⟨f1,fun P G w0 μ φ w x hM hx=>?_⟩;cases hx with
   | @agg _ xs h1 h2 h3=>
    have hX:∀(i:Nat),i<cs.length→xs[i]?=some (xs.getD i undef):=fun i hi=>by simp_all
    obtain⟨μ',e1,e2,e3⟩:=f3 P G w0 μ φ w (fun i=>xs.getD i undef) hM fun i u hu=>h2 i u _ hu (hX i (HO.1 hu).1);refine⟨μ',e1,e2,.agg (by omega) (fun j q y hq hy=>?_) h3⟩;grind
  ·cases h
 ·exact Pq h
theorem Bf{v:V}{p:PV}(h:tg cW v=some (p,m')):∀(P:Program)(μ:Ro)(φ:Nat→aA)(x:Value),ae P μ φ v x→af P μ p x:=by
 unfold tg at h;split at h
 ·rename_i cs;split at h
  ·rename_i ps m1 hf;simp only[AI,Xp]at h;obtain⟨rfl,rfl⟩:=h;obtain⟨f2,f3⟩:=xI hf;intro P μ φ x hx;cases hx with
   | @agg _ xs h1 h2 h3=>
    have hX:∀(i:Nat),i<cs.length→xs[i]?=some (xs.getD i undef):=fun i hi=>by simp_all
    have e3:=f3 P μ φ (fun i=>xs.getD i undef) fun i u hu=>h2 i u _ hu (hX i (HO.1 hu).1);refine .agg (by omega) (fun j q y hq hy=>?_) h3;grind
  ·cases h
 ·exact Fi h
theorem Lx{draw:Bool}{v:V}{p:PV}(h:yP draw m v=some (p,m')):jN m m'∧(draw=true→m'=m∧∀m2:Mem,yP true m2 v=some (p,m2))∧∀(P:Program)(G:Nat→Option (List PV))(w0:bu)(μ:Ro)(φ:Nat→aA)(w:World)(x:Value),aw P G w0 μ φ m w→ae P μ φ v x→∃μ',(∀b o,μ b=some o→μ' b=some o)∧aw P G w0 μ' φ m' w∧af P μ' p x:=by
 unfold yP at h;split at h
 ·rename_i hd;split at h
  ·rename_i q m1 hf;simp only[AI,Xp]at h;obtain⟨rfl,rfl⟩:=h;exact⟨.refl _,fun _=>⟨rfl,fun m2=>by simp[yP,hf]⟩,fun P G w0 μ φ w x hM hx=>⟨μ,fun _ _ h=>h,hM,Bf hf P μ φ x hx⟩⟩
  ·cases h
 grind [Fs,absurd]
theorem xl:∀{ps:List PV},lI ks ps=true→∀(n:Nat),(ps.map valOf).all (fun v=>Instr.sameBits n v v)=true:=by
 induction ks with
 |nil=>intro ps h n;cases ps<;>simp[lI]at h;rfl
 |cons k ks ih=>
  intro ps h n;cases ps with
  |nil=>rfl
  |cons p ps=>simp only[lI,T2]at h;simp only[agP,aiZ,ih h.2 n,ahY];cases k<;>cases p<;>simp[so]at h<;>simp[valOf,Instr.sameBits,Go.MapKept.bytes_beq]
theorem uT{ps:List PV}(h:lI ks ps=true)(hl:ay P t=false→ps.length=1)(n:Nat):Instr.sameBits (n+1) (eD P t ps) (eD P t ps)=true:=by
 unfold eD;cases ha:ay P t with
 |true=>have:=xl h n;simp only[T1,Instr.sameBits,BEq.rfl,ahW];grind
 |false=>
  have h1:=hl ha;match ps,h1 with
  |[p],_=>have:=xl h (n+1);simpa using this
theorem xm{draw:Bool}{x key val:V}{k:Mem→bp→Option R}{r:R}(h:mY E draw t x key val m k=some r):∃m' ft,k m' ft=some r∧(draw=true→∃id b,m'=al m id b∧ft=[(true,id)]∧∀m2:Mem,m2 id=m id→∀(R':Type)(k':Mem→bp→Option R'),mY E true t x key val m2 k'=k' (al m2 id b) [(true,id)])∧jN m m'∧∀(G:Nat→Option (List PV))(w0:bu)(μ:Ro)(φ:Nat→aA)(w:World)(ya yk yv:Value),aw E.P G w0 μ φ m w→ae E.P μ φ x ya→ae E.P μ φ key yk→ae E.P μ φ val yv→∃w' μ',(Instr.mapUpdate t ya yk yv).run E.P w=.ok () w'∧(∀b o,μ b=some o→μ' b=some o)∧aw E.P G w0 μ' φ m' w':=by
 unfold mY at h;split at h
 ·rename_i kt et hu;split at h
  ·rename_i id;split at h
   ·rename_i v m1 hf;obtain⟨f1,f2,f3⟩:=Lx hf;split at h
    ·rename_i uz es hm;split at h
     ·rename_i Zi;subst Zi;obtain⟨kp,wS,h⟩:=By.1 h;obtain⟨ks,k1,k2,k3⟩:=sE wS;refine⟨_,_,h,fun hd=>?_,f1.trans .set,fun G w0 μ φ w ya yk yv hM hx hk hv=>?_⟩
      ·obtain⟨rfl,f4⟩:=f2 hd;exact⟨id,_,rfl,rfl,fun m2 cQ R' k'=>by simp_all[mY,agO,T1]⟩
      ·obtain⟨μ',g1,g2,g3⟩:=f3 _ _ _ _ _ _ _ hM hv;obtain⟨g,en,clock,kk,hg,hh,hs,Bd,Pk,wx,jI⟩:=g2.du id _ hm;rw[k1]at Bd;simp only[AI]at Bd;subst Bd;have QQ:=wH k1;have hkr:=(k3 μ φ yk hk).mono g1;obtain⟨hc,Zk⟩:=lL k2 hkr;have hE:uS E.P μ' uz ks es en.toList:=⟨by omega,Pk,fun i k v e h1 h2=>jI i k v e h1 (by simpa using h2)⟩;obtain⟨res,r1,r2⟩:=lb (v:=v) (z:=.bad) QQ hc w hE;have EE:=Go.MapKept.run_getObj_map (P:=E.P) hh;have h1:(Instr.checkKey false 10000 uz yk).run E.P w=.ok () w:=by rw[Zk];exact gJ 8 uz ks QQ 9992 w false kp.cells hc
       rw[←Zk]at r1;have bS:g<w.heap.size:=(YH.1 hh).1;cases hx with
       |om cv=>
        rw[hg]at cv;simp only[AI]at cv;subst cv;have fin:∀(o:Obj)(K0:Array MapEntry)(oC:Nat),o=.map K0 oC→(Instr.mapUpdate t (.map (some g)) yk yv).run E.P w=.ok () {w with heap:=w.heap.setIfInBounds g o}→lq K0 oC→uS E.P μ' uz ks (eG kp v es) K0.toList→∃w' μ',(Instr.mapUpdate t (.map (some g)) yk yv).run E.P w=.ok () w'∧(∀b o,μ b=some o→μ' b=some o)∧aw E.P G w0 μ' φ (al m1 id (.map uz (eG kp v es))) w':=by rintro o K0 oC rfl hr aet hE';refine⟨_,μ',hr,g1,g2.write hm rfl hg ⟨⟨rfl,rfl,rfl,by simp,fun k hk=>by grind⟩,fun _=>agM _⟩ (by simp) (fun k hk=>by grind) ?_ rfl (by simp[bF.names])⟩;exact⟨g,K0,oC,ks,hg,by simp[bS],by simpa using hE'.len,k1,hE'.key,aet,fun i k v e h1 h2=>hE'.rep i k v e h1 (by simpa using h2)⟩
        cases r2 with
        |none e1 e2 e3=>
         have V6:=Go.MapKept.run_setObj_map (P:=E.P) (.map (en.push {key:=yk,val:=yv,born:=clock}) (clock+1)) hh;refine fin _ _ _ rfl (by simp only[Instr.mapUpdate,Sem.run_bind,run_underlying hu,EE,h1,r1,Result.andThen_ok];exact V6) wx.push ?_;rw[e3];have eH:∀(i:Nat)k' v' e,(es++[(kp,v)])[i]?=some (k',v')→(en.push {key:=yk,val:=yv,born:=clock}).toList[i]?=some e→(es[i]?=some (k',v')∧en.toList[i]?=some e)∨(k'=kp∧v'=v∧e.key=yk∧e.val=yv):=by grind
         refine⟨by simp[hs],fun i k' v' h=>?_,fun i k' v' e h1 h2=>?_⟩
         ·grind
         grind
        | @some j a u e e1 e2 e3 e4 e5 e6=>
         have e2':en[j]?=some e:=by simpa using e2
         obtain⟨Zl,hva⟩:=lL (Pk j a u e1) (jI j a u e e1 e2').1;have tA:=GP hc Zl e3;have Zm:Instr.sameBits 10000 e.key yk=true:=by rw[hva,Zk,←tA];refine uT (n:=9999) hc (fun ha=>?_);rw[pg hc];exact(wC QQ).2.1 ha
         have V6:=Go.MapKept.run_setObj_map (P:=E.P) (.map (en.modify j fun e=>{e with key:=yk,val:=yv}) clock) hh;have Ad:j<en.size:=(YH.1 e2').1;refine fin _ _ _ rfl (by simp only[Instr.mapUpdate,Sem.run_bind,run_underlying hu,EE,h1,r1,Result.andThen_ok];simp only[ahp,e2',adN,ahB,Instr.keyThatStays,Zm,T1,Sem.run_pure,Result.andThen_ok];exact V6) (wx.modify (fun e=>{e with key:=yk,val:=yv}) (fun _=>rfl) _) ?_;rw[e6];have tz:∀(i:Nat)k' v',(es.set j (kp,v))[i]?=some (k',v')→(i=j∧k'=kp∧v'=v)∨(i≠j∧es[i]?=some (k',v')):=by grind
         refine⟨by simp[hs],fun i k' v' h=>?_,fun i k' v' e' h1 h2=>?_⟩
         ·grind
         grind
     ·cases h
    ·cases h
   ·cases h
  ·cases h
 ·cases h
theorem Iz{μ:Ro}{φ:Nat→aA}{w:World}{site:Nat}(hk:rj P kt=some ks)(hφ:(φ site).g=some w.heap.size):gm P μ φ (w.alloc (.map #[] 0)) site (.map kt []):=⟨w.heap.size,#[],0,ks,hφ,fp w _,rfl,hk,by simp,fun i e h=>by simp at h,by simp⟩
end
def tr(P:Program)(G:Nat→Option (List PV))(g:FuncId)(M:List PV→Option PV):Prop:=
 (∃fn c,P.funcs[g]?=some fn∧fn.body=some c∧(fn.name== "runtime.NumGoroutine")=false)∧
 ∀(ps:List PV)(r:PV),M ps=some r→∀(w:World)(μ:Ro)(xs:Array Value),(∀b o,μ b=some o→w.heap[b]?=some o)→(∀g cs,G g=some cs→w7 P μ g cs)→ps.length=xs.size→(∀(i:Nat)p x,ps[i]?=some p→xs[i]?=some x→af P μ p x)→Calls P g xs w fun e w'=>∃y,e=.returned y∧kv w.heap.size w w'∧af P (cu μ w w') r y
def zY(P:Program)(G:Nat→Option (List PV))(g:FuncId)(M:List PV→Option PV):Prop:=
 (∃fn c,P.funcs[g]?=some fn∧fn.body=some c∧(fn.name== "runtime.NumGoroutine")=false)∧
 ∀(fn:Func)(t e:TypeId),P.funcs[g]?=some fn→fn.resultTypes.toList=[t]→P.underlying t=some (.slice e)→∀(ps:List PV)(r:PV),M ps=some r→∀(w:World)(μ:Ro)(xs:Array Value),(∀b o,μ b=some o→w.heap[b]?=some o)→(∀g cs,G g=some cs→w7 P μ g cs)→ps.length=xs.size→(∀(i:Nat)p x,ps[i]?=some p→xs[i]?=some x→af P μ p x)→Calls P g xs w fun en w'=>∃(y:Value)(ph:aA)(es:List PV),en=.returned y∧kv w.heap.size w w'∧r=.rs (aR P e) es∧(∀g,ph.g=some g→w.heap.size≤g)∧aK P (lW (cu μ w w') ph.g) (fun _=>ph) w' 0 (aR P e) e es∧ae P μ (fun _=>ph) (.os 0) y
def abf(m:Mem):Option (Nat×bF)→Mem
 |some (id,b)=>al m id b
 |none=>m
def abg(E:Env)(g:FuncId)(args:List V)(f:Fr)(m:Mem)(v:V)(f':Fr)(m':Mem):Prop:=
 (∃fn c,E.P.funcs[g]?=some fn∧fn.body=some c∧(fn.name== "runtime.NumGoroutine")=false)∧
 ∀(w0:bu)(μ:Ro)(φ:Nat→aA)(ρ:Nat→Value)(w:World)(xs:Array Value),aw E.P E.aH w0 μ φ m w→bX E.P μ φ m f ρ→args.length=xs.size→(∀(i:Nat)v x,args[i]?=some v→xs[i]?=some x→ae E.P μ φ v x)→(∀id,ck id args=true→(m id).isSome=true)→Calls E.P g xs w fun e w'=>∃y μ' φ',e=.returned y∧aw E.P E.aH w0 μ' φ' m' w'∧bX E.P μ' φ' m' f' ρ∧ae E.P μ' φ' v y∧∀id,v.has id=true→(m' id).isSome=true
def GQ{R:Type}(P:Program)(G:Nat→Option (List PV))(g:FuncId)(args:List V)(f:Fr)(m:Mem)(k:V→Fr→Mem→Option R)(r:R):Prop:=
 (∃fn c,P.funcs[g]?=some fn∧fn.body=some c∧(fn.name== "runtime.NumGoroutine")=false)∧
 ∀(w0:bu)(μ:Ro)(φ:Nat→aA)(ρ:Nat→Value)(w:World)(xs:Array Value),aw P G w0 μ φ m w→bX P μ φ m f ρ→args.length=xs.size→(∀(i:Nat)v x,args[i]?=some v→xs[i]?=some x→ae P μ φ v x)→(∀id,ck id args=true→(m id).isSome=true)→Calls P g xs w fun e w'=>∃v f' m' y μ' φ',k v f' m'=some r∧e=.returned y∧aw P G w0 μ' φ' m' w'∧bX P μ' φ' m' f' ρ∧ae P μ' φ' v y∧∀id,v.has id=true→(m' id).isSome=true
def sw(P:Program)(G:Nat→Option (List PV))(nt:Nat)(yl:YL)(w0:bu):Prop:=∀(R:Type)site id args f m(k:V→Fr→Mem→Option R)r,yl R nt site id args f m k=some r→∀(μ:Ro)(φ:Nat→aA)(ρ:Nat→Value)(w:World)(xs:Array Value),aw P G w0 μ φ m w→bX P μ φ m f ρ→(∀t,nt≤t→ρ t=w0.sv t)→args.length=xs.size→(∀(i:Nat)v x,args[i]?=some v→xs[i]?=some x→ae P μ φ v x)→(∀id,ck id args=true→(m id).isSome=true)→∀g,(φ id).g=some g→∃fn tmps assign body,(Instr.yield g xs).run P w=.ok (.round g fn tmps assign body) w∧RoundIn Fence.wide 0 P g fn tmps assign body w fun e w'=>∃v f' m' y μ' φ',k v f' m'=some r∧e=.returned y∧(∀b o,μ b=some o→μ' b=some o)∧aw P G w0 μ' φ' m' w'∧bX P μ' φ' m' f' ρ∧ae P μ' φ' v y∧∀id,v.has id=true→(m' id).isSome=true
theorem yT(P:Program)(G:Nat→Option (List PV))(nt:Nat)(w0:bu):sw P G nt zN w0:=fun R site id args f m k r h=>by cases h
variable{G:Nat→Option (List PV)}{φ:Nat→aA}
theorem aw.xM{P:Program}{w0:bu}{μ:Ro}{m:Mem}{w:World}(h:aw P G w0 μ φ m w){K:Ro}(hK:∀b o,K b=some o→μ b=some o):aw P G {w0 with dx:=K} μ φ m w:=⟨h.below,h.ro,h.aH,h.du,h.own,h.inj,h.apart,h.fy,h.base,hK,h.A5⟩
theorem aw.CS{P:Program}{w0:bu}{μ:Ro}{m:Mem}{w:World}{K:Ro}(h:aw P G {w0 with dx:=K} μ φ m w)(hK:∀b o,w0.dx b=some o→K b=some o):aw P G w0 μ φ m w:=⟨h.below,h.ro,h.aH,h.du,h.own,h.inj,h.apart,h.fy,h.base,fun b o hb=>h.dx b o (hK b o hb),h.A5⟩
theorem sw.xM{P:Program}{G:Nat→Option (List PV)}{nt:Nat}{yl:YL}{w0:bu}(h:sw P G nt yl w0){K:Ro}(hK:∀b o,w0.dx b=some o→K b=some o):sw P G nt yl {w0 with dx:=K}:=fun R site id args f m k r hy μ φ ρ w xs hM hF hρ hl hr GH g hg=>
  let⟨fn,tmps,assign,body,y1,y2⟩:=h R site id args f m k r hy μ φ ρ w xs (hM.CS hK) hF hρ hl hr GH g hg
  ⟨fn,tmps,assign,body,y1,y2.mono fun e w'⟨v,f',m',y,μ',φ',a1,a2,a3,a4,a5⟩=>⟨v,f',m',y,μ',φ',a1,a2,a3,a4.xM fun b o hb=>a3 b o (hM.dx b o hb),a5⟩⟩
def Lg{R:Type}(P:Program)(G:Nat→Option (List PV))(g:FuncId)(yl:YL)(args:List V)(f:Fr)(m:Mem)(k:V→Fr→Mem→Option R)(r:R):Prop:=
 ∃fn c,P.funcs[g]?=some fn∧fn.body=some c∧(fn.name== "runtime.NumGoroutine")=false∧
 ∀(w0:bu)(μ:Ro)(φ:Nat→aA)(ρ:Nat→Value)(w:World)(xs:Array Value),aw P G w0 μ φ m w→bX P μ φ m f ρ→args.length=xs.size→(∀(i:Nat)v x,args[i]?=some v→xs[i]?=some x→ae P μ φ v x)→(∀id,ck id args=true→(m id).isSome=true)→sw P G fn.ntmps yl {w0 with sv:=fun t=>ρ (t-fn.ntmps)}→Calls P g xs w fun e w'=>∃v f' m' y μ' φ',k v f' m'=some r∧e=.returned y∧aw P G w0 μ' φ' m' w'∧bX P μ' φ' m' f' ρ∧ae P μ' φ' v y∧∀id,v.has id=true→(m' id).isSome=true
structure jJ(E:Env):Prop where
 mixed:E.P.follows .mixedOrders=true
 lp:∀(S R:Type)(body:S→(S→Option R)→Option R)s r,E.lp.run body s=some r→∃n,cY body n s=some r
 ctx:∀g M,E.ctx g=some M→tr E.P E.aH g M
 own:∀g M,E.own g=some M→zY E.P E.aH g M
 inl:∀(R:Type)g K1 args f m(k:V→Fr→Mem→Option R)r,E.inl R g K1 args f m k=some r→GQ E.P E.aH g args f m k r
 YW:∀(R:Type)g K1 yl args f m(k:V→Fr→Mem→Option R)r,E.YW R g K1 yl args f m k=some r→Lg E.P E.aH g yl args f m k r
section
variable {R:Type} {E:Env}
theorem ef{f:V→List Nat}{id:Nat}:∀{cs:List V},id∈ic f cs↔∃v∈cs,id∈f v
 |[]=>by simp[ic]
 |c::r=>by simp[ic,ef (cs:=r)]
theorem lu{g g':V→Option PV}:∀{cs:List V},(∀v∈cs,g' v=g v)→pe g' cs=pe g cs
 |[],_=>rfl
 |c::r,h=>by simp_all[pe,lu]
theorem py{m m2:Mem}:∀(d:Nat){v:V},(∀id∈cP m d v,m2 id=m id)→kn m2 d v=kn m d v
 |0,v,_=>rfl
 |d+1,v,h=>by
  cases v with
  |agg cs=>simp only[kn];rw[lu fun v hv=>py d fun id an=>h id (by simp only[cP];exact ef.2 ⟨v,hv,an⟩)]
  |bn cs=>simp only[kn];rw[lu fun v hv=>py d fun id an=>h id (by simp only[cP];exact ef.2 ⟨v,hv,an⟩)]
  |fn g cs=>simp only[kn];rw[lu fun v hv=>py d fun id an=>h id (by simp only[cP];exact ef.2 ⟨v,hv,an⟩)]
  |op id off=>
   have h0:=h id (by simp[cP]);simp only[kn,h0];split
   ·rename_i cs hm;rw[lu fun v hv=>py d fun qY an=>h qY (by simp only[cP,hm];exact aiW _ (ef.2 ⟨v,hv,an⟩))]
   rfl
  |oe id i off=>grind [kn,id,cP]
  |os id=>grind [kn,id,cP]
  |fx id lo len=>grind [kn,id,cP]
  |om id=>grind [kn,id,cP]
  |uF id i off=>grind [kn,id,cP]
  |_=>rfl
theorem ir{g g':V→List Nat}:∀{cs:List V},(∀v∈cs,g' v=g v)→ic g' cs=ic g cs
 |[],_=>rfl
 |c::r,h=>by simp_all[ic,ir]
theorem lM{m m2:Mem}:∀(d:Nat){v:V},(∀id∈cP m d v,m2 id=m id)→cP m2 d v=cP m d v
 |0,v,_=>rfl
 |d+1,v,h=>by
  cases v with
  |agg cs=>simp only[cP];exact ir fun v hv=>lM d fun id an=>h id (by simp only[cP];exact ef.2 ⟨v,hv,an⟩)
  |bn cs=>simp only[cP];exact ir fun v hv=>lM d fun id an=>h id (by simp only[cP];exact ef.2 ⟨v,hv,an⟩)
  |fn g cs=>simp only[cP];exact ir fun v hv=>lM d fun id an=>h id (by simp only[cP];exact ef.2 ⟨v,hv,an⟩)
  |op id off=>
   have h0:=h id (by simp[cP]);simp only[cP,h0];split
   ·rename_i cs hm;rw[ir fun v hv=>lM d fun qY an=>h qY (by simp only[cP,hm];exact aiW _ (ef.2 ⟨v,hv,an⟩))]
   rfl
  |_=>rfl
variable{p:PV}
theorem Bg{t:TypeId}{k:PV→Option R}{r:R}(hs:tn E t=true)(h:ga E t p k=some r):∃q,(∀(R':Type)(k':PV→Option R'),ga E t p k'=k' q)∧k q=some r∧∀(P:Program)(μ μ':Ro)x,af P μ p x→af P μ' q x:=by
 unfold tn at hs;unfold ga at h;split at h
 ·rename_i q hu;obtain⟨n,hn,hk⟩:=By.1 h;have hp:p=.int q n:=by cases p<;>simp[asInt]at hn;simp_all
  exact⟨.int q n,fun R' k'=>by simp[ga,hu,hn],hk,fun P μ μ' x hx=>by subst hp;cases hx with|int h=>exact .int h⟩
 ·rename_i hu;obtain⟨n,hn,hk⟩:=By.1 h;have hp:p=.bool n:=by cases p<;>simp[asBool]at hn;subst hn;rfl
  exact⟨.bool n,fun R' k'=>by simp[ga,hu,hn],hk,fun P μ μ' x hx=>by subst hp;cases hx;exact .bool⟩
 ·rename_i hu;obtain⟨n,hn,hk⟩:=By.1 h;have hp:p=.str n:=by cases p<;>simp[cV]at hn;subst hn;rfl
  exact⟨.str n,fun R' k'=>by simp[ga,hu,hn],hk,fun P μ μ' x hx=>by subst hp;cases hx with|str h=>exact .str h⟩
 all_goals simp_all
theorem IA:∀{ts:List TypeId}{ps:List PV}{k:List V→Option R}{r:R},AW E ts ps k=some r→∃vs,(∀(R':Type)(k':List V→Option R'),AW E ts ps k'=k' vs)∧k vs=some r∧vs.length=ps.length∧(∀id,ck id vs=false)∧(∀(P:Program)(μ:Ro)(φ:Nat→aA)(i:Nat)p v x,ps[i]?=some p→vs[i]?=some v→af P μ p x→ae P μ φ v x)∧(ts.all (tn E)=true→∀(P:Program)(μ μ':Ro)(φ:Nat→aA)(i:Nat)p v x,ps[i]?=some p→vs[i]?=some v→af P μ p x→ae P μ' φ v x)
 |[],[],k,r,h=>⟨[],fun R' k'=>rfl,h,rfl,fun _=>rfl,by simp,by simp⟩
 |t::ts,p::ps,k,r,h=>by
  simp only[AW]at h;obtain⟨q,q1,q2,q3,_⟩:=k8 h;obtain⟨vs,v1,v2,v3,v4,v5,v6⟩:=IA q2;refine⟨.pv q::vs,fun R' k'=>by simp only[AW];rw[q1,v1],v2,by simp[v3],fun id=>by simp[ck,v4],fun P μ φ i p' v x hp hv hx=>?_,fun hs P μ μ' φ i p' v x hp hv hx=>?_⟩
  ·cases i with
   |zero=>simp at hp hv;subst hp;subst hv;exact .pv (q3 _ _ _ hx)
   |succ i=>grind
  ·simp only[aiZ,T2]at hs;cases i with
   |zero=>
    simp at hp hv;subst hp;subst hv;obtain⟨q',s1,s2,s3⟩:=Bg hs.1 h;have:q'=q:=by have e1:=s1 PV some;grind
    subst this;exact .pv (s3 P μ μ' x hx)
   |succ i=>grind
 |[],p::ps,k,r,h=>by simp[AW]at h
 |t::ts,[],k,r,h=>by simp[AW]at h
theorem IB{n:Nat}{r:PV}{vs:List PV}(h:cO n r=some vs):r=.bn vs∧vs.length=n:=by cases r<;>simp[cO]at h;grind
variable{ts:List TypeId}
theorem IC{k:V→Option R}{r:R}(h:AX E ts p k=some r):∃v,(∀(R':Type)(k':V→Option R'),AX E ts p k'=k' v)∧k v=some r∧(∀id,v.has id=false)∧(∀(P:Program)(μ:Ro)(φ:Nat→aA)x,af P μ p x→ae P μ φ v x)∧(ts.all (tn E)=true→∀(P:Program)(μ μ':Ro)(φ:Nat→aA)x,af P μ p x→ae P μ' φ v x):=by
 unfold AX at h;split at h
 ·obtain⟨vs,hv,hk⟩:=By.1 h;obtain⟨rfl,hl⟩:=IB hv;have:vs=[]:=afl hl;subst this;have key:∀(P:Program)(μ μ':Ro)(φ:Nat→aA)x,af P μ (.bn []) x→ae P μ' φ (.bn []) x:=fun P μ μ' φ x hx=>by
   cases hx with
   |bn h1 h2=>exact .bn h1 (by simp)
  grind [AX,V.has,ck]
 ·rename_i t;obtain⟨q,q1,q2,q3,_⟩:=k8 h;refine⟨.pv q,fun R' k'=>by simp only[AX];rw[q1],q2,by simp,fun P μ φ x hx=>.pv (q3 _ _ _ hx),fun hs P μ μ' φ x hx=>?_⟩;obtain⟨q',s1,s2,s3⟩:=Bg (by simpa using hs) h;have:q'=q:=by have e1:=s1 PV some;grind
  subst this;exact .pv (s3 P μ μ' x hx)
 ·rename_i agv agw;obtain⟨vs,hv,hk⟩:=By.1 h;obtain⟨rfl,hl⟩:=IB hv;obtain⟨us,u1,u2,u3,u4,u5,u6⟩:=IA hk;have abh:((List.range ts.length).map fun j=>vs.getD j .bad)=vs:=by apply ag5;grind
  rw[abh]at u3 u5 u6;refine⟨.bn us,fun R' k'=>?_,u2,fun id=>by simp[V.has,u4],fun P μ φ x hx=>?_,fun hs P μ μ' φ x hx=>?_⟩
  ·unfold AX;simp_all
  ·cases hx with
   |bn h1 h2=>
    refine .bn (by omega) fun i v y hv hy=>?_;have hi:i<vs.length:=by grind
    exact u5 P μ φ i _ v y (AS hi) hv (h2 i _ y (AS hi) hy)
  ·cases hx with
   |bn h1 h2=>
    refine .bn (by omega) fun i v y hv hy=>?_;have hi:i<vs.length:=by grind
    exact u6 hs P μ μ' φ i _ v y (AS hi) hv (h2 i _ y (AS hi) hy)
theorem rP:∀{args:List V}{m m':Mem}{ps:List PV},ig m args=some (ps,m')→jN m m'∧ps.length=args.length∧∀(P:Program)(G:Nat→Option (List PV))(w0:bu)(μ:Ro)(φ:Nat→aA)(w:World)(X:Nat→Value),aw P G w0 μ φ m w→(∀(i:Nat)u,args[i]?=some u→ae P μ φ u (X i))→∃μ',(∀b o,μ b=some o→μ' b=some o)∧aw P G w0 μ' φ m' w∧∀(i:Nat)p,ps[i]?=some p→af P μ' p (X i)
 |[],m,m',ps,h=>by simp only[ig,AI,Xp]at h;obtain⟨rfl,rfl⟩:=h;exact⟨.refl _,rfl,fun P G w0 μ φ w X hM _=>⟨μ,fun _ _ h=>h,hM,by simp⟩⟩
 |c::r,m,m',ps,h=>by
  simp only[ig]at h;split at h
  ·rename_i p m1 h1;split at h
   ·rename_i XT m2 h2;simp only[AI,Xp]at h;obtain⟨rfl,rfl⟩:=h;obtain⟨a1,a2⟩:=Fs h1;obtain⟨b1,b2,b3⟩:=rP h2;refine⟨a1.trans b1,by simp[b2],fun P G w0 μ φ w X hM hx=>?_⟩;obtain⟨μ1,c1,c2,c3⟩:=a2 P G w0 μ φ w (X 0) hM (hx 0 c (by simp));obtain⟨μ2,d1,d2,d3⟩:=b3 P G w0 μ1 φ w (fun i=>X (i+1)) c2 (fun i u hu=>(hx (i+1) u (by simpa using hu)).w8 c1);refine⟨μ2,fun b o h=>d1 b o (c1 b o h),d2,fun i q hq=>?_⟩;cases i with
    |zero=>simp at hq;subst hq;exact c3.mono d1
    |succ i=>simp_all
   ·cases h
  ·cases h
theorem GR{m':Mem}{v:V}(h:tg cW v=some (p,m')):m'=cW:=by
 have key:∀{cs:List V}{m':Mem}{ps:List PV},lJ cW cs=some (ps,m')→m'=cW:=by
  intro cs;induction cs with
  |nil=>simp[lJ,AI,Xp]
  |cons c r ih=>grind [lJ,pX,Option.some.injEq,Prod.mk.injEq]
 unfold tg at h;grind [Option.some.injEq,Prod.mk.injEq,pX]
theorem oD:∀{args:List V}{m':Mem}{ps:List PV},ig cW args=some (ps,m')→ps.length=args.length∧∀(P:Program)(μ:Ro)(φ:Nat→aA)(X:Nat→Value),(∀(i:Nat)u,args[i]?=some u→ae P μ φ u (X i))→∀(i:Nat)p,ps[i]?=some p→af P μ p (X i)
 |[],m',ps,h=>by simp only[ig,AI,Xp]at h;simp_all
 |c::r,m',ps,h=>by
  simp only[ig]at h;split at h
  ·rename_i p m1 h1;have:=GR h1;subst this;split at h
   ·rename_i XT m2 h2;simp only[AI,Xp]at h;obtain⟨rfl,rfl⟩:=h;obtain⟨b2,b3⟩:=oD h2;refine⟨by simp[b2],fun P μ φ X hx i q hq=>?_⟩;cases i with
    |zero=>simp at hq;subst hq;exact Bf h1 P μ φ _ (hx 0 c (by simp))
    |succ i=>exact b3 P μ φ (fun i=>X (i+1)) (fun i u hu=>hx (i+1) u (by simpa using hu)) i q (by simpa using hq)
   ·cases h
  ·cases h
variable{φ:Nat→aA}
theorem aK.move{P:Program}{μ μ':Ro}{φ':Nat→aA}{w:World}{i j sz:Nat}{et:TypeId}{es:List PV}(h:aK P μ φ w i sz et es)(hφ:φ' j=φ i)(hμ:∀b o,μ b=some o→μ' b=some o):aK P μ' φ' w j sz et es:=by
 unfold aK at*;rw[hφ];obtain⟨h1,h2,h3,h4,h5,h6,h7⟩:=h;refine⟨h1,h2,h3,h4,h5,h6,?_⟩;split at h7
 ·omega
 ·obtain⟨c,T,c1,c2,c3,c4,c5⟩:=h7;exact⟨c,T,c1,c2,c3,fun i e j p x he hp hx=>(c4 i e j p x he hp hx).mono hμ,c5⟩
theorem aK.SZ{P:Program}{ν μ:Ro}{w:World}{i:Nat}{et:TypeId}{es:List PV}(h:aK P ν φ w i 1 et es):aK P μ φ w i 1 et (es.map EX):=by
 unfold aK at*;obtain⟨h1,h2,h3,h4,h5,h6,h7⟩:=h;have hc:∀p:PV,(EX p).cells.length=1:=fun p=>by cases p<;>rfl
 refine⟨by simpa using h1,h2,h3,h4,fun j e he=>?_,h6,?_⟩
 ·grind
 ·split at h7
  ·simp_all
  ·obtain⟨c,T,c1,c2,c3,c4,c5⟩:=h7;refine⟨c,T,c1,c2,by simpa using c3,fun j e l p x he hp hx=>?_,fun j x hj hx=>c5 j x (by simpa using hj) hx⟩;simp only[IS,aaO]at he;obtain⟨q,hq,rfl⟩:=he;have hl:l=0:=by grind
   subst hl;cases q<;>(simp only[EX,PV.cells,ahd,AI]at hp;subst hp);case int=>have:=c4 j _ 0 _ x hq rfl hx;cases this with|int h=>exact .int h
   case bool=>have:=c4 j _ 0 _ x hq rfl hx;cases this;exact .bool
   case str=>have:=c4 j _ 0 _ x hq rfl hx;cases this with|str h=>exact .str h
   all_goals exact .bad
mutual
theorem S1:∀(s:FS)(p:PV)(a:List PV),VN s p=some a→a.length=s.n∧∀r,Gx s (a++r)=(p,r)
 |.raw,p,a,h=>by simp only[VN,AI]at h;subst h;exact⟨rfl,fun r=>rfl⟩
 |.fn g cs,p,a,h=>by
  cases p<;>simp only[VN]at h<;>try (cases h;done)
  split at h
  ·rename_i e;subst e;obtain⟨h1,h2⟩:=GS cs _ a h;exact⟨by simp[FS.n,h1],fun r=>by simp[Gx,h2 r]⟩
  ·cases h
 |.ptr cs,p,a,h=>by
  cases p<;>simp only[VN]at h<;>try (cases h;done)
  obtain⟨h1,h2⟩:=GS cs _ a h;exact⟨by simp[FS.n,h1],fun r=>by simp[Gx,h2 r]⟩
theorem GS:∀(ss:List FS)(ps:List PV)(a:List PV),Ib ss ps=some a→a.length=nFs ss∧∀r,AV ss (a++r)=(ps,r)
 |[],ps,a,h=>by
  cases ps with
  |nil=>simp only[Ib,AI]at h;subst h;exact⟨rfl,fun r=>rfl⟩
  |cons p ps=>simp[Ib]at h
 |s::ss,ps,a,h=>by
  cases ps with
  |nil=>simp[Ib]at h
  |cons p ps=>simp only[Ib]at h;obtain⟨x,hx,h⟩:=By.1 h;obtain⟨y,hy,h⟩:=By.1 h;simp only[AI]at h;subst h;obtain⟨a1,a2⟩:=S1 s p x hx;obtain⟨b1,b2⟩:=GS ss ps y hy;refine⟨by simp[nFs,a1,b1],fun r=>?_⟩;simp only[AV,ahk,a2,b2]
end
theorem Pt{s:FS}{ls:List PV}(h:VN s p=some ls):(Gx s ((List.range s.n).map fun j=>ls.getD j .bad)).1=p:=by
 obtain⟨h1,h2⟩:=S1 s p ls h;have:((List.range s.n).map fun j=>ls.getD j .bad)=ls:=by apply ag5;grind
 rw[this];have:=h2 [];simp_all
theorem QR{fid:FuncId}{k:V→Option R}{r:R}(h:zP E fid ts p k=some r):∃v,(∀(R':Type)(k':V→Option R'),zP E fid ts p k'=k' v)∧k v=some r∧(∀id,v.has id=false)∧(∀(P:Program)(μ:Ro)(φ:Nat→aA)x,af P μ p x→ae P μ φ v x)∧True:=by
 unfold zP at h;split at h
 ·rename_i s hs;obtain⟨ls,hl,hk⟩:=By.1 h;refine⟨_,fun R' k'=>by simp_all[zP,agO],hk,fun id=>rfl,fun P μ φ x hx=>.pv ?_,trivial⟩;rw[Pt hl];omega
 ·rename_i hs;obtain⟨v,v1,v2,v3,v4,_⟩:=IC h;exact⟨v,fun R' k'=>by simp_all[zP],v2,v3,v4,trivial⟩
theorem S2(hE:jJ E){draw:Bool}{site:Nat}{g:FuncId}{args:List V}{f:Fr}{m:Mem}{k:V→Fr→Mem→bp→Option R}{r:R}(h:ui E draw site g args f m k=some r):(∃v f' m' ft,k v f' m' ft=some r∧(draw=true→f'=f∧∃wr:Option (Nat×bF),m'=abf m wr∧(∀id b,wr=some (id,b)→(true,id)∈ft)∧∀(f2:Fr)(m2:Mem),(∀x∈ft,m2 x.2=m x.2)→∀(R':Type)(k':V→Fr→Mem→bp→Option R'),ui E true site g args f2 m2 k'=k' v f2 (abf m2 wr) ft)∧((∀x∈ft,x.1=false)→f'=f∧m'=m)∧abg E g args f m v f' m')∨(draw=false∧GQ E.P E.aH g args f m (fun v f m=>k v f m [(true,0)]) r):=by
 have hX:∀(P:Program)(μ:Ro)(φ:Nat→aA)(xs:Array Value),args.length=xs.size→(∀(i:Nat)v x,args[i]?=some v→xs[i]?=some x→ae P μ φ v x)→∀(i:Nat)u,args[i]?=some u→xs[i]?=some (xs.getD i undef)∧ae P μ φ u (xs.getD i undef):=by
  intro P μ φ xs hl hr i u hu;have bS:i<xs.size:=by grind
  have:xs[i]?=some (xs.getD i undef):=by simp_all
  grind
 unfold ui at h;split at h
 ·rename_i M QS;obtain⟨Sa,hM⟩:=hE.ctx g M QS;split at h
  ·rename_i fn hg;split at h
   ·rename_i VB;split at h
    ·rename_i ps ou;obtain⟨p,hp,h⟩:=By.1 h;obtain⟨v,v1,v2,v3,v4,v5⟩:=IC h;refine .inl ⟨v,f,m,_,v2,fun hd=>⟨rfl,none,rfl,by simp,fun f2 m2 cQ R' k'=>?_⟩,fun _=>⟨rfl,rfl⟩,Sa,fun w0 μ φ ρ w xs hR hF hl hr GH=>?_⟩
     ·have KW:pe (kn m2 ez) args=pe (kn m ez) args:=lu fun v hv=>py _ fun id an=>cQ (false,id) (by simp only[agZ];exact⟨id,ef.2 ⟨v,hv,an⟩,rfl⟩);have iF:((ic (cP m2 ez) args).map fun i=>(false,i))=((ic (cP m ez) args).map fun i=>(false,i)):=by have:ic (cP m2 ez) args=ic (cP m ez) args:=ir fun v hv=>lM _ fun id an=>cQ (false,id) (by simp only[agZ];exact⟨id,ef.2 ⟨v,hv,an⟩,rfl⟩);rw[this]
      simp only[ui,QS,hg];rw[BY VB];simp only[KW,ou,hp,agO,iF];rw[v1];rfl
     ·obtain⟨p1,p2⟩:=gz ou;refine(hM ps p hp w (jK w) xs (fun _ _ h=>h) (fun g cs hg=>(hR.aH g cs hg).mono hR.wB) (by omega) (fun i q x hq hx=>?_)).mono ?_
      ·obtain⟨u,hu,hf⟩:=p2 i q hq;exact su hR hR.wB (fun _ _ _ _ _=>rfl) _ hf (hr i u x hu hx)
      ·rintro e w' ⟨y,rfl,hb,hy⟩;exact⟨y,cu μ w w',φ,rfl,hR.called hb,hF.l0 (j7 hR w') (.refl _),v5 VB E.P _ _ φ y hy,fun id an=>by simp_all⟩
    ·cases h
   ·rename_i VB;split at h
    ·rename_i ps m1 ou;obtain⟨p,hp,h⟩:=By.1 h;obtain⟨v,v1,v2,v3,v4,v5⟩:=QR h;cases draw with
     |true=>
      simp only[T1]at ou v2;obtain⟨q1,q2⟩:=oD ou;refine .inl ⟨v,f,m,_,v2,fun _=>⟨rfl,none,rfl,by simp,fun f2 m2 cQ R' k'=>?_⟩,fun _=>⟨rfl,rfl⟩,Sa,fun w0 μ φ ρ w xs hR hF hl hr GH=>?_⟩
      ·simp only[ui,QS,hg];rw[IN VB];simp only[T1,ou,hp,agO];rw[v1];rfl
      ·refine(hM ps p hp w μ xs hR.ro hR.aH (by omega) (fun i q x hq hx=>?_)).mono ?_
       ·have:=q2 E.P μ φ (fun i=>xs.getD i undef) (fun i u hu=>(hX E.P μ φ xs hl hr i u hu).2) i q hq;simp_all
       ·rintro e w' ⟨y,rfl,hb,hy⟩;exact⟨y,cu μ w w',φ,rfl,hR.called hb,hF.l0 (j7 hR w') (.refl _),v4 E.P _ φ y hy,fun id an=>by simp_all⟩
     |false=>
      simp only[AT,Xq]at ou v2;obtain⟨q0,q1,q2⟩:=rP ou;refine .inl ⟨v,f,m1,_,v2,fun hd=>by(cases hd),fun hq=>absurd (hq (true,0) (by simp)) (by simp),Sa,fun w0 μ φ ρ w xs hR hF hl hr GH=>?_⟩;obtain⟨μ1,r1,r2,r3⟩:=q2 E.P E.aH w0 μ φ w (fun i=>xs.getD i undef) hR (fun i u hu=>(hX E.P μ φ xs hl hr i u hu).2);refine(hM ps p hp w μ1 xs r2.ro r2.aH (by omega) (fun i q x hq hx=>?_)).mono ?_
      ·have:=r3 i q hq;have bS:i<xs.size:=(YH.1 hx).1;simp_all[undef,OF,AI,Array.getD]
      ·rintro e w' ⟨y,rfl,hb,hy⟩;exact⟨y,cu μ1 w w',φ,rfl,r2.called hb,hF.l0 (fun b o h=>j7 r2 w' b o (r1 b o h)) q0,v4 E.P _ φ y hy,fun id an=>by grind⟩
    ·cases h
  ·cases h
 ·rename_i QS;split at h
  ·rename_i M uN;obtain⟨Sa,hM⟩:=hE.own g M uN;split at h
   ·rename_i fn hg;split at h
    ·rename_i t ht;split at h
     ·rename_i e hu;split at h
      ·rename_i VB;obtain⟨VB,sy⟩:=VB;split at h
       ·rename_i ps ou;obtain⟨p,hp,h⟩:=By.1 h;obtain⟨es,Ft,h⟩:=By.1 h;obtain⟨f',m',n1,n2,n3,n4,n5⟩:=dX h;refine .inl ⟨_,f',m',_,n2,fun hd=>?_,fun hq=>absurd (hq (true,site) (by simp)) (by simp),Sa,fun w0 μ φ ρ w xs hR hF hl hr GH=>?_⟩
        ·obtain⟨d1,d2,d3⟩:=n4 hd;subst hd;refine⟨d2,some (site,_),d3,by simp,fun f2 m2 cQ R' k'=>?_⟩;have KW:pe (kn m2 ez) args=pe (kn m ez) args:=lu fun v hv=>py _ fun id an=>cQ (false,id) (by simp only[ag2,agZ];exact .inr ⟨id,ef.2 ⟨v,hv,an⟩,rfl⟩);have iF:ic (cP m2 ez) args=ic (cP m ez) args:=ir fun v hv=>lM _ fun id an=>cQ (false,id) (by simp only[ag2,agZ];exact .inr ⟨id,ef.2 ⟨v,hv,an⟩,rfl⟩);simp only[ui,QS,uN,hg,ht,hu];rw[BY ⟨VB,sy⟩];simp only[KW,ou,hp,agO,Ft,iF];have V7:m2 site=none:=by rw[cQ (true,site) (by simp)];omega
         simp only[fresh,V7];rfl
        ·obtain⟨p1,p2⟩:=gz ou;refine(hM fn t e hg ht hu ps p hp w (jK w) xs (fun _ _ h=>h) (fun g cs hg=>(hR.aH g cs hg).mono hR.wB) (by omega) (fun i q x hq hx=>?_)).mono ?_
         ·obtain⟨u,pT,hf⟩:=p2 i q hq;exact su hR hR.wB (fun _ _ _ _ _=>rfl) _ hf (hr i u x pT hx)
         rintro en w' ⟨y,ph,es',rfl,hb,rfl,EE,hA,hy⟩;have Zn:es'=es:=by simp only[aQ,T1,AI]at Ft;omega
         subst Zn;rw[sy]at hA;have Zo:aK E.P (lW (cu μ w w') ph.g) (fun _=>ph) w' 0 1 e (es'.map EX):=hA.SZ;have Fu:=hR.Fg hb EE;have V8:bX E.P (lW (cu μ w w') ph.g) φ m f ρ:=hF.l0 (fun b o h=>xH hR w' EE b o h) (.refl _);have hP:kq E.P w0 (lW (cu μ w w') ph.g) φ m w' w' site (.arr (aR E.P e) e (es'.map EX)) ph:=by
          refine⟨kv.refl _ _,Fu.ro,fun _ _ _ _ _=>rfl,fun g hg=>⟨?_,?_,?_⟩,fun φ' hp _=>by rw[sy];exact Zo.move hp (fun _ _ h=>h),by simp[bF.names],fun st h=>by cases h⟩
          ·have:=EE g hg;have:=hR.below.size;grind
          ·simp[lW,hg]
          ·intro id b' gX cv;have h1:=(hR.du id b' gX).CH cv;grind
         obtain⟨φ',a1,a2,a3⟩:=n5 E.P E.aH w0 _ φ w' w' ρ ph Fu V8 hP;refine⟨y,_,φ',rfl,a2,a3,?_,fun id an=>?_⟩
         ·cases hy with
          |q6 h=>exact .q6 (by rw[a1];omega)
          | @os _ g h=>have:=ae.os (P:=E.P) (μ:=lW (cu μ w w') ph.g) (φ:=φ') (id:=site) (g:=g) (by rw[a1];omega);grind
         ·have an:=IT an;subst an;simp[n3]
       ·cases h
      rename_i VB;split at h
      ·rename_i ps m1 ou;obtain⟨p,hp,h⟩:=By.1 h;obtain⟨es,Ft,h⟩:=By.1 h;obtain⟨f',m',n1,n2,n3,n4,n5⟩:=dX h;have fin:∀(w0:bu)(μ μ1:Ro)(φ:Nat→aA)(ρ:Nat→Value)(w:World)(xs:Array Value),(∀b o,μ b=some o→μ1 b=some o)→jN m (if draw then m else m1)→aw E.P E.aH w0 μ1 φ (if draw then m else m1) w→bX E.P μ φ m f ρ→ps.length=xs.size→(∀(i:Nat)p x,ps[i]?=some p→xs[i]?=some x→af E.P μ1 p x)→Calls E.P g xs w fun e w'=>∃y μ' φ',e=.returned y∧aw E.P E.aH w0 μ' φ' m' w'∧bX E.P μ' φ' m' f' ρ∧ae E.P μ' φ' (.os site) y∧∀id,(V.os site).has id=true→(m' id).isSome=true:=by
        intro w0 μ μ1 φ ρ w xs hle GH hR hF hl hr;refine(hM fn t e hg ht hu ps p hp w μ1 xs hR.ro hR.aH hl hr).mono ?_;rintro en w' ⟨y,ph,es',rfl,hb,rfl,EE,hA,hy⟩;have Zn:es'=es:=by simp only[aQ,T1,AI]at Ft;omega
        subst Zn;have Fu:=hR.Fg hb EE;have V8:bX E.P (lW (cu μ1 w w') ph.g) φ (if draw then m else m1) f ρ:=hF.l0 (fun b o h=>xH hR w' EE b o (hle b o h)) GH;have hP:kq E.P w0 (lW (cu μ1 w w') ph.g) φ (if draw then m else m1) w' w' site (.arr (aR E.P e) e es') ph:=by
         refine⟨kv.refl _ _,Fu.ro,fun _ _ _ _ _=>rfl,fun g hg=>⟨?_,?_,?_⟩,fun φ' hp _=>hA.move hp (fun _ _ h=>h),by simp[bF.names],fun st h=>by cases h⟩
         ·have:=EE g hg;have:=hR.below.size;grind
         ·simp[lW,hg]
         ·intro id b' gX cv;have h1:=(hR.du id b' gX).CH cv;grind
        obtain⟨φ',a1,a2,a3⟩:=n5 E.P E.aH w0 _ φ w' w' ρ ph Fu V8 hP;refine⟨y,_,φ',rfl,a2,a3,?_,fun id an=>?_⟩
        ·cases hy with
         |q6 h=>exact .q6 (by rw[a1];omega)
         | @os _ g h=>have:=ae.os (P:=E.P) (μ:=lW (cu μ1 w w') ph.g) (φ:=φ') (id:=site) (g:=g) (by rw[a1];omega);grind
        ·have an:=IT an;subst an;simp[n3]
       cases draw with
       |true=>
        simp only[T1]at ou n2 fin n4;obtain⟨q1,q2⟩:=oD ou;obtain⟨d1,d2,d3⟩:=n4 trivial;refine .inl ⟨_,f',m',_,n2,fun _=>⟨d2,some (site,_),d3,by simp,fun f2 m2 cQ R' k'=>?_⟩,fun hq=>absurd (hq (true,site) (by simp)) (by simp),Sa,fun w0 μ φ ρ w xs hR hF hl hr GH=>?_⟩
        ·simp only[ui,QS,uN,hg,ht,hu];rw[IN VB];simp only[T1,ou,hp,agO,Ft];have V7:m2 site=none:=by rw[cQ (true,site) (by simp)];omega
         simp only[fresh,V7];rfl
        ·refine fin w0 μ μ φ ρ w xs (fun _ _ h=>h) (.refl _) hR hF (by omega) fun i q x hq hx=>?_;have:=q2 E.P μ φ (fun i=>xs.getD i undef) (fun i u hu=>(hX E.P μ φ xs hl hr i u hu).2) i q hq;have bS:i<xs.size:=(YH.1 hx).1;have e:xs.getD i undef=x:=by rw[OF bS]at hx;simp only[AI]at hx;simp[Array.getD,bS,hx]
         rw[←e];omega
       |false=>
        simp only[AT,Xq]at ou n2 fin n4;obtain⟨q0,q1,q2⟩:=rP ou;refine .inl ⟨_,f',m',_,n2,fun hd=>by(cases hd),fun hq=>absurd (hq (true,site) (by simp)) (by simp),Sa,fun w0 μ φ ρ w xs hR hF hl hr GH=>?_⟩;obtain⟨μ1,r1,r2,r3⟩:=q2 E.P E.aH w0 μ φ w (fun i=>xs.getD i undef) hR (fun i u hu=>(hX E.P μ φ xs hl hr i u hu).2);refine fin w0 μ μ1 φ ρ w xs r1 q0 r2 hF (by omega) fun i q x hq hx=>?_;have:=r3 i q hq;have bS:i<xs.size:=(YH.1 hx).1;have e:xs.getD i undef=x:=by rw[OF bS]at hx;simp only[AI]at hx;simp[Array.getD,bS,hx]
        rw[←e];omega
      ·cases h
     ·cases h
    ·cases h
   ·cases h
  ·split at h
   ·cases h
   ·rename_i hd;exact .inr ⟨by simpa using hd,hE.inl _ _ _ _ _ _ _ _ h⟩
end
end Go.Ab
