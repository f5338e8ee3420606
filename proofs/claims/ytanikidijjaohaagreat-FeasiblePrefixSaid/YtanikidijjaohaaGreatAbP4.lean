import Derived.Test.YtanikidijjaohaaGreatAbP3
import Derived.WideKeyRuns
import Derived.MapKept
import Derived.RangeFuncRecord
set_option linter.unusedVariables false
namespace Go.Ab
open Go.RowKit (Below)
section
variable {R:Type} {E:Env}
theorem cells_one{x:Value}(h:x.oneCell'=true):x.cells= #[x]:=by cases x<;>first|rfl|(simp[Value.oneCell']at h)
theorem af.elem{P:Program}{μ:Ro}{n:Nat}{p:PV}{x:Value}(h:af P μ p x)(hl:p.cells.length=n)(hp:p.plain=true):sn P μ n p x:=by
 cases hq:p.isAgg with
 |true=>
  cases p<;>simp[PV.isAgg]at hq;cases h with
  |agg h1 h2 h3=>exact⟨hl,by simp only[PV.cells]at hl;simp only[Value.cells];omega,h2,h3⟩
 |false=>
  have hc:p.cells=[p]:=by cases p<;>first|rfl|(simp[PV.isAgg]at hq)
  have h1:x.oneCell'=true:=h.one (fun cs e=>by subst e;simp[PV.isAgg]at hq) (fun cs e=>by subst e;simp[PV.plain]at hp) (fun e=>by subst e;simp[PV.plain]at hp);have hx:=cells_one h1;refine⟨hl,by rw[hx];rw[hc]at hl;simpa using hl,fun j q y hj hy=>?_,fun j y hy=>?_⟩
  ·rw[hc]at hj;rw[hx]at hy;cases j with
   |zero=>simp at hj hy;subst hj;subst hy;exact h
   |succ j=>simp at hj
  ·rw[hx]at hy;cases j with
   |zero=>simp at hy;subst hy;exact h1
   |succ j=>simp at hy
variable{t:TypeId}
theorem AJ{z:PV}(h:Ax E t=some z):∃i zv,E.P.info? t=some i∧i.zero=some zv∧i.size=aP E.P t∧(∀μ,af E.P μ z zv)∧∀μ,sn E.P μ (aP E.P t) z zv:=by
 unfold Ax zeroV at h;cases hi:E.P.info? t with
 |none=>simp[hi]at h
 |some i=>
  cases hz:i.zero with
  |none=>simp[hi,hz]at h
  |some zv=>
   simp only[hi,hz,Option.bind_some,Option.map_some]at h;split at h
   ·rename_i p hp;split at h
    ·rename_i hc;simp only[Option.some.injEq]at h;subst h;have hr:∀μ,af E.P μ p zv:=fun μ=>sY 2 hp (sW (φ:=fun _=>default) zv);exact⟨i,zv,rfl,hz,by simp[aP,hi],hr,fun μ=>(hr μ).elem hc.2.1 hc.2.2⟩
    ·cases h
   ·cases h
theorem Md{z:PV}(h:Ax E t=some z):∃zv,(∀w,(zeroValue t).run E.P w=.ok zv w)∧∀μ,af E.P μ z zv:=by obtain⟨i,zv,h1,h2,h3,h4,_⟩:=AJ h;exact⟨zv,fun w=>nZ h1 h2,h4⟩
theorem Cells.made{P:Program}{μ:Ro}{sz:Nat}{z:PV}{zv:Value}(hE:sn P μ sz z zv)(ec:0<sz)(n cap:Nat)(hn:n≤cap):Cells P μ sz (List.replicate n z) ((madeCells zv.cells (cap*sz)).toList.take ((List.replicate n z).length*sz)):=by
 have hle:n*sz≤cap*sz:=Nat.mul_le_mul_right _ hn;have er:∀k y,((madeCells zv.cells (cap*sz)).toList.take ((List.replicate n z).length*sz))[k]?=some y→zv.cells[k%sz]?=some y:=by
  intro k y hk;obtain⟨h1,h2⟩:=dB hk;simp only[List.length_replicate]at h1;have bm:k%sz<zv.cells.size:=by rw[hE.size];exact Nat.mod_lt _ ec
  rw[Array.getElem?_toList,madeCells,Array.getElem?_map,Array.getElem?_range]at h2;rw[if_pos (by omega)]at h2;simp only[Option.map_some,Option.some.injEq,hE.size]at h2;rw[getElem!_pos zv.cells (k%sz) bm]at h2;rw[Array.getElem?_eq_getElem bm,h2]
 refine⟨by rw[List.length_take,List.length_replicate,Array.length_toList,size_madeCells];omega,fun i e hi=>?_,fun i e j p y hi hj hy=>?_,fun k y hk=>hE.one _ y (er k y hk)⟩
 ·rw[List.getElem?_replicate]at hi;split at hi
  ·simp only[Option.some.injEq]at hi;subst hi;exact hE.len
  ·cases hi
 ·rw[List.getElem?_replicate]at hi;split at hi
  ·simp only[Option.some.injEq]at hi;subst hi;have Al:j<sz:=by rw[←hE.len];exact(List.getElem?_eq_some_iff.1 hj).1
   have:=er _ y hy;rw[Nat.mul_comm,Nat.mul_add_mod,Nat.mod_eq_of_lt Al]at this;exact hE.rep j p y hj this
  ·cases hi
theorem Fq{draw:Bool}{site:Nat}{len cap:V}{f:Fr}{m:Mem}{k:V→Fr→Mem→bk→Option R}{r:R}(h:qj E draw site t len cap f m k=some r):∃f' m' b,(draw=true→m site=none∧f'=f∧m'=ak m site b∧∀(f2:Fr)(m2:Mem),m2 site=none→∀(R':Type)(k':V→Fr→Mem→bk→Option R'),qj E true site t len cap f2 m2 k'=k' (.os site) f2 (ak m2 site b) [(true,site)])∧k (.os site) f' m' [(true,site)]=some r∧(m' site).isSome=true∧∀(G:Nat→Option (List PV))(w0:br)(μ:Ro)(φ:Nat→aA)(w:World)(ρ:Nat→Value)(yl yc:Value),av E.P G w0 μ φ m w→bZ E.P μ φ m f ρ→ae E.P μ φ len yl→ae E.P μ φ cap yc→∃w' y φ',(Instr.makeSlice t yl yc).run E.P w=.ok y w'∧av E.P G w0 μ φ' m' w'∧bZ E.P μ φ' m' f' ρ∧ae E.P μ φ' (.os site) y:=by
 unfold qj at h;split at h
 ·rename_i e ql n qc c hu;split at h
  ·rename_i z hz;split at h
   ·rename_i hb;obtain⟨f',m',_,hk,vl,xf,vi⟩:=ei h;refine⟨f',m',.arr (aP E.P e) e (List.replicate n.toNat z),fun hd=>?_,hk,by simp[vl],fun G w0 μ φ w ρ yl yc hM hF hl hc=>?_⟩
    ·obtain⟨d1,d2,d3⟩:=xf hd;refine⟨d1,d2,d3,fun f2 m2 cq R' k'=>?_⟩;simp only[qj,hu,hz];rw[if_pos hb];simp[fresh,cq]
    ·obtain⟨i,zv,h1,h2,h3,_,h4⟩:=AJ hz;obtain⟨Y3,_⟩:=Gc h1;have YV:c.toNat≤140737488355328:=by have:c.toNat*1≤c.toNat*Fi E.P e:=Nat.mul_le_mul_left _ hb.2.2.2.1;have:=hb.2.2.1;simp only[an]at this;omega
     cases hl with
     |pv hl=>cases hl with
      |int wl=>
       cases hc with
       |pv hc=>cases hc with
        |int wc=>
         have aae:(i.bytes:Int)*c≤281474976710656:=by
          have h5:=hb.2.2.1;simp only[an]at h5;have h6:((c.toNat*Fi E.P e:Nat):Int)≤140737488355328:=by omega
          rw[Int.natCast_mul,Int.toNat_of_nonneg (by omega)]at h6;rw[Y3,Int.mul_comm];omega
         have hr:=run_make (P:=E.P) w t e i zv hu h1 h2 ql qc n c hb.1 hb.2.1 aae (by omega);rw[h3]at hr;obtain⟨φ',a1,a2,a3⟩:=vi E.P G w0 μ φ w _ ρ (Ci (some w.heap.size) c.toNat (List.replicate n.toNat z).length (aP E.P e)) hM hF (kF.alloc (o:=.cells (madeCells zv.cells (c.toNat*aP E.P e)) e) hM rfl (fun φ' hp _=>aF.ov (g:=w.heap.size) (by rw[hp]) rfl hb.2.2.2.2 (by rw[hp];simp only[maxLen];omega) (fA w _) (by rw[hp];simp[size_madeCells]) (by rw[hp];simp;omega) (Cells.made (h4 μ) hb.2.2.2.2 _ _ (by omega))) (by simp[bE.names]));refine⟨_,_,φ',hr,a2,a3,?_⟩;have:=ae.os (P:=E.P) (μ:=μ) (φ:=φ') (id:=site) (g:=w.heap.size) (by rw[a1]);rw[a1]at this;simpa using this
   ·cases h
  ·cases h
 ·cases h
theorem Me(cells:Array Value)(n:Nat):Builtin.zeroCells cells n=madeCells cells (n*cells.size):=rfl
theorem RG{x:V}{m:Mem}{k:V→Mem→bk→Option R}{r:R}(h:C5 E t x m k=some r):∃id b,(∀m2:Mem,m2 id=m id→∀(R':Type)(k':V→Mem→bk→Option R'),C5 E t x m2 k'=k' .top (ak m2 id b) [(true,id)])∧k .top (ak m id b) [(true,id)]=some r∧∀(G:Nat→Option (List PV))(w0:br)(μ:Ro)(φ:Nat→aA)(w:World)(ρ:Nat→Value)(f:Fr)(yx:Value)(ts:List TypeId)(ty:TypeId),av E.P G w0 μ φ m w→bZ E.P μ φ m f ρ→ae E.P μ φ x yx→∃w',(Builtin.clear_ (t::ts).toArray ty #[yx]).run E.P w=.ok (.tuple #[]) w'∧av E.P G w0 μ φ (ak m id b) w'∧bZ E.P μ φ (ak m id b) f ρ:=by
 unfold C5 at h;split at h
 ·rename_i e hu;split at h
  ·rename_i id lo len z hz;split at h
   ·rename_i sz et es hm;split at h
    ·rename_i hc;obtain⟨l0,rfl,hle,ec⟩:=hc;refine⟨id,_,fun m2 cq R' k'=>?_,h,fun G w0 μ φ w ρ f yx ts ty hM hF hx=>?_⟩
     ·simp only[C5,hu,hz,cq,hm];rw[if_pos ⟨l0,trivial,hle,ec⟩]
     ·obtain⟨i,zv,h1,h2,h3,h4,h5⟩:=AJ hz;have hA:aF E.P μ φ w id sz et es:=hM.dy id _ hm;have Y6:len=0→ak m id (.arr sz et (es.take lo++(List.replicate len z++es.drop (lo+len))))=m:=by
       intro h0;subst h0;rw[List.replicate_zero,List.nil_append,Nat.add_zero,List.take_append_drop];funext j;by_cases ej:j=id
       ·subst ej;simp[hm]
       ·rw[al ej]
      cases hx with
      |qn hg=>rw[Y6 rfl];exact⟨w,by simp[Builtin.clear_,run_underlying hu],hM,hF⟩
      | @fH _ _ _ cap g a hg hl ha YV Rv=>
       by_cases h0:len=0
       ·rw[Y6 h0];subst h0;exact⟨w,by simp[Builtin.clear_,run_underlying hu],hM,hF⟩
       ·have oR:=hA.ot;have Hx:=hA.1;have afe:=hA.2.1;have abG:a=⟨g,lo*sz,none⟩:=by
         rcases ha with ha|⟨ha,_⟩
         ·rw[ha,afe]
         ·omega
        subst abG;obtain⟨c,T,c1,c2,c3,c4,c5⟩:=hA.cells hg;have Jt:zv.cells.size=sz:=by rw[(h5 μ).size,l0]
        have hn:len*zv.cells.size=len*sz:=by rw[Jt]
        have hlen:(madeCells zv.cells (len*sz)).toList.length=len*sz:=by simp[size_madeCells]
        have WE:(lo+len)*sz≤es.length*sz:=Nat.mul_le_mul_right _ hle;have rV:(lo+len)*sz=lo*sz+len*sz:=Nat.add_mul _ _ _;have ta:=Cells.made (P:=E.P) (μ:=μ) (by rw[←l0]at h5;exact h5 μ) (by rw[l0];exact ec) len len (Nat.le_refl _);have sX:∀v∈(madeCells zv.cells (len*sz)).toList,v.oneCell'=true:=fun v hv=>by obtain⟨j,hj⟩:=List.getElem?_of_mem hv;refine ta.one j v ?_;rw[List.length_replicate,List.take_of_length_le (by rw[hlen];exact Nat.le_refl _)];exact hj
        have oQ:=run_storeCells_at E.P g (lo*sz) T (madeCells zv.cells (len*sz)).toList 0 c w c1 (by rw[hlen];omega) sX;rw[hlen,Nat.add_zero]at oQ;have hnl:(es.take lo++(List.replicate len z++es.drop (lo+len))).length=es.length:=by simp;omega
        refine⟨w.setRow g (c.toList.take (lo*sz)++(madeCells zv.cells (len*sz)).toList++c.toList.drop (lo*sz+len*sz)).toArray,?_,hM.write hm rfl hg (kG.setRow (Nat.le_refl _)) setRow_size (fun k hk=>ca hk) ?_ rfl (by simp[bE.names]),hF.ml (fun _ _ h=>h) .set⟩
        ·obtain⟨n',rfl⟩:∃n',len=n'+1:=⟨len-1,by omega⟩;simp[Builtin.clear_,run_underlying hu,nZ h1 h2,Me,Jt,oQ]
        ·refine aF.ov (g:=g) ?_ hA.2.2.1 hA.2.2.2.1 oR.2 (setRow_heap w g c _ T (0,0) c1) ?_ (by rw[hnl];exact c3) ?_
         ·rw[hnl,←hA.1,←hA.2.1];cases hq:(φ id).toBE with
          |mk a b c d=>rw[hq]at hg;simp only at hg;simp[hg]
         ·simp only[List.size_toArray,List.length_append,List.length_take,hlen,List.length_drop,Array.length_toList];omega
         ·rw[hnl];have hM2:Cells E.P μ sz (List.replicate len z) (madeCells zv.cells (len*sz)).toList:=by rw[List.length_replicate,List.take_of_length_le (by rw[hlen];exact Nat.le_refl _)]at ta;exact ta
          have hX:=(c5.take lo).append (hM2.append (c5.drop (lo+len)));have e1:(c.toList.take (lo*sz)++(madeCells zv.cells (len*sz)).toList++c.toList.drop (lo*sz+len*sz)).take (es.length*sz)=(c.toList.take (es.length*sz)).take (lo*sz)++((madeCells zv.cells (len*sz)).toList++(c.toList.take (es.length*sz)).drop ((lo+len)*sz)):=by
           have l1:(c.toList.take (lo*sz)).length=lo*sz:=by rw[List.length_take,Array.length_toList];omega
           have l2:(c.toList.take (lo*sz)++(madeCells zv.cells (len*sz)).toList).length=lo*sz+len*sz:=by rw[List.length_append,l1,hlen]
           rw[List.take_append,l2,List.take_of_length_le (by rw[l2];omega),List.take_take,Nat.min_eq_left (by omega),List.drop_take,rV,List.append_assoc]
          rw[e1];exact hX
    ·cases h
   ·cases h
  ·cases h
 ·cases h
theorem BL(off:Nat):∀(l:List Value)(k:Nat)(c:Array Value),off+k+l.length≤c.size→(l.zipIdx k).foldl (fun cs(x:Value×Nat)=>cs.setIfInBounds (off+x.2) x.1) c=(bH c.toList (off+k) l).toArray
 |[],k,c,_=>by simp[dz]
 |v::r,k,c,h=>by simp only[List.zipIdx_cons,List.foldl_cons];rw[BL off r (k+1) _ (by simp at h⊢;omega)];congr 1;have e:=list_seg_step c.toList (off+k) v r (by simp at h⊢;omega);simp only[dz,Array.toList_setIfInBounds,←Nat.add_assoc];rw[e];simp
theorem wT{place:Nat→Option (Nat×Nat)}{c:Array Value}{i off size:Nat}{v:Value}{rest:List (Nat×Value)}(hp:place i=some (off,size))(hv:v.cells.size=size)(hb:off+size≤c.size):Instr.fill place c ((i,v)::rest)=Instr.fill place (bH c.toList off v.cells.toList).toArray rest:=by
 have h1:v.cells.zipIdx.foldl (fun cs(x:Value×Nat)=>cs.setIfInBounds (off+x.2) x.1) c=(bH c.toList off v.cells.toList).toArray:=by rw[←Array.foldl_toList,Array.toList_zipIdx];exact BL off v.cells.toList 0 c (by simp;omega)
 simp only[Instr.fill,hp];rw[if_neg (by simp[hv];omega)];rw[←h1]
theorem DA{place:Nat→Option (Nat×Nat)}:∀{parts:List (Nat×V)}{cs L8:List V},FK place cs parts=some L8→(∀id,cm id L8=true→cm id cs=true∨cm id (parts.map (·.2))=true)∧L8.length=cs.length∧∀(P:Program)(μ:Ro)(φ:Nat→aA)(c:Array Value)(db:List (Nat×Value)),db.length=parts.length→(∀(j i:Nat)v,parts[j]?=some (i,v)→∃y,db[j]?=some (i,y)∧ae P μ φ v y)→c.size=cs.length→(∀(i:Nat)u y,cs[i]?=some u→c[i]?=some y→ae P μ φ u y)→(∀(i:Nat)(y:Value),c[i]?=some y→y.oneCell'=true)→∃c',Instr.fill place c db=some c'∧c'.size=L8.length∧(∀(i:Nat)u y,L8[i]?=some u→c'[i]?=some y→ae P μ φ u y)∧(∀(i:Nat)(y:Value),c'[i]?=some y→y.oneCell'=true)
 |[],cs,L8,h=>by simp only[FK,Option.some.injEq]at h;subst h;refine⟨fun id hid=>.inl hid,rfl,fun P μ φ c db hl _ hs hr h1=>?_⟩;have:db=[]:=List.eq_nil_of_length_eq_zero (by simpa using hl);subst this;exact⟨c,rfl,hs,hr,h1⟩
 |(i,v)::rest,cs,L8,h=>by
  simp only[FK]at h;split at h
  ·rename_i off size hp;split at h
   ·rename_i new hn;split at h
    ·rename_i hb;obtain⟨n1,n2,n3⟩:=toCells_ok hn;obtain⟨f1,f2,f3⟩:=DA h;have hlen:(bH cs off new).length=cs.length:=ck (by omega);refine⟨fun id hid=>?_,by rw[f2,hlen],fun P μ φ c db hl nf hs hr h1=>?_⟩
     ·rcases f1 id hid with h|h
      ·obtain⟨u,hu,hh⟩:=cL.1 h;simp only[dz,List.mem_append]at hu;rcases hu with(hu|hu)|hu
       ·exact .inl (bI (List.mem_of_mem_take hu) hh)
       ·exact .inr (by simp only[List.map_cons,cm,Bool.or_eq_true];exact .inl (n2 id (bI hu hh)))
       ·exact .inl (bI (List.mem_of_mem_drop hu) hh)
      ·exact .inr (by simp only[List.map_cons,cm,Bool.or_eq_true];exact .inr h)
     ·obtain⟨y,hy,Xf⟩:=nf 0 i v (by simp);cases db with
      |nil=>simp at hl
      |cons a mc=>
       simp at hy;subst hy;obtain⟨x1,x2,x3⟩:=n3 P μ φ y Xf;rw[wT hp x1 (by omega)];have ou:off+y.cells.toList.length≤c.toList.length:=by simp;omega
       have e1:y.cells.toList.length=new.length:=by simp;omega
       refine f3 P μ φ _ mc (by simpa using hl) (fun j i' v' hj=>?_) ?_ (fun j u z hu hz=>?_) (fun j z hz=>?_)
       ·have:=nf (j+1) i' v' (by simpa using hj);simpa using this
       ·simp only[List.size_toArray];rw[ck ou,hlen];simp[hs]
       ·rw[List.getElem?_toArray]at hz;rcases da ou hz with⟨b1,b2,b3⟩|⟨b1,b2⟩<;>rcases da (by omega) hu with⟨d1,d2,d3⟩|⟨d1,d2⟩
        ·exact x2 _ u z d3 (by simpa using b3)
        ·exfalso;omega
        ·exfalso;omega
        ·exact hr j u z d2 (by simpa using b2)
       ·rw[List.getElem?_toArray]at hz;rcases da ou hz with⟨b1,b2,b3⟩|⟨b1,b2⟩
        ·exact x3 _ z (by simpa using b3)
        ·exact h1 j z (by simpa using b2)
    ·cases h
   ·cases h
  ·cases h
theorem DB:∀{fs:List Field},fs.all (fun f=>(E.P.info? f.type).isSome)=true→fs.mapM (fun f=>(E.P.info? f.type).map fun i=>(f.offset,i.size))=some (fs.map fun f=>(f.offset,aP E.P f.type))
 |[],_=>rfl
 |f::r,h=>by simp only[List.all_cons,Bool.and_eq_true]at h;obtain⟨i,hi⟩:=Option.isSome_iff_exists.1 h.1;simp only[List.mapM_cons,hi,Option.map_some,DB h.2,List.map_cons];simp[aP,hi]
theorem RH{parts:List (Nat×V)}{k:V→Option R}{r:R}(h:Aw E t parts k=some r):∃v,(∀(R':Type)(k':V→Option R'),Aw E t parts k'=k' v)∧k v=some r∧(∀id,v.has id=true→cm id (parts.map (·.2))=true)∧∀(μ:Ro)(φ:Nat→aA)(w:World)(db:Array (Nat×Value)),db.size=parts.length→(∀(j i:Nat)v,parts[j]?=some (i,v)→∃y,db[j]?=some (i,y)∧ae E.P μ φ v y)→∃z,(Instr.build t db).run E.P w=.ok z w∧ae E.P μ φ v z:=by
 unfold Aw at h;split at h
 ·rename_i z fs hz hu;split at h
  ·rename_i Cn;split at h
   ·rename_i cs hf;obtain⟨i,zv,h1,h2,h3,h4,h5,h6,h7,h8⟩:=eE hz;obtain⟨f1,f2,f3⟩:=DA hf;refine⟨_,fun R' k'=>by simp only[Aw,hz,hu,hf];rw[if_pos Cn],h,fun id hid=>?_,fun μ φ w db hl hp=>?_⟩
    ·simp only[V.has]at hid;exact(f1 id hid).resolve_left (by rw[h6];simp)
    ·obtain⟨c',c1,c2,c3,c4⟩:=f3 E.P μ φ zv.cells db.toList (by simpa using hl) (fun j i v hj=>by simpa using hp j i v hj) (by omega) (h7 μ φ) h8;refine⟨_,run_build w t db c' ?_,.agg c2.symm c3 c4⟩;simp only[Program.built,h1,hu,h2,DB Cn];rw[←c1];congr 1;funext j;simp[placesOf]
   ·cases h
  ·cases h
 ·rename_i z n e hz hu;split at h
  ·rename_i ec;split at h
   ·rename_i cs hf;obtain⟨i,zv,h1,h2,h3,h4,h5,h6,h7,h8⟩:=eE hz;obtain⟨f1,f2,f3⟩:=DA hf;refine⟨_,fun R' k'=>by simp only[Aw,hz,hu,hf];rw[if_pos ec],h,fun id hid=>?_,fun μ φ w db hl hp=>?_⟩
    ·simp only[V.has]at hid;exact(f1 id hid).resolve_left (by rw[h6];simp)
    ·obtain⟨c',c1,c2,c3,c4⟩:=f3 E.P μ φ zv.cells db.toList (by simpa using hl) (fun j i v hj=>by simpa using hp j i v hj) (by omega) (h7 μ φ) h8;obtain⟨ie,hie,hse⟩:=wO (P:=E.P) (t:=e) (by omega);refine⟨_,run_build w t db c' ?_,.agg c2.symm c3 c4⟩;simp only[Program.built,h1,hu,h2,hie,hse];exact c1
   ·cases h
  ·cases h
 ·cases h
theorem sq{n:Nat}{agg:Bool}:∀{parts:List (Nat×V)}{m m':Mem}{i:Nat}{ps:List PV},ep m n agg i parts=some (ps,m')→jW m m'∧ps.length=parts.length∧∀(P:Program)(G:Nat→Option (List PV))(w0:br)(μ:Ro)(φ:Nat→aA)(w:World)(db:List (Nat×Value))(es:List PV)(c:Array Value),av P G w0 μ φ m w→db.length=parts.length→(∀(j i:Nat)v,parts[j]?=some (i,v)→∃y,db[j]?=some (i,y)∧ae P μ φ v y)→es.length=i→c.size=(i+parts.length)*n→Cells P μ n es (c.toList.take (es.length*n))→∃μ' c',(∀b o,μ b=some o→μ' b=some o)∧av P G w0 μ' φ m' w∧Instr.fill (fun i=>some (i*n,n)) c db=some c'∧c'.size=(i+parts.length)*n∧Cells P μ' n (es++ps) c'.toList
 |[],m,m',i,ps,h=>by
  simp only[ep,Option.some.injEq,Prod.mk.injEq]at h;obtain⟨rfl,rfl⟩:=h;refine⟨.refl _,rfl,fun P G w0 μ φ w db es c hM hl _ he hc hC=>⟨μ,c,fun _ _ h=>h,hM,?_,hc,?_⟩⟩
  ·have:db=[]:=List.eq_nil_of_length_eq_zero (by simpa using hl);subst this;rfl
  ·rw[List.append_nil];rw[List.take_of_length_le (by simp at hc⊢;rw[hc,he];exact Nat.le_refl _)]at hC;exact hC
 |(j,v)::r,m,m',i,ps,h=>by
  simp only[ep]at h;split at h
  ·rename_i Hz;subst Hz;split at h
   ·rename_i p m1 hf;split at h
    ·rename_i RC m2 hr;simp only[Option.some.injEq,Prod.mk.injEq]at h;obtain⟨rfl,rfl⟩:=h;obtain⟨a1,a2⟩:=Dv hf;obtain⟨b1,b2,b3⟩:=sq hr;refine⟨a1.trans b1,by simp[b2],fun P G w0 μ φ w db es c hM hl hp he hc hC=>?_⟩;obtain⟨y,hy,Xf⟩:=hp 0 i v (by simp);cases db with
     |nil=>simp at hl
     |cons a mc=>
      simp at hy;subst hy;obtain⟨μ1,c1,c2,c3⟩:=a2 P G w0 μ φ w y hM Xf;have ou:i*n+n≤c.size:=by rw[hc];have:(i+1)*n≤(i+(r.length+1))*n:=Nat.mul_le_mul_right _ (by omega);rw[Nat.add_mul]at this;simp at this⊢;omega
      have Th:y.cells.toList.length=n:=by simpa using c3.size
      have P7:i*n+y.cells.toList.length≤c.toList.length:=by rw[Th];simpa using ou
      obtain⟨μ2,c',d1,d2,d3,d4,d5⟩:=b3 P G w0 μ1 φ w mc (es++[p]) (bH c.toList (i*n) y.cells.toList).toArray c2 (by simpa using hl) (fun j i' v' hj=>by
       obtain⟨z,Xg,hz2⟩:=hp (j+1) i' v' (by simpa using hj);exact⟨z,by simpa using Xg,hz2.xr c1⟩) (by simp[he]) (by
       simp only[List.size_toArray];rw[ck P7];simp only[Array.length_toList,hc,List.length_cons];congr 1;omega) (by
       have e1:((bH c.toList (i*n) y.cells.toList).toArray.toList.take ((es++[p]).length*n))=c.toList.take (es.length*n)++y.cells.toList:=by simp only[dz,List.length_append,List.length_singleton,he];exact List.take_left' (by rw[List.length_append,Th,List.length_take,Nat.min_eq_left (by simp;omega),Nat.add_mul,Nat.one_mul])
       rw[e1];refine(hC.mono c1).append ⟨by simp[Th],fun k e hk=>?_,fun k e l q z hk hl hz=>?_,fun k z hz=>c3.one k z (by simpa using hz)⟩
       ·cases k with
        |zero=>simp at hk;subst hk;exact c3.len
        |succ k=>simp at hk
       ·cases k with
        |zero=>simp at hk;subst hk;exact c3.rep l q z hl (by simpa using hz)
        |succ k=>simp at hk)
      refine⟨μ2,c',fun b o h=>d1 b o (c1 b o h),d2,?_,by rw[d4];simp only[List.length_cons];congr 1;omega,by simpa using d5⟩;rw[wT rfl c3.size ou];exact d3
    ·cases h
   ·cases h
  ·cases h
theorem Ge:∀{parts:List (Nat×V)}{i:Nat}{cs:List V},C3 i parts=some cs→cs.length=parts.length∧(∀id,cm id cs=true→cm id (parts.map Prod.snd)=true)∧∀(P:Program)(μ:Ro)(φ:Nat→aA)(db:List (Nat×Value))(c:Array Value),db.length=parts.length→(∀(j i:Nat)v,parts[j]?=some (i,v)→∃y,db[j]?=some (i,y)∧ae P μ φ v y)→c.size=i+parts.length→∃c',Instr.fill (fun i=>some (i*1,1)) c db=some c'∧c'.size=c.size∧(∀j,j<i→c'[j]?=c[j]?)∧∀j u,cs[j]?=some u→∃y,c'[i+j]?=some y∧ae P μ φ u y∧y.oneCell'=true
 |[],i,cs,h=>by simp only[C3,Option.some.injEq]at h;subst h;refine⟨rfl,by simp[cm],fun P μ φ db c hl _ hc=>⟨c,?_,rfl,fun _ _=>rfl,by simp⟩⟩;have:db=[]:=List.eq_nil_of_length_eq_zero (by simpa using hl);subst this;rfl
 |(j,v)::r,i,cs,h=>by
  simp only[C3]at h;split at h
  ·rename_i Hz;subst Hz;split at h
   ·rename_i us0 hf;split at h
    ·rename_i us hr;simp only[Option.some.injEq]at h;subst h;obtain⟨a1,a2,a3⟩:=toCells_ok hf;obtain⟨b1,b2,b3⟩:=Ge hr;refine⟨by simp[a1,b1];omega,fun id hid=>?_,fun P μ φ db c hl hp hc=>?_⟩
     ·obtain⟨u,hu,hh⟩:=cL.1 hid;rcases List.mem_append.1 hu with hu|hu
      ·simp only[List.map_cons,cm,Bool.or_eq_true];exact .inl (a2 id (bI hu hh))
      ·simp only[List.map_cons,cm,Bool.or_eq_true];exact .inr (b2 id (bI hu hh))
     ·obtain⟨y,hy,Xf⟩:=hp 0 i v (by simp);cases db with
      |nil=>simp at hl
      |cons a mc=>
       simp at hy;subst hy;obtain⟨c1,c2,c3⟩:=a3 P μ φ y Xf;have ou:i*1+1≤c.size:=by simp at hc;omega
       have Th:y.cells.toList.length=1:=by simpa using c1
       have P7:i*1+y.cells.toList.length≤c.toList.length:=by rw[Th];simpa using ou
       obtain⟨c',d1,d2,d3,d4⟩:=b3 P μ φ mc (bH c.toList (i*1) y.cells.toList).toArray (by simpa using hl) (fun j i' v' hj=>by
        obtain⟨z,Xg,hz2⟩:=hp (j+1) i' v' (by simpa using hj);exact⟨z,by simpa using Xg,hz2⟩) (by
        simp only[List.size_toArray];rw[ck P7];simp only[Array.length_toList,hc,List.length_cons];omega)
       have pT:∀k,(bH c.toList (i*1) y.cells.toList).toArray[k]?=if k=i then y.cells[0]? else c[k]?:=fun k=>by
        rw[List.getElem?_toArray];rw[dz];rw[List.append_assoc,List.getElem?_append,List.length_take,Nat.min_eq_left (by simp;omega),List.getElem?_append,Th];by_cases h1:k<i*1
        ·rw[if_pos h1,if_neg (by omega),List.getElem?_take_of_lt h1,Array.getElem?_toList]
        ·rw[if_neg h1];by_cases h2:k=i
         ·subst h2;rw[if_pos (by omega),if_pos rfl];simp
         ·rw[if_neg (by omega),if_neg h2,List.getElem?_drop,Array.getElem?_toList];congr 1;omega
       refine⟨c',?_,by rw[d2];simp only[List.size_toArray];rw[ck P7];simp,fun k hk=>?_,fun k u hu=>?_⟩
       ·rw[wT rfl c1 ou];exact d1
       ·rw[d3 k (by omega),pT,if_neg (by omega)]
       ·have h0:us0.length=1:=a1;rw[List.getElem?_append,h0]at hu;split at hu
        ·rename_i hk;have hk0:k=0:=by omega
         subst hk0;have h5:=d3 i (by omega);rw[pT,if_pos rfl]at h5;have bm:0<y.cells.size:=by omega
         have h6:y.cells[0]?=some y.cells[0]:=Array.getElem?_eq_getElem bm;rw[h6]at h5;exact⟨_,by simpa using h5,c2 0 u _ hu h6,c3 0 _ h6⟩
        ·rename_i hk;obtain⟨z,z1,z2,z3⟩:=d4 (k-1) u hu;exact⟨z,by rw[←z1];congr 1;omega,z2,z3⟩
    ·cases h
   ·cases h
  ·cases h
end
end Go.Ab
set_option linter.unusedVariables false
namespace Go.Ab
open Go.RowKit (Below)
section
variable {P:Program}
theorem il:∀(d:Nat)(t:TypeId)(ks:List Kd),Aj P d t=some ks→∀(D:Nat)(w:World)(em:Bool)(ps:List PV),lD ks ps=true→(Instr.checkKey em (D+d) t (eO P t ps)).run P w=.ok () w
 |0,t,ks,h,_,_,_,_,_=>by simp[Aj]at h
 |d+1,t,ks,h,D,w,em,ps,hp=>by
  have ih:=il d;unfold Aj at h;split at h
  ·rename_i q hu;simp only[Option.some.injEq]at h;subst h;have ha:ao P t=false:=by simp[ao,hu]
   obtain⟨p,rfl,Tk⟩:=mj hp;clear hp;cases p<;>simp[sR]at Tk;simp[eO,ha,valOf,←Nat.add_assoc,Instr.checkKey,run_underlying hu]
  ·rename_i hu;simp only[Option.some.injEq]at h;subst h;have ha:ao P t=false:=by simp[ao,hu]
   obtain⟨p,rfl,Tk⟩:=mj hp;clear hp;cases p<;>simp[sR]at Tk;simp[eO,ha,valOf,←Nat.add_assoc,Instr.checkKey,run_underlying hu]
  ·rename_i hu;simp only[Option.some.injEq]at h;subst h;have ha:ao P t=false:=by simp[ao,hu]
   obtain⟨p,rfl,Tk⟩:=mj hp;clear hp;cases p<;>simp[sR]at Tk;simp[eO,ha,valOf,←Nat.add_assoc,Instr.checkKey,run_underlying hu]
  ·rename_i fs hu;split at h
   ·cases h
   ·obtain⟨a,ha,h⟩:=Option.bind_eq_some_iff.1 h;split at h
    ·rename_i hlen;simp only[Option.some.injEq]at h;subst h;have LI:ao P t=true:=by simp[ao,hu]
     simp only[eO,LI,if_true,←Nat.add_assoc];rw[Instr.checkKey];simp only[Sem.run_bind,run_underlying hu,Result.andThen_ok];rw[←Array.forIn_toList];have key:∀(L:List Field)(off:Nat)(b:List Kd),qf (Aj P d) L off=some b→off≤ps.length→lD b (ps.drop off)=true→(forIn L PUnit.unit fun f(_:PUnit)=>(do
       if f.name≠ "_" then Instr.checkKey em (D+d) f.type (←part f.type (ps.map valOf).toArray f.offset)
       pure (ForInStep.yield PUnit.unit):Sem (ForInStep PUnit))).run P w=.ok PUnit.unit w:=by
      intro L;induction L with
      |nil=>intro off b _ _ _;simp
      |cons f L ihL=>
       intro off b hb o1 h1;simp only[qf]at hb;split at hb
       ·rename_i hf;obtain⟨c,hc,hb⟩:=Option.bind_eq_some_iff.1 hb;obtain⟨b',gB,hb⟩:=Option.bind_eq_some_iff.1 hb;simp only[Option.some.injEq]at hb;subst hb;rw[qq]at h1;have l1:=pK h1.1;simp only[List.length_take,List.length_drop]at l1;have p1:=ku (w:=w) (ps:=ps) (off:=off) hc (by omega);have p3:=ih f.type c hc D w em _ h1.1;have p4:=ihL (off+c.length) b' gB (by omega) (by rw[←List.drop_drop];exact h1.2);simp only[List.forIn_cons,hf.2,ne_eq,not_false_eq_true,if_true,Sem.run_bind,hf.1,p1,p3,Result.andThen_ok,Sem.run_pure];exact p4
       ·cases hb
     have:=key fs.toList 0 a ha (by simp) (by simpa using hp);simp at this;simp[this]
    ·cases h
  ·rename_i n e hu;obtain⟨a,ha,h⟩:=Option.bind_eq_some_iff.1 h;split at h
   ·rename_i hlen;simp only[Option.some.injEq]at h;subst h;have LI:ao P t=true:=by simp[ao,hu]
    obtain⟨_,_,de,hde⟩:=wQ ha;have l0:(sizeOf e).run P w=.ok a.length w:=by rw[hlen.1];exact BH hde
    simp only[eO,LI,if_true,←Nat.add_assoc];rw[Instr.checkKey];simp only[Sem.run_bind,run_underlying hu,Result.andThen_ok];simp only[Std.Legacy.Range.forIn_eq_forIn_range',Std.Legacy.Range.size,Nat.sub_zero,Nat.add_one_sub_one,Nat.div_one];have key:∀(k j:Nat),j*a.length≤ps.length→lD (qg a k) (ps.drop (j*a.length))=true→(forIn (List.range' j k) PUnit.unit fun i(_:PUnit)=>(do
      Instr.checkKey em (D+d) e (←part e (ps.map valOf).toArray (i*(←sizeOf e)))
      pure (ForInStep.yield PUnit.unit):Sem (ForInStep PUnit))).run P w=.ok PUnit.unit w:=by
     intro k;induction k with
     |zero=>intro j _ _;simp
     |succ k ihk=>
      intro j o1 h1;simp only[qg]at h1;rw[qq]at h1;have l1:=pK h1.1;simp only[List.length_take,List.length_drop]at l1;have p1:=ku (w:=w) (ps:=ps) (off:=j*a.length) ha (by omega);have p3:=ih e a ha D w em _ h1.1;have ej:(j+1)*a.length=j*a.length+a.length:=by rw[Nat.add_mul];omega
      have p4:=ihk (j+1) (by omega) (by rw[ej,←List.drop_drop];exact h1.2);rw[List.range'_succ];simp only[List.forIn_cons,Sem.run_bind,l0,p1,p3,Result.andThen_ok,Sem.run_pure];exact p4
    have:=key n 0 (by simp) (by simpa using hp);simp at this;simp[this]
   ·cases h
  ·cases h
variable{kt:TypeId}{ks:List Kd}
theorem lU{μ:Ro}{k:PV}{y:Value}(h:uS P kt ks k=true)(hy:af P μ k y):lD ks k.cells=true∧y=eO P kt k.cells:=by
 simp only[uS,Bool.and_eq_true,beq_iff_eq]at h;refine⟨h.1,?_⟩;cases hq:k.isAgg with
 |true=>
  cases k<;>simp[PV.isAgg]at hq;cases hy with
  |agg h1 h2 h3=>have:=sk h.1 h1.symm h2;rw[this];simp[eO,h.2,PV.isAgg,PV.cells]
 |false=>
  have hc:k.cells=[k]:=by cases k<;>first|rfl|(simp[PV.isAgg]at hq)
  have h1:=h.1;rw[hc]at h1;cases ks with
  |nil=>simp[lD]at h1
  |cons kd r=>simp only[lD,Bool.and_eq_true]at h1;have:=F3 h1.1 hy;simp[eO,h.2,hq,hc,this]
theorem HA:∀{ks:List Kd}{ps qs:List PV},lD ks ps=true→lD ks qs=true→dK ps qs=true→ps=qs
 |[],[],[],_,_,_=>rfl
 |k::ks,p::ps,q::qs,h1,h2,h3=>by
  simp only[lD,Bool.and_eq_true]at h1 h2;simp only[dK,Bool.and_eq_true]at h3;rw[HA h1.2 h2.2 h3.2];have:p=q:=by cases k<;>cases p<;>simp[sR]at h1<;>cases q<;>simp[sR]at h2<;>simp[peq]at h3<;>simp_all
  rw[this]
 |[],p::ps,_,h,_,_=>by simp[lD]at h
 |k::ks,[],_,h,_,_=>by simp[lD]at h
 |[],[],q::qs,_,h,_=>by simp[lD]at h
 |k::ks,p::ps,[],_,h,_=>by simp[lD]at h
structure vE(P:Program)(μ:Ro)(kt:TypeId)(ks:List Kd)(l:List (PV×PV))(es:List MapEntry):Prop where
 len:es.length=l.length
 key:∀(i:Nat)k v,l[i]?=some (k,v)→uS P kt ks k=true
 rep:∀(i:Nat)k v e,l[i]?=some (k,v)→es[i]?=some e→af P μ k e.key∧af P μ v e.val
variable{l:List (PV×PV)}{es:List MapEntry}
theorem vE.tail{μ:Ro}{x:PV×PV}{e:MapEntry}(h:vE P μ kt ks (x::l) (e::es)):vE P μ kt ks l es:=⟨by simpa using h.len,fun i k v hi=>h.key (i+1) k v (by simpa using hi),fun i k v e hi he=>h.rep (i+1) k v e (by simpa using hi) (by simpa using he)⟩
inductive Found(k v:PV)(z:PV)(l:List (PV×PV))(es:List MapEntry)(i:Nat):Option (Nat×Value)→Prop
 |none:vf k l=false→dH k z l=z→eS k v l=l++[(k,v)]→Found k v z l es i none
 |some {j:Nat} {a u:PV} {e:MapEntry}:l[j]?=some (a,u)→es[j]?=some e→dK k.cells a.cells=true→vf k l=true→dH k z l=u→eS k v l=l.set j (k,v)→Found k v z l es i (some (i+j,e.val))
theorem Found.cons{k v z:PV}{x:PV×PV}{l:List (PV×PV)}{e:MapEntry}{es:List MapEntry}{i:Nat}{r:Option (Nat×Value)}(hx:dK k.cells x.1.cells=false)(h:Found k v z l es (i+1) r):Found k v z (x::l) (e::es) i r:=by
 obtain⟨a,u⟩:=x;cases h with
 |none h1 h2 h3=>exact .none (by simpa[vf,hx]using h1) (by simpa[dH,hx]using h2) (by simpa[eS,hx]using h3)
 | @some j a' u' e' h1 h2 h3 h4 h5 h6=>have:=Found.some (k:=k) (v:=v) (z:=z) (l:=(a,u)::l) (es:=e::es) (i:=i) (j:=j+1) (a:=a') (u:=u') (e:=e') (by simpa using h1) (by simpa using h2) h3 (by simpa[vf,hx]using h4) (by simpa[dH,hx]using h5) (by simpa[eS,hx]using h6);rw[show i+1+j=i+(j+1) by omega];exact this
theorem Found.here{k v z:PV}{a u:PV}{e:MapEntry}{i:Nat}(hx:dK k.cells a.cells=true):Found k v z ((a,u)::l) (e::es) i (Option.some (i,e.val)):=by have:=Found.some (k:=k) (v:=v) (z:=z) (l:=(a,u)::l) (es:=e::es) (i:=i) (j:=0) (a:=a) (u:=u) (e:=e) (by simp) (by simp) hx (by simp[vf,hx]) (by simp[dH,hx]) (by simp[eS,hx]);simpa using this
theorem qy{μ:Ro}{kt:TypeId}{ks:List Kd}{k v z:PV}(hk:Aj P 8 kt=some ks)(BM:lD ks k.cells=true)(w:World):∀(l:List (PV×PV))(es:List MapEntry)(i:Nat),vE P μ kt ks l es→∃r,(Instr.findAsking kt (eO P kt k.cells) es i).run P w=.ok r w∧Found k v z l es i r
 |[],es,i,h=>by have:es=[]:=List.eq_nil_of_length_eq_zero (by simpa using h.len);subst this;exact⟨none,by simp[Instr.findAsking],.none rfl rfl rfl⟩
 |(a,u)::l,es,i,h=>by
  cases es with
  |nil=>have:=h.len;simp at this
  |cons e es=>
   have hka:=h.key 0 a u (by simp);obtain⟨h1,h2⟩:=lU hka (h.rep 0 a u e (by simp) (by simp)).1;have he:(Op.equal kt (eO P kt k.cells) e.key).run P w=.ok (dK k.cells a.cells) w:=by rw[h2];exact oS 8 kt ks hk 9992 w _ _ BM h1
   cases hp:dK k.cells a.cells with
   |true=>exact⟨some (i,e.val),by simp[Instr.findAsking,he,hp],.here hp⟩
   |false=>obtain⟨r,r1,r2⟩:=qy (v:=v) (z:=z) hk BM w l es (i+1) h.tail;exact⟨r,by simp[Instr.findAsking,he,hp,r1],r2.cons hp⟩
theorem BN{μ:Ro}{kt:TypeId}{d:TypeDesc}{ks:List Kd}{k v z:PV}(hu:P.underlying kt=some d)(ha:ao P kt=false)(hk:Aj P 8 kt=some ks)(BM:lD ks k.cells=true):∀(l:List (PV×PV))(es:List MapEntry)(i:Nat),vE P μ kt ks l es→∃r,Instr.findNow d (eO P kt k.cells) es i=some r∧Found k v z l es i r
 |[],es,i,h=>by have:es=[]:=List.eq_nil_of_length_eq_zero (by simpa using h.len);subst this;exact⟨none,by simp[Instr.findNow],.none rfl rfl rfl⟩
 |(a,u)::l,es,i,h=>by
  cases es with
  |nil=>have:=h.len;simp at this
  |cons e es=>
   have hka:=h.key 0 a u (by simp);obtain⟨h1,h2⟩:=lU hka (h.rep 0 a u e (by simp) (by simp)).1;have he:Instr.sameNow d (eO P kt k.cells) e.key=some (dK k.cells a.cells):=by
    rw[h2];have qz:=hk;unfold Aj at qz;rw[hu]at qz;cases d<;>simp at qz<;>try (simp[ao,hu]at ha;done)
    all_goals subst qz;obtain⟨p,hp1,hp2⟩:=mj BM;obtain⟨q,hq1,hq2⟩:=mj h1;rw[hp1,hq1];cases p<;>simp[sR]at hp2;cases q<;>simp[sR]at hq2;simp[eO,ha,valOf,Instr.sameNow,dK,peq,hp2,hq2]
    all_goals (rw[Bool.eq_iff_iff,Go.MapKept.bytes_beq];simp only[beq_iff_eq];exact⟨fun hh=>by have:=congrArg ByteArray.data hh;simpa using this,fun hh=>by rw[hh]⟩)
   cases hp:dK k.cells a.cells with
   |true=>exact⟨some (i,e.val),by simp[Instr.findNow,he,hp],.here hp⟩
   |false=>obtain⟨r,r1,r2⟩:=BN (v:=v) (z:=z) hu ha hk BM l es (i+1) h.tail;exact⟨r,by simp[Instr.findNow,he,hp,r1],r2.cons hp⟩
theorem lv{μ:Ro}{k v z:PV}(hk:Aj P 8 kt=some ks)(BM:lD ks k.cells=true)(w:World)(h:vE P μ kt ks l es):∃r,(Instr.findKey kt (eO P kt k.cells) es).run P w=.ok r w∧Found k v z l es 0 r:=by
 obtain⟨_,_,d,hu⟩:=wQ hk;cases ha:ao P kt with
 |true=>rw[run_findKey_eq w (by unfold ao at ha;rw[hu]at ha⊢;cases d<;>simp_all)];exact qy hk BM w l es 0 h
 |false=>obtain⟨r,r1,r2⟩:=BN (v:=v) (z:=z) hu ha hk BM l es 0 h;exact⟨r,Go.MapKept.run_findKey hu r1,r2⟩
end
end Go.Ab
set_option linter.unusedVariables false
namespace Go.Ab
open Go.RowKit (Below)
section
variable {R:Type} {E:Env}
variable{P:Program}{t:TypeId}{ks:List Kd}
theorem wU(h:rR P t=some ks):Aj P 8 t=some ks:=by
 unfold rR at h;split at h
 ·cases h
 ·exact h
variable{kt:TypeId}
theorem tb{v:V}{key:PV}(h:keyOf E kt v=some key):∃ks,rR E.P kt=some ks∧uS E.P kt ks key=true∧∀(μ:Ro)(φ:Nat→aA)(y:Value),ae E.P μ φ v y→af E.P μ key y:=by
 unfold keyOf at h;split at h
 ·rename_i ks TN;refine⟨ks,TN,?_⟩;split at h
  ·rename_i ha;split at h
   ·rename_i cs hc;split at h
    ·rename_i ps hp;split at h
     ·rename_i Fc;simp only[Option.some.injEq]at h;subst h;obtain⟨_,c2⟩:=oq hc;obtain⟨p1,p2⟩:=gV hp;refine⟨by simp[uS,PV.cells,Fc,ha,PV.isAgg],fun μ φ y hy=>?_⟩;obtain⟨xs,rfl,h1,h2,h3⟩:=c2 E.P μ φ y hy;refine .agg (by omega) (fun i q z hq hz=>?_) h3;obtain⟨u,hu,hf⟩:=p2 i q hq;exact sY 1 hf (h2 i u z hu hz)
     ·cases h
    ·cases h
   ·cases h
  ·rename_i ha;split at h
   ·rename_i p;split at h
    ·rename_i Fc;simp only[Option.some.injEq]at h;subst h;refine⟨?_,fun μ φ y hy=>by cases hy with|pv hy=>exact hy⟩;cases ks with
     |nil=>simp[lD]at Fc
     |cons kd r=>
      have abH:=Fc;simp only[lD,Bool.and_eq_true]at abH;have YU:ao E.P kt=false:=by simpa using ha
      cases kd<;>cases p<;>simp[sR]at abH<;>simp_all[uS,PV.cells,PV.isAgg]
    ·cases h
   ·cases h
 ·cases h
variable{en:Array MapEntry}
theorem lE.push{clock:Nat}(h:lE en clock){k v:Value}:lE (en.push {key:=k,val:=v,born:=clock}) (clock+1):=by
 intro i e hi;rw[Array.getElem?_push]at hi;split at hi
 ·rename_i e1;simp only[Option.some.injEq]at hi;subst hi;refine⟨Nat.lt_succ_self _,fun j e' hj hb=>?_⟩;rw[Array.getElem?_push]at hj;split at hj
  ·rename_i e2;omega
  ·have:=(h j e' hj).1;simp only at hb;omega
 ·obtain⟨h1,h2⟩:=h i e hi;refine⟨by omega,fun j e' hj hb=>?_⟩;rw[Array.getElem?_push]at hj;split at hj
  ·simp only[Option.some.injEq]at hj;subst hj;simp only at hb;omega
  ·exact h2 j e' hj hb
theorem lE.modify{en:Array MapEntry}{clock:Nat}(h:lE en clock)(f:MapEntry→MapEntry)(hf:∀e,(f e).born=e.born)(k:Nat):lE (en.modify k f) clock:=by
 have key:∀(i:Nat)e,(en.modify k f)[i]?=some e→∃e0,en[i]?=some e0∧e.born=e0.born:=fun i e hi=>by
  rw[Array.getElem?_modify]at hi;split at hi
  ·obtain⟨e0,h0,rfl⟩:=Option.map_eq_some_iff.1 hi;exact⟨e0,h0,hf e0⟩
  ·exact⟨e,hi,rfl⟩
 intro i e hi;obtain⟨e0,h0,hb0⟩:=key i e hi;obtain⟨h1,h2⟩:=h i e0 h0;refine⟨by omega,fun j e' hj hb=>?_⟩;obtain⟨e1,h3,WE⟩:=key j e' hj;exact h2 j e1 h3 (by omega)
inductive T3(w:World):Value→Array MapEntry→Prop
 |nil:T3 w (.map none) #[]
 |at{g clock:Nat} {en:Array MapEntry}:w.heap[g]?=some (.map en clock)→T3 w (.map (some g)) en
theorem qA{μ:Ro}{et:TypeId}{key z:PV}{zv y yi:Value}{w:World}{l:List (PV×PV)}{ok:Bool}(hu:P.underlying t=some (.map kt et))(hk:rR P kt=some ks)(tc:uS P kt ks key=true)(hyi:af P μ key yi)(hy:T3 w y en)(hE:vE P μ kt ks l en.toList)(hz:(zeroValue et).run P w=.ok zv w)(hzr:af P μ z zv):∃v,(Instr.lookup t y yi ok).run P w=.ok (if ok then .tuple #[v,.bool (vf key l)]else v) w∧af P μ (dH key z l) v:=by
 have RI:=wU hk;obtain⟨hc,hv⟩:=lU tc hyi;obtain⟨r,r1,r2⟩:=lv (v:=.bad) (z:=z) RI hc w hE;have h1:=il 8 kt ks RI 9992 w en.isEmpty key.cells hc;rw[hv];have nu:∀(x:Value×Bool),(r=none→x=(zv,false))→(∀j v,r=some (j,v)→x=(v,true))→(Instr.lookup t y (eO P kt key.cells) ok).run P w=.ok (if ok then .tuple #[x.1,.bool x.2]else x.1) w:=by
  intro x hx1 hx2;cases hy with
  |nil=>
   have P8:(Instr.checkKey true 10000 kt (eO P kt key.cells)).run P w=.ok () w:=h1;have r1':(Instr.findKey kt (eO P kt key.cells) []).run P w=.ok r w:=r1;unfold Instr.lookup;simp only[Sem.run_bind,run_underlying hu,Result.andThen_ok,Sem.run_pure];cases r with
   |none=>rw[hx1 rfl];cases ok<;>simp[P8,r1',hz]
   |some jv=>obtain⟨j,v⟩:=jv;rw[hx2 j v rfl];cases ok<;>simp[P8,r1']
  | «at» hg=>
   have Cl:=Go.MapKept.run_getObj_map (P:=P) hg;have P8:(Instr.checkKey en.isEmpty 10000 kt (eO P kt key.cells)).run P w=.ok () w:=h1;unfold Instr.lookup;simp only[Sem.run_bind,run_underlying hu,Result.andThen_ok,Sem.run_pure,Cl];cases r with
   |none=>rw[hx1 rfl];cases ok<;>simp[P8,r1,hz]
   |some jv=>obtain⟨j,v⟩:=jv;rw[hx2 j v rfl];cases ok<;>simp[P8,r1]
 cases r2 with
 |none f1 f2 f3=>refine⟨zv,?_,by rw[f2];exact hzr⟩;rw[f1];exact nu (zv,false) (fun _=>rfl) (fun j v h=>by cases h)
 | @some j a u e f1 f2 f3 f4 f5 f6=>refine⟨e.val,?_,by rw[f5];exact(hE.rep j a u e f1 f2).2⟩;rw[f4];exact nu (e.val,true) (fun h=>by cases h) (fun j' v h=>by simp only[Option.some.injEq,Prod.mk.injEq]at h;rw[h.2])
variable{m:Mem}
theorem Mf{x ix:V}{ok:Bool}{k:V→bk→Option R}{r:R}(h:tT E t x ix ok m k=some r):∃v ft,(∀m2:Mem,(∀x∈ft,m2 x.2=m x.2)→∀(R':Type)(k':V→bk→Option R'),tT E t x ix ok m2 k'=k' v ft)∧k v ft=some r∧(∀x∈ft,x.1=false)∧(∀id,v.has id=false)∧∀(G:Nat→Option (List PV))(w0:br)(μ:Ro)(φ:Nat→aA)(w:World)(y yi:Value),av E.P G w0 μ φ m w→ae E.P μ φ x y→ae E.P μ φ ix yi→∃u,(Instr.lookup t y yi ok).run E.P w=.ok u w∧ae E.P μ φ v u:=by
 have out:∀(q:PV)(b:Bool)(id:Nat),(if ok=true then V.bt [.pv q,.pv (.bool b)]else .pv q).has id=false:=by intro q b id;cases ok<;>simp[V.has,cm]
 have rep:∀(μ:Ro)(φ:Nat→aA)(q:PV)(b:Bool)(v:Value),af E.P μ q v→ae E.P μ φ (if ok=true then V.bt [.pv q,.pv (.bool b)]else .pv q) (if ok=true then .tuple #[v,.bool b]else v):=by
  intro μ φ q b v hv;cases ok with
  |false=>exact .pv hv
  |true=>
   refine .bt (by simp) fun i p y hp hy=>?_;match i with
   |0=>simp at hp hy;subst hp;subst hy;exact .pv hv
   |1=>simp at hp hy;subst hp;subst hy;exact .pv .bool
   |n+2=>simp at hp
 unfold tT at h;split at h
 ·rename_i kt et hu;split at h
  ·rename_i z hz;obtain⟨zv,Xg,hz2⟩:=Md hz;split at h
   ·rename_i id;split at h
    ·rename_i vh es hm;split at h
     ·rename_i hkt;subst hkt;obtain⟨key,tc,h⟩:=Option.bind_eq_some_iff.1 h;obtain⟨q,q1,q2,q3,_⟩:=lq h;obtain⟨ks,k1,k2,k3⟩:=tb tc;refine⟨_,_,fun m2 cq R' k'=>by have:=cq (false,id) (by simp);simp only at this;simp only[tT,hu,hz,this,hm,tc,Option.bind_some,if_true];exact q1 R' _,q2,by simp,out q _,fun G w0 μ φ w y yi hM hx hi=>?_⟩;obtain⟨g,en,clock,kk,hg,hh,hs,hk,Fc,_,hv⟩:=hM.dy id _ hm;rw[k1]at hk;simp only[Option.some.injEq]at hk;subst hk;cases hx with
      |om bP=>rw[hg]at bP;simp only[Option.some.injEq]at bP;subst bP;obtain⟨v,v1,v2⟩:=qA (ok:=ok) (z:=z) hu k1 k2 (k3 μ φ yi hi) (.at hh) (l:=es) ⟨by simpa using hs,Fc,fun i k v e h1 h2=>hv i k v e h1 (by simpa using h2)⟩ (Xg w) (hz2 μ);exact⟨_,v1,rep μ φ q _ v (q3 _ _ _ v2)⟩
     ·cases h
    ·cases h
   ·rename_i pm;unfold dP at h;split at h
    ·obtain⟨key,tc,h⟩:=Option.bind_eq_some_iff.1 h;obtain⟨ks,k1,k2,k3⟩:=tb tc;refine⟨_,_,fun m2 cq R' k'=>by simp only[tT,hu,hz,dP,tc,Option.bind_some],h,by simp,out z _,fun G w0 μ φ w y yi hM hx hi=>?_⟩;cases hx with
     |pv hx=>cases hx with
      |ve=>obtain⟨v,v1,v2⟩:=qA (ok:=ok) (z:=z) hu k1 k2 (k3 μ φ yi hi) .nil (l:=[]) ⟨by simp,by simp,by simp⟩ (Xg w) (hz2 μ);exact⟨_,v1,rep μ φ z _ v v2⟩
    ·rename_i vh ks' vs';split at h
     ·rename_i hkt;subst hkt;obtain⟨key,tc,h⟩:=Option.bind_eq_some_iff.1 h;obtain⟨q,q1,q2,q3,_⟩:=lq h;obtain⟨ks,k1,k2,k3⟩:=tb tc;refine⟨_,_,fun m2 cq R' k'=>by simp only[tT,hu,hz,dP,tc,Option.bind_some,if_true];exact q1 R' _,q2,by simp,out q _,fun G w0 μ φ w y yi hM hx hi=>?_⟩;cases hx with
      |pv hx=>cases hx with
       | @rm _ _ _ b clock en kk m1 m2 m3 m4 m5 m6 m7=>
        rw[k1]at m4;simp only[Option.some.injEq]at m4;subst m4;have aaf:∀(i:Nat)k v,(ks'.zip vs')[i]?=some (k,v)→ks'[i]?=some k∧vs'[i]?=some v:=fun i k v h=>by rw[List.getElem?_zip_eq_some]at h;exact h
        obtain⟨v,v1,v2⟩:=qA (ok:=ok) (z:=z) hu k1 k2 (k3 μ φ yi hi) (.at (hM.ro _ _ m1)) (l:=ks'.zip vs') ⟨by simp[m2,m3],fun i k v h=>m5 i k (aaf i k v h).1,fun i k v e h1 h2=>⟨m6 i k e (aaf i k v h1).1 (by simpa using h2),m7 i v e (aaf i k v h1).2 (by simpa using h2)⟩⟩ (Xg w) (hz2 μ);exact⟨_,v1,rep μ φ q _ v (q3 _ _ _ v2)⟩
     ·cases h
    ·cases h
   ·cases h
  ·cases h
 ·cases h
variable{m':Mem}
theorem Gf{v:V}{p:PV}(h:tQ m v=some (p,m')):jW m m'∧∀(P:Program)(G:Nat→Option (List PV))(w0:br)(μ:Ro)(φ:Nat→aA)(w:World)(x:Value),av P G w0 μ φ m w→ae P μ φ v x→∃μ',(∀b o,μ b=some o→μ' b=some o)∧av P G w0 μ' φ m' w∧af P μ' p x:=by
 unfold tQ at h;split at h
 ·rename_i cs;split at h
  ·rename_i ps m1 hf;simp only[Option.some.injEq,Prod.mk.injEq]at h;obtain⟨rfl,rfl⟩:=h;obtain⟨f1,f2,f3⟩:=Du hf;refine⟨f1,fun P G w0 μ φ w x hM hx=>?_⟩;cases hx with
   | @agg _ xs h1 h2 h3=>
    have hX:∀(i:Nat),i<cs.length→xs[i]?=some (xs.getD i undef):=fun i hi=>by
     have bm:i<xs.size:=by omega
     rw[Array.getElem?_eq_getElem bm];simp[Array.getD,bm]
    obtain⟨μ',e1,e2,e3⟩:=f3 P G w0 μ φ w (fun i=>xs.getD i undef) hM fun i u hu=>h2 i u _ hu (hX i (List.getElem?_eq_some_iff.1 hu).1);refine⟨μ',e1,e2,.agg (by omega) (fun j q y hq hy=>?_) h3⟩;have:=e3 j q hq;rw[hX j (by have:=(List.getElem?_eq_some_iff.1 hq).1;omega)]at hy;simp only[Option.some.injEq]at hy;subst hy;exact this
  ·cases h
 ·exact P5 h
theorem BO{v:V}{p:PV}(h:tQ cW v=some (p,m')):∀(P:Program)(μ:Ro)(φ:Nat→aA)(x:Value),ae P μ φ v x→af P μ p x:=by
 unfold tQ at h;split at h
 ·rename_i cs;split at h
  ·rename_i ps m1 hf;simp only[Option.some.injEq,Prod.mk.injEq]at h;obtain⟨rfl,rfl⟩:=h;obtain⟨f2,f3⟩:=yf hf;intro P μ φ x hx;cases hx with
   | @agg _ xs h1 h2 h3=>
    have hX:∀(i:Nat),i<cs.length→xs[i]?=some (xs.getD i undef):=fun i hi=>by
     have bm:i<xs.size:=by omega
     rw[Array.getElem?_eq_getElem bm];simp[Array.getD,bm]
    have e3:=f3 P μ φ (fun i=>xs.getD i undef) fun i u hu=>h2 i u _ hu (hX i (List.getElem?_eq_some_iff.1 hu).1);refine .agg (by omega) (fun j q y hq hy=>?_) h3;have:=e3 j q hq;rw[hX j (by have:=(List.getElem?_eq_some_iff.1 hq).1;omega)]at hy;simp only[Option.some.injEq]at hy;subst hy;exact this
  ·cases h
 ·exact F8 h
theorem Mg{draw:Bool}{v:V}{p:PV}(h:zb draw m v=some (p,m')):jW m m'∧(draw=true→m'=m∧∀m2:Mem,zb true m2 v=some (p,m2))∧∀(P:Program)(G:Nat→Option (List PV))(w0:br)(μ:Ro)(φ:Nat→aA)(w:World)(x:Value),av P G w0 μ φ m w→ae P μ φ v x→∃μ',(∀b o,μ b=some o→μ' b=some o)∧av P G w0 μ' φ m' w∧af P μ' p x:=by
 unfold zb at h;split at h
 ·rename_i hd;split at h
  ·rename_i q m1 hf;simp only[Option.some.injEq,Prod.mk.injEq]at h;obtain⟨rfl,rfl⟩:=h;exact⟨.refl _,fun _=>⟨rfl,fun m2=>by simp[zb,hf]⟩,fun P G w0 μ φ w x hM hx=>⟨μ,fun _ _ h=>h,hM,BO hf P μ φ x hx⟩⟩
  ·cases h
 ·rename_i hd;obtain⟨h1,h2⟩:=Gf h;exact⟨h1,fun TU=>absurd TU hd,h2⟩
theorem xD:∀{ps:List PV},lD ks ps=true→∀(n:Nat),(ps.map valOf).all (fun v=>Instr.sameBits n v v)=true:=by
 induction ks with
 |nil=>intro ps h n;cases ps<;>simp[lD]at h;rfl
 |cons k ks ih=>
  intro ps h n;cases ps with
  |nil=>simp[lD]at h
  |cons p ps=>simp only[lD,Bool.and_eq_true]at h;simp only[List.map_cons,List.all_cons,ih h.2 n,Bool.and_true];cases k<;>cases p<;>simp[sR]at h<;>simp[valOf,Instr.sameBits,(Go.MapKept.bytes_beq _ _).2]
theorem vF{ps:List PV}(h:lD ks ps=true)(hl:ao P t=false→ps.length=1)(n:Nat):Instr.sameBits (n+1) (eO P t ps) (eO P t ps)=true:=by
 unfold eO;cases ha:ao P t with
 |true=>
  have:=xD h n;simp only[if_true,Instr.sameBits,BEq.rfl,Bool.true_and];generalize ps.map valOf=xs at this;induction xs with
  |nil=>rfl
  |cons x r ih=>simp only[List.all_cons,Bool.and_eq_true]at this;simp[this.1];simpa using ih this.2
 |false=>
  have h1:=hl ha;match ps,h1 with
  |[p],_=>have:=xD h (n+1);simpa using this
theorem xE{draw:Bool}{x key val:V}{k:Mem→bk→Option R}{r:R}(h:nr E draw t x key val m k=some r):∃m' ft,k m' ft=some r∧(draw=true→∃id b,m'=ak m id b∧ft=[(true,id)]∧∀m2:Mem,m2 id=m id→∀(R':Type)(k':Mem→bk→Option R'),nr E true t x key val m2 k'=k' (ak m2 id b) [(true,id)])∧jW m m'∧∀(G:Nat→Option (List PV))(w0:br)(μ:Ro)(φ:Nat→aA)(w:World)(ya yk yv:Value),av E.P G w0 μ φ m w→ae E.P μ φ x ya→ae E.P μ φ key yk→ae E.P μ φ val yv→∃w' μ',(Instr.mapUpdate t ya yk yv).run E.P w=.ok () w'∧(∀b o,μ b=some o→μ' b=some o)∧av E.P G w0 μ' φ m' w':=by
 unfold nr at h;split at h
 ·rename_i kt et hu;split at h
  ·rename_i id;split at h
   ·rename_i v m1 hf;obtain⟨f1,f2,f3⟩:=Mg hf;split at h
    ·rename_i vh es hm;split at h
     ·rename_i hkt;subst hkt;obtain⟨kp,tc,h⟩:=Option.bind_eq_some_iff.1 h;obtain⟨ks,k1,k2,k3⟩:=tb tc;refine⟨_,_,h,fun hd=>?_,f1.trans .set,fun G w0 μ φ w ya yk yv hM hx hk hv=>?_⟩
      ·obtain⟨rfl,f4⟩:=f2 hd;exact⟨id,_,rfl,rfl,fun m2 cq R' k'=>by simp only[nr,hu,f4 m2,cq,hm,tc,Option.bind_some,if_true]⟩
      ·obtain⟨μ',g1,g2,g3⟩:=f3 _ _ _ _ _ _ _ hM hv;obtain⟨g,en,clock,kk,hg,hh,hs,BM,Fc,uW,jd⟩:=g2.dy id _ hm;rw[k1]at BM;simp only[Option.some.injEq]at BM;subst BM;have RI:=wU k1;have hkr:=(k3 μ φ yk hk).mono g1;obtain⟨hc,hkv⟩:=lU k2 hkr;have hE:vE E.P μ' vh ks es en.toList:=⟨by simpa using hs,Fc,fun i k v e h1 h2=>jd i k v e h1 (by simpa using h2)⟩;obtain⟨res,r1,r2⟩:=lv (v:=v) (z:=.bad) RI hc w hE;have Cl:=Go.MapKept.run_getObj_map (P:=E.P) hh;have h1:(Instr.checkKey false 10000 vh yk).run E.P w=.ok () w:=by rw[hkv];exact il 8 vh ks RI 9992 w false kp.cells hc
       rw[←hkv]at r1;have bm:g<w.heap.size:=(Array.getElem?_eq_some_iff.1 hh).1;cases hx with
       |om bP=>
        rw[hg]at bP;simp only[Option.some.injEq]at bP;subst bP;have fin:∀(o:Obj)(LL:Array MapEntry)(oU:Nat),o=.map LL oU→(Instr.mapUpdate t (.map (some g)) yk yv).run E.P w=.ok () {w with heap:=w.heap.setIfInBounds g o}→lE LL oU→vE E.P μ' vh ks (eS kp v es) LL.toList→∃w' μ',(Instr.mapUpdate t (.map (some g)) yk yv).run E.P w=.ok () w'∧(∀b o,μ b=some o→μ' b=some o)∧av E.P G w0 μ' φ (ak m1 id (.map vh (eS kp v es))) w':=by rintro o LL oU rfl hr aff hE';refine⟨_,μ',hr,g1,g2.write hm rfl hg ⟨⟨rfl,rfl,rfl,by simp,fun k hk=>by simp[Array.getElem?_setIfInBounds_ne (Nat.ne_of_gt hk)]⟩,fun _=>Nat.le_refl _⟩ (by simp) (fun k hk=>by simp[Array.getElem?_setIfInBounds_ne (Ne.symm hk)]) ?_ rfl (by simp[bE.names])⟩;exact⟨g,LL,oU,ks,hg,by simp[bm],by simpa using hE'.len,k1,hE'.key,aff,fun i k v e h1 h2=>hE'.rep i k v e h1 (by simpa using h2)⟩
        cases r2 with
        |none e1 e2 e3=>
         have Xh:=Go.MapKept.run_setObj_map (P:=E.P) (.map (en.push {key:=yk,val:=yv,born:=clock}) (clock+1)) hh;refine fin _ _ _ rfl (by simp only[Instr.mapUpdate,Sem.run_bind,run_underlying hu,Cl,h1,r1,Result.andThen_ok];exact Xh) uW.push ?_;rw[e3];have er:∀(i:Nat)k' v' e,(es++[(kp,v)])[i]?=some (k',v')→(en.push {key:=yk,val:=yv,born:=clock}).toList[i]?=some e→(es[i]?=some (k',v')∧en.toList[i]?=some e)∨(k'=kp∧v'=v∧e.key=yk∧e.val=yv):=by
          intro i k' v' e h1 h2;rw[Array.toList_push,List.getElem?_append]at h2;rw[List.getElem?_append]at h1;rw[hE.len]at h2;split at h1
          ·rename_i hi;rw[if_pos hi]at h2;exact .inl ⟨h1,h2⟩
          ·rename_i hi;rw[if_neg hi]at h2;cases hj:i-es.length with
           |zero=>rw[hj]at h1 h2;simp at h1 h2;exact .inr ⟨h1.1.symm,h1.2.symm,by rw[←h2],by rw[←h2]⟩
           |succ j=>rw[hj]at h1;simp at h1
         refine⟨by simp[hs],fun i k' v' h=>?_,fun i k' v' e h1 h2=>?_⟩
         ·rw[List.getElem?_append]at h;split at h
          ·exact Fc i k' v' h
          ·cases hj:i-es.length with
           |zero=>rw[hj]at h;simp at h;rw[←h.1];exact k2
           |succ j=>rw[hj]at h;simp at h
         ·rcases er i k' v' e h1 h2 with⟨a1,a2⟩|⟨rfl,rfl,a3,a4⟩
          ·exact hE.rep i k' v' e a1 a2
          ·exact⟨by rw[a3];exact hkr,by rw[a4];exact g3⟩
        | @some j a u e e1 e2 e3 e4 e5 e6=>
         have e2':en[j]?=some e:=by simpa using e2
         obtain⟨hca,hva⟩:=lU (Fc j a u e1) (jd j a u e e1 e2').1;have ud:=HA hc hca e3;have hsb:Instr.sameBits 10000 e.key yk=true:=by rw[hva,hkv,←ud];refine vF (n:=9999) hc (fun ha=>?_);rw[pK hc];exact(wQ RI).2.1 ha
         have Xh:=Go.MapKept.run_setObj_map (P:=E.P) (.map (en.modify j fun e=>{e with key:=yk,val:=yv}) clock) hh;have Al:j<en.size:=(Array.getElem?_eq_some_iff.1 e2').1;refine fin _ _ _ rfl (by simp only[Instr.mapUpdate,Sem.run_bind,run_underlying hu,Cl,h1,r1,Result.andThen_ok];simp only[Nat.zero_add,e2',Option.map_some,Option.getD_some,Instr.keyThatStays,hsb,if_true,Sem.run_pure,Result.andThen_ok];exact Xh) (uW.modify (fun e=>{e with key:=yk,val:=yv}) (fun _=>rfl) _) ?_;rw[e6];have rM:∀(i:Nat)k' v',(es.set j (kp,v))[i]?=some (k',v')→(i=j∧k'=kp∧v'=v)∨(i≠j∧es[i]?=some (k',v')):=by
          intro i k' v' h;rw[List.getElem?_set]at h;split at h
          ·rename_i Hz;subst Hz;split at h
           ·simp only[Option.some.injEq,Prod.mk.injEq]at h;exact .inl ⟨rfl,h.1.symm,h.2.symm⟩
           ·cases h
          ·rename_i Hz;exact .inr ⟨fun e=>Hz e.symm,h⟩
         refine⟨by simp[hs],fun i k' v' h=>?_,fun i k' v' e' h1 h2=>?_⟩
         ·rcases rM i k' v' h with⟨rfl,rfl,rfl⟩|⟨_,h⟩
          ·exact k2
          ·exact Fc i k' v' h
         ·have LM:(en.modify j fun e=>{e with key:=yk,val:=yv})[i]?=some e':=by rw[Array.getElem?_toList]at h2;exact h2
          rw[Array.getElem?_modify]at LM;rcases rM i k' v' h1 with⟨rfl,rfl,rfl⟩|⟨cB,h1⟩
          ·rw[if_pos rfl,e2']at LM;simp only[Option.map_some,Option.some.injEq]at LM;subst LM;exact⟨hkr,g3⟩
          ·rw[if_neg (Ne.symm cB)]at LM;exact hE.rep i k' v' e' h1 (by simpa using LM)
     ·cases h
    ·cases h
   ·cases h
  ·cases h
 ·cases h
theorem Jv{μ:Ro}{φ:Nat→aA}{w:World}{site:Nat}(hk:rR P kt=some ks)(hφ:(φ site).g=some w.heap.size):gC P μ φ (w.alloc (.map #[] 0)) site (.map kt []):=⟨w.heap.size,#[],0,ks,hφ,fA w _,rfl,hk,by simp,fun i e h=>by simp at h,by simp⟩
end
end Go.Ab
set_option linter.unusedVariables false
namespace Go.Ab
open Go.RowKit (Below)
def tX(P:Program)(G:Nat→Option (List PV))(g:FuncId)(M:List PV→Option PV):Prop:=
 (∃fn c,P.funcs[g]?=some fn∧fn.body=some c∧(fn.name== "runtime.NumGoroutine")=false)∧
 ∀(ps:List PV)(r:PV),M ps=some r→∀(w:World)(μ:Ro)(xs:Array Value),(∀b o,μ b=some o→w.heap[b]?=some o)→(∀g cs,G g=some cs→xq P μ g cs)→ps.length=xs.size→(∀(i:Nat)p x,ps[i]?=some p→xs[i]?=some x→af P μ p x)→Calls P g xs w fun e w'=>∃y,e=.returned y∧kG w.heap.size w w'∧af P (cF μ w w') r y
def AB(P:Program)(G:Nat→Option (List PV))(g:FuncId)(M:List PV→Option PV):Prop:=
 (∃fn c,P.funcs[g]?=some fn∧fn.body=some c∧(fn.name== "runtime.NumGoroutine")=false)∧
 ∀(fn:Func)(t e:TypeId),P.funcs[g]?=some fn→fn.resultTypes.toList=[t]→P.underlying t=some (.slice e)→∀(ps:List PV)(r:PV),M ps=some r→∀(w:World)(μ:Ro)(xs:Array Value),(∀b o,μ b=some o→w.heap[b]?=some o)→(∀g cs,G g=some cs→xq P μ g cs)→ps.length=xs.size→(∀(i:Nat)p x,ps[i]?=some p→xs[i]?=some x→af P μ p x)→Calls P g xs w fun en w'=>∃(y:Value)(ph:aA)(es:List PV),en=.returned y∧kG w.heap.size w w'∧r=.rs (aP P e) es∧(∀g,ph.g=some g→w.heap.size≤g)∧aF P (me (cF μ w w') ph.g) (fun _=>ph) w' 0 (aP P e) e es∧ae P μ (fun _=>ph) (.os 0) y
def abI(m:Mem):Option (Nat×bE)→Mem
 |some (id,b)=>ak m id b
 |none=>m
def abJ(E:Env)(g:FuncId)(args:List V)(f:Fr)(m:Mem)(v:V)(f':Fr)(m':Mem):Prop:=
 (∃fn c,E.P.funcs[g]?=some fn∧fn.body=some c∧(fn.name== "runtime.NumGoroutine")=false)∧
 ∀(w0:br)(μ:Ro)(φ:Nat→aA)(ρ:Nat→Value)(w:World)(xs:Array Value),av E.P E.aD w0 μ φ m w→bZ E.P μ φ m f ρ→args.length=xs.size→(∀(i:Nat)v x,args[i]?=some v→xs[i]?=some x→ae E.P μ φ v x)→(∀id,cm id args=true→(m id).isSome=true)→Calls E.P g xs w fun e w'=>∃y μ' φ',e=.returned y∧av E.P E.aD w0 μ' φ' m' w'∧bZ E.P μ' φ' m' f' ρ∧ae E.P μ' φ' v y∧∀id,v.has id=true→(m' id).isSome=true
def HB{R:Type}(P:Program)(G:Nat→Option (List PV))(g:FuncId)(args:List V)(f:Fr)(m:Mem)(k:V→Fr→Mem→Option R)(r:R):Prop:=
 (∃fn c,P.funcs[g]?=some fn∧fn.body=some c∧(fn.name== "runtime.NumGoroutine")=false)∧
 ∀(w0:br)(μ:Ro)(φ:Nat→aA)(ρ:Nat→Value)(w:World)(xs:Array Value),av P G w0 μ φ m w→bZ P μ φ m f ρ→args.length=xs.size→(∀(i:Nat)v x,args[i]?=some v→xs[i]?=some x→ae P μ φ v x)→(∀id,cm id args=true→(m id).isSome=true)→Calls P g xs w fun e w'=>∃v f' m' y μ' φ',k v f' m'=some r∧e=.returned y∧av P G w0 μ' φ' m' w'∧bZ P μ' φ' m' f' ρ∧ae P μ' φ' v y∧∀id,v.has id=true→(m' id).isSome=true
def sV(P:Program)(G:Nat→Option (List PV))(nt:Nat)(yl:YL)(w0:br):Prop:=∀(R:Type)site id args f m(k:V→Fr→Mem→Option R)r,yl R nt site id args f m k=some r→∀(μ:Ro)(φ:Nat→aA)(ρ:Nat→Value)(w:World)(xs:Array Value),av P G w0 μ φ m w→bZ P μ φ m f ρ→(∀t,nt≤t→ρ t=w0.sv t)→args.length=xs.size→(∀(i:Nat)v x,args[i]?=some v→xs[i]?=some x→ae P μ φ v x)→(∀id,cm id args=true→(m id).isSome=true)→∀g,(φ id).g=some g→∃fn tmps assign body,(Instr.yield g xs).run P w=.ok (.round g fn tmps assign body) w∧RoundIn Fence.wide 0 P g fn tmps assign body w fun e w'=>∃v f' m' y μ' φ',k v f' m'=some r∧e=.returned y∧(∀b o,μ b=some o→μ' b=some o)∧av P G w0 μ' φ' m' w'∧bZ P μ' φ' m' f' ρ∧ae P μ' φ' v y∧∀id,v.has id=true→(m' id).isSome=true
theorem zg(P:Program)(G:Nat→Option (List PV))(nt:Nat)(w0:br):sV P G nt Aq w0:=fun R site id args f m k r h=>by cases h
variable{G:Nat→Option (List PV)}{φ:Nat→aA}
theorem av.yn{P:Program}{w0:br}{μ:Ro}{m:Mem}{w:World}(h:av P G w0 μ φ m w){K:Ro}(hK:∀b o,K b=some o→μ b=some o):av P G {w0 with dA:=K} μ φ m w:=⟨h.below,h.ro,h.aD,h.dy,h.own,h.inj,h.apart,h.fJ,h.base,hK,h.BD⟩
theorem av.DC{P:Program}{w0:br}{μ:Ro}{m:Mem}{w:World}{K:Ro}(h:av P G {w0 with dA:=K} μ φ m w)(hK:∀b o,w0.dA b=some o→K b=some o):av P G w0 μ φ m w:=⟨h.below,h.ro,h.aD,h.dy,h.own,h.inj,h.apart,h.fJ,h.base,fun b o hb=>h.dA b o (hK b o hb),h.BD⟩
theorem sV.yn{P:Program}{G:Nat→Option (List PV)}{nt:Nat}{yl:YL}{w0:br}(h:sV P G nt yl w0){K:Ro}(hK:∀b o,w0.dA b=some o→K b=some o):sV P G nt yl {w0 with dA:=K}:=fun R site id args f m k r hy μ φ ρ w xs hM hF hρ hl hr Ho g hg=>
  let⟨fn,tmps,assign,body,y1,y2⟩:=h R site id args f m k r hy μ φ ρ w xs (hM.DC hK) hF hρ hl hr Ho g hg
  ⟨fn,tmps,assign,body,y1,y2.mono fun e w'⟨v,f',m',y,μ',φ',a1,a2,a3,a4,a5⟩=>⟨v,f',m',y,μ',φ',a1,a2,a3,a4.yn fun b o hb=>a3 b o (hM.dA b o hb),a5⟩⟩
def L4{R:Type}(P:Program)(G:Nat→Option (List PV))(g:FuncId)(yl:YL)(args:List V)(f:Fr)(m:Mem)(k:V→Fr→Mem→Option R)(r:R):Prop:=
 ∃fn c,P.funcs[g]?=some fn∧fn.body=some c∧(fn.name== "runtime.NumGoroutine")=false∧
 ∀(w0:br)(μ:Ro)(φ:Nat→aA)(ρ:Nat→Value)(w:World)(xs:Array Value),av P G w0 μ φ m w→bZ P μ φ m f ρ→args.length=xs.size→(∀(i:Nat)v x,args[i]?=some v→xs[i]?=some x→ae P μ φ v x)→(∀id,cm id args=true→(m id).isSome=true)→sV P G fn.ntmps yl {w0 with sv:=fun t=>ρ (t-fn.ntmps)}→Calls P g xs w fun e w'=>∃v f' m' y μ' φ',k v f' m'=some r∧e=.returned y∧av P G w0 μ' φ' m' w'∧bZ P μ' φ' m' f' ρ∧ae P μ' φ' v y∧∀id,v.has id=true→(m' id).isSome=true
structure jS(E:Env):Prop where
 mixed:E.P.follows .mixedOrders=true
 lp:∀(S R:Type)(body:S→(S→Option R)→Option R)s r,E.lp.run body s=some r→∃n,c7 body n s=some r
 ctx:∀g M,E.ctx g=some M→tX E.P E.aD g M
 own:∀g M,E.own g=some M→AB E.P E.aD g M
 inl:∀(R:Type)g LN args f m(k:V→Fr→Mem→Option R)r,E.inl R g LN args f m k=some r→HB E.P E.aD g args f m k r
 ZZ:∀(R:Type)g LN yl args f m(k:V→Fr→Mem→Option R)r,E.ZZ R g LN yl args f m k=some r→L4 E.P E.aD g yl args f m k r
section
variable {R:Type} {E:Env}
theorem eu{f:V→List Nat}{id:Nat}:∀{cs:List V},id∈iH f cs↔∃v∈cs,id∈f v
 |[]=>by simp[iH]
 |c::r=>by simp[iH,eu (cs:=r)]
theorem lG{g g':V→Option PV}:∀{cs:List V},(∀v∈cs,g' v=g v)→pH g' cs=pH g cs
 |[],_=>rfl
 |c::r,h=>by simp only[pH];rw[h c (by simp),lG (cs:=r) fun v hv=>h v (by simp[hv])]
theorem pU{m m2:Mem}:∀(d:Nat){v:V},(∀id∈cS m d v,m2 id=m id)→kD m2 d v=kD m d v
 |0,v,_=>rfl
 |d+1,v,h=>by
  cases v with
  |agg cs=>simp only[kD];rw[lG fun v hv=>pU d fun id hid=>h id (by simp only[cS];exact eu.2 ⟨v,hv,hid⟩)]
  |bt cs=>simp only[kD];rw[lG fun v hv=>pU d fun id hid=>h id (by simp only[cS];exact eu.2 ⟨v,hv,hid⟩)]
  |fn g cs=>simp only[kD];rw[lG fun v hv=>pU d fun id hid=>h id (by simp only[cS];exact eu.2 ⟨v,hv,hid⟩)]
  |op id off=>
   have h0:=h id (by simp[cS]);simp only[kD,h0];split
   ·rename_i cs hm;rw[lG fun v hv=>pU d fun pI hid=>h pI (by simp only[cS,hm];exact List.mem_cons_of_mem _ (eu.2 ⟨v,hv,hid⟩))]
   ·rfl
  |oe id i off=>simp only[kD,h id (by simp[cS])]
  |os id=>simp only[kD,h id (by simp[cS])]
  |fH id lo len=>simp only[kD,h id (by simp[cS])]
  |om id=>simp only[kD,h id (by simp[cS])]
  |vp id i off=>simp only[kD,h id (by simp[cS])]
  |_=>rfl
theorem iN{g g':V→List Nat}:∀{cs:List V},(∀v∈cs,g' v=g v)→iH g' cs=iH g cs
 |[],_=>rfl
 |c::r,h=>by simp only[iH];rw[h c (by simp),iN (cs:=r) fun v hv=>h v (by simp[hv])]
theorem lV{m m2:Mem}:∀(d:Nat){v:V},(∀id∈cS m d v,m2 id=m id)→cS m2 d v=cS m d v
 |0,v,_=>rfl
 |d+1,v,h=>by
  cases v with
  |agg cs=>simp only[cS];exact iN fun v hv=>lV d fun id hid=>h id (by simp only[cS];exact eu.2 ⟨v,hv,hid⟩)
  |bt cs=>simp only[cS];exact iN fun v hv=>lV d fun id hid=>h id (by simp only[cS];exact eu.2 ⟨v,hv,hid⟩)
  |fn g cs=>simp only[cS];exact iN fun v hv=>lV d fun id hid=>h id (by simp only[cS];exact eu.2 ⟨v,hv,hid⟩)
  |op id off=>
   have h0:=h id (by simp[cS]);simp only[cS,h0];split
   ·rename_i cs hm;rw[iN fun v hv=>lV d fun pI hid=>h pI (by simp only[cS,hm];exact List.mem_cons_of_mem _ (eu.2 ⟨v,hv,hid⟩))]
   ·rfl
  |_=>rfl
variable{p:PV}
theorem BP{t:TypeId}{k:PV→Option R}{r:R}(hs:tU E t=true)(h:gr E t p k=some r):∃q,(∀(R':Type)(k':PV→Option R'),gr E t p k'=k' q)∧k q=some r∧∀(P:Program)(μ μ':Ro)x,af P μ p x→af P μ' q x:=by
 unfold tU at hs;unfold gr at h;split at h
 ·rename_i q hu;obtain⟨n,hn,hk⟩:=Option.bind_eq_some_iff.1 h;have hp:p=.int q n:=by cases p<;>simp[asInt]at hn;obtain⟨rfl,rfl⟩:=hn;rfl
  exact⟨.int q n,fun R' k'=>by simp[gr,hu,hn],hk,fun P μ μ' x hx=>by subst hp;cases hx with|int h=>exact .int h⟩
 ·rename_i hu;obtain⟨n,hn,hk⟩:=Option.bind_eq_some_iff.1 h;have hp:p=.bool n:=by cases p<;>simp[asBool]at hn;subst hn;rfl
  exact⟨.bool n,fun R' k'=>by simp[gr,hu,hn],hk,fun P μ μ' x hx=>by subst hp;cases hx;exact .bool⟩
 ·rename_i hu;obtain⟨n,hn,hk⟩:=Option.bind_eq_some_iff.1 h;have hp:p=.str n:=by cases p<;>simp[cR]at hn;subst hn;rfl
  exact⟨.str n,fun R' k'=>by simp[gr,hu,hn],hk,fun P μ μ' x hx=>by subst hp;cases hx with|str h=>exact .str h⟩
 all_goals (rename_i hu;simp[hu]at hs)
theorem Jw:∀{ts:List TypeId}{ps:List PV}{k:List V→Option R}{r:R},Bt E ts ps k=some r→∃vs,(∀(R':Type)(k':List V→Option R'),Bt E ts ps k'=k' vs)∧k vs=some r∧vs.length=ps.length∧(∀id,cm id vs=false)∧(∀(P:Program)(μ:Ro)(φ:Nat→aA)(i:Nat)p v x,ps[i]?=some p→vs[i]?=some v→af P μ p x→ae P μ φ v x)∧(ts.all (tU E)=true→∀(P:Program)(μ μ':Ro)(φ:Nat→aA)(i:Nat)p v x,ps[i]?=some p→vs[i]?=some v→af P μ p x→ae P μ' φ v x)
 |[],[],k,r,h=>⟨[],fun R' k'=>rfl,h,rfl,fun _=>rfl,by simp,by simp⟩
 |t::ts,p::ps,k,r,h=>by
  simp only[Bt]at h;obtain⟨q,q1,q2,q3,_⟩:=lq h;obtain⟨vs,v1,v2,v3,v4,v5,v6⟩:=Jw q2;refine⟨.pv q::vs,fun R' k'=>by simp only[Bt];rw[q1,v1],v2,by simp[v3],fun id=>by simp[cm,v4],fun P μ φ i p' v x hp hv hx=>?_,fun hs P μ μ' φ i p' v x hp hv hx=>?_⟩
  ·cases i with
   |zero=>simp at hp hv;subst hp;subst hv;exact .pv (q3 _ _ _ hx)
   |succ i=>exact v5 P μ φ i p' v x (by simpa using hp) (by simpa using hv) hx
  ·simp only[List.all_cons,Bool.and_eq_true]at hs;cases i with
   |zero=>
    simp at hp hv;subst hp;subst hv;obtain⟨q',s1,s2,s3⟩:=BP hs.1 h;have:q'=q:=by have e1:=s1 PV some;have e2:=q1 PV some;rw[e1]at e2;simpa using e2
    subst this;exact .pv (s3 P μ μ' x hx)
   |succ i=>exact v6 hs.2 P μ μ' φ i p' v x (by simpa using hp) (by simpa using hv) hx
 |[],p::ps,k,r,h=>by simp[Bt]at h
 |t::ts,[],k,r,h=>by simp[Bt]at h
theorem Jx{n:Nat}{r:PV}{vs:List PV}(h:cP n r=some vs):r=.bt vs∧vs.length=n:=by cases r<;>simp[cP]at h;obtain⟨h1,h2⟩:=h;subst h2;exact⟨rfl,h1⟩
variable{ts:List TypeId}
theorem Jy{k:V→Option R}{r:R}(h:Bu E ts p k=some r):∃v,(∀(R':Type)(k':V→Option R'),Bu E ts p k'=k' v)∧k v=some r∧(∀id,v.has id=false)∧(∀(P:Program)(μ:Ro)(φ:Nat→aA)x,af P μ p x→ae P μ φ v x)∧(ts.all (tU E)=true→∀(P:Program)(μ μ':Ro)(φ:Nat→aA)x,af P μ p x→ae P μ' φ v x):=by
 unfold Bu at h;split at h
 ·obtain⟨vs,hv,hk⟩:=Option.bind_eq_some_iff.1 h;obtain⟨rfl,hl⟩:=Jx hv;have:vs=[]:=List.eq_nil_of_length_eq_zero hl;subst this;have key:∀(P:Program)(μ μ':Ro)(φ:Nat→aA)x,af P μ (.bt []) x→ae P μ' φ (.bt []) x:=fun P μ μ' φ x hx=>by
   cases hx with
   |bt h1 h2=>exact .bt h1 (by simp)
  exact⟨.bt [],fun R' k'=>by simp[Bu,hv],hk,by simp[V.has,cm],fun P μ φ x hx=>key P μ μ φ x hx,fun _=>key⟩
 ·rename_i t;obtain⟨q,q1,q2,q3,_⟩:=lq h;refine⟨.pv q,fun R' k'=>by simp only[Bu];rw[q1],q2,by simp,fun P μ φ x hx=>.pv (q3 _ _ _ hx),fun hs P μ μ' φ x hx=>?_⟩;obtain⟨q',s1,s2,s3⟩:=BP (by simpa using hs) h;have:q'=q:=by have e1:=s1 PV some;have e2:=q1 PV some;rw[e1]at e2;simpa using e2
  subst this;exact .pv (s3 P μ μ' x hx)
 ·rename_i afg afh;obtain⟨vs,hv,hk⟩:=Option.bind_eq_some_iff.1 h;obtain⟨rfl,hl⟩:=Jx hv;obtain⟨us,u1,u2,u3,u4,u5,u6⟩:=Jw hk;have abK:((List.range ts.length).map fun j=>vs.getD j .bad)=vs:=by
   apply List.ext_getElem?;intro j;rw[List.getElem?_map];by_cases hj:j<ts.length
   ·rw[List.getElem?_range hj];simp[List.getElem?_eq_getElem (show j<vs.length by omega)]
   ·rw[List.getElem?_eq_none (by simp;omega),List.getElem?_eq_none (by omega)];rfl
  rw[abK]at u3 u5 u6;refine⟨.bt us,fun R' k'=>?_,u2,fun id=>by simp[V.has,u4],fun P μ φ x hx=>?_,fun hs P μ μ' φ x hx=>?_⟩
  ·unfold Bu;split
   ·exact absurd rfl afg
   ·exact absurd rfl (afh _)
   ·rw[hv];simp only[Option.bind_some];rw[u1]
  ·cases hx with
   |bt h1 h2=>
    refine .bt (by omega) fun i v y hv hy=>?_;have hi:i<vs.length:=by have:=(List.getElem?_eq_some_iff.1 hv).1;omega
    exact u5 P μ φ i _ v y (List.getElem?_eq_getElem hi) hv (h2 i _ y (List.getElem?_eq_getElem hi) hy)
  ·cases hx with
   |bt h1 h2=>
    refine .bt (by omega) fun i v y hv hy=>?_;have hi:i<vs.length:=by have:=(List.getElem?_eq_some_iff.1 hv).1;omega
    exact u6 hs P μ μ' φ i _ v y (List.getElem?_eq_getElem hi) hv (h2 i _ y (List.getElem?_eq_getElem hi) hy)
theorem sr:∀{args:List V}{m m':Mem}{ps:List PV},iI m args=some (ps,m')→jW m m'∧ps.length=args.length∧∀(P:Program)(G:Nat→Option (List PV))(w0:br)(μ:Ro)(φ:Nat→aA)(w:World)(X:Nat→Value),av P G w0 μ φ m w→(∀(i:Nat)u,args[i]?=some u→ae P μ φ u (X i))→∃μ',(∀b o,μ b=some o→μ' b=some o)∧av P G w0 μ' φ m' w∧∀(i:Nat)p,ps[i]?=some p→af P μ' p (X i)
 |[],m,m',ps,h=>by simp only[iI,Option.some.injEq,Prod.mk.injEq]at h;obtain⟨rfl,rfl⟩:=h;exact⟨.refl _,rfl,fun P G w0 μ φ w X hM _=>⟨μ,fun _ _ h=>h,hM,by simp⟩⟩
 |c::r,m,m',ps,h=>by
  simp only[iI]at h;split at h
  ·rename_i p m1 h1;split at h
   ·rename_i RC m2 h2;simp only[Option.some.injEq,Prod.mk.injEq]at h;obtain⟨rfl,rfl⟩:=h;obtain⟨a1,a2⟩:=Gf h1;obtain⟨b1,b2,b3⟩:=sr h2;refine⟨a1.trans b1,by simp[b2],fun P G w0 μ φ w X hM hx=>?_⟩;obtain⟨μ1,c1,c2,c3⟩:=a2 P G w0 μ φ w (X 0) hM (hx 0 c (by simp));obtain⟨μ2,d1,d2,d3⟩:=b3 P G w0 μ1 φ w (fun i=>X (i+1)) c2 (fun i u hu=>(hx (i+1) u (by simpa using hu)).xr c1);refine⟨μ2,fun b o h=>d1 b o (c1 b o h),d2,fun i q hq=>?_⟩;cases i with
    |zero=>simp at hq;subst hq;exact c3.mono d1
    |succ i=>exact d3 i q (by simpa using hq)
   ·cases h
  ·cases h
theorem HC{m':Mem}{v:V}(h:tQ cW v=some (p,m')):m'=cW:=by
 have key:∀{cs:List V}{m':Mem}{ps:List PV},lS cW cs=some (ps,m')→m'=cW:=by
  intro cs;induction cs with
  |nil=>intro m' ps h;simp only[lS,Option.some.injEq,Prod.mk.injEq]at h;exact h.2.symm
  |cons c r ih=>
   intro m' ps h;simp only[lS]at h;split at h
   ·rename_i p m1 h1;have:=qx h1;subst this;split at h
    ·rename_i RC m2 h2;simp only[Option.some.injEq,Prod.mk.injEq]at h;rw[←h.2];exact ih h2
    ·cases h
   ·cases h
 unfold tQ at h;split at h
 ·split at h
  ·rename_i hf;simp only[Option.some.injEq,Prod.mk.injEq]at h;rw[←h.2];exact key hf
  ·cases h
 ·exact qx h
theorem oV:∀{args:List V}{m':Mem}{ps:List PV},iI cW args=some (ps,m')→ps.length=args.length∧∀(P:Program)(μ:Ro)(φ:Nat→aA)(X:Nat→Value),(∀(i:Nat)u,args[i]?=some u→ae P μ φ u (X i))→∀(i:Nat)p,ps[i]?=some p→af P μ p (X i)
 |[],m',ps,h=>by simp only[iI,Option.some.injEq,Prod.mk.injEq]at h;obtain⟨rfl,rfl⟩:=h;exact⟨rfl,by simp⟩
 |c::r,m',ps,h=>by
  simp only[iI]at h;split at h
  ·rename_i p m1 h1;have:=HC h1;subst this;split at h
   ·rename_i RC m2 h2;simp only[Option.some.injEq,Prod.mk.injEq]at h;obtain⟨rfl,rfl⟩:=h;obtain⟨b2,b3⟩:=oV h2;refine⟨by simp[b2],fun P μ φ X hx i q hq=>?_⟩;cases i with
    |zero=>simp at hq;subst hq;exact BO h1 P μ φ _ (hx 0 c (by simp))
    |succ i=>exact b3 P μ φ (fun i=>X (i+1)) (fun i u hu=>hx (i+1) u (by simpa using hu)) i q (by simpa using hq)
   ·cases h
  ·cases h
variable{φ:Nat→aA}
theorem aF.move{P:Program}{μ μ':Ro}{φ':Nat→aA}{w:World}{i j sz:Nat}{et:TypeId}{es:List PV}(h:aF P μ φ w i sz et es)(hφ:φ' j=φ i)(hμ:∀b o,μ b=some o→μ' b=some o):aF P μ' φ' w j sz et es:=by
 unfold aF at*;rw[hφ];obtain⟨h1,h2,h3,h4,h5,h6,h7⟩:=h;refine⟨h1,h2,h3,h4,h5,h6,?_⟩;split at h7
 ·exact h7
 ·obtain⟨c,T,c1,c2,c3,c4,c5⟩:=h7;exact⟨c,T,c1,c2,c3,fun i e j p x he hp hx=>(c4 i e j p x he hp hx).mono hμ,c5⟩
theorem aF.T5{P:Program}{ν μ:Ro}{w:World}{i:Nat}{et:TypeId}{es:List PV}(h:aF P ν φ w i 1 et es):aF P μ φ w i 1 et (es.map FL):=by
 unfold aF at*;obtain⟨h1,h2,h3,h4,h5,h6,h7⟩:=h;have hc:∀p:PV,(FL p).cells.length=1:=fun p=>by cases p<;>rfl
 refine⟨by simpa using h1,h2,h3,h4,fun j e he=>?_,h6,?_⟩
 ·simp only[List.getElem?_map,Option.map_eq_some_iff]at he;obtain⟨p,_,rfl⟩:=he;exact hc p
 ·split at h7
  ·rw[h7.1];exact⟨rfl,h7.2⟩
  ·obtain⟨c,T,c1,c2,c3,c4,c5⟩:=h7;refine⟨c,T,c1,c2,by simpa using c3,fun j e l p x he hp hx=>?_,fun j x hj hx=>c5 j x (by simpa using hj) hx⟩;simp only[List.getElem?_map,Option.map_eq_some_iff]at he;obtain⟨q,hq,rfl⟩:=he;have hl:l=0:=by have:=(List.getElem?_eq_some_iff.1 hp).1;have:=hc q;omega
   subst hl;cases q<;>(simp only[FL,PV.cells,List.getElem?_cons_zero,Option.some.injEq]at hp;subst hp);case int=>have:=c4 j _ 0 _ x hq rfl hx;cases this with|int h=>exact .int h
   case bool=>have:=c4 j _ 0 _ x hq rfl hx;cases this;exact .bool
   case str=>have:=c4 j _ 0 _ x hq rfl hx;cases this with|str h=>exact .str h
   all_goals exact .bad
mutual
theorem T6:∀(s:FS)(p:PV)(a:List PV),WT s p=some a→a.length=s.n∧∀r,Hf s (a++r)=(p,r)
 |.raw,p,a,h=>by simp only[WT,Option.some.injEq]at h;subst h;exact⟨rfl,fun r=>rfl⟩
 |.fn g cs,p,a,h=>by
  cases p<;>simp only[WT]at h<;>try (cases h;done)
  split at h
  ·rename_i e;subst e;obtain⟨h1,h2⟩:=HD cs _ a h;exact⟨by simp[FS.n,h1],fun r=>by simp[Hf,h2 r]⟩
  ·cases h
 |.ptr cs,p,a,h=>by
  cases p<;>simp only[WT]at h<;>try (cases h;done)
  obtain⟨h1,h2⟩:=HD cs _ a h;exact⟨by simp[FS.n,h1],fun r=>by simp[Hf,h2 r]⟩
theorem HD:∀(ss:List FS)(ps:List PV)(a:List PV),I6 ss ps=some a→a.length=nFs ss∧∀r,Br ss (a++r)=(ps,r)
 |[],ps,a,h=>by
  cases ps with
  |nil=>simp only[I6,Option.some.injEq]at h;subst h;exact⟨rfl,fun r=>rfl⟩
  |cons p ps=>simp[I6]at h
 |s::ss,ps,a,h=>by
  cases ps with
  |nil=>simp[I6]at h
  |cons p ps=>simp only[I6]at h;obtain⟨x,hx,h⟩:=Option.bind_eq_some_iff.1 h;obtain⟨y,hy,h⟩:=Option.bind_eq_some_iff.1 h;simp only[Option.some.injEq]at h;subst h;obtain⟨a1,a2⟩:=T6 s p x hx;obtain⟨b1,b2⟩:=HD ss ps y hy;refine⟨by simp[nFs,a1,b1],fun r=>?_⟩;simp only[Br,List.append_assoc,a2,b2]
end
theorem P9{s:FS}{ls:List PV}(h:WT s p=some ls):(Hf s ((List.range s.n).map fun j=>ls.getD j .bad)).1=p:=by
 obtain⟨h1,h2⟩:=T6 s p ls h;have:((List.range s.n).map fun j=>ls.getD j .bad)=ls:=by
  apply List.ext_getElem?;intro j;rw[List.getElem?_map];by_cases hj:j<s.n
  ·rw[List.getElem?_range hj];simp[List.getElem?_eq_getElem (show j<ls.length by omega)]
  ·rw[List.getElem?_eq_none (by simp;omega),List.getElem?_eq_none (by omega)];rfl
 rw[this];have:=h2 [];rw[List.append_nil]at this;rw[this]
theorem RJ{fid:FuncId}{k:V→Option R}{r:R}(h:Ar E fid ts p k=some r):∃v,(∀(R':Type)(k':V→Option R'),Ar E fid ts p k'=k' v)∧k v=some r∧(∀id,v.has id=false)∧(∀(P:Program)(μ:Ro)(φ:Nat→aA)x,af P μ p x→ae P μ φ v x)∧True:=by
 unfold Ar at h;split at h
 ·rename_i s hs;obtain⟨ls,hl,hk⟩:=Option.bind_eq_some_iff.1 h;refine⟨_,fun R' k'=>by simp only[Ar,hs,hl,Option.bind_some],hk,fun id=>rfl,fun P μ φ x hx=>.pv ?_,trivial⟩;rw[P9 hl];exact hx
 ·rename_i hs;obtain⟨v,v1,v2,v3,v4,_⟩:=Jy h;exact⟨v,fun R' k'=>by simp only[Ar,hs];exact v1 R' k',v2,v3,v4,trivial⟩
theorem T7(hE:jS E){draw:Bool}{site:Nat}{g:FuncId}{args:List V}{f:Fr}{m:Mem}{k:V→Fr→Mem→bk→Option R}{r:R}(h:uT E draw site g args f m k=some r):(∃v f' m' ft,k v f' m' ft=some r∧(draw=true→f'=f∧∃wr:Option (Nat×bE),m'=abI m wr∧(∀id b,wr=some (id,b)→(true,id)∈ft)∧∀(f2:Fr)(m2:Mem),(∀x∈ft,m2 x.2=m x.2)→∀(R':Type)(k':V→Fr→Mem→bk→Option R'),uT E true site g args f2 m2 k'=k' v f2 (abI m2 wr) ft)∧((∀x∈ft,x.1=false)→f'=f∧m'=m)∧abJ E g args f m v f' m')∨(draw=false∧HB E.P E.aD g args f m (fun v f m=>k v f m [(true,0)]) r):=by
 have hX:∀(P:Program)(μ:Ro)(φ:Nat→aA)(xs:Array Value),args.length=xs.size→(∀(i:Nat)v x,args[i]?=some v→xs[i]?=some x→ae P μ φ v x)→∀(i:Nat)u,args[i]?=some u→xs[i]?=some (xs.getD i undef)∧ae P μ φ u (xs.getD i undef):=by
  intro P μ φ xs hl hr i u hu;have bm:i<xs.size:=by have:=(List.getElem?_eq_some_iff.1 hu).1;omega
  have:xs[i]?=some (xs.getD i undef):=by rw[Array.getElem?_eq_getElem bm];simp[Array.getD,bm]
  exact⟨this,hr i u _ hu this⟩
 unfold uT at h;split at h
 ·rename_i M RL;obtain⟨Ti,hM⟩:=hE.ctx g M RL;split at h
  ·rename_i fn hg;split at h
   ·rename_i WH;split at h
    ·rename_i ps nd;obtain⟨p,hp,h⟩:=Option.bind_eq_some_iff.1 h;obtain⟨v,v1,v2,v3,v4,v5⟩:=Jy h;refine .inl ⟨v,f,m,_,v2,fun hd=>⟨rfl,none,rfl,by simp,fun f2 m2 cq R' k'=>?_⟩,fun _=>⟨rfl,rfl⟩,Ti,fun w0 μ φ ρ w xs hR hF hl hr Ho=>?_⟩
     ·have LI:pH (kD m2 eL) args=pH (kD m eL) args:=lG fun v hv=>pU _ fun id hid=>cq (false,id) (by simp only[List.mem_map];exact⟨id,eu.2 ⟨v,hv,hid⟩,rfl⟩);have je:((iH (cS m2 eL) args).map fun i=>(false,i))=((iH (cS m eL) args).map fun i=>(false,i)):=by have:iH (cS m2 eL) args=iH (cS m eL) args:=iN fun v hv=>lV _ fun id hid=>cq (false,id) (by simp only[List.mem_map];exact⟨id,eu.2 ⟨v,hv,hid⟩,rfl⟩);rw[this]
      simp only[uT,RL,hg];rw[if_pos WH];simp only[LI,nd,hp,Option.bind_some,je];rw[v1];rfl
     ·obtain⟨p1,p2⟩:=gV nd;refine(hM ps p hp w (e9 w) xs (fun _ _ h=>h) (fun g cs hg=>(hR.aD g cs hg).mono hR.wP) (by omega) (fun i q x hq hx=>?_)).mono ?_
      ·obtain⟨u,hu,hf⟩:=p2 i q hq;exact sU hR hR.wP (fun _ _ _ _ _=>rfl) _ hf (hr i u x hu hx)
      ·rintro e w' ⟨y,rfl,hb,hy⟩;exact⟨y,cF μ w w',φ,rfl,hR.called hb,hF.ml (kv hR w') (.refl _),v5 WH E.P _ _ φ y hy,fun id hid=>by rw[v3]at hid;cases hid⟩
    ·cases h
   ·rename_i WH;split at h
    ·rename_i ps m1 nd;obtain⟨p,hp,h⟩:=Option.bind_eq_some_iff.1 h;obtain⟨v,v1,v2,v3,v4,v5⟩:=RJ h;cases draw with
     |true=>
      simp only[if_true]at nd v2;obtain⟨q1,q2⟩:=oV nd;refine .inl ⟨v,f,m,_,v2,fun _=>⟨rfl,none,rfl,by simp,fun f2 m2 cq R' k'=>?_⟩,fun _=>⟨rfl,rfl⟩,Ti,fun w0 μ φ ρ w xs hR hF hl hr Ho=>?_⟩
      ·simp only[uT,RL,hg];rw[if_neg WH];simp only[if_true,nd,hp,Option.bind_some];rw[v1];rfl
      ·refine(hM ps p hp w μ xs hR.ro hR.aD (by omega) (fun i q x hq hx=>?_)).mono ?_
       ·have:=q2 E.P μ φ (fun i=>xs.getD i undef) (fun i u hu=>(hX E.P μ φ xs hl hr i u hu).2) i q hq;have bm:i<xs.size:=(Array.getElem?_eq_some_iff.1 hx).1;have e:xs.getD i undef=x:=by rw[Array.getElem?_eq_getElem bm]at hx;simp only[Option.some.injEq]at hx;simp[Array.getD,bm,hx]
        rw[←e];exact this
       ·rintro e w' ⟨y,rfl,hb,hy⟩;exact⟨y,cF μ w w',φ,rfl,hR.called hb,hF.ml (kv hR w') (.refl _),v4 E.P _ φ y hy,fun id hid=>by rw[v3]at hid;cases hid⟩
     |false=>
      simp only[Bool.false_eq_true,if_false]at nd v2;obtain⟨q0,q1,q2⟩:=sr nd;refine .inl ⟨v,f,m1,_,v2,fun hd=>by(cases hd),fun hq=>absurd (hq (true,0) (by simp)) (by simp),Ti,fun w0 μ φ ρ w xs hR hF hl hr Ho=>?_⟩;obtain⟨μ1,r1,r2,r3⟩:=q2 E.P E.aD w0 μ φ w (fun i=>xs.getD i undef) hR (fun i u hu=>(hX E.P μ φ xs hl hr i u hu).2);refine(hM ps p hp w μ1 xs r2.ro r2.aD (by omega) (fun i q x hq hx=>?_)).mono ?_
      ·have:=r3 i q hq;have bm:i<xs.size:=(Array.getElem?_eq_some_iff.1 hx).1;have e:xs.getD i undef=x:=by rw[Array.getElem?_eq_getElem bm]at hx;simp only[Option.some.injEq]at hx;simp[Array.getD,bm,hx]
       rw[←e];exact this
      ·rintro e w' ⟨y,rfl,hb,hy⟩;exact⟨y,cF μ1 w w',φ,rfl,r2.called hb,hF.ml (fun b o h=>kv r2 w' b o (r1 b o h)) q0,v4 E.P _ φ y hy,fun id hid=>by rw[v3]at hid;cases hid⟩
    ·cases h
  ·cases h
 ·rename_i RL;split at h
  ·rename_i M tW;obtain⟨Ti,hM⟩:=hE.own g M tW;split at h
   ·rename_i fn hg;split at h
    ·rename_i t ht;split at h
     ·rename_i e hu;split at h
      ·rename_i WH;obtain⟨WH,sX⟩:=WH;split at h
       ·rename_i ps nd;obtain⟨p,hp,h⟩:=Option.bind_eq_some_iff.1 h;obtain⟨es,Ff,h⟩:=Option.bind_eq_some_iff.1 h;obtain⟨f',m',n1,n2,n3,n4,n5⟩:=ei h;refine .inl ⟨_,f',m',_,n2,fun hd=>?_,fun hq=>absurd (hq (true,site) (by simp)) (by simp),Ti,fun w0 μ φ ρ w xs hR hF hl hr Ho=>?_⟩
        ·obtain⟨d1,d2,d3⟩:=n4 hd;subst hd;refine⟨d2,some (site,_),d3,by simp,fun f2 m2 cq R' k'=>?_⟩;have LI:pH (kD m2 eL) args=pH (kD m eL) args:=lG fun v hv=>pU _ fun id hid=>cq (false,id) (by simp only[List.mem_append,List.mem_map];exact .inr ⟨id,eu.2 ⟨v,hv,hid⟩,rfl⟩);have je:iH (cS m2 eL) args=iH (cS m eL) args:=iN fun v hv=>lV _ fun id hid=>cq (false,id) (by simp only[List.mem_append,List.mem_map];exact .inr ⟨id,eu.2 ⟨v,hv,hid⟩,rfl⟩);simp only[uT,RL,tW,hg,ht,hu];rw[if_pos ⟨WH,sX⟩];simp only[LI,nd,hp,Option.bind_some,Ff,je];have Mh:m2 site=none:=by rw[cq (true,site) (by simp)];exact d1
         simp only[fresh,Mh];rfl
        ·obtain⟨p1,p2⟩:=gV nd;refine(hM fn t e hg ht hu ps p hp w (e9 w) xs (fun _ _ h=>h) (fun g cs hg=>(hR.aD g cs hg).mono hR.wP) (by omega) (fun i q x hq hx=>?_)).mono ?_
         ·obtain⟨u,qt,hf⟩:=p2 i q hq;exact sU hR hR.wP (fun _ _ _ _ _=>rfl) _ hf (hr i u x qt hx)
         rintro en w' ⟨y,ph,es',rfl,hb,rfl,Cl,hA,hy⟩;have aag:es'=es:=by simp only[aa,if_true,Option.some.injEq]at Ff;exact Ff
         subst aag;rw[sX]at hA;have hA2:aF E.P (me (cF μ w w') ph.g) (fun _=>ph) w' 0 1 e (es'.map FL):=hA.T5;have Gg:=hR.F6 hb Cl;have Xi:bZ E.P (me (cF μ w w') ph.g) φ m f ρ:=hF.ml (fun b o h=>ye hR w' Cl b o h) (.refl _);have hP:kF E.P w0 (me (cF μ w w') ph.g) φ m w' w' site (.arr (aP E.P e) e (es'.map FL)) ph:=by
          refine⟨kG.refl _ _,Gg.ro,fun _ _ _ _ _=>rfl,fun g hg=>⟨?_,?_,?_⟩,fun φ' hp _=>by rw[sX];exact hA2.move hp (fun _ _ h=>h),by simp[bE.names],fun st h=>by cases h⟩
          ·have:=Cl g hg;have:=hR.below.size;exact Nat.le_trans this (Cl g hg)
          ·simp[me,hg]
          ·intro id b' gB bP;have h1:=(hR.dy id b' gB).Dp bP;have h2:=Cl g hg;omega
         obtain⟨φ',a1,a2,a3⟩:=n5 E.P E.aD w0 _ φ w' w' ρ ph Gg Xi hP;refine⟨y,_,φ',rfl,a2,a3,?_,fun id hid=>?_⟩
         ·cases hy with
          |rL h=>exact .rL (by rw[a1];exact h)
          | @os _ g h=>have:=ae.os (P:=E.P) (μ:=me (cF μ w w') ph.g) (φ:=φ') (id:=site) (g:=g) (by rw[a1];exact h);rw[a1]at this;exact this
         ·have hid:=Nat.eq_of_beq_eq_true hid;subst hid;simp[n3]
       ·cases h
      rename_i WH;split at h
      ·rename_i ps m1 nd;obtain⟨p,hp,h⟩:=Option.bind_eq_some_iff.1 h;obtain⟨es,Ff,h⟩:=Option.bind_eq_some_iff.1 h;obtain⟨f',m',n1,n2,n3,n4,n5⟩:=ei h;have fin:∀(w0:br)(μ μ1:Ro)(φ:Nat→aA)(ρ:Nat→Value)(w:World)(xs:Array Value),(∀b o,μ b=some o→μ1 b=some o)→jW m (if draw then m else m1)→av E.P E.aD w0 μ1 φ (if draw then m else m1) w→bZ E.P μ φ m f ρ→ps.length=xs.size→(∀(i:Nat)p x,ps[i]?=some p→xs[i]?=some x→af E.P μ1 p x)→Calls E.P g xs w fun e w'=>∃y μ' φ',e=.returned y∧av E.P E.aD w0 μ' φ' m' w'∧bZ E.P μ' φ' m' f' ρ∧ae E.P μ' φ' (.os site) y∧∀id,(V.os site).has id=true→(m' id).isSome=true:=by
        intro w0 μ μ1 φ ρ w xs hle Ho hR hF hl hr;refine(hM fn t e hg ht hu ps p hp w μ1 xs hR.ro hR.aD hl hr).mono ?_;rintro en w' ⟨y,ph,es',rfl,hb,rfl,Cl,hA,hy⟩;have aag:es'=es:=by simp only[aa,if_true,Option.some.injEq]at Ff;exact Ff
        subst aag;have Gg:=hR.F6 hb Cl;have Xi:bZ E.P (me (cF μ1 w w') ph.g) φ (if draw then m else m1) f ρ:=hF.ml (fun b o h=>ye hR w' Cl b o (hle b o h)) Ho;have hP:kF E.P w0 (me (cF μ1 w w') ph.g) φ (if draw then m else m1) w' w' site (.arr (aP E.P e) e es') ph:=by
         refine⟨kG.refl _ _,Gg.ro,fun _ _ _ _ _=>rfl,fun g hg=>⟨?_,?_,?_⟩,fun φ' hp _=>hA.move hp (fun _ _ h=>h),by simp[bE.names],fun st h=>by cases h⟩
         ·have:=Cl g hg;have:=hR.below.size;exact Nat.le_trans this (Cl g hg)
         ·simp[me,hg]
         ·intro id b' gB bP;have h1:=(hR.dy id b' gB).Dp bP;have h2:=Cl g hg;omega
        obtain⟨φ',a1,a2,a3⟩:=n5 E.P E.aD w0 _ φ w' w' ρ ph Gg Xi hP;refine⟨y,_,φ',rfl,a2,a3,?_,fun id hid=>?_⟩
        ·cases hy with
         |rL h=>exact .rL (by rw[a1];exact h)
         | @os _ g h=>have:=ae.os (P:=E.P) (μ:=me (cF μ1 w w') ph.g) (φ:=φ') (id:=site) (g:=g) (by rw[a1];exact h);rw[a1]at this;exact this
        ·have hid:=Nat.eq_of_beq_eq_true hid;subst hid;simp[n3]
       cases draw with
       |true=>
        simp only[if_true]at nd n2 fin n4;obtain⟨q1,q2⟩:=oV nd;obtain⟨d1,d2,d3⟩:=n4 trivial;refine .inl ⟨_,f',m',_,n2,fun _=>⟨d2,some (site,_),d3,by simp,fun f2 m2 cq R' k'=>?_⟩,fun hq=>absurd (hq (true,site) (by simp)) (by simp),Ti,fun w0 μ φ ρ w xs hR hF hl hr Ho=>?_⟩
        ·simp only[uT,RL,tW,hg,ht,hu];rw[if_neg WH];simp only[if_true,nd,hp,Option.bind_some,Ff];have Mh:m2 site=none:=by rw[cq (true,site) (by simp)];exact d1
         simp only[fresh,Mh];rfl
        ·refine fin w0 μ μ φ ρ w xs (fun _ _ h=>h) (.refl _) hR hF (by omega) fun i q x hq hx=>?_;have:=q2 E.P μ φ (fun i=>xs.getD i undef) (fun i u hu=>(hX E.P μ φ xs hl hr i u hu).2) i q hq;have bm:i<xs.size:=(Array.getElem?_eq_some_iff.1 hx).1;have e:xs.getD i undef=x:=by rw[Array.getElem?_eq_getElem bm]at hx;simp only[Option.some.injEq]at hx;simp[Array.getD,bm,hx]
         rw[←e];exact this
       |false=>
        simp only[Bool.false_eq_true,if_false]at nd n2 fin n4;obtain⟨q0,q1,q2⟩:=sr nd;refine .inl ⟨_,f',m',_,n2,fun hd=>by(cases hd),fun hq=>absurd (hq (true,site) (by simp)) (by simp),Ti,fun w0 μ φ ρ w xs hR hF hl hr Ho=>?_⟩;obtain⟨μ1,r1,r2,r3⟩:=q2 E.P E.aD w0 μ φ w (fun i=>xs.getD i undef) hR (fun i u hu=>(hX E.P μ φ xs hl hr i u hu).2);refine fin w0 μ μ1 φ ρ w xs r1 q0 r2 hF (by omega) fun i q x hq hx=>?_;have:=r3 i q hq;have bm:i<xs.size:=(Array.getElem?_eq_some_iff.1 hx).1;have e:xs.getD i undef=x:=by rw[Array.getElem?_eq_getElem bm]at hx;simp only[Option.some.injEq]at hx;simp[Array.getD,bm,hx]
        rw[←e];exact this
      ·cases h
     ·cases h
    ·cases h
   ·cases h
  ·split at h
   ·cases h
   ·rename_i hd;exact .inr ⟨by simpa using hd,hE.inl _ _ _ _ _ _ _ _ h⟩
end
end Go.Ab
