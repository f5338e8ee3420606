import Derived.Test.YtcmhmlnkhmefbaaAbP3
import Derived.WideKeyRuns
import Derived.MapKept
import Derived.RangeFuncRecord
set_option linter.unusedVariables false
namespace Go.Ab
open Go.RowKit (Below)
section
variable {R:Type} {E:Env}
theorem cells_one{x:Value}(h:x.oneCell'=true):x.cells= #[x]:=by cases x<;>first|rfl|(simp[Value.oneCell']at h)
theorem af.elem{P:Program}{μ:Ro}{n:Nat}{p:PV}{x:Value}(h:af P μ p x)(hl:p.cells.length=n)(hp:p.plain=true):nX P μ n p x:=by
 cases hq:p.isAgg with
 |true=>
  cases p<;>simp[PV.isAgg]at hq;cases h with
  |agg h1 h2 h3=>exact⟨hl,by simp only[PV.cells]at hl;simp only[Value.cells];omega,h2,h3⟩
 |false=>
  have hc:p.cells=[p]:=by cases p<;>first|rfl|(simp[PV.isAgg]at hq)
  have h1:x.oneCell'=true:=h.one (fun cs e=>by subst e;simp[PV.isAgg]at hq) (fun cs e=>by subst e;simp[PV.plain]at hp) (fun e=>by subst e;simp[PV.plain]at hp);have hx:=cells_one h1;refine⟨hl,by rw[hx];rw[hc]at hl;simpa using hl,fun j q y hj hy=>?_,fun j y hy=>?_⟩
  ·rw[hc]at hj;rw[hx]at hy;cases j with
   |zero=>simp at hj hy;subst hj;subst hy;exact h
   |succ j=>simp at hj
  ·rw[hx]at hy;cases j with
   |zero=>simp at hy;subst hy;exact h1
   |succ j=>simp at hy
variable{t:TypeId}
theorem vw{z:PV}(h:vj E t=some z):∃i zv,E.P.info? t=some i∧i.zero=some zv∧i.size=aH E.P t∧(∀μ,af E.P μ z zv)∧∀μ,nX E.P μ (aH E.P t) z zv:=by
 unfold vj zeroV at h;cases hi:E.P.info? t with
 |none=>simp[hi]at h
 |some i=>
  cases hz:i.zero with
  |none=>simp[hi,hz]at h
  |some zv=>
   simp only[hi,hz,Option.bind_some,Option.map_some]at h;split at h
   ·rename_i p hp;split at h
    ·rename_i hc;simp only[Option.some.injEq]at h;subst h;have hr:∀μ,af E.P μ p zv:=fun μ=>oP 2 hp (oN (φ:=fun _=>default) zv);exact⟨i,zv,rfl,hz,by simp[aH,hi],hr,fun μ=>(hr μ).elem hc.2.1 hc.2.2⟩
    ·cases h
   ·cases h
theorem FQ{z:PV}(h:vj E t=some z):∃zv,(∀w,(zeroValue t).run E.P w=.ok zv w)∧∀μ,af E.P μ z zv:=by obtain⟨i,zv,h1,h2,h3,h4,_⟩:=vw h;exact⟨zv,fun w=>kW h1 h2,h4⟩
theorem Cells.made{P:Program}{μ:Ro}{sz:Nat}{z:PV}{zv:Value}(hE:nX P μ sz z zv)(dQ:0<sz)(n cap:Nat)(hn:n≤cap):Cells P μ sz (List.replicate n z) ((madeCells zv.cells (cap*sz)).toList.take ((List.replicate n z).length*sz)):=by
 have hle:n*sz≤cap*sz:=Nat.mul_le_mul_right _ hn;have ep:∀k y,((madeCells zv.cells (cap*sz)).toList.take ((List.replicate n z).length*sz))[k]?=some y→zv.cells[k%sz]?=some y:=by
  intro k y hk;obtain⟨h1,h2⟩:=du hk;simp only[List.length_replicate]at h1;have ba:k%sz<zv.cells.size:=by rw[hE.size];exact Nat.mod_lt _ dQ
  rw[Array.getElem?_toList,madeCells,Array.getElem?_map,Array.getElem?_range]at h2;rw[if_pos (by omega)]at h2;simp only[Option.map_some,Option.some.injEq,hE.size]at h2;rw[getElem!_pos zv.cells (k%sz) ba]at h2;rw[Array.getElem?_eq_getElem ba,h2]
 refine⟨by rw[List.length_take,List.length_replicate,Array.length_toList,size_madeCells];omega,fun i e hi=>?_,fun i e j p y hi hj hy=>?_,fun k y hk=>hE.one _ y (ep k y hk)⟩
 ·rw[List.getElem?_replicate]at hi;split at hi
  ·simp only[Option.some.injEq]at hi;subst hi;exact hE.len
  ·cases hi
 ·rw[List.getElem?_replicate]at hi;split at hi
  ·simp only[Option.some.injEq]at hi;subst hi;have u9:j<sz:=by rw[←hE.len];exact(List.getElem?_eq_some_iff.1 hj).1
   have:=ep _ y hy;rw[Nat.mul_comm,Nat.mul_add_mod,Nat.mod_eq_of_lt u9]at this;exact hE.rep j p y hj this
  ·cases hi
theorem Az{draw:Bool}{site:Nat}{len cap:V}{f:Fr}{m:Mem}{k:V→Fr→Mem→aY→Option R}{r:R}(h:mq E draw site t len cap f m k=some r):∃f' m' b,(draw=true→m site=none∧f'=f∧m'=ai m site b∧∀(f2:Fr)(m2:Mem),m2 site=none→∀(R':Type)(k':V→Fr→Mem→aY→Option R'),mq E true site t len cap f2 m2 k'=k' (.os site) f2 (ai m2 site b) [(true,site)])∧k (.os site) f' m' [(true,site)]=some r∧(m' site).isSome=true∧∀(G:Nat→Option (List PV))(w0:bg)(μ:Ro)(φ:Nat→aw)(w:World)(ρ:Nat→Value)(yl yc:Value),al E.P G w0 μ φ m w→bJ E.P μ φ m f ρ→ab E.P μ φ len yl→ab E.P μ φ cap yc→∃w' y φ',(Instr.makeSlice t yl yc).run E.P w=.ok y w'∧al E.P G w0 μ φ' m' w'∧bJ E.P μ φ' m' f' ρ∧ab E.P μ φ' (.os site) y:=by
 unfold mq at h;split at h
 ·rename_i e ql n qc c hu;split at h
  ·rename_i z hz;split at h
   ·rename_i hb;obtain⟨f',m',_,hk,qz,sw,qq⟩:=bR h;refine⟨f',m',.arr (aH E.P e) e (List.replicate n.toNat z),fun hd=>?_,hk,by simp[qz],fun G w0 μ φ w ρ yl yc hM hF hl hc=>?_⟩
    ·obtain⟨d1,d2,d3⟩:=sw hd;refine⟨d1,d2,d3,fun f2 m2 bY R' k'=>?_⟩;simp only[mq,hu,hz];rw[if_pos hb];simp[fresh,bY]
    ·obtain⟨i,zv,h1,h2,h3,_,h4⟩:=vw hz;obtain⟨UH,_⟩:=Bc h1;have Ru:c.toNat≤140737488355328:=by have:c.toNat*1≤c.toNat*Au E.P e:=Nat.mul_le_mul_left _ hb.2.2.2.1;have:=hb.2.2.1;simp only[aa]at this;omega
     cases hl with
     |pv hl=>cases hl with
      |int wl=>
       cases hc with
       |pv hc=>cases hc with
        |int wc=>
         have S6:(i.bytes:Int)*c≤281474976710656:=by
          have h5:=hb.2.2.1;simp only[aa]at h5;have h6:((c.toNat*Au E.P e:Nat):Int)≤140737488355328:=by omega
          rw[Int.natCast_mul,Int.toNat_of_nonneg (by omega)]at h6;rw[UH,Int.mul_comm];omega
         have hr:=run_make (P:=E.P) w t e i zv hu h1 h2 ql qc n c hb.1 hb.2.1 S6 (by omega);rw[h3]at hr;obtain⟨φ',a1,a2,a3⟩:=qq E.P G w0 μ φ w _ ρ (xt (some w.heap.size) c.toNat (List.replicate n.toNat z).length (aH E.P e)) hM hF (iD.alloc (o:=.cells (madeCells zv.cells (c.toNat*aH E.P e)) e) hM rfl (fun φ' hp _=>ay.lh (g:=w.heap.size) (by rw[hp]) rfl hb.2.2.2.2 (by rw[hp];simp only[maxLen];omega) (eQ w _) (by rw[hp];simp[size_madeCells]) (by rw[hp];simp;omega) (Cells.made (h4 μ) hb.2.2.2.2 _ _ (by omega))) (by simp[bn.names]));refine⟨_,_,φ',hr,a2,a3,?_⟩;have:=ab.os (P:=E.P) (μ:=μ) (φ:=φ') (id:=site) (g:=w.heap.size) (by rw[a1]);rw[a1]at this;simpa using this
   ·cases h
  ·cases h
 ·cases h
theorem FT(cells:Array Value)(n:Nat):Builtin.zeroCells cells n=madeCells cells (n*cells.size):=rfl
theorem Kr{x:V}{m:Mem}{k:V→Mem→aY→Option R}{r:R}(h:yf E t x m k=some r):∃id b,(∀m2:Mem,m2 id=m id→∀(R':Type)(k':V→Mem→aY→Option R'),yf E t x m2 k'=k' .top (ai m2 id b) [(true,id)])∧k .top (ai m id b) [(true,id)]=some r∧∀(G:Nat→Option (List PV))(w0:bg)(μ:Ro)(φ:Nat→aw)(w:World)(ρ:Nat→Value)(f:Fr)(yx:Value)(ts:List TypeId)(ty:TypeId),al E.P G w0 μ φ m w→bJ E.P μ φ m f ρ→ab E.P μ φ x yx→∃w',(Builtin.clear_ (t::ts).toArray ty #[yx]).run E.P w=.ok (.tuple #[]) w'∧al E.P G w0 μ φ (ai m id b) w'∧bJ E.P μ φ (ai m id b) f ρ:=by
 unfold yf at h;split at h
 ·rename_i e hu;split at h
  ·rename_i id lo len z hz;split at h
   ·rename_i sz et es hm;split at h
    ·rename_i hc;obtain⟨jF,rfl,hle,dQ⟩:=hc;refine⟨id,_,fun m2 bY R' k'=>?_,h,fun G w0 μ φ w ρ f yx ts ty hM hF hx=>?_⟩
     ·simp only[yf,hu,hz,bY,hm];rw[if_pos ⟨jF,trivial,hle,dQ⟩]
     ·obtain⟨i,zv,h1,h2,h3,h4,h5⟩:=vw hz;have hA:ay E.P μ φ w id sz et es:=hM.dq id _ hm;have RC:len=0→ai m id (.arr sz et (es.take lo++(List.replicate len z++es.drop (lo+len))))=m:=by
       intro h0;subst h0;rw[List.replicate_zero,List.nil_append,Nat.add_zero,List.take_append_drop];funext j;by_cases ej:j=id
       ·subst ej;simp[hm]
       ·rw[ak ej]
      cases hx with
      |my hg=>rw[RC rfl];exact⟨w,by simp[Builtin.clear_,run_underlying hu],hM,hF⟩
      | @eR _ _ _ cap g a hg hl ha Ru Ay=>
       by_cases h0:len=0
       ·rw[RC h0];subst h0;exact⟨w,by simp[Builtin.clear_,run_underlying hu],hM,hF⟩
       ·have lE:=hA.lb;have Kq:=hA.1;have aaj:=hA.2.1;have VM:a=⟨g,lo*sz,none⟩:=by
         rcases ha with ha|⟨ha,_⟩
         ·rw[ha,aaj]
         ·omega
        subst VM;obtain⟨c,T,c1,c2,c3,c4,c5⟩:=hA.cells hg;have DM:zv.cells.size=sz:=by rw[(h5 μ).size,jF]
        have hn:len*zv.cells.size=len*sz:=by rw[DM]
        have hlen:(madeCells zv.cells (len*sz)).toList.length=len*sz:=by simp[size_madeCells]
        have Px:(lo+len)*sz≤es.length*sz:=Nat.mul_le_mul_right _ hle;have nq:(lo+len)*sz=lo*sz+len*sz:=Nat.add_mul _ _ _;have oS:=Cells.made (P:=E.P) (μ:=μ) (by rw[←jF]at h5;exact h5 μ) (by rw[jF];exact dQ) len len (Nat.le_refl _);have oO:∀v∈(madeCells zv.cells (len*sz)).toList,v.oneCell'=true:=fun v hv=>by obtain⟨j,hj⟩:=List.getElem?_of_mem hv;refine oS.one j v ?_;rw[List.length_replicate,List.take_of_length_le (by rw[hlen];exact Nat.le_refl _)];exact hj
        have sJ:=run_storeCells_at E.P g (lo*sz) T (madeCells zv.cells (len*sz)).toList 0 c w c1 (by rw[hlen];omega) oO;rw[hlen,Nat.add_zero]at sJ;have VK:(es.take lo++(List.replicate len z++es.drop (lo+len))).length=es.length:=by simp;omega
        refine⟨w.setRow g (c.toList.take (lo*sz)++(madeCells zv.cells (len*sz)).toList++c.toList.drop (lo*sz+len*sz)).toArray,?_,hM.write hm rfl hg (iJ.setRow (Nat.le_refl _)) setRow_size (fun k hk=>bL hk) ?_ rfl (by simp[bn.names]),hF.jR (fun _ _ h=>h) .set⟩
        ·obtain⟨n',rfl⟩:∃n',len=n'+1:=⟨len-1,by omega⟩;simp[Builtin.clear_,run_underlying hu,kW h1 h2,FT,DM,sJ]
        ·refine ay.lh (g:=g) ?_ hA.2.2.1 hA.2.2.2.1 lE.2 (setRow_heap w g c _ T (0,0) c1) ?_ (by rw[VK];exact c3) ?_
         ·rw[VK,←hA.1,←hA.2.1];cases hq:(φ id).towC with
          |mk a b c d=>rw[hq]at hg;simp only at hg;simp[hg]
         ·simp only[List.size_toArray,List.length_append,List.length_take,hlen,List.length_drop,Array.length_toList];omega
         ·rw[VK];have UJ:Cells E.P μ sz (List.replicate len z) (madeCells zv.cells (len*sz)).toList:=by rw[List.length_replicate,List.take_of_length_le (by rw[hlen];exact Nat.le_refl _)]at oS;exact oS
          have hX:=(c5.take lo).append (UJ.append (c5.drop (lo+len)));have e1:(c.toList.take (lo*sz)++(madeCells zv.cells (len*sz)).toList++c.toList.drop (lo*sz+len*sz)).take (es.length*sz)=(c.toList.take (es.length*sz)).take (lo*sz)++((madeCells zv.cells (len*sz)).toList++(c.toList.take (es.length*sz)).drop ((lo+len)*sz)):=by
           have l1:(c.toList.take (lo*sz)).length=lo*sz:=by rw[List.length_take,Array.length_toList];omega
           have l2:(c.toList.take (lo*sz)++(madeCells zv.cells (len*sz)).toList).length=lo*sz+len*sz:=by rw[List.length_append,l1,hlen]
           rw[List.take_append,l2,List.take_of_length_le (by rw[l2];omega),List.take_take,Nat.min_eq_left (by omega),List.drop_take,nq,List.append_assoc]
          rw[e1];exact hX
    ·cases h
   ·cases h
  ·cases h
 ·cases h
theorem wK(off:Nat):∀(l:List Value)(k:Nat)(c:Array Value),off+k+l.length≤c.size→(l.zipIdx k).foldl (fun cs(x:Value×Nat)=>cs.setIfInBounds (off+x.2) x.1) c=(bu c.toList (off+k) l).toArray
 |[],k,c,_=>by simp[dr]
 |v::r,k,c,h=>by simp only[List.zipIdx_cons,List.foldl_cons];rw[wK off r (k+1) _ (by simp at h⊢;omega)];congr 1;have e:=list_seg_step c.toList (off+k) v r (by simp at h⊢;omega);simp only[dr,Array.toList_setIfInBounds,←Nat.add_assoc];rw[e];simp
theorem rZ{place:Nat→Option (Nat×Nat)}{c:Array Value}{i off size:Nat}{v:Value}{rest:List (Nat×Value)}(hp:place i=some (off,size))(hv:v.cells.size=size)(hb:off+size≤c.size):Instr.fill place c ((i,v)::rest)=Instr.fill place (bu c.toList off v.cells.toList).toArray rest:=by
 have h1:v.cells.zipIdx.foldl (fun cs(x:Value×Nat)=>cs.setIfInBounds (off+x.2) x.1) c=(bu c.toList off v.cells.toList).toArray:=by rw[←Array.foldl_toList,Array.toList_zipIdx];exact wK off v.cells.toList 0 c (by simp;omega)
 simp only[Instr.fill,hp];rw[if_neg (by simp[hv];omega)];rw[←h1]
theorem yP{place:Nat→Option (Nat×Nat)}:∀{parts:List (Nat×V)}{cs A6:List V},AM place cs parts=some A6→(∀id,bO id A6=true→bO id cs=true∨bO id (parts.map (·.2))=true)∧A6.length=cs.length∧∀(P:Program)(μ:Ro)(φ:Nat→aw)(c:Array Value)(cW:List (Nat×Value)),cW.length=parts.length→(∀(j i:Nat)v,parts[j]?=some (i,v)→∃y,cW[j]?=some (i,y)∧ab P μ φ v y)→c.size=cs.length→(∀(i:Nat)u y,cs[i]?=some u→c[i]?=some y→ab P μ φ u y)→(∀(i:Nat)(y:Value),c[i]?=some y→y.oneCell'=true)→∃c',Instr.fill place c cW=some c'∧c'.size=A6.length∧(∀(i:Nat)u y,A6[i]?=some u→c'[i]?=some y→ab P μ φ u y)∧(∀(i:Nat)(y:Value),c'[i]?=some y→y.oneCell'=true)
 |[],cs,A6,h=>by simp only[AM,Option.some.injEq]at h;subst h;refine⟨fun id hid=>.inl hid,rfl,fun P μ φ c cW hl _ hs hr h1=>?_⟩;have:cW=[]:=List.eq_nil_of_length_eq_zero (by simpa using hl);subst this;exact⟨c,rfl,hs,hr,h1⟩
 |(i,v)::rest,cs,A6,h=>by
  simp only[AM]at h;split at h
  ·rename_i off size hp;split at h
   ·rename_i new hn;split at h
    ·rename_i hb;obtain⟨n1,n2,n3⟩:=toCells_ok hn;obtain⟨f1,f2,f3⟩:=yP h;have hlen:(bu cs off new).length=cs.length:=bN (by omega);refine⟨fun id hid=>?_,by rw[f2,hlen],fun P μ φ c cW hl ky hs hr h1=>?_⟩
     ·rcases f1 id hid with h|h
      ·obtain⟨u,hu,hh⟩:=cw.1 h;simp only[dr,List.mem_append]at hu;rcases hu with(hu|hu)|hu
       ·exact .inl (bw (List.mem_of_mem_take hu) hh)
       ·exact .inr (by simp only[List.map_cons,bO,Bool.or_eq_true];exact .inl (n2 id (bw hu hh)))
       ·exact .inl (bw (List.mem_of_mem_drop hu) hh)
      ·exact .inr (by simp only[List.map_cons,bO,Bool.or_eq_true];exact .inr h)
     ·obtain⟨y,hy,P6⟩:=ky 0 i v (by simp);cases cW with
      |nil=>simp at hl
      |cons a jK=>
       simp at hy;subst hy;obtain⟨x1,x2,x3⟩:=n3 P μ φ y P6;rw[rZ hp x1 (by omega)];have lf:off+y.cells.toList.length≤c.toList.length:=by simp;omega
       have e1:y.cells.toList.length=new.length:=by simp;omega
       refine f3 P μ φ _ jK (by simpa using hl) (fun j i' v' hj=>?_) ?_ (fun j u z hu hz=>?_) (fun j z hz=>?_)
       ·have:=ky (j+1) i' v' (by simpa using hj);simpa using this
       ·simp only[List.size_toArray];rw[bN lf,hlen];simp[hs]
       ·rw[List.getElem?_toArray]at hz;rcases cV lf hz with⟨b1,b2,b3⟩|⟨b1,b2⟩<;>rcases cV (by omega) hu with⟨d1,d2,d3⟩|⟨d1,d2⟩
        ·exact x2 _ u z d3 (by simpa using b3)
        ·exfalso;omega
        ·exfalso;omega
        ·exact hr j u z d2 (by simpa using b2)
       ·rw[List.getElem?_toArray]at hz;rcases cV lf hz with⟨b1,b2,b3⟩|⟨b1,b2⟩
        ·exact x3 _ z (by simpa using b3)
        ·exact h1 j z (by simpa using b2)
    ·cases h
   ·cases h
  ·cases h
theorem yQ:∀{fs:List Field},fs.all (fun f=>(E.P.info? f.type).isSome)=true→fs.mapM (fun f=>(E.P.info? f.type).map fun i=>(f.offset,i.size))=some (fs.map fun f=>(f.offset,aH E.P f.type))
 |[],_=>rfl
 |f::r,h=>by simp only[List.all_cons,Bool.and_eq_true]at h;obtain⟨i,hi⟩:=Option.isSome_iff_exists.1 h.1;simp only[List.mapM_cons,hi,Option.map_some,yQ h.2,List.map_cons];simp[aH,hi]
theorem Ks{parts:List (Nat×V)}{k:V→Option R}{r:R}(h:vi E t parts k=some r):∃v,(∀(R':Type)(k':V→Option R'),vi E t parts k'=k' v)∧k v=some r∧(∀id,v.has id=true→bO id (parts.map (·.2))=true)∧∀(μ:Ro)(φ:Nat→aw)(w:World)(cW:Array (Nat×Value)),cW.size=parts.length→(∀(j i:Nat)v,parts[j]?=some (i,v)→∃y,cW[j]?=some (i,y)∧ab E.P μ φ v y)→∃z,(Instr.build t cW).run E.P w=.ok z w∧ab E.P μ φ v z:=by
 unfold vi at h;split at h
 ·rename_i z fs hz hu;split at h
  ·rename_i xz;split at h
   ·rename_i cs hf;obtain⟨i,zv,h1,h2,h3,h4,h5,h6,h7,h8⟩:=eh hz;obtain⟨f1,f2,f3⟩:=yP hf;refine⟨_,fun R' k'=>by simp only[vi,hz,hu,hf];rw[if_pos xz],h,fun id hid=>?_,fun μ φ w cW hl hp=>?_⟩
    ·simp only[V.has]at hid;exact(f1 id hid).resolve_left (by rw[h6];simp)
    ·obtain⟨c',c1,c2,c3,c4⟩:=f3 E.P μ φ zv.cells cW.toList (by simpa using hl) (fun j i v hj=>by simpa using hp j i v hj) (by omega) (h7 μ φ) h8;refine⟨_,run_build w t cW c' ?_,.agg c2.symm c3 c4⟩;simp only[Program.built,h1,hu,h2,yQ xz];rw[←c1];congr 1;funext j;simp[placesOf]
   ·cases h
  ·cases h
 ·rename_i z n e hz hu;split at h
  ·rename_i dQ;split at h
   ·rename_i cs hf;obtain⟨i,zv,h1,h2,h3,h4,h5,h6,h7,h8⟩:=eh hz;obtain⟨f1,f2,f3⟩:=yP hf;refine⟨_,fun R' k'=>by simp only[vi,hz,hu,hf];rw[if_pos dQ],h,fun id hid=>?_,fun μ φ w cW hl hp=>?_⟩
    ·simp only[V.has]at hid;exact(f1 id hid).resolve_left (by rw[h6];simp)
    ·obtain⟨c',c1,c2,c3,c4⟩:=f3 E.P μ φ zv.cells cW.toList (by simpa using hl) (fun j i v hj=>by simpa using hp j i v hj) (by omega) (h7 μ φ) h8;obtain⟨ie,hie,hse⟩:=rT (P:=E.P) (t:=e) (by omega);refine⟨_,run_build w t cW c' ?_,.agg c2.symm c3 c4⟩;simp only[Program.built,h1,hu,h2,hie,hse];exact c1
   ·cases h
  ·cases h
 ·cases h
theorem nZ{n:Nat}{agg:Bool}:∀{parts:List (Nat×V)}{m m':Mem}{i:Nat}{ps:List PV},ec m n agg i parts=some (ps,m')→gU m m'∧ps.length=parts.length∧∀(P:Program)(G:Nat→Option (List PV))(w0:bg)(μ:Ro)(φ:Nat→aw)(w:World)(cW:List (Nat×Value))(es:List PV)(c:Array Value),al P G w0 μ φ m w→cW.length=parts.length→(∀(j i:Nat)v,parts[j]?=some (i,v)→∃y,cW[j]?=some (i,y)∧ab P μ φ v y)→es.length=i→c.size=(i+parts.length)*n→Cells P μ n es (c.toList.take (es.length*n))→∃μ' c',(∀b o,μ b=some o→μ' b=some o)∧al P G w0 μ' φ m' w∧Instr.fill (fun i=>some (i*n,n)) c cW=some c'∧c'.size=(i+parts.length)*n∧Cells P μ' n (es++ps) c'.toList
 |[],m,m',i,ps,h=>by
  simp only[ec,Option.some.injEq,Prod.mk.injEq]at h;obtain⟨rfl,rfl⟩:=h;refine⟨.refl _,rfl,fun P G w0 μ φ w cW es c hM hl _ he hc hC=>⟨μ,c,fun _ _ h=>h,hM,?_,hc,?_⟩⟩
  ·have:cW=[]:=List.eq_nil_of_length_eq_zero (by simpa using hl);subst this;rfl
  ·rw[List.append_nil];rw[List.take_of_length_le (by simp at hc⊢;rw[hc,he];exact Nat.le_refl _)]at hC;exact hC
 |(j,v)::r,m,m',i,ps,h=>by
  simp only[ec]at h;split at h
  ·rename_i Kt;subst Kt;split at h
   ·rename_i p m1 hf;split at h
    ·rename_i P2 m2 hr;simp only[Option.some.injEq,Prod.mk.injEq]at h;obtain⟨rfl,rfl⟩:=h;obtain⟨a1,a2⟩:=yK hf;obtain⟨b1,b2,b3⟩:=nZ hr;refine⟨a1.trans b1,by simp[b2],fun P G w0 μ φ w cW es c hM hl hp he hc hC=>?_⟩;obtain⟨y,hy,P6⟩:=hp 0 i v (by simp);cases cW with
     |nil=>simp at hl
     |cons a jK=>
      simp at hy;subst hy;obtain⟨μ1,c1,c2,c3⟩:=a2 P G w0 μ φ w y hM P6;have lf:i*n+n≤c.size:=by rw[hc];have:(i+1)*n≤(i+(r.length+1))*n:=Nat.mul_le_mul_right _ (by omega);rw[Nat.add_mul]at this;simp at this⊢;omega
      have LQ:y.cells.toList.length=n:=by simpa using c3.size
      have I4:i*n+y.cells.toList.length≤c.toList.length:=by rw[LQ];simpa using lf
      obtain⟨μ2,c',d1,d2,d3,d4,d5⟩:=b3 P G w0 μ1 φ w jK (es++[p]) (bu c.toList (i*n) y.cells.toList).toArray c2 (by simpa using hl) (fun j i' v' hj=>by
       obtain⟨z,P7,S7⟩:=hp (j+1) i' v' (by simpa using hj);exact⟨z,by simpa using P7,S7.sF c1⟩) (by simp[he]) (by
       simp only[List.size_toArray];rw[bN I4];simp only[Array.length_toList,hc,List.length_cons];congr 1;omega) (by
       have e1:((bu c.toList (i*n) y.cells.toList).toArray.toList.take ((es++[p]).length*n))=c.toList.take (es.length*n)++y.cells.toList:=by simp only[dr,List.length_append,List.length_singleton,he];exact List.take_left' (by rw[List.length_append,LQ,List.length_take,Nat.min_eq_left (by simp;omega),Nat.add_mul,Nat.one_mul])
       rw[e1];refine(hC.mono c1).append ⟨by simp[LQ],fun k e hk=>?_,fun k e l q z hk hl hz=>?_,fun k z hz=>c3.one k z (by simpa using hz)⟩
       ·cases k with
        |zero=>simp at hk;subst hk;exact c3.len
        |succ k=>simp at hk
       ·cases k with
        |zero=>simp at hk;subst hk;exact c3.rep l q z hl (by simpa using hz)
        |succ k=>simp at hk)
      refine⟨μ2,c',fun b o h=>d1 b o (c1 b o h),d2,?_,by rw[d4];simp only[List.length_cons];congr 1;omega,by simpa using d5⟩;rw[rZ rfl c3.size lf];exact d3
    ·cases h
   ·cases h
  ·cases h
theorem Be:∀{parts:List (Nat×V)}{i:Nat}{cs:List V},yb i parts=some cs→cs.length=parts.length∧(∀id,bO id cs=true→bO id (parts.map Prod.snd)=true)∧∀(P:Program)(μ:Ro)(φ:Nat→aw)(cW:List (Nat×Value))(c:Array Value),cW.length=parts.length→(∀(j i:Nat)v,parts[j]?=some (i,v)→∃y,cW[j]?=some (i,y)∧ab P μ φ v y)→c.size=i+parts.length→∃c',Instr.fill (fun i=>some (i*1,1)) c cW=some c'∧c'.size=c.size∧(∀j,j<i→c'[j]?=c[j]?)∧∀j u,cs[j]?=some u→∃y,c'[i+j]?=some y∧ab P μ φ u y∧y.oneCell'=true
 |[],i,cs,h=>by simp only[yb,Option.some.injEq]at h;subst h;refine⟨rfl,by simp[bO],fun P μ φ cW c hl _ hc=>⟨c,?_,rfl,fun _ _=>rfl,by simp⟩⟩;have:cW=[]:=List.eq_nil_of_length_eq_zero (by simpa using hl);subst this;rfl
 |(j,v)::r,i,cs,h=>by
  simp only[yb]at h;split at h
  ·rename_i Kt;subst Kt;split at h
   ·rename_i us0 hf;split at h
    ·rename_i us hr;simp only[Option.some.injEq]at h;subst h;obtain⟨a1,a2,a3⟩:=toCells_ok hf;obtain⟨b1,b2,b3⟩:=Be hr;refine⟨by simp[a1,b1];omega,fun id hid=>?_,fun P μ φ cW c hl hp hc=>?_⟩
     ·obtain⟨u,hu,hh⟩:=cw.1 hid;rcases List.mem_append.1 hu with hu|hu
      ·simp only[List.map_cons,bO,Bool.or_eq_true];exact .inl (a2 id (bw hu hh))
      ·simp only[List.map_cons,bO,Bool.or_eq_true];exact .inr (b2 id (bw hu hh))
     ·obtain⟨y,hy,P6⟩:=hp 0 i v (by simp);cases cW with
      |nil=>simp at hl
      |cons a jK=>
       simp at hy;subst hy;obtain⟨c1,c2,c3⟩:=a3 P μ φ y P6;have lf:i*1+1≤c.size:=by simp at hc;omega
       have LQ:y.cells.toList.length=1:=by simpa using c1
       have I4:i*1+y.cells.toList.length≤c.toList.length:=by rw[LQ];simpa using lf
       obtain⟨c',d1,d2,d3,d4⟩:=b3 P μ φ jK (bu c.toList (i*1) y.cells.toList).toArray (by simpa using hl) (fun j i' v' hj=>by
        obtain⟨z,P7,S7⟩:=hp (j+1) i' v' (by simpa using hj);exact⟨z,by simpa using P7,S7⟩) (by
        simp only[List.size_toArray];rw[bN I4];simp only[Array.length_toList,hc,List.length_cons];omega)
       have il:∀k,(bu c.toList (i*1) y.cells.toList).toArray[k]?=if k=i then y.cells[0]? else c[k]?:=fun k=>by
        rw[List.getElem?_toArray];rw[dr];rw[List.append_assoc,List.getElem?_append,List.length_take,Nat.min_eq_left (by simp;omega),List.getElem?_append,LQ];by_cases h1:k<i*1
        ·rw[if_pos h1,if_neg (by omega),List.getElem?_take_of_lt h1,Array.getElem?_toList]
        ·rw[if_neg h1];by_cases h2:k=i
         ·subst h2;rw[if_pos (by omega),if_pos rfl];simp
         ·rw[if_neg (by omega),if_neg h2,List.getElem?_drop,Array.getElem?_toList];congr 1;omega
       refine⟨c',?_,by rw[d2];simp only[List.size_toArray];rw[bN I4];simp,fun k hk=>?_,fun k u hu=>?_⟩
       ·rw[rZ rfl c1 lf];exact d1
       ·rw[d3 k (by omega),il,if_neg (by omega)]
       ·have h0:us0.length=1:=a1;rw[List.getElem?_append,h0]at hu;split at hu
        ·rename_i hk;have VN:k=0:=by omega
         subst VN;have h5:=d3 i (by omega);rw[il,if_pos rfl]at h5;have ba:0<y.cells.size:=by omega
         have h6:y.cells[0]?=some y.cells[0]:=Array.getElem?_eq_getElem ba;rw[h6]at h5;exact⟨_,by simpa using h5,c2 0 u _ hu h6,c3 0 _ h6⟩
        ·rename_i hk;obtain⟨z,z1,z2,z3⟩:=d4 (k-1) u hu;exact⟨z,by rw[←z1];congr 1;omega,z2,z3⟩
    ·cases h
   ·cases h
  ·cases h
end
end Go.Ab
set_option linter.unusedVariables false
namespace Go.Ab
open Go.RowKit (Below)
section
variable {P:Program}
theorem fK:∀(d:Nat)(t:TypeId)(ks:List Kd),uZ P d t=some ks→∀(D:Nat)(w:World)(em:Bool)(ps:List PV),iK ks ps=true→(Instr.checkKey em (D+d) t (ev P t ps)).run P w=.ok () w
 |0,t,ks,h,_,_,_,_,_=>by simp[uZ]at h
 |d+1,t,ks,h,D,w,em,ps,hp=>by
  have ih:=fK d;unfold uZ at h;split at h
  ·rename_i q hu;simp only[Option.some.injEq]at h;subst h;have ha:aq P t=false:=by simp[aq,hu]
   obtain⟨p,rfl,LU⟩:=jQ hp;clear hp;cases p<;>simp[oI]at LU;simp[ev,ha,valOf,←Nat.add_assoc,Instr.checkKey,run_underlying hu]
  ·rename_i hu;simp only[Option.some.injEq]at h;subst h;have ha:aq P t=false:=by simp[aq,hu]
   obtain⟨p,rfl,LU⟩:=jQ hp;clear hp;cases p<;>simp[oI]at LU;simp[ev,ha,valOf,←Nat.add_assoc,Instr.checkKey,run_underlying hu]
  ·rename_i hu;simp only[Option.some.injEq]at h;subst h;have ha:aq P t=false:=by simp[aq,hu]
   obtain⟨p,rfl,LU⟩:=jQ hp;clear hp;cases p<;>simp[oI]at LU;simp[ev,ha,valOf,←Nat.add_assoc,Instr.checkKey,run_underlying hu]
  ·rename_i fs hu;split at h
   ·cases h
   ·obtain⟨a,ha,h⟩:=Option.bind_eq_some_iff.1 h;split at h
    ·rename_i hlen;simp only[Option.some.injEq]at h;subst h;have Mz:aq P t=true:=by simp[aq,hu]
     simp only[ev,Mz,if_true,←Nat.add_assoc];rw[Instr.checkKey];simp only[Sem.run_bind,run_underlying hu,Result.andThen_ok];rw[←Array.forIn_toList];have key:∀(L:List Field)(off:Nat)(b:List Kd),ml (uZ P d) L off=some b→off≤ps.length→iK b (ps.drop off)=true→(forIn L PUnit.unit fun f(_:PUnit)=>(do
       if f.name≠ "_" then Instr.checkKey em (D+d) f.type (←part f.type (ps.map valOf).toArray f.offset)
       pure (ForInStep.yield PUnit.unit):Sem (ForInStep PUnit))).run P w=.ok PUnit.unit w:=by
      intro L;induction L with
      |nil=>intro off b _ _ _;simp
      |cons f L ihL=>
       intro off b hb o1 h1;simp only[ml]at hb;split at hb
       ·rename_i hf;obtain⟨c,hc,hb⟩:=Option.bind_eq_some_iff.1 hb;obtain⟨b',fl,hb⟩:=Option.bind_eq_some_iff.1 hb;simp only[Option.some.injEq]at hb;subst hb;rw[mC]at h1;have l1:=lW h1.1;simp only[List.length_take,List.length_drop]at l1;have p1:=ig (w:=w) (ps:=ps) (off:=off) hc (by omega);have p3:=ih f.type c hc D w em _ h1.1;have p4:=ihL (off+c.length) b' fl (by omega) (by rw[←List.drop_drop];exact h1.2);simp only[List.forIn_cons,hf.2,ne_eq,not_false_eq_true,if_true,Sem.run_bind,hf.1,p1,p3,Result.andThen_ok,Sem.run_pure];exact p4
       ·cases hb
     have:=key fs.toList 0 a ha (by simp) (by simpa using hp);simp at this;simp[this]
    ·cases h
  ·rename_i n e hu;obtain⟨a,ha,h⟩:=Option.bind_eq_some_iff.1 h;split at h
   ·rename_i hlen;simp only[Option.some.injEq]at h;subst h;have Mz:aq P t=true:=by simp[aq,hu]
    obtain⟨_,_,de,ZY⟩:=rV ha;have jF:(sizeOf e).run P w=.ok a.length w:=by rw[hlen.1];exact wG ZY
    simp only[ev,Mz,if_true,←Nat.add_assoc];rw[Instr.checkKey];simp only[Sem.run_bind,run_underlying hu,Result.andThen_ok];simp only[Std.Legacy.Range.forIn_eq_forIn_range',Std.Legacy.Range.size,Nat.sub_zero,Nat.add_one_sub_one,Nat.div_one];have key:∀(k j:Nat),j*a.length≤ps.length→iK (mn a k) (ps.drop (j*a.length))=true→(forIn (List.range' j k) PUnit.unit fun i(_:PUnit)=>(do
      Instr.checkKey em (D+d) e (←part e (ps.map valOf).toArray (i*(←sizeOf e)))
      pure (ForInStep.yield PUnit.unit):Sem (ForInStep PUnit))).run P w=.ok PUnit.unit w:=by
     intro k;induction k with
     |zero=>intro j _ _;simp
     |succ k SZ=>
      intro j o1 h1;simp only[mn]at h1;rw[mC]at h1;have l1:=lW h1.1;simp only[List.length_take,List.length_drop]at l1;have p1:=ig (w:=w) (ps:=ps) (off:=j*a.length) ha (by omega);have p3:=ih e a ha D w em _ h1.1;have ej:(j+1)*a.length=j*a.length+a.length:=by rw[Nat.add_mul];omega
      have p4:=SZ (j+1) (by omega) (by rw[ej,←List.drop_drop];exact h1.2);rw[List.range'_succ];simp only[List.forIn_cons,Sem.run_bind,jF,p1,p3,Result.andThen_ok,Sem.run_pure];exact p4
    have:=key n 0 (by simp) (by simpa using hp);simp at this;simp[this]
   ·cases h
  ·cases h
variable{kt:TypeId}{ks:List Kd}
theorem jB{μ:Ro}{k:PV}{y:Value}(h:pU P kt ks k=true)(hy:af P μ k y):iK ks k.cells=true∧y=ev P kt k.cells:=by
 simp only[pU,Bool.and_eq_true,beq_iff_eq]at h;refine⟨h.1,?_⟩;cases hq:k.isAgg with
 |true=>
  cases k<;>simp[PV.isAgg]at hq;cases hy with
  |agg h1 h2 h3=>have:=nU h.1 h1.symm h2;rw[this];simp[ev,h.2,PV.isAgg,PV.cells]
 |false=>
  have hc:k.cells=[k]:=by cases k<;>first|rfl|(simp[PV.isAgg]at hq)
  have h1:=h.1;rw[hc]at h1;cases ks with
  |nil=>simp[iK]at h1
  |cons kd r=>simp only[iK,Bool.and_eq_true]at h1;have:=A3 h1.1 hy;simp[ev,h.2,hq,hc,this]
theorem Cs:∀{ks:List Kd}{ps qs:List PV},iK ks ps=true→iK ks qs=true→cA ps qs=true→ps=qs
 |[],[],[],_,_,_=>rfl
 |k::ks,p::ps,q::qs,h1,h2,h3=>by
  simp only[iK,Bool.and_eq_true]at h1 h2;simp only[cA,Bool.and_eq_true]at h3;rw[Cs h1.2 h2.2 h3.2];have:p=q:=by cases k<;>cases p<;>simp[oI]at h1<;>cases q<;>simp[oI]at h2<;>simp[peq]at h3<;>simp_all
  rw[this]
 |[],p::ps,_,h,_,_=>by simp[iK]at h
 |k::ks,[],_,h,_,_=>by simp[iK]at h
 |[],[],q::qs,_,h,_=>by simp[iK]at h
 |k::ks,p::ps,[],_,h,_=>by simp[iK]at h
structure qP(P:Program)(μ:Ro)(kt:TypeId)(ks:List Kd)(l:List (PV×PV))(es:List MapEntry):Prop where
 len:es.length=l.length
 key:∀(i:Nat)k v,l[i]?=some (k,v)→pU P kt ks k=true
 rep:∀(i:Nat)k v e,l[i]?=some (k,v)→es[i]?=some e→af P μ k e.key∧af P μ v e.val
variable{l:List (PV×PV)}{es:List MapEntry}
theorem qP.tail{μ:Ro}{x:PV×PV}{e:MapEntry}(h:qP P μ kt ks (x::l) (e::es)):qP P μ kt ks l es:=⟨by simpa using h.len,fun i k v hi=>h.key (i+1) k v (by simpa using hi),fun i k v e hi he=>h.rep (i+1) k v e (by simpa using hi) (by simpa using he)⟩
inductive Found(k v:PV)(z:PV)(l:List (PV×PV))(es:List MapEntry)(i:Nat):Option (Nat×Value)→Prop
 |none:qn k l=false→dB k z l=z→eA k v l=l++[(k,v)]→Found k v z l es i none
 |some {j:Nat} {a u:PV} {e:MapEntry}:l[j]?=some (a,u)→es[j]?=some e→cA k.cells a.cells=true→qn k l=true→dB k z l=u→eA k v l=l.set j (k,v)→Found k v z l es i (some (i+j,e.val))
theorem Found.cons{k v z:PV}{x:PV×PV}{l:List (PV×PV)}{e:MapEntry}{es:List MapEntry}{i:Nat}{r:Option (Nat×Value)}(hx:cA k.cells x.1.cells=false)(h:Found k v z l es (i+1) r):Found k v z (x::l) (e::es) i r:=by
 obtain⟨a,u⟩:=x;cases h with
 |none h1 h2 h3=>exact .none (by simpa[qn,hx]using h1) (by simpa[dB,hx]using h2) (by simpa[eA,hx]using h3)
 | @some j a' u' e' h1 h2 h3 h4 h5 h6=>have:=Found.some (k:=k) (v:=v) (z:=z) (l:=(a,u)::l) (es:=e::es) (i:=i) (j:=j+1) (a:=a') (u:=u') (e:=e') (by simpa using h1) (by simpa using h2) h3 (by simpa[qn,hx]using h4) (by simpa[dB,hx]using h5) (by simpa[eA,hx]using h6);rw[show i+1+j=i+(j+1) by omega];exact this
theorem Found.here{k v z:PV}{a u:PV}{e:MapEntry}{i:Nat}(hx:cA k.cells a.cells=true):Found k v z ((a,u)::l) (e::es) i (Option.some (i,e.val)):=by have:=Found.some (k:=k) (v:=v) (z:=z) (l:=(a,u)::l) (es:=e::es) (i:=i) (j:=0) (a:=a) (u:=u) (e:=e) (by simp) (by simp) hx (by simp[qn,hx]) (by simp[dB,hx]) (by simp[eA,hx]);simpa using this
theorem mI{μ:Ro}{kt:TypeId}{ks:List Kd}{k v z:PV}(hk:uZ P 8 kt=some ks)(vz:iK ks k.cells=true)(w:World):∀(l:List (PV×PV))(es:List MapEntry)(i:Nat),qP P μ kt ks l es→∃r,(Instr.findAsking kt (ev P kt k.cells) es i).run P w=.ok r w∧Found k v z l es i r
 |[],es,i,h=>by have:es=[]:=List.eq_nil_of_length_eq_zero (by simpa using h.len);subst this;exact⟨none,by simp[Instr.findAsking],.none rfl rfl rfl⟩
 |(a,u)::l,es,i,h=>by
  cases es with
  |nil=>have:=h.len;simp at this
  |cons e es=>
   have VO:=h.key 0 a u (by simp);obtain⟨h1,h2⟩:=jB VO (h.rep 0 a u e (by simp) (by simp)).1;have he:(Op.equal kt (ev P kt k.cells) e.key).run P w=.ok (cA k.cells a.cells) w:=by rw[h2];exact lF 8 kt ks hk 9992 w _ _ vz h1
   cases hp:cA k.cells a.cells with
   |true=>exact⟨some (i,e.val),by simp[Instr.findAsking,he,hp],.here hp⟩
   |false=>obtain⟨r,r1,r2⟩:=mI (v:=v) (z:=z) hk vz w l es (i+1) h.tail;exact⟨r,by simp[Instr.findAsking,he,hp,r1],r2.cons hp⟩
theorem wL{μ:Ro}{kt:TypeId}{d:TypeDesc}{ks:List Kd}{k v z:PV}(hu:P.underlying kt=some d)(ha:aq P kt=false)(hk:uZ P 8 kt=some ks)(vz:iK ks k.cells=true):∀(l:List (PV×PV))(es:List MapEntry)(i:Nat),qP P μ kt ks l es→∃r,Instr.findNow d (ev P kt k.cells) es i=some r∧Found k v z l es i r
 |[],es,i,h=>by have:es=[]:=List.eq_nil_of_length_eq_zero (by simpa using h.len);subst this;exact⟨none,by simp[Instr.findNow],.none rfl rfl rfl⟩
 |(a,u)::l,es,i,h=>by
  cases es with
  |nil=>have:=h.len;simp at this
  |cons e es=>
   have VO:=h.key 0 a u (by simp);obtain⟨h1,h2⟩:=jB VO (h.rep 0 a u e (by simp) (by simp)).1;have he:Instr.sameNow d (ev P kt k.cells) e.key=some (cA k.cells a.cells):=by
    rw[h2];have sx:=hk;unfold uZ at sx;rw[hu]at sx;cases d<;>simp at sx<;>try (simp[aq,hu]at ha;done)
    all_goals subst sx;obtain⟨p,Vr,hp2⟩:=jQ vz;obtain⟨q,Vs,Rt⟩:=jQ h1;rw[Vr,Vs];cases p<;>simp[oI]at hp2;cases q<;>simp[oI]at Rt;simp[ev,ha,valOf,Instr.sameNow,cA,peq,hp2,Rt]
    all_goals (rw[Bool.eq_iff_iff,Go.MapKept.bytes_beq];simp only[beq_iff_eq];exact⟨fun hh=>by have:=congrArg ByteArray.data hh;simpa using this,fun hh=>by rw[hh]⟩)
   cases hp:cA k.cells a.cells with
   |true=>exact⟨some (i,e.val),by simp[Instr.findNow,he,hp],.here hp⟩
   |false=>obtain⟨r,r1,r2⟩:=wL (v:=v) (z:=z) hu ha hk vz l es (i+1) h.tail;exact⟨r,by simp[Instr.findNow,he,hp,r1],r2.cons hp⟩
theorem iY{μ:Ro}{k v z:PV}(hk:uZ P 8 kt=some ks)(vz:iK ks k.cells=true)(w:World)(h:qP P μ kt ks l es):∃r,(Instr.findKey kt (ev P kt k.cells) es).run P w=.ok r w∧Found k v z l es 0 r:=by
 obtain⟨_,_,d,hu⟩:=rV hk;cases ha:aq P kt with
 |true=>rw[run_findKey_eq w (by unfold aq at ha;rw[hu]at ha⊢;cases d<;>simp_all)];exact mI hk vz w l es 0 h
 |false=>obtain⟨r,r1,r2⟩:=wL (v:=v) (z:=z) hu ha hk vz l es 0 h;exact⟨r,Go.MapKept.run_findKey hu r1,r2⟩
end
end Go.Ab
set_option linter.unusedVariables false
namespace Go.Ab
open Go.RowKit (Below)
section
variable {R:Type} {E:Env}
variable{P:Program}{t:TypeId}{ks:List Kd}
theorem sc(h:nB P t=some ks):uZ P 8 t=some ks:=by
 unfold nB at h;split at h
 ·cases h
 ·exact h
variable{kt:TypeId}
theorem oU{v:V}{key:PV}(h:keyOf E kt v=some key):∃ks,nB E.P kt=some ks∧pU E.P kt ks key=true∧∀(μ:Ro)(φ:Nat→aw)(y:Value),ab E.P μ φ v y→af E.P μ key y:=by
 unfold keyOf at h;split at h
 ·rename_i ks MA;refine⟨ks,MA,?_⟩;split at h
  ·rename_i ha;split at h
   ·rename_i cs hc;split at h
    ·rename_i ps hp;split at h
     ·rename_i yE;simp only[Option.some.injEq]at h;subst h;obtain⟨_,c2⟩:=la hc;obtain⟨p1,p2⟩:=fB hp;refine⟨by simp[pU,PV.cells,yE,ha,PV.isAgg],fun μ φ y hy=>?_⟩;obtain⟨xs,rfl,h1,h2,h3⟩:=c2 E.P μ φ y hy;refine .agg (by omega) (fun i q z hq hz=>?_) h3;obtain⟨u,hu,hf⟩:=p2 i q hq;exact oP 1 hf (h2 i u z hu hz)
     ·cases h
    ·cases h
   ·cases h
  ·rename_i ha;split at h
   ·rename_i p;split at h
    ·rename_i yE;simp only[Option.some.injEq]at h;subst h;refine⟨?_,fun μ φ y hy=>by cases hy with|pv hy=>exact hy⟩;cases ks with
     |nil=>simp[iK]at yE
     |cons kd r=>
      have VP:=yE;simp only[iK,Bool.and_eq_true]at VP;have Rs:aq E.P kt=false:=by simpa using ha
      cases kd<;>cases p<;>simp[oI]at VP<;>simp_all[pU,PV.cells,PV.isAgg]
    ·cases h
   ·cases h
 ·cases h
variable{en:Array MapEntry}
theorem jc.push{clock:Nat}(h:jc en clock){k v:Value}:jc (en.push {key:=k,val:=v,born:=clock}) (clock+1):=by
 intro i e hi;rw[Array.getElem?_push]at hi;split at hi
 ·rename_i e1;simp only[Option.some.injEq]at hi;subst hi;refine⟨Nat.lt_succ_self _,fun j e' hj hb=>?_⟩;rw[Array.getElem?_push]at hj;split at hj
  ·rename_i e2;omega
  ·have:=(h j e' hj).1;simp only at hb;omega
 ·obtain⟨h1,h2⟩:=h i e hi;refine⟨by omega,fun j e' hj hb=>?_⟩;rw[Array.getElem?_push]at hj;split at hj
  ·simp only[Option.some.injEq]at hj;subst hj;simp only at hb;omega
  ·exact h2 j e' hj hb
theorem jc.modify{en:Array MapEntry}{clock:Nat}(h:jc en clock)(f:MapEntry→MapEntry)(hf:∀e,(f e).born=e.born)(k:Nat):jc (en.modify k f) clock:=by
 have key:∀(i:Nat)e,(en.modify k f)[i]?=some e→∃e0,en[i]?=some e0∧e.born=e0.born:=fun i e hi=>by
  rw[Array.getElem?_modify]at hi;split at hi
  ·obtain⟨e0,h0,rfl⟩:=Option.map_eq_some_iff.1 hi;exact⟨e0,h0,hf e0⟩
  ·exact⟨e,hi,rfl⟩
 intro i e hi;obtain⟨e0,h0,hb0⟩:=key i e hi;obtain⟨h1,h2⟩:=h i e0 h0;refine⟨by omega,fun j e' hj hb=>?_⟩;obtain⟨e1,h3,Px⟩:=key j e' hj;exact h2 j e1 h3 (by omega)
inductive MM(w:World):Value→Array MapEntry→Prop
 |nil:MM w (.map none) #[]
 |at{g clock:Nat} {en:Array MapEntry}:w.heap[g]?=some (.map en clock)→MM w (.map (some g)) en
theorem mJ{μ:Ro}{et:TypeId}{key z:PV}{zv y yi:Value}{w:World}{l:List (PV×PV)}{ok:Bool}(hu:P.underlying t=some (.map kt et))(hk:nB P kt=some ks)(oa:pU P kt ks key=true)(hyi:af P μ key yi)(hy:MM w y en)(hE:qP P μ kt ks l en.toList)(hz:(zeroValue et).run P w=.ok zv w)(hzr:af P μ z zv):∃v,(Instr.lookup t y yi ok).run P w=.ok (if ok then .tuple #[v,.bool (qn key l)]else v) w∧af P μ (dB key z l) v:=by
 have Ku:=sc hk;obtain⟨hc,hv⟩:=jB oa hyi;obtain⟨r,r1,r2⟩:=iY (v:=.bad) (z:=z) Ku hc w hE;have h1:=fK 8 kt ks Ku 9992 w en.isEmpty key.cells hc;rw[hv];have lC:∀(x:Value×Bool),(r=none→x=(zv,false))→(∀j v,r=some (j,v)→x=(v,true))→(Instr.lookup t y (ev P kt key.cells) ok).run P w=.ok (if ok then .tuple #[x.1,.bool x.2]else x.1) w:=by
  intro x VH hx2;cases hy with
  |nil=>
   have I5:(Instr.checkKey true 10000 kt (ev P kt key.cells)).run P w=.ok () w:=h1;have r1':(Instr.findKey kt (ev P kt key.cells) []).run P w=.ok r w:=r1;unfold Instr.lookup;simp only[Sem.run_bind,run_underlying hu,Result.andThen_ok,Sem.run_pure];cases r with
   |none=>rw[VH rfl];cases ok<;>simp[I5,r1',hz]
   |some jv=>obtain⟨j,v⟩:=jv;rw[hx2 j v rfl];cases ok<;>simp[I5,r1']
  | «at» hg=>
   have xx:=Go.MapKept.run_getObj_map (P:=P) hg;have I5:(Instr.checkKey en.isEmpty 10000 kt (ev P kt key.cells)).run P w=.ok () w:=h1;unfold Instr.lookup;simp only[Sem.run_bind,run_underlying hu,Result.andThen_ok,Sem.run_pure,xx];cases r with
   |none=>rw[VH rfl];cases ok<;>simp[I5,r1,hz]
   |some jv=>obtain⟨j,v⟩:=jv;rw[hx2 j v rfl];cases ok<;>simp[I5,r1]
 cases r2 with
 |none f1 f2 f3=>refine⟨zv,?_,by rw[f2];exact hzr⟩;rw[f1];exact lC (zv,false) (fun _=>rfl) (fun j v h=>by cases h)
 | @some j a u e f1 f2 f3 f4 f5 f6=>refine⟨e.val,?_,by rw[f5];exact(hE.rep j a u e f1 f2).2⟩;rw[f4];exact lC (e.val,true) (fun h=>by cases h) (fun j' v h=>by simp only[Option.some.injEq,Prod.mk.injEq]at h;rw[h.2])
variable{m:Mem}
theorem FU{x ix:V}{ok:Bool}{k:V→aY→Option R}{r:R}(h:pf E t x ix ok m k=some r):∃v ft,(∀m2:Mem,(∀x∈ft,m2 x.2=m x.2)→∀(R':Type)(k':V→aY→Option R'),pf E t x ix ok m2 k'=k' v ft)∧k v ft=some r∧(∀x∈ft,x.1=false)∧(∀id,v.has id=false)∧∀(G:Nat→Option (List PV))(w0:bg)(μ:Ro)(φ:Nat→aw)(w:World)(y yi:Value),al E.P G w0 μ φ m w→ab E.P μ φ x y→ab E.P μ φ ix yi→∃u,(Instr.lookup t y yi ok).run E.P w=.ok u w∧ab E.P μ φ v u:=by
 have out:∀(q:PV)(b:Bool)(id:Nat),(if ok=true then V.bA [.pv q,.pv (.bool b)]else .pv q).has id=false:=by intro q b id;cases ok<;>simp[V.has,bO]
 have rep:∀(μ:Ro)(φ:Nat→aw)(q:PV)(b:Bool)(v:Value),af E.P μ q v→ab E.P μ φ (if ok=true then V.bA [.pv q,.pv (.bool b)]else .pv q) (if ok=true then .tuple #[v,.bool b]else v):=by
  intro μ φ q b v hv;cases ok with
  |false=>exact .pv hv
  |true=>
   refine .bA (by simp) fun i p y hp hy=>?_;match i with
   |0=>simp at hp hy;subst hp;subst hy;exact .pv hv
   |1=>simp at hp hy;subst hp;subst hy;exact .pv .bool
   |n+2=>simp at hp
 unfold pf at h;split at h
 ·rename_i kt et hu;split at h
  ·rename_i z hz;obtain⟨zv,P7,S7⟩:=FQ hz;split at h
   ·rename_i id;split at h
    ·rename_i qp es hm;split at h
     ·rename_i S8;subst S8;obtain⟨key,oa,h⟩:=Option.bind_eq_some_iff.1 h;obtain⟨q,q1,q2,q3,_⟩:=iV h;obtain⟨ks,k1,k2,k3⟩:=oU oa;refine⟨_,_,fun m2 bY R' k'=>by have:=bY (false,id) (by simp);simp only at this;simp only[pf,hu,hz,this,hm,oa,Option.bind_some,if_true];exact q1 R' _,q2,by simp,out q _,fun G w0 μ φ w y yi hM hx hi=>?_⟩;obtain⟨g,en,clock,kk,hg,hh,hs,hk,yE,_,hv⟩:=hM.dq id _ hm;rw[k1]at hk;simp only[Option.some.injEq]at hk;subst hk;cases hx with
      |om bF=>rw[hg]at bF;simp only[Option.some.injEq]at bF;subst bF;obtain⟨v,v1,v2⟩:=mJ (ok:=ok) (z:=z) hu k1 k2 (k3 μ φ yi hi) (.at hh) (l:=es) ⟨by simpa using hs,yE,fun i k v e h1 h2=>hv i k v e h1 (by simpa using h2)⟩ (P7 w) (S7 μ);exact⟨_,v1,rep μ φ q _ v (q3 _ _ _ v2)⟩
     ·cases h
    ·cases h
   ·rename_i pm;unfold dF at h;split at h
    ·obtain⟨key,oa,h⟩:=Option.bind_eq_some_iff.1 h;obtain⟨ks,k1,k2,k3⟩:=oU oa;refine⟨_,_,fun m2 bY R' k'=>by simp only[pf,hu,hz,dF,oa,Option.bind_some],h,by simp,out z _,fun G w0 μ φ w y yi hM hx hi=>?_⟩;cases hx with
     |pv hx=>cases hx with
      |qm=>obtain⟨v,v1,v2⟩:=mJ (ok:=ok) (z:=z) hu k1 k2 (k3 μ φ yi hi) .nil (l:=[]) ⟨by simp,by simp,by simp⟩ (P7 w) (S7 μ);exact⟨_,v1,rep μ φ z _ v v2⟩
    ·rename_i qp ks' vs';split at h
     ·rename_i S8;subst S8;obtain⟨key,oa,h⟩:=Option.bind_eq_some_iff.1 h;obtain⟨q,q1,q2,q3,_⟩:=iV h;obtain⟨ks,k1,k2,k3⟩:=oU oa;refine⟨_,_,fun m2 bY R' k'=>by simp only[pf,hu,hz,dF,oa,Option.bind_some,if_true];exact q1 R' _,q2,by simp,out q _,fun G w0 μ φ w y yi hM hx hi=>?_⟩;cases hx with
      |pv hx=>cases hx with
       | @rm _ _ _ b clock en kk m1 m2 m3 m4 m5 m6 m7=>
        rw[k1]at m4;simp only[Option.some.injEq]at m4;subst m4;have S9:∀(i:Nat)k v,(ks'.zip vs')[i]?=some (k,v)→ks'[i]?=some k∧vs'[i]?=some v:=fun i k v h=>by rw[List.getElem?_zip_eq_some]at h;exact h
        obtain⟨v,v1,v2⟩:=mJ (ok:=ok) (z:=z) hu k1 k2 (k3 μ φ yi hi) (.at (hM.ro _ _ m1)) (l:=ks'.zip vs') ⟨by simp[m2,m3],fun i k v h=>m5 i k (S9 i k v h).1,fun i k v e h1 h2=>⟨m6 i k e (S9 i k v h1).1 (by simpa using h2),m7 i v e (S9 i k v h1).2 (by simpa using h2)⟩⟩ (P7 w) (S7 μ);exact⟨_,v1,rep μ φ q _ v (q3 _ _ _ v2)⟩
     ·cases h
    ·cases h
   ·cases h
  ·cases h
 ·cases h
variable{m':Mem}
theorem Bf{v:V}{p:PV}(h:pd m v=some (p,m')):gU m m'∧∀(P:Program)(G:Nat→Option (List PV))(w0:bg)(μ:Ro)(φ:Nat→aw)(w:World)(x:Value),al P G w0 μ φ m w→ab P μ φ v x→∃μ',(∀b o,μ b=some o→μ' b=some o)∧al P G w0 μ' φ m' w∧af P μ' p x:=by
 unfold pd at h;split at h
 ·rename_i cs;split at h
  ·rename_i ps m1 hf;simp only[Option.some.injEq,Prod.mk.injEq]at h;obtain⟨rfl,rfl⟩:=h;obtain⟨f1,f2,f3⟩:=yJ hf;refine⟨f1,fun P G w0 μ φ w x hM hx=>?_⟩;cases hx with
   | @agg _ xs h1 h2 h3=>
    have hX:∀(i:Nat),i<cs.length→xs[i]?=some (xs.getD i undef):=fun i hi=>by
     have ba:i<xs.size:=by omega
     rw[Array.getElem?_eq_getElem ba];simp[Array.getD,ba]
    obtain⟨μ',e1,e2,e3⟩:=f3 P G w0 μ φ w (fun i=>xs.getD i undef) hM fun i u hu=>h2 i u _ hu (hX i (List.getElem?_eq_some_iff.1 hu).1);refine⟨μ',e1,e2,.agg (by omega) (fun j q y hq hy=>?_) h3⟩;have:=e3 j q hq;rw[hX j (by have:=(List.getElem?_eq_some_iff.1 hq).1;omega)]at hy;simp only[Option.some.injEq]at hy;subst hy;exact this
  ·cases h
 ·exact I2 h
theorem wM{v:V}{p:PV}(h:pd cO v=some (p,m')):∀(P:Program)(μ:Ro)(φ:Nat→aw)(x:Value),ab P μ φ v x→af P μ p x:=by
 unfold pd at h;split at h
 ·rename_i cs;split at h
  ·rename_i ps m1 hf;simp only[Option.some.injEq,Prod.mk.injEq]at h;obtain⟨rfl,rfl⟩:=h;obtain⟨f2,f3⟩:=te hf;intro P μ φ x hx;cases hx with
   | @agg _ xs h1 h2 h3=>
    have hX:∀(i:Nat),i<cs.length→xs[i]?=some (xs.getD i undef):=fun i hi=>by
     have ba:i<xs.size:=by omega
     rw[Array.getElem?_eq_getElem ba];simp[Array.getD,ba]
    have e3:=f3 P μ φ (fun i=>xs.getD i undef) fun i u hu=>h2 i u _ hu (hX i (List.getElem?_eq_some_iff.1 hu).1);refine .agg (by omega) (fun j q y hq hy=>?_) h3;have:=e3 j q hq;rw[hX j (by have:=(List.getElem?_eq_some_iff.1 hq).1;omega)]at hy;simp only[Option.some.injEq]at hy;subst hy;exact this
  ·cases h
 ·exact A9 h
theorem FV{draw:Bool}{v:V}{p:PV}(h:tV draw m v=some (p,m')):gU m m'∧(draw=true→m'=m∧∀m2:Mem,tV true m2 v=some (p,m2))∧∀(P:Program)(G:Nat→Option (List PV))(w0:bg)(μ:Ro)(φ:Nat→aw)(w:World)(x:Value),al P G w0 μ φ m w→ab P μ φ v x→∃μ',(∀b o,μ b=some o→μ' b=some o)∧al P G w0 μ' φ m' w∧af P μ' p x:=by
 unfold tV at h;split at h
 ·rename_i hd;split at h
  ·rename_i q m1 hf;simp only[Option.some.injEq,Prod.mk.injEq]at h;obtain⟨rfl,rfl⟩:=h;exact⟨.refl _,fun _=>⟨rfl,fun m2=>by simp[tV,hf]⟩,fun P G w0 μ φ w x hM hx=>⟨μ,fun _ _ h=>h,hM,wM hf P μ φ x hx⟩⟩
  ·cases h
 ·rename_i hd;obtain⟨h1,h2⟩:=Bf h;exact⟨h1,fun I3=>absurd I3 hd,h2⟩
theorem sP:∀{ps:List PV},iK ks ps=true→∀(n:Nat),(ps.map valOf).all (fun v=>Instr.sameBits n v v)=true:=by
 induction ks with
 |nil=>intro ps h n;cases ps<;>simp[iK]at h;rfl
 |cons k ks ih=>
  intro ps h n;cases ps with
  |nil=>simp[iK]at h
  |cons p ps=>simp only[iK,Bool.and_eq_true]at h;simp only[List.map_cons,List.all_cons,ih h.2 n,Bool.and_true];cases k<;>cases p<;>simp[oI]at h<;>simp[valOf,Instr.sameBits,(Go.MapKept.bytes_beq _ _).2]
theorem qQ{ps:List PV}(h:iK ks ps=true)(hl:aq P t=false→ps.length=1)(n:Nat):Instr.sameBits (n+1) (ev P t ps) (ev P t ps)=true:=by
 unfold ev;cases ha:aq P t with
 |true=>
  have:=sP h n;simp only[if_true,Instr.sameBits,BEq.rfl,Bool.true_and];generalize ps.map valOf=xs at this;induction xs with
  |nil=>rfl
  |cons x r ih=>simp only[List.all_cons,Bool.and_eq_true]at this;simp[this.1];simpa using ih this.2
 |false=>
  have h1:=hl ha;match ps,h1 with
  |[p],_=>have:=sP h (n+1);simpa using this
theorem sQ{draw:Bool}{x key val:V}{k:Mem→aY→Option R}{r:R}(h:kH E draw t x key val m k=some r):∃m' ft,k m' ft=some r∧(draw=true→∃id b,m'=ai m id b∧ft=[(true,id)]∧∀m2:Mem,m2 id=m id→∀(R':Type)(k':Mem→aY→Option R'),kH E true t x key val m2 k'=k' (ai m2 id b) [(true,id)])∧gU m m'∧∀(G:Nat→Option (List PV))(w0:bg)(μ:Ro)(φ:Nat→aw)(w:World)(ya yk yv:Value),al E.P G w0 μ φ m w→ab E.P μ φ x ya→ab E.P μ φ key yk→ab E.P μ φ val yv→∃w' μ',(Instr.mapUpdate t ya yk yv).run E.P w=.ok () w'∧(∀b o,μ b=some o→μ' b=some o)∧al E.P G w0 μ' φ m' w':=by
 unfold kH at h;split at h
 ·rename_i kt et hu;split at h
  ·rename_i id;split at h
   ·rename_i v m1 hf;obtain⟨f1,f2,f3⟩:=FV hf;split at h
    ·rename_i qp es hm;split at h
     ·rename_i S8;subst S8;obtain⟨kp,oa,h⟩:=Option.bind_eq_some_iff.1 h;obtain⟨ks,k1,k2,k3⟩:=oU oa;refine⟨_,_,h,fun hd=>?_,f1.trans .set,fun G w0 μ φ w ya yk yv hM hx hk hv=>?_⟩
      ·obtain⟨rfl,f4⟩:=f2 hd;exact⟨id,_,rfl,rfl,fun m2 bY R' k'=>by simp only[kH,hu,f4 m2,bY,hm,oa,Option.bind_some,if_true]⟩
      ·obtain⟨μ',g1,g2,g3⟩:=f3 _ _ _ _ _ _ _ hM hv;obtain⟨g,en,clock,kk,hg,hh,hs,vz,yE,pY,ib⟩:=g2.dq id _ hm;rw[k1]at vz;simp only[Option.some.injEq]at vz;subst vz;have Ku:=sc k1;have UK:=(k3 μ φ yk hk).mono g1;obtain⟨hc,Ta⟩:=jB k2 UK;have hE:qP E.P μ' qp ks es en.toList:=⟨by simpa using hs,yE,fun i k v e h1 h2=>ib i k v e h1 (by simpa using h2)⟩;obtain⟨res,r1,r2⟩:=iY (v:=v) (z:=.bad) Ku hc w hE;have xx:=Go.MapKept.run_getObj_map (P:=E.P) hh;have h1:(Instr.checkKey false 10000 qp yk).run E.P w=.ok () w:=by rw[Ta];exact fK 8 qp ks Ku 9992 w false kp.cells hc
       rw[←Ta]at r1;have ba:g<w.heap.size:=(Array.getElem?_eq_some_iff.1 hh).1;cases hx with
       |om bF=>
        rw[hg]at bF;simp only[Option.some.injEq]at bF;subst bF;have fin:∀(o:Obj)(Fu:Array MapEntry)(lH:Nat),o=.map Fu lH→(Instr.mapUpdate t (.map (some g)) yk yv).run E.P w=.ok () {w with heap:=w.heap.setIfInBounds g o}→jc Fu lH→qP E.P μ' qp ks (eA kp v es) Fu.toList→∃w' μ',(Instr.mapUpdate t (.map (some g)) yk yv).run E.P w=.ok () w'∧(∀b o,μ b=some o→μ' b=some o)∧al E.P G w0 μ' φ (ai m1 id (.map qp (eA kp v es))) w':=by rintro o Fu lH rfl hr aak UL;refine⟨_,μ',hr,g1,g2.write hm rfl hg ⟨⟨rfl,rfl,rfl,by simp,fun k hk=>by simp[Array.getElem?_setIfInBounds_ne (Nat.ne_of_gt hk)]⟩,fun _=>Nat.le_refl _⟩ (by simp) (fun k hk=>by simp[Array.getElem?_setIfInBounds_ne (Ne.symm hk)]) ?_ rfl (by simp[bn.names])⟩;exact⟨g,Fu,lH,ks,hg,by simp[ba],by simpa using UL.len,k1,UL.key,aak,fun i k v e h1 h2=>UL.rep i k v e h1 (by simpa using h2)⟩
        cases r2 with
        |none e1 e2 e3=>
         have P8:=Go.MapKept.run_setObj_map (P:=E.P) (.map (en.push {key:=yk,val:=yv,born:=clock}) (clock+1)) hh;refine fin _ _ _ rfl (by simp only[Instr.mapUpdate,Sem.run_bind,run_underlying hu,xx,h1,r1,Result.andThen_ok];exact P8) pY.push ?_;rw[e3];have ep:∀(i:Nat)k' v' e,(es++[(kp,v)])[i]?=some (k',v')→(en.push {key:=yk,val:=yv,born:=clock}).toList[i]?=some e→(es[i]?=some (k',v')∧en.toList[i]?=some e)∨(k'=kp∧v'=v∧e.key=yk∧e.val=yv):=by
          intro i k' v' e h1 h2;rw[Array.toList_push,List.getElem?_append]at h2;rw[List.getElem?_append]at h1;rw[hE.len]at h2;split at h1
          ·rename_i hi;rw[if_pos hi]at h2;exact .inl ⟨h1,h2⟩
          ·rename_i hi;rw[if_neg hi]at h2;cases hj:i-es.length with
           |zero=>rw[hj]at h1 h2;simp at h1 h2;exact .inr ⟨h1.1.symm,h1.2.symm,by rw[←h2],by rw[←h2]⟩
           |succ j=>rw[hj]at h1;simp at h1
         refine⟨by simp[hs],fun i k' v' h=>?_,fun i k' v' e h1 h2=>?_⟩
         ·rw[List.getElem?_append]at h;split at h
          ·exact yE i k' v' h
          ·cases hj:i-es.length with
           |zero=>rw[hj]at h;simp at h;rw[←h.1];exact k2
           |succ j=>rw[hj]at h;simp at h
         ·rcases ep i k' v' e h1 h2 with⟨a1,a2⟩|⟨rfl,rfl,a3,a4⟩
          ·exact hE.rep i k' v' e a1 a2
          ·exact⟨by rw[a3];exact UK,by rw[a4];exact g3⟩
        | @some j a u e e1 e2 e3 e4 e5 e6=>
         have Z3:en[j]?=some e:=by simpa using e2
         obtain⟨VQ,hva⟩:=jB (yE j a u e1) (ib j a u e e1 Z3).1;have pz:=Cs hc VQ e3;have VR:Instr.sameBits 10000 e.key yk=true:=by rw[hva,Ta,←pz];refine qQ (n:=9999) hc (fun ha=>?_);rw[lW hc];exact(rV Ku).2.1 ha
         have P8:=Go.MapKept.run_setObj_map (P:=E.P) (.map (en.modify j fun e=>{e with key:=yk,val:=yv}) clock) hh;have u9:j<en.size:=(Array.getElem?_eq_some_iff.1 Z3).1;refine fin _ _ _ rfl (by simp only[Instr.mapUpdate,Sem.run_bind,run_underlying hu,xx,h1,r1,Result.andThen_ok];simp only[Nat.zero_add,Z3,Option.map_some,Option.getD_some,Instr.keyThatStays,VR,if_true,Sem.run_pure,Result.andThen_ok];exact P8) (pY.modify (fun e=>{e with key:=yk,val:=yv}) (fun _=>rfl) _) ?_;rw[e6];have oT:∀(i:Nat)k' v',(es.set j (kp,v))[i]?=some (k',v')→(i=j∧k'=kp∧v'=v)∨(i≠j∧es[i]?=some (k',v')):=by
          intro i k' v' h;rw[List.getElem?_set]at h;split at h
          ·rename_i Kt;subst Kt;split at h
           ·simp only[Option.some.injEq,Prod.mk.injEq]at h;exact .inl ⟨rfl,h.1.symm,h.2.symm⟩
           ·cases h
          ·rename_i Kt;exact .inr ⟨fun e=>Kt e.symm,h⟩
         refine⟨by simp[hs],fun i k' v' h=>?_,fun i k' v' e' h1 h2=>?_⟩
         ·rcases oT i k' v' h with⟨rfl,rfl,rfl⟩|⟨_,h⟩
          ·exact k2
          ·exact yE i k' v' h
         ·have Kv:(en.modify j fun e=>{e with key:=yk,val:=yv})[i]?=some e':=by rw[Array.getElem?_toList]at h2;exact h2
          rw[Array.getElem?_modify]at Kv;rcases oT i k' v' h1 with⟨rfl,rfl,rfl⟩|⟨cq,h1⟩
          ·rw[if_pos rfl,Z3]at Kv;simp only[Option.map_some,Option.some.injEq]at Kv;subst Kv;exact⟨UK,g3⟩
          ·rw[if_neg (Ne.symm cq)]at Kv;exact hE.rep i k' v' e' h1 (by simpa using Kv)
     ·cases h
    ·cases h
   ·cases h
  ·cases h
 ·cases h
theorem DP{μ:Ro}{φ:Nat→aw}{w:World}{site:Nat}(hk:nB P kt=some ks)(hφ:(φ site).g=some w.heap.size):fm P μ φ (w.alloc (.map #[] 0)) site (.map kt []):=⟨w.heap.size,#[],0,ks,hφ,eQ w _,rfl,hk,by simp,fun i e h=>by simp at h,by simp⟩
end
end Go.Ab
set_option linter.unusedVariables false
namespace Go.Ab
open Go.RowKit (Below)
def qK(P:Program)(G:Nat→Option (List PV))(g:FuncId)(M:List PV→Option PV):Prop:=
 (∃fn c,P.funcs[g]?=some fn∧fn.body=some c∧(fn.name== "runtime.NumGoroutine")=false)∧
 ∀(ps:List PV)(r:PV),M ps=some r→∀(w:World)(μ:Ro)(xs:Array Value),(∀b o,μ b=some o→w.heap[b]?=some o)→(∀g cs,G g=some cs→sE P μ g cs)→ps.length=xs.size→(∀(i:Nat)p x,ps[i]?=some p→xs[i]?=some x→af P μ p x)→Calls P g xs w fun e w'=>∃y,e=.returned y∧iJ w.heap.size w w'∧af P (cn μ w w') r y
def vo(P:Program)(G:Nat→Option (List PV))(g:FuncId)(M:List PV→Option PV):Prop:=
 (∃fn c,P.funcs[g]?=some fn∧fn.body=some c∧(fn.name== "runtime.NumGoroutine")=false)∧
 ∀(fn:Func)(t e:TypeId),P.funcs[g]?=some fn→fn.resultTypes.toList=[t]→P.underlying t=some (.slice e)→∀(ps:List PV)(r:PV),M ps=some r→∀(w:World)(μ:Ro)(xs:Array Value),(∀b o,μ b=some o→w.heap[b]?=some o)→(∀g cs,G g=some cs→sE P μ g cs)→ps.length=xs.size→(∀(i:Nat)p x,ps[i]?=some p→xs[i]?=some x→af P μ p x)→Calls P g xs w fun en w'=>∃(y:Value)(ph:aw)(es:List PV),en=.returned y∧iJ w.heap.size w w'∧r=.rs (aH P e) es∧(∀g,ph.g=some g→w.heap.size≤g)∧ay P (jM (cn μ w w') ph.g) (fun _=>ph) w' 0 (aH P e) e es∧ab P μ (fun _=>ph) (.os 0) y
def VS(m:Mem):Option (Nat×bn)→Mem
 |some (id,b)=>ai m id b
 |none=>m
def VT(E:Env)(g:FuncId)(args:List V)(f:Fr)(m:Mem)(v:V)(f':Fr)(m':Mem):Prop:=
 (∃fn c,E.P.funcs[g]?=some fn∧fn.body=some c∧(fn.name== "runtime.NumGoroutine")=false)∧
 ∀(w0:bg)(μ:Ro)(φ:Nat→aw)(ρ:Nat→Value)(w:World)(xs:Array Value),al E.P E.ax w0 μ φ m w→bJ E.P μ φ m f ρ→args.length=xs.size→(∀(i:Nat)v x,args[i]?=some v→xs[i]?=some x→ab E.P μ φ v x)→(∀id,bO id args=true→(m id).isSome=true)→Calls E.P g xs w fun e w'=>∃y μ' φ',e=.returned y∧al E.P E.ax w0 μ' φ' m' w'∧bJ E.P μ' φ' m' f' ρ∧ab E.P μ' φ' v y∧∀id,v.has id=true→(m' id).isSome=true
def Ct{R:Type}(P:Program)(G:Nat→Option (List PV))(g:FuncId)(args:List V)(f:Fr)(m:Mem)(k:V→Fr→Mem→Option R)(r:R):Prop:=
 (∃fn c,P.funcs[g]?=some fn∧fn.body=some c∧(fn.name== "runtime.NumGoroutine")=false)∧
 ∀(w0:bg)(μ:Ro)(φ:Nat→aw)(ρ:Nat→Value)(w:World)(xs:Array Value),al P G w0 μ φ m w→bJ P μ φ m f ρ→args.length=xs.size→(∀(i:Nat)v x,args[i]?=some v→xs[i]?=some x→ab P μ φ v x)→(∀id,bO id args=true→(m id).isSome=true)→Calls P g xs w fun e w'=>∃v f' m' y μ' φ',k v f' m'=some r∧e=.returned y∧al P G w0 μ' φ' m' w'∧bJ P μ' φ' m' f' ρ∧ab P μ' φ' v y∧∀id,v.has id=true→(m' id).isSome=true
def oM(P:Program)(G:Nat→Option (List PV))(nt:Nat)(yl:YL)(w0:bg):Prop:=∀(R:Type)site id args f m(k:V→Fr→Mem→Option R)r,yl R nt site id args f m k=some r→∀(μ:Ro)(φ:Nat→aw)(ρ:Nat→Value)(w:World)(xs:Array Value),al P G w0 μ φ m w→bJ P μ φ m f ρ→(∀t,nt≤t→ρ t=w0.sv t)→args.length=xs.size→(∀(i:Nat)v x,args[i]?=some v→xs[i]?=some x→ab P μ φ v x)→(∀id,bO id args=true→(m id).isSome=true)→∀g,(φ id).g=some g→∃fn tmps assign body,(Instr.yield g xs).run P w=.ok (.round g fn tmps assign body) w∧RoundIn Fence.wide 0 P g fn tmps assign body w fun e w'=>∃v f' m' y μ' φ',k v f' m'=some r∧e=.returned y∧(∀b o,μ b=some o→μ' b=some o)∧al P G w0 μ' φ' m' w'∧bJ P μ' φ' m' f' ρ∧ab P μ' φ' v y∧∀id,v.has id=true→(m' id).isSome=true
theorem tZ(P:Program)(G:Nat→Option (List PV))(nt:Nat)(w0:bg):oM P G nt vd w0:=fun R site id args f m k r h=>by cases h
variable{G:Nat→Option (List PV)}{φ:Nat→aw}
theorem al.th{P:Program}{w0:bg}{μ:Ro}{m:Mem}{w:World}(h:al P G w0 μ φ m w){K:Ro}(hK:∀b o,K b=some o→μ b=some o):al P G {w0 with dt:=K} μ φ m w:=⟨h.below,h.ro,h.ax,h.dq,h.own,h.inj,h.apart,h.eT,h.base,hK,h.wB⟩
theorem al.yR{P:Program}{w0:bg}{μ:Ro}{m:Mem}{w:World}{K:Ro}(h:al P G {w0 with dt:=K} μ φ m w)(hK:∀b o,w0.dt b=some o→K b=some o):al P G w0 μ φ m w:=⟨h.below,h.ro,h.ax,h.dq,h.own,h.inj,h.apart,h.eT,h.base,fun b o hb=>h.dt b o (hK b o hb),h.wB⟩
theorem oM.th{P:Program}{G:Nat→Option (List PV)}{nt:Nat}{yl:YL}{w0:bg}(h:oM P G nt yl w0){K:Ro}(hK:∀b o,w0.dt b=some o→K b=some o):oM P G nt yl {w0 with dt:=K}:=fun R site id args f m k r hy μ φ ρ w xs hM hF hρ hl hr Ch g hg=>
  let⟨fn,tmps,assign,body,y1,y2⟩:=h R site id args f m k r hy μ φ ρ w xs (hM.yR hK) hF hρ hl hr Ch g hg
  ⟨fn,tmps,assign,body,y1,y2.mono fun e w'⟨v,f',m',y,μ',φ',a1,a2,a3,a4,a5⟩=>⟨v,f',m',y,μ',φ',a1,a2,a3,a4.th fun b o hb=>a3 b o (hM.dt b o hb),a5⟩⟩
def FH{R:Type}(P:Program)(G:Nat→Option (List PV))(g:FuncId)(yl:YL)(args:List V)(f:Fr)(m:Mem)(k:V→Fr→Mem→Option R)(r:R):Prop:=
 ∃fn c,P.funcs[g]?=some fn∧fn.body=some c∧(fn.name== "runtime.NumGoroutine")=false∧
 ∀(w0:bg)(μ:Ro)(φ:Nat→aw)(ρ:Nat→Value)(w:World)(xs:Array Value),al P G w0 μ φ m w→bJ P μ φ m f ρ→args.length=xs.size→(∀(i:Nat)v x,args[i]?=some v→xs[i]?=some x→ab P μ φ v x)→(∀id,bO id args=true→(m id).isSome=true)→oM P G fn.ntmps yl {w0 with sv:=fun t=>ρ (t-fn.ntmps)}→Calls P g xs w fun e w'=>∃v f' m' y μ' φ',k v f' m'=some r∧e=.returned y∧al P G w0 μ' φ' m' w'∧bJ P μ' φ' m' f' ρ∧ab P μ' φ' v y∧∀id,v.has id=true→(m' id).isSome=true
structure gP(E:Env):Prop where
 mixed:E.P.follows .mixedOrders=true
 lp:∀(S R:Type)(body:S→(S→Option R)→Option R)s r,E.lp.run body s=some r→∃n,cd body n s=some r
 ctx:∀g M,E.ctx g=some M→qK E.P E.ax g M
 own:∀g M,E.own g=some M→vo E.P E.ax g M
 inl:∀(R:Type)g Fv args f m(k:V→Fr→Mem→Option R)r,E.inl R g Fv args f m k=some r→Ct E.P E.ax g args f m k r
 SL:∀(R:Type)g Fv yl args f m(k:V→Fr→Mem→Option R)r,E.SL R g Fv yl args f m k=some r→FH E.P E.ax g yl args f m k r
section
variable {R:Type} {E:Env}
theorem ee{f:V→List Nat}{id:Nat}:∀{cs:List V},id∈fS f cs↔∃v∈cs,id∈f v
 |[]=>by simp[fS]
 |c::r=>by simp[fS,ee (cs:=r)]
theorem je{g g':V→Option PV}:∀{cs:List V},(∀v∈cs,g' v=g v)→lT g' cs=lT g cs
 |[],_=>rfl
 |c::r,h=>by simp only[lT];rw[h c (by simp),je (cs:=r) fun v hv=>h v (by simp[hv])]
theorem l8{m m2:Mem}:∀(d:Nat){v:V},(∀id∈cD m d v,m2 id=m id)→iB m2 d v=iB m d v
 |0,v,_=>rfl
 |d+1,v,h=>by
  cases v with
  |agg cs=>simp only[iB];rw[je fun v hv=>l8 d fun id hid=>h id (by simp only[cD];exact ee.2 ⟨v,hv,hid⟩)]
  |bA cs=>simp only[iB];rw[je fun v hv=>l8 d fun id hid=>h id (by simp only[cD];exact ee.2 ⟨v,hv,hid⟩)]
  |fn g cs=>simp only[iB];rw[je fun v hv=>l8 d fun id hid=>h id (by simp only[cD];exact ee.2 ⟨v,hv,hid⟩)]
  |op id off=>
   have h0:=h id (by simp[cD]);simp only[iB,h0];split
   ·rename_i cs hm;rw[je fun v hv=>l8 d fun lU hid=>h lU (by simp only[cD,hm];exact List.mem_cons_of_mem _ (ee.2 ⟨v,hv,hid⟩))]
   ·rfl
  |oe id i off=>simp only[iB,h id (by simp[cD])]
  |os id=>simp only[iB,h id (by simp[cD])]
  |eR id lo len=>simp only[iB,h id (by simp[cD])]
  |om id=>simp only[iB,h id (by simp[cD])]
  |qD id i off=>simp only[iB,h id (by simp[cD])]
  |_=>rfl
theorem fY{g g':V→List Nat}:∀{cs:List V},(∀v∈cs,g' v=g v)→fS g' cs=fS g cs
 |[],_=>rfl
 |c::r,h=>by simp only[fS];rw[h c (by simp),fY (cs:=r) fun v hv=>h v (by simp[hv])]
theorem jC{m m2:Mem}:∀(d:Nat){v:V},(∀id∈cD m d v,m2 id=m id)→cD m2 d v=cD m d v
 |0,v,_=>rfl
 |d+1,v,h=>by
  cases v with
  |agg cs=>simp only[cD];exact fY fun v hv=>jC d fun id hid=>h id (by simp only[cD];exact ee.2 ⟨v,hv,hid⟩)
  |bA cs=>simp only[cD];exact fY fun v hv=>jC d fun id hid=>h id (by simp only[cD];exact ee.2 ⟨v,hv,hid⟩)
  |fn g cs=>simp only[cD];exact fY fun v hv=>jC d fun id hid=>h id (by simp only[cD];exact ee.2 ⟨v,hv,hid⟩)
  |op id off=>
   have h0:=h id (by simp[cD]);simp only[cD,h0];split
   ·rename_i cs hm;rw[fY fun v hv=>jC d fun lU hid=>h lU (by simp only[cD,hm];exact List.mem_cons_of_mem _ (ee.2 ⟨v,hv,hid⟩))]
   ·rfl
  |_=>rfl
variable{p:PV}
theorem wN{t:TypeId}{k:PV→Option R}{r:R}(hs:pg E t=true)(h:fg E t p k=some r):∃q,(∀(R':Type)(k':PV→Option R'),fg E t p k'=k' q)∧k q=some r∧∀(P:Program)(μ μ':Ro)x,af P μ p x→af P μ' q x:=by
 unfold pg at hs;unfold fg at h;split at h
 ·rename_i q hu;obtain⟨n,hn,hk⟩:=Option.bind_eq_some_iff.1 h;have hp:p=.int q n:=by cases p<;>simp[asInt]at hn;obtain⟨rfl,rfl⟩:=hn;rfl
  exact⟨.int q n,fun R' k'=>by simp[fg,hu,hn],hk,fun P μ μ' x hx=>by subst hp;cases hx with|int h=>exact .int h⟩
 ·rename_i hu;obtain⟨n,hn,hk⟩:=Option.bind_eq_some_iff.1 h;have hp:p=.bool n:=by cases p<;>simp[asBool]at hn;subst hn;rfl
  exact⟨.bool n,fun R' k'=>by simp[fg,hu,hn],hk,fun P μ μ' x hx=>by subst hp;cases hx;exact .bool⟩
 ·rename_i hu;obtain⟨n,hn,hk⟩:=Option.bind_eq_some_iff.1 h;have hp:p=.str n:=by cases p<;>simp[dh]at hn;subst hn;rfl
  exact⟨.str n,fun R' k'=>by simp[fg,hu,hn],hk,fun P μ μ' x hx=>by subst hp;cases hx with|str h=>exact .str h⟩
 all_goals (rename_i hu;simp[hu]at hs)
theorem DQ:∀{ts:List TypeId}{ps:List PV}{k:List V→Option R}{r:R},wo E ts ps k=some r→∃vs,(∀(R':Type)(k':List V→Option R'),wo E ts ps k'=k' vs)∧k vs=some r∧vs.length=ps.length∧(∀id,bO id vs=false)∧(∀(P:Program)(μ:Ro)(φ:Nat→aw)(i:Nat)p v x,ps[i]?=some p→vs[i]?=some v→af P μ p x→ab P μ φ v x)∧(ts.all (pg E)=true→∀(P:Program)(μ μ':Ro)(φ:Nat→aw)(i:Nat)p v x,ps[i]?=some p→vs[i]?=some v→af P μ p x→ab P μ' φ v x)
 |[],[],k,r,h=>⟨[],fun R' k'=>rfl,h,rfl,fun _=>rfl,by simp,by simp⟩
 |t::ts,p::ps,k,r,h=>by
  simp only[wo]at h;obtain⟨q,q1,q2,q3,_⟩:=iV h;obtain⟨vs,v1,v2,v3,v4,v5,v6⟩:=DQ q2;refine⟨.pv q::vs,fun R' k'=>by simp only[wo];rw[q1,v1],v2,by simp[v3],fun id=>by simp[bO,v4],fun P μ φ i p' v x hp hv hx=>?_,fun hs P μ μ' φ i p' v x hp hv hx=>?_⟩
  ·cases i with
   |zero=>simp at hp hv;subst hp;subst hv;exact .pv (q3 _ _ _ hx)
   |succ i=>exact v5 P μ φ i p' v x (by simpa using hp) (by simpa using hv) hx
  ·simp only[List.all_cons,Bool.and_eq_true]at hs;cases i with
   |zero=>
    simp at hp hv;subst hp;subst hv;obtain⟨q',s1,s2,s3⟩:=wN hs.1 h;have:q'=q:=by have e1:=s1 PV some;have e2:=q1 PV some;rw[e1]at e2;simpa using e2
    subst this;exact .pv (s3 P μ μ' x hx)
   |succ i=>exact v6 hs.2 P μ μ' φ i p' v x (by simpa using hp) (by simpa using hv) hx
 |[],p::ps,k,r,h=>by simp[wo]at h
 |t::ts,[],k,r,h=>by simp[wo]at h
theorem DR{n:Nat}{r:PV}{vs:List PV}(h:cB n r=some vs):r=.bA vs∧vs.length=n:=by cases r<;>simp[cB]at h;obtain⟨h1,h2⟩:=h;subst h2;exact⟨rfl,h1⟩
variable{ts:List TypeId}
theorem DS{k:V→Option R}{r:R}(h:wq E ts p k=some r):∃v,(∀(R':Type)(k':V→Option R'),wq E ts p k'=k' v)∧k v=some r∧(∀id,v.has id=false)∧(∀(P:Program)(μ:Ro)(φ:Nat→aw)x,af P μ p x→ab P μ φ v x)∧(ts.all (pg E)=true→∀(P:Program)(μ μ':Ro)(φ:Nat→aw)x,af P μ p x→ab P μ' φ v x):=by
 unfold wq at h;split at h
 ·obtain⟨vs,hv,hk⟩:=Option.bind_eq_some_iff.1 h;obtain⟨rfl,hl⟩:=DR hv;have:vs=[]:=List.eq_nil_of_length_eq_zero hl;subst this;have key:∀(P:Program)(μ μ':Ro)(φ:Nat→aw)x,af P μ (.bA []) x→ab P μ' φ (.bA []) x:=fun P μ μ' φ x hx=>by
   cases hx with
   |bA h1 h2=>exact .bA h1 (by simp)
  exact⟨.bA [],fun R' k'=>by simp[wq,hv],hk,by simp[V.has,bO],fun P μ φ x hx=>key P μ μ φ x hx,fun _=>key⟩
 ·rename_i t;obtain⟨q,q1,q2,q3,_⟩:=iV h;refine⟨.pv q,fun R' k'=>by simp only[wq];rw[q1],q2,by simp,fun P μ φ x hx=>.pv (q3 _ _ _ hx),fun hs P μ μ' φ x hx=>?_⟩;obtain⟨q',s1,s2,s3⟩:=wN (by simpa using hs) h;have:q'=q:=by have e1:=s1 PV some;have e2:=q1 PV some;rw[e1]at e2;simpa using e2
  subst this;exact .pv (s3 P μ μ' x hx)
 ·rename_i aal aam;obtain⟨vs,hv,hk⟩:=Option.bind_eq_some_iff.1 h;obtain⟨rfl,hl⟩:=DR hv;obtain⟨us,u1,u2,u3,u4,u5,u6⟩:=DQ hk;have VU:((List.range ts.length).map fun j=>vs.getD j .bad)=vs:=by
   apply List.ext_getElem?;intro j;rw[List.getElem?_map];by_cases hj:j<ts.length
   ·rw[List.getElem?_range hj];simp[List.getElem?_eq_getElem (show j<vs.length by omega)]
   ·rw[List.getElem?_eq_none (by simp;omega),List.getElem?_eq_none (by omega)];rfl
  rw[VU]at u3 u5 u6;refine⟨.bA us,fun R' k'=>?_,u2,fun id=>by simp[V.has,u4],fun P μ φ x hx=>?_,fun hs P μ μ' φ x hx=>?_⟩
  ·unfold wq;split
   ·exact absurd rfl aal
   ·exact absurd rfl (aam _)
   ·rw[hv];simp only[Option.bind_some];rw[u1]
  ·cases hx with
   |bA h1 h2=>
    refine .bA (by omega) fun i v y hv hy=>?_;have hi:i<vs.length:=by have:=(List.getElem?_eq_some_iff.1 hv).1;omega
    exact u5 P μ φ i _ v y (List.getElem?_eq_getElem hi) hv (h2 i _ y (List.getElem?_eq_getElem hi) hy)
  ·cases hx with
   |bA h1 h2=>
    refine .bA (by omega) fun i v y hv hy=>?_;have hi:i<vs.length:=by have:=(List.getElem?_eq_some_iff.1 hv).1;omega
    exact u6 hs P μ μ' φ i _ v y (List.getElem?_eq_getElem hi) hv (h2 i _ y (List.getElem?_eq_getElem hi) hy)
theorem ob:∀{args:List V}{m m':Mem}{ps:List PV},fT m args=some (ps,m')→gU m m'∧ps.length=args.length∧∀(P:Program)(G:Nat→Option (List PV))(w0:bg)(μ:Ro)(φ:Nat→aw)(w:World)(X:Nat→Value),al P G w0 μ φ m w→(∀(i:Nat)u,args[i]?=some u→ab P μ φ u (X i))→∃μ',(∀b o,μ b=some o→μ' b=some o)∧al P G w0 μ' φ m' w∧∀(i:Nat)p,ps[i]?=some p→af P μ' p (X i)
 |[],m,m',ps,h=>by simp only[fT,Option.some.injEq,Prod.mk.injEq]at h;obtain⟨rfl,rfl⟩:=h;exact⟨.refl _,rfl,fun P G w0 μ φ w X hM _=>⟨μ,fun _ _ h=>h,hM,by simp⟩⟩
 |c::r,m,m',ps,h=>by
  simp only[fT]at h;split at h
  ·rename_i p m1 h1;split at h
   ·rename_i P2 m2 h2;simp only[Option.some.injEq,Prod.mk.injEq]at h;obtain⟨rfl,rfl⟩:=h;obtain⟨a1,a2⟩:=Bf h1;obtain⟨b1,b2,b3⟩:=ob h2;refine⟨a1.trans b1,by simp[b2],fun P G w0 μ φ w X hM hx=>?_⟩;obtain⟨μ1,c1,c2,c3⟩:=a2 P G w0 μ φ w (X 0) hM (hx 0 c (by simp));obtain⟨μ2,d1,d2,d3⟩:=b3 P G w0 μ1 φ w (fun i=>X (i+1)) c2 (fun i u hu=>(hx (i+1) u (by simpa using hu)).sF c1);refine⟨μ2,fun b o h=>d1 b o (c1 b o h),d2,fun i q hq=>?_⟩;cases i with
    |zero=>simp at hq;subst hq;exact c3.mono d1
    |succ i=>exact d3 i q (by simpa using hq)
   ·cases h
  ·cases h
theorem Cu{m':Mem}{v:V}(h:pd cO v=some (p,m')):m'=cO:=by
 have key:∀{cs:List V}{m':Mem}{ps:List PV},jz cO cs=some (ps,m')→m'=cO:=by
  intro cs;induction cs with
  |nil=>intro m' ps h;simp only[jz,Option.some.injEq,Prod.mk.injEq]at h;exact h.2.symm
  |cons c r ih=>
   intro m' ps h;simp only[jz]at h;split at h
   ·rename_i p m1 h1;have:=mH h1;subst this;split at h
    ·rename_i P2 m2 h2;simp only[Option.some.injEq,Prod.mk.injEq]at h;rw[←h.2];exact ih h2
    ·cases h
   ·cases h
 unfold pd at h;split at h
 ·split at h
  ·rename_i hf;simp only[Option.some.injEq,Prod.mk.injEq]at h;rw[←h.2];exact key hf
  ·cases h
 ·exact mH h
theorem lI:∀{args:List V}{m':Mem}{ps:List PV},fT cO args=some (ps,m')→ps.length=args.length∧∀(P:Program)(μ:Ro)(φ:Nat→aw)(X:Nat→Value),(∀(i:Nat)u,args[i]?=some u→ab P μ φ u (X i))→∀(i:Nat)p,ps[i]?=some p→af P μ p (X i)
 |[],m',ps,h=>by simp only[fT,Option.some.injEq,Prod.mk.injEq]at h;obtain⟨rfl,rfl⟩:=h;exact⟨rfl,by simp⟩
 |c::r,m',ps,h=>by
  simp only[fT]at h;split at h
  ·rename_i p m1 h1;have:=Cu h1;subst this;split at h
   ·rename_i P2 m2 h2;simp only[Option.some.injEq,Prod.mk.injEq]at h;obtain⟨rfl,rfl⟩:=h;obtain⟨b2,b3⟩:=lI h2;refine⟨by simp[b2],fun P μ φ X hx i q hq=>?_⟩;cases i with
    |zero=>simp at hq;subst hq;exact wM h1 P μ φ _ (hx 0 c (by simp))
    |succ i=>exact b3 P μ φ (fun i=>X (i+1)) (fun i u hu=>hx (i+1) u (by simpa using hu)) i q (by simpa using hq)
   ·cases h
  ·cases h
variable{φ:Nat→aw}
theorem ay.move{P:Program}{μ μ':Ro}{φ':Nat→aw}{w:World}{i j sz:Nat}{et:TypeId}{es:List PV}(h:ay P μ φ w i sz et es)(hφ:φ' j=φ i)(hμ:∀b o,μ b=some o→μ' b=some o):ay P μ' φ' w j sz et es:=by
 unfold ay at*;rw[hφ];obtain⟨h1,h2,h3,h4,h5,h6,h7⟩:=h;refine⟨h1,h2,h3,h4,h5,h6,?_⟩;split at h7
 ·exact h7
 ·obtain⟨c,T,c1,c2,c3,c4,c5⟩:=h7;exact⟨c,T,c1,c2,c3,fun i e j p x he hp hx=>(c4 i e j p x he hp hx).mono hμ,c5⟩
theorem ay.MN{P:Program}{ν μ:Ro}{w:World}{i:Nat}{et:TypeId}{es:List PV}(h:ay P ν φ w i 1 et es):ay P μ φ w i 1 et (es.map AN):=by
 unfold ay at*;obtain⟨h1,h2,h3,h4,h5,h6,h7⟩:=h;have hc:∀p:PV,(AN p).cells.length=1:=fun p=>by cases p<;>rfl
 refine⟨by simpa using h1,h2,h3,h4,fun j e he=>?_,h6,?_⟩
 ·simp only[List.getElem?_map,Option.map_eq_some_iff]at he;obtain⟨p,_,rfl⟩:=he;exact hc p
 ·split at h7
  ·rw[h7.1];exact⟨rfl,h7.2⟩
  ·obtain⟨c,T,c1,c2,c3,c4,c5⟩:=h7;refine⟨c,T,c1,c2,by simpa using c3,fun j e l p x he hp hx=>?_,fun j x hj hx=>c5 j x (by simpa using hj) hx⟩;simp only[List.getElem?_map,Option.map_eq_some_iff]at he;obtain⟨q,hq,rfl⟩:=he;have hl:l=0:=by have:=(List.getElem?_eq_some_iff.1 hp).1;have:=hc q;omega
   subst hl;cases q<;>(simp only[AN,PV.cells,List.getElem?_cons_zero,Option.some.injEq]at hp;subst hp);case int=>have:=c4 j _ 0 _ x hq rfl hx;cases this with|int h=>exact .int h
   case bool=>have:=c4 j _ 0 _ x hq rfl hx;cases this;exact .bool
   case str=>have:=c4 j _ 0 _ x hq rfl hx;cases this with|str h=>exact .str h
   all_goals exact .bad
mutual
theorem MO:∀(s:FS)(p:PV)(a:List PV),PI s p=some a→a.length=s.n∧∀r,B9 s (a++r)=(p,r)
 |.raw,p,a,h=>by simp only[PI,Option.some.injEq]at h;subst h;exact⟨rfl,fun r=>rfl⟩
 |.fn g cs,p,a,h=>by
  cases p<;>simp only[PI]at h<;>try (cases h;done)
  split at h
  ·rename_i e;subst e;obtain⟨h1,h2⟩:=Cv cs _ a h;exact⟨by simp[FS.n,h1],fun r=>by simp[B9,h2 r]⟩
  ·cases h
 |.ptr cs,p,a,h=>by
  cases p<;>simp only[PI]at h<;>try (cases h;done)
  obtain⟨h1,h2⟩:=Cv cs _ a h;exact⟨by simp[FS.n,h1],fun r=>by simp[B9,h2 r]⟩
theorem Cv:∀(ss:List FS)(ps:List PV)(a:List PV),Dm ss ps=some a→a.length=Vi ss∧∀r,wm ss (a++r)=(ps,r)
 |[],ps,a,h=>by
  cases ps with
  |nil=>simp only[Dm,Option.some.injEq]at h;subst h;exact⟨rfl,fun r=>rfl⟩
  |cons p ps=>simp[Dm]at h
 |s::ss,ps,a,h=>by
  cases ps with
  |nil=>simp[Dm]at h
  |cons p ps=>simp only[Dm]at h;obtain⟨x,hx,h⟩:=Option.bind_eq_some_iff.1 h;obtain⟨y,hy,h⟩:=Option.bind_eq_some_iff.1 h;simp only[Option.some.injEq]at h;subst h;obtain⟨a1,a2⟩:=MO s p x hx;obtain⟨b1,b2⟩:=Cv ss ps y hy;refine⟨by simp[Vi,a1,b1],fun r=>?_⟩;simp only[wm,List.append_assoc,a2,b2]
end
theorem I6{s:FS}{ls:List PV}(h:PI s p=some ls):(B9 s ((List.range s.n).map fun j=>ls.getD j .bad)).1=p:=by
 obtain⟨h1,h2⟩:=MO s p ls h;have:((List.range s.n).map fun j=>ls.getD j .bad)=ls:=by
  apply List.ext_getElem?;intro j;rw[List.getElem?_map];by_cases hj:j<s.n
  ·rw[List.getElem?_range hj];simp[List.getElem?_eq_getElem (show j<ls.length by omega)]
  ·rw[List.getElem?_eq_none (by simp;omega),List.getElem?_eq_none (by omega)];rfl
 rw[this];have:=h2 [];rw[List.append_nil]at this;rw[this]
theorem Kw{fid:FuncId}{k:V→Option R}{r:R}(h:ve E fid ts p k=some r):∃v,(∀(R':Type)(k':V→Option R'),ve E fid ts p k'=k' v)∧k v=some r∧(∀id,v.has id=false)∧(∀(P:Program)(μ:Ro)(φ:Nat→aw)x,af P μ p x→ab P μ φ v x)∧True:=by
 unfold ve at h;split at h
 ·rename_i s hs;obtain⟨ls,hl,hk⟩:=Option.bind_eq_some_iff.1 h;refine⟨_,fun R' k'=>by simp only[ve,hs,hl,Option.bind_some],hk,fun id=>rfl,fun P μ φ x hx=>.pv ?_,trivial⟩;rw[I6 hl];exact hx
 ·rename_i hs;obtain⟨v,v1,v2,v3,v4,_⟩:=DS h;exact⟨v,fun R' k'=>by simp only[ve,hs];exact v1 R' k',v2,v3,v4,trivial⟩
theorem MP(hE:gP E){draw:Bool}{site:Nat}{g:FuncId}{args:List V}{f:Fr}{m:Mem}{k:V→Fr→Mem→aY→Option R}{r:R}(h:pV E draw site g args f m k=some r):(∃v f' m' ft,k v f' m' ft=some r∧(draw=true→f'=f∧∃wr:Option (Nat×bn),m'=VS m wr∧(∀id b,wr=some (id,b)→(true,id)∈ft)∧∀(f2:Fr)(m2:Mem),(∀x∈ft,m2 x.2=m x.2)→∀(R':Type)(k':V→Fr→Mem→aY→Option R'),pV E true site g args f2 m2 k'=k' v f2 (VS m2 wr) ft)∧((∀x∈ft,x.1=false)→f'=f∧m'=m)∧VT E g args f m v f' m')∨(draw=false∧Ct E.P E.ax g args f m (fun v f m=>k v f m [(true,0)]) r):=by
 have hX:∀(P:Program)(μ:Ro)(φ:Nat→aw)(xs:Array Value),args.length=xs.size→(∀(i:Nat)v x,args[i]?=some v→xs[i]?=some x→ab P μ φ v x)→∀(i:Nat)u,args[i]?=some u→xs[i]?=some (xs.getD i undef)∧ab P μ φ u (xs.getD i undef):=by
  intro P μ φ xs hl hr i u hu;have ba:i<xs.size:=by have:=(List.getElem?_eq_some_iff.1 hu).1;omega
  have:xs[i]?=some (xs.getD i undef):=by rw[Array.getElem?_eq_getElem ba];simp[Array.getD,ba]
  exact⟨this,hr i u _ hu this⟩
 unfold pV at h;split at h
 ·rename_i M Kx;obtain⟨LR,hM⟩:=hE.ctx g M Kx;split at h
  ·rename_i fn hg;split at h
   ·rename_i Pz;split at h
    ·rename_i ps kx;obtain⟨p,hp,h⟩:=Option.bind_eq_some_iff.1 h;obtain⟨v,v1,v2,v3,v4,v5⟩:=DS h;refine .inl ⟨v,f,m,_,v2,fun hd=>⟨rfl,none,rfl,by simp,fun f2 m2 bY R' k'=>?_⟩,fun _=>⟨rfl,rfl⟩,LR,fun w0 μ φ ρ w xs hR hF hl hr Ch=>?_⟩
     ·have Mz:lT (iB m2 ek) args=lT (iB m ek) args:=je fun v hv=>l8 _ fun id hid=>bY (false,id) (by simp only[List.mem_map];exact⟨id,ee.2 ⟨v,hv,hid⟩,rfl⟩);have ug:((fS (cD m2 ek) args).map fun i=>(false,i))=((fS (cD m ek) args).map fun i=>(false,i)):=by have:fS (cD m2 ek) args=fS (cD m ek) args:=fY fun v hv=>jC _ fun id hid=>bY (false,id) (by simp only[List.mem_map];exact⟨id,ee.2 ⟨v,hv,hid⟩,rfl⟩);rw[this]
      simp only[pV,Kx,hg];rw[if_pos Pz];simp only[Mz,kx,hp,Option.bind_some,ug];rw[v1];rfl
     ·obtain⟨p1,p2⟩:=fB kx;refine(hM ps p hp w (gR w) xs (fun _ _ h=>h) (fun g cs hg=>(hR.ax g cs hg).mono hR.rU) (by omega) (fun i q x hq hx=>?_)).mono ?_
      ·obtain⟨u,hu,hf⟩:=p2 i q hq;exact oL hR hR.rU (fun _ _ _ _ _=>rfl) _ hf (hr i u x hu hx)
      ·rintro e w' ⟨y,rfl,hb,hy⟩;exact⟨y,cn μ w w',φ,rfl,hR.called hb,hF.jR (ij hR w') (.refl _),v5 Pz E.P _ _ φ y hy,fun id hid=>by rw[v3]at hid;cases hid⟩
    ·cases h
   ·rename_i Pz;split at h
    ·rename_i ps m1 kx;obtain⟨p,hp,h⟩:=Option.bind_eq_some_iff.1 h;obtain⟨v,v1,v2,v3,v4,v5⟩:=Kw h;cases draw with
     |true=>
      simp only[if_true]at kx v2;obtain⟨q1,q2⟩:=lI kx;refine .inl ⟨v,f,m,_,v2,fun _=>⟨rfl,none,rfl,by simp,fun f2 m2 bY R' k'=>?_⟩,fun _=>⟨rfl,rfl⟩,LR,fun w0 μ φ ρ w xs hR hF hl hr Ch=>?_⟩
      ·simp only[pV,Kx,hg];rw[if_neg Pz];simp only[if_true,kx,hp,Option.bind_some];rw[v1];rfl
      ·refine(hM ps p hp w μ xs hR.ro hR.ax (by omega) (fun i q x hq hx=>?_)).mono ?_
       ·have:=q2 E.P μ φ (fun i=>xs.getD i undef) (fun i u hu=>(hX E.P μ φ xs hl hr i u hu).2) i q hq;have ba:i<xs.size:=(Array.getElem?_eq_some_iff.1 hx).1;have e:xs.getD i undef=x:=by rw[Array.getElem?_eq_getElem ba]at hx;simp only[Option.some.injEq]at hx;simp[Array.getD,ba,hx]
        rw[←e];exact this
       ·rintro e w' ⟨y,rfl,hb,hy⟩;exact⟨y,cn μ w w',φ,rfl,hR.called hb,hF.jR (ij hR w') (.refl _),v4 E.P _ φ y hy,fun id hid=>by rw[v3]at hid;cases hid⟩
     |false=>
      simp only[Bool.false_eq_true,if_false]at kx v2;obtain⟨q0,q1,q2⟩:=ob kx;refine .inl ⟨v,f,m1,_,v2,fun hd=>by(cases hd),fun hq=>absurd (hq (true,0) (by simp)) (by simp),LR,fun w0 μ φ ρ w xs hR hF hl hr Ch=>?_⟩;obtain⟨μ1,r1,r2,r3⟩:=q2 E.P E.ax w0 μ φ w (fun i=>xs.getD i undef) hR (fun i u hu=>(hX E.P μ φ xs hl hr i u hu).2);refine(hM ps p hp w μ1 xs r2.ro r2.ax (by omega) (fun i q x hq hx=>?_)).mono ?_
      ·have:=r3 i q hq;have ba:i<xs.size:=(Array.getElem?_eq_some_iff.1 hx).1;have e:xs.getD i undef=x:=by rw[Array.getElem?_eq_getElem ba]at hx;simp only[Option.some.injEq]at hx;simp[Array.getD,ba,hx]
       rw[←e];exact this
      ·rintro e w' ⟨y,rfl,hb,hy⟩;exact⟨y,cn μ1 w w',φ,rfl,r2.called hb,hF.jR (fun b o h=>ij r2 w' b o (r1 b o h)) q0,v4 E.P _ φ y hy,fun id hid=>by rw[v3]at hid;cases hid⟩
    ·cases h
  ·cases h
 ·rename_i Kx;split at h
  ·rename_i M pk;obtain⟨LR,hM⟩:=hE.own g M pk;split at h
   ·rename_i fn hg;split at h
    ·rename_i t ht;split at h
     ·rename_i e hu;split at h
      ·rename_i Pz;obtain⟨Pz,oO⟩:=Pz;split at h
       ·rename_i ps kx;obtain⟨p,hp,h⟩:=Option.bind_eq_some_iff.1 h;obtain⟨es,Aq,h⟩:=Option.bind_eq_some_iff.1 h;obtain⟨f',m',n1,n2,n3,n4,n5⟩:=bR h;refine .inl ⟨_,f',m',_,n2,fun hd=>?_,fun hq=>absurd (hq (true,site) (by simp)) (by simp),LR,fun w0 μ φ ρ w xs hR hF hl hr Ch=>?_⟩
        ·obtain⟨d1,d2,d3⟩:=n4 hd;subst hd;refine⟨d2,some (site,_),d3,by simp,fun f2 m2 bY R' k'=>?_⟩;have Mz:lT (iB m2 ek) args=lT (iB m ek) args:=je fun v hv=>l8 _ fun id hid=>bY (false,id) (by simp only[List.mem_append,List.mem_map];exact .inr ⟨id,ee.2 ⟨v,hv,hid⟩,rfl⟩);have ug:fS (cD m2 ek) args=fS (cD m ek) args:=fY fun v hv=>jC _ fun id hid=>bY (false,id) (by simp only[List.mem_append,List.mem_map];exact .inr ⟨id,ee.2 ⟨v,hv,hid⟩,rfl⟩);simp only[pV,Kx,pk,hg,ht,hu];rw[if_pos ⟨Pz,oO⟩];simp only[Mz,kx,hp,Option.bind_some,Aq,ug];have Tb:m2 site=none:=by rw[bY (true,site) (by simp)];exact d1
         simp only[fresh,Tb];rfl
        ·obtain⟨p1,p2⟩:=fB kx;refine(hM fn t e hg ht hu ps p hp w (gR w) xs (fun _ _ h=>h) (fun g cs hg=>(hR.ax g cs hg).mono hR.rU) (by omega) (fun i q x hq hx=>?_)).mono ?_
         ·obtain⟨u,mD,hf⟩:=p2 i q hq;exact oL hR hR.rU (fun _ _ _ _ _=>rfl) _ hf (hr i u x mD hx)
         rintro en w' ⟨y,ph,es',rfl,hb,rfl,xx,hA,hy⟩;have Tc:es'=es:=by simp only[ae,if_true,Option.some.injEq]at Aq;exact Aq
         subst Tc;rw[oO]at hA;have Td:ay E.P (jM (cn μ w w') ph.g) (fun _=>ph) w' 0 1 e (es'.map AN):=hA.MN;have Bg:=hR.A7 hb xx;have P9:bJ E.P (jM (cn μ w w') ph.g) φ m f ρ:=hF.jR (fun b o h=>td hR w' xx b o h) (.refl _);have hP:iD E.P w0 (jM (cn μ w w') ph.g) φ m w' w' site (.arr (aH E.P e) e (es'.map AN)) ph:=by
          refine⟨iJ.refl _ _,Bg.ro,fun _ _ _ _ _=>rfl,fun g hg=>⟨?_,?_,?_⟩,fun φ' hp _=>by rw[oO];exact Td.move hp (fun _ _ h=>h),by simp[bn.names],fun st h=>by cases h⟩
          ·have:=xx g hg;have:=hR.below.size;exact Nat.le_trans this (xx g hg)
          ·simp[jM,hg]
          ·intro id b' fl bF;have h1:=(hR.dq id b' fl).yG bF;have h2:=xx g hg;omega
         obtain⟨φ',a1,a2,a3⟩:=n5 E.P E.ax w0 _ φ w' w' ρ ph Bg P9 hP;refine⟨y,_,φ',rfl,a2,a3,?_,fun id hid=>?_⟩
         ·cases hy with
          |np h=>exact .np (by rw[a1];exact h)
          | @os _ g h=>have:=ab.os (P:=E.P) (μ:=jM (cn μ w w') ph.g) (φ:=φ') (id:=site) (g:=g) (by rw[a1];exact h);rw[a1]at this;exact this
         ·have hid:=Nat.eq_of_beq_eq_true hid;subst hid;simp[n3]
       ·cases h
      rename_i Pz;split at h
      ·rename_i ps m1 kx;obtain⟨p,hp,h⟩:=Option.bind_eq_some_iff.1 h;obtain⟨es,Aq,h⟩:=Option.bind_eq_some_iff.1 h;obtain⟨f',m',n1,n2,n3,n4,n5⟩:=bR h;have fin:∀(w0:bg)(μ μ1:Ro)(φ:Nat→aw)(ρ:Nat→Value)(w:World)(xs:Array Value),(∀b o,μ b=some o→μ1 b=some o)→gU m (if draw then m else m1)→al E.P E.ax w0 μ1 φ (if draw then m else m1) w→bJ E.P μ φ m f ρ→ps.length=xs.size→(∀(i:Nat)p x,ps[i]?=some p→xs[i]?=some x→af E.P μ1 p x)→Calls E.P g xs w fun e w'=>∃y μ' φ',e=.returned y∧al E.P E.ax w0 μ' φ' m' w'∧bJ E.P μ' φ' m' f' ρ∧ab E.P μ' φ' (.os site) y∧∀id,(V.os site).has id=true→(m' id).isSome=true:=by
        intro w0 μ μ1 φ ρ w xs hle Ch hR hF hl hr;refine(hM fn t e hg ht hu ps p hp w μ1 xs hR.ro hR.ax hl hr).mono ?_;rintro en w' ⟨y,ph,es',rfl,hb,rfl,xx,hA,hy⟩;have Tc:es'=es:=by simp only[ae,if_true,Option.some.injEq]at Aq;exact Aq
        subst Tc;have Bg:=hR.A7 hb xx;have P9:bJ E.P (jM (cn μ1 w w') ph.g) φ (if draw then m else m1) f ρ:=hF.jR (fun b o h=>td hR w' xx b o (hle b o h)) Ch;have hP:iD E.P w0 (jM (cn μ1 w w') ph.g) φ (if draw then m else m1) w' w' site (.arr (aH E.P e) e es') ph:=by
         refine⟨iJ.refl _ _,Bg.ro,fun _ _ _ _ _=>rfl,fun g hg=>⟨?_,?_,?_⟩,fun φ' hp _=>hA.move hp (fun _ _ h=>h),by simp[bn.names],fun st h=>by cases h⟩
         ·have:=xx g hg;have:=hR.below.size;exact Nat.le_trans this (xx g hg)
         ·simp[jM,hg]
         ·intro id b' fl bF;have h1:=(hR.dq id b' fl).yG bF;have h2:=xx g hg;omega
        obtain⟨φ',a1,a2,a3⟩:=n5 E.P E.ax w0 _ φ w' w' ρ ph Bg P9 hP;refine⟨y,_,φ',rfl,a2,a3,?_,fun id hid=>?_⟩
        ·cases hy with
         |np h=>exact .np (by rw[a1];exact h)
         | @os _ g h=>have:=ab.os (P:=E.P) (μ:=jM (cn μ1 w w') ph.g) (φ:=φ') (id:=site) (g:=g) (by rw[a1];exact h);rw[a1]at this;exact this
        ·have hid:=Nat.eq_of_beq_eq_true hid;subst hid;simp[n3]
       cases draw with
       |true=>
        simp only[if_true]at kx n2 fin n4;obtain⟨q1,q2⟩:=lI kx;obtain⟨d1,d2,d3⟩:=n4 trivial;refine .inl ⟨_,f',m',_,n2,fun _=>⟨d2,some (site,_),d3,by simp,fun f2 m2 bY R' k'=>?_⟩,fun hq=>absurd (hq (true,site) (by simp)) (by simp),LR,fun w0 μ φ ρ w xs hR hF hl hr Ch=>?_⟩
        ·simp only[pV,Kx,pk,hg,ht,hu];rw[if_neg Pz];simp only[if_true,kx,hp,Option.bind_some,Aq];have Tb:m2 site=none:=by rw[bY (true,site) (by simp)];exact d1
         simp only[fresh,Tb];rfl
        ·refine fin w0 μ μ φ ρ w xs (fun _ _ h=>h) (.refl _) hR hF (by omega) fun i q x hq hx=>?_;have:=q2 E.P μ φ (fun i=>xs.getD i undef) (fun i u hu=>(hX E.P μ φ xs hl hr i u hu).2) i q hq;have ba:i<xs.size:=(Array.getElem?_eq_some_iff.1 hx).1;have e:xs.getD i undef=x:=by rw[Array.getElem?_eq_getElem ba]at hx;simp only[Option.some.injEq]at hx;simp[Array.getD,ba,hx]
         rw[←e];exact this
       |false=>
        simp only[Bool.false_eq_true,if_false]at kx n2 fin n4;obtain⟨q0,q1,q2⟩:=ob kx;refine .inl ⟨_,f',m',_,n2,fun hd=>by(cases hd),fun hq=>absurd (hq (true,site) (by simp)) (by simp),LR,fun w0 μ φ ρ w xs hR hF hl hr Ch=>?_⟩;obtain⟨μ1,r1,r2,r3⟩:=q2 E.P E.ax w0 μ φ w (fun i=>xs.getD i undef) hR (fun i u hu=>(hX E.P μ φ xs hl hr i u hu).2);refine fin w0 μ μ1 φ ρ w xs r1 q0 r2 hF (by omega) fun i q x hq hx=>?_;have:=r3 i q hq;have ba:i<xs.size:=(Array.getElem?_eq_some_iff.1 hx).1;have e:xs.getD i undef=x:=by rw[Array.getElem?_eq_getElem ba]at hx;simp only[Option.some.injEq]at hx;simp[Array.getD,ba,hx]
        rw[←e];exact this
      ·cases h
     ·cases h
    ·cases h
   ·cases h
  ·split at h
   ·cases h
   ·rename_i hd;exact .inr ⟨by simpa using hd,hE.inl _ _ _ _ _ _ _ _ h⟩
end
end Go.Ab
