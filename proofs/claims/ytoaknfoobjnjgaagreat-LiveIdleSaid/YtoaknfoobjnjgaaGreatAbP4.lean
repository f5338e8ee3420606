import Derived.Test.YtoaknfoobjnjgaaGreatAbP3
import Derived.WideKeyRuns
import Derived.MapKept
import Derived.RangeFuncRecord
set_option linter.all false
namespace Go.Ab
open Go.RowKit (Below)
section
variable {R:Type} {E:Env}
theorem cells_one{x:Value}(h:x.oneCell'=true):x.cells= #[x]:=by cases x<;>first|rfl|(simp[Value.oneCell']at h)
theorem au.elem{P:Program}{μ:Ro}{n:Nat}{p:PV}{x:Value}(h:au P μ p x)(hl:p.cells.length=n)(hp:p.plain=true):vq P μ n p x:=by
 cases hq:p.isAgg with
 |true=>
  cases p<;>simp[PV.isAgg]at hq;cases h with
  |agg h1 h2 h3=>exact⟨hl,by simp_all[PV.cells,Value.cells],h2,h3⟩
 |false=>
  have hc:p.cells=[p]:=by cases p<;>first|rfl|(simp[PV.isAgg]at hq)
  have h1:x.oneCell'=true:=h.one (fun cs e=>by subst e;simp[PV.isAgg]at hq) (fun cs e=>by subst e;simp[PV.plain]at hp) (fun e=>by subst e;simp[PV.plain]at hp);have hx:=cells_one h1;refine⟨hl,by simp_all,fun j q y hj hy=>?_,fun j y hy=>?_⟩
  ·grind
  grind
variable{t:TypeId}
theorem D8{z:PV}(h:DY E t=some z):∃i zv,E.P.info? t=some i∧i.zero=some zv∧i.size=aW E.P t∧(∀μ,au E.P μ z zv)∧∀μ,vq E.P μ (aW E.P t) z zv:=by
 unfold DY zeroV at h;cases hi:E.P.info? t with
 |none=>simp[hi]at h
 |some i=>
  cases hz:i.zero with
  |none=>simp[hi,hz]at h
  |some zv=>
   simp only[hi,hz,anC,No]at h;split at h
   ·rename_i p hp;split at h
    ·rename_i hc;simp only[tb]at h;subst h;have hr:∀μ,au E.P μ p zv:=fun μ=>wu 2 hp (wm (φ:=fun _=>default) zv);exact⟨i,zv,rfl,hz,by simp[aW,hi],hr,fun μ=>(hr μ).elem hc.2.1 hc.2.2⟩
    ·cases h
   ·cases h
theorem QE{z:PV}(h:DY E t=some z):∃zv,(∀w,(zeroValue t).run E.P w=.ok zv w)∧∀μ,au E.P μ z zv:=by obtain⟨i,zv,h1,h2,h3,h4,_⟩:=D8 h;simp_all[qA]
theorem Cells.made{P:Program}{μ:Ro}{sz:Nat}{z:PV}{zv:Value}(hE:vq P μ sz z zv)(eO:0<sz)(n cap:Nat)(hn:n≤cap):Cells P μ sz (List.replicate n z) ((madeCells zv.cells (cap*sz)).toList.take ((List.replicate n z).length*sz)):=by
 have hle:n*sz≤cap*sz:=amt _ hn;have eE:∀k y,((madeCells zv.cells (cap*sz)).toList.take ((List.replicate n z).length*sz))[k]?=some y→zv.cells[k%sz]?=some y:=by
  intro k y hk;obtain⟨h1,h2⟩:=iQ hk;simp only[aoc]at h1;have bK:k%sz<zv.cells.size:=by rw[hE.size];exact aqF _ eO
  rw[aoi,madeCells,Array.getElem?_map,Array.getElem?_range]at h2;rw[BY (by omega)]at h2;simp only[No,tb,hE.size]at h2;simp_all
 refine⟨by rw[an9,aoc,ap1,size_madeCells];omega,fun i e hi=>?_,fun i e j p y hi hj hy=>?_,fun k y hk=>hE.one _ y (eE k y hk)⟩
 ·rw[aqk]at hi;split at hi
  ·simp only[tb]at hi;subst hi;exact hE.len
  ·cases hi
 ·rw[aqk]at hi;split at hi
  ·simp only[tb]at hi;subst hi;have yD:j<sz:=by rw[←hE.len];grind
   have:=eE _ y hy;rw[apO,Nat.mul_add_mod,Nat.mod_eq_of_lt yD]at this;exact hE.rep j p y hj this
  ·cases hi
theorem Jj{draw:Bool}{site:Nat}{len cap:V}{f:Fr}{m:Mem}{k:V→Fr→Mem→bx→Option R}{r:R}(h:sU E draw site t len cap f m k=some r):∃f' m' b,(draw=true→m site=none∧f'=f∧m'=aB m site b∧∀(f2:Fr)(m2:Mem),m2 site=none→∀(R':Type)(k':V→Fr→Mem→bx→Option R'),sU E true site t len cap f2 m2 k'=k' (.os site) f2 (aB m2 site b) [(true,site)])∧k (.os site) f' m' [(true,site)]=some r∧(m' site).isSome=true∧∀(G:Nat→Option (List PV))(w0:bl)(μ:Ro)(φ:Nat→aK)(w:World)(ρ:Nat→Value)(yl yc:Value),aG E.P G w0 μ φ m w→b9 E.P μ φ m f ρ→aq E.P μ φ len yl→aq E.P μ φ cap yc→∃w' y φ',(Instr.makeSlice t yl yc).run E.P w=.ok y w'∧aG E.P G w0 μ φ' m' w'∧b9 E.P μ φ' m' f' ρ∧aq E.P μ φ' (.os site) y:=by
 unfold sU at h;split at h
 ·rename_i e ql n qc c hu;split at h
  ·rename_i z hz;split at h
   ·rename_i hb;obtain⟨f',m',_,hk,yI,AP,xh⟩:=ck h;refine⟨f',m',.arr (aW E.P e) e (List.replicate n.toNat z),fun hd=>?_,hk,by simp[yI],fun G w0 μ φ w ρ yl yc hM hF hl hc=>?_⟩
    ·simp_all[sU,BY,fresh]
    ·obtain⟨i,zv,h1,h2,h3,_,h4⟩:=D8 hz;obtain⟨hib,_⟩:=J3 h1;have hc1:c.toNat≤140737488355328:=by have:c.toNat*1≤c.toNat*Jb E.P e:=aoV _ hb.2.2.2.1;grind [aa]
     cases hl with
     |pv hl=>cases hl with
      |int wl=>
       cases hc with
       |pv hc=>cases hc with
        |int wc=>
         have afh:(i.bytes:Int)*c≤281474976710656:=by grind [aa,Jb,Int.natCast_mul,Int.toNat_of_nonneg,Int.mul_comm]
         have hr:=run_make (P:=E.P) w t e i zv hu h1 h2 ql qc n c hb.1 hb.2.1 afh (by omega);rw[h3]at hr;obtain⟨φ',a1,a2,a3⟩:=xh E.P G w0 μ φ w _ ρ (EY (some w.heap.size) c.toNat (List.replicate n.toNat z).length (aW E.P e)) hM hF (lW.alloc (o:=.cells (madeCells zv.cells (c.toNat*aW E.P e)) e) hM rfl (fun φ' hp _=>aP.re (g:=w.heap.size) (by rw[hp]) rfl hb.2.2.2.2 (by rw[hp];simp only[maxLen];omega) (fV w _) (by rw[hp];simp[size_madeCells]) (by rw[hp];simp;omega) (Cells.made (h4 μ) hb.2.2.2.2 _ _ (by omega))) (by simp[bI.names]));refine⟨_,_,φ',hr,a2,a3,?_⟩;have:=aq.os (P:=E.P) (μ:=μ) (φ:=φ') (id:=site) (g:=w.heap.size) (by rw[a1]);simp_all
   ·cases h
  ·cases h
 ·cases h
theorem QF(cells:Array Value)(n:Nat):Builtin.zeroCells cells n=madeCells cells (n*cells.size):=rfl
theorem UL{x:V}{m:Mem}{k:V→Mem→bx→Option R}{r:R}(h:Gx E t x m k=some r):∃id b,(∀m2:Mem,m2 id=m id→∀(R':Type)(k':V→Mem→bx→Option R'),Gx E t x m2 k'=k' .top (aB m2 id b) [(true,id)])∧k .top (aB m id b) [(true,id)]=some r∧∀(G:Nat→Option (List PV))(w0:bl)(μ:Ro)(φ:Nat→aK)(w:World)(ρ:Nat→Value)(f:Fr)(yx:Value)(ts:List TypeId)(ty:TypeId),aG E.P G w0 μ φ m w→b9 E.P μ φ m f ρ→aq E.P μ φ x yx→∃w',(Builtin.clear_ (t::ts).toArray ty #[yx]).run E.P w=.ok (.tuple #[]) w'∧aG E.P G w0 μ φ (aB m id b) w'∧b9 E.P μ φ (aB m id b) f ρ:=by
 unfold Gx at h;split at h
 ·rename_i e hu;split at h
  ·rename_i id lo len z hz;split at h
   ·rename_i sz et es hm;split at h
    ·rename_i hc;obtain⟨n9,rfl,hle,eO⟩:=hc;refine⟨id,_,fun m2 cQ R' k'=>?_,h,fun G w0 μ φ w ρ f yx ts ty hM hF hx=>?_⟩
     ·simp_all[Gx,BY,trivial]
     ·obtain⟨i,zv,h1,h2,h3,h4,h5⟩:=D8 hz;have hA:aP E.P μ φ w id sz et es:=hM.dF id _ hm;have aho:len=0→aB m id (.arr sz et (es.take lo++(List.replicate len z++es.drop (lo+len))))=m:=by
       intro h0;subst h0;rw[List.replicate_zero,aoT,apn,aoN];funext j;by_cases ej:j=id
       ·subst ej;simp[hm]
       ·rw[aA ej]
      cases hx with
      |sX hg=>rw[aho rfl];simp_all[Builtin.clear_,run_underlying]
      | @fX _ _ _ cap g a hg hl ha hc1 Na=>
       by_cases h0:len=0
       ·simp_all[Builtin.clear_,run_underlying]
       ·have su:=hA.q9;have G0:=hA.1;have am8:=hA.2.1;have ahp:a=⟨g,lo*sz,none⟩:=by grind
        subst ahp;obtain⟨c,T,c1,c2,c3,c4,c5⟩:=hA.cells hg;have SI:zv.cells.size=sz:=by rw[(h5 μ).size,n9]
        have hn:len*zv.cells.size=len*sz:=by rw[SI]
        have hlen:(madeCells zv.cells (len*sz)).toList.length=len*sz:=by simp[size_madeCells]
        have SB:(lo+len)*sz≤es.length*sz:=amt _ hle;have td:(lo+len)*sz=lo*sz+len*sz:=aoo _ _ _;have xq:=Cells.made (P:=E.P) (μ:=μ) (by rw[←n9]at h5;exact h5 μ) (by omega) len len (anz _);have wq:∀v∈(madeCells zv.cells (len*sz)).toList,v.oneCell'=true:=fun v hv=>by obtain⟨j,hj⟩:=aok hv;refine xq.one j v ?_;grind
        have gw:=run_storeCells_at E.P g (lo*sz) T (madeCells zv.cells (len*sz)).toList 0 c w c1 (by omega) wq;rw[hlen,apn]at gw;have hnl:(es.take lo++(List.replicate len z++es.drop (lo+len))).length=es.length:=by simp;omega
        refine⟨w.setRow g (c.toList.take (lo*sz)++(madeCells zv.cells (len*sz)).toList++c.toList.drop (lo*sz+len*sz)).toArray,?_,hM.write hm rfl hg (lr.setRow (anz _)) setRow_size (fun k hk=>cm hk) ?_ rfl (by simp[bI.names]),hF.oA (fun _ _ h=>h) .set⟩
        ·obtain⟨n',rfl⟩:∃n',len=n'+1:=⟨len-1,by omega⟩;simp_all[Builtin.clear_,run_underlying,qA,QF]
        ·refine aP.re (g:=g) ?_ hA.2.2.1 hA.2.2.2.1 su.2 (setRow_heap w g c _ T (0,0) c1) ?_ (by omega) ?_
         ·rw[hnl,←hA.1,←hA.2.1];cases hq:(φ id).toEX with
          |mk a b c d=>simp_all
         ·grind
         ·rw[hnl];have hM2:Cells E.P μ sz (List.replicate len z) (madeCells zv.cells (len*sz)).toList:=by grind
          have hX:=(c5.take lo).append (hM2.append (c5.drop (lo+len)));have e1:(c.toList.take (lo*sz)++(madeCells zv.cells (len*sz)).toList++c.toList.drop (lo*sz+len*sz)).take (es.length*sz)=(c.toList.take (es.length*sz)).take (lo*sz)++((madeCells zv.cells (len*sz)).toList++(c.toList.take (es.length*sz)).drop ((lo+len)*sz)):=by
           have l1:(c.toList.take (lo*sz)).length=lo*sz:=by grind
           have l2:(c.toList.take (lo*sz)++(madeCells zv.cells (len*sz)).toList).length=lo*sz+len*sz:=by simp_all
           grind [List.take_append,List.take_of_length_le,Nat.min_eq_left,List.drop_take,List.append_assoc]
          rw[e1];omega
    ·cases h
   ·cases h
  ·cases h
 ·cases h
theorem E4(off:Nat):∀(l:List Value)(k:Nat)(c:Array Value),off+k+l.length≤c.size→(l.zipIdx k).foldl (fun cs(x:Value×Nat)=>cs.setIfInBounds (off+x.2) x.1) c=(bN c.toList (off+k) l).toArray
 |[],k,c,_=>by simp[ek]
 |v::r,k,c,h=>by simp only[List.zipIdx_cons,aqC];rw[E4 off r (k+1) _ (by simp at h⊢;omega)];congr 1;have e:=list_seg_step c.toList (off+k) v r (by omega);simp_all[ek,aoI,aol]
theorem Aq{place:Nat→Option (Nat×Nat)}{c:Array Value}{i off size:Nat}{v:Value}{rest:List (Nat×Value)}(hp:place i=some (off,size))(hv:v.cells.size=size)(hb:off+size≤c.size):Instr.fill place c ((i,v)::rest)=Instr.fill place (bN c.toList off v.cells.toList).toArray rest:=by
 have h1:v.cells.zipIdx.foldl (fun cs(x:Value×Nat)=>cs.setIfInBounds (off+x.2) x.1) c=(bN c.toList off v.cells.toList).toArray:=by rw[←Array.foldl_toList,Array.toList_zipIdx];simp_all[E4]
 simp_all[Instr.fill,IT]
theorem G4{place:Nat→Option (Nat×Nat)}:∀{parts:List (Nat×V)}{cs I6:List V},JG place cs parts=some I6→(∀id,cq id I6=true→cq id cs=true∨cq id (parts.map (·.2))=true)∧I6.length=cs.length∧∀(P:Program)(μ:Ro)(φ:Nat→aK)(c:Array Value)(dx:List (Nat×Value)),dx.length=parts.length→(∀(j i:Nat)v,parts[j]?=some (i,v)→∃y,dx[j]?=some (i,y)∧aq P μ φ v y)→c.size=cs.length→(∀(i:Nat)u y,cs[i]?=some u→c[i]?=some y→aq P μ φ u y)→(∀(i:Nat)(y:Value),c[i]?=some y→y.oneCell'=true)→∃c',Instr.fill place c dx=some c'∧c'.size=I6.length∧(∀(i:Nat)u y,I6[i]?=some u→c'[i]?=some y→aq P μ φ u y)∧(∀(i:Nat)(y:Value),c'[i]?=some y→y.oneCell'=true)
 |[],cs,I6,h=>by simp only[JG,tb]at h;subst h;refine⟨fun id hid=>.inl hid,rfl,fun P μ φ c dx hl _ hs hr h1=>?_⟩;have:dx=[]:=anF (by simpa using hl);subst this;exact⟨c,rfl,hs,hr,h1⟩
 |(i,v)::rest,cs,I6,h=>by
  simp only[JG]at h;split at h
  ·rename_i off size hp;split at h
   ·rename_i new hn;split at h
    ·rename_i hb;obtain⟨n1,n2,n3⟩:=toCells_ok hn;obtain⟨f1,f2,f3⟩:=G4 h;have hlen:(bN cs off new).length=cs.length:=cM (by omega);refine⟨fun id hid=>?_,by rw[f2,hlen],fun P μ φ c dx hl pQ hs hr h1=>?_⟩
     ·rcases f1 id hid with h|h
      ·obtain⟨u,hu,hh⟩:=cT.1 h;simp only[ek,anO]at hu;rcases hu with(hu|hu)|hu
       ·exact .inl (bO (aox hu) hh)
       ·exact .inr (by simp only[anB,cq,anH];exact .inl (n2 id (bO hu hh)))
       ·exact .inl (bO (ao3 hu) hh)
      ·exact .inr (by simp only[anB,cq,anH];exact .inr h)
     ·obtain⟨y,hy,hvy⟩:=pQ 0 i v (by simp);cases dx with
      |nil=>simp at hl
      |cons a oq=>
       simp at hy;subst hy;obtain⟨x1,x2,x3⟩:=n3 P μ φ y hvy;rw[Aq hp x1 (by omega)];have oB:off+y.cells.toList.length≤c.toList.length:=by simp;omega
       have e1:y.cells.toList.length=new.length:=by simp;omega
       refine f3 P μ φ _ oq (by simpa using hl) (fun j i' v' hj=>?_) ?_ (fun j u z hu hz=>?_) (fun j z hz=>?_)
       ·have:=pQ (j+1) i' v' (by simpa using hj);simpa using this
       ·simp only[aoC];rw[cM oB,hlen];simp[hs]
       ·rw[aoa]at hz;rcases dw oB hz with⟨b1,b2,b3⟩|⟨b1,b2⟩<;>rcases dw (by omega) hu with⟨d1,d2,d3⟩|⟨d1,d2⟩
        ·exact x2 _ u z d3 (by simpa using b3)
        ·exfalso;omega
        ·exfalso;omega
        ·exact hr j u z d2 (by simpa using b2)
       ·rw[aoa]at hz;rcases dw oB hz with⟨b1,b2,b3⟩|⟨b1,b2⟩
        ·exact x3 _ z (by simpa using b3)
        ·exact h1 j z (by simpa using b2)
    ·cases h
   ·cases h
  ·cases h
theorem G5:∀{fs:List Field},fs.all (fun f=>(E.P.info? f.type).isSome)=true→fs.mapM (fun f=>(E.P.info? f.type).map fun i=>(f.offset,i.size))=some (fs.map fun f=>(f.offset,aW E.P f.type))
 |[],_=>rfl
 |f::r,h=>by simp only[aql,OF]at h;obtain⟨i,hi⟩:=anK.1 h.1;simp only[aqa,hi,No,G5 h.2,anB];simp[aW,hi]
theorem UM{parts:List (Nat×V)}{k:V→Option R}{r:R}(h:DX E t parts k=some r):∃v,(∀(R':Type)(k':V→Option R'),DX E t parts k'=k' v)∧k v=some r∧(∀id,v.has id=true→cq id (parts.map (·.2))=true)∧∀(μ:Ro)(φ:Nat→aK)(w:World)(dx:Array (Nat×Value)),dx.size=parts.length→(∀(j i:Nat)v,parts[j]?=some (i,v)→∃y,dx[j]?=some (i,y)∧aq E.P μ φ v y)→∃z,(Instr.build t dx).run E.P w=.ok z w∧aq E.P μ φ v z:=by
 unfold DX at h;split at h
 ·rename_i z fs hz hu;split at h
  ·rename_i uz;split at h
   ·rename_i cs hf;obtain⟨i,zv,h1,h2,h3,h4,h5,h6,h7,h8⟩:=dC hz;obtain⟨f1,f2,f3⟩:=G4 hf;refine⟨_,fun R' k'=>by simp_all[DX,BY],h,fun id hid=>?_,fun μ φ w dx hl hp=>?_⟩
    ·grind [V.has,id]
    ·obtain⟨c',c1,c2,c3,c4⟩:=f3 E.P μ φ zv.cells dx.toList (by omega) (fun j i v hj=>by simpa using hp j i v hj) (by omega) (h7 μ φ) h8;refine⟨_,run_build w t dx c' ?_,.agg c2.symm c3 c4⟩;simp only[Program.built,h1,hu,h2,G5 uz];rw[←c1];congr 1;funext j;simp[placesOf]
   ·cases h
  ·cases h
 ·rename_i z n e hz hu;split at h
  ·rename_i eO;split at h
   ·rename_i cs hf;obtain⟨i,zv,h1,h2,h3,h4,h5,h6,h7,h8⟩:=dC hz;obtain⟨f1,f2,f3⟩:=G4 hf;refine⟨_,fun R' k'=>by simp_all[DX,BY],h,fun id hid=>?_,fun μ φ w dx hl hp=>?_⟩
    ·grind [V.has,id]
    ·obtain⟨c',c1,c2,c3,c4⟩:=f3 E.P μ φ zv.cells dx.toList (by omega) (fun j i v hj=>by simpa using hp j i v hj) (by omega) (h7 μ φ) h8;obtain⟨ie,hie,hse⟩:=Ak (P:=E.P) (t:=e) (by omega);refine⟨_,run_build w t dx c' ?_,.agg c2.symm c3 c4⟩;simp only[Program.built,h1,hu,h2,hie,hse];omega
   ·cases h
  ·cases h
 ·cases h
theorem vt{n:Nat}{agg:Bool}:∀{parts:List (Nat×V)}{m m':Mem}{i:Nat}{ps:List PV},fB m n agg i parts=some (ps,m')→kS m m'∧ps.length=parts.length∧∀(P:Program)(G:Nat→Option (List PV))(w0:bl)(μ:Ro)(φ:Nat→aK)(w:World)(dx:List (Nat×Value))(es:List PV)(c:Array Value),aG P G w0 μ φ m w→dx.length=parts.length→(∀(j i:Nat)v,parts[j]?=some (i,v)→∃y,dx[j]?=some (i,y)∧aq P μ φ v y)→es.length=i→c.size=(i+parts.length)*n→Cells P μ n es (c.toList.take (es.length*n))→∃μ' c',(∀b o,μ b=some o→μ' b=some o)∧aG P G w0 μ' φ m' w∧Instr.fill (fun i=>some (i*n,n)) c dx=some c'∧c'.size=(i+parts.length)*n∧Cells P μ' n (es++ps) c'.toList
 |[],m,m',i,ps,h=>by
  simp only[fB,tb,T0]at h;obtain⟨rfl,rfl⟩:=h;refine⟨.refl _,rfl,fun P G w0 μ φ w dx es c hM hl _ he hc hC=>⟨μ,c,fun _ _ h=>h,hM,?_,hc,?_⟩⟩
  ·have:dx=[]:=anF (by omega);subst this;rfl
  simp_all[aof,anZ,anz]
 |(j,v)::r,m,m',i,ps,h=>by
  simp only[fB]at h;split at h
  ·rename_i XC;subst XC;split at h
   ·rename_i p m1 hf;split at h
    ·rename_i ps1 m2 hr;simp only[tb,T0]at h;obtain⟨rfl,rfl⟩:=h;obtain⟨a1,a2⟩:=GU hf;obtain⟨b1,b2,b3⟩:=vt hr;refine⟨a1.trans b1,by simp[b2],fun P G w0 μ φ w dx es c hM hl hp he hc hC=>?_⟩;obtain⟨y,hy,hvy⟩:=hp 0 i v (by simp);cases dx with
     |nil=>simp at hl
     |cons a oq=>
      simp at hy;subst hy;obtain⟨μ1,c1,c2,c3⟩:=a2 P G w0 μ φ w y hM hvy;have oB:i*n+n≤c.size:=by grind
      have hyl:y.cells.toList.length=n:=by simpa using c3.size
      have aep:i*n+y.cells.toList.length≤c.toList.length:=by simp_all
      obtain⟨μ2,c',d1,d2,d3,d4,d5⟩:=b3 P G w0 μ1 φ w oq (es++[p]) (bN c.toList (i*n) y.cells.toList).toArray c2 (by simpa using hl) (fun j i' v' hj=>by
       obtain⟨z,hz1,hz2⟩:=hp (j+1) i' v' (by simpa using hj);exact⟨z,by simpa using hz1,hz2.A3 c1⟩) (by simp[he]) (by
       simp only[aoC];rw[cM aep];grind) (by
       have e1:((bN c.toList (i*n) y.cells.toList).toArray.toList.take ((es++[p]).length*n))=c.toList.take (es.length*n)++y.cells.toList:=by simp only[ek,anD,apm,he];exact List.take_left' (by grind)
       rw[e1];refine(hC.mono c1).append ⟨by simp[hyl],fun k e hk=>?_,fun k e l q z hk hl hz=>?_,fun k z hz=>c3.one k z (by simpa using hz)⟩
       ·cases k with
        |zero=>simp at hk;subst hk;exact c3.len
        |succ k=>simp at hk
       ·cases k with
        |zero=>simp at hk;subst hk;exact c3.rep l q z hl (by simpa using hz)
        |succ k=>simp at hk)
      refine⟨μ2,c',fun b o h=>d1 b o (c1 b o h),d2,?_,by grind,by simpa using d5⟩;rw[Aq rfl c3.size oB];omega
    ·cases h
   ·cases h
  ·cases h
theorem J5:∀{parts:List (Nat×V)}{i:Nat}{cs:List V},Gw i parts=some cs→cs.length=parts.length∧(∀id,cq id cs=true→cq id (parts.map Prod.snd)=true)∧∀(P:Program)(μ:Ro)(φ:Nat→aK)(dx:List (Nat×Value))(c:Array Value),dx.length=parts.length→(∀(j i:Nat)v,parts[j]?=some (i,v)→∃y,dx[j]?=some (i,y)∧aq P μ φ v y)→c.size=i+parts.length→∃c',Instr.fill (fun i=>some (i*1,1)) c dx=some c'∧c'.size=c.size∧(∀j,j<i→c'[j]?=c[j]?)∧∀j u,cs[j]?=some u→∃y,c'[i+j]?=some y∧aq P μ φ u y∧y.oneCell'=true
 |[],i,cs,h=>by simp only[Gw,tb]at h;subst h;refine⟨rfl,by simp[cq],fun P μ φ dx c hl _ hc=>⟨c,?_,rfl,fun _ _=>rfl,by simp⟩⟩;have:dx=[]:=anF (by omega);subst this;rfl
 |(j,v)::r,i,cs,h=>by
  simp only[Gw]at h;split at h
  ·rename_i XC;subst XC;split at h
   ·rename_i us0 hf;split at h
    ·rename_i us hr;simp only[tb]at h;subst h;obtain⟨a1,a2,a3⟩:=toCells_ok hf;obtain⟨b1,b2,b3⟩:=J5 hr;refine⟨by simp[a1,b1];omega,fun id hid=>?_,fun P μ φ dx c hl hp hc=>?_⟩
     ·obtain⟨u,hu,hh⟩:=cT.1 hid;rcases anO.1 hu with hu|hu
      ·simp only[anB,cq,anH];exact .inl (a2 id (bO hu hh))
      ·simp only[anB,cq,anH];exact .inr (b2 id (bO hu hh))
     ·obtain⟨y,hy,hvy⟩:=hp 0 i v (by simp);cases dx with
      |nil=>simp at hl
      |cons a oq=>
       simp at hy;subst hy;obtain⟨c1,c2,c3⟩:=a3 P μ φ y hvy;have oB:i*1+1≤c.size:=by simp at hc;omega
       have hyl:y.cells.toList.length=1:=by omega
       have aep:i*1+y.cells.toList.length≤c.toList.length:=by simp_all
       obtain⟨c',d1,d2,d3,d4⟩:=b3 P μ φ oq (bN c.toList (i*1) y.cells.toList).toArray (by simpa using hl) (fun j i' v' hj=>by
        obtain⟨z,hz1,hz2⟩:=hp (j+1) i' v' (by simpa using hj);simp_all) (by
        grind [List.size_toArray,cM,Array.length_toList,List.length_cons])
       have rD:∀k,(bN c.toList (i*1) y.cells.toList).toArray[k]?=if k=i then y.cells[0]? else c[k]?:=fun k=>by rw[aoa];rw[ek];rw[an1,an6,an9,aoM (by omega),an6,hyl];grind
       refine⟨c',?_,by simp_all[aoC,cM],fun k hk=>?_,fun k u hu=>?_⟩
       ·rw[Aq rfl c1 oB];omega
       ·grind
       ·have h0:us0.length=1:=a1;rw[an6,h0]at hu;split at hu
        ·rename_i hk;have hk0:k=0:=by omega
         subst hk0;have h5:=d3 i (by omega);grind
        grind
    ·cases h
   ·cases h
  ·cases h
end
section
variable {P:Program}
theorem iS:∀(d:Nat)(t:TypeId)(ks:List Kd),DK P d t=some ks→∀(D:Nat)(w:World)(em:Bool)(ps:List PV),ju ks ps=true→(Instr.checkKey em (D+d) t (fe P t ps)).run P w=.ok () w
 |0,t,ks,h,_,_,_,_,_=>by simp[DK]at h
 |d+1,t,ks,h,D,w,em,ps,hp=>by
  have ih:=iS d;unfold DK at h;split at h
  ·rename_i q hu;simp only[tb]at h;subst h;have ha:aJ P t=false:=by simp[aJ,hu]
   obtain⟨p,rfl,hkp⟩:=oz hp;simp_all[we,fe,valOf,aol,Instr.checkKey,run_underlying]
  ·rename_i hu;simp only[tb]at h;subst h;have ha:aJ P t=false:=by simp[aJ,hu]
   obtain⟨p,rfl,hkp⟩:=oz hp;simp_all[we,fe,valOf,aol,Instr.checkKey,run_underlying]
  ·rename_i hu;simp only[tb]at h;subst h;have ha:aJ P t=false:=by simp[aJ,hu]
   obtain⟨p,rfl,hkp⟩:=oz hp;simp_all[we,fe,valOf,aol,Instr.checkKey,run_underlying]
  ·rename_i fs hu;split at h
   ·cases h
   ·obtain⟨a,ha,h⟩:=AI.1 h;split at h
    ·rename_i hlen;simp only[tb]at h;subst h;have Xs:aJ P t=true:=by simp[aJ,hu]
     simp only[fe,Xs,IS,←aol];rw[Instr.checkKey];simp only[Sem.run_bind,run_underlying hu,Result.andThen_ok];rw[←Array.forIn_toList];have key:∀(L:List Field)(off:Nat)(b:List Kd),sQ (DK P d) L off=some b→off≤ps.length→ju b (ps.drop off)=true→(forIn L PUnit.unit fun f(_:PUnit)=>(do
       if f.name≠ "_" then Instr.checkKey em (D+d) f.type (←part f.type (ps.map valOf).toArray f.offset)
       pure (ForInStep.yield PUnit.unit):Sem (ForInStep PUnit))).run P w=.ok PUnit.unit w:=by
      intro L;induction L with
      |nil=>simp
      |cons f L ihL=>
       intro off b hb o1 h1;simp only[sQ]at hb;split at hb
       ·rename_i hf;obtain⟨c,hc,hb⟩:=AI.1 hb;obtain⟨b',j4,hb⟩:=AI.1 hb;simp only[tb]at hb;subst hb;rw[sZ]at h1;have l1:=sw h1.1;simp only[an9,ape]at l1;have p1:=lx (w:=w) (ps:=ps) (off:=off) hc (by omega);have p3:=ih f.type c hc D w em _ h1.1;have p4:=ihL (off+c.length) b' j4 (by omega) (by simp_all);simp_all
       ·cases hb
     have:=key fs.toList 0 a ha (by simp) (by simpa using hp);simp_all
    ·cases h
  ·rename_i n e hu;obtain⟨a,ha,h⟩:=AI.1 h;split at h
   ·rename_i hlen;simp only[tb]at h;subst h;have Xs:aJ P t=true:=by simp[aJ,hu]
    obtain⟨_,_,de,hde⟩:=Am ha;have n9:(sizeOf e).run P w=.ok a.length w:=by rw[hlen.1];exact E1 hde
    simp only[fe,Xs,IS,←aol];rw[Instr.checkKey];simp only[Sem.run_bind,run_underlying hu,Result.andThen_ok];simp only[Std.Legacy.Range.forIn_eq_forIn_range',Std.Legacy.Range.size,aqx,Nat.add_one_sub_one,Nat.div_one];have key:∀(k j:Nat),j*a.length≤ps.length→ju (sR a k) (ps.drop (j*a.length))=true→(forIn (List.range' j k) PUnit.unit fun i(_:PUnit)=>(do
      Instr.checkKey em (D+d) e (←part e (ps.map valOf).toArray (i*(←sizeOf e)))
      pure (ForInStep.yield PUnit.unit):Sem (ForInStep PUnit))).run P w=.ok PUnit.unit w:=by
     intro k;induction k with
     |zero=>simp
     |succ k ihk=>
      intro j o1 h1;simp only[sR]at h1;rw[sZ]at h1;have l1:=sw h1.1;simp only[an9,ape]at l1;have p1:=lx (w:=w) (ps:=ps) (off:=j*a.length) ha (by omega);have p3:=ih e a ha D w em _ h1.1;have ej:(j+1)*a.length=j*a.length+a.length:=by rw[aoo];omega
      have p4:=ihk (j+1) (by omega) (by simp_all);simp_all[apA,List.forIn_cons,Sem.run_bind,Result.andThen_ok,Sem.run_pure]
    simp_all
   ·cases h
  ·cases h
variable{kt:TypeId}{ks:List Kd}
theorem nL{μ:Ro}{k:PV}{y:Value}(h:yn P kt ks k=true)(hy:au P μ k y):ju ks k.cells=true∧y=fe P kt k.cells:=by
 simp only[yn,OF,beq_iff_eq]at h;refine⟨h.1,?_⟩;cases hq:k.isAgg with
 |true=>
  cases k<;>simp[PV.isAgg]at hq;cases hy with
  |agg h1 h2 h3=>have:=vn h.1 h1.symm h2;grind [fe,PV.isAgg,PV.cells]
 |false=>
  have hc:k.cells=[k]:=by cases k<;>first|rfl|(simp[PV.isAgg]at hq)
  have h1:=h.1;rw[hc]at h1;cases ks with
  |nil=>simp[ju]at h1
  |cons kd r=>simp only[ju,OF]at h1;grind [JW,fe]
theorem Lv:∀{ks:List Kd}{ps qs:List PV},ju ks ps=true→ju ks qs=true→bR ps qs=true→ps=qs
 |[],[],[],_,_,_=>rfl
 |k::ks,p::ps,q::qs,h1,h2,h3=>by
  simp only[ju,OF]at h1 h2;simp only[bR,OF]at h3;rw[Lv h1.2 h2.2 h3.2];have:p=q:=by cases k<;>cases p<;>simp[we]at h1<;>cases q<;>simp[we]at h2<;>simp[peq]at h3<;>simp_all
  rw[this]
 |[],p::ps,_,h,_,_=>by simp[ju]at h
 |k::ks,[],_,h,_,_=>by simp[ju]at h
 |[],[],q::qs,_,h,_=>by simp[ju]at h
 |k::ks,p::ps,[],_,h,_=>by simp[ju]at h
structure yW(P:Program)(μ:Ro)(kt:TypeId)(ks:List Kd)(l:List (PV×PV))(es:List MapEntry):Prop where
 len:es.length=l.length
 key:∀(i:Nat)k v,l[i]?=some (k,v)→yn P kt ks k=true
 rep:∀(i:Nat)k v e,l[i]?=some (k,v)→es[i]?=some e→au P μ k e.key∧au P μ v e.val
variable{l:List (PV×PV)}{es:List MapEntry}
theorem yW.tail{μ:Ro}{x:PV×PV}{e:MapEntry}(h:yW P μ kt ks (x::l) (e::es)):yW P μ kt ks l es:=⟨by simpa using h.len,fun i k v hi=>h.key (i+1) k v (by simpa using hi),fun i k v e hi he=>h.rep (i+1) k v e (by simpa using hi) (by simpa using he)⟩
inductive Found(k v:PV)(z:PV)(l:List (PV×PV))(es:List MapEntry)(i:Nat):Option (Nat×Value)→Prop
 |none:me k l=false→bT k z l=z→dr k v l=l++[(k,v)]→Found k v z l es i none
 |some {j:Nat} {a u:PV} {e:MapEntry}:l[j]?=some (a,u)→es[j]?=some e→bR k.cells a.cells=true→me k l=true→bT k z l=u→dr k v l=l.set j (k,v)→Found k v z l es i (some (i+j,e.val))
theorem Found.cons{k v z:PV}{x:PV×PV}{l:List (PV×PV)}{e:MapEntry}{es:List MapEntry}{i:Nat}{r:Option (Nat×Value)}(hx:bR k.cells x.1.cells=false)(h:Found k v z l es (i+1) r):Found k v z (x::l) (e::es) i r:=by
 obtain⟨a,u⟩:=x;cases h with
 |none h1 h2 h3=>exact .none (by simpa[me,hx]using h1) (by simpa[bT,hx]using h2) (by simpa[dr,hx]using h3)
 | @some j a' u' e' h1 h2 h3 h4 h5 h6=>have:=Found.some (k:=k) (v:=v) (z:=z) (l:=(a,u)::l) (es:=e::es) (i:=i) (j:=j+1) (a:=a') (u:=u') (e:=e') (by simpa using h1) (by simpa using h2) h3 (by simpa[me,hx]using h4) (by simpa[bT,hx]using h5) (by simpa[dr,hx]using h6);grind
theorem Found.here{k v z:PV}{a u:PV}{e:MapEntry}{i:Nat}(hx:bR k.cells a.cells=true):Found k v z ((a,u)::l) (e::es) i (Option.some (i,e.val)):=by have:=Found.some (k:=k) (v:=v) (z:=z) (l:=(a,u)::l) (es:=e::es) (i:=i) (j:=0) (a:=a) (u:=u) (e:=e) (by simp) (by simp) hx (by simp[me,hx]) (by simp[bT,hx]) (by simp[dr,hx]);omega
theorem th{μ:Ro}{kt:TypeId}{ks:List Kd}{k v z:PV}(hk:DK P 8 kt=some ks)(yJ:ju ks k.cells=true)(w:World):∀(l:List (PV×PV))(es:List MapEntry)(i:Nat),yW P μ kt ks l es→∃r,(Instr.findAsking kt (fe P kt k.cells) es i).run P w=.ok r w∧Found k v z l es i r
 |[],es,i,h=>by have:es=[]:=anF (by simpa using h.len);subst this;exact⟨none,by rfl,.none rfl rfl rfl⟩
 |(a,u)::l,es,i,h=>by
  cases es with
  |nil=>have:=h.len;simp at this
  |cons e es=>
   have hka:=h.key 0 a u (by simp);obtain⟨h1,h2⟩:=nL hka (h.rep 0 a u e (by simp) (by simp)).1;have he:(Op.equal kt (fe P kt k.cells) e.key).run P w=.ok (bR k.cells a.cells) w:=by rw[h2];exact rH 8 kt ks hk 9992 w _ _ yJ h1
   cases hp:bR k.cells a.cells with
   |true=>exact⟨some (i,e.val),by simp[Instr.findAsking,he,hp],.here hp⟩
   |false=>obtain⟨r,r1,r2⟩:=th (v:=v) (z:=z) hk yJ w l es (i+1) h.tail;exact⟨r,by simp[Instr.findAsking,he,hp,r1],r2.cons hp⟩
theorem E5{μ:Ro}{kt:TypeId}{d:TypeDesc}{ks:List Kd}{k v z:PV}(hu:P.underlying kt=some d)(ha:aJ P kt=false)(hk:DK P 8 kt=some ks)(yJ:ju ks k.cells=true):∀(l:List (PV×PV))(es:List MapEntry)(i:Nat),yW P μ kt ks l es→∃r,Instr.findNow d (fe P kt k.cells) es i=some r∧Found k v z l es i r
 |[],es,i,h=>by have:es=[]:=anF (by simpa using h.len);subst this;exact⟨none,by rfl,.none rfl rfl rfl⟩
 |(a,u)::l,es,i,h=>by
  cases es with
  |nil=>have:=h.len;simp at this
  |cons e es=>
   have hka:=h.key 0 a u (by simp);obtain⟨h1,h2⟩:=nL hka (h.rep 0 a u e (by simp) (by simp)).1;have he:Instr.sameNow d (fe P kt k.cells) e.key=some (bR k.cells a.cells):=by
    rw[h2];have nM:=hk;unfold DK at nM;rw[hu]at nM;cases d<;>simp at nM<;>try (simp[aJ,hu]at ha;done)
    all_goals subst nM;obtain⟨p,hp1,hp2⟩:=oz yJ;obtain⟨q,hq1,Xo⟩:=oz h1;rw[hp1,hq1];cases p<;>simp[we]at hp2;cases q<;>simp[we]at Xo;simp_all[fe,valOf,Instr.sameNow,bR,peq]
    all_goals (rw[anS,Go.MapKept.bytes_beq];simp_all)
   cases hp:bR k.cells a.cells with
   |true=>exact⟨some (i,e.val),by simp[Instr.findNow,he,hp],.here hp⟩
   |false=>obtain⟨r,r1,r2⟩:=E5 (v:=v) (z:=z) hu ha hk yJ l es (i+1) h.tail;exact⟨r,by simp[Instr.findNow,he,hp,r1],r2.cons hp⟩
theorem mC{μ:Ro}{k v z:PV}(hk:DK P 8 kt=some ks)(yJ:ju ks k.cells=true)(w:World)(h:yW P μ kt ks l es):∃r,(Instr.findKey kt (fe P kt k.cells) es).run P w=.ok r w∧Found k v z l es 0 r:=by
 obtain⟨_,_,d,hu⟩:=Am hk;cases ha:aJ P kt with
 |true=>rw[run_findKey_eq w (by grind [aJ])];exact th hk yJ w l es 0 h
 |false=>obtain⟨r,r1,r2⟩:=E5 (v:=v) (z:=z) hu ha hk yJ l es 0 h;simp_all[Go.MapKept.run_findKey]
end
section
variable {R:Type} {E:Env}
variable{P:Program}{t:TypeId}{ks:List Kd}
theorem Ar(h:uD P t=some ks):DK P 8 t=some ks:=by simp_all[uD]
variable{kt:TypeId}
theorem wx{v:V}{key:PV}(h:keyOf E kt v=some key):∃ks,uD E.P kt=some ks∧yn E.P kt ks key=true∧∀(μ:Ro)(φ:Nat→aK)(y:Value),aq E.P μ φ v y→au E.P μ key y:=by
 unfold keyOf at h;split at h
 ·rename_i ks Xt;refine⟨ks,Xt,?_⟩;split at h
  ·rename_i ha;split at h
   ·rename_i cs hc;split at h
    ·rename_i ps hp;split at h
     ·rename_i Qf;simp only[tb]at h;subst h;obtain⟨_,c2⟩:=q8 hc;obtain⟨p1,p2⟩:=gJ hp;refine⟨by simp_all[yn,PV.cells,PV.isAgg],fun μ φ y hy=>?_⟩;obtain⟨xs,rfl,h1,h2,h3⟩:=c2 E.P μ φ y hy;refine .agg (by omega) (fun i q z hq hz=>?_) h3;grind [wu]
     ·cases h
    ·cases h
   ·cases h
  ·rename_i ha;split at h
   ·rename_i p;split at h
    ·rename_i Qf;simp only[tb]at h;subst h;refine⟨?_,fun μ φ y hy=>by cases hy with|pv hy=>omega⟩;cases ks with
     |nil=>simp[ju]at Qf
     |cons kd r=>
      have ahq:=Qf;simp only[ju,OF]at ahq;have ha':aJ E.P kt=false:=by simpa using ha
      cases kd<;>cases p<;>simp[we]at ahq<;>simp_all[yn,PV.cells,PV.isAgg]
    ·cases h
   ·cases h
 ·cases h
variable{en:Array MapEntry}
theorem mS.push{clock:Nat}(h:mS en clock){k v:Value}:mS (en.push {key:=k,val:=v,born:=clock}) (clock+1):=by
 intro i e hi;rw[ap0]at hi;split at hi
 ·rename_i e1;simp only[tb]at hi;subst hi;refine⟨apV _,fun j e' hj hb=>?_⟩;rw[ap0]at hj;split at hj
  ·omega
  ·have:=(h j e' hj).1;simp_all
 ·obtain⟨h1,h2⟩:=h i e hi;grind
theorem mS.modify{en:Array MapEntry}{clock:Nat}(h:mS en clock)(f:MapEntry→MapEntry)(hf:∀e,(f e).born=e.born)(k:Nat):mS (en.modify k f) clock:=by
 have key:∀(i:Nat)e,(en.modify k f)[i]?=some e→∃e0,en[i]?=some e0∧e.born=e0.born:=fun i e hi=>by grind
 intro i e hi;obtain⟨e0,h0,hb0⟩:=key i e hi;obtain⟨h1,h2⟩:=h i e0 h0;grind
inductive XD(w:World):Value→Array MapEntry→Prop
 |nil:XD w (.map none) #[]
 |at{g clock:Nat} {en:Array MapEntry}:w.heap[g]?=some (.map en clock)→XD w (.map (some g)) en
theorem tl{μ:Ro}{et:TypeId}{key z:PV}{zv y yi:Value}{w:World}{l:List (PV×PV)}{ok:Bool}(hu:P.underlying t=some (.map kt et))(hk:uD P kt=some ks)(tn:yn P kt ks key=true)(WQ:au P μ key yi)(hy:XD w y en)(hE:yW P μ kt ks l en.toList)(hz:(zeroValue et).run P w=.ok zv w)(hzr:au P μ z zv):∃v,(Instr.lookup t y yi ok).run P w=.ok (if ok then .tuple #[v,.bool (me key l)]else v) w∧au P μ (bT key z l) v:=by
 have UN:=Ar hk;obtain⟨hc,hv⟩:=nL tn WQ;obtain⟨r,r1,r2⟩:=mC (v:=.bad) (z:=z) UN hc w hE;have h1:=iS 8 kt ks UN 9992 w en.isEmpty key.cells hc;rw[hv];have vk:∀(x:Value×Bool),(r=none→x=(zv,false))→(∀j v,r=some (j,v)→x=(v,true))→(Instr.lookup t y (fe P kt key.cells) ok).run P w=.ok (if ok then .tuple #[x.1,.bool x.2]else x.1) w:=by
  intro x hx1 hx2;cases hy with
  |nil=>
   have h1':(Instr.checkKey true 10000 kt (fe P kt key.cells)).run P w=.ok () w:=h1;have r1':(Instr.findKey kt (fe P kt key.cells) []).run P w=.ok r w:=r1;unfold Instr.lookup;simp only[Sem.run_bind,run_underlying hu,Result.andThen_ok,Sem.run_pure];cases r with
   |none=>simp_all
   |some jv=>obtain⟨j,v⟩:=jv;simp_all
  | «at» hg=>
   have DM:=Go.MapKept.run_getObj_map (P:=P) hg;have h1':(Instr.checkKey en.isEmpty 10000 kt (fe P kt key.cells)).run P w=.ok () w:=h1;unfold Instr.lookup;simp only[Sem.run_bind,run_underlying hu,Result.andThen_ok,Sem.run_pure,DM];cases r with
   |none=>simp_all
   |some jv=>obtain⟨j,v⟩:=jv;simp_all
 cases r2 with
 |none f1 f2 f3=>grind
 | @some j a u e f1 f2 f3 f4 f5 f6=>refine⟨e.val,?_,by rw[f5];exact(hE.rep j a u e f1 f2).2⟩;simp_all
variable{m:Mem}
theorem QG{x ix:V}{ok:Bool}{k:V→bx→Option R}{r:R}(h:xd E t x ix ok m k=some r):∃v ft,(∀m2:Mem,(∀x∈ft,m2 x.2=m x.2)→∀(R':Type)(k':V→bx→Option R'),xd E t x ix ok m2 k'=k' v ft)∧k v ft=some r∧(∀x∈ft,x.1=false)∧(∀id,v.has id=false)∧∀(G:Nat→Option (List PV))(w0:bl)(μ:Ro)(φ:Nat→aK)(w:World)(y yi:Value),aG E.P G w0 μ φ m w→aq E.P μ φ x y→aq E.P μ φ ix yi→∃u,(Instr.lookup t y yi ok).run E.P w=.ok u w∧aq E.P μ φ v u:=by
 have out:∀(q:PV)(b:Bool)(id:Nat),(if ok=true then V.aV [.pv q,.pv (.bool b)]else .pv q).has id=false:=by grind [id,V.has,cq]
 have rep:∀(μ:Ro)(φ:Nat→aK)(q:PV)(b:Bool)(v:Value),au E.P μ q v→aq E.P μ φ (if ok=true then V.aV [.pv q,.pv (.bool b)]else .pv q) (if ok=true then .tuple #[v,.bool b]else v):=by
  intro μ φ q b v hv;cases ok with
  |false=>exact .pv hv
  |true=>
   refine .aV (by simp) fun i p y hp hy=>?_;match i with
   |0=>simp at hp hy;subst hp;subst hy;exact .pv hv
   |1=>simp at hp hy;subst hp;subst hy;exact .pv .bool
   |n+2=>simp at hp
 unfold xd at h;split at h
 ·rename_i kt et hu;split at h
  ·rename_i z hz;obtain⟨zv,hz1,hz2⟩:=QE hz;split at h
   ·rename_i id;split at h
    ·rename_i yH es hm;split at h
     ·rename_i hkt;subst hkt;obtain⟨key,tn,h⟩:=AI.1 h;obtain⟨q,q1,q2,q3,_⟩:=mz h;obtain⟨ks,k1,k2,k3⟩:=wx tn;refine⟨_,_,fun m2 cQ R' k'=>by have:=cQ (false,id) (by simp);simp_all[xd,anC,IS],q2,by simp,out q _,fun G w0 μ φ w y yi hM hx hi=>?_⟩;obtain⟨g,en,clock,kk,hg,hh,hs,hk,Qf,_,hv⟩:=hM.dF id _ hm;rw[k1]at hk;simp only[tb]at hk;subst hk;cases hx with
      |om cV=>rw[hg]at cV;simp only[tb]at cV;subst cV;obtain⟨v,v1,v2⟩:=tl (ok:=ok) (z:=z) hu k1 k2 (k3 μ φ yi hi) (.at hh) (l:=es) ⟨by omega,Qf,fun i k v e h1 h2=>hv i k v e h1 (by simpa using h2)⟩ (hz1 w) (hz2 μ);exact⟨_,v1,rep μ φ q _ v (q3 _ _ _ v2)⟩
     ·cases h
    ·cases h
   ·rename_i pm;unfold cS at h;split at h
    ·obtain⟨key,tn,h⟩:=AI.1 h;obtain⟨ks,k1,k2,k3⟩:=wx tn;refine⟨_,_,fun m2 cQ R' k'=>by simp_all[xd,cS,anC],h,by simp,out z _,fun G w0 μ φ w y yi hM hx hi=>?_⟩;cases hx with
     |pv hx=>cases hx with
      |nW=>obtain⟨v,v1,v2⟩:=tl (ok:=ok) (z:=z) hu k1 k2 (k3 μ φ yi hi) .nil (l:=[]) ⟨by simp,by simp,by simp⟩ (hz1 w) (hz2 μ);exact⟨_,v1,rep μ φ z _ v v2⟩
    ·rename_i yH ks' vs';split at h
     ·rename_i hkt;subst hkt;obtain⟨key,tn,h⟩:=AI.1 h;obtain⟨q,q1,q2,q3,_⟩:=mz h;obtain⟨ks,k1,k2,k3⟩:=wx tn;refine⟨_,_,fun m2 cQ R' k'=>by simp_all[xd,cS,anC,IS],q2,by simp,out q _,fun G w0 μ φ w y yi hM hx hi=>?_⟩;cases hx with
      |pv hx=>cases hx with
       | @rm _ _ _ b clock en kk m1 m2 m3 m4 m5 m6 m7=>
        rw[k1]at m4;simp only[tb]at m4;subst m4;have afi:∀(i:Nat)k v,(ks'.zip vs')[i]?=some (k,v)→ks'[i]?=some k∧vs'[i]?=some v:=fun i k v h=>by grind
        obtain⟨v,v1,v2⟩:=tl (ok:=ok) (z:=z) hu k1 k2 (k3 μ φ yi hi) (.at (hM.ro _ _ m1)) (l:=ks'.zip vs') ⟨by simp[m2,m3],fun i k v h=>m5 i k (afi i k v h).1,fun i k v e h1 h2=>⟨m6 i k e (afi i k v h1).1 (by simpa using h2),m7 i v e (afi i k v h1).2 (by simpa using h2)⟩⟩ (hz1 w) (hz2 μ);exact⟨_,v1,rep μ φ q _ v (q3 _ _ _ v2)⟩
     ·cases h
    ·cases h
   ·cases h
  ·cases h
 ·cases h
variable{m':Mem}
theorem J6{v:V}{p:PV}(h:wY m v=some (p,m')):kS m m'∧∀(P:Program)(G:Nat→Option (List PV))(w0:bl)(μ:Ro)(φ:Nat→aK)(w:World)(x:Value),aG P G w0 μ φ m w→aq P μ φ v x→∃μ',(∀b o,μ b=some o→μ' b=some o)∧aG P G w0 μ' φ m' w∧au P μ' p x:=by
 unfold wY at h;split at h
 ·rename_i cs;split at h
  ·rename_i ps m1 hf;simp only[tb,T0]at h;obtain⟨rfl,rfl⟩:=h;obtain⟨f1,f2,f3⟩:=GS hf;refine⟨f1,fun P G w0 μ φ w x hM hx=>?_⟩;cases hx with
   | @agg _ xs h1 h2 h3=>
    have hX:∀(i:Nat),i<cs.length→xs[i]?=some (xs.getD i undef):=fun i hi=>by simp_all
    obtain⟨μ',e1,e2,e3⟩:=f3 P G w0 μ φ w (fun i=>xs.getD i undef) hM fun i u hu=>h2 i u _ hu (hX i (IN.1 hu).1);refine⟨μ',e1,e2,.agg (by omega) (fun j q y hq hy=>?_) h3⟩;grind
  ·cases h
 ·exact SH h
theorem E6{v:V}{p:PV}(h:wY dh v=some (p,m')):∀(P:Program)(μ:Ro)(φ:Nat→aK)(x:Value),aq P μ φ v x→au P μ p x:=by
 unfold wY at h;split at h
 ·rename_i cs;split at h
  ·rename_i ps m1 hf;simp only[tb,T0]at h;obtain⟨rfl,rfl⟩:=h;obtain⟨f2,f3⟩:=BI hf;intro P μ φ x hx;cases hx with
   | @agg _ xs h1 h2 h3=>
    have hX:∀(i:Nat),i<cs.length→xs[i]?=some (xs.getD i undef):=fun i hi=>by simp_all
    have e3:=f3 P μ φ (fun i=>xs.getD i undef) fun i u hu=>h2 i u _ hu (hX i (IN.1 hu).1);refine .agg (by omega) (fun j q y hq hy=>?_) h3;grind
  ·cases h
 ·exact J1 h
theorem QH{draw:Bool}{v:V}{p:PV}(h:CA draw m v=some (p,m')):kS m m'∧(draw=true→m'=m∧∀m2:Mem,CA true m2 v=some (p,m2))∧∀(P:Program)(G:Nat→Option (List PV))(w0:bl)(μ:Ro)(φ:Nat→aK)(w:World)(x:Value),aG P G w0 μ φ m w→aq P μ φ v x→∃μ',(∀b o,μ b=some o→μ' b=some o)∧aG P G w0 μ' φ m' w∧au P μ' p x:=by
 unfold CA at h;split at h
 ·rename_i hd;split at h
  ·rename_i q m1 hf;simp only[tb,T0]at h;obtain⟨rfl,rfl⟩:=h;exact⟨.refl _,fun _=>⟨rfl,fun m2=>by simp[CA,hf]⟩,fun P G w0 μ φ w x hM hx=>⟨μ,fun _ _ h=>h,hM,E6 hf P μ φ x hx⟩⟩
  ·cases h
 grind [J6,absurd]
theorem Bc:∀{ps:List PV},ju ks ps=true→∀(n:Nat),(ps.map valOf).all (fun v=>Instr.sameBits n v v)=true:=by
 induction ks with
 |nil=>intro ps h n;cases ps<;>simp[ju]at h;rfl
 |cons k ks ih=>
  intro ps h n;cases ps with
  |nil=>rfl
  |cons p ps=>simp only[ju,OF]at h;simp only[anB,aql,ih h.2 n,apd];cases k<;>cases p<;>simp[we]at h<;>simp[valOf,Instr.sameBits,Go.MapKept.bytes_beq]
theorem yX{ps:List PV}(h:ju ks ps=true)(hl:aJ P t=false→ps.length=1)(n:Nat):Instr.sameBits (n+1) (fe P t ps) (fe P t ps)=true:=by
 unfold fe;cases ha:aJ P t with
 |true=>have:=Bc h n;simp only[IS,Instr.sameBits,BEq.rfl,aoB];grind
 |false=>
  have h1:=hl ha;match ps,h1 with
  |[p],_=>have:=Bc h (n+1);simpa using this
theorem Bd{draw:Bool}{x key val:V}{k:Mem→bx→Option R}{r:R}(h:pY E draw t x key val m k=some r):∃m' ft,k m' ft=some r∧(draw=true→∃id b,m'=aB m id b∧ft=[(true,id)]∧∀m2:Mem,m2 id=m id→∀(R':Type)(k':Mem→bx→Option R'),pY E true t x key val m2 k'=k' (aB m2 id b) [(true,id)])∧kS m m'∧∀(G:Nat→Option (List PV))(w0:bl)(μ:Ro)(φ:Nat→aK)(w:World)(ya yk yv:Value),aG E.P G w0 μ φ m w→aq E.P μ φ x ya→aq E.P μ φ key yk→aq E.P μ φ val yv→∃w' μ',(Instr.mapUpdate t ya yk yv).run E.P w=.ok () w'∧(∀b o,μ b=some o→μ' b=some o)∧aG E.P G w0 μ' φ m' w':=by
 unfold pY at h;split at h
 ·rename_i kt et hu;split at h
  ·rename_i id;split at h
   ·rename_i v m1 hf;obtain⟨f1,f2,f3⟩:=QH hf;split at h
    ·rename_i yH es hm;split at h
     ·rename_i hkt;subst hkt;obtain⟨kp,tn,h⟩:=AI.1 h;obtain⟨ks,k1,k2,k3⟩:=wx tn;refine⟨_,_,h,fun hd=>?_,f1.trans .set,fun G w0 μ φ w ya yk yv hM hx hk hv=>?_⟩
      ·obtain⟨rfl,f4⟩:=f2 hd;exact⟨id,_,rfl,rfl,fun m2 cQ R' k'=>by simp_all[pY,anC,IS]⟩
      ·obtain⟨μ',g1,g2,g3⟩:=f3 _ _ _ _ _ _ _ hM hv;obtain⟨g,en,clock,kk,hg,hh,hs,yJ,Qf,Ah,kL⟩:=g2.dF id _ hm;rw[k1]at yJ;simp only[tb]at yJ;subst yJ;have UN:=Ar k1;have hkr:=(k3 μ φ yk hk).mono g1;obtain⟨hc,hkv⟩:=nL k2 hkr;have hE:yW E.P μ' yH ks es en.toList:=⟨by omega,Qf,fun i k v e h1 h2=>kL i k v e h1 (by simpa using h2)⟩;obtain⟨res,r1,r2⟩:=mC (v:=v) (z:=.bad) UN hc w hE;have DM:=Go.MapKept.run_getObj_map (P:=E.P) hh;have h1:(Instr.checkKey false 10000 yH yk).run E.P w=.ok () w:=by rw[hkv];exact iS 8 yH ks UN 9992 w false kp.cells hc
       rw[←hkv]at r1;have bK:g<w.heap.size:=(adW.1 hh).1;cases hx with
       |om cV=>
        rw[hg]at cV;simp only[tb]at cV;subst cV;have fin:∀(o:Obj)(Qh:Array MapEntry)(rJ:Nat),o=.map Qh rJ→(Instr.mapUpdate t (.map (some g)) yk yv).run E.P w=.ok () {w with heap:=w.heap.setIfInBounds g o}→mS Qh rJ→yW E.P μ' yH ks (dr kp v es) Qh.toList→∃w' μ',(Instr.mapUpdate t (.map (some g)) yk yv).run E.P w=.ok () w'∧(∀b o,μ b=some o→μ' b=some o)∧aG E.P G w0 μ' φ (aB m1 id (.map yH (dr kp v es))) w':=by rintro o Qh rJ rfl hr alb hE';refine⟨_,μ',hr,g1,g2.write hm rfl hg ⟨⟨rfl,rfl,rfl,by simp,fun k hk=>by grind⟩,fun _=>anz _⟩ (by simp) (fun k hk=>by grind) ?_ rfl (by simp[bI.names])⟩;exact⟨g,Qh,rJ,ks,hg,by simp[bK],by simpa using hE'.len,k1,hE'.key,alb,fun i k v e h1 h2=>hE'.rep i k v e h1 (by simpa using h2)⟩
        cases r2 with
        |none e1 e2 e3=>
         have UO:=Go.MapKept.run_setObj_map (P:=E.P) (.map (en.push {key:=yk,val:=yv,born:=clock}) (clock+1)) hh;refine fin _ _ _ rfl (by simp only[Instr.mapUpdate,Sem.run_bind,run_underlying hu,DM,h1,r1,Result.andThen_ok];exact UO) Ah.push ?_;rw[e3];have eE:∀(i:Nat)k' v' e,(es++[(kp,v)])[i]?=some (k',v')→(en.push {key:=yk,val:=yv,born:=clock}).toList[i]?=some e→(es[i]?=some (k',v')∧en.toList[i]?=some e)∨(k'=kp∧v'=v∧e.key=yk∧e.val=yv):=by grind
         refine⟨by simp[hs],fun i k' v' h=>?_,fun i k' v' e h1 h2=>?_⟩
         ·grind
         grind
        | @some j a u e e1 e2 e3 e4 e5 e6=>
         have e2':en[j]?=some e:=by simpa using e2
         obtain⟨hca,hva⟩:=nL (Qf j a u e1) (kL j a u e e1 e2').1;have xr:=Lv hc hca e3;have hsb:Instr.sameBits 10000 e.key yk=true:=by rw[hva,hkv,←xr];refine yX (n:=9999) hc (fun ha=>?_);rw[sw hc];exact(Am UN).2.1 ha
         have UO:=Go.MapKept.run_setObj_map (P:=E.P) (.map (en.modify j fun e=>{e with key:=yk,val:=yv}) clock) hh;have yD:j<en.size:=(adW.1 e2').1;refine fin _ _ _ rfl (by simp only[Instr.mapUpdate,Sem.run_bind,run_underlying hu,DM,h1,r1,Result.andThen_ok];simp only[aoy,e2',No,anY,Instr.keyThatStays,hsb,IS,Sem.run_pure,Result.andThen_ok];exact UO) (Ah.modify (fun e=>{e with key:=yk,val:=yv}) (fun _=>rfl) _) ?_;rw[e6];have uy:∀(i:Nat)k' v',(es.set j (kp,v))[i]?=some (k',v')→(i=j∧k'=kp∧v'=v)∨(i≠j∧es[i]?=some (k',v')):=by grind
         refine⟨by simp[hs],fun i k' v' h=>?_,fun i k' v' e' h1 h2=>?_⟩
         ·grind
         grind
     ·cases h
    ·cases h
   ·cases h
  ·cases h
 ·cases h
theorem NO{μ:Ro}{φ:Nat→aK}{w:World}{site:Nat}(hk:uD P kt=some ks)(hφ:(φ site).g=some w.heap.size):gK P μ φ (w.alloc (.map #[] 0)) site (.map kt []):=⟨w.heap.size,#[],0,ks,hφ,fV w _,rfl,hk,by simp,fun i e h=>by simp at h,by simp⟩
end
def yR(P:Program)(G:Nat→Option (List PV))(g:FuncId)(M:List PV→Option PV):Prop:=
 (∃fn c,P.funcs[g]?=some fn∧fn.body=some c∧(fn.name== "runtime.NumGoroutine")=false)∧
 ∀(ps:List PV)(r:PV),M ps=some r→∀(w:World)(μ:Ro)(xs:Array Value),(∀b o,μ b=some o→w.heap[b]?=some o)→(∀g cs,G g=some cs→A2 P μ g cs)→ps.length=xs.size→(∀(i:Nat)p x,ps[i]?=some p→xs[i]?=some x→au P μ p x)→Calls P g xs w fun e w'=>∃y,e=.returned y∧lr w.heap.size w w'∧au P (cF μ w w') r y
def D5(P:Program)(G:Nat→Option (List PV))(g:FuncId)(M:List PV→Option PV):Prop:=
 (∃fn c,P.funcs[g]?=some fn∧fn.body=some c∧(fn.name== "runtime.NumGoroutine")=false)∧
 ∀(fn:Func)(t e:TypeId),P.funcs[g]?=some fn→fn.resultTypes.toList=[t]→P.underlying t=some (.slice e)→∀(ps:List PV)(r:PV),M ps=some r→∀(w:World)(μ:Ro)(xs:Array Value),(∀b o,μ b=some o→w.heap[b]?=some o)→(∀g cs,G g=some cs→A2 P μ g cs)→ps.length=xs.size→(∀(i:Nat)p x,ps[i]?=some p→xs[i]?=some x→au P μ p x)→Calls P g xs w fun en w'=>∃(y:Value)(ph:aK)(es:List PV),en=.returned y∧lr w.heap.size w w'∧r=.rs (aW P e) es∧(∀g,ph.g=some g→w.heap.size≤g)∧aP P (nJ (cF μ w w') ph.g) (fun _=>ph) w' 0 (aW P e) e es∧aq P μ (fun _=>ph) (.os 0) y
def ahr(m:Mem):Option (Nat×bI)→Mem
 |some (id,b)=>aB m id b
 |none=>m
def ahs(E:Env)(g:FuncId)(args:List V)(f:Fr)(m:Mem)(v:V)(f':Fr)(m':Mem):Prop:=
 (∃fn c,E.P.funcs[g]?=some fn∧fn.body=some c∧(fn.name== "runtime.NumGoroutine")=false)∧
 ∀(w0:bl)(μ:Ro)(φ:Nat→aK)(ρ:Nat→Value)(w:World)(xs:Array Value),aG E.P E.aF w0 μ φ m w→b9 E.P μ φ m f ρ→args.length=xs.size→(∀(i:Nat)v x,args[i]?=some v→xs[i]?=some x→aq E.P μ φ v x)→(∀id,cq id args=true→(m id).isSome=true)→Calls E.P g xs w fun e w'=>∃y μ' φ',e=.returned y∧aG E.P E.aF w0 μ' φ' m' w'∧b9 E.P μ' φ' m' f' ρ∧aq E.P μ' φ' v y∧∀id,v.has id=true→(m' id).isSome=true
def Lw{R:Type}(P:Program)(G:Nat→Option (List PV))(g:FuncId)(args:List V)(f:Fr)(m:Mem)(k:V→Fr→Mem→Option R)(r:R):Prop:=
 (∃fn c,P.funcs[g]?=some fn∧fn.body=some c∧(fn.name== "runtime.NumGoroutine")=false)∧
 ∀(w0:bl)(μ:Ro)(φ:Nat→aK)(ρ:Nat→Value)(w:World)(xs:Array Value),aG P G w0 μ φ m w→b9 P μ φ m f ρ→args.length=xs.size→(∀(i:Nat)v x,args[i]?=some v→xs[i]?=some x→aq P μ φ v x)→(∀id,cq id args=true→(m id).isSome=true)→Calls P g xs w fun e w'=>∃v f' m' y μ' φ',k v f' m'=some r∧e=.returned y∧aG P G w0 μ' φ' m' w'∧b9 P μ' φ' m' f' ρ∧aq P μ' φ' v y∧∀id,v.has id=true→(m' id).isSome=true
def aeq(P:Program)(G:Nat→Option (List PV))(nt:Nat)(yl:YL)(w0:bl):Prop:=∀(R:Type)site id args f m(k:V→Fr→Mem→Option R)r,yl R nt site id args f m k=some r→∀(μ:Ro)(φ:Nat→aK)(ρ:Nat→Value)(w:World)(xs:Array Value),aG P G w0 μ φ m w→b9 P μ φ m f ρ→(∀t,nt≤t→ρ t=w0.sv t)→args.length=xs.size→(∀(i:Nat)v x,args[i]?=some v→xs[i]?=some x→aq P μ φ v x)→(∀id,cq id args=true→(m id).isSome=true)→∀g,(φ id).g=some g→∃fn tmps assign body,(Instr.yield g xs).run P w=.ok (.round g fn tmps assign body) w∧RoundIn Fence.wide 0 P g fn tmps assign body w fun e w'=>∃v f' m' y μ' φ',k v f' m'=some r∧e=.returned y∧(∀b o,μ b=some o→μ' b=some o)∧aG P G w0 μ' φ' m' w'∧b9 P μ' φ' m' f' ρ∧aq P μ' φ' v y∧∀id,v.has id=true→(m' id).isSome=true
def sq(P:Program)(G:Nat→Option (List PV))(nt:Nat)(yl:YL)(w0:bl):Prop:=∀H:Ro,aeq P G nt yl {w0 with hid:=H}
theorem CF(P:Program)(G:Nat→Option (List PV))(nt:Nat)(w0:bl):sq P G nt Bx w0:=fun H R site id args f m k r h=>by cases h
variable{G:Nat→Option (List PV)}{φ:Nat→aK}
theorem aG.BK{P:Program}{w0:bl}{μ:Ro}{m:Mem}{w:World}(h:aG P G w0 μ φ m w){K:Ro}(hK:∀b o,K b=some o→μ b=some o):aG P G {w0 with dG:=K} μ φ m w:=⟨h.below,h.ro,h.aF,h.dF,h.own,h.inj,h.apart,h.fJ,h.base,hK,h.DL,h.hid⟩
theorem aG.G6{P:Program}{w0:bl}{μ:Ro}{m:Mem}{w:World}{K:Ro}(h:aG P G {w0 with dG:=K} μ φ m w)(hK:∀b o,w0.dG b=some o→K b=some o):aG P G w0 μ φ m w:=⟨h.below,h.ro,h.aF,h.dF,h.own,h.inj,h.apart,h.fJ,h.base,fun b o hb=>h.dG b o (hK b o hb),h.DL,h.hid⟩
theorem sq.BK{P:Program}{G:Nat→Option (List PV)}{nt:Nat}{yl:YL}{w0:bl}(h:sq P G nt yl w0){K:Ro}(hK:∀b o,w0.dG b=some o→K b=some o):sq P G nt yl {w0 with dG:=K}:=fun H R site id args f m k r hy μ φ ρ w xs hM hF hρ hl hr Lj g hg=>
  let⟨fn,tmps,assign,body,y1,y2⟩:=h H R site id args f m k r hy μ φ ρ w xs (aG.G6 (w0:={w0 with hid:=H}) hM hK) hF hρ hl hr Lj g hg
  ⟨fn,tmps,assign,body,y1,y2.mono fun e w'⟨v,f',m',y,μ',φ',a1,a2,a3,a4,a5⟩=>⟨v,f',m',y,μ',φ',a1,a2,a3,a4.BK fun b o hb=>a3 b o (hM.dG b o hb),a5⟩⟩
def Qw{R:Type}(P:Program)(G:Nat→Option (List PV))(g:FuncId)(yl:YL)(args:List V)(f:Fr)(m:Mem)(k:V→Fr→Mem→Option R)(r:R):Prop:=
 ∃fn c,P.funcs[g]?=some fn∧fn.body=some c∧(fn.name== "runtime.NumGoroutine")=false∧
 ∀(w0:bl)(μ:Ro)(φ:Nat→aK)(ρ:Nat→Value)(w:World)(xs:Array Value),aG P G w0 μ φ m w→b9 P μ φ m f ρ→args.length=xs.size→(∀(i:Nat)v x,args[i]?=some v→xs[i]?=some x→aq P μ φ v x)→(∀id,cq id args=true→(m id).isSome=true)→sq P G fn.ntmps yl {w0 with sv:=fun t=>ρ (t-fn.ntmps)}→Calls P g xs w fun e w'=>∃v f' m' y μ' φ',k v f' m'=some r∧e=.returned y∧aG P G w0 μ' φ' m' w'∧b9 P μ' φ' m' f' ρ∧aq P μ' φ' v y∧∀id,v.has id=true→(m' id).isSome=true
structure jR(E:Env):Prop where
 mixed:E.P.follows .mixedOrders=true
 lp:∀(S R:Type)(body:S→(S→Option R)→Option R)s r,E.lp.run body s=some r→∃n,bX body n s=some r
 ctx:∀g M,E.ctx g=some M→yR E.P E.aF g M
 own:∀g M,E.own g=some M→D5 E.P E.aF g M
 inl:∀(R:Type)g Qi args f m(k:V→Fr→Mem→Option R)r,E.inl R g Qi args f m k=some r→Lw E.P E.aF g args f m k r
 rng:∀(R:Type)g Qi yl args f m(k:V→Fr→Mem→Option R)r,E.rng R g Qi yl args f m k=some r→Qw E.P E.aF g yl args f m k r
section
variable {R:Type} {E:Env}
theorem eP{f:V→List Nat}{id:Nat}:∀{cs:List V},id∈jy f cs↔∃v∈cs,id∈f v
 |[]=>by simp[jy]
 |c::r=>by simp[jy,eP (cs:=r)]
theorem mV{g g':V→Option PV}:∀{cs:List V},(∀v∈cs,g' v=g v)→rF g' cs=rF g cs
 |[],_=>rfl
 |c::r,h=>by simp_all[rF,mV]
theorem sL{m m2:Mem}:∀(d:Nat){v:V},(∀id∈cZ m d v,m2 id=m id)→lU m2 d v=lU m d v
 |0,v,_=>rfl
 |d+1,v,h=>by
  cases v with
  |agg cs=>simp only[lU];rw[mV fun v hv=>sL d fun id hid=>h id (by simp only[cZ];exact eP.2 ⟨v,hv,hid⟩)]
  |aV cs=>simp only[lU];rw[mV fun v hv=>sL d fun id hid=>h id (by simp only[cZ];exact eP.2 ⟨v,hv,hid⟩)]
  |fn g cs=>simp only[lU];rw[mV fun v hv=>sL d fun id hid=>h id (by simp only[cZ];exact eP.2 ⟨v,hv,hid⟩)]
  |op id off=>
   have h0:=h id (by simp[cZ]);simp only[lU,h0];split
   ·rename_i cs hm;rw[mV fun v hv=>sL d fun uv hid=>h uv (by simp only[cZ,hm];exact apu _ (eP.2 ⟨v,hv,hid⟩))]
   rfl
  |oe id i off=>grind [lU,id,cZ]
  |os id=>grind [lU,id,cZ]
  |fX id lo len=>grind [lU,id,cZ]
  |om id=>grind [lU,id,cZ]
  |yK id i off=>grind [lU,id,cZ]
  |_=>rfl
theorem jE{g g':V→List Nat}:∀{cs:List V},(∀v∈cs,g' v=g v)→jy g' cs=jy g cs
 |[],_=>rfl
 |c::r,h=>by simp_all[jy,jE]
theorem nN{m m2:Mem}:∀(d:Nat){v:V},(∀id∈cZ m d v,m2 id=m id)→cZ m2 d v=cZ m d v
 |0,v,_=>rfl
 |d+1,v,h=>by
  cases v with
  |agg cs=>simp only[cZ];exact jE fun v hv=>nN d fun id hid=>h id (by simp only[cZ];exact eP.2 ⟨v,hv,hid⟩)
  |aV cs=>simp only[cZ];exact jE fun v hv=>nN d fun id hid=>h id (by simp only[cZ];exact eP.2 ⟨v,hv,hid⟩)
  |fn g cs=>simp only[cZ];exact jE fun v hv=>nN d fun id hid=>h id (by simp only[cZ];exact eP.2 ⟨v,hv,hid⟩)
  |op id off=>
   have h0:=h id (by simp[cZ]);simp only[cZ,h0];split
   ·rename_i cs hm;rw[jE fun v hv=>nN d fun uv hid=>h uv (by simp only[cZ,hm];exact apu _ (eP.2 ⟨v,hv,hid⟩))]
   rfl
  |_=>rfl
variable{p:PV}
theorem E7{t:TypeId}{k:PV→Option R}{r:R}(hs:xe E t=true)(h:ij E t p k=some r):∃q,(∀(R':Type)(k':PV→Option R'),ij E t p k'=k' q)∧k q=some r∧∀(P:Program)(μ μ':Ro)x,au P μ p x→au P μ' q x:=by
 unfold xe at hs;unfold ij at h;split at h
 ·rename_i q hu;obtain⟨n,hn,hk⟩:=AI.1 h;have hp:p=.int q n:=by cases p<;>simp[asInt]at hn;simp_all
  exact⟨.int q n,fun R' k'=>by simp[ij,hu,hn],hk,fun P μ μ' x hx=>by subst hp;cases hx with|int h=>exact .int h⟩
 ·rename_i hu;obtain⟨n,hn,hk⟩:=AI.1 h;have hp:p=.bool n:=by cases p<;>simp[asBool]at hn;subst hn;rfl
  exact⟨.bool n,fun R' k'=>by simp[ij,hu,hn],hk,fun P μ μ' x hx=>by subst hp;cases hx;exact .bool⟩
 ·rename_i hu;obtain⟨n,hn,hk⟩:=AI.1 h;have hp:p=.str n:=by cases p<;>simp[bt]at hn;subst hn;rfl
  exact⟨.str n,fun R' k'=>by simp[ij,hu,hn],hk,fun P μ μ' x hx=>by subst hp;cases hx with|str h=>exact .str h⟩
 all_goals simp_all
theorem NP:∀{ts:List TypeId}{ps:List PV}{k:List V→Option R}{r:R},EN E ts ps k=some r→∃vs,(∀(R':Type)(k':List V→Option R'),EN E ts ps k'=k' vs)∧k vs=some r∧vs.length=ps.length∧(∀id,cq id vs=false)∧(∀(P:Program)(μ:Ro)(φ:Nat→aK)(i:Nat)p v x,ps[i]?=some p→vs[i]?=some v→au P μ p x→aq P μ φ v x)∧(ts.all (xe E)=true→∀(P:Program)(μ μ':Ro)(φ:Nat→aK)(i:Nat)p v x,ps[i]?=some p→vs[i]?=some v→au P μ p x→aq P μ' φ v x)
 |[],[],k,r,h=>⟨[],fun R' k'=>rfl,h,rfl,fun _=>rfl,by simp,by simp⟩
 |t::ts,p::ps,k,r,h=>by
  simp only[EN]at h;obtain⟨q,q1,q2,q3,_⟩:=mz h;obtain⟨vs,v1,v2,v3,v4,v5,v6⟩:=NP q2;refine⟨.pv q::vs,fun R' k'=>by simp only[EN];rw[q1,v1],v2,by simp[v3],fun id=>by simp[cq,v4],fun P μ φ i p' v x hp hv hx=>?_,fun hs P μ μ' φ i p' v x hp hv hx=>?_⟩
  ·cases i with
   |zero=>simp at hp hv;subst hp;subst hv;exact .pv (q3 _ _ _ hx)
   |succ i=>grind
  ·simp only[aql,OF]at hs;cases i with
   |zero=>
    simp at hp hv;subst hp;subst hv;obtain⟨q',s1,s2,s3⟩:=E7 hs.1 h;have:q'=q:=by have e1:=s1 PV some;grind
    subst this;exact .pv (s3 P μ μ' x hx)
   |succ i=>grind
 |[],p::ps,k,r,h=>by simp[EN]at h
 |t::ts,[],k,r,h=>by simp[EN]at h
theorem NQ{n:Nat}{r:PV}{vs:List PV}(h:cz n r=some vs):r=.aV vs∧vs.length=n:=by cases r<;>simp[cz]at h;grind
variable{ts:List TypeId}
theorem NR{k:V→Option R}{r:R}(h:EO E ts p k=some r):∃v,(∀(R':Type)(k':V→Option R'),EO E ts p k'=k' v)∧k v=some r∧(∀id,v.has id=false)∧(∀(P:Program)(μ:Ro)(φ:Nat→aK)x,au P μ p x→aq P μ φ v x)∧(ts.all (xe E)=true→∀(P:Program)(μ μ':Ro)(φ:Nat→aK)x,au P μ p x→aq P μ' φ v x):=by
 unfold EO at h;split at h
 ·obtain⟨vs,hv,hk⟩:=AI.1 h;obtain⟨rfl,hl⟩:=NQ hv;have:vs=[]:=anF hl;subst this;have key:∀(P:Program)(μ μ':Ro)(φ:Nat→aK)x,au P μ (.aV []) x→aq P μ' φ (.aV []) x:=fun P μ μ' φ x hx=>by
   cases hx with
   |aV h1 h2=>exact .aV h1 (by simp)
  grind [EO,V.has,cq]
 ·rename_i t;obtain⟨q,q1,q2,q3,_⟩:=mz h;refine⟨.pv q,fun R' k'=>by simp only[EO];rw[q1],q2,by simp,fun P μ φ x hx=>.pv (q3 _ _ _ hx),fun hs P μ μ' φ x hx=>?_⟩;obtain⟨q',s1,s2,s3⟩:=E7 (by simpa using hs) h;have:q'=q:=by have e1:=s1 PV some;grind
  subst this;exact .pv (s3 P μ μ' x hx)
 ·rename_i ald aht;obtain⟨vs,hv,hk⟩:=AI.1 h;obtain⟨rfl,hl⟩:=NQ hv;obtain⟨us,u1,u2,u3,u4,u5,u6⟩:=NP hk;have ahu:((List.range ts.length).map fun j=>vs.getD j .bad)=vs:=by apply anX;grind
  rw[ahu]at u3 u5 u6;refine⟨.aV us,fun R' k'=>?_,u2,fun id=>by simp[V.has,u4],fun P μ φ x hx=>?_,fun hs P μ μ' φ x hx=>?_⟩
  ·unfold EO;simp_all
  ·cases hx with
   |aV h1 h2=>
    refine .aV (by omega) fun i v y hv hy=>?_;have hi:i<vs.length:=by grind
    exact u5 P μ φ i _ v y (ta hi) hv (h2 i _ y (ta hi) hy)
  ·cases hx with
   |aV h1 h2=>
    refine .aV (by omega) fun i v y hv hy=>?_;have hi:i<vs.length:=by grind
    exact u6 hs P μ μ' φ i _ v y (ta hi) hv (h2 i _ y (ta hi) hy)
theorem vu:∀{args:List V}{m m':Mem}{ps:List PV},jz m args=some (ps,m')→kS m m'∧ps.length=args.length∧∀(P:Program)(G:Nat→Option (List PV))(w0:bl)(μ:Ro)(φ:Nat→aK)(w:World)(X:Nat→Value),aG P G w0 μ φ m w→(∀(i:Nat)u,args[i]?=some u→aq P μ φ u (X i))→∃μ',(∀b o,μ b=some o→μ' b=some o)∧aG P G w0 μ' φ m' w∧∀(i:Nat)p,ps[i]?=some p→au P μ' p (X i)
 |[],m,m',ps,h=>by simp only[jz,tb,T0]at h;obtain⟨rfl,rfl⟩:=h;exact⟨.refl _,rfl,fun P G w0 μ φ w X hM _=>⟨μ,fun _ _ h=>h,hM,by simp⟩⟩
 |c::r,m,m',ps,h=>by
  simp only[jz]at h;split at h
  ·rename_i p m1 h1;split at h
   ·rename_i ps1 m2 h2;simp only[tb,T0]at h;obtain⟨rfl,rfl⟩:=h;obtain⟨a1,a2⟩:=J6 h1;obtain⟨b1,b2,b3⟩:=vu h2;refine⟨a1.trans b1,by simp[b2],fun P G w0 μ φ w X hM hx=>?_⟩;obtain⟨μ1,c1,c2,c3⟩:=a2 P G w0 μ φ w (X 0) hM (hx 0 c (by simp));obtain⟨μ2,d1,d2,d3⟩:=b3 P G w0 μ1 φ w (fun i=>X (i+1)) c2 (fun i u hu=>(hx (i+1) u (by simpa using hu)).A3 c1);refine⟨μ2,fun b o h=>d1 b o (c1 b o h),d2,fun i q hq=>?_⟩;cases i with
    |zero=>simp at hq;subst hq;exact c3.mono d1
    |succ i=>simp_all
   ·cases h
  ·cases h
theorem Lx{m':Mem}{v:V}(h:wY dh v=some (p,m')):m'=dh:=by
 have key:∀{cs:List V}{m':Mem}{ps:List PV},nI dh cs=some (ps,m')→m'=dh:=by
  intro cs;induction cs with
  |nil=>simp[nI,tb,T0]
  |cons c r ih=>grind [nI,tg,Option.some.injEq,Prod.mk.injEq]
 unfold wY at h;grind [Option.some.injEq,Prod.mk.injEq,tg]
theorem rK:∀{args:List V}{m':Mem}{ps:List PV},jz dh args=some (ps,m')→ps.length=args.length∧∀(P:Program)(μ:Ro)(φ:Nat→aK)(X:Nat→Value),(∀(i:Nat)u,args[i]?=some u→aq P μ φ u (X i))→∀(i:Nat)p,ps[i]?=some p→au P μ p (X i)
 |[],m',ps,h=>by simp only[jz,tb,T0]at h;simp_all
 |c::r,m',ps,h=>by
  simp only[jz]at h;split at h
  ·rename_i p m1 h1;have:=Lx h1;subst this;split at h
   ·rename_i ps1 m2 h2;simp only[tb,T0]at h;obtain⟨rfl,rfl⟩:=h;obtain⟨b2,b3⟩:=rK h2;refine⟨by simp[b2],fun P μ φ X hx i q hq=>?_⟩;cases i with
    |zero=>simp at hq;subst hq;exact E6 h1 P μ φ _ (hx 0 c (by simp))
    |succ i=>exact b3 P μ φ (fun i=>X (i+1)) (fun i u hu=>hx (i+1) u (by simpa using hu)) i q (by simpa using hq)
   ·cases h
  ·cases h
variable{φ:Nat→aK}
theorem aP.move{P:Program}{μ μ':Ro}{φ':Nat→aK}{w:World}{i j sz:Nat}{et:TypeId}{es:List PV}(h:aP P μ φ w i sz et es)(hφ:φ' j=φ i)(hμ:∀b o,μ b=some o→μ' b=some o):aP P μ' φ' w j sz et es:=by
 unfold aP at*;rw[hφ];obtain⟨h1,h2,h3,h4,h5,h6,h7⟩:=h;refine⟨h1,h2,h3,h4,h5,h6,?_⟩;split at h7
 ·omega
 ·obtain⟨c,T,c1,c2,c3,c4,c5⟩:=h7;exact⟨c,T,c1,c2,c3,fun i e j p x he hp hx=>(c4 i e j p x he hp hx).mono hμ,c5⟩
theorem aP.UP{P:Program}{ν μ:Ro}{w:World}{i:Nat}{et:TypeId}{es:List PV}(h:aP P ν φ w i 1 et es):aP P μ φ w i 1 et (es.map JH):=by
 unfold aP at*;obtain⟨h1,h2,h3,h4,h5,h6,h7⟩:=h;have hc:∀p:PV,(JH p).cells.length=1:=fun p=>by cases p<;>rfl
 refine⟨by simpa using h1,h2,h3,h4,fun j e he=>?_,h6,?_⟩
 ·grind
 ·split at h7
  ·simp_all
  ·obtain⟨c,T,c1,c2,c3,c4,c5⟩:=h7;refine⟨c,T,c1,c2,by simpa using c3,fun j e l p x he hp hx=>?_,fun j x hj hx=>c5 j x (by simpa using hj) hx⟩;simp only[AT,ae0]at he;obtain⟨q,hq,rfl⟩:=he;have hl:l=0:=by grind
   subst hl;cases q<;>(simp only[JH,PV.cells,aoh,tb]at hp;subst hp);case int=>have:=c4 j _ 0 _ x hq rfl hx;cases this with|int h=>exact .int h
   case bool=>have:=c4 j _ 0 _ x hq rfl hx;cases this;exact .bool
   case str=>have:=c4 j _ 0 _ x hq rfl hx;cases this with|str h=>exact .str h
   all_goals exact .bad
mutual
theorem XE:∀(s:FS)(p:PV)(a:List PV),rdL s p=some a→a.length=s.n∧∀r,Lb s (a++r)=(p,r)
 |.raw,p,a,h=>by simp only[rdL,tb]at h;subst h;exact⟨rfl,fun r=>rfl⟩
 |.fn g cs,p,a,h=>by
  cases p<;>simp only[rdL]at h<;>try (cases h;done)
  split at h
  ·rename_i e;subst e;obtain⟨h1,h2⟩:=Ly cs _ a h;exact⟨by simp[FS.n,h1],fun r=>by simp[Lb,h2 r]⟩
  ·cases h
 |.ptr cs,p,a,h=>by
  cases p<;>simp only[rdL]at h<;>try (cases h;done)
  obtain⟨h1,h2⟩:=Ly cs _ a h;exact⟨by simp[FS.n,h1],fun r=>by simp[Lb,h2 r]⟩
theorem Ly:∀(ss:List FS)(ps:List PV)(a:List PV),Np ss ps=some a→a.length=nFs ss∧∀r,EM ss (a++r)=(ps,r)
 |[],ps,a,h=>by
  cases ps with
  |nil=>simp only[Np,tb]at h;subst h;exact⟨rfl,fun r=>rfl⟩
  |cons p ps=>simp[Np]at h
 |s::ss,ps,a,h=>by
  cases ps with
  |nil=>simp[Np]at h
  |cons p ps=>simp only[Np]at h;obtain⟨x,hx,h⟩:=AI.1 h;obtain⟨y,hy,h⟩:=AI.1 h;simp only[tb]at h;subst h;obtain⟨a1,a2⟩:=XE s p x hx;obtain⟨b1,b2⟩:=Ly ss ps y hy;refine⟨by simp[nFs,a1,b1],fun r=>?_⟩;simp only[EM,an1,a2,b2]
end
theorem SK{s:FS}{ls:List PV}(h:rdL s p=some ls):(Lb s ((List.range s.n).map fun j=>ls.getD j .bad)).1=p:=by
 obtain⟨h1,h2⟩:=XE s p ls h;have:((List.range s.n).map fun j=>ls.getD j .bad)=ls:=by apply anX;grind
 rw[this];have:=h2 [];simp_all
theorem UQ{fid:FuncId}{k:V→Option R}{r:R}(h:DS E fid ts p k=some r):∃v,(∀(R':Type)(k':V→Option R'),DS E fid ts p k'=k' v)∧k v=some r∧(∀id,v.has id=false)∧(∀(P:Program)(μ:Ro)(φ:Nat→aK)x,au P μ p x→aq P μ φ v x)∧True:=by
 unfold DS at h;split at h
 ·rename_i s hs;obtain⟨ls,hl,hk⟩:=AI.1 h;refine⟨_,fun R' k'=>by simp_all[DS,anC],hk,fun id=>rfl,fun P μ φ x hx=>.pv ?_,trivial⟩;rw[SK hl];omega
 ·rename_i hs;obtain⟨v,v1,v2,v3,v4,_⟩:=NR h;exact⟨v,fun R' k'=>by simp_all[DS],v2,v3,v4,trivial⟩
theorem XF(hE:jR E){draw:Bool}{site:Nat}{g:FuncId}{args:List V}{f:Fr}{m:Mem}{k:V→Fr→Mem→bx→Option R}{r:R}(h:yo E draw site g args f m k=some r):(∃v f' m' ft,k v f' m' ft=some r∧(draw=true→f'=f∧∃wr:Option (Nat×bI),m'=ahr m wr∧(∀id b,wr=some (id,b)→(true,id)∈ft)∧∀(f2:Fr)(m2:Mem),(∀x∈ft,m2 x.2=m x.2)→∀(R':Type)(k':V→Fr→Mem→bx→Option R'),yo E true site g args f2 m2 k'=k' v f2 (ahr m2 wr) ft)∧((∀x∈ft,x.1=false)→f'=f∧m'=m)∧ahs E g args f m v f' m')∨(draw=false∧Lw E.P E.aF g args f m (fun v f m=>k v f m [(true,0)]) r):=by
 have hX:∀(P:Program)(μ:Ro)(φ:Nat→aK)(xs:Array Value),args.length=xs.size→(∀(i:Nat)v x,args[i]?=some v→xs[i]?=some x→aq P μ φ v x)→∀(i:Nat)u,args[i]?=some u→xs[i]?=some (xs.getD i undef)∧aq P μ φ u (xs.getD i undef):=by
  intro P μ φ xs hl hr i u hu;have bK:i<xs.size:=by grind
  have:xs[i]?=some (xs.getD i undef):=by simp_all
  grind
 unfold yo at h;split at h
 ·rename_i M UR;obtain⟨WK,hM⟩:=hE.ctx g M UR;split at h
  ·rename_i fn hg;split at h
   ·rename_i hsc;split at h
    ·rename_i ps pS;obtain⟨p,hp,h⟩:=AI.1 h;obtain⟨v,v1,v2,v3,v4,v5⟩:=NR h;refine .inl ⟨v,f,m,_,v2,fun hd=>⟨rfl,none,rfl,by simp,fun f2 m2 cQ R' k'=>?_⟩,fun _=>⟨rfl,rfl⟩,WK,fun w0 μ φ ρ w xs hR hF hl hr Lj=>?_⟩
     ·have Xs:rF (lU m2 fa) args=rF (lU m fa) args:=mV fun v hv=>sL _ fun id hid=>cQ (false,id) (by simp only[anG];exact⟨id,eP.2 ⟨v,hv,hid⟩,rfl⟩);have CN:((jy (cZ m2 fa) args).map fun i=>(false,i))=((jy (cZ m fa) args).map fun i=>(false,i)):=by have:jy (cZ m2 fa) args=jy (cZ m fa) args:=jE fun v hv=>nN _ fun id hid=>cQ (false,id) (by simp only[anG];exact⟨id,eP.2 ⟨v,hv,hid⟩,rfl⟩);rw[this]
      simp only[yo,UR,hg];rw[BY hsc];simp only[Xs,pS,hp,anC,CN];rw[v1];rfl
     ·obtain⟨p1,p2⟩:=gJ pS;refine(hM ps p hp w (kP w) xs (fun _ _ h=>h) (fun g cs hg=>(hR.aF g cs hg).mono hR.Al) (by omega) (fun i q x hq hx=>?_)).mono ?_
      ·obtain⟨u,hu,hf⟩:=p2 i q hq;exact wk hR hR.Al (fun _ _ _ _ _=>rfl) _ hf (hr i u x hu hx)
      ·rintro e w' ⟨y,rfl,hb,hy⟩;exact⟨y,cF μ w w',φ,rfl,hR.called hb,hF.oA (lz hR w') (.refl _),v5 hsc E.P _ _ φ y hy,fun id hid=>by simp_all⟩
    ·cases h
   ·rename_i hsc;split at h
    ·rename_i ps m1 pS;obtain⟨p,hp,h⟩:=AI.1 h;obtain⟨v,v1,v2,v3,v4,v5⟩:=UQ h;cases draw with
     |true=>
      simp only[IS]at pS v2;obtain⟨q1,q2⟩:=rK pS;refine .inl ⟨v,f,m,_,v2,fun _=>⟨rfl,none,rfl,by simp,fun f2 m2 cQ R' k'=>?_⟩,fun _=>⟨rfl,rfl⟩,WK,fun w0 μ φ ρ w xs hR hF hl hr Lj=>?_⟩
      ·simp only[yo,UR,hg];rw[IT hsc];simp only[IS,pS,hp,anC];rw[v1];rfl
      ·refine(hM ps p hp w μ xs hR.ro hR.aF (by omega) (fun i q x hq hx=>?_)).mono ?_
       ·have:=q2 E.P μ φ (fun i=>xs.getD i undef) (fun i u hu=>(hX E.P μ φ xs hl hr i u hu).2) i q hq;simp_all
       ·rintro e w' ⟨y,rfl,hb,hy⟩;exact⟨y,cF μ w w',φ,rfl,hR.called hb,hF.oA (lz hR w') (.refl _),v4 E.P _ φ y hy,fun id hid=>by simp_all⟩
     |false=>
      simp only[tc,PS]at pS v2;obtain⟨q0,q1,q2⟩:=vu pS;refine .inl ⟨v,f,m1,_,v2,fun hd=>by(cases hd),fun hq=>absurd (hq (true,0) (by simp)) (by simp),WK,fun w0 μ φ ρ w xs hR hF hl hr Lj=>?_⟩;obtain⟨μ1,r1,r2,r3⟩:=q2 E.P E.aF w0 μ φ w (fun i=>xs.getD i undef) hR (fun i u hu=>(hX E.P μ φ xs hl hr i u hu).2);refine(hM ps p hp w μ1 xs r2.ro r2.aF (by omega) (fun i q x hq hx=>?_)).mono ?_
      ·have:=r3 i q hq;have bK:i<xs.size:=(adW.1 hx).1;simp_all[undef,T1,tb,Array.getD]
      ·rintro e w' ⟨y,rfl,hb,hy⟩;exact⟨y,cF μ1 w w',φ,rfl,r2.called hb,hF.oA (fun b o h=>lz r2 w' b o (r1 b o h)) q0,v4 E.P _ φ y hy,fun id hid=>by grind⟩
    ·cases h
  ·cases h
 ·rename_i UR;split at h
  ·rename_i M BE;obtain⟨WK,hM⟩:=hE.own g M BE;split at h
   ·rename_i fn hg;split at h
    ·rename_i t ht;split at h
     ·rename_i e hu;split at h
      ·rename_i hsc;obtain⟨hsc,wq⟩:=hsc;split at h
       ·rename_i ps pS;obtain⟨p,hp,h⟩:=AI.1 h;obtain⟨es,Nf,h⟩:=AI.1 h;obtain⟨f',m',n1,n2,n3,n4,n5⟩:=ck h;refine .inl ⟨_,f',m',_,n2,fun hd=>?_,fun hq=>absurd (hq (true,site) (by simp)) (by simp),WK,fun w0 μ φ ρ w xs hR hF hl hr Lj=>?_⟩
        ·obtain⟨d1,d2,d3⟩:=n4 hd;subst hd;refine⟨d2,some (site,_),d3,by simp,fun f2 m2 cQ R' k'=>?_⟩;have Xs:rF (lU m2 fa) args=rF (lU m fa) args:=mV fun v hv=>sL _ fun id hid=>cQ (false,id) (by simp only[anO,anG];exact .inr ⟨id,eP.2 ⟨v,hv,hid⟩,rfl⟩);have CN:jy (cZ m2 fa) args=jy (cZ m fa) args:=jE fun v hv=>nN _ fun id hid=>cQ (false,id) (by simp only[anO,anG];exact .inr ⟨id,eP.2 ⟨v,hv,hid⟩,rfl⟩);simp only[yo,UR,BE,hg,ht,hu];rw[BY ⟨hsc,wq⟩];simp only[Xs,pS,hp,anC,Nf,CN];have hs2:m2 site=none:=by rw[cQ (true,site) (by simp)];omega
         simp only[fresh,hs2];rfl
        ·obtain⟨p1,p2⟩:=gJ pS;refine(hM fn t e hg ht hu ps p hp w (kP w) xs (fun _ _ h=>h) (fun g cs hg=>(hR.aF g cs hg).mono hR.Al) (by omega) (fun i q x hq hx=>?_)).mono ?_
         ·obtain⟨u,s7,hf⟩:=p2 i q hq;exact wk hR hR.Al (fun _ _ _ _ _=>rfl) _ hf (hr i u x s7 hx)
         rintro en w' ⟨y,ph,es',rfl,hb,rfl,DM,hA,hy⟩;have afj:es'=es:=by simp only[ak,IS,tb]at Nf;omega
         subst afj;rw[wq]at hA;have hA2:aP E.P (nJ (cF μ w w') ph.g) (fun _=>ph) w' 0 1 e (es'.map JH):=hA.UP;have D9:=hR.JZ hb DM;have hF2:b9 E.P (nJ (cF μ w w') ph.g) φ m f ρ:=hF.oA (fun b o h=>BH hR w' DM b o h) (.refl _);have hP:lW E.P w0 (nJ (cF μ w w') ph.g) φ m w' w' site (.arr (aW E.P e) e (es'.map JH)) ph:=by
          refine⟨lr.refl _ _,D9.ro,fun _ _ _ _ _=>rfl,fun g hg=>⟨?_,?_,?_⟩,fun φ' hp _=>by rw[wq];exact hA2.move hp (fun _ _ h=>h),by simp[bI.names],fun g o h=>⟨(D9.hid g o h).1,fun e=>by have h1:=DM g e;have:=(adW.1 (hR.hid g o h).1).1;omega⟩,fun st h=>by cases h⟩
          ·have:=DM g hg;have:=hR.below.size;grind
          ·simp[nJ,hg]
          ·intro id b' j4 cV;have h1:=(hR.dF id b' j4).FU cV;grind
         obtain⟨φ',a1,a2,a3⟩:=n5 E.P E.aF w0 _ φ w' w' ρ ph D9 hF2 hP;refine⟨y,_,φ',rfl,a2,a3,?_,fun id hid=>?_⟩
         ·cases hy with
          |ux h=>exact .ux (by rw[a1];omega)
          | @os _ g h=>have:=aq.os (P:=E.P) (μ:=nJ (cF μ w w') ph.g) (φ:=φ') (id:=site) (g:=g) (by rw[a1];omega);grind
         ·have hid:=K5 hid;subst hid;simp[n3]
       ·cases h
      rename_i hsc;split at h
      ·rename_i ps m1 pS;obtain⟨p,hp,h⟩:=AI.1 h;obtain⟨es,Nf,h⟩:=AI.1 h;obtain⟨f',m',n1,n2,n3,n4,n5⟩:=ck h;have fin:∀(w0:bl)(μ μ1:Ro)(φ:Nat→aK)(ρ:Nat→Value)(w:World)(xs:Array Value),(∀b o,μ b=some o→μ1 b=some o)→kS m (if draw then m else m1)→aG E.P E.aF w0 μ1 φ (if draw then m else m1) w→b9 E.P μ φ m f ρ→ps.length=xs.size→(∀(i:Nat)p x,ps[i]?=some p→xs[i]?=some x→au E.P μ1 p x)→Calls E.P g xs w fun e w'=>∃y μ' φ',e=.returned y∧aG E.P E.aF w0 μ' φ' m' w'∧b9 E.P μ' φ' m' f' ρ∧aq E.P μ' φ' (.os site) y∧∀id,(V.os site).has id=true→(m' id).isSome=true:=by
        intro w0 μ μ1 φ ρ w xs hle Lj hR hF hl hr;refine(hM fn t e hg ht hu ps p hp w μ1 xs hR.ro hR.aF hl hr).mono ?_;rintro en w' ⟨y,ph,es',rfl,hb,rfl,DM,hA,hy⟩;have afj:es'=es:=by simp only[ak,IS,tb]at Nf;omega
        subst afj;have D9:=hR.JZ hb DM;have hF2:b9 E.P (nJ (cF μ1 w w') ph.g) φ (if draw then m else m1) f ρ:=hF.oA (fun b o h=>BH hR w' DM b o (hle b o h)) Lj;have hP:lW E.P w0 (nJ (cF μ1 w w') ph.g) φ (if draw then m else m1) w' w' site (.arr (aW E.P e) e es') ph:=by
         refine⟨lr.refl _ _,D9.ro,fun _ _ _ _ _=>rfl,fun g hg=>⟨?_,?_,?_⟩,fun φ' hp _=>hA.move hp (fun _ _ h=>h),by simp[bI.names],fun g o h=>⟨(D9.hid g o h).1,fun e=>by have h1:=DM g e;have:=(adW.1 (hR.hid g o h).1).1;omega⟩,fun st h=>by cases h⟩
         ·have:=DM g hg;have:=hR.below.size;grind
         ·simp[nJ,hg]
         ·intro id b' j4 cV;have h1:=(hR.dF id b' j4).FU cV;grind
        obtain⟨φ',a1,a2,a3⟩:=n5 E.P E.aF w0 _ φ w' w' ρ ph D9 hF2 hP;refine⟨y,_,φ',rfl,a2,a3,?_,fun id hid=>?_⟩
        ·cases hy with
         |ux h=>exact .ux (by rw[a1];omega)
         | @os _ g h=>have:=aq.os (P:=E.P) (μ:=nJ (cF μ1 w w') ph.g) (φ:=φ') (id:=site) (g:=g) (by rw[a1];omega);grind
        ·have hid:=K5 hid;subst hid;simp[n3]
       cases draw with
       |true=>
        simp only[IS]at pS n2 fin n4;obtain⟨q1,q2⟩:=rK pS;obtain⟨d1,d2,d3⟩:=n4 trivial;refine .inl ⟨_,f',m',_,n2,fun _=>⟨d2,some (site,_),d3,by simp,fun f2 m2 cQ R' k'=>?_⟩,fun hq=>absurd (hq (true,site) (by simp)) (by simp),WK,fun w0 μ φ ρ w xs hR hF hl hr Lj=>?_⟩
        ·simp only[yo,UR,BE,hg,ht,hu];rw[IT hsc];simp only[IS,pS,hp,anC,Nf];have hs2:m2 site=none:=by rw[cQ (true,site) (by simp)];omega
         simp only[fresh,hs2];rfl
        ·refine fin w0 μ μ φ ρ w xs (fun _ _ h=>h) (.refl _) hR hF (by omega) fun i q x hq hx=>?_;have:=q2 E.P μ φ (fun i=>xs.getD i undef) (fun i u hu=>(hX E.P μ φ xs hl hr i u hu).2) i q hq;have bK:i<xs.size:=(adW.1 hx).1;have e:xs.getD i undef=x:=by rw[T1 bK]at hx;simp only[tb]at hx;simp[Array.getD,bK,hx]
         rw[←e];omega
       |false=>
        simp only[tc,PS]at pS n2 fin n4;obtain⟨q0,q1,q2⟩:=vu pS;refine .inl ⟨_,f',m',_,n2,fun hd=>by(cases hd),fun hq=>absurd (hq (true,site) (by simp)) (by simp),WK,fun w0 μ φ ρ w xs hR hF hl hr Lj=>?_⟩;obtain⟨μ1,r1,r2,r3⟩:=q2 E.P E.aF w0 μ φ w (fun i=>xs.getD i undef) hR (fun i u hu=>(hX E.P μ φ xs hl hr i u hu).2);refine fin w0 μ μ1 φ ρ w xs r1 q0 r2 hF (by omega) fun i q x hq hx=>?_;have:=r3 i q hq;have bK:i<xs.size:=(adW.1 hx).1;have e:xs.getD i undef=x:=by rw[T1 bK]at hx;simp only[tb]at hx;simp[Array.getD,bK,hx]
        rw[←e];omega
      ·cases h
     ·cases h
    ·cases h
   ·cases h
  ·split at h
   ·cases h
   ·rename_i hd;exact .inr ⟨by simpa using hd,hE.inl _ _ _ _ _ _ _ _ h⟩
end
end Go.Ab
