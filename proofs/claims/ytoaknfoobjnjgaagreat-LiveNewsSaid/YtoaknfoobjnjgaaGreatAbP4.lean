import Derived.Test.YtoaknfoobjnjgaaGreatAbP3
import Derived.WideKeyRuns
import Derived.MapKept
import Derived.RangeFuncRecord
set_option linter.all false
namespace Go.Ab
open Go.RowKit (Below)
section
variable {R:Type} {E:Env}
theorem cells_one{x:Value}(h:x.oneCell'=true):x.cells= #[x]:=by cases x<;>first|rfl|(simp[Value.oneCell']at h)
theorem aq.elem{P:Program}{μ:Ro}{n:Nat}{p:PV}{x:Value}(h:aq P μ p x)(hl:p.cells.length=n)(hp:p.plain=true):wV P μ n p x:=by
 cases hq:p.isAgg with
 |true=>
  cases p<;>simp[PV.isAgg]at hq;cases h with
  |agg h1 h2 h3=>exact⟨hl,by simp_all[PV.cells,Value.cells],h2,h3⟩
 |false=>
  have hc:p.cells=[p]:=by cases p<;>first|rfl|(simp[PV.isAgg]at hq)
  have h1:x.oneCell'=true:=h.one (fun cs e=>by subst e;simp[PV.isAgg]at hq) (fun cs e=>by subst e;simp[PV.plain]at hp) (fun e=>by subst e;simp[PV.plain]at hp);have hx:=cells_one h1;refine⟨hl,by simp_all,fun j q y hj hy=>?_,fun j y hy=>?_⟩
  ·grind
  grind
variable{t:TypeId}
theorem FQ{z:PV}(h:FI E t=some z):∃i zv,E.P.info? t=some i∧i.zero=some zv∧i.size=aS E.P t∧(∀μ,aq E.P μ z zv)∧∀μ,wV E.P μ (aS E.P t) z zv:=by
 unfold FI zeroV at h;cases hi:E.P.info? t with
 |none=>simp[hi]at h
 |some i=>
  cases hz:i.zero with
  |none=>simp[hi,hz]at h
  |some zv=>
   simp only[hi,hz,aoe,IS]at h;split at h
   ·rename_i p hp;split at h
    ·rename_i hc;simp only[tb]at h;subst h;have hr:∀μ,aq E.P μ p zv:=fun μ=>yn 2 hp (yf (φ:=fun _=>default) zv);exact⟨i,zv,rfl,hz,by simp[aS,hi],hr,fun μ=>(hr μ).elem hc.2.1 hc.2.2⟩
    ·cases h
   ·cases h
theorem RG{z:PV}(h:FI E t=some z):∃zv,(∀w,(zeroValue t).run E.P w=.ok zv w)∧∀μ,aq E.P μ z zv:=by obtain⟨i,zv,h1,h2,h3,h4,_⟩:=FQ h;simp_all[qW]
theorem Cells.made{P:Program}{μ:Ro}{sz:Nat}{z:PV}{zv:Value}(hE:wV P μ sz z zv)(eY:0<sz)(n cap:Nat)(hn:n≤cap):Cells P μ sz (List.replicate n z) ((madeCells zv.cells (cap*sz)).toList.take ((List.replicate n z).length*sz)):=by
 have hle:n*sz≤cap*sz:=an8 _ hn;have ey:∀k y,((madeCells zv.cells (cap*sz)).toList.take ((List.replicate n z).length*sz))[k]?=some y→zv.cells[k%sz]?=some y:=by
  intro k y hk;obtain⟨h1,h2⟩:=iS hk;simp only[aoI]at h1;have bF:k%sz<zv.cells.size:=by rw[hE.size];exact aq1 _ eY
  rw[aoS,madeCells,Array.getElem?_map,Array.getElem?_range]at h2;rw[No (by omega)]at h2;simp only[IS,tb,hE.size]at h2;simp_all
 refine⟨by rw[aoz,aoI,aqw,size_madeCells];omega,fun i e hi=>?_,fun i e j p y hi hj hy=>?_,fun k y hk=>hE.one _ y (ey k y hk)⟩
 ·rw[apM]at hi;split at hi
  ·simp only[tb]at hi;subst hi;exact hE.len
  ·cases hi
 ·rw[apM]at hi;split at hi
  ·simp only[tb]at hi;subst hi;have tf:j<sz:=by rw[←hE.len];grind
   have:=ey _ y hy;rw[aqf,Nat.mul_add_mod,Nat.mod_eq_of_lt tf]at this;exact hE.rep j p y hj this
  ·cases hi
theorem KM{draw:Bool}{site:Nat}{len cap:V}{f:Fr}{m:Mem}{k:V→Fr→Mem→bB→Option R}{r:R}(h:uh E draw site t len cap f m k=some r):∃f' m' b,(draw=true→m site=none∧f'=f∧m'=aw m site b∧∀(f2:Fr)(m2:Mem),m2 site=none→∀(R':Type)(k':V→Fr→Mem→bB→Option R'),uh E true site t len cap f2 m2 k'=k' (.os site) f2 (aw m2 site b) [(true,site)])∧k (.os site) f' m' [(true,site)]=some r∧(m' site).isSome=true∧∀(G:Nat→Option (List PV))(w0:bu)(μ:Ro)(φ:Nat→aH)(w:World)(ρ:Nat→Value)(yl yc:Value),aA E.P G w0 μ φ m w→cd E.P μ φ m f ρ→an E.P μ φ len yl→an E.P μ φ cap yc→∃w' y φ',(Instr.makeSlice t yl yc).run E.P w=.ok y w'∧aA E.P G w0 μ φ' m' w'∧cd E.P μ φ' m' f' ρ∧an E.P μ φ' (.os site) y:=by
 unfold uh at h;split at h
 ·rename_i e ql n qc c hu;split at h
  ·rename_i z hz;split at h
   ·rename_i hb;obtain⟨f',m',_,hk,Ak,AH,yW⟩:=cj h;refine⟨f',m',.arr (aS E.P e) e (List.replicate n.toNat z),fun hd=>?_,hk,by simp[Ak],fun G w0 μ φ w ρ yl yc hM hF hl hc=>?_⟩
    ·simp_all[uh,No,fresh]
    ·obtain⟨i,zv,h1,h2,h3,_,h4⟩:=FQ hz;obtain⟨hib,_⟩:=LF h1;have hc1:c.toNat≤140737488355328:=by have:c.toNat*1≤c.toNat*KD E.P e:=apy _ hb.2.2.2.1;grind [ab]
     cases hl with
     |pv hl=>cases hl with
      |int wl=>
       cases hc with
       |pv hc=>cases hc with
        |int wc=>
         have afJ:(i.bytes:Int)*c≤281474976710656:=by grind [ab,KD,Int.natCast_mul,Int.toNat_of_nonneg,Int.mul_comm]
         have hr:=run_make (P:=E.P) w t e i zv hu h1 h2 ql qc n c hb.1 hb.2.1 afJ (by omega);rw[h3]at hr;obtain⟨φ',a1,a2,a3⟩:=yW E.P G w0 μ φ w _ ρ (GU (some w.heap.size) c.toNat (List.replicate n.toNat z).length (aS E.P e)) hM hF (l6.alloc (o:=.cells (madeCells zv.cells (c.toNat*aS E.P e)) e) hM rfl (fun φ' hp _=>aL.rL (g:=w.heap.size) (by rw[hp]) rfl hb.2.2.2.2 (by rw[hp];simp only[maxLen];omega) (ga w _) (by rw[hp];simp[size_madeCells]) (by rw[hp];simp;omega) (Cells.made (h4 μ) hb.2.2.2.2 _ _ (by omega))) (by simp[bL.names]));refine⟨_,_,φ',hr,a2,a3,?_⟩;have:=an.os (P:=E.P) (μ:=μ) (φ:=φ') (id:=site) (g:=w.heap.size) (by rw[a1]);simp_all
   ·cases h
  ·cases h
 ·cases h
theorem RH(cells:Array Value)(n:Nat):Builtin.zeroCells cells n=madeCells cells (n*cells.size):=rfl
theorem WC{x:V}{m:Mem}{k:V→Mem→bB→Option R}{r:R}(h:Il E t x m k=some r):∃id b,(∀m2:Mem,m2 id=m id→∀(R':Type)(k':V→Mem→bB→Option R'),Il E t x m2 k'=k' .top (aw m2 id b) [(true,id)])∧k .top (aw m id b) [(true,id)]=some r∧∀(G:Nat→Option (List PV))(w0:bu)(μ:Ro)(φ:Nat→aH)(w:World)(ρ:Nat→Value)(f:Fr)(yx:Value)(ts:List TypeId)(ty:TypeId),aA E.P G w0 μ φ m w→cd E.P μ φ m f ρ→an E.P μ φ x yx→∃w',(Builtin.clear_ (t::ts).toArray ty #[yx]).run E.P w=.ok (.tuple #[]) w'∧aA E.P G w0 μ φ (aw m id b) w'∧cd E.P μ φ (aw m id b) f ρ:=by
 unfold Il at h;split at h
 ·rename_i e hu;split at h
  ·rename_i id lo len z hz;split at h
   ·rename_i sz et es hm;split at h
    ·rename_i hc;obtain⟨ou,rfl,hle,eY⟩:=hc;refine⟨id,_,fun m2 cG R' k'=>?_,h,fun G w0 μ φ w ρ f yx ts ty hM hF hx=>?_⟩
     ·simp_all[Il,No,trivial]
     ·obtain⟨i,zv,h1,h2,h3,h4,h5⟩:=FQ hz;have hA:aL E.P μ φ w id sz et es:=hM.dB id _ hm;have aiu:len=0→aw m id (.arr sz et (es.take lo++(List.replicate len z++es.drop (lo+len))))=m:=by
       intro h0;subst h0;rw[List.replicate_zero,apA,apU,List.take_append_drop];funext j;by_cases ej:j=id
       ·subst ej;simp[hm]
       ·rw[av ej]
      cases hx with
      |uj hg=>rw[aiu rfl];simp_all[Builtin.clear_,run_underlying]
      | @gh _ _ _ cap g a hg hl ha hc1 TW=>
       by_cases h0:len=0
       ·simp_all[Builtin.clear_,run_underlying]
       ·have tB:=hA.rK;have G1:=hA.1;have anN:=hA.2.1;have aiv:a=⟨g,lo*sz,none⟩:=by grind
        subst aiv;obtain⟨c,T,c1,c2,c3,c4,c5⟩:=hA.cells hg;have T6:zv.cells.size=sz:=by rw[(h5 μ).size,ou]
        have hn:len*zv.cells.size=len*sz:=by rw[T6]
        have hlen:(madeCells zv.cells (len*sz)).toList.length=len*sz:=by simp[size_madeCells]
        have Rb:(lo+len)*sz≤es.length*sz:=an8 _ hle;have td:(lo+len)*sz=lo*sz+len*sz:=aoV _ _ _;have y9:=Cells.made (P:=E.P) (μ:=μ) (by rw[←ou]at h5;exact h5 μ) (by omega) len len (aoa _);have yj:∀v∈(madeCells zv.cells (len*sz)).toList,v.oneCell'=true:=fun v hv=>by obtain⟨j,hj⟩:=aoU hv;refine y9.one j v ?_;grind
        have fo:=run_storeCells_at E.P g (lo*sz) T (madeCells zv.cells (len*sz)).toList 0 c w c1 (by omega) yj;rw[hlen,apU]at fo;have hnl:(es.take lo++(List.replicate len z++es.drop (lo+len))).length=es.length:=by simp;omega
        refine⟨w.setRow g (c.toList.take (lo*sz)++(madeCells zv.cells (len*sz)).toList++c.toList.drop (lo*sz+len*sz)).toArray,?_,hM.write hm rfl hg (lh.setRow (aoa _)) setRow_size (fun k hk=>ck hk) ?_ rfl (by simp[bL.names]),hF.oI (fun _ _ h=>h) .set⟩
        ·obtain⟨n',rfl⟩:∃n',len=n'+1:=⟨len-1,by omega⟩;simp_all[Builtin.clear_,run_underlying,qW,RH]
        ·refine aL.rL (g:=g) ?_ hA.2.2.1 hA.2.2.2.1 tB.2 (setRow_heap w g c _ T (0,0) c1) ?_ (by omega) ?_
         ·rw[hnl,←hA.1,←hA.2.1];cases hq:(φ id).toGS with
          |mk a b c d=>simp_all
         ·grind
         ·rw[hnl];have hM2:Cells E.P μ sz (List.replicate len z) (madeCells zv.cells (len*sz)).toList:=by grind
          have hX:=(c5.take lo).append (hM2.append (c5.drop (lo+len)));have e1:(c.toList.take (lo*sz)++(madeCells zv.cells (len*sz)).toList++c.toList.drop (lo*sz+len*sz)).take (es.length*sz)=(c.toList.take (es.length*sz)).take (lo*sz)++((madeCells zv.cells (len*sz)).toList++(c.toList.take (es.length*sz)).drop ((lo+len)*sz)):=by
           have l1:(c.toList.take (lo*sz)).length=lo*sz:=by grind
           have l2:(c.toList.take (lo*sz)++(madeCells zv.cells (len*sz)).toList).length=lo*sz+len*sz:=by simp_all
           grind [List.take_append,List.take_of_length_le,Nat.min_eq_left,List.drop_take,List.append_assoc]
          rw[e1];omega
    ·cases h
   ·cases h
  ·cases h
 ·cases h
theorem G3(off:Nat):∀(l:List Value)(k:Nat)(c:Array Value),off+k+l.length≤c.size→(l.zipIdx k).foldl (fun cs(x:Value×Nat)=>cs.setIfInBounds (off+x.2) x.1) c=(bQ c.toList (off+k) l).toArray
 |[],k,c,_=>by simp[ea]
 |v::r,k,c,h=>by simp only[List.zipIdx_cons,aqX];rw[G3 off r (k+1) _ (by simp at h⊢;omega)];congr 1;have e:=list_seg_step c.toList (off+k) v r (by omega);simp_all[ea,apk,aoT]
theorem Cr{place:Nat→Option (Nat×Nat)}{c:Array Value}{i off size:Nat}{v:Value}{rest:List (Nat×Value)}(hp:place i=some (off,size))(hv:v.cells.size=size)(hb:off+size≤c.size):Instr.fill place c ((i,v)::rest)=Instr.fill place (bQ c.toList off v.cells.toList).toArray rest:=by
 have h1:v.cells.zipIdx.foldl (fun cs(x:Value×Nat)=>cs.setIfInBounds (off+x.2) x.1) c=(bQ c.toList off v.cells.toList).toArray:=by rw[←Array.foldl_toList,Array.toList_zipIdx];simp_all[G3]
 simp_all[Instr.fill,QU]
theorem IW{place:Nat→Option (Nat×Nat)}:∀{parts:List (Nat×V)}{cs O1:List V},Lg place cs parts=some O1→(∀id,cp id O1=true→cp id cs=true∨cp id (parts.map (·.2))=true)∧O1.length=cs.length∧∀(P:Program)(μ:Ro)(φ:Nat→aH)(c:Array Value)(dn:List (Nat×Value)),dn.length=parts.length→(∀(j i:Nat)v,parts[j]?=some (i,v)→∃y,dn[j]?=some (i,y)∧an P μ φ v y)→c.size=cs.length→(∀(i:Nat)u y,cs[i]?=some u→c[i]?=some y→an P μ φ u y)→(∀(i:Nat)(y:Value),c[i]?=some y→y.oneCell'=true)→∃c',Instr.fill place c dn=some c'∧c'.size=O1.length∧(∀(i:Nat)u y,O1[i]?=some u→c'[i]?=some y→an P μ φ u y)∧(∀(i:Nat)(y:Value),c'[i]?=some y→y.oneCell'=true)
 |[],cs,O1,h=>by simp only[Lg,tb]at h;subst h;refine⟨fun id hid=>.inl hid,rfl,fun P μ φ c dn hl _ hs hr h1=>?_⟩;have:dn=[]:=aof (by simpa using hl);subst this;exact⟨c,rfl,hs,hr,h1⟩
 |(i,v)::rest,cs,O1,h=>by
  simp only[Lg]at h;split at h
  ·rename_i off size hp;split at h
   ·rename_i new hn;split at h
    ·rename_i hb;obtain⟨n1,n2,n3⟩:=toCells_ok hn;obtain⟨f1,f2,f3⟩:=IW h;have hlen:(bQ cs off new).length=cs.length:=cC (by omega);refine⟨fun id hid=>?_,by rw[f2,hlen],fun P μ φ c dn hl ow hs hr h1=>?_⟩
     ·rcases f1 id hid with h|h
      ·obtain⟨u,hu,hh⟩:=cK.1 h;simp only[ea,aol]at hu;rcases hu with(hu|hu)|hu
       ·exact .inl (bR (apv hu) hh)
       ·exact .inr (by simp only[aog,cp,aon];exact .inl (n2 id (bR hu hh)))
       ·exact .inl (bR (ap1 hu) hh)
      ·exact .inr (by simp only[aog,cp,aon];exact .inr h)
     ·obtain⟨y,hy,hvy⟩:=ow 0 i v (by simp);cases dn with
      |nil=>simp at hl
      |cons a oD=>
       simp at hy;subst hy;obtain⟨x1,x2,x3⟩:=n3 P μ φ y hvy;rw[Cr hp x1 (by omega)];have oJ:off+y.cells.toList.length≤c.toList.length:=by simp;omega
       have e1:y.cells.toList.length=new.length:=by simp;omega
       refine f3 P μ φ _ oD (by simpa using hl) (fun j i' v' hj=>?_) ?_ (fun j u z hu hz=>?_) (fun j z hz=>?_)
       ·have:=ow (j+1) i' v' (by simpa using hj);simpa using this
       ·simp only[apb];rw[cC oJ,hlen];simp[hs]
       ·rw[aoL]at hz;rcases dm oJ hz with⟨b1,b2,b3⟩|⟨b1,b2⟩<;>rcases dm (by omega) hu with⟨d1,d2,d3⟩|⟨d1,d2⟩
        ·exact x2 _ u z d3 (by simpa using b3)
        ·exfalso;omega
        ·exfalso;omega
        ·exact hr j u z d2 (by simpa using b2)
       ·rw[aoL]at hz;rcases dm oJ hz with⟨b1,b2,b3⟩|⟨b1,b2⟩
        ·exact x3 _ z (by simpa using b3)
        ·exact h1 j z (by simpa using b2)
    ·cases h
   ·cases h
  ·cases h
theorem IX:∀{fs:List Field},fs.all (fun f=>(E.P.info? f.type).isSome)=true→fs.mapM (fun f=>(E.P.info? f.type).map fun i=>(f.offset,i.size))=some (fs.map fun f=>(f.offset,aS E.P f.type))
 |[],_=>rfl
 |f::r,h=>by simp only[aqM,aeu]at h;obtain⟨i,hi⟩:=aop.1 h.1;simp only[aqF,hi,IS,IX h.2,aog];simp[aS,hi]
theorem WD{parts:List (Nat×V)}{k:V→Option R}{r:R}(h:FH E t parts k=some r):∃v,(∀(R':Type)(k':V→Option R'),FH E t parts k'=k' v)∧k v=some r∧(∀id,v.has id=true→cp id (parts.map (·.2))=true)∧∀(μ:Ro)(φ:Nat→aH)(w:World)(dn:Array (Nat×Value)),dn.size=parts.length→(∀(j i:Nat)v,parts[j]?=some (i,v)→∃y,dn[j]?=some (i,y)∧an E.P μ φ v y)→∃z,(Instr.build t dn).run E.P w=.ok z w∧an E.P μ φ v z:=by
 unfold FH at h;split at h
 ·rename_i z fs hz hu;split at h
  ·rename_i mr;split at h
   ·rename_i cs hf;obtain⟨i,zv,h1,h2,h3,h4,h5,h6,h7,h8⟩:=du hz;obtain⟨f1,f2,f3⟩:=IW hf;refine⟨_,fun R' k'=>by simp_all[FH,No],h,fun id hid=>?_,fun μ φ w dn hl hp=>?_⟩
    ·grind [V.has,id]
    ·obtain⟨c',c1,c2,c3,c4⟩:=f3 E.P μ φ zv.cells dn.toList (by omega) (fun j i v hj=>by simpa using hp j i v hj) (by omega) (h7 μ φ) h8;refine⟨_,run_build w t dn c' ?_,.agg c2.symm c3 c4⟩;simp only[Program.built,h1,hu,h2,IX mr];rw[←c1];congr 1;funext j;simp[placesOf]
   ·cases h
  ·cases h
 ·rename_i z n e hz hu;split at h
  ·rename_i eY;split at h
   ·rename_i cs hf;obtain⟨i,zv,h1,h2,h3,h4,h5,h6,h7,h8⟩:=du hz;obtain⟨f1,f2,f3⟩:=IW hf;refine⟨_,fun R' k'=>by simp_all[FH,No],h,fun id hid=>?_,fun μ φ w dn hl hp=>?_⟩
    ·grind [V.has,id]
    ·obtain⟨c',c1,c2,c3,c4⟩:=f3 E.P μ φ zv.cells dn.toList (by omega) (fun j i v hj=>by simpa using hp j i v hj) (by omega) (h7 μ φ) h8;obtain⟨ie,hie,hse⟩:=Cl (P:=E.P) (t:=e) (by omega);refine⟨_,run_build w t dn c' ?_,.agg c2.symm c3 c4⟩;simp only[Program.built,h1,hu,h2,hie,hse];omega
   ·cases h
  ·cases h
 ·cases h
theorem wY{n:Nat}{agg:Bool}:∀{parts:List (Nat×V)}{m m':Mem}{i:Nat}{ps:List PV},fF m n agg i parts=some (ps,m')→kN m m'∧ps.length=parts.length∧∀(P:Program)(G:Nat→Option (List PV))(w0:bu)(μ:Ro)(φ:Nat→aH)(w:World)(dn:List (Nat×Value))(es:List PV)(c:Array Value),aA P G w0 μ φ m w→dn.length=parts.length→(∀(j i:Nat)v,parts[j]?=some (i,v)→∃y,dn[j]?=some (i,y)∧an P μ φ v y)→es.length=i→c.size=(i+parts.length)*n→Cells P μ n es (c.toList.take (es.length*n))→∃μ' c',(∀b o,μ b=some o→μ' b=some o)∧aA P G w0 μ' φ m' w∧Instr.fill (fun i=>some (i*n,n)) c dn=some c'∧c'.size=(i+parts.length)*n∧Cells P μ' n (es++ps) c'.toList
 |[],m,m',i,ps,h=>by
  simp only[fF,tb,afu]at h;obtain⟨rfl,rfl⟩:=h;refine⟨.refl _,rfl,fun P G w0 μ φ w dn es c hM hl _ he hc hC=>⟨μ,c,fun _ _ h=>h,hM,?_,hc,?_⟩⟩
  ·have:dn=[]:=aof (by omega);subst this;rfl
  simp_all[aoM,aoF,aoa]
 |(j,v)::r,m,m',i,ps,h=>by
  simp only[fF]at h;split at h
  ·rename_i Zq;subst Zq;split at h
   ·rename_i p m1 hf;split at h
    ·rename_i ps1 m2 hr;simp only[tb,afu]at h;obtain⟨rfl,rfl⟩:=h;obtain⟨a1,a2⟩:=II hf;obtain⟨b1,b2,b3⟩:=wY hr;refine⟨a1.trans b1,by simp[b2],fun P G w0 μ φ w dn es c hM hl hp he hc hC=>?_⟩;obtain⟨y,hy,hvy⟩:=hp 0 i v (by simp);cases dn with
     |nil=>simp at hl
     |cons a oD=>
      simp at hy;subst hy;obtain⟨μ1,c1,c2,c3⟩:=a2 P G w0 μ φ w y hM hvy;have oJ:i*n+n≤c.size:=by grind
      have hyl:y.cells.toList.length=n:=by simpa using c3.size
      have aeW:i*n+y.cells.toList.length≤c.toList.length:=by simp_all
      obtain⟨μ2,c',d1,d2,d3,d4,d5⟩:=b3 P G w0 μ1 φ w oD (es++[p]) (bQ c.toList (i*n) y.cells.toList).toArray c2 (by simpa using hl) (fun j i' v' hj=>by
       obtain⟨z,hz1,hz2⟩:=hp (j+1) i' v' (by simpa using hj);exact⟨z,by simpa using hz1,hz2.CV c1⟩) (by simp[he]) (by
       simp only[apb];rw[cC aeW];grind) (by
       have e1:((bQ c.toList (i*n) y.cells.toList).toArray.toList.take ((es++[p]).length*n))=c.toList.take (es.length*n)++y.cells.toList:=by simp only[ea,aob,aqh,he];exact List.take_left' (by grind)
       rw[e1];refine(hC.mono c1).append ⟨by simp[hyl],fun k e hk=>?_,fun k e l q z hk hl hz=>?_,fun k z hz=>c3.one k z (by simpa using hz)⟩
       ·cases k with
        |zero=>simp at hk;subst hk;exact c3.len
        |succ k=>simp at hk
       ·cases k with
        |zero=>simp at hk;subst hk;exact c3.rep l q z hl (by simpa using hz)
        |succ k=>simp at hk)
      refine⟨μ2,c',fun b o h=>d1 b o (c1 b o h),d2,?_,by grind,by simpa using d5⟩;rw[Cr rfl c3.size oJ];omega
    ·cases h
   ·cases h
  ·cases h
theorem LH:∀{parts:List (Nat×V)}{i:Nat}{cs:List V},Ik i parts=some cs→cs.length=parts.length∧(∀id,cp id cs=true→cp id (parts.map Prod.snd)=true)∧∀(P:Program)(μ:Ro)(φ:Nat→aH)(dn:List (Nat×Value))(c:Array Value),dn.length=parts.length→(∀(j i:Nat)v,parts[j]?=some (i,v)→∃y,dn[j]?=some (i,y)∧an P μ φ v y)→c.size=i+parts.length→∃c',Instr.fill (fun i=>some (i*1,1)) c dn=some c'∧c'.size=c.size∧(∀j,j<i→c'[j]?=c[j]?)∧∀j u,cs[j]?=some u→∃y,c'[i+j]?=some y∧an P μ φ u y∧y.oneCell'=true
 |[],i,cs,h=>by simp only[Ik,tb]at h;subst h;refine⟨rfl,by simp[cp],fun P μ φ dn c hl _ hc=>⟨c,?_,rfl,fun _ _=>rfl,by simp⟩⟩;have:dn=[]:=aof (by omega);subst this;rfl
 |(j,v)::r,i,cs,h=>by
  simp only[Ik]at h;split at h
  ·rename_i Zq;subst Zq;split at h
   ·rename_i us0 hf;split at h
    ·rename_i us hr;simp only[tb]at h;subst h;obtain⟨a1,a2,a3⟩:=toCells_ok hf;obtain⟨b1,b2,b3⟩:=LH hr;refine⟨by simp[a1,b1];omega,fun id hid=>?_,fun P μ φ dn c hl hp hc=>?_⟩
     ·obtain⟨u,hu,hh⟩:=cK.1 hid;rcases aol.1 hu with hu|hu
      ·simp only[aog,cp,aon];exact .inl (a2 id (bR hu hh))
      ·simp only[aog,cp,aon];exact .inr (b2 id (bR hu hh))
     ·obtain⟨y,hy,hvy⟩:=hp 0 i v (by simp);cases dn with
      |nil=>simp at hl
      |cons a oD=>
       simp at hy;subst hy;obtain⟨c1,c2,c3⟩:=a3 P μ φ y hvy;have oJ:i*1+1≤c.size:=by simp at hc;omega
       have hyl:y.cells.toList.length=1:=by omega
       have aeW:i*1+y.cells.toList.length≤c.toList.length:=by simp_all
       obtain⟨c',d1,d2,d3,d4⟩:=b3 P μ φ oD (bQ c.toList (i*1) y.cells.toList).toArray (by simpa using hl) (fun j i' v' hj=>by
        obtain⟨z,hz1,hz2⟩:=hp (j+1) i' v' (by simpa using hj);simp_all) (by
        grind [List.size_toArray,cC,Array.length_toList,List.length_cons])
       have wW:∀k,(bQ c.toList (i*1) y.cells.toList).toArray[k]?=if k=i then y.cells[0]? else c[k]?:=fun k=>by rw[aoL];rw[ea];rw[aow,aoG,aoz,ao0 (by omega),aoG,hyl];grind
       refine⟨c',?_,by simp_all[apb,cC],fun k hk=>?_,fun k u hu=>?_⟩
       ·rw[Cr rfl c1 oJ];omega
       ·grind
       ·have h0:us0.length=1:=a1;rw[aoG,h0]at hu;split at hu
        ·rename_i hk;have hk0:k=0:=by omega
         subst hk0;have h5:=d3 i (by omega);grind
        grind
    ·cases h
   ·cases h
  ·cases h
end
section
variable {P:Program}
theorem iU:∀(d:Nat)(t:TypeId)(ks:List Kd),Fq P d t=some ks→∀(D:Nat)(w:World)(em:Bool)(ps:List PV),jo ks ps=true→(Instr.checkKey em (D+d) t (eZ P t ps)).run P w=.ok () w
 |0,t,ks,h,_,_,_,_,_=>by simp[Fq]at h
 |d+1,t,ks,h,D,w,em,ps,hp=>by
  have ih:=iU d;unfold Fq at h;split at h
  ·rename_i q hu;simp only[tb]at h;subst h;have ha:aG P t=false:=by simp[aG,hu]
   obtain⟨p,rfl,hkp⟩:=oH hp;simp_all[xV,eZ,valOf,aoT,Instr.checkKey,run_underlying]
  ·rename_i hu;simp only[tb]at h;subst h;have ha:aG P t=false:=by simp[aG,hu]
   obtain⟨p,rfl,hkp⟩:=oH hp;simp_all[xV,eZ,valOf,aoT,Instr.checkKey,run_underlying]
  ·rename_i hu;simp only[tb]at h;subst h;have ha:aG P t=false:=by simp[aG,hu]
   obtain⟨p,rfl,hkp⟩:=oH hp;simp_all[xV,eZ,valOf,aoT,Instr.checkKey,run_underlying]
  ·rename_i fs hu;split at h
   ·cases h
   ·obtain⟨a,ha,h⟩:=By.1 h;split at h
    ·rename_i hlen;simp only[tb]at h;subst h;have Zf:aG P t=true:=by simp[aG,hu]
     simp only[eZ,Zf,BY,←aoT];rw[Instr.checkKey];simp only[Sem.run_bind,run_underlying hu,Result.andThen_ok];rw[←Array.forIn_toList];have key:∀(L:List Field)(off:Nat)(b:List Kd),ud (Fq P d) L off=some b→off≤ps.length→jo b (ps.drop off)=true→(forIn L PUnit.unit fun f(_:PUnit)=>(do
       if f.name≠ "_" then Instr.checkKey em (D+d) f.type (←part f.type (ps.map valOf).toArray f.offset)
       pure (ForInStep.yield PUnit.unit):Sem (ForInStep PUnit))).run P w=.ok PUnit.unit w:=by
      intro L;induction L with
      |nil=>simp
      |cons f L ihL=>
       intro off b hb o1 h1;simp only[ud]at hb;split at hb
       ·rename_i hf;obtain⟨c,hc,hb⟩:=By.1 hb;obtain⟨b',jn,hb⟩:=By.1 hb;simp only[tb]at hb;subst hb;rw[uo]at h1;have l1:=tC h1.1;simp only[aoz,aqm]at l1;have p1:=ll (w:=w) (ps:=ps) (off:=off) hc (by omega);have p3:=ih f.type c hc D w em _ h1.1;have p4:=ihL (off+c.length) b' jn (by omega) (by simp_all);simp_all
       ·cases hb
     have:=key fs.toList 0 a ha (by simp) (by simpa using hp);simp_all
    ·cases h
  ·rename_i n e hu;obtain⟨a,ha,h⟩:=By.1 h;split at h
   ·rename_i hlen;simp only[tb]at h;subst h;have Zf:aG P t=true:=by simp[aG,hu]
    obtain⟨_,_,de,hde⟩:=Cn ha;have ou:(sizeOf e).run P w=.ok a.length w:=by rw[hlen.1];exact GX hde
    simp only[eZ,Zf,BY,←aoT];rw[Instr.checkKey];simp only[Sem.run_bind,run_underlying hu,Result.andThen_ok];simp only[Std.Legacy.Range.forIn_eq_forIn_range',Std.Legacy.Range.size,arf,Nat.add_one_sub_one,Nat.div_one];have key:∀(k j:Nat),j*a.length≤ps.length→jo (ue a k) (ps.drop (j*a.length))=true→(forIn (List.range' j k) PUnit.unit fun i(_:PUnit)=>(do
      Instr.checkKey em (D+d) e (←part e (ps.map valOf).toArray (i*(←sizeOf e)))
      pure (ForInStep.yield PUnit.unit):Sem (ForInStep PUnit))).run P w=.ok PUnit.unit w:=by
     intro k;induction k with
     |zero=>simp
     |succ k ihk=>
      intro j o1 h1;simp only[ue]at h1;rw[uo]at h1;have l1:=tC h1.1;simp only[aoz,aqm]at l1;have p1:=ll (w:=w) (ps:=ps) (off:=j*a.length) ha (by omega);have p3:=ih e a ha D w em _ h1.1;have ej:(j+1)*a.length=j*a.length+a.length:=by rw[aoV];omega
      have p4:=ihk (j+1) (by omega) (by simp_all);simp_all[ap6,List.forIn_cons,Sem.run_bind,Result.andThen_ok,Sem.run_pure]
    simp_all
   ·cases h
  ·cases h
variable{kt:TypeId}{ks:List Kd}
theorem nU{μ:Ro}{k:PV}{y:Value}(h:Af P kt ks k=true)(hy:aq P μ k y):jo ks k.cells=true∧y=eZ P kt k.cells:=by
 simp only[Af,aeu,ara]at h;refine⟨h.1,?_⟩;cases hq:k.isAgg with
 |true=>
  cases k<;>simp[PV.isAgg]at hq;cases hy with
  |agg h1 h2 h3=>have:=wR h.1 h1.symm h2;grind [eZ,PV.isAgg,PV.cells]
 |false=>
  have hc:k.cells=[k]:=by cases k<;>first|rfl|(simp[PV.isAgg]at hq)
  have h1:=h.1;rw[hc]at h1;cases ks with
  |nil=>simp[jo]at h1
  |cons kd r=>simp only[jo,aeu]at h1;grind [Ly,eZ]
theorem M1:∀{ks:List Kd}{ps qs:List PV},jo ks ps=true→jo ks qs=true→bO ps qs=true→ps=qs
 |[],[],[],_,_,_=>rfl
 |k::ks,p::ps,q::qs,h1,h2,h3=>by
  simp only[jo,aeu]at h1 h2;simp only[bO,aeu]at h3;rw[M1 h1.2 h2.2 h3.2];have:p=q:=by cases k<;>cases p<;>simp[xV]at h1<;>cases q<;>simp[xV]at h2<;>simp[peq]at h3<;>simp_all
  rw[this]
 |[],p::ps,_,h,_,_=>by simp[jo]at h
 |k::ks,[],_,h,_,_=>by simp[jo]at h
 |[],[],q::qs,_,h,_=>by simp[jo]at h
 |k::ks,p::ps,[],_,h,_=>by simp[jo]at h
structure AX(P:Program)(μ:Ro)(kt:TypeId)(ks:List Kd)(l:List (PV×PV))(es:List MapEntry):Prop where
 len:es.length=l.length
 key:∀(i:Nat)k v,l[i]?=some (k,v)→Af P kt ks k=true
 rep:∀(i:Nat)k v e,l[i]?=some (k,v)→es[i]?=some e→aq P μ k e.key∧aq P μ v e.val
variable{l:List (PV×PV)}{es:List MapEntry}
theorem AX.tail{μ:Ro}{x:PV×PV}{e:MapEntry}(h:AX P μ kt ks (x::l) (e::es)):AX P μ kt ks l es:=⟨by simpa using h.len,fun i k v hi=>h.key (i+1) k v (by simpa using hi),fun i k v e hi he=>h.rep (i+1) k v e (by simpa using hi) (by simpa using he)⟩
inductive Found(k v:PV)(z:PV)(l:List (PV×PV))(es:List MapEntry)(i:Nat):Option (Nat×Value)→Prop
 |none:ml k l=false→bS k z l=z→dd k v l=l++[(k,v)]→Found k v z l es i none
 |some {j:Nat} {a u:PV} {e:MapEntry}:l[j]?=some (a,u)→es[j]?=some e→bO k.cells a.cells=true→ml k l=true→bS k z l=u→dd k v l=l.set j (k,v)→Found k v z l es i (some (i+j,e.val))
theorem Found.cons{k v z:PV}{x:PV×PV}{l:List (PV×PV)}{e:MapEntry}{es:List MapEntry}{i:Nat}{r:Option (Nat×Value)}(hx:bO k.cells x.1.cells=false)(h:Found k v z l es (i+1) r):Found k v z (x::l) (e::es) i r:=by
 obtain⟨a,u⟩:=x;cases h with
 |none h1 h2 h3=>exact .none (by simpa[ml,hx]using h1) (by simpa[bS,hx]using h2) (by simpa[dd,hx]using h3)
 | @some j a' u' e' h1 h2 h3 h4 h5 h6=>have:=Found.some (k:=k) (v:=v) (z:=z) (l:=(a,u)::l) (es:=e::es) (i:=i) (j:=j+1) (a:=a') (u:=u') (e:=e') (by simpa using h1) (by simpa using h2) h3 (by simpa[ml,hx]using h4) (by simpa[bS,hx]using h5) (by simpa[dd,hx]using h6);grind
theorem Found.here{k v z:PV}{a u:PV}{e:MapEntry}{i:Nat}(hx:bO k.cells a.cells=true):Found k v z ((a,u)::l) (e::es) i (Option.some (i,e.val)):=by have:=Found.some (k:=k) (v:=v) (z:=z) (l:=(a,u)::l) (es:=e::es) (i:=i) (j:=0) (a:=a) (u:=u) (e:=e) (by simp) (by simp) hx (by simp[ml,hx]) (by simp[bS,hx]) (by simp[dd,hx]);omega
theorem ux{μ:Ro}{kt:TypeId}{ks:List Kd}{k v z:PV}(hk:Fq P 8 kt=some ks)(xU:jo ks k.cells=true)(w:World):∀(l:List (PV×PV))(es:List MapEntry)(i:Nat),AX P μ kt ks l es→∃r,(Instr.findAsking kt (eZ P kt k.cells) es i).run P w=.ok r w∧Found k v z l es i r
 |[],es,i,h=>by have:es=[]:=aof (by simpa using h.len);subst this;exact⟨none,by rfl,.none rfl rfl rfl⟩
 |(a,u)::l,es,i,h=>by
  cases es with
  |nil=>have:=h.len;simp at this
  |cons e es=>
   have hka:=h.key 0 a u (by simp);obtain⟨h1,h2⟩:=nU hka (h.rep 0 a u e (by simp) (by simp)).1;have he:(Op.equal kt (eZ P kt k.cells) e.key).run P w=.ok (bO k.cells a.cells) w:=by rw[h2];exact sw 8 kt ks hk 9992 w _ _ xU h1
   cases hp:bO k.cells a.cells with
   |true=>exact⟨some (i,e.val),by simp[Instr.findAsking,he,hp],.here hp⟩
   |false=>obtain⟨r,r1,r2⟩:=ux (v:=v) (z:=z) hk xU w l es (i+1) h.tail;exact⟨r,by simp[Instr.findAsking,he,hp,r1],r2.cons hp⟩
theorem G4{μ:Ro}{kt:TypeId}{d:TypeDesc}{ks:List Kd}{k v z:PV}(hu:P.underlying kt=some d)(ha:aG P kt=false)(hk:Fq P 8 kt=some ks)(xU:jo ks k.cells=true):∀(l:List (PV×PV))(es:List MapEntry)(i:Nat),AX P μ kt ks l es→∃r,Instr.findNow d (eZ P kt k.cells) es i=some r∧Found k v z l es i r
 |[],es,i,h=>by have:es=[]:=aof (by simpa using h.len);subst this;exact⟨none,by rfl,.none rfl rfl rfl⟩
 |(a,u)::l,es,i,h=>by
  cases es with
  |nil=>have:=h.len;simp at this
  |cons e es=>
   have hka:=h.key 0 a u (by simp);obtain⟨h1,h2⟩:=nU hka (h.rep 0 a u e (by simp) (by simp)).1;have he:Instr.sameNow d (eZ P kt k.cells) e.key=some (bO k.cells a.cells):=by
    rw[h2];have qo:=hk;unfold Fq at qo;rw[hu]at qo;cases d<;>simp at qo<;>try (simp[aG,hu]at ha;done)
    all_goals subst qo;obtain⟨p,hp1,hp2⟩:=oH xU;obtain⟨q,hq1,Zd⟩:=oH h1;rw[hp1,hq1];cases p<;>simp[xV]at hp2;cases q<;>simp[xV]at Zd;simp_all[eZ,valOf,Instr.sameNow,bO,peq]
    all_goals (rw[aoy,Go.MapKept.bytes_beq];simp_all)
   cases hp:bO k.cells a.cells with
   |true=>exact⟨some (i,e.val),by simp[Instr.findNow,he,hp],.here hp⟩
   |false=>obtain⟨r,r1,r2⟩:=G4 (v:=v) (z:=z) hu ha hk xU l es (i+1) h.tail;exact⟨r,by simp[Instr.findNow,he,hp,r1],r2.cons hp⟩
theorem mN{μ:Ro}{k v z:PV}(hk:Fq P 8 kt=some ks)(xU:jo ks k.cells=true)(w:World)(h:AX P μ kt ks l es):∃r,(Instr.findKey kt (eZ P kt k.cells) es).run P w=.ok r w∧Found k v z l es 0 r:=by
 obtain⟨_,_,d,hu⟩:=Cn hk;cases ha:aG P kt with
 |true=>rw[run_findKey_eq w (by grind [aG])];exact ux hk xU w l es 0 h
 |false=>obtain⟨r,r1,r2⟩:=G4 (v:=v) (z:=z) hu ha hk xU l es 0 h;simp_all[Go.MapKept.run_findKey]
end
section
variable {R:Type} {E:Env}
variable{P:Program}{t:TypeId}{ks:List Kd}
theorem Cs(h:vS P t=some ks):Fq P 8 t=some ks:=by simp_all[vS]
variable{kt:TypeId}
theorem yq{v:V}{key:PV}(h:keyOf E kt v=some key):∃ks,vS E.P kt=some ks∧Af E.P kt ks key=true∧∀(μ:Ro)(φ:Nat→aH)(y:Value),an E.P μ φ v y→aq E.P μ key y:=by
 unfold keyOf at h;split at h
 ·rename_i ks Zg;refine⟨ks,Zg,?_⟩;split at h
  ·rename_i ha;split at h
   ·rename_i cs hc;split at h
    ·rename_i ps hp;split at h
     ·rename_i Ra;simp only[tb]at h;subst h;obtain⟨_,c2⟩:=rJ hc;obtain⟨p1,p2⟩:=gL hp;refine⟨by simp_all[Af,PV.cells,PV.isAgg],fun μ φ y hy=>?_⟩;obtain⟨xs,rfl,h1,h2,h3⟩:=c2 E.P μ φ y hy;refine .agg (by omega) (fun i q z hq hz=>?_) h3;grind [yn]
     ·cases h
    ·cases h
   ·cases h
  ·rename_i ha;split at h
   ·rename_i p;split at h
    ·rename_i Ra;simp only[tb]at h;subst h;refine⟨?_,fun μ φ y hy=>by cases hy with|pv hy=>omega⟩;cases ks with
     |nil=>simp[jo]at Ra
     |cons kd r=>
      have aiw:=Ra;simp only[jo,aeu]at aiw;have ha':aG E.P kt=false:=by simpa using ha
      cases kd<;>cases p<;>simp[xV]at aiw<;>simp_all[Af,PV.cells,PV.isAgg]
    ·cases h
   ·cases h
 ·cases h
variable{en:Array MapEntry}
theorem na.push{clock:Nat}(h:na en clock){k v:Value}:na (en.push {key:=k,val:=v,born:=clock}) (clock+1):=by
 intro i e hi;rw[aqu]at hi;split at hi
 ·rename_i e1;simp only[tb]at hi;subst hi;refine⟨aql _,fun j e' hj hb=>?_⟩;rw[aqu]at hj;split at hj
  ·omega
  ·have:=(h j e' hj).1;simp_all
 ·obtain⟨h1,h2⟩:=h i e hi;grind
theorem na.modify{en:Array MapEntry}{clock:Nat}(h:na en clock)(f:MapEntry→MapEntry)(hf:∀e,(f e).born=e.born)(k:Nat):na (en.modify k f) clock:=by
 have key:∀(i:Nat)e,(en.modify k f)[i]?=some e→∃e0,en[i]?=some e0∧e.born=e0.born:=fun i e hi=>by grind
 intro i e hi;obtain⟨e0,h0,hb0⟩:=key i e hi;obtain⟨h1,h2⟩:=h i e0 h0;grind
inductive Zr(w:World):Value→Array MapEntry→Prop
 |nil:Zr w (.map none) #[]
 |at{g clock:Nat} {en:Array MapEntry}:w.heap[g]?=some (.map en clock)→Zr w (.map (some g)) en
theorem uy{μ:Ro}{et:TypeId}{key z:PV}{zv y yi:Value}{w:World}{l:List (PV×PV)}{ok:Bool}(hu:P.underlying t=some (.map kt et))(hk:vS P kt=some ks)(tD:Af P kt ks key=true)(Re:aq P μ key yi)(hy:Zr w y en)(hE:AX P μ kt ks l en.toList)(hz:(zeroValue et).run P w=.ok zv w)(hzr:aq P μ z zv):∃v,(Instr.lookup t y yi ok).run P w=.ok (if ok then .tuple #[v,.bool (ml key l)]else v) w∧aq P μ (bS key z l) v:=by
 have WE:=Cs hk;obtain⟨hc,hv⟩:=nU tD Re;obtain⟨r,r1,r2⟩:=mN (v:=.bad) (z:=z) WE hc w hE;have h1:=iU 8 kt ks WE 9992 w en.isEmpty key.cells hc;rw[hv];have xZ:∀(x:Value×Bool),(r=none→x=(zv,false))→(∀j v,r=some (j,v)→x=(v,true))→(Instr.lookup t y (eZ P kt key.cells) ok).run P w=.ok (if ok then .tuple #[x.1,.bool x.2]else x.1) w:=by
  intro x WB T7;cases hy with
  |nil=>
   have h1':(Instr.checkKey true 10000 kt (eZ P kt key.cells)).run P w=.ok () w:=h1;have r1':(Instr.findKey kt (eZ P kt key.cells) []).run P w=.ok r w:=r1;unfold Instr.lookup;simp only[Sem.run_bind,run_underlying hu,Result.andThen_ok,Sem.run_pure];cases r with
   |none=>simp_all
   |some jv=>obtain⟨j,v⟩:=jv;simp_all
  | «at» hg=>
   have Fv:=Go.MapKept.run_getObj_map (P:=P) hg;have h1':(Instr.checkKey en.isEmpty 10000 kt (eZ P kt key.cells)).run P w=.ok () w:=h1;unfold Instr.lookup;simp only[Sem.run_bind,run_underlying hu,Result.andThen_ok,Sem.run_pure,Fv];cases r with
   |none=>simp_all
   |some jv=>obtain⟨j,v⟩:=jv;simp_all
 cases r2 with
 |none f1 f2 f3=>grind
 | @some j a u e f1 f2 f3 f4 f5 f6=>refine⟨e.val,?_,by rw[f5];exact(hE.rep j a u e f1 f2).2⟩;simp_all
variable{m:Mem}
theorem RI{x ix:V}{ok:Bool}{k:V→bB→Option R}{r:R}(h:yS E t x ix ok m k=some r):∃v ft,(∀m2:Mem,(∀x∈ft,m2 x.2=m x.2)→∀(R':Type)(k':V→bB→Option R'),yS E t x ix ok m2 k'=k' v ft)∧k v ft=some r∧(∀x∈ft,x.1=false)∧(∀id,v.has id=false)∧∀(G:Nat→Option (List PV))(w0:bu)(μ:Ro)(φ:Nat→aH)(w:World)(y yi:Value),aA E.P G w0 μ φ m w→an E.P μ φ x y→an E.P μ φ ix yi→∃u,(Instr.lookup t y yi ok).run E.P w=.ok u w∧an E.P μ φ v u:=by
 have out:∀(q:PV)(b:Bool)(id:Nat),(if ok=true then V.aI [.pv q,.pv (.bool b)]else .pv q).has id=false:=by grind [id,V.has,cp]
 have rep:∀(μ:Ro)(φ:Nat→aH)(q:PV)(b:Bool)(v:Value),aq E.P μ q v→an E.P μ φ (if ok=true then V.aI [.pv q,.pv (.bool b)]else .pv q) (if ok=true then .tuple #[v,.bool b]else v):=by
  intro μ φ q b v hv;cases ok with
  |false=>exact .pv hv
  |true=>
   refine .aI (by simp) fun i p y hp hy=>?_;match i with
   |0=>simp at hp hy;subst hp;subst hy;exact .pv hv
   |1=>simp at hp hy;subst hp;subst hy;exact .pv .bool
   |n+2=>simp at hp
 unfold yS at h;split at h
 ·rename_i kt et hu;split at h
  ·rename_i z hz;obtain⟨zv,hz1,hz2⟩:=RG hz;split at h
   ·rename_i id;split at h
    ·rename_i AG es hm;split at h
     ·rename_i hkt;subst hkt;obtain⟨key,tD,h⟩:=By.1 h;obtain⟨q,q1,q2,q3,_⟩:=mK h;obtain⟨ks,k1,k2,k3⟩:=yq tD;refine⟨_,_,fun m2 cG R' k'=>by have:=cG (false,id) (by simp);simp_all[yS,aoe,BY],q2,by simp,out q _,fun G w0 μ φ w y yi hM hx hi=>?_⟩;obtain⟨g,en,clock,kk,hg,hh,hs,hk,Ra,_,hv⟩:=hM.dB id _ hm;rw[k1]at hk;simp only[tb]at hk;subst hk;cases hx with
      |om cL=>rw[hg]at cL;simp only[tb]at cL;subst cL;obtain⟨v,v1,v2⟩:=uy (ok:=ok) (z:=z) hu k1 k2 (k3 μ φ yi hi) (.at hh) (l:=es) ⟨by omega,Ra,fun i k v e h1 h2=>hv i k v e h1 (by simpa using h2)⟩ (hz1 w) (hz2 μ);exact⟨_,v1,rep μ φ q _ v (q3 _ _ _ v2)⟩
     ·cases h
    ·cases h
   ·rename_i pm;unfold cJ at h;split at h
    ·obtain⟨key,tD,h⟩:=By.1 h;obtain⟨ks,k1,k2,k3⟩:=yq tD;refine⟨_,_,fun m2 cG R' k'=>by simp_all[yS,cJ,aoe],h,by simp,out z _,fun G w0 μ φ w y yi hM hx hi=>?_⟩;cases hx with
     |pv hx=>cases hx with
      |od=>obtain⟨v,v1,v2⟩:=uy (ok:=ok) (z:=z) hu k1 k2 (k3 μ φ yi hi) .nil (l:=[]) ⟨by simp,by simp,by simp⟩ (hz1 w) (hz2 μ);exact⟨_,v1,rep μ φ z _ v v2⟩
    ·rename_i AG ks' vs';split at h
     ·rename_i hkt;subst hkt;obtain⟨key,tD,h⟩:=By.1 h;obtain⟨q,q1,q2,q3,_⟩:=mK h;obtain⟨ks,k1,k2,k3⟩:=yq tD;refine⟨_,_,fun m2 cG R' k'=>by simp_all[yS,cJ,aoe,BY],q2,by simp,out q _,fun G w0 μ φ w y yi hM hx hi=>?_⟩;cases hx with
      |pv hx=>cases hx with
       | @rm _ _ _ b clock en kk m1 m2 m3 m4 m5 m6 m7=>
        rw[k1]at m4;simp only[tb]at m4;subst m4;have afK:∀(i:Nat)k v,(ks'.zip vs')[i]?=some (k,v)→ks'[i]?=some k∧vs'[i]?=some v:=fun i k v h=>by grind
        obtain⟨v,v1,v2⟩:=uy (ok:=ok) (z:=z) hu k1 k2 (k3 μ φ yi hi) (.at (hM.ro _ _ m1)) (l:=ks'.zip vs') ⟨by simp[m2,m3],fun i k v h=>m5 i k (afK i k v h).1,fun i k v e h1 h2=>⟨m6 i k e (afK i k v h1).1 (by simpa using h2),m7 i v e (afK i k v h1).2 (by simpa using h2)⟩⟩ (hz1 w) (hz2 μ);exact⟨_,v1,rep μ φ q _ v (q3 _ _ _ v2)⟩
     ·cases h
    ·cases h
   ·cases h
  ·cases h
 ·cases h
variable{m':Mem}
theorem LI{v:V}{p:PV}(h:yP m v=some (p,m')):kN m m'∧∀(P:Program)(G:Nat→Option (List PV))(w0:bu)(μ:Ro)(φ:Nat→aH)(w:World)(x:Value),aA P G w0 μ φ m w→an P μ φ v x→∃μ',(∀b o,μ b=some o→μ' b=some o)∧aA P G w0 μ' φ m' w∧aq P μ' p x:=by
 unfold yP at h;split at h
 ·rename_i cs;split at h
  ·rename_i ps m1 hf;simp only[tb,afu]at h;obtain⟨rfl,rfl⟩:=h;obtain⟨f1,f2,f3⟩:=IH hf;refine⟨f1,fun P G w0 μ φ w x hM hx=>?_⟩;cases hx with
   | @agg _ xs h1 h2 h3=>
    have hX:∀(i:Nat),i<cs.length→xs[i]?=some (xs.getD i undef):=fun i hi=>by simp_all
    obtain⟨μ',e1,e2,e3⟩:=f3 P G w0 μ φ w (fun i=>xs.getD i undef) hM fun i u hu=>h2 i u _ hu (hX i (IN.1 hu).1);refine⟨μ',e1,e2,.agg (by omega) (fun j q y hq hy=>?_) h3⟩;grind
  ·cases h
 ·exact T5 h
theorem G5{v:V}{p:PV}(h:yP cY v=some (p,m')):∀(P:Program)(μ:Ro)(φ:Nat→aH)(x:Value),an P μ φ v x→aq P μ p x:=by
 unfold yP at h;split at h
 ·rename_i cs;split at h
  ·rename_i ps m1 hf;simp only[tb,afu]at h;obtain⟨rfl,rfl⟩:=h;obtain⟨f2,f3⟩:=Du hf;intro P μ φ x hx;cases hx with
   | @agg _ xs h1 h2 h3=>
    have hX:∀(i:Nat),i<cs.length→xs[i]?=some (xs.getD i undef):=fun i hi=>by simp_all
    have e3:=f3 P μ φ (fun i=>xs.getD i undef) fun i u hu=>h2 i u _ hu (hX i (IN.1 hu).1);refine .agg (by omega) (fun j q y hq hy=>?_) h3;grind
  ·cases h
 ·exact LC h
theorem RJ{draw:Bool}{v:V}{p:PV}(h:Ek draw m v=some (p,m')):kN m m'∧(draw=true→m'=m∧∀m2:Mem,Ek true m2 v=some (p,m2))∧∀(P:Program)(G:Nat→Option (List PV))(w0:bu)(μ:Ro)(φ:Nat→aH)(w:World)(x:Value),aA P G w0 μ φ m w→an P μ φ v x→∃μ',(∀b o,μ b=some o→μ' b=some o)∧aA P G w0 μ' φ m' w∧aq P μ' p x:=by
 unfold Ek at h;split at h
 ·rename_i hd;split at h
  ·rename_i q m1 hf;simp only[tb,afu]at h;obtain⟨rfl,rfl⟩:=h;exact⟨.refl _,fun _=>⟨rfl,fun m2=>by simp[Ek,hf]⟩,fun P G w0 μ φ w x hM hx=>⟨μ,fun _ _ h=>h,hM,G5 hf P μ φ x hx⟩⟩
  ·cases h
 grind [LI,absurd]
theorem C4:∀{ps:List PV},jo ks ps=true→∀(n:Nat),(ps.map valOf).all (fun v=>Instr.sameBits n v v)=true:=by
 induction ks with
 |nil=>intro ps h n;cases ps<;>simp[jo]at h;rfl
 |cons k ks ih=>
  intro ps h n;cases ps with
  |nil=>rfl
  |cons p ps=>simp only[jo,aeu]at h;simp only[aog,aqM,ih h.2 n,apw];cases k<;>cases p<;>simp[xV]at h<;>simp[valOf,Instr.sameBits,Go.MapKept.bytes_beq]
theorem AY{ps:List PV}(h:jo ks ps=true)(hl:aG P t=false→ps.length=1)(n:Nat):Instr.sameBits (n+1) (eZ P t ps) (eZ P t ps)=true:=by
 unfold eZ;cases ha:aG P t with
 |true=>have:=C4 h n;simp only[BY,Instr.sameBits,BEq.rfl,ao4];grind
 |false=>
  have h1:=hl ha;match ps,h1 with
  |[p],_=>have:=C4 h (n+1);simpa using this
theorem C5{draw:Bool}{x key val:V}{k:Mem→bB→Option R}{r:R}(h:qC E draw t x key val m k=some r):∃m' ft,k m' ft=some r∧(draw=true→∃id b,m'=aw m id b∧ft=[(true,id)]∧∀m2:Mem,m2 id=m id→∀(R':Type)(k':Mem→bB→Option R'),qC E true t x key val m2 k'=k' (aw m2 id b) [(true,id)])∧kN m m'∧∀(G:Nat→Option (List PV))(w0:bu)(μ:Ro)(φ:Nat→aH)(w:World)(ya yk yv:Value),aA E.P G w0 μ φ m w→an E.P μ φ x ya→an E.P μ φ key yk→an E.P μ φ val yv→∃w' μ',(Instr.mapUpdate t ya yk yv).run E.P w=.ok () w'∧(∀b o,μ b=some o→μ' b=some o)∧aA E.P G w0 μ' φ m' w':=by
 unfold qC at h;split at h
 ·rename_i kt et hu;split at h
  ·rename_i id;split at h
   ·rename_i v m1 hf;obtain⟨f1,f2,f3⟩:=RJ hf;split at h
    ·rename_i AG es hm;split at h
     ·rename_i hkt;subst hkt;obtain⟨kp,tD,h⟩:=By.1 h;obtain⟨ks,k1,k2,k3⟩:=yq tD;refine⟨_,_,h,fun hd=>?_,f1.trans .set,fun G w0 μ φ w ya yk yv hM hx hk hv=>?_⟩
      ·obtain⟨rfl,f4⟩:=f2 hd;exact⟨id,_,rfl,rfl,fun m2 cG R' k'=>by simp_all[qC,aoe,BY]⟩
      ·obtain⟨μ',g1,g2,g3⟩:=f3 _ _ _ _ _ _ _ hM hv;obtain⟨g,en,clock,kk,hg,hh,hs,xU,Ra,Ci,kF⟩:=g2.dB id _ hm;rw[k1]at xU;simp only[tb]at xU;subst xU;have WE:=Cs k1;have hkr:=(k3 μ φ yk hk).mono g1;obtain⟨hc,hkv⟩:=nU k2 hkr;have hE:AX E.P μ' AG ks es en.toList:=⟨by omega,Ra,fun i k v e h1 h2=>kF i k v e h1 (by simpa using h2)⟩;obtain⟨res,r1,r2⟩:=mN (v:=v) (z:=.bad) WE hc w hE;have Fv:=Go.MapKept.run_getObj_map (P:=E.P) hh;have h1:(Instr.checkKey false 10000 AG yk).run E.P w=.ok () w:=by rw[hkv];exact iU 8 AG ks WE 9992 w false kp.cells hc
       rw[←hkv]at r1;have bF:g<w.heap.size:=(T0.1 hh).1;cases hx with
       |om cL=>
        rw[hg]at cL;simp only[tb]at cL;subst cL;have fin:∀(o:Obj)(Rf:Array MapEntry)(sA:Nat),o=.map Rf sA→(Instr.mapUpdate t (.map (some g)) yk yv).run E.P w=.ok () {w with heap:=w.heap.setIfInBounds g o}→na Rf sA→AX E.P μ' AG ks (dd kp v es) Rf.toList→∃w' μ',(Instr.mapUpdate t (.map (some g)) yk yv).run E.P w=.ok () w'∧(∀b o,μ b=some o→μ' b=some o)∧aA E.P G w0 μ' φ (aw m1 id (.map AG (dd kp v es))) w':=by rintro o Rf sA rfl hr ama hE';refine⟨_,μ',hr,g1,g2.write hm rfl hg ⟨⟨rfl,rfl,rfl,by simp,fun k hk=>by grind⟩,fun _=>aoa _⟩ (by simp) (fun k hk=>by grind) ?_ rfl (by simp[bL.names])⟩;exact⟨g,Rf,sA,ks,hg,by simp[bF],by simpa using hE'.len,k1,hE'.key,ama,fun i k v e h1 h2=>hE'.rep i k v e h1 (by simpa using h2)⟩
        cases r2 with
        |none e1 e2 e3=>
         have WG:=Go.MapKept.run_setObj_map (P:=E.P) (.map (en.push {key:=yk,val:=yv,born:=clock}) (clock+1)) hh;refine fin _ _ _ rfl (by simp only[Instr.mapUpdate,Sem.run_bind,run_underlying hu,Fv,h1,r1,Result.andThen_ok];exact WG) Ci.push ?_;rw[e3];have ey:∀(i:Nat)k' v' e,(es++[(kp,v)])[i]?=some (k',v')→(en.push {key:=yk,val:=yv,born:=clock}).toList[i]?=some e→(es[i]?=some (k',v')∧en.toList[i]?=some e)∨(k'=kp∧v'=v∧e.key=yk∧e.val=yv):=by grind
         refine⟨by simp[hs],fun i k' v' h=>?_,fun i k' v' e h1 h2=>?_⟩
         ·grind
         grind
        | @some j a u e e1 e2 e3 e4 e5 e6=>
         have e2':en[j]?=some e:=by simpa using e2
         obtain⟨hca,hva⟩:=nU (Ra j a u e1) (kF j a u e e1 e2').1;have za:=M1 hc hca e3;have hsb:Instr.sameBits 10000 e.key yk=true:=by rw[hva,hkv,←za];refine AY (n:=9999) hc (fun ha=>?_);rw[tC hc];exact(Cn WE).2.1 ha
         have WG:=Go.MapKept.run_setObj_map (P:=E.P) (.map (en.modify j fun e=>{e with key:=yk,val:=yv}) clock) hh;have tf:j<en.size:=(T0.1 e2').1;refine fin _ _ _ rfl (by simp only[Instr.mapUpdate,Sem.run_bind,run_underlying hu,Fv,h1,r1,Result.andThen_ok];simp only[apa,e2',IS,aoD,Instr.keyThatStays,hsb,BY,Sem.run_pure,Result.andThen_ok];exact WG) (Ci.modify (fun e=>{e with key:=yk,val:=yv}) (fun _=>rfl) _) ?_;rw[e6];have sx:∀(i:Nat)k' v',(es.set j (kp,v))[i]?=some (k',v')→(i=j∧k'=kp∧v'=v)∨(i≠j∧es[i]?=some (k',v')):=by grind
         refine⟨by simp[hs],fun i k' v' h=>?_,fun i k' v' e' h1 h2=>?_⟩
         ·grind
         grind
     ·cases h
    ·cases h
   ·cases h
  ·cases h
 ·cases h
theorem O4{μ:Ro}{φ:Nat→aH}{w:World}{site:Nat}(hk:vS P kt=some ks)(hφ:(φ site).g=some w.heap.size):gM P μ φ (w.alloc (.map #[] 0)) site (.map kt []):=⟨w.heap.size,#[],0,ks,hφ,ga w _,rfl,hk,by simp,fun i e h=>by simp at h,by simp⟩
end
def AR(P:Program)(G:Nat→Option (List PV))(g:FuncId)(M:List PV→Option PV):Prop:=
 (∃fn c,P.funcs[g]?=some fn∧fn.body=some c∧(fn.name== "runtime.NumGoroutine")=false)∧
 ∀(ps:List PV)(r:PV),M ps=some r→∀(w:World)(μ:Ro)(xs:Array Value),(∀b o,μ b=some o→w.heap[b]?=some o)→(∀g cs,G g=some cs→CU P μ g cs)→ps.length=xs.size→(∀(i:Nat)p x,ps[i]?=some p→xs[i]?=some x→aq P μ p x)→Calls P g xs w fun e w'=>∃y,e=.returned y∧lh w.heap.size w w'∧aq P (cu μ w w') r y
def FN(P:Program)(G:Nat→Option (List PV))(g:FuncId)(M:List PV→Option PV):Prop:=
 (∃fn c,P.funcs[g]?=some fn∧fn.body=some c∧(fn.name== "runtime.NumGoroutine")=false)∧
 ∀(fn:Func)(t e:TypeId),P.funcs[g]?=some fn→fn.resultTypes.toList=[t]→P.underlying t=some (.slice e)→∀(ps:List PV)(r:PV),M ps=some r→∀(w:World)(μ:Ro)(xs:Array Value),(∀b o,μ b=some o→w.heap[b]?=some o)→(∀g cs,G g=some cs→CU P μ g cs)→ps.length=xs.size→(∀(i:Nat)p x,ps[i]?=some p→xs[i]?=some x→aq P μ p x)→Calls P g xs w fun en w'=>∃(y:Value)(ph:aH)(es:List PV),en=.returned y∧lh w.heap.size w w'∧r=.rs (aS P e) es∧(∀g,ph.g=some g→w.heap.size≤g)∧aL P (nS (cu μ w w') ph.g) (fun _=>ph) w' 0 (aS P e) e es∧an P μ (fun _=>ph) (.os 0) y
def aix(m:Mem):Option (Nat×bL)→Mem
 |some (id,b)=>aw m id b
 |none=>m
def aiy(E:Env)(g:FuncId)(args:List V)(f:Fr)(m:Mem)(v:V)(f':Fr)(m':Mem):Prop:=
 (∃fn c,E.P.funcs[g]?=some fn∧fn.body=some c∧(fn.name== "runtime.NumGoroutine")=false)∧
 ∀(w0:bu)(μ:Ro)(φ:Nat→aH)(ρ:Nat→Value)(w:World)(xs:Array Value),aA E.P E.az w0 μ φ m w→cd E.P μ φ m f ρ→args.length=xs.size→(∀(i:Nat)v x,args[i]?=some v→xs[i]?=some x→an E.P μ φ v x)→(∀id,cp id args=true→(m id).isSome=true)→Calls E.P g xs w fun e w'=>∃y μ' φ',e=.returned y∧aA E.P E.az w0 μ' φ' m' w'∧cd E.P μ' φ' m' f' ρ∧an E.P μ' φ' v y∧∀id,v.has id=true→(m' id).isSome=true
def M3{R:Type}(P:Program)(G:Nat→Option (List PV))(g:FuncId)(args:List V)(f:Fr)(m:Mem)(k:V→Fr→Mem→Option R)(r:R):Prop:=
 (∃fn c,P.funcs[g]?=some fn∧fn.body=some c∧(fn.name== "runtime.NumGoroutine")=false)∧
 ∀(w0:bu)(μ:Ro)(φ:Nat→aH)(ρ:Nat→Value)(w:World)(xs:Array Value),aA P G w0 μ φ m w→cd P μ φ m f ρ→args.length=xs.size→(∀(i:Nat)v x,args[i]?=some v→xs[i]?=some x→an P μ φ v x)→(∀id,cp id args=true→(m id).isSome=true)→Calls P g xs w fun e w'=>∃v f' m' y μ' φ',k v f' m'=some r∧e=.returned y∧aA P G w0 μ' φ' m' w'∧cd P μ' φ' m' f' ρ∧an P μ' φ' v y∧∀id,v.has id=true→(m' id).isSome=true
def aeX(P:Program)(G:Nat→Option (List PV))(nt:Nat)(yl:YL)(w0:bu):Prop:=∀(R:Type)site id args f m(k:V→Fr→Mem→Option R)r,yl R nt site id args f m k=some r→∀(μ:Ro)(φ:Nat→aH)(ρ:Nat→Value)(w:World)(xs:Array Value),aA P G w0 μ φ m w→cd P μ φ m f ρ→(∀t,nt≤t→ρ t=w0.sv t)→args.length=xs.size→(∀(i:Nat)v x,args[i]?=some v→xs[i]?=some x→an P μ φ v x)→(∀id,cp id args=true→(m id).isSome=true)→∀g,(φ id).g=some g→∃fn tmps assign body,(Instr.yield g xs).run P w=.ok (.round g fn tmps assign body) w∧RoundIn Fence.wide 0 P g fn tmps assign body w fun e w'=>∃v f' m' y μ' φ',k v f' m'=some r∧e=.returned y∧(∀b o,μ b=some o→μ' b=some o)∧aA P G w0 μ' φ' m' w'∧cd P μ' φ' m' f' ρ∧an P μ' φ' v y∧∀id,v.has id=true→(m' id).isSome=true
def tA(P:Program)(G:Nat→Option (List PV))(nt:Nat)(yl:YL)(w0:bu):Prop:=∀H:Ro,aeX P G nt yl {w0 with hid:=H}
theorem Ep(P:Program)(G:Nat→Option (List PV))(nt:Nat)(w0:bu):tA P G nt Di w0:=fun H R site id args f m k r h=>by cases h
variable{G:Nat→Option (List PV)}{φ:Nat→aH}
theorem aA.Dw{P:Program}{w0:bu}{μ:Ro}{m:Mem}{w:World}(h:aA P G w0 μ φ m w){K:Ro}(hK:∀b o,K b=some o→μ b=some o):aA P G {w0 with dC:=K} μ φ m w:=⟨h.below,h.ro,h.az,h.dB,h.own,h.inj,h.apart,h.fI,h.base,hK,h.Ft,h.hid⟩
theorem aA.IY{P:Program}{w0:bu}{μ:Ro}{m:Mem}{w:World}{K:Ro}(h:aA P G {w0 with dC:=K} μ φ m w)(hK:∀b o,w0.dC b=some o→K b=some o):aA P G w0 μ φ m w:=⟨h.below,h.ro,h.az,h.dB,h.own,h.inj,h.apart,h.fI,h.base,fun b o hb=>h.dC b o (hK b o hb),h.Ft,h.hid⟩
theorem tA.Dw{P:Program}{G:Nat→Option (List PV)}{nt:Nat}{yl:YL}{w0:bu}(h:tA P G nt yl w0){K:Ro}(hK:∀b o,w0.dC b=some o→K b=some o):tA P G nt yl {w0 with dC:=K}:=fun H R site id args f m k r hy μ φ ρ w xs hM hF hρ hl hr MU g hg=>
  let⟨fn,tmps,assign,body,y1,y2⟩:=h H R site id args f m k r hy μ φ ρ w xs (aA.IY (w0:={w0 with hid:=H}) hM hK) hF hρ hl hr MU g hg
  ⟨fn,tmps,assign,body,y1,y2.mono fun e w'⟨v,f',m',y,μ',φ',a1,a2,a3,a4,a5⟩=>⟨v,f',m',y,μ',φ',a1,a2,a3,a4.Dw fun b o hb=>a3 b o (hM.dC b o hb),a5⟩⟩
def Rw{R:Type}(P:Program)(G:Nat→Option (List PV))(g:FuncId)(yl:YL)(args:List V)(f:Fr)(m:Mem)(k:V→Fr→Mem→Option R)(r:R):Prop:=
 ∃fn c,P.funcs[g]?=some fn∧fn.body=some c∧(fn.name== "runtime.NumGoroutine")=false∧
 ∀(w0:bu)(μ:Ro)(φ:Nat→aH)(ρ:Nat→Value)(w:World)(xs:Array Value),aA P G w0 μ φ m w→cd P μ φ m f ρ→args.length=xs.size→(∀(i:Nat)v x,args[i]?=some v→xs[i]?=some x→an P μ φ v x)→(∀id,cp id args=true→(m id).isSome=true)→tA P G fn.ntmps yl {w0 with sv:=fun t=>ρ (t-fn.ntmps)}→Calls P g xs w fun e w'=>∃v f' m' y μ' φ',k v f' m'=some r∧e=.returned y∧aA P G w0 μ' φ' m' w'∧cd P μ' φ' m' f' ρ∧an P μ' φ' v y∧∀id,v.has id=true→(m' id).isSome=true
structure jM(E:Env):Prop where
 mixed:E.P.follows .mixedOrders=true
 lp:∀(S R:Type)(body:S→(S→Option R)→Option R)s r,E.lp.run body s=some r→∃n,dH body n s=some r
 ctx:∀g M,E.ctx g=some M→AR E.P E.az g M
 own:∀g M,E.own g=some M→FN E.P E.az g M
 inl:∀(R:Type)g Rg args f m(k:V→Fr→Mem→Option R)r,E.inl R g Rg args f m k=some r→M3 E.P E.az g args f m k r
 rng:∀(R:Type)g Rg yl args f m(k:V→Fr→Mem→Option R)r,E.rng R g Rg yl args f m k=some r→Rw E.P E.az g yl args f m k r
section
variable {R:Type} {E:Env}
theorem eK{f:V→List Nat}{id:Nat}:∀{cs:List V},id∈jr f cs↔∃v∈cs,id∈f v
 |[]=>by simp[jr]
 |c::r=>by simp[jr,eK (cs:=r)]
theorem nd{g g':V→Option PV}:∀{cs:List V},(∀v∈cs,g' v=g v)→sr g' cs=sr g cs
 |[],_=>rfl
 |c::r,h=>by simp_all[sr,nd]
theorem tZ{m m2:Mem}:∀(d:Nat){v:V},(∀id∈cP m d v,m2 id=m id)→l0 m2 d v=l0 m d v
 |0,v,_=>rfl
 |d+1,v,h=>by
  cases v with
  |agg cs=>simp only[l0];rw[nd fun v hv=>tZ d fun id hid=>h id (by simp only[cP];exact eK.2 ⟨v,hv,hid⟩)]
  |aI cs=>simp only[l0];rw[nd fun v hv=>tZ d fun id hid=>h id (by simp only[cP];exact eK.2 ⟨v,hv,hid⟩)]
  |fn g cs=>simp only[l0];rw[nd fun v hv=>tZ d fun id hid=>h id (by simp only[cP];exact eK.2 ⟨v,hv,hid⟩)]
  |op id off=>
   have h0:=h id (by simp[cP]);simp only[l0,h0];split
   ·rename_i cs hm;rw[nd fun v hv=>tZ d fun vM hid=>h vM (by simp only[cP,hm];exact apZ _ (eK.2 ⟨v,hv,hid⟩))]
   rfl
  |oe id i off=>grind [l0,id,cP]
  |os id=>grind [l0,id,cP]
  |gh id lo len=>grind [l0,id,cP]
  |om id=>grind [l0,id,cP]
  |AJ id i off=>grind [l0,id,cP]
  |_=>rfl
theorem jy{g g':V→List Nat}:∀{cs:List V},(∀v∈cs,g' v=g v)→jr g' cs=jr g cs
 |[],_=>rfl
 |c::r,h=>by simp_all[jr,jy]
theorem nV{m m2:Mem}:∀(d:Nat){v:V},(∀id∈cP m d v,m2 id=m id)→cP m2 d v=cP m d v
 |0,v,_=>rfl
 |d+1,v,h=>by
  cases v with
  |agg cs=>simp only[cP];exact jy fun v hv=>nV d fun id hid=>h id (by simp only[cP];exact eK.2 ⟨v,hv,hid⟩)
  |aI cs=>simp only[cP];exact jy fun v hv=>nV d fun id hid=>h id (by simp only[cP];exact eK.2 ⟨v,hv,hid⟩)
  |fn g cs=>simp only[cP];exact jy fun v hv=>nV d fun id hid=>h id (by simp only[cP];exact eK.2 ⟨v,hv,hid⟩)
  |op id off=>
   have h0:=h id (by simp[cP]);simp only[cP,h0];split
   ·rename_i cs hm;rw[jy fun v hv=>nV d fun vM hid=>h vM (by simp only[cP,hm];exact apZ _ (eK.2 ⟨v,hv,hid⟩))]
   rfl
  |_=>rfl
variable{p:PV}
theorem G6{t:TypeId}{k:PV→Option R}{r:R}(hs:yT E t=true)(h:ij E t p k=some r):∃q,(∀(R':Type)(k':PV→Option R'),ij E t p k'=k' q)∧k q=some r∧∀(P:Program)(μ μ':Ro)x,aq P μ p x→aq P μ' q x:=by
 unfold yT at hs;unfold ij at h;split at h
 ·rename_i q hu;obtain⟨n,hn,hk⟩:=By.1 h;have hp:p=.int q n:=by cases p<;>simp[asInt]at hn;simp_all
  exact⟨.int q n,fun R' k'=>by simp[ij,hu,hn],hk,fun P μ μ' x hx=>by subst hp;cases hx with|int h=>exact .int h⟩
 ·rename_i hu;obtain⟨n,hn,hk⟩:=By.1 h;have hp:p=.bool n:=by cases p<;>simp[asBool]at hn;subst hn;rfl
  exact⟨.bool n,fun R' k'=>by simp[ij,hu,hn],hk,fun P μ μ' x hx=>by subst hp;cases hx;exact .bool⟩
 ·rename_i hu;obtain⟨n,hn,hk⟩:=By.1 h;have hp:p=.str n:=by cases p<;>simp[aZ]at hn;subst hn;rfl
  exact⟨.str n,fun R' k'=>by simp[ij,hu,hn],hk,fun P μ μ' x hx=>by subst hp;cases hx with|str h=>exact .str h⟩
 all_goals simp_all
theorem O5:∀{ts:List TypeId}{ps:List PV}{k:List V→Option R}{r:R},GJ E ts ps k=some r→∃vs,(∀(R':Type)(k':List V→Option R'),GJ E ts ps k'=k' vs)∧k vs=some r∧vs.length=ps.length∧(∀id,cp id vs=false)∧(∀(P:Program)(μ:Ro)(φ:Nat→aH)(i:Nat)p v x,ps[i]?=some p→vs[i]?=some v→aq P μ p x→an P μ φ v x)∧(ts.all (yT E)=true→∀(P:Program)(μ μ':Ro)(φ:Nat→aH)(i:Nat)p v x,ps[i]?=some p→vs[i]?=some v→aq P μ p x→an P μ' φ v x)
 |[],[],k,r,h=>⟨[],fun R' k'=>rfl,h,rfl,fun _=>rfl,by simp,by simp⟩
 |t::ts,p::ps,k,r,h=>by
  simp only[GJ]at h;obtain⟨q,q1,q2,q3,_⟩:=mK h;obtain⟨vs,v1,v2,v3,v4,v5,v6⟩:=O5 q2;refine⟨.pv q::vs,fun R' k'=>by simp only[GJ];rw[q1,v1],v2,by simp[v3],fun id=>by simp[cp,v4],fun P μ φ i p' v x hp hv hx=>?_,fun hs P μ μ' φ i p' v x hp hv hx=>?_⟩
  ·cases i with
   |zero=>simp at hp hv;subst hp;subst hv;exact .pv (q3 _ _ _ hx)
   |succ i=>grind
  ·simp only[aqM,aeu]at hs;cases i with
   |zero=>
    simp at hp hv;subst hp;subst hv;obtain⟨q',s1,s2,s3⟩:=G6 hs.1 h;have:q'=q:=by have e1:=s1 PV some;grind
    subst this;exact .pv (s3 P μ μ' x hx)
   |succ i=>grind
 |[],p::ps,k,r,h=>by simp[GJ]at h
 |t::ts,[],k,r,h=>by simp[GJ]at h
theorem O6{n:Nat}{r:PV}{vs:List PV}(h:bN n r=some vs):r=.aI vs∧vs.length=n:=by cases r<;>simp[bN]at h;grind
variable{ts:List TypeId}
theorem O7{k:V→Option R}{r:R}(h:GK E ts p k=some r):∃v,(∀(R':Type)(k':V→Option R'),GK E ts p k'=k' v)∧k v=some r∧(∀id,v.has id=false)∧(∀(P:Program)(μ:Ro)(φ:Nat→aH)x,aq P μ p x→an P μ φ v x)∧(ts.all (yT E)=true→∀(P:Program)(μ μ':Ro)(φ:Nat→aH)x,aq P μ p x→an P μ' φ v x):=by
 unfold GK at h;split at h
 ·obtain⟨vs,hv,hk⟩:=By.1 h;obtain⟨rfl,hl⟩:=O6 hv;have:vs=[]:=aof hl;subst this;have key:∀(P:Program)(μ μ':Ro)(φ:Nat→aH)x,aq P μ (.aI []) x→an P μ' φ (.aI []) x:=fun P μ μ' φ x hx=>by
   cases hx with
   |aI h1 h2=>exact .aI h1 (by simp)
  grind [GK,V.has,cp]
 ·rename_i t;obtain⟨q,q1,q2,q3,_⟩:=mK h;refine⟨.pv q,fun R' k'=>by simp only[GK];rw[q1],q2,by simp,fun P μ φ x hx=>.pv (q3 _ _ _ hx),fun hs P μ μ' φ x hx=>?_⟩;obtain⟨q',s1,s2,s3⟩:=G6 (by simpa using hs) h;have:q'=q:=by have e1:=s1 PV some;grind
  subst this;exact .pv (s3 P μ μ' x hx)
 ·rename_i afL aiz;obtain⟨vs,hv,hk⟩:=By.1 h;obtain⟨rfl,hl⟩:=O6 hv;obtain⟨us,u1,u2,u3,u4,u5,u6⟩:=O5 hk;have aiA:((List.range ts.length).map fun j=>vs.getD j .bad)=vs:=by apply aox;grind
  rw[aiA]at u3 u5 u6;refine⟨.aI us,fun R' k'=>?_,u2,fun id=>by simp[V.has,u4],fun P μ φ x hx=>?_,fun hs P μ μ' φ x hx=>?_⟩
  ·unfold GK;simp_all
  ·cases hx with
   |aI h1 h2=>
    refine .aI (by omega) fun i v y hv hy=>?_;have hi:i<vs.length:=by grind
    exact u5 P μ φ i _ v y (ta hi) hv (h2 i _ y (ta hi) hy)
  ·cases hx with
   |aI h1 h2=>
    refine .aI (by omega) fun i v y hv hy=>?_;have hi:i<vs.length:=by grind
    exact u6 hs P μ μ' φ i _ v y (ta hi) hv (h2 i _ y (ta hi) hy)
theorem wZ:∀{args:List V}{m m':Mem}{ps:List PV},js m args=some (ps,m')→kN m m'∧ps.length=args.length∧∀(P:Program)(G:Nat→Option (List PV))(w0:bu)(μ:Ro)(φ:Nat→aH)(w:World)(X:Nat→Value),aA P G w0 μ φ m w→(∀(i:Nat)u,args[i]?=some u→an P μ φ u (X i))→∃μ',(∀b o,μ b=some o→μ' b=some o)∧aA P G w0 μ' φ m' w∧∀(i:Nat)p,ps[i]?=some p→aq P μ' p (X i)
 |[],m,m',ps,h=>by simp only[js,tb,afu]at h;obtain⟨rfl,rfl⟩:=h;exact⟨.refl _,rfl,fun P G w0 μ φ w X hM _=>⟨μ,fun _ _ h=>h,hM,by simp⟩⟩
 |c::r,m,m',ps,h=>by
  simp only[js]at h;split at h
  ·rename_i p m1 h1;split at h
   ·rename_i ps1 m2 h2;simp only[tb,afu]at h;obtain⟨rfl,rfl⟩:=h;obtain⟨a1,a2⟩:=LI h1;obtain⟨b1,b2,b3⟩:=wZ h2;refine⟨a1.trans b1,by simp[b2],fun P G w0 μ φ w X hM hx=>?_⟩;obtain⟨μ1,c1,c2,c3⟩:=a2 P G w0 μ φ w (X 0) hM (hx 0 c (by simp));obtain⟨μ2,d1,d2,d3⟩:=b3 P G w0 μ1 φ w (fun i=>X (i+1)) c2 (fun i u hu=>(hx (i+1) u (by simpa using hu)).CV c1);refine⟨μ2,fun b o h=>d1 b o (c1 b o h),d2,fun i q hq=>?_⟩;cases i with
    |zero=>simp at hq;subst hq;exact c3.mono d1
    |succ i=>simp_all
   ·cases h
  ·cases h
theorem M4{m':Mem}{v:V}(h:yP cY v=some (p,m')):m'=cY:=by
 have key:∀{cs:List V}{m':Mem}{ps:List PV},nR cY cs=some (ps,m')→m'=cY:=by
  intro cs;induction cs with
  |nil=>simp[nR,tb,afu]
  |cons c r ih=>grind [nR,uw,Option.some.injEq,Prod.mk.injEq]
 unfold yP at h;grind [Option.some.injEq,Prod.mk.injEq,uw]
theorem sB:∀{args:List V}{m':Mem}{ps:List PV},js cY args=some (ps,m')→ps.length=args.length∧∀(P:Program)(μ:Ro)(φ:Nat→aH)(X:Nat→Value),(∀(i:Nat)u,args[i]?=some u→an P μ φ u (X i))→∀(i:Nat)p,ps[i]?=some p→aq P μ p (X i)
 |[],m',ps,h=>by simp only[js,tb,afu]at h;simp_all
 |c::r,m',ps,h=>by
  simp only[js]at h;split at h
  ·rename_i p m1 h1;have:=M4 h1;subst this;split at h
   ·rename_i ps1 m2 h2;simp only[tb,afu]at h;obtain⟨rfl,rfl⟩:=h;obtain⟨b2,b3⟩:=sB h2;refine⟨by simp[b2],fun P μ φ X hx i q hq=>?_⟩;cases i with
    |zero=>simp at hq;subst hq;exact G5 h1 P μ φ _ (hx 0 c (by simp))
    |succ i=>exact b3 P μ φ (fun i=>X (i+1)) (fun i u hu=>hx (i+1) u (by simpa using hu)) i q (by simpa using hq)
   ·cases h
  ·cases h
variable{φ:Nat→aH}
theorem aL.move{P:Program}{μ μ':Ro}{φ':Nat→aH}{w:World}{i j sz:Nat}{et:TypeId}{es:List PV}(h:aL P μ φ w i sz et es)(hφ:φ' j=φ i)(hμ:∀b o,μ b=some o→μ' b=some o):aL P μ' φ' w j sz et es:=by
 unfold aL at*;rw[hφ];obtain⟨h1,h2,h3,h4,h5,h6,h7⟩:=h;refine⟨h1,h2,h3,h4,h5,h6,?_⟩;split at h7
 ·omega
 ·obtain⟨c,T,c1,c2,c3,c4,c5⟩:=h7;exact⟨c,T,c1,c2,c3,fun i e j p x he hp hx=>(c4 i e j p x he hp hx).mono hμ,c5⟩
theorem aL.WH{P:Program}{ν μ:Ro}{w:World}{i:Nat}{et:TypeId}{es:List PV}(h:aL P ν φ w i 1 et es):aL P μ φ w i 1 et (es.map Lh):=by
 unfold aL at*;obtain⟨h1,h2,h3,h4,h5,h6,h7⟩:=h;have hc:∀p:PV,(Lh p).cells.length=1:=fun p=>by cases p<;>rfl
 refine⟨by simpa using h1,h2,h3,h4,fun j e he=>?_,h6,?_⟩
 ·grind
 ·split at h7
  ·simp_all
  ·obtain⟨c,T,c1,c2,c3,c4,c5⟩:=h7;refine⟨c,T,c1,c2,by simpa using c3,fun j e l p x he hp hx=>?_,fun j x hj hx=>c5 j x (by simpa using hj) hx⟩;simp only[AT,alj]at he;obtain⟨q,hq,rfl⟩:=he;have hl:l=0:=by grind
   subst hl;cases q<;>(simp only[Lh,PV.cells,aoR,tb]at hp;subst hp);case int=>have:=c4 j _ 0 _ x hq rfl hx;cases this with|int h=>exact .int h
   case bool=>have:=c4 j _ 0 _ x hq rfl hx;cases this;exact .bool
   case str=>have:=c4 j _ 0 _ x hq rfl hx;cases this with|str h=>exact .str h
   all_goals exact .bad
mutual
theorem Zs:∀(s:FS)(p:PV)(a:List PV),rdL s p=some a→a.length=s.n∧∀r,ML s (a++r)=(p,r)
 |.raw,p,a,h=>by simp only[rdL,tb]at h;subst h;exact⟨rfl,fun r=>rfl⟩
 |.fn g cs,p,a,h=>by
  cases p<;>simp only[rdL]at h<;>try (cases h;done)
  split at h
  ·rename_i e;subst e;obtain⟨h1,h2⟩:=M5 cs _ a h;exact⟨by simp[FS.n,h1],fun r=>by simp[ML,h2 r]⟩
  ·cases h
 |.ptr cs,p,a,h=>by
  cases p<;>simp only[rdL]at h<;>try (cases h;done)
  obtain⟨h1,h2⟩:=M5 cs _ a h;exact⟨by simp[FS.n,h1],fun r=>by simp[ML,h2 r]⟩
theorem M5:∀(ss:List FS)(ps:List PV)(a:List PV),OI ss ps=some a→a.length=nFs ss∧∀r,GI ss (a++r)=(ps,r)
 |[],ps,a,h=>by
  cases ps with
  |nil=>simp only[OI,tb]at h;subst h;exact⟨rfl,fun r=>rfl⟩
  |cons p ps=>simp[OI]at h
 |s::ss,ps,a,h=>by
  cases ps with
  |nil=>simp[OI]at h
  |cons p ps=>simp only[OI]at h;obtain⟨x,hx,h⟩:=By.1 h;obtain⟨y,hy,h⟩:=By.1 h;simp only[tb]at h;subst h;obtain⟨a1,a2⟩:=Zs s p x hx;obtain⟨b1,b2⟩:=M5 ss ps y hy;refine⟨by simp[nFs,a1,b1],fun r=>?_⟩;simp only[GI,aow,a2,b2]
end
theorem T8{s:FS}{ls:List PV}(h:rdL s p=some ls):(ML s ((List.range s.n).map fun j=>ls.getD j .bad)).1=p:=by
 obtain⟨h1,h2⟩:=Zs s p ls h;have:((List.range s.n).map fun j=>ls.getD j .bad)=ls:=by apply aox;grind
 rw[this];have:=h2 [];simp_all
theorem WI{fid:FuncId}{k:V→Option R}{r:R}(h:FC E fid ts p k=some r):∃v,(∀(R':Type)(k':V→Option R'),FC E fid ts p k'=k' v)∧k v=some r∧(∀id,v.has id=false)∧(∀(P:Program)(μ:Ro)(φ:Nat→aH)x,aq P μ p x→an P μ φ v x)∧True:=by
 unfold FC at h;split at h
 ·rename_i s hs;obtain⟨ls,hl,hk⟩:=By.1 h;refine⟨_,fun R' k'=>by simp_all[FC,aoe],hk,fun id=>rfl,fun P μ φ x hx=>.pv ?_,trivial⟩;rw[T8 hl];omega
 ·rename_i hs;obtain⟨v,v1,v2,v3,v4,_⟩:=O7 h;exact⟨v,fun R' k'=>by simp_all[FC],v2,v3,v4,trivial⟩
theorem Zt(hE:jM E){draw:Bool}{site:Nat}{g:FuncId}{args:List V}{f:Fr}{m:Mem}{k:V→Fr→Mem→bB→Option R}{r:R}(h:Ag E draw site g args f m k=some r):(∃v f' m' ft,k v f' m' ft=some r∧(draw=true→f'=f∧∃wr:Option (Nat×bL),m'=aix m wr∧(∀id b,wr=some (id,b)→(true,id)∈ft)∧∀(f2:Fr)(m2:Mem),(∀x∈ft,m2 x.2=m x.2)→∀(R':Type)(k':V→Fr→Mem→bB→Option R'),Ag E true site g args f2 m2 k'=k' v f2 (aix m2 wr) ft)∧((∀x∈ft,x.1=false)→f'=f∧m'=m)∧aiy E g args f m v f' m')∨(draw=false∧M3 E.P E.az g args f m (fun v f m=>k v f m [(true,0)]) r):=by
 have hX:∀(P:Program)(μ:Ro)(φ:Nat→aH)(xs:Array Value),args.length=xs.size→(∀(i:Nat)v x,args[i]?=some v→xs[i]?=some x→an P μ φ v x)→∀(i:Nat)u,args[i]?=some u→xs[i]?=some (xs.getD i undef)∧an P μ φ u (xs.getD i undef):=by
  intro P μ φ xs hl hr i u hu;have bF:i<xs.size:=by grind
  have:xs[i]?=some (xs.getD i undef):=by simp_all
  grind
 unfold Ag at h;split at h
 ·rename_i M WJ;obtain⟨YE,hM⟩:=hE.ctx g M WJ;split at h
  ·rename_i fn hg;split at h
   ·rename_i hsc;split at h
    ·rename_i ps qk;obtain⟨p,hp,h⟩:=By.1 h;obtain⟨v,v1,v2,v3,v4,v5⟩:=O7 h;refine .inl ⟨v,f,m,_,v2,fun hd=>⟨rfl,none,rfl,by simp,fun f2 m2 cG R' k'=>?_⟩,fun _=>⟨rfl,rfl⟩,YE,fun w0 μ φ ρ w xs hR hF hl hr MU=>?_⟩
     ·have Zf:sr (l0 m2 eW) args=sr (l0 m eW) args:=nd fun v hv=>tZ _ fun id hid=>cG (false,id) (by simp only[aoi];exact⟨id,eK.2 ⟨v,hv,hid⟩,rfl⟩);have Ez:((jr (cP m2 eW) args).map fun i=>(false,i))=((jr (cP m eW) args).map fun i=>(false,i)):=by have:jr (cP m2 eW) args=jr (cP m eW) args:=jy fun v hv=>nV _ fun id hid=>cG (false,id) (by simp only[aoi];exact⟨id,eK.2 ⟨v,hv,hid⟩,rfl⟩);rw[this]
      simp only[Ag,WJ,hg];rw[No hsc];simp only[Zf,qk,hp,aoe,Ez];rw[v1];rfl
     ·obtain⟨p1,p2⟩:=gL qk;refine(hM ps p hp w (kK w) xs (fun _ _ h=>h) (fun g cs hg=>(hR.az g cs hg).mono hR.Cm) (by omega) (fun i q x hq hx=>?_)).mono ?_
      ·obtain⟨u,hu,hf⟩:=p2 i q hq;exact yb hR hR.Cm (fun _ _ _ _ _=>rfl) _ hf (hr i u x hu hx)
      ·rintro e w' ⟨y,rfl,hb,hy⟩;exact⟨y,cu μ w w',φ,rfl,hR.called hb,hF.oI (lr hR w') (.refl _),v5 hsc E.P _ _ φ y hy,fun id hid=>by simp_all⟩
    ·cases h
   ·rename_i hsc;split at h
    ·rename_i ps m1 qk;obtain⟨p,hp,h⟩:=By.1 h;obtain⟨v,v1,v2,v3,v4,v5⟩:=WI h;cases draw with
     |true=>
      simp only[BY]at qk v2;obtain⟨q1,q2⟩:=sB qk;refine .inl ⟨v,f,m,_,v2,fun _=>⟨rfl,none,rfl,by simp,fun f2 m2 cG R' k'=>?_⟩,fun _=>⟨rfl,rfl⟩,YE,fun w0 μ φ ρ w xs hR hF hl hr MU=>?_⟩
      ·simp only[Ag,WJ,hg];rw[QU hsc];simp only[BY,qk,hp,aoe];rw[v1];rfl
      ·refine(hM ps p hp w μ xs hR.ro hR.az (by omega) (fun i q x hq hx=>?_)).mono ?_
       ·have:=q2 E.P μ φ (fun i=>xs.getD i undef) (fun i u hu=>(hX E.P μ φ xs hl hr i u hu).2) i q hq;simp_all
       ·rintro e w' ⟨y,rfl,hb,hy⟩;exact⟨y,cu μ w w',φ,rfl,hR.called hb,hF.oI (lr hR w') (.refl _),v4 E.P _ φ y hy,fun id hid=>by simp_all⟩
     |false=>
      simp only[AI,OF]at qk v2;obtain⟨q0,q1,q2⟩:=wZ qk;refine .inl ⟨v,f,m1,_,v2,fun hd=>by(cases hd),fun hq=>absurd (hq (true,0) (by simp)) (by simp),YE,fun w0 μ φ ρ w xs hR hF hl hr MU=>?_⟩;obtain⟨μ1,r1,r2,r3⟩:=q2 E.P E.az w0 μ φ w (fun i=>xs.getD i undef) hR (fun i u hu=>(hX E.P μ φ xs hl hr i u hu).2);refine(hM ps p hp w μ1 xs r2.ro r2.az (by omega) (fun i q x hq hx=>?_)).mono ?_
      ·have:=r3 i q hq;have bF:i<xs.size:=(T0.1 hx).1;simp_all[undef,Yh,tb,Array.getD]
      ·rintro e w' ⟨y,rfl,hb,hy⟩;exact⟨y,cu μ1 w w',φ,rfl,r2.called hb,hF.oI (fun b o h=>lr r2 w' b o (r1 b o h)) q0,v4 E.P _ φ y hy,fun id hid=>by grind⟩
    ·cases h
  ·cases h
 ·rename_i WJ;split at h
  ·rename_i M AQ;obtain⟨YE,hM⟩:=hE.own g M AQ;split at h
   ·rename_i fn hg;split at h
    ·rename_i t ht;split at h
     ·rename_i e hu;split at h
      ·rename_i hsc;obtain⟨hsc,yj⟩:=hsc;split at h
       ·rename_i ps qk;obtain⟨p,hp,h⟩:=By.1 h;obtain⟨es,OB,h⟩:=By.1 h;obtain⟨f',m',n1,n2,n3,n4,n5⟩:=cj h;refine .inl ⟨_,f',m',_,n2,fun hd=>?_,fun hq=>absurd (hq (true,site) (by simp)) (by simp),YE,fun w0 μ φ ρ w xs hR hF hl hr MU=>?_⟩
        ·obtain⟨d1,d2,d3⟩:=n4 hd;subst hd;refine⟨d2,some (site,_),d3,by simp,fun f2 m2 cG R' k'=>?_⟩;have Zf:sr (l0 m2 eW) args=sr (l0 m eW) args:=nd fun v hv=>tZ _ fun id hid=>cG (false,id) (by simp only[aol,aoi];exact .inr ⟨id,eK.2 ⟨v,hv,hid⟩,rfl⟩);have Ez:jr (cP m2 eW) args=jr (cP m eW) args:=jy fun v hv=>nV _ fun id hid=>cG (false,id) (by simp only[aol,aoi];exact .inr ⟨id,eK.2 ⟨v,hv,hid⟩,rfl⟩);simp only[Ag,WJ,AQ,hg,ht,hu];rw[No ⟨hsc,yj⟩];simp only[Zf,qk,hp,aoe,OB,Ez];have hs2:m2 site=none:=by rw[cG (true,site) (by simp)];omega
         simp only[fresh,hs2];rfl
        ·obtain⟨p1,p2⟩:=gL qk;refine(hM fn t e hg ht hu ps p hp w (kK w) xs (fun _ _ h=>h) (fun g cs hg=>(hR.az g cs hg).mono hR.Cm) (by omega) (fun i q x hq hx=>?_)).mono ?_
         ·obtain⟨u,uq,hf⟩:=p2 i q hq;exact yb hR hR.Cm (fun _ _ _ _ _=>rfl) _ hf (hr i u x uq hx)
         rintro en w' ⟨y,ph,es',rfl,hb,rfl,Fv,hA,hy⟩;have afM:es'=es:=by simp only[ah,BY,tb]at OB;omega
         subst afM;rw[yj]at hA;have hA2:aL E.P (nS (cu μ w w') ph.g) (fun _=>ph) w' 0 1 e (es'.map Lh):=hA.WH;have FT:=hR.LB hb Fv;have hF2:cd E.P (nS (cu μ w w') ph.g) φ m f ρ:=hF.oI (fun b o h=>Dt hR w' Fv b o h) (.refl _);have hP:l6 E.P w0 (nS (cu μ w w') ph.g) φ m w' w' site (.arr (aS E.P e) e (es'.map Lh)) ph:=by
          refine⟨lh.refl _ _,FT.ro,fun _ _ _ _ _=>rfl,fun g hg=>⟨?_,?_,?_⟩,fun φ' hp _=>by rw[yj];exact hA2.move hp (fun _ _ h=>h),by simp[bL.names],fun g o h=>⟨(FT.hid g o h).1,fun e=>by have h1:=Fv g e;have:=(T0.1 (hR.hid g o h).1).1;omega⟩,fun st h=>by cases h⟩
          ·have:=Fv g hg;have:=hR.below.size;grind
          ·simp[nS,hg]
          ·intro id b' jn cL;have h1:=(hR.dB id b' jn).HE cL;grind
         obtain⟨φ',a1,a2,a3⟩:=n5 E.P E.az w0 _ φ w' w' ρ ph FT hF2 hP;refine⟨y,_,φ',rfl,a2,a3,?_,fun id hid=>?_⟩
         ·cases hy with
          |vO h=>exact .vO (by rw[a1];omega)
          | @os _ g h=>have:=an.os (P:=E.P) (μ:=nS (cu μ w w') ph.g) (φ:=φ') (id:=site) (g:=g) (by rw[a1];omega);grind
         ·have hid:=IT hid;subst hid;simp[n3]
       ·cases h
      rename_i hsc;split at h
      ·rename_i ps m1 qk;obtain⟨p,hp,h⟩:=By.1 h;obtain⟨es,OB,h⟩:=By.1 h;obtain⟨f',m',n1,n2,n3,n4,n5⟩:=cj h;have fin:∀(w0:bu)(μ μ1:Ro)(φ:Nat→aH)(ρ:Nat→Value)(w:World)(xs:Array Value),(∀b o,μ b=some o→μ1 b=some o)→kN m (if draw then m else m1)→aA E.P E.az w0 μ1 φ (if draw then m else m1) w→cd E.P μ φ m f ρ→ps.length=xs.size→(∀(i:Nat)p x,ps[i]?=some p→xs[i]?=some x→aq E.P μ1 p x)→Calls E.P g xs w fun e w'=>∃y μ' φ',e=.returned y∧aA E.P E.az w0 μ' φ' m' w'∧cd E.P μ' φ' m' f' ρ∧an E.P μ' φ' (.os site) y∧∀id,(V.os site).has id=true→(m' id).isSome=true:=by
        intro w0 μ μ1 φ ρ w xs hle MU hR hF hl hr;refine(hM fn t e hg ht hu ps p hp w μ1 xs hR.ro hR.az hl hr).mono ?_;rintro en w' ⟨y,ph,es',rfl,hb,rfl,Fv,hA,hy⟩;have afM:es'=es:=by simp only[ah,BY,tb]at OB;omega
        subst afM;have FT:=hR.LB hb Fv;have hF2:cd E.P (nS (cu μ1 w w') ph.g) φ (if draw then m else m1) f ρ:=hF.oI (fun b o h=>Dt hR w' Fv b o (hle b o h)) MU;have hP:l6 E.P w0 (nS (cu μ1 w w') ph.g) φ (if draw then m else m1) w' w' site (.arr (aS E.P e) e es') ph:=by
         refine⟨lh.refl _ _,FT.ro,fun _ _ _ _ _=>rfl,fun g hg=>⟨?_,?_,?_⟩,fun φ' hp _=>hA.move hp (fun _ _ h=>h),by simp[bL.names],fun g o h=>⟨(FT.hid g o h).1,fun e=>by have h1:=Fv g e;have:=(T0.1 (hR.hid g o h).1).1;omega⟩,fun st h=>by cases h⟩
         ·have:=Fv g hg;have:=hR.below.size;grind
         ·simp[nS,hg]
         ·intro id b' jn cL;have h1:=(hR.dB id b' jn).HE cL;grind
        obtain⟨φ',a1,a2,a3⟩:=n5 E.P E.az w0 _ φ w' w' ρ ph FT hF2 hP;refine⟨y,_,φ',rfl,a2,a3,?_,fun id hid=>?_⟩
        ·cases hy with
         |vO h=>exact .vO (by rw[a1];omega)
         | @os _ g h=>have:=an.os (P:=E.P) (μ:=nS (cu μ1 w w') ph.g) (φ:=φ') (id:=site) (g:=g) (by rw[a1];omega);grind
        ·have hid:=IT hid;subst hid;simp[n3]
       cases draw with
       |true=>
        simp only[BY]at qk n2 fin n4;obtain⟨q1,q2⟩:=sB qk;obtain⟨d1,d2,d3⟩:=n4 trivial;refine .inl ⟨_,f',m',_,n2,fun _=>⟨d2,some (site,_),d3,by simp,fun f2 m2 cG R' k'=>?_⟩,fun hq=>absurd (hq (true,site) (by simp)) (by simp),YE,fun w0 μ φ ρ w xs hR hF hl hr MU=>?_⟩
        ·simp only[Ag,WJ,AQ,hg,ht,hu];rw[QU hsc];simp only[BY,qk,hp,aoe,OB];have hs2:m2 site=none:=by rw[cG (true,site) (by simp)];omega
         simp only[fresh,hs2];rfl
        ·refine fin w0 μ μ φ ρ w xs (fun _ _ h=>h) (.refl _) hR hF (by omega) fun i q x hq hx=>?_;have:=q2 E.P μ φ (fun i=>xs.getD i undef) (fun i u hu=>(hX E.P μ φ xs hl hr i u hu).2) i q hq;have bF:i<xs.size:=(T0.1 hx).1;have e:xs.getD i undef=x:=by rw[Yh bF]at hx;simp only[tb]at hx;simp[Array.getD,bF,hx]
         rw[←e];omega
       |false=>
        simp only[AI,OF]at qk n2 fin n4;obtain⟨q0,q1,q2⟩:=wZ qk;refine .inl ⟨_,f',m',_,n2,fun hd=>by(cases hd),fun hq=>absurd (hq (true,site) (by simp)) (by simp),YE,fun w0 μ φ ρ w xs hR hF hl hr MU=>?_⟩;obtain⟨μ1,r1,r2,r3⟩:=q2 E.P E.az w0 μ φ w (fun i=>xs.getD i undef) hR (fun i u hu=>(hX E.P μ φ xs hl hr i u hu).2);refine fin w0 μ μ1 φ ρ w xs r1 q0 r2 hF (by omega) fun i q x hq hx=>?_;have:=r3 i q hq;have bF:i<xs.size:=(T0.1 hx).1;have e:xs.getD i undef=x:=by rw[Yh bF]at hx;simp only[tb]at hx;simp[Array.getD,bF,hx]
        rw[←e];omega
      ·cases h
     ·cases h
    ·cases h
   ·cases h
  ·split at h
   ·cases h
   ·rename_i hd;exact .inr ⟨by simpa using hd,hE.inl _ _ _ _ _ _ _ _ h⟩
end
end Go.Ab
