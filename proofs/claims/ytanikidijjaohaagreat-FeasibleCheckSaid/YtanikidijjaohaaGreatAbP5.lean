import Derived.Test.YtanikidijjaohaaGreatAbP4
import Derived.RangeFuncRecord
import Derived.Laws.IdiomRangeMap
set_option linter.unusedVariables false
set_option linter.unusedSimpArgs false
namespace Go.Ab
section
variable {P:Program} {G:Nat→Option (List PV)} {w0:bu} {μ:Ro} {φ:Nat→aA} {m:Mem} {w:World}
theorem aw.abi(hM:aw P G w0 μ φ m w){g:Nat}(hB:w0.heap.size≤g)(abj:∀id b,m id=some b→¬b.dU (φ id) g):aw P G w0 (oV μ w (some g)) φ m w:=by
 have mono:=lr hM (some g);refine⟨hM.below,fun b o hb=>?_,fun g' cs hg=>(hM.aH g' cs hg).mono mono,fun j c hj=>(hM.du j c hj).cr (fun _ _=>rfl) rfl mono (fun _ _=>rfl),fun j c g' hj cv=>?_,hM.inj,hM.apart,hM.fy,fun b o hb bS=>?_,fun b o hb=>mono b o (hM.dx b o hb),hM.A5⟩
 ·unfold oV at hb;split at hb
  ·exact hb
  ·exact hM.ro b o hb
 ·obtain⟨h1,h2⟩:=hM.own j c g' hj cv;refine⟨h1,fun ED=>?_⟩;unfold oV;split
  ·rename_i he;simp only[AI]at he;subst he;exact absurd cv (abj j c hj)
  ·exact h2 ED
 ·unfold oV at hb;split at hb
  ·rename_i he;simp only[AI]at he;omega
  ·exact hM.base b o hb bS
theorem Ly(w:World)(g:Nat)(o:Obj):kv g w (w.putObj g o):=⟨⟨rfl,rfl,rfl,by simp,fun k hk=>World.putObj_heap_other (by omega)⟩,fun _=>agM _⟩
theorem y0{A:Type}(f:A→Nat):∀{l:List A}{i:Nat}{e:A},l[i]?=some e→(∀(j:Nat)x,l[j]?=some x→f x=f e→j=i)→l.filter (fun x=> !(f x==f e))=l.eraseIdx i
 |[],i,e,h,_=>by simp at h
 |y::l,0,e,h,inj=>by simp only[ahd,AI]at h;subst h;simp only[ah2,BEq.rfl,afj,AT,Xq,List.eraseIdx_cons_zero];rw[ajP];intro x hx;obtain⟨j,hj⟩:=ahn.1 hx;simp only[agS,aho];intro e;have:=inj (j+1) x (by simpa using hj) e;omega
 |y::l,i+1,e,h,inj=>by
  have h':l[i]?=some e:=by simpa using h
  have cL:¬f y=f e:=fun e'=>by have:=inj 0 y rfl e';omega
  have hb:(f y==f e)=false:=by simpa using cL
  simp only[ah2,hb,agX,T1,List.eraseIdx_cons_succ];rw[y0 f h' (fun j x hj e'=>by have:=inj (j+1) x (by simpa using hj) e';omega)]
theorem Fv(en:Array MapEntry):kH en #[]=en.toList:=by unfold kH;rw[ajP];intro x _;simp
variable{en:Array MapEntry}{clock:Nat}{seen:Array Nat}{e:MapEntry}
theorem CT(hb:lq en clock){i:Nat}(hi:(kH en seen)[i]?=some e):kH en (seen.push e.born)=(kH en seen).eraseIdx i:=by
 have h1:kH en (seen.push e.born)=(kH en seen).filter (fun x=> !(x.born==e.born)):=by unfold kH;rw[List.filter_filter];congr 1;funext x;simp only[Array.contains_push,Bool.not_or];rw[Bool.and_comm]
 rw[h1];refine y0 (fun x=>x.born) hi fun j x hj e'=>?_;have hnd:(kH en seen).Pairwise fun a b=>a.born≠b.born:=by
  unfold kH;refine List.Pairwise.filter _ ?_;rw[aic];intro a b ha gX sl he;have h2:en[a]?=some en.toList[a]:=by rw[←agR];exact AS ha
  have h3:en[b]?=some en.toList[b]:=by rw[←agR];exact AS gX
  have:=(hb b _ h3).2 a _ h2 he;omega
 have Ad:j<(kH en seen).length:=(HO.1 hj).1;have Zp:i<(kH en seen).length:=(HO.1 hi).1;rw[AS Ad]at hj;rw[AS Zp]at hi;simp only[AI]at hj hi;rw[aic]at hnd;rcases Nat.lt_trichotomy j i with h|h|h
 ·exact absurd (by rw[hj,hi];exact e') (hnd j i Ad Zp h)
 ·exact h
 ·exact absurd (by rw[hj,hi];exact e'.symm) (hnd i j Zp Ad h)
theorem QT(h:e∈kH en seen):∃i:Nat,en[i]?=some e:=by unfold kH at h;have:=(aii.1 h).1;obtain⟨i,hi⟩:=ahn.1 this;exact⟨i,by rw[←agR];exact hi⟩
theorem QU{w:World}{g mg:Nat}(hg:w.heap[g]?=some (.mapIter (some mg) clock seen clock))(hm:w.heap[mg]?=some (.map en clock))(hb:lq en clock)(ty:TypeId):(kH en seen=[]∧(Instr.next (.pointer (some ⟨g,0,none⟩)) false ty).run P w=.ok (.tuple #[.bool false]) w)∨∃(j:Nat)(e:MapEntry)(w1:World),(kH en seen)[j]?=some e∧(w1=w∨w1=w.drew)∧(Instr.next (.pointer (some ⟨g,0,none⟩)) false ty).run P w=.ok (.tuple #[.bool true,e.key,e.val]) (w1.putObj g (.mapIter (some mg) clock (seen.push e.born) clock)):=by
 have hold:∀x∈en.toList,x.born<clock:=fun x hx=>by obtain⟨i,hi⟩:=ahn.1 hx;exact(hb i x (by rw[←agR];exact hi)).1
 simp only[Instr.next,getObj,Sem.run_bind,Sem.run,hg,hm,Result.andThen,next_test_false seen en clock clock hold (agM _),AT,Xq];have hL:(Array.filter (fun e=> !seen.contains e.born) en).toList=kH en seen:=by simp[kH]
 have bR:∀x∈(Array.filter (fun e=> !seen.contains e.born) en).toList,x.born<clock:=fun x hx=>hold x (by simp at hx⊢;exact hx.1);generalize Array.filter (fun e=> !seen.contains e.born) en=L at bR hL⊢;have e1:L.filter (fun x=>decide (x.born<clock))=L:=Array.filter_eq_self.2 (fun x hx=>by simpa using bR x (by simpa using hx));have e2:L.filter (fun x=>decide (x.born≥clock))= #[]:=by rw[Array.filter_eq_empty_iff];intro x hx;have:=bR x (by simpa using hx);simp;omega
 simp only[e1,e2,Array.append_empty];rw[←hL];by_cases h0:L.size=0
 ·left;have:L= #[]:=aiM h0;subst this;refine⟨rfl,?_⟩;simp[choose,Sem.run,Question.forced]
 ·right;have cL:L.isEmpty=false:=by simp[Array.isEmpty,h0]
  simp only[cL,AT,Xq,Array.empty_append,Array.size_map];have hch:∃(j:Nat)(w1:World),j<L.size∧(w1=w∨w1=w.drew)∧(choose (Question.mapNext L.size)).run P w=.ok j w1:=by
   by_cases hf:L.size≤1
   ·exact⟨0,w,by omega,.inl rfl,by simp[choose,Sem.run,Question.forced,hf]⟩
   ·exact⟨_,w.drew,ajI _ (by omega),.inr rfl,by simp only[choose,Sem.run,Question.forced,No,hf,Xq,Question.cut];rfl⟩
  obtain⟨j,w1,hj,GN,ow⟩:=hch;refine⟨j,L[j],w1,by rw[agR,OF hj],GN,?_⟩;have hg1:w1.heap[g]?=some (.mapIter (some mg) clock seen clock):=by rcases GN with rfl|rfl<;>exact hg
  have tz:(setObj g (.mapIter (some mg) clock (seen.push L[j].born) clock)).run P w1=.ok () (w1.putObj g (.mapIter (some mg) clock (seen.push L[j].born) clock)):=by simp only[setObj,Sem.run,hg1];rfl
  simp only[ow,ajd,OF hj,adN,Sem.run_bind,tz,Result.andThen];rfl
theorem Lz{w:World}{g mg:Nat}{i:Nat}(hg:w.heap[g]?=some (.mapIter (some mg) clock seen clock))(hm:w.heap[mg]?=some (.map en clock))(hb:lq en clock)(hi:en[i]?=some e)(hs:seen.back? =some e.born):(Instr.entry (.pointer (some ⟨g,0,none⟩))).run P w=.ok (.tuple #[e.key,e.val]) w:=by
 have hf:en.find? (·.born==e.born)=some e:=by
  rw[←Array.find?_toList];refine find_born e en.toList ?_ (by rw[ah4];exact aiL hi);rw[List.Nodup,List.pairwise_map,aic];intro a b ha gX sl he;have h2:en[a]?=some en.toList[a]:=by rw[←agR];exact AS ha
  have h3:en[b]?=some en.toList[b]:=by rw[←agR];exact AS gX
  have:=(hb b _ h3).2 a _ h2 he;omega
 simp only[Instr.entry,getObj,Sem.run_bind,Sem.run,hg,hm,Result.andThen,hs,aiH,AT,Xq,hf];rfl
end
section
variable {R:Type} {E:Env}
variable{g:Nat→Option R}{r:R}
theorem LA{n:Nat}(h:rq n g=some r)(i:Nat)(hi:i<n):g i=some r:=by
 unfold rq at h;split at h
 ·rename_i hh;simp only[AI]at h;subst h;exact Classical.choose_spec hh i hi
 ·cases h
theorem CU{n:Nat}(h0:0<n)(h:∀i,i<n→g i=some r):rq n g=some r:=by unfold rq;have hh:∃r,∀i,i<n→g i=some r:=⟨r,h⟩;rw[aj1 hh];have:=Classical.choose_spec hh 0 h0;rw[h 0 h0]at this;exact this.symm
variable{k:V→Fr→Mem→Option R}
theorem QV{site:Nat}{t:TypeId}{x:V}{f:Fr}{m:Mem}(h:Lc E site t x f m k=some r):∃f' m',k (.it site) f' m'=some r∧(m' site).isSome=true∧∀(G:Nat→Option (List PV))(w0:bu)(μ:Ro)(φ:Nat→aA)(w:World)(ρ:Nat→Value)(y:Value),aw E.P G w0 μ φ m w→bX E.P μ φ m f ρ→ae E.P μ φ x y→∃w' y' μ' φ',(Instr.range t y).run E.P w=.ok y' w'∧aw E.P G w0 μ' φ' m' w'∧bX E.P μ' φ' m' f' ρ∧ae E.P μ' φ' (.it site) y':=by
 unfold Lc at h;split at h
 ·rename_i kt et hu;split at h
  ·rename_i id;split at h
   ·rename_i uz es hm;split at h
    ·obtain⟨f',m',hn,qd,uE,xj,uA⟩:=dX h;refine⟨f',m',qd,by simp[uE],fun G w0 μ φ w ρ y hM hF hx=>?_⟩;obtain⟨g,en,clock,kk,hg,hh,hs,Bd,Pk,wx,hv⟩:=hM.du id _ hm;obtain⟨o1,o2⟩:=hM.own id _ g hm (.inl hg);cases hx with
     |om cv=>
      rw[hg]at cv;simp only[AI]at cv;subst cv;have tx:=hM.forget id;have hM2:=tx.abi o1 (fun j b hj e=>by obtain⟨cL,b',gX,rfl⟩:=fk hj;exact cL (hM.inj j id b' _ g gX hm (fU.1 e) (.inl hg)));have Fx:=lr tx (some g);have BK:bX E.P (oV μ w (some g)) φ (bl (bB id m) id) (eL id f) ρ:=(hF.forget id).mono Fx fun j hj=>⟨rfl,hj⟩;have jI:∀φ':Nat→aA,φ' site=(BI (some w.heap.size) 0 0 0)→(∀j,(bF.iter t es none).names j=true→φ' j=φ j)→gm E.P (oV μ w (some g)) φ' (w.alloc (.mapIter (some g) clock #[] clock)) site (.iter t es none):=fun φ' hp _=>by
       refine⟨w.heap.size,g,en,clock,#[],by rw[hp],fp w _,by simp[oV,hh],wx,(by rw[Fv,ahV,hs]),fun i k v e h1 h2=>?_,fun k v h=>by cases h⟩;have V9:en[i]?=some e:=by rw[←agR,←Fv en];exact h2
       exact⟨(hv i k v e h1 V9).1.mono Fx,(hv i k v e h1 V9).2.mono Fx⟩
      obtain⟨φ',a1,a2,a3⟩:=uA E.P G w0 _ φ w (w.alloc (.mapIter (some g) clock #[] clock)) ρ (BI (some w.heap.size) 0 0 0) hM2 BK (kq.alloc (o:=.mapIter (some g) clock #[] clock) hM2 rfl jI (by simp[bF.names]));exact⟨_,_,_,φ',run_range_map w t kt et g en clock hu hh,a2,a3,.it (by rw[a1])⟩
    ·cases h
   ·cases h
  ·cases h
 ·cases h
theorem y4{A:Type}{l:List A}{i j:Nat}{x:A}(h:(l.eraseIdx i)[j]?=some x):l[if j<i then j else j+1]?=some x:=by
 rw[ajx]at h;split at h
 ·rename_i bS;rw[BY bS];exact h
 ·rename_i bS;rw[IN bS];exact h
theorem S3{x:V}{f:Fr}{m:Mem}(h:Sy E x f m k=some r)(G:Nat→Option (List PV))(w0:bu)(μ:Ro)(φ:Nat→aA)(w:World)(y:Value)(ty:TypeId)(hM:aw E.P G w0 μ φ m w)(hx:ae E.P μ φ x y):∃v m' y' w',k v f m'=some r∧(∀id,v.has id=false)∧jN m m'∧(Instr.next y false ty).run E.P w=.ok y' w'∧aw E.P G w0 μ φ m' w'∧ae E.P μ φ v y':=by
 unfold Sy at h;split at h
 ·rename_i id;split at h
  ·rename_i t es cur hm;split at h
   ·rename_i kt et hu;obtain⟨g,mg,en,clock,seen,hg,hh,ED,wx,zJ,hv,_⟩:=hM.du id _ hm;obtain⟨o1,o2⟩:=hM.own id _ g hm (.inl hg);cases hx with
    |it cv=>
     rw[hg]at cv;simp only[AI]at cv;subst cv;have hmg:=hM.ro _ _ ED;rcases QU (P:=E.P) hh hmg wx ty with⟨Wa,ow⟩|⟨j,e,w1,hj,Er,ow⟩
     ·have:es=[]:=by rw[Wa]at zJ;exact afl zJ.symm
      subst this;simp only[List.isEmpty_nil,T1]at h;refine⟨_,m,_,w,h,by simp[V.has,ck],jN.refl m,ow,hM,.bn rfl fun i p x hp hx=>?_⟩;cases i with
      |zero=>simp at hp hx;subst hp;subst hx;exact .pv .bool
      |succ i=>simp at hp
     ·have Ad:j<(kH en seen).length:=(HO.1 hj).1;have cL:¬es.isEmpty=true:=by
       have er:0<es.length:=by omega
       intro e';rw[List.isEmpty_iff]at e';rw[e']at er;exact absurd er (ajU 0)
      rw[IN cL]at h;have h:=LA h j (by omega);obtain⟨e0,S4,h⟩:=By.1 h;obtain⟨qa,_,ha,ra,_⟩:=k8 h;obtain⟨qb,_,hb,rb,_⟩:=k8 ha;obtain⟨rk,rv⟩:=hv j e0.1 e0.2 e S4 hj;refine⟨_,_,_,_,hb,by simp[V.has,ck],.set,ow,?_,.bn rfl fun i p x hp hx=>?_⟩
      ·have tx:aw E.P G w0 μ φ m w1:=by rcases Er with rfl|rfl;exact hM;exact hM.drew
       have bS:g<w1.heap.size:=by have:g<w.heap.size:=(YH.1 hh).1;rcases Er with rfl|rfl<;>exact this
       refine tx.write hm rfl hg (Ly w1 g _) World.putObj_size (fun k hk=>World.putObj_heap_other hk) ?_ rfl (by simp[bF.names]);refine⟨g,mg,en,clock,seen.push e.born,hg,World.putObj_heap_same bS,ED,wx,?_,fun i k v e' h1 h2=>?_,fun k v hc=>?_⟩
       ·rw[CT wx hj,aiX,aiX,zJ]
       ·rw[CT wx hj]at h2;exact hv _ k v e' (y4 h1) (y4 h2)
       ·simp only[AI,Xp]at hc;obtain⟨rfl,rfl⟩:=hc;obtain⟨i,hi⟩:=QT (aaQ hj);exact⟨i,e,hi,by simp,ra _ _ _ rk,rb _ _ _ rv⟩
      ·match i with
       |0=>simp at hp hx;subst hp;subst hx;exact .pv .bool
       |1=>simp at hp hx;subst hp;subst hx;exact .pv (ra _ _ _ rk)
       |2=>simp at hp hx;subst hp;subst hx;exact .pv (rb _ _ _ rv)
       |i+3=>simp at hp
   ·cases h
  ·cases h
 ·cases h
theorem QW{x:V}{m:Mem}{k:V→Mem→Option R}(h:Ld x m k=some r)(P:Program)(G:Nat→Option (List PV))(w0:bu)(μ:Ro)(φ:Nat→aA)(w:World)(y:Value)(hM:aw P G w0 μ φ m w)(hx:ae P μ φ x y):∃v m' y',k v m'=some r∧(∀id,v.has id=false)∧jN m m'∧(Instr.entry y).run P w=.ok y' w∧aw P G w0 μ φ m' w∧ae P μ φ v y':=by
 unfold Ld at h;split at h
 ·rename_i id;split at h
  ·rename_i t es a b hm;obtain⟨g,mg,en,clock,seen,hg,hh,ED,wx,zJ,hv,hcu⟩:=hM.du id _ hm;obtain⟨i,e,hi,hs,ra,rb⟩:=hcu a b rfl;cases hx with
   |it cv=>
    rw[hg]at cv;simp only[AI]at cv;subst cv;refine⟨_,_,_,h,by simp[V.has,ck],.set,Lz hh (hM.ro _ _ ED) wx hi hs,?_,.bn rfl fun i p x hp hx=>?_⟩
    ·exact hM.write hm rfl hg (kv.refl _ _) rfl (fun _ _=>rfl) ⟨g,mg,en,clock,seen,hg,hh,ED,wx,zJ,hv,fun k v h=>by cases h⟩ rfl (by simp[bF.names])
    match i with
    |0=>simp at hp hx;subst hp;subst hx;exact .pv ra
    |1=>simp at hp hx;subst hp;subst hx;exact .pv rb
    |i+2=>simp at hp
  ·cases h
 ·cases h
end
section
variable {P:Program} {G:Nat→Option (List PV)} {w0:bu} {μ μ':Ro} {φ φ':Nat→aA} {m m':Mem} {w w':World}
variable{id j:Nat}{b:bF}
theorem hU(h:eQ id m j=some b):∃b',m j=some b'∧b=dI id b':=by
 unfold eQ at h;cases hm:m j with
 |none=>rw[hm]at h;cases h
 |some b'=>rw[hm]at h;simp only[AI]at h;exact⟨b',rfl,h.symm⟩
theorem nJ:(eQ id m j).isSome=(m j).isSome:=by unfold eQ;cases m j<;>rfl
theorem Bh(id:Nat)(b:bF):(dI id b).rowAt=b.rowAt:=by cases b<;>rfl
theorem qf{p:aA}{g:Nat}:(dI id b).dU p g↔b.dU p g:=by unfold bF.dU;rw[Bh]
theorem uU{p:aA}:(dI id b).apart p↔b.apart p:=by unfold bF.apart;rw[Bh]
theorem xO(id:Nat)(b:bF):(dI id b).jg=b.jg:=by cases b<;>rfl
theorem LB{cs:List V}(h:ck j (cs.map (mX id))=true):ck j cs=true:=by obtain⟨v,hv,hh⟩:=cF.1 h;obtain⟨u,hu,rfl⟩:=agZ.1 hv;exact bI hu (wz hh).1
theorem gm.w9{id j:Nat}{b:bF}(h:gm P μ φ w j b):gm P μ φ w j (dI id b):=by
 cases b with
 |box cs=>obtain⟨g,c,T,hg,hh,hs,hv,h1,zJ⟩:=h;refine⟨g,c,T,hg,hh,by simpa using hs,fun i v x hi hx=>?_,h1,by simpa using zJ⟩;simp only[IS,aaO]at hi;obtain⟨u,hu,rfl⟩:=hi;exact(hv i u x hu hx).w9 id
 |_=>exact h
theorem aw.tB(hM:aw P G w0 μ φ m w)(id:Nat):aw P G w0 μ φ (eQ id m) w:=by
 refine⟨hM.below,hM.ro,hM.aH,fun j b h=>?_,fun j b g h hg=>?_,fun i j b1 b2 g h1 h2 g1 g2=>?_,fun j b h=>?_,fun j cs i h hh=>?_,hM.base,hM.dx,fun j st h=>?_⟩
 ·obtain⟨b',hb,rfl⟩:=hU h;exact(hM.du j b' hb).w9
 ·obtain⟨b',hb,rfl⟩:=hU h;rw[xO];exact hM.own j b' g hb (qf.1 hg)
 ·obtain⟨b1',XR,rfl⟩:=hU h1;obtain⟨b2',tf,rfl⟩:=hU h2;exact hM.inj i j b1' b2' g XR tf (qf.1 g1) (qf.1 g2)
 ·obtain⟨b',hb,rfl⟩:=hU h;exact uU.2 (hM.apart j b' hb)
 ·obtain⟨b',hb,e⟩:=hU h;cases b' with
  |box Ll=>simp only[dI,bF.box.injEq]at e;subst e;rw[nJ];exact hM.fy j Ll i hb (LB hh)
  |_=>simp[dI]at e
 ·obtain⟨b',hb,e⟩:=hU h;cases b' with
  |loop st'=>simp only[dI,bF.loop.injEq]at e;subst e;exact hM.A5 j st hb
  |_=>simp[dI]at e
variable{ρ:Nat→Value}
theorem bX.tB{f:Fr}(h:bX P μ φ m f ρ)(id:Nat):bX P μ φ (eQ id m) (gG id f) ρ:=⟨fun t=>(h.fr t).w9 id,fun t j hj=>by rw[nJ];exact h.live t j (wz hj).1⟩
theorem aw.km:∀{kl:Kl}{m:Mem},aw P G w0 μ φ m w→aw P G w0 μ φ (Go.Ab.km kl m) w
 |[],_,h=>h
 |(true,id)::r,m,h=>(aw.km (kl:=r) (m:=bl (bB id m) id) (h.forget id):)
 |(false,id)::r,m,h=>(aw.km (kl:=r) (m:=eQ id m) (h.tB id):)
theorem bX.km{ρ:Nat→Value}:∀{kl:Kl}{m:Mem}{f:Fr},bX P μ φ m f ρ→bX P μ φ (Go.Ab.km kl m) (kf kl f) ρ
 |[],_,_,h=>h
 |(true,id)::r,m,f,h=>(bX.km (kl:=r) (m:=bl (bB id m) id) (f:=eL id f) (h.forget id):)
 |(false,id)::r,m,f,h=>(bX.km (kl:=r) (m:=eQ id m) (f:=gG id f) (h.tB id):)
theorem aw.Pu(hM:aw P G w0 μ φ m w)(nw:Nat→Nat→Nat)(hblk:∀j b',m' j=some b'→gm P μ φ' w j b')(xK:∀j b' g,m' j=some b'→b'.dU (φ' j) g→∃k b,m k=some b∧b.dU (φ k) g∧(b'.jg=true→b.jg=true)∧j=nw g k)(Ep:∀j b',m' j=some b'→b'.apart (φ' j))(A4:∀j cs id,m' j=some (.box cs)→ck id cs=true→(m' id).isSome=true)(aeu:∀j st,m' j=some (.loop st)→m j=some (.loop st)∧(φ' j).g=(φ j).g):aw P G w0 μ φ' m' w:=by
 refine⟨hM.below,hM.ro,hM.aH,hblk,fun j b' g h hg=>?_,fun i j b1 b2 g h1 h2 g1 g2=>?_,Ep,A4,hM.base,hM.dx,fun j st h=>?_⟩
 ·obtain⟨k,b,hk,ho,ED,_⟩:=xK j b' g h hg;obtain⟨o1,o2⟩:=hM.own k b g hk ho;exact⟨o1,fun h=>o2 (ED h)⟩
 ·obtain⟨k1,c1,QX,ho1,_,e1⟩:=xK i b1 g h1 g1;obtain⟨k2,c2,Wb,ho2,_,e2⟩:=xK j b2 g h2 g2;rw[e1,e2,hM.inj k1 k2 c1 c2 g QX Wb ho1 ho2]
 ·obtain⟨h1,h2⟩:=aeu j st h;obtain⟨g,rc,r1,r2,r3⟩:=hM.A5 j st h1;exact⟨g,rc,by rw[h2];exact r1,r2,r3⟩
def j9(p:aA)(i off:Nat)(r:A6):aA:={p with row:=fun a b=>if a=i∧b=off then r else p.row a b}
theorem gb(p:aA)(i off:Nat)(r:A6):(j9 p i off r).row i off=r:=by simp[j9]
theorem gn(p:aA){i off a b:Nat}(r:A6)(h:¬(a=i∧b=off)):(j9 p i off r).row a b=p.row a b:=by simp[j9,h]
theorem gm.Pv(h:gm P μ φ w j (dI id b))(hj:j≠id)(h0:(φ' id).toA6=(φ id).toA6)(hφ:∀k,k≠id→φ' k=φ k):gm P μ φ' w j (dI id b):=by
 have e:=hφ j hj;cases b with
 |box cs=>
  obtain⟨g,c,T,hg,hh,hs,hv,h1,zJ⟩:=h;refine⟨g,c,T,by rw[e];exact hg,hh,hs,fun i v x hi hx=>?_,h1,by rw[e];exact zJ⟩;refine(hv i v x hi hx).XM (fun _ _ h=>h) fun k hk=>?_;by_cases Wc:k=id
  ·subst Wc;refine⟨h0,fun h2=>?_⟩;simp only[IS,aaO]at hi;obtain⟨u,hu,rfl⟩:=hi;rw[(wz hk).2]at h2;cases h2
  ·rw[hφ k Wc];exact⟨rfl,fun _=>rfl⟩
 |arr sz et es=>exact gm.cr h (fun k hk=>by simp[bF.names,dI]at hk) e (fun _ _ h=>h) (fun _ _=>rfl)
 |pt sz et es=>exact gm.cr h (fun k hk=>by simp[bF.names,dI]at hk) e (fun _ _ h=>h) (fun _ _=>rfl)
 |map kt es=>exact gm.cr h (fun k hk=>by simp[bF.names,dI]at hk) e (fun _ _ h=>h) (fun _ _=>rfl)
 |nest sz et es=>exact gm.cr h (fun k hk=>by simp[bF.names,dI]at hk) e (fun _ _ h=>h) (fun _ _=>rfl)
 |eY kt e0 es=>exact gm.cr h (fun k hk=>by simp[bF.names,dI]at hk) e (fun _ _ h=>h) (fun _ _=>rfl)
 |loop st=>exact gm.cr h (fun k hk=>by simp[bF.names,dI]at hk) e (fun _ _ h=>h) (fun _ _=>rfl)
 |iter t es cur=>exact gm.cr h (fun k hk=>by simp[bF.names,dI]at hk) e (fun _ _ h=>h) (fun _ _=>rfl)
theorem bX.XZ{f:Fr}(h:bX P μ φ m (gG id f) ρ)(h0:(φ' id).toA6=(φ id).toA6)(hφ:∀k,k≠id→φ' k=φ k)(hl:∀j,(m j).isSome=true→(m' j).isSome=true):bX P μ φ' m' (gG id f) ρ:=by
 refine⟨fun t=>(h.fr t).XM (fun _ _ h=>h) fun k hk=>?_,fun t j hj=>hl j (h.live t j hj)⟩;by_cases Wc:k=id
 ·subst Wc;refine⟨h0,fun h2=>?_⟩;have:=(wz (show(mX k (f t)).has k=true from hk)).2;rw[show gG k f t=mX k (f t)from rfl,this]at h2;cases h2
 ·rw[hφ k Wc];exact⟨rfl,fun _=>rfl⟩
theorem fl{id2:Nat}{b':bF}(h:al (eQ id (bl (bB id2 m) id2)) id b j=some b'):(j=id∧b'=b)∨(j≠id∧j≠id2∧∃c,m j=some c∧b'=dI id (fZ id2 c)):=by
 by_cases e:j=id
 ·subst e;rw[bm]at h;simp only[AI]at h;exact .inl ⟨rfl,h.symm⟩
 ·rw[ao e]at h;obtain⟨c1,h1,rfl⟩:=hU h;obtain⟨cL,c,hc,rfl⟩:=fk h1;exact .inr ⟨e,cL,c,hc,rfl⟩
theorem LC{x:Value}(h:ae P μ φ (.os id) x):ae P μ (fun _=>((φ id).toA6).up) (.os 0) x:=by
 cases h with
 |q6 h=>exact .q6 h
 |os h=>exact .os (id:=0) (φ:=fun _=>((φ id).toA6).up) h
theorem aK.up{sz:Nat}{et:TypeId}{es:List PV}(h:aK P μ φ w id sz et es):aK P μ (fun _=>((φ id).toA6).up) w 0 sz et es:=h
theorem aw.Zq(hM:aw P G w0 μ φ m w){id2 i off s s2:Nat}{et ID:TypeId}{es rs:List PV}{e q:PV}{x:Value}(cL:id2≠id)(hm:m id=some (.nest s et es))(cQ:m id2=some (.arr s2 ID rs))(he:es[i]?=some e)(xh:e.cells[off]?=some .bad)(hx:∀g c T,(φ id).g=some g→w.heap[g]?=some (.cells c T (0,0))→c[i*s+off]?=some x)(hv:ae P μ φ (.os id2) x)(hq:q.cells=e.cells.set off (.pd s2 rs)):aw P G w0 μ (fun j=>if j=id then j9 (φ id) i off (φ id2).toA6 else φ j) (al (eQ id (bl (bB id2 m) id2)) id (.nest s et (es.set i q))) w:=by
 have tx:=(hM.forget id2).tB id;have hN:aX P μ φ w id s et es:=hM.du id _ hm;have Zo:aK P μ φ w id2 s2 ID rs:=hM.du id2 _ cQ;have Zp:i<es.length:=(HO.1 he).1;have hol:off<e.cells.length:=(HO.1 xh).1;have kx:∀a b,(bF.nest s et (es.set i q)).rowAt a b=true→(a=i∧b=off)∨((bF.nest s et es).rowAt a b=true∧¬(a=i∧b=off)):=by
  intro a b hr;by_cases sl:a=i∧b=off
  ·exact .inl sl
  ·refine .inr ⟨?_,sl⟩;rcases jM hr with⟨_,_,_,e',s',rs',gX,h',sD⟩|⟨_,_,_,_,_,_,gX,_⟩
   ·simp only[bF.nest.injEq]at gX;obtain⟨rfl,rfl,rfl⟩:=gX;rcases eM h' with⟨rfl,rfl⟩|⟨Vz,h'⟩
    ·rw[hq]at sD;rcases eM sD with⟨rfl,_⟩|⟨hnj,sD⟩
     ·exact absurd ⟨rfl,rfl⟩ sl
     ·rw[dq he sD];rfl
    ·rw[dq h' sD];rfl
   ·cases gX
 refine hM.Pu (fun _ k=>if k=id2 then id else k) (fun j b' hj=>?_) (fun j b' g hj ho=>?_) (fun j b' hj=>?_) (fun j cs k hj hk=>?_) (fun j st hj=>?_)
 ·rcases fl hj with⟨rfl,rfl⟩|⟨h1,h2,c,hc,rfl⟩
  ·show aX P μ (fun k=>if k=j then j9 (φ j) i off (φ id2).toA6 else φ k) w j s et (es.set i q);refine aX.change (μ':=μ) (w':=w) (es':=es.set i q) hN (by simp) (fun i' e' h'=>?_) (by simp[j9]) (fun _ _=>rfl) (fun i' e' j' p' g c T x' h' sD hg hc Pr hold=>?_)
   ·rcases eM h' with⟨_,rfl⟩|⟨_,h'⟩
    ·rw[hq,aiF];exact hN.2.2.2.2.1 i e he
    ·exact hN.2.2.2.2.1 i' e' h'
   ·simp only[T1];by_cases sl:i'=i∧j'=off
    ·obtain⟨rfl,rfl⟩:=sl;rw[gb];have e1:e'=q:=by
      rcases eM h' with⟨_,h⟩|⟨h,_⟩
      ·exact h
      ·exact absurd rfl h
     subst e1;rw[hq]at sD;have e2:p'=.pd s2 rs:=by
      rcases eM sD with⟨_,h⟩|⟨h,_⟩
      ·exact h
      ·exact absurd rfl h
     subst e2;have e3:x'=x:=by have:=hx g c _ hg hc;rw[Pr]at this;simpa using this
     subst e3;exact⟨⟨ID,Zo.up⟩,LC hv⟩
    ·rw[gn _ _ sl];rcases eM h' with⟨rfl,rfl⟩|⟨Vz,h'⟩
     ·rw[hq]at sD;rcases eM sD with⟨rfl,_⟩|⟨hnj,sD⟩
      ·exact absurd ⟨rfl,rfl⟩ sl
      ·exact hold e p' he sD
     ·exact hold e' p' h' sD
  ·have hb:gm P μ φ w j (dI id (fZ id2 c)):=(hM.du j c hc).kill.w9;exact hb.Pv h1 (by simp[j9]) fun k hk=>by simp[hk]
 ·rcases fl hj with⟨rfl,rfl⟩|⟨h1,h2,c,hc,rfl⟩
  ·simp only[T1]at ho;rcases ho with ho|⟨a,b,hr,ho⟩
   ·exact⟨j,_,hm,.inl ho,fun _=>rfl,by simp[cL.symm]⟩
   ·rcases kx a b hr with⟨rfl,rfl⟩|⟨yK,sl⟩
    ·rw[gb]at ho;exact⟨id2,_,cQ,.inl ho,fun _=>rfl,by simp⟩
    ·rw[gn _ _ sl]at ho;exact⟨j,_,hm,.inr ⟨a,b,yK,ho⟩,fun _=>rfl,by simp[cL.symm]⟩
  ·simp only[h1,Xq]at ho;exact⟨j,c,hc,fU.1 (qf.1 ho),fun h=>by rw[xO,wF]at h;exact h,by simp[h2]⟩
 ·rcases fl hj with⟨rfl,rfl⟩|⟨h1,h2,c,hc,rfl⟩
  ·simp only[T1];have Ep:=hM.apart j _ hm;have new:∀g,(φ id2).g=some g→¬(bF.nest s et es).dU (φ j) g:=fun g hg ho=>cL (hM.inj id2 j _ _ g cQ hm (.inl hg) ho);intro a b g hr hg;rcases kx a b hr with⟨rfl,rfl⟩|⟨yK,sl⟩
   ·rw[gb]at hg;refine⟨fun h=>new g hg (.inl h),fun a' b' LD LF=>?_⟩;rcases kx a' b' LD with h|⟨Wd,LG⟩
    ·exact h
    ·rw[gn _ _ LG]at LF;exact absurd (.inr ⟨a',b',Wd,LF⟩) (new g hg)
   ·rw[gn _ _ sl]at hg;obtain⟨h3,h4⟩:=Ep a b g yK hg;refine⟨h3,fun a' b' LD LF=>?_⟩;rcases kx a' b' LD with⟨rfl,rfl⟩|⟨Wd,LG⟩
    ·rw[gb]at LF;exact absurd (.inr ⟨a,b,yK,hg⟩) (new g LF)
    ·rw[gn _ _ LG]at LF;exact h4 a' b' Wd LF
  ·simp only[h1,Xq];exact uU.2 (tw.2 (hM.apart j c hc))
 ·rcases fl hj with⟨rfl,hb⟩|⟨h1,h2,c,hc,hb⟩
  ·cases hb
  ·have H7:eQ id (bl (bB id2 m) id2) j=some (.box cs):=by rw[ao h1]at hj;exact hj
   have:=tx.fy j cs k H7 hk;by_cases e:k=id
   ·subst e;simp
   ·rw[ao e];exact this
 ·rcases fl hj with⟨rfl,hb⟩|⟨h1,h2,c,hc,hb⟩
  ·cases hb
  ·cases c<;>first|(simp[dI,fZ]at hb;done)|skip
   simp only[dI,fZ,bF.loop.injEq]at hb;subst hb;exact⟨hc,by simp[h1]⟩
end
def lv(k:PV):List (PV×PV)→Option Nat
 |[]=>none
 |(a,_)::r=>if dF k.cells a.cells then some 0 else(lv k r).map (·+1)
def jh(es:List (PV×PV)):List (PV×PV):=es.map fun x=>(x.1,.bad)
theorem CV(k:PV):∀es,lv k (jh es)=lv k es
 |[]=>rfl
 |(a,u)::r=>by simp only[jh,agP,lv];rw[←CV k r];rfl
theorem B5{k:PV}:∀{es:List (PV×PV)}{j:Nat},lv k es=some j→∃a u,es[j]?=some (a,u)∧dF k.cells a.cells=true
 |(a,u)::r,j,h=>by
  simp only[lv]at h;split at h
  ·rename_i hp;simp only[AI]at h;subst h;exact⟨a,u,rfl,hp⟩
  ·obtain⟨i,hi,rfl⟩:=aaO.1 h;simpa using B5 hi
theorem l5(k v:PV):∀es,eG k v es=match lv k es with|some j=>es.set j (k,v)|none=>es++[(k,v)]
 |[]=>rfl
 |(a,u)::r=>by
  simp only[eG,lv];split
  ·rfl
  ·rw[l5 k v r];cases lv k r<;>rfl
theorem sF(k:PV):∀es,ri k es=match lv k es with|some j=>es.modify j fun x=>(x.1,.bad)|none=>es
 |[]=>rfl
 |(a,u)::r=>by
  simp only[ri,lv];split
  ·rfl
  ·rw[sF k r];cases lv k r<;>simp
theorem IE(sz:Nat)(k:PV):∀es,Ia sz k es=match lv k es with|some j=>(es[j]?).bind fun x=>eK sz x.2|none=>some []
 |[]=>rfl
 |(a,u)::r=>by
  simp only[Ia,lv];split
  ·simp
  ·rw[IE sz k r];cases lv k r<;>simp
theorem Fy{k z:PV}{l:List (PV×PV)}{es:List MapEntry}{i:Nat}{r:Option (Nat×Value)}(h:Found k .o9 z (jh l) es i r):(r=none∧lv k l=none)∨∃j e,r=some (i+j,e.val)∧es[j]?=some e∧lv k l=some j:=by
 cases h with
 |none h1 h2 h3=>
  refine .inl ⟨rfl,?_⟩;rw[l5]at h3;rw[←CV];cases hp:lv k (jh l)with
  |none=>rfl
  |some j=>rw[hp]at h3;have:=congrArg List.length h3;simp at this
 | @some j a u e h1 h2 h3 h4 h5 h6=>
  refine .inr ⟨j,e,rfl,h2,?_⟩;rw[l5]at h6;rw[←CV];have bS:j<(jh l).length:=(HO.1 h1).1;cases hp:lv k (jh l)with
  |none=>rw[hp]at h6;have:=congrArg List.length h6;simp at this
  |some j'=>
   rw[hp]at h6;simp only at h6;obtain⟨a',u',H7,_⟩:=B5 hp;have aev:j'<(jh l).length:=(HO.1 H7).1;have e1:((jh l).set j (k,.o9))[j']?=some (k,.o9):=by rw[←h6];simp[aev]
   rw[ahb]at e1;split at e1
   ·rename_i h;rw[h]
   ·exfalso;simp only[jh,IS,aaO]at e1;obtain⟨x,_,hx⟩:=e1;simp at hx
section
variable {P:Program} {G:Nat→Option (List PV)} {w0:bu} {μ μ':Ro} {φ φ':Nat→aA} {m m':Mem} {w w':World}
def CW(P:Program)(μ:Ro)(R:A6)(w:World)(e0:TypeId)(v:PV)(x:Value):Prop:=match v with
 |.pd s rs=>aK P μ (fun _=>R.up) w 0 s e0 rs∧ae P μ (fun _=>R.up) (.os 0) x
 |v=>af P μ v x
variable{e0:TypeId}
theorem CW.pure{R:A6}{v:PV}{x:Value}(h:af P μ v x):CW P μ R w e0 v x:=by
 unfold CW;split
 ·cases h
 ·exact h
structure LH(P:Program)(μ:Ro)(p:aA)(w:World)(kt e0:TypeId)(es:List (PV×PV))(g:Nat)(en:Array MapEntry)(clock:Nat)(kk:List Kd):Prop where
 pl:p.g=some g
 heap:w.heap[g]?=some (.map en clock)
 size:en.size=es.length
 zI:rj P kt=some kk
 key:∀(i:Nat)k v,es[i]?=some (k,v)→uh P kt kk k=true
 born:lq en clock
 rep:∀(i:Nat)k v e,es[i]?=some (k,v)→en[i]?=some e→af P μ k e.key∧CW P μ (p.row i 0) w e0 v e.val
variable{kt:TypeId}{es:List (PV×PV)}
theorem sG{id:Nat}:gm P μ φ w id (.eY kt e0 es)↔∃g en clock kk,LH P μ (φ id) w kt e0 es g en clock kk:=by
 constructor
 ·rintro⟨g,en,clock,kk,h1,h2,h3,h4,h5,h6,h7⟩;exact⟨g,en,clock,kk,h1,h2,h3,h4,h5,h6,fun i k v e a b=>h7 i k v e a b⟩
 ·rintro⟨g,en,clock,kk,h1,h2,h3,h4,h5,h6,h7⟩;exact⟨g,en,clock,kk,h1,h2,h3,h4,h5,h6,fun i k v e a b=>h7 i k v e a b⟩
variable{en:Array MapEntry}
theorem LH.ent{p:aA}{g:Nat}{clock:Nat}{kk:List Kd}(h:LH P μ p w kt e0 es g en clock kk):uS P μ kt kk (jh es) en.toList:=by
 refine⟨by simp[jh,h.size],fun i k v hi=>?_,fun i k v e hi he=>?_⟩
 ·simp only[jh,IS,aaO]at hi;obtain⟨⟨a,u⟩,hq,hx⟩:=hi;simp only[Xp]at hx;obtain⟨rfl,rfl⟩:=hx;exact h.key i a u hq
 ·simp only[jh,IS,aaO]at hi;obtain⟨⟨a,u⟩,hq,hx⟩:=hi;simp only[Xp]at hx;obtain⟨rfl,rfl⟩:=hx;exact⟨(h.rep i a u e hq (by simpa using he)).1,.bad⟩
theorem CX{t et:TypeId}{ks:List Kd}{key:PV}{zv yi:Value}{g clock:Nat}{l:List (PV×PV)}(hu:P.underlying t=some (.map kt et))(hk:rj P kt=some ks)(wS:uh P kt ks key=true)(hyi:af P μ key yi)(hg:w.heap[g]?=some (.map en clock))(hE:uS P μ kt ks (jh l) en.toList)(hz:(zeroValue et).run P w=.ok zv w):(lv key l=none∧(Instr.lookup t (.map (some g)) yi false).run P w=.ok zv w)∨∃j e,lv key l=some j∧en[j]?=some e∧(Instr.lookup t (.map (some g)) yi false).run P w=.ok e.val w:=by
 have QQ:=wH hk;obtain⟨hc,hv⟩:=lL wS hyi;obtain⟨r,r1,r2⟩:=lb (v:=.o9) (z:=.bad) QQ hc w hE;have h1:=gJ 8 kt ks QQ 9992 w en.isEmpty key.cells hc;have EE:=Go.MapKept.run_getObj_map (P:=P) hg;have VA:(Instr.checkKey en.isEmpty 10000 kt (eD P kt key.cells)).run P w=.ok () w:=h1;rw[hv];unfold Instr.lookup;simp only[Sem.run_bind,run_underlying hu,Result.andThen_ok,Sem.run_pure,EE];rcases Fy r2 with⟨rfl,h⟩|⟨j,e,rfl,he,h⟩
 ·exact .inl ⟨h,by simp[VA,r1,hz]⟩
 ·exact .inr ⟨j,e,h,by simpa using he,by simp[VA,r1]⟩
end
section
variable {R:Type} {E:Env}
theorem LI{t:TypeId}(h:zeroV E.P t=some .gF)(w:World):(zeroValue t).run E.P w=.ok (.slice none 0 0) w:=by unfold zeroV at h;obtain⟨c,hc,h⟩:=aaO.1 h;obtain⟨i,hi,hz⟩:=By.1 hc;have:=sx (P:=E.P) (μ:=fun _=>none) (φ:=fun _=>default) c;rw[h]at this;cases this;exact nI hi hz
theorem S5{site:Nat}{t:TypeId}{x ix:V}{m:Mem}{k:V→Mem→bp→Option R}{r:R}(h:Ig E site t x ix m k=some r):∃id b1 b2 m',m'=sj [(id,b1),(site,b2)] m∧k (.os site) m' [(true,id),(true,site)]=some r∧m site=none∧b2.names=(fun _=>false)∧b1.names=(fun _=>false)∧(m id).isSome=true∧(∀m2:Mem,m2 id=m id→m2 site=none→∀(R':Type)(k':V→Mem→bp→Option R'),Ig E site t x ix m2 k'=k' (.os site) (sj [(id,b1),(site,b2)] m2) [(true,id),(true,site)])∧∀(G:Nat→Option (List PV))(w0:bu)(μ:Ro)(φ:Nat→aA)(w:World)(f:Fr)(ρ:Nat→Value)(y yi:Value),aw E.P G w0 μ φ m w→bX E.P μ φ m f ρ→ae E.P μ φ x y→ae E.P μ φ ix yi→∃u φ',(Instr.lookup t y yi false).run E.P w=.ok u w∧aw E.P G w0 μ φ' m' w∧bX E.P μ φ' m' f ρ∧ae E.P μ φ' (.os site) u:=by
 unfold Ig at h;split at h
 ·rename_i kt et hu;split at h
  ·rename_i e hue;split at h
   ·rename_i id hz;split at h
    ·rename_i uz e' es hm hs;split at h
     ·rename_i hc;obtain⟨rfl,rfl,er⟩:=hc;obtain⟨key,wS,h⟩:=By.1 h;obtain⟨rs,Zr,h⟩:=By.1 h;obtain⟨ks,k1,k2,k3⟩:=sE wS;have cL:site≠id:=fun e=>by subst e;rw[hs]at hm;cases hm
      refine⟨id,.eY uz e' (ri key es),.arr (aR E.P e') e' rs,_,rfl,h,hs,rfl,rfl,by rw[hm];rfl,fun m2 h1 h2 R' k'=>?_,fun G w0 μ φ w f ρ y yi hM hF hx hi=>?_⟩
      ·simp only[Ig,hu,hue,hz,h1,h2,hm,wS,Zr,agO,er,and_self,T1];rfl
      ·obtain⟨g,en,clock,kk,hN⟩:=sG.1 (hM.du id _ hm);have Bd:=hN.zI;rw[k1]at Bd;simp only[AI]at Bd;subst Bd;cases hx with
       |om cv=>
        rw[hN.pl]at cv;simp only[AI]at cv;subst cv;have S6:=CX hu k1 k2 (k3 μ φ yi hi) hN.heap hN.ent (LI hz w);have We:∀i off,(bF.eY uz e' (ri key es)).rowAt i off=true→(bF.eY uz e' es).rowAt i off=true∧lv key es≠some i:=by
         intro i off hr;rcases jM hr with⟨_,_,_,_,_,_,hb,_⟩|⟨_,_,_,k0,s0,rs0,hb,rfl,he⟩
         ·cases hb
         ·simp only[bF.eY.injEq]at hb;obtain⟨rfl,rfl,rfl⟩:=hb;rw[sF]at he;cases hp:lv key es with
          |none=>rw[hp]at he;simp only at he;exact⟨by rw[jL he];rfl,by simp⟩
          |some j=>
           rw[hp]at he;simp only[aiU]at he;split at he
           ·rename_i QY;exfalso;obtain⟨x0,_,Lp⟩:=aaO.1 he;simp at Lp
           ·rename_i QY;have he:es[i]?=some (k0,PV.pd s0 rs0):=by simpa using he
            exact⟨by rw[jL he];rfl,fun h=>QY (by simpa using h)⟩
        have tx:aw E.P G w0 μ φ (al m id (.eY uz e' (ri key es))) w:=by
         refine hM.write hm rfl hN.pl (kv.refl _ _) rfl (fun _ _=>rfl) (sG.2 ⟨g,en,clock,ks,hN.pl,hN.heap,?_,k1,fun i k0 v0 h0=>?_,hN.born,fun i k0 v0 e0 h0 S4=>?_⟩) rfl (by simp[bF.names]) (fun st h=>by cases h) (fun i off hr=>(We i off hr).1)
         ·rw[hN.size,sF];cases lv key es<;>simp
         ·rw[sF]at h0;cases hp:lv key es with
          |none=>rw[hp]at h0;exact hN.key i k0 v0 h0
          |some j=>
           rw[hp]at h0;simp only[aiU]at h0;obtain⟨x0,Lp,hq⟩:=aaO.1 h0;obtain⟨xa,xu⟩:=x0;split at hq
           ·simp only[Xp]at hq;rw[←hq.1];exact hN.key i xa xu Lp
           ·simp only[id_eq,Xp]at hq;rw[←hq.1];exact hN.key i xa xu Lp
         ·rw[sF]at h0;cases hp:lv key es with
          |none=>rw[hp]at h0;exact hN.rep i k0 v0 e0 h0 S4
          |some j=>
           rw[hp]at h0;simp only[aiU]at h0;obtain⟨x0,Lp,hq⟩:=aaO.1 h0;obtain⟨xa,xu⟩:=x0;obtain⟨q1,q2⟩:=hN.rep i xa xu e0 Lp S4;split at hq
           ·simp only[Xp]at hq;obtain⟨rfl,rfl⟩:=hq;exact⟨q1,.pure .bad⟩
           ·simp only[id_eq,Xp]at hq;obtain⟨rfl,rfl⟩:=hq;exact⟨q1,q2⟩
        have abk:∀(ph:aA)(u:Value),aK E.P μ (fun _=>ph) w 0 (aR E.P e') e' rs→ae E.P μ (fun _=>ph) (.os 0) u→(∀g',ph.g=some g'→∃j,lv key es=some j∧(bF.eY uz e' es).rowAt j 0=true∧((φ id).row j 0).g=some g')→∃φ',aw E.P G w0 μ φ' (sj [(id,.eY uz e' (ri key es)),(site,.arr (aR E.P e') e' rs)] m) w∧bX E.P μ φ' (sj [(id,.eY uz e' (ri key es)),(site,.arr (aR E.P e') e' rs)] m) f ρ∧ae E.P μ φ' (.os site) u:=by
         intro ph u hA hV EE;have Fh:∀j,(m j).isSome=true→j≠site:=fun j hj e=>by subst e;rw[hs]at hj;cases hj
         refine⟨fun i=>if i=site then ph else φ i,?_,?_,?_⟩
         ·refine tx.put (by rw[ao cL];exact hs) (kv.refl _ _) hM.ro (fun _ _ _ _ _=>rfl) (fun g' cv=>?_) (pV px) ?_ (by simp[bF.names]) (fun st h=>by cases h)
          ·have cv:=nH px cv;obtain⟨j,hj,hr,hjg⟩:=EE g' cv;obtain⟨o1,o2⟩:=hM.own id _ g' hm (.inr ⟨j,0,hr,hjg⟩);refine⟨o1,o2 rfl,fun i b' hi ho=>?_⟩;by_cases Sd:i=id
           ·subst Sd;rw[bm]at hi;simp only[AI]at hi;subst hi;obtain⟨a1,a2⟩:=hM.apart i _ hm j 0 g' hr hjg;rcases ho with ho|⟨i',rH,yK,ho⟩
            ·exact a1 ho
            ·obtain⟨h3,h4⟩:=We i' rH yK;exact h4 (by rw[hj,(a2 i' rH h3 ho).1])
           ·rw[ao Sd]at hi;exact Sd (hM.inj i id _ _ g' hi hm ho (.inr ⟨j,0,hr,hjg⟩))
          ·exact aK.move (φ':=fun i=>if i=site then ph else φ i) (j:=site) hA (by simp) (fun _ _ h=>h)
         ·refine hF.mono (fun _ _ h=>h) fun j hj=>⟨by simp[Fh j hj],?_⟩;show(al (al m id _) site _ j).isSome=true;rw[ao (Fh j hj)];by_cases QY:j=id
          ·subst QY;simp
          ·rw[ao QY];exact hj
         ·cases hV with
          |q6 h=>exact .q6 (by simpa using h)
          | @os _ g0 h=>have:=ae.os (P:=E.P) (μ:=μ) (φ:=fun i=>if i=site then ph else φ i) (id:=site) (g:=g0) (by simpa using h);simpa using this
        rw[IE]at Zr;rcases S6 with⟨hp,ow⟩|⟨j,en0,hp,hen,ow⟩
        ·rw[hp]at Zr;simp only[AI]at Zr;subst Zr;obtain⟨φ',a1,a2,a3⟩:=abk (BI none 0 0 (aR E.P e')) (.slice none 0 0) ⟨rfl,rfl,rfl,er,by simp,by simp[maxLen],⟨rfl,rfl⟩⟩ (.q6 rfl) (fun g' cv=>by cases cv);exact⟨_,φ',ow,a1,a2,a3⟩
        ·rw[hp]at Zr;obtain⟨x0,Lp,kx⟩:=By.1 Zr;obtain⟨xa,xu⟩:=x0;have hxu:=Iu kx;simp only at hxu;subst hxu;obtain⟨_,q2⟩:=hN.rep j xa _ en0 Lp hen;obtain⟨φ',a1,a2,a3⟩:=abk ((φ id).row j 0).up en0.val q2.1 q2.2 (fun g' cv=>⟨j,hp,by rw[jL Lp];rfl,cv⟩);exact⟨_,φ',ow,a1,a2,a3⟩
     ·cases h
    ·cases h
   ·cases h
  ·cases h
 ·cases h
end
theorem CY{m:Mem}:∀{cs:List V}{j0:Nat}{ps:List PV}{tk:Option (Nat×Nat)},kG m j0 cs=some (ps,tk)→ps.length=cs.length∧(tk=none→∀(i:Nat)p,ps[i]?=some p→∃v,cs[i]?=some v∧kn cW 1 v=some p)∧∀j id2,tk=some (j,id2)→∃l s2 ID rs,cs[l]?=some (.os id2)∧m id2=some (.arr s2 ID rs)∧ps[l]?=some (.pd s2 rs)∧∀(i:Nat)p,i≠l→ps[i]?=some p→∃v,cs[i]?=some v∧kn cW 1 v=some p
 |[],j0,ps,tk,h=>by simp only[kG,AI,Xp]at h;obtain⟨rfl,rfl⟩:=h;exact⟨rfl,fun _ i p hp=>by simp at hp,fun j id2 h=>by cases h⟩
 |v::r,j0,ps,tk,h=>by
  have plain:∀{p:PV},kn cW 1 v=some p→(match kG m (j0+1) r with
   |some (ps,t)=>some (p::ps,t)
   |none=>none)=some (ps,tk)→ps.length=(v::r).length∧
   (tk=none→∀(i:Nat)p,ps[i]?=some p→∃u,(v::r)[i]?=some u∧kn cW 1 u=some p)∧
   ∀j id2,tk=some (j,id2)→∃l s2 ID rs,(v::r)[l]?=some (.os id2)∧m id2=some (.arr s2 ID rs)∧ps[l]?=some (.pd s2 rs)∧∀(i:Nat)p,i≠l→ps[i]?=some p→∃u,(v::r)[i]?=some u∧kn cW 1 u=some p:=by
   intro p hp h
   split at h
   ·rename_i ps' t ht;simp only[AI,Xp]at h;obtain⟨rfl,rfl⟩:=h;obtain⟨h1,h2,h3⟩:=CY ht;refine⟨by simp[h1],fun hn i q hq=>?_,fun j id2 hj=>?_⟩
    ·cases i with
     |zero=>simp at hq;subst hq;exact⟨v,rfl,hp⟩
     |succ i=>simpa using h2 hn i q (by simpa using hq)
    ·obtain⟨l,s2,ID,rs,a1,a2,a3,a4⟩:=h3 j id2 hj;refine⟨l+1,s2,ID,rs,by simpa using a1,a2,by simpa using a3,fun i q hi hq=>?_⟩;cases i with
     |zero=>simp at hq;subst hq;exact⟨v,rfl,hp⟩
     |succ i=>simpa using a4 i q (by omega) (by simpa using hq)
   ·cases h
  unfold kG at h;split at h
  ·rename_i heq;cases heq
  ·rename_i j id r' heq;simp only[ahs]at heq;obtain⟨rfl,rfl⟩:=heq;split at h
   ·rename_i s et es hm;split at h
    ·rename_i ps' ht;simp only[AI,Xp]at h;obtain⟨rfl,rfl⟩:=h;obtain⟨h1,h2,_⟩:=CY ht;refine⟨by simp[h1],fun hn=>(nomatch hn),fun j id2 hj=>?_⟩;simp only[AI,Xp]at hj;obtain⟨rfl,rfl⟩:=hj;refine⟨0,s,et,es,rfl,hm,rfl,fun i q hi hq=>?_⟩;cases i with
     |zero=>exact absurd rfl hi
     |succ i=>simpa using h2 rfl i q (by simpa using hq)
    ·cases h
   ·cases h
  ·rename_i j v' r' _ heq;simp only[ahs]at heq;obtain⟨rfl,rfl⟩:=heq;split at h
   ·rename_i p hp;exact plain hp h
   ·cases h
section
variable {P:Program} {G:Nat→Option (List PV)} {w0:bu} {μ μ':Ro} {φ φ':Nat→aA} {m m':Mem} {w w':World}
theorem CZ{v:V}{n j id2:Nat}{cs:List V}{ps:List PV}(hc:toCells n v=some cs)(h:kG m 0 cs=some (ps,some (j,id2))):∃l s2 ID rs,m id2=some (.arr s2 ID rs)∧ps[l]?=some (.pd s2 rs)∧ps.length=n∧v.has id2=true∧∀(P:Program)(μ:Ro)(φ:Nat→aA)(x:Value),ae P μ φ v x→x.cells.size=n∧(∀(i:Nat)(y:Value),x.cells[i]?=some y→y.oneCell'=true)∧(∀(i:Nat)p y,i≠l→ps[i]?=some p→x.cells[i]?=some y→af P μ p y)∧∃y,x.cells[l]?=some y∧ae P μ φ (.os id2) y:=by
 obtain⟨t1,_,t3⟩:=CY h;obtain⟨l,s2,ID,rs,a1,a2,a3,a4⟩:=t3 j id2 rfl;obtain⟨n1,n2,n3⟩:=toCells_ok hc;refine⟨l,s2,ID,rs,a2,a3,by rw[t1,n1],n2 id2 (bI (aaQ a1) (by simp[V.has])),fun P μ φ x hx=>?_⟩;obtain⟨x1,x2,x3⟩:=n3 P μ φ x hx;refine⟨x1,x3,fun i p y hi hp hy=>?_,?_⟩
 ·obtain⟨u,hu,hf⟩:=a4 i p hi hp;exact sA 1 hf (x2 i u y hu hy)
 ·have hl:l<x.cells.size:=by rw[x1,←n1];exact(HO.1 a1).1
  exact⟨x.cells[l],OF hl,x2 l _ _ a1 (OF hl)⟩
theorem Bi{s off n:Nat}{e:PV}{ps:List PV}(hn:ps.length=n)(hb:off+n≤s)(h0:0<n)(ha:s=1→∀p,ps.head? =some p→∀cs,p≠.agg cs):(if s=1 then ps.headD .bad else PV.agg (bH (aC s e) off ps)).cells=bH (aC s e) off ps:=by
 split
 ·rename_i h1;subst h1;have e1:off=0:=by omega
  have e2:n=1:=by omega
  subst e1;subst e2;match ps,hn with
  |[p],_=>
   have:=ha rfl p rfl;have hp:p.cells=[p]:=by cases p<;>first|rfl|exact absurd rfl (this _)
   simp only[List.headD_cons,hp,dw,aid,ah9,agU,ahg];rw[List.drop_of_length_le (by rw[aW];exact agM _)];rfl
 ·rfl
theorem C0{T:Type}{cs ps:List T}{off l:Nat}{x:T}(hl:l<ps.length)(hb:off+ps.length≤cs.length):bH cs off (ps.set l x)=(bH cs off ps).set (off+l) x:=by
 have hto:(cs.take off).length=off:=by simp;omega
 rw[dw,dw,aiF,ahk,ahk,List.set_append,IN (by omega),List.set_append,BY (by omega)];rw[show off+l-(cs.take off).length=l by omega]
theorem C1{id id2:Nat}{B X:bF}(cL:id2≠id):al (eQ id (bl (bB id2 (al m id B)) id2)) id X=al (eQ id (bl (bB id2 m) id2)) id X:=by
 funext t;by_cases h:t=id
 ·subst h;simp
 ·rw[ao h,ao h];unfold eQ;by_cases h2:t=id2
  ·subst h2;simp
  ·rw[fo h2,fo h2];unfold bB;rw[ao h]
end
section
variable {R:Type} {E:Env}
theorem S7{t:TypeId}{v:V}{id i off s id2 j:Nat}{et:TypeId}{es ps:List PV}{cs:List V}{e:PV}{m:Mem}(hm:m id=some (.nest s et es))(hc:toCells (aR E.P t) v=some cs)(ht:kG m 0 cs=some (ps,some (j,id2)))(hb:off+aR E.P t≤s)(h0:0<aR E.P t)(cL:id2≠id)(he:es[i]?=some e){G:Nat→Option (List PV)}{w0:bu}{μ:Ro}{φ:Nat→aA}{w:World}{f:Fr}{ρ:Nat→Value}{ya yx:Value}(hM:aw E.P G w0 μ φ m w)(hF:bX E.P μ φ m f ρ)(ha:ae E.P μ φ (.oe id i off) ya)(hx:ae E.P μ φ v yx):∃w' φ',(Instr.storeAt t ya yx).run E.P w=.ok () w'∧aw E.P G w0 μ φ' (sj [(id,.nest s et (es.set i (if s=1 then ps.headD .bad else .agg (bH (aC s e) off ps))))] (km [(true,id2),(false,id)] m)) w'∧bX E.P μ φ' (sj [(id,.nest s et (es.set i (if s=1 then ps.headD .bad else .agg (bH (aC s e) off ps))))] (km [(true,id2),(false,id)] m)) (kf [(true,id2),(false,id)] f) ρ:=by
 obtain⟨l,s2,ID,rs,cQ,kx,B6,aew,jI⟩:=CZ hc ht;obtain⟨x1,x2,x3,y,hy,V5⟩:=jI E.P μ φ yx hx;have Fm:l<ps.length:=(HO.1 kx).1;have hN:aX E.P μ φ w id s et es:=hM.du id _ hm;have B4:=hN.2.2.2.2.1 i e he;have B3:(aC s e).length=s:=aW _ _;have ou:ps=(ps.set l .bad).set l (.pd s2 rs):=by
  rw[List.set_set];apply ag5;intro a;rw[ahb];split
  ·rename_i e1;subst e1;first|exact kx|(rw[BY Fm];exact kx)
  ·rfl
 have tz:∀(a:Nat)p,(ps.set l .bad)[a]?=some p→(a=l∧p=.bad)∨(a≠l∧ps[a]?=some p):=fun a p h=>eM h;have hE:rM E.P μ (aR E.P t) (.agg (ps.set l .bad)) yx:=by
  refine⟨by simp[PV.cells,B6],x1,fun a p z hp hz=>?_,x2⟩;rcases tz a p (by simpa[PV.cells]using hp)with⟨_,rfl⟩|⟨h1,h2⟩
  ·exact .bad
  ·exact x3 a p z h1 h2 hz
 have one:s=1→ps.length=1:=fun h=>by omega
 have hq:(if s=1 then ps.headD .bad else PV.agg (bH (aC s e) off ps)).cells=bH (aC s e) off ps:=Bi B6 hb h0 fun h1 p hp Ll=>by
  have KZ:l=0:=by have:=one h1;omega
  subst KZ;rw[ais,kx]at hp;simp only[AI]at hp;subst hp;simp
 have hq':(if s=1 then(ps.set l .bad).headD .bad else PV.agg (bH (aC s e) off (ps.set l .bad))).cells=bH (aC s e) off (ps.set l .bad):=Bi (by simpa using B6) hb h0 fun h1 p hp Ll=>by
  have KZ:l=0:=by have:=one h1;omega
  subst KZ;rw[ais,ahb,BY rfl,BY Fm]at hp;simp only[AI]at hp;subst hp;simp
 generalize (if s=1 then ps.headD .bad else PV.agg (bH (aC s e) off ps))=q at hq⊢;generalize (if s=1 then(ps.set l .bad).headD .bad else PV.agg (bH (aC s e) off (ps.set l .bad)))=q' at hq';cases ha with
 | @oe _ _ _ g hg=>
  obtain⟨c,T,hh,pY,xc,hrw⟩:=aX.set (q:=q') hN (hM.apart id _ hm) hg he hE hb (by rw[hq'];rfl);have mP:(φ id).sz=s:=hN.2.1;have hi:=j8 (P:=E.P) (t:=t) (by omega);have tx:aw E.P G w0 μ φ (al m id (.nest s et (es.set i q'))) (w.setRow g (bH c.toList (i*s+off) yx.cells.toList).toArray):=hM.write hm rfl hg (kv.setRow (agM _)) setRow_size (fun k hk=>bY hk) xc rfl (fun j hj=>by simp[bF.names]at hj) (fun st h=>by cases h) hrw;have Zp:i<es.length:=(HO.1 he).1;have abl:q.cells=q'.cells.set (off+l) (.pd s2 rs):=by rw[hq,hq',←C0 (by simpa using Fm) (by simp[B3,B6];omega),←ou]
  have xh:q'.cells[off+l]?=some .bad:=by rw[hq',C0 Fm (by rw[B3,B6];exact hb),ahb,BY rfl,BY];rw[cw (by rw[B3,B6];exact hb),B3];omega
  have sl:=aw.Zq tx (id:=id) (id2:=id2) (i:=i) (off:=off+l) (e:=q') (q:=q) (x:=y) cL (bm _ _ _) (by rw[ao cL];exact cQ) (by simp[Zp]) xh (fun g0 c0 _ Lj XU=>by
   rw[hg]at Lj;simp only[AI]at Lj;subst Lj;rw[setRow_heap w g c _ T (0,0) hh]at XU;simp only[AI,Obj.cells.injEq]at XU;obtain⟨rfl,_⟩:=XU;rw[ag8,dw];have bS:(c.toList.take (i*s+off)).length=i*s+off:=by simp;omega
   have Fj:l<yx.cells.toList.length:=by simp only[ahV];rw[x1];omega
   rw[ahk,ahQ (by omega),bS,show i*s+(off+l)-(i*s+off)=l by omega,ahZ Fj];simpa using hy) V5 abl
  rw[List.set_set,C1 cL]at sl;refine⟨_,_,by rw[mP];exact fV hE.size hi hh pY hE.one,sl,?_⟩;have BK:bX E.P μ φ (al m id (.nest s et (es.set i q'))) f ρ:=hF.l0 (fun _ _ h=>h) .set;have V8:=(BK.forget id2).tB id;refine V8.XZ (by simp[j9]) (fun k hk=>by simp[hk]) fun k hk=>?_;show(al (eQ id (bl (bB id2 m) id2)) id _ k).isSome=true;by_cases e1:k=id
  ·subst e1;simp
  ·rw[ao e1];rw[nJ]at hk⊢;by_cases e2:k=id2
   ·subst e2;simp at hk
   ·rw[fo e2]at hk⊢;simp only[bB,ao e1]at hk⊢;exact hk
end
section
variable {R:Type} {E:Env}
variable{e:TypeId}{id2:Nat}{G:Nat→Option (List PV)}{w0:bu}{φ:Nat→aA}{w:World}{ρ:Nat→Value}
theorem QZ{t:TypeId}{v:V}{j site:Nat}{cs:List V}{ps:List PV}{p:PV}{m:Mem}(hu:E.P.underlying t=some (.slice e))(hc:toCells (aR E.P e) v=some cs)(ht:kG m 0 cs=some (ps,some (j,id2)))(hs:m site=none)(hp:elemOf (ay E.P e) ps=some p)(er:0<aR E.P e)(Ag:aR E.P e≤16777216)(hz:(c7 E e).isSome=true){μ:Ro}{f:Fr}{yx:Value}(hM:aw E.P G w0 μ φ m w)(hF:bX E.P μ φ m f ρ)(hx:ae E.P μ φ v yx):∃y w' φ',(Instr.buildSlice t 1 #[(0,yx)]).run E.P w=.ok y w'∧aw E.P G w0 μ φ' (sj [(site,.nest (aR E.P e) e [p])] (km [(true,id2)] m)) w'∧bX E.P μ φ' (sj [(site,.nest (aR E.P e) e [p])] (km [(true,id2)] m)) (kf [(true,id2)] f) ρ∧ae E.P μ φ' (.os site) y:=by
 obtain⟨l,s2,ID,rs,cQ,kx,B6,aew,jI⟩:=CZ hc ht;obtain⟨x1,x2,x3,z,XY,hvz⟩:=jI E.P μ φ yx hx;obtain⟨zc,Se⟩:=agT.1 hz;obtain⟨iz,zv,i1,i2,i3,_⟩:=eu Se;have cL:id2≠site:=fun e=>by simp_all
 have LJ:p.cells=ps:=by
  unfold elemOf at hp;split at hp
  ·simp only[AI]at hp;subst hp;rfl
  ·split at hp
   ·rename_i q;simp only[AI]at hp;subst hp;have KZ:l=0:=by grind
    subst KZ;simp only[ahd,AI]at kx;subst kx;rfl
   ·cases hp
 have Zo:aK E.P μ φ w id2 s2 ID rs:=hM.du id2 _ cQ;have agl:Instr.fill (fun i=>some (i*aR E.P e,aR E.P e)) ((Array.range (1*aR E.P e)).map (zv.cells[·%zv.cells.size]!)) [(0,yx)]=some yx.cells:=by
  have Sf:((Array.range (1*aR E.P e)).map (zv.cells[·%zv.cells.size]!)).size=aR E.P e:=by simp
  rw[wG (off:=0) (size:=aR E.P e) (by simp) x1 (by omega)];simp only[Instr.fill,AI];apply aif;simp only[dw,aid,ah9,ahp];simp_all
 have ow:=run_buildSlice (P:=E.P) w t e 1 #[(0,yx)] yx.cells iz zv hu i1 i2 (by omega) (by omega) (by rw[i3];omega);let q:aA:={g:=some w.heap.size,cap:=1,len:=1,sz:=aR E.P e,row:=fun a b=>if a=0∧b=l then(φ id2).toA6 else default};have Fh:∀k,(bl (bB id2 m) id2 k).isSome=true→k≠site:=fun k hk e=>by simp_all[fo,Ne.symm,bB]
 have S8:∀a b,(bF.nest (aR E.P e) e [p]).rowAt a b=true→a=0∧b=l:=by
  intro a b hr;rcases jM hr with⟨_,_,_,e',s',rs',gX,h',sD⟩|⟨_,_,_,_,_,_,gX,_⟩
  ·simp only[bF.nest.injEq]at gX;obtain⟨rfl,rfl,rfl⟩:=gX;cases a with
   |succ a=>simp at h'
   |zero=>
    simp only[ahd,AI]at h';subst h';rw[LJ]at sD;refine⟨rfl,?_⟩;by_cases S9:b=l
    ·exact S9
    ·exfalso;have bS:b<yx.cells.size:=by rw[x1,←B6];exact(HO.1 sD).1
     exact absurd (x3 b _ _ S9 sD (OF bS)).B2 (by simp[PV.isRow])
  ·cases gX
 have tx:=hM.forget id2;have rQ:aw E.P G w0 μ (fun i=>if i=site then q else φ i) (al (bl (bB id2 m) id2) site (.nest (aR E.P e) e [p])) (w.alloc (.cells yx.cells e)):=by
  have hold:∀k,k<w.heap.size→(w.alloc (.cells yx.cells e)).heap[k]?=w.heap[k]?:=fun k hk=>kv.heap_alloc w _ k hk;refine tx.put (by rw[fo (Ne.symm cL)];simp[bB,hs]) ((kv.refl _ w).alloc hM.below.size _) (fun k o hk=>?_) (fun id b' g an hg=>hold g ((tx.du id b' an).CH hg)) (fun g hg=>?_) ?_ ?_ (by simp[bF.names]) (fun st h=>by cases h)
  ·have:=hM.ro k o hk;rw[hold k (YH.1 this).1];exact this
  ·rcases hg with hg|⟨a,b,hr,hg⟩
   ·simp only[q,AI]at hg;subst hg;refine⟨hM.below.size,?_,fun id b' an ho=>?_⟩
    ·cases hq:μ w.heap.size with
     |none=>rfl
     |some o'=>have:=hM.ro _ _ hq;simp at this
    ·have:=(tx.du id b' an).CH ho;omega
   ·have sl:=S8 a b hr;have hg:(φ id2).g=some g:=by simpa[q,sl]using hg
    obtain⟨o1,o2⟩:=hM.own id2 _ g cQ (.inl hg);refine⟨o1,o2 rfl,fun id b' an ho=>?_⟩;obtain⟨h1,b2,tf,rfl⟩:=fk an;exact h1 (hM.inj id id2 _ _ g tf cQ (fU.1 ho) (.inl hg))
  ·intro a b g hr hg;have sl:=S8 a b hr;have hg:(φ id2).g=some g:=by simpa[q,sl]using hg
   refine⟨fun h=>?_,fun a' b' yK _=>by have:=S8 a' b' yK;omega⟩;simp only[q,AI]at h;have:=(hM.du id2 _ cQ).CH (.inl hg);omega
  ·show aX E.P μ (fun i=>if i=site then q else φ i) (w.alloc (.cells yx.cells e)) site (aR E.P e) e [p];unfold aX;simp only[T1];refine⟨rfl,rfl,trivial,er,fun i e' Q0=>?_,by simp[q,maxLen],yx.cells,e,fp w _,by simp[q,x1],by simp[q],fun i e' b p' x' Q0 sD Pr=>?_,fun i x' _ Pr=>x2 i x' Pr⟩
   ·cases i with
    |zero=>simp at Q0;subst Q0;rw[LJ,B6]
    |succ i=>simp at Q0
   ·cases i with
    |succ i=>simp at Q0
    |zero=>
     simp only[ahd,AI]at Q0;subst Q0;rw[LJ]at sD;rw[ajX,ahp]at Pr;by_cases S9:b=l
     ·subst S9;rw[kx]at sD;simp only[AI]at sD;subst sD;rw[XY]at Pr;simp only[AI]at Pr;subst Pr;have:q.row 0 b=(φ id2).toA6:=by simp[q]
      rw[this];refine eB.cr ⟨⟨ID,Zo.up⟩,LC hvz⟩ (fun _ _ h=>h) fun g hg=>hold g ((hM.du id2 _ cQ).CH (.inl hg))
     ·exact .pure (x3 b p' x' S9 sD Pr)
 refine⟨_,_,_,ow,rQ,?_,?_⟩
 ·exact(hF.forget id2).mono (fun _ _ h=>h) fun k hk=>⟨by simp[Fh k hk],by show(al (bl (bB id2 m) id2) site _ k).isSome=true;rw[ao (Fh k hk)];exact hk⟩
 ·have:=ae.os (P:=E.P) (μ:=μ) (φ:=fun i=>if i=site then q else φ i) (id:=site) (g:=w.heap.size) (by simp[q]);simpa[q]using this
theorem Ta{k v v':PV}:∀{es:List (PV×PV)}{j:Nat},(eG k v es)[j]?=some (k,v)→(lv k es=some j∨(lv k es=none∧j=es.length))→(eG k v es).set j (k,v')=eG k v' es:=by
 intro es j hj hp;rw[l5,l5];rcases hp with hp|⟨hp,rfl⟩
 ·rw[hp];simp
 ·rw[hp];simp
variable{es:List (PV×PV)}
theorem aw.Wf{P:Program}{μ:Ro}{m:Mem}(hM:aw P G w0 μ φ m w){id i s2:Nat}{kt:TypeId}{k:PV}{rs:List PV}{x:Value}(cL:id2≠id)(hm:m id=some (.eY kt e es))(cQ:m id2=some (.arr s2 e rs))(he:es[i]?=some (k,.bad))(hx:∀g en clock,(φ id).g=some g→w.heap[g]?=some (.map en clock)→∃e0,en[i]?=some e0∧e0.val=x)(hv:ae P μ φ (.os id2) x):aw P G w0 μ (fun j=>if j=id then j9 (φ id) i 0 (φ id2).toA6 else φ j) (al (eQ id (bl (bB id2 m) id2)) id (.eY kt e (es.set i (k,.pd s2 rs)))) w:=by
 have tx:=(hM.forget id2).tB id;obtain⟨g0,en,clock,kk,hN⟩:=sG.1 (hM.du id _ hm);have Zo:aK P μ φ w id2 s2 e rs:=hM.du id2 _ cQ;have kx:∀a b,(bF.eY kt e (es.set i (k,.pd s2 rs))).rowAt a b=true→(a=i∧b=0)∨((bF.eY kt e es).rowAt a b=true∧¬(a=i∧b=0)):=by
  intro a b hr;by_cases sl:a=i∧b=0
  ·exact .inl sl
  ·refine .inr ⟨?_,sl⟩;rcases jM hr with⟨_,_,_,_,_,_,gX,_⟩|⟨_,_,_,k',s',rs',gX,rfl,h'⟩
   ·cases gX
   ·simp only[bF.eY.injEq]at gX;obtain⟨rfl,rfl,rfl⟩:=gX;rcases eM h' with⟨rfl,_⟩|⟨Vz,h'⟩
    ·exact absurd ⟨rfl,rfl⟩ sl
    ·rw[jL h'];rfl
 refine hM.Pu (fun _ k=>if k=id2 then id else k) (fun j b' hj=>?_) (fun j b' g hj ho=>?_) (fun j b' hj=>?_) (fun j cs k hj hk=>?_) (fun j st hj=>?_)
 ·rcases fl hj with⟨rfl,rfl⟩|⟨h1,h2,c,hc,rfl⟩
  ·refine sG.2 ⟨g0,en,clock,kk,by simp[j9,hN.pl],hN.heap,by simp[hN.size],hN.zI,fun a k' v' h'=>?_,hN.born,fun a k' v' e' h' Q0=>?_⟩
   ·rcases eM h' with⟨rfl,hq⟩|⟨_,h'⟩
    ·simp only[Xp]at hq;rw[hq.1];exact hN.key a k _ he
    ·exact hN.key a k' v' h'
   ·simp only[T1];rcases eM h' with⟨rfl,hq⟩|⟨Vz,h'⟩
    ·simp only[Xp]at hq;obtain⟨rfl,rfl⟩:=hq;refine⟨(hN.rep a _ _ e' he Q0).1,?_⟩;rw[gb];obtain⟨e1,he1,hxe⟩:=hx g0 en clock hN.pl hN.heap;rw[Q0]at he1;simp only[AI]at he1;subst he1;rw[hxe];exact⟨Zo.up,LC hv⟩
    ·rw[gn _ _ (fun h=>Vz h.1)];exact hN.rep a k' v' e' h' Q0
  ·have hb:gm P μ φ w j (dI id (fZ id2 c)):=(hM.du j c hc).kill.w9;exact hb.Pv h1 (by simp[j9]) fun k hk=>by simp[hk]
 ·rcases fl hj with⟨rfl,rfl⟩|⟨h1,h2,c,hc,rfl⟩
  ·simp only[T1]at ho;rcases ho with ho|⟨a,b,hr,ho⟩
   ·exact⟨j,_,hm,.inl ho,fun _=>rfl,by simp[cL.symm]⟩
   ·rcases kx a b hr with⟨rfl,rfl⟩|⟨yK,sl⟩
    ·rw[gb]at ho;exact⟨id2,_,cQ,.inl ho,fun _=>rfl,by simp⟩
    ·rw[gn _ _ sl]at ho;exact⟨j,_,hm,.inr ⟨a,b,yK,ho⟩,fun _=>rfl,by simp[cL.symm]⟩
  ·simp only[h1,Xq]at ho;exact⟨j,c,hc,fU.1 (qf.1 ho),fun h=>by rw[xO,wF]at h;exact h,by simp[h2]⟩
 ·rcases fl hj with⟨rfl,rfl⟩|⟨h1,h2,c,hc,rfl⟩
  ·simp only[T1];have Ep:=hM.apart j _ hm;have new:∀g,(φ id2).g=some g→¬(bF.eY kt e es).dU (φ j) g:=fun g hg ho=>cL (hM.inj id2 j _ _ g cQ hm (.inl hg) ho);intro a b g hr hg;rcases kx a b hr with⟨rfl,rfl⟩|⟨yK,sl⟩
   ·rw[gb]at hg;refine⟨fun h=>new g hg (.inl h),fun a' b' LD LF=>?_⟩;rcases kx a' b' LD with h|⟨Wd,LG⟩
    ·exact h
    ·rw[gn _ _ LG]at LF;exact absurd (.inr ⟨a',b',Wd,LF⟩) (new g hg)
   ·rw[gn _ _ sl]at hg;obtain⟨h3,h4⟩:=Ep a b g yK hg;refine⟨h3,fun a' b' LD LF=>?_⟩;rcases kx a' b' LD with⟨rfl,rfl⟩|⟨Wd,LG⟩
    ·rw[gb]at LF;exact absurd (.inr ⟨a,b,yK,hg⟩) (new g LF)
    ·rw[gn _ _ LG]at LF;exact h4 a' b' Wd LF
  ·simp only[h1,Xq];exact uU.2 (tw.2 (hM.apart j c hc))
 ·rcases fl hj with⟨rfl,hb⟩|⟨h1,h2,c,hc,hb⟩
  ·cases hb
  ·have H7:eQ id (bl (bB id2 m) id2) j=some (.box cs):=by rw[ao h1]at hj;exact hj
   have:=tx.fy j cs k H7 hk;by_cases e:k=id
   ·subst e;simp
   ·rw[ao e];exact this
 ·rcases fl hj with⟨rfl,hb⟩|⟨h1,h2,c,hc,hb⟩
  ·cases hb
  ·cases c<;>first|(simp[dI,fZ]at hb;done)|skip
   simp only[dI,fZ,bF.loop.injEq]at hb;subst hb;exact⟨hc,by simp[h1]⟩
theorem Q1{t kt et:TypeId}{xk:V}{id s:Nat}{key:PV}{rs:List PV}{m:Mem}(hu:E.P.underlying t=some (.map kt et))(hm:m id=some (.eY kt e es))(cQ:m id2=some (.arr s e rs))(wS:keyOf E kt xk=some key){μ:Ro}{f:Fr}{ya yk yv:Value}(hM:aw E.P G w0 μ φ m w)(hF:bX E.P μ φ m f ρ)(ha:ae E.P μ φ (.om id) ya)(hk:ae E.P μ φ xk yk)(hv:ae E.P μ φ (.os id2) yv):∃w' φ',(Instr.mapUpdate t ya yk yv).run E.P w=.ok () w'∧aw E.P G w0 μ φ' (sj [(id,.eY kt e (eG key (.pd s rs) es))] (km [(true,id2),(false,id)] m)) w'∧bX E.P μ φ' (sj [(id,.eY kt e (eG key (.pd s rs) es))] (km [(true,id2),(false,id)] m)) (kf [(true,id2),(false,id)] f) ρ:=by
 have cL:id2≠id:=fun h=>by subst h;rw[hm]at cQ;cases cQ
 obtain⟨ks,k1,k2,k3⟩:=sE wS;obtain⟨g,en,clock,kk,hN⟩:=sG.1 (hM.du id _ hm);have Bd:=hN.zI;rw[k1]at Bd;simp only[AI]at Bd;subst Bd;have QQ:=wH k1;have hkr:=k3 μ φ yk hk;obtain⟨hc,Zk⟩:=lL k2 hkr;obtain⟨res,r1,r2⟩:=lb (v:=.o9) (z:=.bad) QQ hc w hN.ent;have EE:=Go.MapKept.run_getObj_map (P:=E.P) hN.heap;have h1:(Instr.checkKey false 10000 kt yk).run E.P w=.ok () w:=by rw[Zk];exact gJ 8 kt ks QQ 9992 w false key.cells hc
 rw[←Zk]at r1;have bS:g<w.heap.size:=(YH.1 hN.heap).1;cases ha with
 |om cv=>
  rw[hN.pl]at cv;simp only[AI]at cv;subst cv;have fin:∀(J:Nat)(K0:Array MapEntry)(oC:Nat),(lv key es=some J∨(lv key es=none∧J=es.length))→(Instr.mapUpdate t (.map (some g)) yk yv).run E.P w=.ok () {w with heap:=w.heap.setIfInBounds g (.map K0 oC)}→lq K0 oC→K0.size=(eG key .bad es).length→(∃e0,K0[J]?=some e0∧e0.key=yk∧e0.val=yv)→(∀i e0,i≠J→K0[i]?=some e0→en[i]?=some e0)→∃w' φ',(Instr.mapUpdate t (.map (some g)) yk yv).run E.P w=.ok () w'∧aw E.P G w0 μ φ' (sj [(id,.eY kt e (eG key (.pd s rs) es))] (km [(true,id2),(false,id)] m)) w'∧bX E.P μ φ' (sj [(id,.eY kt e (eG key (.pd s rs) es))] (km [(true,id2),(false,id)] m)) (kf [(true,id2),(false,id)] f) ρ:=by
   intro J K0 oC hJ hr wx mP hJe C2;obtain⟨eJ,abm,aex,aey⟩:=hJe;have rQ:∀i k' v',(eG key .bad es)[i]?=some (k',v')→(i=J∧k'=key∧v'=.bad)∨(i≠J∧es[i]?=some (k',v')):=by
    intro i k' v' h;rw[l5]at h;rcases hJ with hJ|⟨hJ,rfl⟩
    ·rw[hJ]at h;rcases eM h with⟨rfl,hq⟩|⟨Vz,h⟩
     ·simp only[Xp]at hq;exact .inl ⟨rfl,hq.1,hq.2⟩
     ·exact .inr ⟨Vz,h⟩
    ·rw[hJ]at h;simp only at h;rw[ag7]at h;split at h
     ·rename_i bS;exact .inr ⟨by omega,h⟩
     ·rename_i EF;cases hd:i-es.length with
      |zero=>rw[hd]at h;simp only[ahd,AI,Xp]at h;exact .inl ⟨by omega,h.1.symm,h.2.symm⟩
      |succ n=>rw[hd]at h;simp at h
   have hJb:(eG key .bad es)[J]?=some (key,.bad):=by
    rw[l5];rcases hJ with hJ|⟨hJ,rfl⟩
    ·rw[hJ];obtain⟨a,u,hj,_⟩:=B5 hJ;simp[(HO.1 hj).1]
    ·rw[hJ];simp
   have tx:aw E.P G w0 μ φ (al m id (.eY kt e (eG key .bad es))) {w with heap:=w.heap.setIfInBounds g (.map K0 oC)}:=by
    refine hM.write hm rfl hN.pl ⟨⟨rfl,rfl,rfl,by simp,fun k hk=>by simp[aih (Nat.ne_of_gt hk)]⟩,fun _=>agM _⟩ (by simp) (fun k hk=>by simp[aih (Ne.symm hk)]) (sG.2 ⟨g,K0,oC,ks,hN.pl,by simp[bS],mP,k1,fun i k' v' h=>?_,wx,fun i k' v' e0 h S4=>?_⟩) rfl (by simp[bF.names]) (fun st h=>by cases h) fun a b hr=>?_
    ·rcases rQ i k' v' h with⟨_,rfl,_⟩|⟨_,h⟩
     ·exact k2
     ·exact hN.key i k' v' h
    ·rcases rQ i k' v' h with⟨rfl,rfl,rfl⟩|⟨Vz,h⟩
     ·rw[abm]at S4;simp only[AI]at S4;subst S4;exact⟨by rw[aex];exact hkr,.pure .bad⟩
     ·obtain⟨q1,q2⟩:=hN.rep i k' v' e0 h (C2 i e0 Vz S4);refine⟨q1,?_⟩;unfold CW at q2⊢;split at q2
      ·refine⟨q2.1.cr rfl (fun _ _ h=>h) fun g' cv=>?_,q2.2⟩;have hr:(bF.eY kt e es).rowAt i 0=true:=by rw[jL h];rfl
       have:=(hM.apart id _ hm i 0 g' hr cv).1;rw[hN.pl]at this;simp only[aj0,AI]at this;simp[aih this]
      ·exact q2
    ·rcases jM hr with⟨_,_,_,_,_,_,gX,_⟩|⟨_,_,_,k',s',rs',gX,rfl,h'⟩
     ·cases gX
     ·simp only[bF.eY.injEq]at gX;obtain⟨rfl,rfl,rfl⟩:=gX;rcases rQ a k' _ h' with⟨_,_,h⟩|⟨_,h⟩
      ·cases h
      ·rw[jL h];rfl
   have sl:=aw.Wf tx (id:=id) (id2:=id2) (i:=J) (x:=yv) cL (bm _ _ _) (by rw[ao cL];exact cQ) hJb (fun g0 en0 aez Lj hh0=>by
    rw[hN.pl]at Lj;simp only[AI]at Lj;subst Lj;have:(w.heap.setIfInBounds g (Obj.map K0 oC))[g]?=some (.map K0 oC):=by simp[bS]
    rw[this]at hh0;simp only[AI,Obj.map.injEq]at hh0;obtain⟨rfl,_⟩:=hh0;exact⟨eJ,abm,aey⟩) hv
   rw[Ta hJb hJ,C1 cL]at sl;refine⟨_,_,hr,sl,?_⟩;have BK:bX E.P μ φ (al m id (.eY kt e (eG key .bad es))) f ρ:=hF.l0 (fun _ _ h=>h) .set;refine((BK.forget id2).tB id).XZ (by simp[j9]) (fun k hk=>by simp[hk]) fun k hk=>?_;show(al (eQ id (bl (bB id2 m) id2)) id _ k).isSome=true;by_cases e1:k=id
   ·subst e1;simp
   ·rw[ao e1];rw[nJ]at hk⊢;by_cases e2:k=id2
    ·subst e2;simp at hk
    ·rw[fo e2]at hk⊢;simp only[bB,ao e1]at hk⊢;exact hk
  rcases Fy r2 with⟨rfl,hp⟩|⟨j,e0,rfl,S4,hp⟩
  ·have V6:=Go.MapKept.run_setObj_map (P:=E.P) (.map (en.push {key:=yk,val:=yv,born:=clock}) (clock+1)) hN.heap;refine fin es.length _ _ (.inr ⟨hp,rfl⟩) (by simp only[Instr.mapUpdate,Sem.run_bind,run_underlying hu,EE,h1,r1,Result.andThen_ok];exact V6) hN.born.push (by rw[l5,hp];simp[hN.size]) ⟨{key:=yk,val:=yv,born:=clock},?_,rfl,rfl⟩ fun i e0 hi h=>?_
   ·rw[←hN.size];simp
   ·rw[ai4]at h;split at h
    ·rename_i h';rw[hN.size]at h';exact absurd h' hi
    ·exact h
  ·have Wg:en[j]?=some e0:=by simpa using S4
   obtain⟨a,u,haj,hpq⟩:=B5 hp;obtain⟨Zl,hva⟩:=lL (hN.key j a u haj) (hN.rep j a u e0 haj Wg).1;have tA:=GP hc Zl hpq;have Zm:Instr.sameBits 10000 e0.key yk=true:=by rw[hva,Zk,←tA];refine uT (n:=9999) hc (fun ha=>?_);rw[pg hc];exact(wC QQ).2.1 ha
   have V6:=Go.MapKept.run_setObj_map (P:=E.P) (.map (en.modify j fun e=>{e with key:=yk,val:=yv}) clock) hN.heap;have Ad:j<en.size:=(YH.1 Wg).1;refine fin j _ _ (.inl hp) (by simp only[Instr.mapUpdate,Sem.run_bind,run_underlying hu,EE,h1,r1,Result.andThen_ok];simp only[ahp,Wg,adN,ahB,Instr.keyThatStays,Zm,T1,Sem.run_pure,Result.andThen_ok];exact V6) (hN.born.modify (fun e=>{e with key:=yk,val:=yv}) (fun _=>rfl) _) (by rw[l5,hp];simp[hN.size]) ⟨{e0 with key:=yk,val:=yv},by rw[aia,BY rfl,Wg];rfl,rfl,rfl⟩ fun i e1 hi h=>?_;rw[aia,IN (Ne.symm hi)]at h;exact h
end
section
variable {P:Program} {G:Nat→Option (List PV)} {w0:bu} {μ μ':Ro} {φ φ':Nat→aA} {m m':Mem} {w w':World}
structure ky(P:Program)(μ:Ro)(rows:Nat→Nat→A6)(w:World)(s:Nat)(es:List PV)(xs:List Value):Prop where
 len:xs.length=es.length*s
 each:∀(i:Nat)e,es[i]?=some e→e.cells.length=s
 rep:∀(i:Nat)e(j:Nat)p x,es[i]?=some e→e.cells[j]?=some p→xs[i*s+j]?=some x→dW P μ (rows i j) w p x
 one:∀(i:Nat)(x:Value),xs[i]?=some x→x.oneCell'=true
variable{rows:Nat→Nat→A6}{es:List PV}{xs:List Value}
theorem ky.append{C3 Tb:Nat→Nat→A6}{s:Nat}{es':List PV}{xs':List Value}(h:ky P μ rows w s es xs)(h':ky P μ C3 w s es' xs')(h1:∀i j,i<es.length→Tb i j=rows i j)(h2:∀i j,es.length≤i→Tb i j=C3 (i-es.length) j):ky P μ Tb w s (es++es') (xs++xs'):=by
 refine⟨by simp[h.len,h'.len,ahj],fun i e he=>?_,fun i e j p x he hp hx=>?_,fun i x hx=>?_⟩
 ·rw[ag7]at he;split at he
  ·exact h.each i e he
  ·exact h'.each _ e he
 ·rw[ag7]at he;split at he
  ·rename_i hi;rw[h1 i j hi];have hj:j<s:=by rw[←h.each i e he];grind
   rw[ahZ (by rw[h.len];exact CN hi hj)]at hx;exact h.rep i e j p x he hp hx
  ·rename_i hi;rw[h2 i j (by omega)];have e1:i*s+j=es.length*s+((i-es.length)*s+j):=by
    have:i=es.length+(i-es.length):=by omega
    grind
   rw[ahQ (by rw[h.len,e1];omega),h.len,show i*s+j-es.length*s=(i-es.length)*s+j by omega]at hx;exact h'.rep _ e j p x he hp hx
 ·rw[ag7]at hx;split at hx
  ·exact h.one i x hx
  ·exact h'.one _ x hx
theorem Cells.GU{s:Nat}(h:Cells P μ s es xs):ky P μ rows w s es xs:=⟨h.len,h.each,fun i e j p x he hp hx=>.pure (h.rep i e j p x he hp hx),h.one⟩
theorem ky.cr{rows:Nat→Nat→A6}{s:Nat}{es:List PV}{xs:List Value}(h:ky P μ rows w s es xs)(hw:∀i e j p g,es[i]?=some e→e.cells[j]?=some p→p.isRow=true→(rows i j).g=some g→w'.heap[g]?=w.heap[g]?):ky P μ rows w' s es xs:=⟨h.len,h.each,fun i e j p x he hp hx=>(h.rep i e j p x he hp hx).cr (fun _ _ h=>h) fun hr g hg=>hw i e j p g he hp hr hg,h.one⟩
theorem aX.GU{id sz:Nat}{et:TypeId}(h:aX P μ φ w id sz et es){g:Nat}(hg:(φ id).g=some g):∃(c:Array Value)(T:TypeId),w.heap[g]?=some (.cells c T (0,0))∧(φ id).cap*sz≤c.size∧es.length≤(φ id).cap∧ky P μ (φ id).row w sz es (c.toList.take (es.length*sz)):=by obtain⟨a1,a2,a3,a4,a5,a6,a7⟩:=h;rw[hg]at a7;obtain⟨c,T,c1,c2,c3,c4,c5⟩:=a7;have hle:es.length*sz≤c.size:=ahl (aaP _ c3) c2;refine⟨c,T,c1,c2,c3,by simp;omega,a5,fun i e j p x he hp hx=>c4 i e j p x he hp (by grind),fun i x hx=>?_⟩;grind
theorem ky.nest{id g sz:Nat}{et T:TypeId}{c:Array Value}(V3:(φ id).toA6=⟨some g,(φ id).cap,es.length,sz⟩)(mP:sz=aR P et)(er:0<sz)(oz:(φ id).cap≤maxLen)(hh:w.heap[g]?=some (.cells c T (0,0)))(hc:(φ id).cap*sz≤c.size)(hle:es.length≤(φ id).cap)(hC:ky P μ (φ id).row w sz es (c.toList.take (es.length*sz))):aX P μ φ w id sz et es:=by
 have e1:(φ id).g=some g:=by rw[V3]
 refine⟨by rw[V3],by rw[V3],mP,er,hC.each,oz,?_⟩;rw[e1];have Ad:∀(i:Nat)e(j:Nat)p,es[i]?=some e→e.cells[j]?=some p→i*sz+j<es.length*sz:=fun i e j p hi hj=>CN (HO.1 hi).1 (by rw[←hC.each i e hi];grind);refine⟨c,T,hh,hc,hle,fun i e j p x hi hj hx=>?_,fun i x hi hx=>?_⟩
 ·exact hC.rep i e j p x hi hj (by grind)
 ·exact hC.one i x (by grind)
end
section
variable {R:Type} {E:Env}
def Pw(src:Option Nat)(m:Mem):Mem:=match src with|some id2=>bl (bB id2 m) id2|none=>m
def kfS(src:Option Nat)(f:Fr):Fr:=match src with|some id2=>eL id2 f|none=>f
variable{src:Option Nat}
theorem Tc{m:Mem}{j:Nat}{b:bF}(h:Pw src m j=some b):src≠some j∧∃b',m j=some b'∧b.rowAt=b'.rowAt:=by
 cases src with
 |none=>exact⟨by simp,b,h,rfl⟩
 |some id2=>obtain⟨h1,b',h2,rfl⟩:=fk h;grind [tv]
theorem Q2{t e ty:TypeId}{x:V}{id s:Nat}{es new:List PV}{rd:bp}{m:Mem}(hu:E.P.underlying t=some (.slice e))(hm:m id=some (.nest s e es))(hs:s=aR E.P e)(hz:(c7 E e).isSome=true)(er:0<aR E.P e)(hby:0<Ev E.P e)(gu:(es++new).length*Ev E.P e≤aj)(xK:(∃id2,src=some id2∧id2≠id∧x=.os id2∧m id2=some (.nest s e new))∨(src=none∧eA m s x=some (new,rd))){G:Nat→Option (List PV)}{w0:bu}{μ:Ro}{φ:Nat→aA}{w:World}{f:Fr}{ρ:Nat→Value}{ys yx:Value}(hM:aw E.P G w0 μ φ m w)(hF:bX E.P μ φ m f ρ)(ha:ae E.P μ φ (.os id) ys)(hx:ae E.P μ φ x yx):∃w' y φ',(Builtin.append_ #[t,t] ty #[ys,yx]).run E.P w=.ok y w'∧aw E.P G w0 μ φ' (al (bl (bB id (Pw src m)) id) id (.nest s e (es++new))) w'∧bX E.P μ φ' (al (bl (bB id (Pw src m)) id) id (.nest s e (es++new))) (eL id (kfS src f)) ρ∧ae E.P μ φ' (.os id) y:=by
 obtain⟨zc,Se⟩:=agT.1 hz;obtain⟨i,zv,hi,hzv,XV,_,Lr,_,_,_⟩:=eu Se;have hN:aX E.P μ φ w id s e es:=hM.du id _ hm;have Fm:(es++new).length=es.length+new.length:=by simp
 have sk:0<s:=by omega
 obtain⟨C3,yK⟩:∃C3:Nat→Nat→A6,C3=match src with|some id2=>(φ id2).row|none=>fun _ _=>default:=⟨_,rfl⟩
 obtain⟨os,hos,hC⟩:∃os,((ys=.slice none 0 0∧es.length=0∧os=[])∨∃(g cap:Nat)(c:Array Value)(T:TypeId),ys=.slice (some ⟨g,0,none⟩) es.length cap∧w.heap[g]?=some (.cells c T (0,0))∧cap*s≤c.size∧es.length≤cap∧cap≤maxLen∧os=c.toList.take (es.length*s))∧ky E.P μ (φ id).row w s es os:=by
  cases ha with
  |q6 hg=>have a7:=hN.2.2.2.2.2.2;rw[hg]at a7;rw[a7.1];exact⟨[],.inl ⟨rfl,rfl,rfl⟩,by simp,by simp,fun i e j p x he=>by simp at he,by simp⟩
  | @os _ g hg=>obtain⟨c,T,c1,c2,c3,c4⟩:=hN.GU hg;exact⟨_,.inr ⟨g,(φ id).cap,c,T,by rw[hN.1],c1,c2,c3,hN.2.2.2.2.2.1,rfl⟩,c4⟩
 obtain⟨xs,H6,hCx⟩:∃xs,((yx=.slice none 0 0∧new.length=0∧xs=[])∨∃(a:Addr)(cx:Nat),yx=.slice (some a) new.length cx∧xs.length=new.length*s∧(∀(j:Nat)v,xs[j]?=some v→w.cell? (a.add j)=some v)∧(∀v∈xs,v.oneCell'=true)∧new.length≤cx∧cx≤maxLen)∧ky E.P μ C3 w s new xs:=by
  rcases xK with⟨id2,rfl,cL,rfl,cQ⟩|⟨rfl,B4⟩
  ·have hN2:aX E.P μ φ w id2 s e new:=hM.du id2 _ cQ;simp only at yK;subst yK;cases hx with
   |q6 hg=>have a7:=hN2.2.2.2.2.2.2;rw[hg]at a7;rw[a7.1];exact⟨[],.inl ⟨rfl,rfl,rfl⟩,by simp,by simp,fun i e j p x he=>by simp at he,by simp⟩
   | @os _ g hg=>
    obtain⟨c,_,c1,c2,c3,c4⟩:=hN2.GU hg;refine⟨_,.inr ⟨⟨g,0,none⟩,(φ id2).cap,by rw[hN2.1],c4.len,fun j v hj=>?_,fun v hv=>?_,c3,hN2.2.2.2.2.2.1⟩,c4⟩
    ·grind [Addr.add_mid,df,eC]
    ·obtain⟨j,hj⟩:=ag4 hv;exact c4.one j v hj
  ·obtain⟨_,_,hsr⟩:=na B4;have:=hsr _ _ _ _ _ _ _ hM hx;cases this with
   |none hn=>subst hn;exact⟨[],.inl ⟨rfl,rfl,rfl⟩,by simp,by simp,fun i e j p x he=>by simp at he,by simp⟩
   | @some a cx xs hC H6 XW SU=>exact⟨xs,.inr ⟨a,cx,rfl,hC.len,H6,fun u hu=>by obtain⟨j,hj⟩:=ag4 hu;exact hC.one j u hj,XW,SU⟩,hC.GU⟩
 obtain⟨w',y,hr,SV⟩:=CO (ty:=ty) hu hi hzv (by omega) hs er hby (by simp_all) hos H6;let oW:Nat→Nat→A6:=fun a b=>if a<es.length then(φ id).row a b else C3 (a-es.length) b;have hCC:ky E.P μ oW w s (es++new) (os++xs):=hC.append hCx (fun a b h=>by grind) (fun a b h=>by grind);have kx:∀a b g,(bF.nest s e (es++new)).rowAt a b=true→(oW a b).g=some g→(a<es.length∧(bF.nest s e es).rowAt a b=true∧((φ id).row a b).g=some g)∨(es.length≤a∧∃id2,src=some id2∧id2≠id∧m id2=some (.nest s e new)∧(bF.nest s e new).rowAt (a-es.length) b=true∧((φ id2).row (a-es.length) b).g=some g):=by
  intro a b g KU hg;rcases jM KU with⟨_,_,_,e',s',rs',gX,h',sD⟩|⟨_,_,_,_,_,_,gX,_⟩
  ·simp only[bF.nest.injEq]at gX;obtain⟨rfl,rfl,rfl⟩:=gX;by_cases bS:a<es.length
   ·rw[ahZ bS]at h';exact .inl ⟨bS,by rw[dq h' sD];rfl,by grind⟩
   ·rw[ahQ (by omega)]at h';simp only[oW,bS,Xq]at hg;rcases xK with⟨id2,rfl,cL,rfl,cQ⟩|⟨rfl,B4⟩
    ·simp only at yK;subst yK;exact .inr ⟨by omega,id2,rfl,cL,cQ,by rw[dq h' sD];rfl,hg⟩
    ·exfalso;obtain⟨_,_,hsr⟩:=na B4;have h3:=hsr _ _ _ _ _ _ _ hM hx;cases h3 with
     |none hn=>subst hn;simp at h'
     | @some a2 cx xs2 hC2 agx XW SU=>
      have hj:(a-es.length)*s+b<xs2.length:=by rw[hC2.len];exact CN (HO.1 h').1 (by rw[←hC2.each _ _ h'];grind)
      exact absurd (hC2.rep _ _ _ _ _ h' sD (AS hj)).B2 (by simp[PV.isRow])
  ·cases gX
 have Zs:∀j,(bl (bB id (Pw src m)) id j).isSome=true→j≠id:=fun j hj e=>by subst e;simp at hj
 have bR:∀j b',bl (bB id (Pw src m)) id j=some b'→j≠id∧src≠some j∧∃b,m j=some b∧b'.rowAt=b.rowAt:=by intro j b' hj;obtain⟨h1,b1,h2,rfl⟩:=fk hj;grind [Tc,tv]
 have LK:∀{j b' b g},b'.rowAt=b.rowAt→bF.dU b' (φ j) g→bF.dU b (φ j) g:=fun h ho=>by simp_all[bF.dU]
 have hM0:aw E.P G w0 μ φ (Pw src m) w:=by
  cases src with
  |none=>exact hM
  |some id2=>exact hM.forget id2
 have hF0:bX E.P μ φ (Pw src m) (kfS src f) ρ:=by
  cases src with
  |none=>exact hF
  |some id2=>exact hF.forget id2
 have tx:=hM0.forget id;have BK:=hF0.forget id;have Wh:∀a b g,(bF.nest s e (es++new)).rowAt a b=true→(oW a b).g=some g→w0.heap.size≤g∧μ g=none∧g<w.heap.size∧∀j b',bl (bB id (Pw src m)) id j=some b'→¬b'.dU (φ j) g:=by
  intro a b g KU hg;rcases kx a b g KU hg with⟨_,h2,h3⟩|⟨_,id2,rfl,cL,cQ,h2,h3⟩
  ·obtain⟨o1,o2⟩:=hM.own id _ g hm (.inr ⟨a,b,h2,h3⟩);refine⟨o1,o2 rfl,(hM.du id _ hm).CH (.inr ⟨a,b,h2,h3⟩),fun j b' hj ho=>?_⟩;obtain⟨k1,_,b2,k3,k4⟩:=bR j b' hj;exact k1 (hM.inj j id _ _ g k3 hm (LK k4 ho) (.inr ⟨a,b,h2,h3⟩))
  ·obtain⟨o1,o2⟩:=hM.own id2 _ g cQ (.inr ⟨_,b,h2,h3⟩);refine⟨o1,o2 rfl,(hM.du id2 _ cQ).CH (.inr ⟨_,b,h2,h3⟩),fun j b' hj ho=>?_⟩;obtain⟨_,k1,b2,k3,k4⟩:=bR j b' hj;exact k1 (by rw[hM.inj j id2 _ _ g k3 cQ (LK k4 ho) (.inr ⟨_,b,h2,h3⟩)])
 have aa0:∀a b a' b' g,(bF.nest s e (es++new)).rowAt a b=true→(oW a b).g=some g→(bF.nest s e (es++new)).rowAt a' b'=true→(oW a' b').g=some g→a'=a∧b'=b:=by
  intro a b a' b' g h1 h2 h3 h4;rcases kx a b g h1 h2 with⟨u1,u2,u3⟩|⟨u1,i2,u0,une,um,u2,u3⟩<;>rcases kx a' b' g h3 h4 with⟨v1,v2,v3⟩|⟨v1,i3,v0,vne,vm,v2,v3⟩
  ·exact(hM.apart id _ hm a b g u2 u3).2 a' b' v2 v3
  ·exact absurd (hM.inj i3 id _ _ g vm hm (.inr ⟨_,_,v2,v3⟩) (.inr ⟨_,_,u2,u3⟩)) vne
  ·exact absurd (hM.inj i2 id _ _ g um hm (.inr ⟨_,_,u2,u3⟩) (.inr ⟨_,_,v2,v3⟩)) une
  ·rw[u0]at v0;simp only[AI]at v0;subst v0;obtain⟨h5,h6⟩:=(hM.apart i2 _ um (a-es.length) b g u2 u3).2 (a'-es.length) b' v2 v3;omega
 have fin:∀(q:aA)(w1:World),q.row=oW→kv w0.heap.size w w1→(∀k o,μ k=some o→w1.heap[k]?=some o)→(∀j b' g,bl (bB id (Pw src m)) id j=some b'→b'.dU (φ j) g→w1.heap[g]?=w.heap[g]?)→(∀g,q.g=some g→w0.heap.size≤g∧μ g=none∧(∀j b',bl (bB id (Pw src m)) id j=some b'→¬b'.dU (φ j) g)∧∀a b,(bF.nest s e (es++new)).rowAt a b=true→(oW a b).g≠some g)→(aX E.P μ (fun k=>if k=id then q else φ k) w1 id s e (es++new))→aw E.P G w0 μ (fun k=>if k=id then q else φ k) (al (bl (bB id (Pw src m)) id) id (.nest s e (es++new))) w1∧bX E.P μ (fun k=>if k=id then q else φ k) (al (bl (bB id (Pw src m)) id) id (.nest s e (es++new))) (eL id (kfS src f)) ρ:=by
  intro q w1 hq Lo tq hold uN jI;refine⟨tx.put (by simp) Lo tq hold (fun g hg=>?_) (fun a b g KU hg=>?_) jI (by simp[bF.names]) (fun st h=>by cases h),BK.mono (fun _ _ h=>h) fun j hj=>⟨by simp[Zs j hj],by grind [ao]⟩⟩
  ·rcases hg with hg|⟨a,b,KU,hg⟩
   ·grind
   grind
  grind
 rcases SV with⟨rfl,rfl,h1,h2⟩|⟨g',BJ,c',T',rfl,b1,b2,b3,b4,b5,b6⟩
 ·have h1:es=[]:=afl h1;have h2:new=[]:=afl h2;obtain⟨k1,k2⟩:=fin {g:=none,cap:=0,len:=0,sz:=s,row:=oW} w' rfl (kv.refl _ _) hM.ro (fun _ _ _ _ _=>rfl) (fun g hg=>by cases hg) ⟨by simp[h1,h2],by simp,hs,sk,by simp[h1,h2],by simp[maxLen],by simp[h1,h2]⟩;exact⟨w',_,_,hr,k1,k2,.q6 (by simp)⟩
 ·have hq:∀(w1:World)(T:TypeId),w1.heap[g']?=some (.cells c' T (0,0))→ky E.P μ oW w1 s (es++new) (os++xs)→aX E.P μ (fun k=>if k=id then({g:=some g',cap:=BJ,len:=(es++new).length,sz:=s,row:=oW}:aA)else φ k) w1 id s e (es++new):=fun w1 T hh hC1=>ky.nest (g:=g') (c:=c') (by simp) hs sk (by simpa using b4) hh (by simpa using b2) (by simpa[Fm]using b3) (by grind);have agm:ae E.P μ (fun k=>if k=id then({g:=some g',cap:=BJ,len:=(es++new).length,sz:=s,row:=oW}:aA)else φ k) (.os id) (.slice (some ⟨g',0,none⟩) (es.length+new.length) BJ):=by have:=ae.os (P:=E.P) (μ:=μ) (φ:=fun k=>if k=id then({g:=some g',cap:=BJ,len:=(es++new).length,sz:=s,row:=oW}:aA)else φ k) (id:=id) (g:=g') (by simp);grind
  rcases b6 with⟨V4,hys,b6,b7⟩|⟨rfl,rfl⟩
  ·have cv:(φ id).g=some g':=by
    have key:∀z,ae E.P μ φ (.os id) z→z=.slice (some ⟨g',0,none⟩) es.length V4→(φ id).g=some g':=by
     intro z hz he;cases hz with
     |q6 _=>cases he
     |os hg=>grind
    exact key _ ha hys
   obtain⟨o1,o2⟩:=hM.own id _ g' hm (.inl cv);have KX:∀a b,(bF.nest s e (es++new)).rowAt a b=true→(oW a b).g≠some g':=by
    intro a b KU hg;rcases kx a b g' KU hg with⟨u1,u2,u3⟩|⟨u1,i2,u0,une,um,u2,u3⟩
    ·exact(hM.apart id _ hm a b g' u2 u3).1 cv
    ·exact une (hM.inj i2 id _ _ g' um hm (.inr ⟨_,_,u2,u3⟩) (.inl cv))
   have C2:∀j b',bl (bB id (Pw src m)) id j=some b'→¬b'.dU (φ j) g':=fun j b' hj ho=>by obtain⟨k1,_,b2,k3,k4⟩:=bR j b' hj;exact k1 (hM.inj j id _ _ g' k3 hm (LK k4 ho) (.inl cv))
   obtain⟨k1,k2⟩:=fin {g:=some g',cap:=BJ,len:=(es++new).length,sz:=s,row:=oW} w' rfl (b6.mono o1) (fun k o hk=>by rw[b7 k (fun e=>by subst e;rw[o2 rfl]at hk;cases hk)];exact hM.ro k o hk) (fun j b' g hj ho=>b7 g fun e=>by grind) (fun g hg=>by
     simp only[AI]at hg;subst hg;exact⟨o1,o2 rfl,C2,KX⟩)
    (hq w' _ b1 (hCC.cr fun a e1 b p1 g he hp KU hg=>b7 g fun e=>by grind [dq]))
   grind
  ·have hold:∀k,k<w.heap.size→(w.drew.alloc (.cells c' e)).heap[k]?=w.heap[k]?:=fun k hk=>kv.heap_alloc w.drew _ k hk;obtain⟨k1,k2⟩:=fin {g:=some w.heap.size,cap:=BJ,len:=(es++new).length,sz:=s,row:=oW} (w.drew.alloc (.cells c' e)) rfl ((kv.refl _ w).drew.alloc hM.below.size _) (fun k o hk=>by
     have:=hM.ro k o hk;grind)
    (fun j b' g hj ho=>hold g ((tx.du j b' hj).CH ho)) (fun g hg=>by
     simp only[AI]at hg;subst hg;refine⟨hM.below.size,?_,fun j b' hj ho=>?_,fun a b KU hg=>?_⟩
     ·cases hq:μ w.heap.size with
      |none=>rfl
      |some o'=>have:=hM.ro _ _ hq;simp at this
     ·have:=(tx.du j b' hj).CH ho;omega
     grind)
    (hq _ _ b1 (hCC.cr fun a e1 b p1 g he hp KU hg=>hold g (Wh a b g (by rw[dq he hp];omega) hg).2.2.1))
   grind
theorem C4{m:Mem}:∀{cs:List V}{j0:Nat}{ps:List PV},kG m j0 cs=some (ps,none)→∀m2:Mem,kG m2 j0 cs=some (ps,none)
 |[],j0,ps,h,m2=>h
 |v::r,j0,ps,h,m2=>by
  unfold kG at h;split at h
  ·rename_i heq;cases heq
  ·grind
  ·rename_i j v' r' cL heq;simp only[ahs]at heq;obtain⟨rfl,rfl⟩:=heq;unfold kG;split
   ·rename_i heq;cases heq
   ·simp_all
   ·rename_i j v' r' cL heq;simp only[ahs]at heq;obtain⟨rfl,rfl⟩:=heq;split at h
    ·rename_i p hp;split at h
     ·rename_i ps' t ht;simp only[AI,Xp]at h;obtain⟨rfl,rfl⟩:=h;rw[C4 ht m2]
     ·cases h
    omega
theorem uV{m m2:Mem}{j id2:Nat}(hm:m2 id2=m id2):∀{cs:List V}{j0:Nat}{ps:List PV},kG m j0 cs=some (ps,some (j,id2))→kG m2 j0 cs=some (ps,some (j,id2))
 |[],j0,ps,h=>by simp[kG]at h
 |v::r,j0,ps,h=>by
  unfold kG at h;split at h
  ·rename_i heq;cases heq
  ·rename_i j id r' heq;simp only[ahs]at heq;obtain⟨rfl,rfl⟩:=heq;split at h
   ·rename_i s et es VC;split at h
    ·rename_i ps' ht;simp only[AI,Xp]at h;obtain⟨rfl,rfl,rfl⟩:=h;grind [kG,C4]
    ·cases h
   ·cases h
  ·rename_i j v' r' cL heq;simp only[ahs]at heq;obtain⟨rfl,rfl⟩:=heq;unfold kG;split
   ·rename_i heq;cases heq
   ·simp_all
   ·rename_i j v' r' cL heq;simp only[ahs]at heq;obtain⟨rfl,rfl⟩:=heq;split at h
    ·rename_i p hp;split at h
     ·rename_i ps' t ht;simp only[AI,Xp]at h;obtain⟨rfl,rfl⟩:=h;rw[uV hm ht]
     ·cases h
    omega
theorem LL{site:Nat}{o:Oper}{f f2:Fr}{m m2:Mem}{sp:Sp}(h:xC E site o f m=some sp)(hf:∀x∈o.op.operands,bA E f2 x=bA E f x)(hm:∀x∈(sp.info site).2,m2 x.2=m x.2):xC E site o f2 m2=some sp:=by
 obtain⟨dst,op,type,pos,after,guard⟩:=o;unfold xC at h⊢;cases op;case store t a x=>
  simp only at h⊢;rw[hf a (by simp[Op.operands]),hf x (by simp[Op.operands])];split at h
  ·rename_i id i off ha;split at h
   ·rename_i s et es VC;split at h
    ·rename_i cs hc;split at h
     ·rename_i ps j id2 ht;split at h
      ·rename_i kr;simp only[AI]at h;subst h;have h1:m2 id=m id:=hm (true,id) (by simp[Sp.info]);have h2:m2 id2=m id2:=hm (true,id2) (by simp[Sp.info]);simp only[ha,h1,VC,hc,uV h2 ht,kr,T1]
      ·cases h
     ·cases h
    ·cases h
   ·cases h
  omega
 case buildSlice t len parts=>
  simp only at h⊢;have LJ:(parts.toList.map fun(x:Nat×Operand)=>(x.1,bA E f2 x.2))=parts.toList.map fun(x:Nat×Operand)=>(x.1,bA E f x.2):=ahc fun x hx=>by rw[hf x.2 (by simp only[Op.operands,aiA,agZ];exact⟨x,hx,rfl⟩)]
  rw[LJ];split at h
  ·rename_i e v hu hp;split at h
   ·rename_i cs hc;split at h
    ·rename_i ps j id2 ht hs;split at h
     ·rename_i p EI;split at h
      ·rename_i kr;simp only[AI]at h;subst h;have h1:m2 site=m site:=hm (true,site) (by simp[Sp.info]);have h2:m2 id2=m id2:=hm (true,id2) (by simp[Sp.info]);simp only[hu,hp,hc,uV h2 ht,h1,hs,EI,kr,T1]
      ·cases h
     ·cases h
    ·cases h
   ·cases h
  omega
 case call c=>
  obtain⟨callee,args,argTypes⟩:=c;simp only at h⊢;have qg:args.toList.map (bA E f2)=args.toList.map (bA E f):=ahc fun x hx=>hf x (by simp_all[Op.operands,Call.operands]);rw[qg];split at h
  ·rename_i id x t t' ha Q3;split at h
   ·rename_i e s et es hu VC;split at h
    ·rename_i kr;have plain:∀{new:List PV}{rd:bp},eA m s x=some (new,rd)→x.has id=false→sp=.app id s et es new none rd→eA m2 s x=some (new,rd):=by grind [na,Sp.info]
     split at h
     ·rename_i qY;split at h
      ·rename_i s' Eo new hm';split at h
       ·rename_i SI;simp only[AI]at h;subst h;have h1:m2 id=m id:=hm (true,id) (by simp[Sp.info]);simp_all[Sp.info,T1]
       ·cases h
      ·rename_i hnn;split at h
       ·rename_i new rd B4;split at h
        ·cases h
        ·rename_i hxh;simp only[AI]at h;have Td:=plain B4 (by simpa using hxh) h.symm;subst h;have h1:m2 id=m id:=hm (true,id) (by simp[Sp.info]);simp only[ha,Q3,hu,h1,VC,kr,T1,Td];split
         ·rename_i s' Eo agy cQ;exfalso;simp only[eA,cQ]at Td;cases Td
         ·rw[IN hxh]
       ·cases h
     ·rename_i agz;split at h
      ·rename_i new rd B4;split at h
       ·cases h
       ·rename_i hxh;simp only[AI]at h;have Td:=plain B4 (by simpa using hxh) h.symm;subst h;have h1:m2 id=m id:=hm (true,id) (by simp[Sp.info]);simp only[ha,Q3,hu,h1,VC,kr,T1,Td];try rw[IN hxh]
      ·cases h
    ·cases h
   ·cases h
  ·cases h
 case mapUpdate t x key v=>
  simp only at h⊢;rw[hf x (by simp[Op.operands]),hf key (by simp[Op.operands]),hf v (by simp[Op.operands])];split at h
  ·rename_i kt et id id2 hu hx hv;split at h
   ·rename_i uz e es s e' rs kp h1 h2 hk;split at h
    ·rename_i kr;simp only[AI]at h;subst h;have h3:m2 id=m id:=hm (true,id) (by simp[Sp.info]);have h4:m2 id2=m id2:=hm (true,id2) (by simp[Sp.info]);simp only[hu,hx,hv,h3,h4,h1,h2,hk,kr,T1]
    ·cases h
   ·cases h
  ·cases h
 all_goals (cases h)
end
end Go.Ab
