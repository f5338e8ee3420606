import Derived.Test.YtmbihgjlollbeaaGreatAbP4
import Derived.RangeFuncRecord
import Derived.Laws.IdiomRangeMap
set_option linter.unusedVariables false
set_option linter.unusedSimpArgs false
namespace Go.Ab
section
variable {P:Program} {G:Nat→Option (List PV)} {w0:bx} {μ:Ro} {φ:Nat→aA} {m:Mem} {w:World}
theorem av.adQ(hM:av P G w0 μ φ m w){g:Nat}(hB:w0.heap.size≤g)(aiO:∀id b,m id=some b→¬b.owns (φ id) g):av P G w0 (qy μ w (some g)) φ m w:=by
 have mono:=mn hM (some g);refine⟨hM.below,fun b o hb=>?_,fun g' cs hg=>(hM.aG g' cs hg).mono mono,fun j c hj=>(hM.dx j c hj).cg (fun _ _=>rfl) rfl mono (fun _ _=>rfl),fun j c g' hj cP=>?_,hM.inj,hM.apart,hM.fO,fun b o hb bT=>?_,fun b o hb=>mono b o (hM.dA b o hb),hM.CO⟩
 ·unfold qy at hb;split at hb
  ·omega
  ·exact hM.ro b o hb
 ·obtain⟨h1,h2⟩:=hM.own j c g' hj cP;grind [qy,Option.some.injEq,absurd]
 ·unfold qy at hb;split at hb
  ·grind
  ·exact hM.base b o hb bT
theorem M1(w:World)(g:Nat)(o:Obj):lD g w (w.putObj g o):=⟨⟨rfl,rfl,rfl,by simp,fun k hk=>World.putObj_heap_other (by omega)⟩,fun _=>ajo _⟩
theorem AJ{A:Type}(f:A→Nat):∀{l:List A}{i:Nat}{e:A},l[i]?=some e→(∀(j:Nat)x,l[j]?=some x→f x=f e→j=i)→l.filter (fun x=> !(f x==f e))=l.eraseIdx i
 |[],i,e,h,_=>by rfl
 |y::l,0,e,h,inj=>by simp only[ajK,cN]at h;subst h;simp only[List.filter_cons,BEq.rfl,aji,cQ,S3,List.eraseIdx_cons_zero];rw[al9];intro x hx;obtain⟨j,hj⟩:=ajH.1 hx;simp only[ajN,ak7];intro e;have:=inj (j+1) x (by simpa using hj) e;omega
 |y::l,i+1,e,h,inj=>by
  have h':l[i]?=some e:=by simpa using h
  have cJ:¬f y=f e:=fun e'=>by have:=inj 0 y rfl e';omega
  have hb:(f y==f e)=false:=by simpa using cJ
  simp only[List.filter_cons,hb,ajC,IS,List.eraseIdx_cons_succ];rw[AJ f h' (fun j x hj e'=>by have:=inj (j+1) x (by simpa using hj) e';omega)]
theorem Hz(en:Array MapEntry):lP en #[]=en.toList:=by simp[lP,al9]
variable{en:Array MapEntry}{clock:Nat}{seen:Array Nat}{e:MapEntry}
theorem EI(hb:ml en clock){i:Nat}(hi:(lP en seen)[i]?=some e):lP en (seen.push e.born)=(lP en seen).eraseIdx i:=by
 have h1:lP en (seen.push e.born)=(lP en seen).filter (fun x=> !(x.born==e.born)):=by unfold lP;rw[List.filter_filter];grind
 rw[h1];refine AJ (fun x=>x.born) hi fun j x hj e'=>?_;have hnd:(lP en seen).Pairwise fun a b=>a.born≠b.born:=by
  unfold lP;refine List.Pairwise.filter _ ?_;rw[aj6];intro a b ha jG wb he;have h2:en[a]?=some en.toList[a]:=by simp
  have h3:en[b]?=some en.toList[b]:=by simp
  have:=(hb b _ h3).2 a _ h2 he;omega
 have zK:j<(lP en seen).length:=(By.1 hj).1;have Tp:i<(lP en seen).length:=(By.1 hi).1;grind [List.getElem?_eq_getElem,Option.some.injEq,List.pairwise_iff_getElem,Nat.lt_trichotomy,absurd]
theorem Ru(h:e∈lP en seen):∃i:Nat,en[i]?=some e:=by unfold lP at h;have:=(alW.1 h).1;obtain⟨i,hi⟩:=ajH.1 this;grind
theorem Rv{w:World}{g mg:Nat}(hg:w.heap[g]?=some (.mapIter (some mg) clock seen clock))(hm:w.heap[mg]?=some (.map en clock))(hb:ml en clock)(ty:TypeId):(lP en seen=[]∧(Instr.next (.pointer (some ⟨g,0,none⟩)) false ty).run P w=.ok (.tuple #[.bool false]) w)∨∃(j:Nat)(e:MapEntry)(w1:World),(lP en seen)[j]?=some e∧(w1=w∨w1=w.drew)∧(Instr.next (.pointer (some ⟨g,0,none⟩)) false ty).run P w=.ok (.tuple #[.bool true,e.key,e.val]) (w1.putObj g (.mapIter (some mg) clock (seen.push e.born) clock)):=by
 have hold:∀x∈en.toList,x.born<clock:=fun x hx=>by obtain⟨i,hi⟩:=ajH.1 hx;exact(hb i x (by simp_all)).1
 simp only[Instr.next,getObj,Sem.run_bind,Sem.run,hg,hm,Result.andThen,next_test_false seen en clock clock hold (ajo _),cQ,S3];have hL:(Array.filter (fun e=> !seen.contains e.born) en).toList=lP en seen:=by simp[lP]
 have bX:∀x∈(Array.filter (fun e=> !seen.contains e.born) en).toList,x.born<clock:=fun x hx=>hold x (by grind);generalize Array.filter (fun e=> !seen.contains e.born) en=L at bX hL⊢;have e1:L.filter (fun x=>decide (x.born<clock))=L:=Array.filter_eq_self.2 (fun x hx=>by grind);have e2:L.filter (fun x=>decide (x.born≥clock))= #[]:=by simp_all
 simp only[e1,e2,Array.append_empty];rw[←hL];by_cases h0:L.size=0
 ·left;have:L= #[]:=alh h0;subst this;refine⟨rfl,?_⟩;simp[choose,Sem.run,Question.forced]
 ·right;have cJ:L.isEmpty=false:=by simp[Array.isEmpty,h0]
  simp only[cJ,cQ,S3,Array.empty_append,Array.size_map];have hch:∃(j:Nat)(w1:World),j<L.size∧(w1=w∨w1=w.drew)∧(choose (Question.mapNext L.size)).run P w=.ok j w1:=by
   by_cases hf:L.size≤1
   ·exact⟨0,w,by omega,.inl rfl,by simp[choose,Sem.run,Question.forced,hf]⟩
   ·exact⟨_,w.drew,al4 _ (by omega),.inr rfl,by simp only[choose,Sem.run,Question.forced,AT,hf,S3,Question.cut];rfl⟩
  obtain⟨j,w1,hj,MA,uk⟩:=hch;refine⟨j,L[j],w1,by simp,MA,?_⟩;have hg1:w1.heap[g]?=some (.mapIter (some mg) clock seen clock):=by rcases MA with rfl|rfl<;>exact hg
  have sL:(setObj g (.mapIter (some mg) clock (seen.push L[j].born) clock)).run P w1=.ok () (w1.putObj g (.mapIter (some mg) clock (seen.push L[j].born) clock)):=by simp only[setObj,Sem.run,hg1];rfl
  simp_all
theorem M3{w:World}{g mg:Nat}{i:Nat}(hg:w.heap[g]?=some (.mapIter (some mg) clock seen clock))(hm:w.heap[mg]?=some (.map en clock))(hb:ml en clock)(hi:en[i]?=some e)(hs:seen.back? =some e.born):(Instr.entry (.pointer (some ⟨g,0,none⟩))).run P w=.ok (.tuple #[e.key,e.val]) w:=by
 have hf:en.find? (·.born==e.born)=some e:=by
  rw[←Array.find?_toList];refine find_born e en.toList ?_ (by grind);rw[List.Nodup,List.pairwise_map,aj6];intro a b ha jG wb he;have h2:en[a]?=some en.toList[a]:=by simp
  have h3:en[b]?=some en.toList[b]:=by simp
  have:=(hb b _ h3).2 a _ h2 he;omega
 simp only[Instr.entry,getObj,Sem.run_bind,Sem.run,hg,hm,Result.andThen,hs,bne_self_eq_false,cQ,S3,hf];rfl
end
section
variable {R:Type} {E:Env}
variable{g:Nat→Option R}{r:R}
theorem M4{n:Nat}(h:sW n g=some r)(i:Nat)(hi:i<n):g i=some r:=by
 unfold sW at h;split at h
 ·grind
 ·cases h
theorem EJ{n:Nat}(h0:0<n)(h:∀i,i<n→g i=some r):sW n g=some r:=by unfold sW;have hh:∃r,∀i,i<n→g i=some r:=⟨r,h⟩;rw[amj hh];grind
variable{k:V→Fr→Mem→Option R}
theorem Rw{site:Nat}{t:TypeId}{x:V}{f:Fr}{m:Mem}(h:MJ E site t x f m k=some r):∃f' m',k (.it site) f' m'=some r∧(m' site).isSome=true∧∀(G:Nat→Option (List PV))(w0:bx)(μ:Ro)(φ:Nat→aA)(w:World)(ρ:Nat→Value)(y:Value),av E.P G w0 μ φ m w→bS E.P μ φ m f ρ→af E.P μ φ x y→∃w' y' μ' φ',(Instr.range t y).run E.P w=.ok y' w'∧av E.P G w0 μ' φ' m' w'∧bS E.P μ' φ' m' f' ρ∧af E.P μ' φ' (.it site) y':=by
 unfold MJ at h;split at h
 ·rename_i kt et hu;split at h
  ·rename_i id;split at h
   ·rename_i wE es hm;split at h
    ·obtain⟨f',m',hn,DQ,wH,zj,vZ⟩:=dZ h;refine⟨f',m',DQ,by simp[wH],fun G w0 μ φ w ρ y hM hF hx=>?_⟩;obtain⟨g,en,clock,kk,hg,hh,hs,Aq,O4,yq,hv⟩:=hM.dx id _ hm;obtain⟨o1,o2⟩:=hM.own id _ g hm (.inl hg);cases hx with
     |om cP=>
      rw[hg]at cP;simp only[cN]at cP;subst cP;have vh:=hM.forget id;have hM2:=vh.adQ o1 (fun j b hj e=>by obtain⟨cJ,b',jG,rfl⟩:=fC hj;exact cJ (hM.inj j id b' _ g jG hm (gj.1 e) (.inl hg)));have CZ:=mn vh (some g);have DB:bS E.P (qy μ w (some g)) φ (bg (bD id m) id) (eN id f) ρ:=(hF.forget id).mono CZ fun j hj=>⟨rfl,hj⟩;have lC:∀φ':Nat→aA,φ' site=(Dz (some w.heap.size) 0 0 0)→(∀j,(bH.iter t es none).names j=true→φ' j=φ j)→gG E.P (qy μ w (some g)) φ' (w.alloc (.mapIter (some g) clock #[] clock)) site (.iter t es none):=fun φ' hp _=>by
       refine⟨w.heap.size,g,en,clock,#[],by rw[hp],fE w _,by simp[qy,hh],yq,(by rw[Hz,alv,hs]),fun i k v e h1 h2=>?_,fun k v h=>by cases h⟩;have YS:en[i]?=some e:=by simp_all[ajR,Hz]
       exact⟨(hv i k v e h1 YS).1.mono CZ,(hv i k v e h1 YS).2.mono CZ⟩
      obtain⟨φ',a1,a2,a3⟩:=vZ E.P G w0 _ φ w (w.alloc (.mapIter (some g) clock #[] clock)) ρ (Dz (some w.heap.size) 0 0 0) hM2 DB (lz.alloc (o:=.mapIter (some g) clock #[] clock) hM2 rfl lC (by simp[bH.names]));exact⟨_,_,_,φ',run_range_map w t kt et g en clock hu hh,a2,a3,.it (by rw[a1])⟩
    ·cases h
   ·cases h
  ·cases h
 ·cases h
theorem Uc{x:V}{f:Fr}{m:Mem}(h:TF E x f m k=some r)(G:Nat→Option (List PV))(w0:bx)(μ:Ro)(φ:Nat→aA)(w:World)(y:Value)(ty:TypeId)(hM:av E.P G w0 μ φ m w)(hx:af E.P μ φ x y):∃v m' y' w',k v f m'=some r∧(∀id,v.has id=false)∧kn m m'∧(Instr.next y false ty).run E.P w=.ok y' w'∧av E.P G w0 μ φ m' w'∧af E.P μ φ v y':=by
 unfold TF at h;split at h
 ·rename_i id;split at h
  ·rename_i t es cur hm;split at h
   ·rename_i kt et hu;obtain⟨g,mg,en,clock,seen,hg,hh,JR,yq,Ep,hv,_⟩:=hM.dx id _ hm;obtain⟨o1,o2⟩:=hM.own id _ g hm (.inl hg);cases hx with
    |it cP=>
     rw[hg]at cP;simp only[cN]at cP;subst cP;have hmg:=hM.ro _ _ JR;rcases Rv (P:=E.P) hh hmg yq ty with⟨abz,uk⟩|⟨j,e,w1,hj,M5,uk⟩
     ·have:es=[]:=by grind
      subst this;simp only[List.isEmpty_nil,IS]at h;refine⟨_,m,_,w,h,by simp[V.has,b8],kn.refl m,uk,hM,.aP rfl fun i p x hp hx=>?_⟩;cases i with
      |zero=>simp at hp hx;subst hp;subst hx;exact .pv .bool
      |succ i=>simp at hp
     ·have zK:j<(lP en seen).length:=(By.1 hj).1;have cJ:¬es.isEmpty=true:=by grind
      rw[No cJ]at h;have h:=M4 h j (by omega);obtain⟨e0,Ud,h⟩:=cT.1 h;obtain⟨qa,_,ha,ra,_⟩:=lV h;obtain⟨qb,_,hb,rb,_⟩:=lV ha;obtain⟨rk,rv⟩:=hv j e0.1 e0.2 e Ud hj;refine⟨_,_,_,_,hb,by simp[V.has,b8],.set,uk,?_,.aP rfl fun i p x hp hx=>?_⟩
      ·have vh:av E.P G w0 μ φ m w1:=by rcases M5 with rfl|rfl;exact hM;exact hM.drew
       have bT:g<w1.heap.size:=by have:g<w.heap.size:=(abi.1 hh).1;rcases M5 with rfl|rfl<;>exact this
       refine vh.write hm rfl hg (M1 w1 g _) World.putObj_size (fun k hk=>World.putObj_heap_other hk) ?_ rfl (by simp[bH.names]);refine⟨g,mg,en,clock,seen.push e.born,hg,World.putObj_heap_same bT,JR,yq,?_,fun i k v e' h1 h2=>?_,fun k v hc=>?_⟩
       ·rw[EI yq hj,al5,al5,Ep]
       ·rw[EI yq hj]at h2;grind
       ·simp only[cN,aab]at hc;obtain⟨rfl,rfl⟩:=hc;obtain⟨i,hi⟩:=Ru (agx hj);grind
      ·match i with
       |0=>simp at hp hx;subst hp;subst hx;exact .pv .bool
       |1=>simp at hp hx;subst hp;subst hx;exact .pv (ra _ _ _ rk)
       |2=>simp at hp hx;subst hp;subst hx;exact .pv (rb _ _ _ rv)
       |i+3=>simp at hp
   ·cases h
  ·cases h
 ·cases h
theorem Rx{x:V}{m:Mem}{k:V→Mem→Option R}(h:MK x m k=some r)(P:Program)(G:Nat→Option (List PV))(w0:bx)(μ:Ro)(φ:Nat→aA)(w:World)(y:Value)(hM:av P G w0 μ φ m w)(hx:af P μ φ x y):∃v m' y',k v m'=some r∧(∀id,v.has id=false)∧kn m m'∧(Instr.entry y).run P w=.ok y' w∧av P G w0 μ φ m' w∧af P μ φ v y':=by
 unfold MK at h;split at h
 ·rename_i id;split at h
  ·rename_i t es a b hm;obtain⟨g,mg,en,clock,seen,hg,hh,JR,yq,Ep,hv,hcu⟩:=hM.dx id _ hm;obtain⟨i,e,hi,hs,ra,rb⟩:=hcu a b rfl;cases hx with
   |it cP=>
    rw[hg]at cP;simp only[cN]at cP;subst cP;refine⟨_,_,_,h,by simp[V.has,b8],.set,M3 hh (hM.ro _ _ JR) yq hi hs,?_,.aP rfl fun i p x hp hx=>?_⟩
    ·exact hM.write hm rfl hg (lD.refl _ _) rfl (fun _ _=>rfl) ⟨g,mg,en,clock,seen,hg,hh,JR,yq,Ep,hv,fun k v h=>by cases h⟩ rfl (by simp[bH.names])
    match i with
    |0=>simp at hp hx;subst hp;subst hx;exact .pv ra
    |1=>simp at hp hx;subst hp;subst hx;exact .pv rb
    |i+2=>simp at hp
  ·cases h
 ·cases h
end
section
variable {P:Program} {G:Nat→Option (List PV)} {w0:bx} {μ μ':Ro} {φ φ':Nat→aA} {m m':Mem} {w w':World}
variable{id j:Nat}{b:bH}
theorem iR(h:eV id m j=some b):∃b',m j=some b'∧b=dI id b':=by unfold eV at h;grind
theorem pe:(eV id m j).isSome=(m j).isSome:=by unfold eV;cases m j<;>rfl
theorem C0(id:Nat)(b:bH):(dI id b).rowAt=b.rowAt:=by cases b<;>rfl
theorem rI{p:aA}{g:Nat}:(dI id b).owns p g↔b.owns p g:=by unfold bH.owns;rw[C0]
theorem wW{p:aA}:(dI id b).apart p↔b.apart p:=by unfold bH.apart;rw[C0]
theorem zO(id:Nat)(b:bH):(dI id b).jO=b.jO:=by cases b<;>rfl
theorem M6{cs:List V}(h:b8 j (cs.map (oB id))=true):b8 j cs=true:=by obtain⟨v,hv,hh⟩:=cy.1 h;obtain⟨u,hu,rfl⟩:=ajy.1 hv;exact bK hu (yt hh).1
theorem gG.zb{id j:Nat}{b:bH}(h:gG P μ φ w j b):gG P μ φ w j (dI id b):=by
 cases b with
 |box cs=>obtain⟨g,c,T,hg,hh,hs,hv,h1,Ep⟩:=h;refine⟨g,c,T,hg,hh,by simpa using hs,fun i v x hi hx=>?_,h1,by simpa using Ep⟩;simp only[IN,adr]at hi;obtain⟨u,hu,rfl⟩:=hi;exact(hv i u x hu hx).zb id
 |_=>exact h
theorem av.vj(hM:av P G w0 μ φ m w)(id:Nat):av P G w0 μ φ (eV id m) w:=by
 refine⟨hM.below,hM.ro,hM.aG,fun j b h=>?_,fun j b g h hg=>?_,fun i j b1 b2 g h1 h2 g1 g2=>?_,fun j b h=>?_,fun j cs i h hh=>?_,hM.base,hM.dA,fun j st h=>?_⟩
 ·obtain⟨b',hb,rfl⟩:=iR h;exact(hM.dx j b' hb).zb
 ·obtain⟨b',hb,rfl⟩:=iR h;rw[zO];exact hM.own j b' g hb (rI.1 hg)
 ·obtain⟨b1',TW,rfl⟩:=iR h1;obtain⟨b2',ux,rfl⟩:=iR h2;exact hM.inj i j b1' b2' g TW ux (rI.1 g1) (rI.1 g2)
 ·obtain⟨b',hb,rfl⟩:=iR h;exact wW.2 (hM.apart j b' hb)
 ·obtain⟨b',hb,e⟩:=iR h;cases b' with
  |box MS=>simp only[dI,bH.box.injEq]at e;subst e;rw[pe];exact hM.fO j MS i hb (M6 hh)
  |_=>simp[dI]at e
 ·obtain⟨b',hb,e⟩:=iR h;cases b' with
  |loop st'=>simp only[dI,bH.loop.injEq]at e;subst e;exact hM.CO j st hb
  |_=>simp[dI]at e
variable{ρ:Nat→Value}
theorem bS.vj{f:Fr}(h:bS P μ φ m f ρ)(id:Nat):bS P μ φ (eV id m) (ir id f) ρ:=⟨fun t=>(h.fr t).zb id,fun t j hj=>by rw[pe];exact h.live t j (yt hj).1⟩
theorem av.km:∀{kl:Kl}{m:Mem},av P G w0 μ φ m w→av P G w0 μ φ (Go.Ab.km kl m) w
 |[],_,h=>h
 |(true,id)::r,m,h=>(av.km (kl:=r) (m:=bg (bD id m) id) (h.forget id):)
 |(false,id)::r,m,h=>(av.km (kl:=r) (m:=eV id m) (h.vj id):)
theorem bS.km{ρ:Nat→Value}:∀{kl:Kl}{m:Mem}{f:Fr},bS P μ φ m f ρ→bS P μ φ (Go.Ab.km kl m) (kf kl f) ρ
 |[],_,_,h=>h
 |(true,id)::r,m,f,h=>(bS.km (kl:=r) (m:=bg (bD id m) id) (f:=eN id f) (h.forget id):)
 |(false,id)::r,m,f,h=>(bS.km (kl:=r) (m:=eV id m) (f:=ir id f) (h.vj id):)
theorem av.Pf(hM:av P G w0 μ φ m w)(nw:Nat→Nat→Nat)(hblk:∀j b',m' j=some b'→gG P μ φ' w j b')(zM:∀j b' g,m' j=some b'→b'.owns (φ' j) g→∃k b,m k=some b∧b.owns (φ k) g∧(b'.jO=true→b.jO=true)∧j=nw g k)(GB:∀j b',m' j=some b'→b'.apart (φ' j))(CN:∀j cs id,m' j=some (.box cs)→b8 id cs=true→(m' id).isSome=true)(ag6:∀j st,m' j=some (.loop st)→m j=some (.loop st)∧(φ' j).g=(φ j).g):av P G w0 μ φ' m' w:=by
 refine⟨hM.below,hM.ro,hM.aG,hblk,fun j b' g h hg=>?_,fun i j b1 b2 g h1 h2 g1 g2=>?_,GB,CN,hM.base,hM.dA,fun j st h=>?_⟩
 ·obtain⟨k,b,hk,ho,JR,_⟩:=zM j b' g h hg;obtain⟨o1,o2⟩:=hM.own k b g hk ho;simp_all
 ·obtain⟨k1,c1,Ry,ho1,_,e1⟩:=zM i b1 g h1 g1;obtain⟨k2,c2,Rz,ho2,_,e2⟩:=zM j b2 g h2 g2;rw[e1,e2,hM.inj k1 k2 c1 c2 g Ry Rz ho1 ho2]
 ·obtain⟨h1,h2⟩:=ag6 j st h;obtain⟨g,rc,r1,r2,r3⟩:=hM.CO j st h1;simp_all
def kN(p:aA)(i off:Nat)(r:CP):aA:={p with row:=fun a b=>if a=i∧b=off then r else p.row a b}
theorem gr(p:aA)(i off:Nat)(r:CP):(kN p i off r).row i off=r:=by simp[kN]
theorem gH(p:aA){i off a b:Nat}(r:CP)(h:¬(a=i∧b=off)):(kN p i off r).row a b=p.row a b:=by simp[kN,h]
theorem gG.Pg(h:gG P μ φ w j (dI id b))(hj:j≠id)(h0:(φ' id).toCP=(φ id).toCP)(hφ:∀k,k≠id→φ' k=φ k):gG P μ φ' w j (dI id b):=by
 have e:=hφ j hj;cases b with
 |box cs=>
  obtain⟨g,c,T,hg,hh,hs,hv,h1,Ep⟩:=h;refine⟨g,c,T,by rw[e];omega,hh,hs,fun i v x hi hx=>?_,h1,by rw[e];omega⟩;refine(hv i v x hi hx).aas (fun _ _ h=>h) fun k hk=>?_;by_cases hki:k=id
  ·subst hki;refine⟨h0,fun h2=>?_⟩;simp only[IN,adr]at hi;obtain⟨u,hu,rfl⟩:=hi;rw[(yt hk).2]at h2;cases h2
  simp_all
 |arr sz et es=>exact gG.cg h (fun k hk=>by simp[bH.names,dI]at hk) e (fun _ _ h=>h) (fun _ _=>rfl)
 |qT sz et es=>exact gG.cg h (fun k hk=>by simp[bH.names,dI]at hk) e (fun _ _ h=>h) (fun _ _=>rfl)
 |map kt es=>exact gG.cg h (fun k hk=>by simp[bH.names,dI]at hk) e (fun _ _ h=>h) (fun _ _=>rfl)
 |nest sz et es=>exact gG.cg h (fun k hk=>by simp[bH.names,dI]at hk) e (fun _ _ h=>h) (fun _ _=>rfl)
 |fa kt e0 es=>exact gG.cg h (fun k hk=>by simp[bH.names,dI]at hk) e (fun _ _ h=>h) (fun _ _=>rfl)
 |loop st=>exact gG.cg h (fun k hk=>by simp[bH.names,dI]at hk) e (fun _ _ h=>h) (fun _ _=>rfl)
 |iter t es cur=>exact gG.cg h (fun k hk=>by simp[bH.names,dI]at hk) e (fun _ _ h=>h) (fun _ _=>rfl)
theorem bS.aax{f:Fr}(h:bS P μ φ m (ir id f) ρ)(h0:(φ' id).toCP=(φ id).toCP)(hφ:∀k,k≠id→φ' k=φ k)(hl:∀j,(m j).isSome=true→(m' j).isSome=true):bS P μ φ' m' (ir id f) ρ:=by
 refine⟨fun t=>(h.fr t).aas (fun _ _ h=>h) fun k hk=>?_,fun t j hj=>hl j (h.live t j hj)⟩;by_cases hki:k=id
 ·subst hki;refine⟨h0,fun h2=>?_⟩;have:=(yt (show(oB k (f t)).has k=true from hk)).2;rw[show ir k f t=oB k (f t)from rfl,this]at h2;cases h2
 simp_all
theorem fD{id2:Nat}{b':bH}(h:ao (eV id (bg (bD id2 m) id2)) id b j=some b'):(j=id∧b'=b)∨(j≠id∧j≠id2∧∃c,m j=some c∧b'=dI id (gq id2 c)):=by
 by_cases e:j=id
 ·simp_all
 ·rw[aq e]at h;obtain⟨c1,h1,rfl⟩:=iR h;obtain⟨cJ,c,hc,rfl⟩:=fC h1;simp_all
theorem M7{x:Value}(h:af P μ φ (.os id) x):af P μ (fun _=>((φ id).toCP).up) (.os 0) x:=by
 cases h with
 |sK h=>exact .sK h
 |os h=>exact .os (id:=0) (φ:=fun _=>((φ id).toCP).up) h
theorem aH.up{sz:Nat}{et:TypeId}{es:List PV}(h:aH P μ φ w id sz et es):aH P μ (fun _=>((φ id).toCP).up) w 0 sz et es:=h
theorem av.abA(hM:av P G w0 μ φ m w){id2 i off s s2:Nat}{et KA:TypeId}{es rs:List PV}{e q:PV}{x:Value}(cJ:id2≠id)(hm:m id=some (.nest s et es))(cK:m id2=some (.arr s2 KA rs))(he:es[i]?=some e)(AH:e.cells[off]?=some .bad)(hx:∀g c T,(φ id).g=some g→w.heap[g]?=some (.cells c T (0,0))→c[i*s+off]?=some x)(hv:af P μ φ (.os id2) x)(hq:q.cells=e.cells.set off (.qE s2 rs)):av P G w0 μ (fun j=>if j=id then kN (φ id) i off (φ id2).toCP else φ j) (ao (eV id (bg (bD id2 m) id2)) id (.nest s et (es.set i q))) w:=by
 have vh:=(hM.forget id2).vj id;have hN:aX P μ φ w id s et es:=hM.dx id _ hm;have hA2:aH P μ φ w id2 s2 KA rs:=hM.dx id2 _ cK;have Tp:i<es.length:=(By.1 he).1;have hol:off<e.cells.length:=(By.1 AH).1;have mS:∀a b,(bH.nest s et (es.set i q)).rowAt a b=true→(a=i∧b=off)∨((bH.nest s et es).rowAt a b=true∧¬(a=i∧b=off)):=by
  intro a b hr;by_cases wb:a=i∧b=off
  ·exact .inl wb
  ·refine .inr ⟨?_,wb⟩;rcases kj hr with⟨_,_,_,e',s',rs',jG,h',uz⟩|⟨_,_,_,_,_,_,jG,_⟩
   ·simp only[bH.nest.injEq]at jG;obtain⟨rfl,rfl,rfl⟩:=jG;rcases eO h' with⟨rfl,rfl⟩|⟨Yj,h'⟩
    ·rw[hq]at uz;rcases eO uz with⟨rfl,_⟩|⟨hnj,uz⟩
     ·exact absurd ⟨rfl,rfl⟩ wb
     ·rw[dt he uz];rfl
    ·rw[dt h' uz];rfl
   ·cases jG
 refine hM.Pf (fun _ k=>if k=id2 then id else k) (fun j b' hj=>?_) (fun j b' g hj ho=>?_) (fun j b' hj=>?_) (fun j cs k hj hk=>?_) (fun j st hj=>?_)
 ·rcases fD hj with⟨rfl,rfl⟩|⟨h1,h2,c,hc,rfl⟩
  ·show aX P μ (fun k=>if k=j then kN (φ j) i off (φ id2).toCP else φ k) w j s et (es.set i q);refine aX.change (μ':=μ) (w':=w) (es':=es.set i q) hN (by simp) (fun i' e' h'=>?_) (by simp[kN]) (fun _ _=>rfl) (fun i' e' j' p' g c T x' h' uz hg hc IG hold=>?_)
   ·rcases eO h' with⟨_,rfl⟩|⟨_,h'⟩
    ·rw[hq,akX];exact hN.2.2.2.2.1 i e he
    ·exact hN.2.2.2.2.1 i' e' h'
   ·simp only[IS];by_cases wb:i'=i∧j'=off
    ·obtain⟨rfl,rfl⟩:=wb;rw[gr];have e1:e'=q:=by
      rcases eO h' with⟨_,h⟩|⟨h,_⟩
      ·exact h
      ·exact absurd rfl h
     subst e1;rw[hq]at uz;have e2:p'=.qE s2 rs:=by
      rcases eO uz with⟨_,h⟩|⟨h,_⟩
      ·exact h
      ·exact absurd rfl h
     subst e2;have e3:x'=x:=by have:=hx g c _ hg hc;rw[IG]at this;simpa using this
     subst e3;exact⟨⟨KA,hA2.up⟩,M7 hv⟩
    ·rw[gH _ _ wb];rcases eO h' with⟨rfl,rfl⟩|⟨Yj,h'⟩
     ·rw[hq]at uz;rcases eO uz with⟨rfl,_⟩|⟨hnj,uz⟩
      ·exact absurd ⟨rfl,rfl⟩ wb
      ·exact hold e p' he uz
     ·exact hold e' p' h' uz
  ·have hb:gG P μ φ w j (dI id (gq id2 c)):=(hM.dx j c hc).kill.zb;exact hb.Pg h1 (by simp[kN]) fun k hk=>by simp[hk]
 ·rcases fD hj with⟨rfl,rfl⟩|⟨h1,h2,c,hc,rfl⟩
  ·simp only[IS]at ho;rcases ho with ho|⟨a,b,hr,ho⟩
   ·exact⟨j,_,hm,.inl ho,fun _=>rfl,by simp[cJ.symm]⟩
   ·rcases mS a b hr with⟨rfl,rfl⟩|⟨wF,wb⟩
    ·rw[gr]at ho;exact⟨id2,_,cK,.inl ho,fun _=>rfl,by simp⟩
    ·rw[gH _ _ wb]at ho;exact⟨j,_,hm,.inr ⟨a,b,wF,ho⟩,fun _=>rfl,by simp[cJ.symm]⟩
  ·simp only[h1,S3]at ho;exact⟨j,c,hc,gj.1 (rI.1 ho),fun h=>by rw[zO,yA]at h;exact h,by simp[h2]⟩
 ·rcases fD hj with⟨rfl,rfl⟩|⟨h1,h2,c,hc,rfl⟩
  ·simp only[IS];have GB:=hM.apart j _ hm;have new:∀g,(φ id2).g=some g→¬(bH.nest s et es).owns (φ j) g:=fun g hg ho=>cJ (hM.inj id2 j _ _ g cK hm (.inl hg) ho);intro a b g hr hg;rcases mS a b hr with⟨rfl,rfl⟩|⟨wF,wb⟩
   ·rw[gr]at hg;refine⟨fun h=>new g hg (.inl h),fun a' b' RA IM=>?_⟩;rcases mS a' b' RA with h|⟨YT,M8⟩
    ·exact h
    ·rw[gH _ _ M8]at IM;exact absurd (.inr ⟨a',b',YT,IM⟩) (new g hg)
   ·rw[gH _ _ wb]at hg;obtain⟨h3,h4⟩:=GB a b g wF hg;refine⟨h3,fun a' b' RA IM=>?_⟩;rcases mS a' b' RA with⟨rfl,rfl⟩|⟨YT,M8⟩
    ·rw[gr]at IM;exact absurd (.inr ⟨a,b,wF,hg⟩) (new g IM)
    ·rw[gH _ _ M8]at IM;exact h4 a' b' YT IM
  ·simp only[h1,S3];exact wW.2 (vg.2 (hM.apart j c hc))
 ·rcases fD hj with⟨rfl,hb⟩|⟨h1,h2,c,hc,hb⟩
  ·cases hb
  ·have Yl:eV id (bg (bD id2 m) id2) j=some (.box cs):=by rw[aq h1]at hj;exact hj
   have:=vh.fO j cs k Yl hk;by_cases e:k=id
   ·subst e;simp
   ·rw[aq e];exact this
 ·rcases fD hj with⟨rfl,hb⟩|⟨h1,h2,c,hc,hb⟩
  ·cases hb
  ·cases c<;>first|(simp[dI,gq]at hb;done)|skip
   simp only[dI,gq,bH.loop.injEq]at hb;subst hb;exact⟨hc,by simp[h1]⟩
end
def mT(k:PV):List (PV×PV)→Option Nat
 |[]=>none
 |(a,_)::r=>if cz k.cells a.cells then some 0 else(mT k r).map (·+1)
def jP(es:List (PV×PV)):List (PV×PV):=es.map fun x=>(x.1,.bad)
theorem EK(k:PV):∀es,mT k (jP es)=mT k es
 |[]=>rfl
 |(a,u)::r=>by simp only[jP,ajr,mT];rw[←EK k r];rfl
theorem DR{k:PV}:∀{es:List (PV×PV)}{j:Nat},mT k es=some j→∃a u,es[j]?=some (a,u)∧cz k.cells a.cells=true
 |(a,u)::r,j,h=>by
  simp only[mT]at h;split at h
  ·rename_i hp;simp only[cN]at h;subst h;simp_all
  ·obtain⟨i,hi,rfl⟩:=adr.1 h;simpa using DR hi
theorem ni(k v:PV):∀es,df k v es=match mT k es with|some j=>es.set j (k,v)|none=>es++[(k,v)]
 |[]=>rfl
 |(a,u)::r=>by
  simp only[df,mT];split
  ·rfl
  ·rw[ni k v r];cases mT k r<;>rfl
theorem uB(k:PV):∀es,uh k es=match mT k es with|some j=>es.modify j fun x=>(x.1,.bad)|none=>es
 |[]=>rfl
 |(a,u)::r=>by
  simp only[uh,mT];split
  ·rfl
  ·rw[uB k r];cases mT k r<;>simp
theorem KB(sz:Nat)(k:PV):∀es,J6 sz k es=match mT k es with|some j=>(es[j]?).bind fun x=>fb sz x.2|none=>some []
 |[]=>rfl
 |(a,u)::r=>by
  simp only[J6,mT];split
  ·simp
  ·rw[KB sz k r];cases mT k r<;>simp
theorem HA{k z:PV}{l:List (PV×PV)}{es:List MapEntry}{i:Nat}{r:Option (Nat×Value)}(h:Found k .q8 z (jP l) es i r):(r=none∧mT k l=none)∨∃j e,r=some (i+j,e.val)∧es[j]?=some e∧mT k l=some j:=by
 cases h with
 |none h1 h2 h3=>
  refine .inl ⟨rfl,?_⟩;rw[ni]at h3;rw[←EK];cases hp:mT k (jP l)with
  |none=>rfl
  |some j=>rw[hp]at h3;have:=congrArg List.length h3;simp at this
 | @some j a u e h1 h2 h3 h4 h5 h6=>
  refine .inr ⟨j,e,rfl,h2,?_⟩;rw[ni]at h6;rw[←EK];have bT:j<(jP l).length:=(By.1 h1).1;cases hp:mT k (jP l)with
  |none=>rw[hp]at h6;have:=congrArg List.length h6;simp at this
  |some j'=>
   rw[hp]at h6;simp only at h6;obtain⟨a',u',Yl,_⟩:=DR hp;have YU:j'<(jP l).length:=(By.1 Yl).1;have e1:((jP l).set j (k,.q8))[j']?=some (k,.q8):=by rw[←h6];simp[YU]
   grind [jP,Option.map_eq_some_iff]
section
variable {P:Program} {G:Nat→Option (List PV)} {w0:bx} {μ μ':Ro} {φ φ':Nat→aA} {m m':Mem} {w w':World}
def EL(P:Program)(μ:Ro)(R:CP)(w:World)(e0:TypeId)(v:PV)(x:Value):Prop:=match v with
 |.qE s rs=>aH P μ (fun _=>R.up) w 0 s e0 rs∧af P μ (fun _=>R.up) (.os 0) x
 |v=>ai P μ v x
variable{e0:TypeId}
theorem EL.pure{R:CP}{v:PV}{x:Value}(h:ai P μ v x):EL P μ R w e0 v x:=by
 unfold EL;split
 ·cases h
 omega
structure M9(P:Program)(μ:Ro)(p:aA)(w:World)(kt e0:TypeId)(es:List (PV×PV))(g:Nat)(en:Array MapEntry)(clock:Nat)(kk:List Kd):Prop where
 pl:p.g=some g
 heap:w.heap[g]?=some (.map en clock)
 size:en.size=es.length
 BP:sU P kt=some kk
 key:∀(i:Nat)k v,es[i]?=some (k,v)→vP P kt kk k=true
 born:ml en clock
 rep:∀(i:Nat)k v e,es[i]?=some (k,v)→en[i]?=some e→ai P μ k e.key∧EL P μ (p.row i 0) w e0 v e.val
variable{kt:TypeId}{es:List (PV×PV)}
theorem uC{id:Nat}:gG P μ φ w id (.fa kt e0 es)↔∃g en clock kk,M9 P μ (φ id) w kt e0 es g en clock kk:=by
 constructor
 ·rintro⟨g,en,clock,kk,h1,h2,h3,h4,h5,h6,h7⟩;exact⟨g,en,clock,kk,h1,h2,h3,h4,h5,h6,fun i k v e a b=>h7 i k v e a b⟩
 ·rintro⟨g,en,clock,kk,h1,h2,h3,h4,h5,h6,h7⟩;exact⟨g,en,clock,kk,h1,h2,h3,h4,h5,h6,fun i k v e a b=>h7 i k v e a b⟩
variable{en:Array MapEntry}
theorem M9.ent{p:aA}{g:Nat}{clock:Nat}{kk:List Kd}(h:M9 P μ p w kt e0 es g en clock kk):wU P μ kt kk (jP es) en.toList:=by
 refine⟨by simp[jP,h.size],fun i k v hi=>?_,fun i k v e hi he=>?_⟩
 ·simp only[jP,IN,adr]at hi;obtain⟨⟨a,u⟩,hq,hx⟩:=hi;simp only[aab]at hx;obtain⟨rfl,rfl⟩:=hx;exact h.key i a u hq
 ·simp only[jP,IN,adr]at hi;obtain⟨⟨a,u⟩,hq,hx⟩:=hi;simp only[aab]at hx;obtain⟨rfl,rfl⟩:=hx;exact⟨(h.rep i a u e hq (by simpa using he)).1,.bad⟩
theorem EM{t et:TypeId}{ks:List Kd}{key:PV}{zv yi:Value}{g clock:Nat}{l:List (PV×PV)}(hu:P.underlying t=some (.map kt et))(hk:sU P kt=some ks)(yX:vP P kt ks key=true)(hyi:ai P μ key yi)(hg:w.heap[g]?=some (.map en clock))(hE:wU P μ kt ks (jP l) en.toList)(hz:(zeroValue et).run P w=.ok zv w):(mT key l=none∧(Instr.lookup t (.map (some g)) yi false).run P w=.ok zv w)∨∃j e,mT key l=some j∧en[j]?=some e∧(Instr.lookup t (.map (some g)) yi false).run P w=.ok e.val w:=by
 have Rp:=yD hk;obtain⟨hc,hv⟩:=mN yX hyi;obtain⟨r,r1,r2⟩:=lY (v:=.q8) (z:=.bad) Rp hc w hE;have h1:=iB 8 kt ks Rp 9992 w en.isEmpty key.cells hc;have GA:=Go.MapKept.run_getObj_map (P:=P) hg;have h1':(Instr.checkKey en.isEmpty 10000 kt (eD P kt key.cells)).run P w=.ok () w:=h1;rw[hv];unfold Instr.lookup;simp only[Sem.run_bind,run_underlying hu,Result.andThen_ok,Sem.run_pure,GA];rcases HA r2 with⟨rfl,h⟩|⟨j,e,rfl,he,h⟩
 ·simp_all
 simp_all
end
section
variable {R:Type} {E:Env}
theorem Na{t:TypeId}(h:zeroV E.P t=some .iq)(w:World):(zeroValue t).run E.P w=.ok (.slice none 0 0) w:=by unfold zeroV at h;obtain⟨c,hc,h⟩:=adr.1 h;obtain⟨i,hi,hz⟩:=cT.1 hc;have:=ur (P:=E.P) (μ:=fun _=>none) (φ:=fun _=>default) c;rw[h]at this;cases this;exact pd hi hz
theorem Ue{site:Nat}{t:TypeId}{x ix:V}{m:Mem}{k:V→Mem→bq→Option R}{r:R}(h:Ka E site t x ix m k=some r):∃id b1 b2 m',m'=ue [(id,b1),(site,b2)] m∧k (.os site) m' [(true,id),(true,site)]=some r∧m site=none∧b2.names=(fun _=>false)∧b1.names=(fun _=>false)∧(m id).isSome=true∧(∀m2:Mem,m2 id=m id→m2 site=none→∀(R':Type)(k':V→Mem→bq→Option R'),Ka E site t x ix m2 k'=k' (.os site) (ue [(id,b1),(site,b2)] m2) [(true,id),(true,site)])∧∀(G:Nat→Option (List PV))(w0:bx)(μ:Ro)(φ:Nat→aA)(w:World)(f:Fr)(ρ:Nat→Value)(y yi:Value),av E.P G w0 μ φ m w→bS E.P μ φ m f ρ→af E.P μ φ x y→af E.P μ φ ix yi→∃u φ',(Instr.lookup t y yi false).run E.P w=.ok u w∧av E.P G w0 μ φ' m' w∧bS E.P μ φ' m' f ρ∧af E.P μ φ' (.os site) u:=by
 unfold Ka at h;split at h
 ·rename_i kt et hu;split at h
  ·rename_i e hue;split at h
   ·rename_i id hz;split at h
    ·rename_i wE e' es hm hs;split at h
     ·rename_i hc;obtain⟨rfl,rfl,ff⟩:=hc;obtain⟨key,yX,h⟩:=cT.1 h;obtain⟨rs,YV,h⟩:=cT.1 h;obtain⟨ks,k1,k2,k3⟩:=uA yX;have cJ:site≠id:=fun e=>by simp_all
      refine⟨id,.fa wE e' (uh key es),.arr (aO E.P e') e' rs,_,rfl,h,hs,rfl,rfl,by rw[hm];rfl,fun m2 h1 h2 R' k'=>?_,fun G w0 μ φ w f ρ y yi hM hF hx hi=>?_⟩
      ·simp only[Ka,hu,hue,hz,h1,h2,hm,yX,YV,ajn,ff,and_self,IS];rfl
      ·obtain⟨g,en,clock,kk,hN⟩:=uC.1 (hM.dx id _ hm);have Aq:=hN.BP;rw[k1]at Aq;simp only[cN]at Aq;subst Aq;cases hx with
       |om cP=>
        rw[hN.pl]at cP;simp only[cN]at cP;subst cP;have RB:=EM hu k1 k2 (k3 μ φ yi hi) hN.heap hN.ent (Na hz w);have Uf:∀i off,(bH.fa wE e' (uh key es)).rowAt i off=true→(bH.fa wE e' es).rowAt i off=true∧mT key es≠some i:=by
         intro i off hr;rcases kj hr with⟨_,_,_,_,_,_,hb,_⟩|⟨_,_,_,k0,s0,rs0,hb,rfl,he⟩
         ·cases hb
         ·simp only[bH.fa.injEq]at hb;obtain⟨rfl,rfl,rfl⟩:=hb;rw[uB]at he;cases hp:mT key es with
          |none=>rw[hp]at he;simp only at he;exact⟨by rw[kh he];rfl,by simp⟩
          |some j=>
           rw[hp]at he;simp only[alo]at he;split at he
           ·simp_all
           ·rename_i hji;have he:es[i]?=some (k0,PV.qE s0 rs0):=by simpa using he
            exact⟨by rw[kh he];rfl,fun h=>hji (by simpa using h)⟩
        have vh:av E.P G w0 μ φ (ao m id (.fa wE e' (uh key es))) w:=by
         refine hM.write hm rfl hN.pl (lD.refl _ _) rfl (fun _ _=>rfl) (uC.2 ⟨g,en,clock,ks,hN.pl,hN.heap,?_,k1,fun i k0 v0 h0=>?_,hN.born,fun i k0 v0 e0 h0 Ud=>?_⟩) rfl (by simp[bH.names]) (fun st h=>by cases h) (fun i off hr=>(Uf i off hr).1)
         ·rw[hN.size,uB];grind
         ·rw[uB]at h0;cases hp:mT key es with
          |none=>rw[hp]at h0;exact hN.key i k0 v0 h0
          |some j=>
           rw[hp]at h0;simp only[alo]at h0;obtain⟨x0,Rk,hq⟩:=adr.1 h0;obtain⟨xa,xu⟩:=x0;split at hq
           ·simp only[aab]at hq;rw[←hq.1];exact hN.key i xa xu Rk
           ·simp only[id_eq,aab]at hq;rw[←hq.1];exact hN.key i xa xu Rk
         ·rw[uB]at h0;cases hp:mT key es with
          |none=>rw[hp]at h0;exact hN.rep i k0 v0 e0 h0 Ud
          |some j=>
           rw[hp]at h0;simp only[alo]at h0;obtain⟨x0,Rk,hq⟩:=adr.1 h0;obtain⟨xa,xu⟩:=x0;obtain⟨q1,q2⟩:=hN.rep i xa xu e0 Rk Ud;split at hq
           ·simp only[aab]at hq;obtain⟨rfl,rfl⟩:=hq;exact⟨q1,.pure .bad⟩
           simp_all
        have adR:∀(ph:aA)(u:Value),aH E.P μ (fun _=>ph) w 0 (aO E.P e') e' rs→af E.P μ (fun _=>ph) (.os 0) u→(∀g',ph.g=some g'→∃j,mT key es=some j∧(bH.fa wE e' es).rowAt j 0=true∧((φ id).row j 0).g=some g')→∃φ',av E.P G w0 μ φ' (ue [(id,.fa wE e' (uh key es)),(site,.arr (aO E.P e') e' rs)] m) w∧bS E.P μ φ' (ue [(id,.fa wE e' (uh key es)),(site,.arr (aO E.P e') e' rs)] m) f ρ∧af E.P μ φ' (.os site) u:=by
         intro ph u hA hV GA;have Ks:∀j,(m j).isSome=true→j≠site:=fun j hj e=>by simp_all
         refine⟨fun i=>if i=site then ph else φ i,?_,?_,?_⟩
         ·refine vh.put (by rw[aq cJ];omega) (lD.refl _ _) hM.ro (fun _ _ _ _ _=>rfl) (fun g' cP=>?_) (rD qU) ?_ (by simp[bH.names]) (fun st h=>by cases h)
          ·have cP:=oZ qU cP;obtain⟨j,hj,hr,hjg⟩:=GA g' cP;obtain⟨o1,o2⟩:=hM.own id _ g' hm (.inr ⟨j,0,hr,hjg⟩);refine⟨o1,o2 rfl,fun i b' hi ho=>?_⟩;by_cases hii:i=id
           ·subst hii;rw[bM]at hi;simp only[cN]at hi;subst hi;obtain⟨a1,a2⟩:=hM.apart i _ hm j 0 g' hr hjg;rcases ho with ho|⟨i',vb,wF,ho⟩
            ·exact a1 ho
            grind
           ·rw[aq hii]at hi;exact hii (hM.inj i id _ _ g' hi hm ho (.inr ⟨j,0,hr,hjg⟩))
          ·exact aH.move (φ':=fun i=>if i=site then ph else φ i) (j:=site) hA (by simp) (fun _ _ h=>h)
         ·refine hF.mono (fun _ _ h=>h) fun j hj=>⟨by simp[Ks j hj],?_⟩;show(ao (ao m id _) site _ j).isSome=true;rw[aq (Ks j hj)];by_cases hji:j=id
          ·subst hji;simp
          ·rw[aq hji];omega
         ·cases hV with
          |sK h=>exact .sK (by simpa using h)
          | @os _ g0 h=>have:=af.os (P:=E.P) (μ:=μ) (φ:=fun i=>if i=site then ph else φ i) (id:=site) (g:=g0) (by simpa using h);simpa using this
        rw[KB]at YV;rcases RB with⟨hp,uk⟩|⟨j,en0,hp,hen,uk⟩
        ·rw[hp]at YV;simp only[cN]at YV;subst YV;obtain⟨φ',a1,a2,a3⟩:=adR (Dz none 0 0 (aO E.P e')) (.slice none 0 0) ⟨rfl,rfl,rfl,ff,by simp,by simp[maxLen],⟨rfl,rfl⟩⟩ (.sK rfl) (fun g' cP=>by cases cP);grind
        ·rw[hp]at YV;obtain⟨x0,Rk,mS⟩:=cT.1 YV;obtain⟨xa,xu⟩:=x0;have hxu:=Kp mS;simp only at hxu;subst hxu;obtain⟨_,q2⟩:=hN.rep j xa _ en0 Rk hen;obtain⟨φ',a1,a2,a3⟩:=adR ((φ id).row j 0).up en0.val q2.1 q2.2 (fun g' cP=>⟨j,hp,by rw[kh Rk];rfl,cP⟩);grind
     ·cases h
    ·cases h
   ·cases h
  ·cases h
 ·cases h
end
theorem EN{m:Mem}:∀{cs:List V}{j0:Nat}{ps:List PV}{tk:Option (Nat×Nat)},lO m j0 cs=some (ps,tk)→ps.length=cs.length∧(tk=none→∀(i:Nat)p,ps[i]?=some p→∃v,cs[i]?=some v∧lx cM 1 v=some p)∧∀j id2,tk=some (j,id2)→∃l s2 KA rs,cs[l]?=some (.os id2)∧m id2=some (.arr s2 KA rs)∧ps[l]?=some (.qE s2 rs)∧∀(i:Nat)p,i≠l→ps[i]?=some p→∃v,cs[i]?=some v∧lx cM 1 v=some p
 |[],j0,ps,tk,h=>by simp only[lO,cN,aab]at h;grind
 |v::r,j0,ps,tk,h=>by
  have plain:∀{p:PV},lx cM 1 v=some p→(match lO m (j0+1) r with
   |some (ps,t)=>some (p::ps,t)
   |none=>none)=some (ps,tk)→ps.length=(v::r).length∧
   (tk=none→∀(i:Nat)p,ps[i]?=some p→∃u,(v::r)[i]?=some u∧lx cM 1 u=some p)∧
   ∀j id2,tk=some (j,id2)→∃l s2 KA rs,(v::r)[l]?=some (.os id2)∧m id2=some (.arr s2 KA rs)∧ps[l]?=some (.qE s2 rs)∧∀(i:Nat)p,i≠l→ps[i]?=some p→∃u,(v::r)[i]?=some u∧lx cM 1 u=some p:=by
   intro p hp h
   split at h
   ·rename_i ps' t ht;simp only[cN,aab]at h;obtain⟨rfl,rfl⟩:=h;obtain⟨h1,h2,h3⟩:=EN ht;refine⟨by simp[h1],fun hn i q hq=>?_,fun j id2 hj=>?_⟩
    ·grind
    ·obtain⟨l,s2,KA,rs,a1,a2,a3,a4⟩:=h3 j id2 hj;refine⟨l+1,s2,KA,rs,by simpa using a1,a2,by simpa using a3,fun i q hi hq=>?_⟩;grind
   ·cases h
  unfold lO at h;split at h
  ·rename_i heq;cases heq
  ·rename_i j id r' heq;simp only[akf]at heq;obtain⟨rfl,rfl⟩:=heq;split at h
   ·rename_i s et es hm;split at h
    ·rename_i ps' ht;simp only[cN,aab]at h;obtain⟨rfl,rfl⟩:=h;obtain⟨h1,h2,_⟩:=EN ht;refine⟨by simp[h1],fun hn=>(nomatch hn),fun j id2 hj=>?_⟩;simp only[cN,aab]at hj;obtain⟨rfl,rfl⟩:=hj;refine⟨0,s,et,es,rfl,hm,rfl,fun i q hi hq=>?_⟩;grind
    ·cases h
   ·cases h
  grind
section
variable {P:Program} {G:Nat→Option (List PV)} {w0:bx} {μ μ':Ro} {φ φ':Nat→aA} {m m':Mem} {w w':World}
theorem EO{v:V}{n j id2:Nat}{cs:List V}{ps:List PV}(hc:toCells n v=some cs)(h:lO m 0 cs=some (ps,some (j,id2))):∃l s2 KA rs,m id2=some (.arr s2 KA rs)∧ps[l]?=some (.qE s2 rs)∧ps.length=n∧v.has id2=true∧∀(P:Program)(μ:Ro)(φ:Nat→aA)(x:Value),af P μ φ v x→x.cells.size=n∧(∀(i:Nat)(y:Value),x.cells[i]?=some y→y.oneCell'=true)∧(∀(i:Nat)p y,i≠l→ps[i]?=some p→x.cells[i]?=some y→ai P μ p y)∧∃y,x.cells[l]?=some y∧af P μ φ (.os id2) y:=by
 obtain⟨t1,_,t3⟩:=EN h;obtain⟨l,s2,KA,rs,a1,a2,a3,a4⟩:=t3 j id2 rfl;obtain⟨n1,n2,n3⟩:=toCells_ok hc;refine⟨l,s2,KA,rs,a2,a3,by omega,n2 id2 (bK (agx a1) (by simp[V.has])),fun P μ φ x hx=>?_⟩;obtain⟨x1,x2,x3⟩:=n3 P μ φ x hx;refine⟨x1,x3,fun i p y hi hp hy=>?_,?_⟩
 ·grind [uw]
 ·have hl:l<x.cells.size:=by grind
  exact⟨x.cells[l],IT hl,x2 l _ _ a1 (IT hl)⟩
theorem C1{s off n:Nat}{e:PV}{ps:List PV}(hn:ps.length=n)(hb:off+n≤s)(h0:0<n)(ha:s=1→∀p,ps.head? =some p→∀cs,p≠.agg cs):(if s=1 then ps.headD .bad else PV.agg (bJ (aC s e) off ps)).cells=bJ (aC s e) off ps:=by
 split
 ·rename_i h1;subst h1;have e1:off=0:=by omega
  have e2:n=1:=by omega
  subst e1;subst e2;match ps,hn with
  |[p],_=>
   have:=ha rfl p rfl;have hp:p.cells=[p]:=by cases p<;>first|rfl|exact absurd rfl (this _)
   simp only[List.headD_cons,hp,dP,ak0,akK,ajj,ajs];rfl
 rfl
theorem EP{T:Type}{cs ps:List T}{off l:Nat}{x:T}(hl:l<ps.length)(hb:off+ps.length≤cs.length):bJ cs off (ps.set l x)=(bJ cs off ps).set (off+l) x:=by
 have hto:(cs.take off).length=off:=by simp;omega
 simp_all[dP,akX,ajD,List.set_append,No,GW]
theorem ER{id id2:Nat}{B X:bH}(cJ:id2≠id):ao (eV id (bg (bD id2 (ao m id B)) id2)) id X=ao (eV id (bg (bD id2 m) id2)) id X:=by
 funext t;by_cases h:t=id
 ·subst h;simp
 ·rw[aq h,aq h];unfold eV;by_cases h2:t=id2
  ·subst h2;simp
  simp_all[gi,bD,aq]
end
section
variable {R:Type} {E:Env}
theorem Ug{t:TypeId}{v:V}{id i off s id2 j:Nat}{et:TypeId}{es ps:List PV}{cs:List V}{e:PV}{m:Mem}(hm:m id=some (.nest s et es))(hc:toCells (aO E.P t) v=some cs)(ht:lO m 0 cs=some (ps,some (j,id2)))(hb:off+aO E.P t≤s)(h0:0<aO E.P t)(cJ:id2≠id)(he:es[i]?=some e){G:Nat→Option (List PV)}{w0:bx}{μ:Ro}{φ:Nat→aA}{w:World}{f:Fr}{ρ:Nat→Value}{ya yx:Value}(hM:av E.P G w0 μ φ m w)(hF:bS E.P μ φ m f ρ)(ha:af E.P μ φ (.oe id i off) ya)(hx:af E.P μ φ v yx):∃w' φ',(Instr.storeAt t ya yx).run E.P w=.ok () w'∧av E.P G w0 μ φ' (ue [(id,.nest s et (es.set i (if s=1 then ps.headD .bad else .agg (bJ (aC s e) off ps))))] (km [(true,id2),(false,id)] m)) w'∧bS E.P μ φ' (ue [(id,.nest s et (es.set i (if s=1 then ps.headD .bad else .agg (bJ (aC s e) off ps))))] (km [(true,id2),(false,id)] m)) (kf [(true,id2),(false,id)] f) ρ:=by
 obtain⟨l,s2,KA,rs,cK,mS,GF,ag7,lC⟩:=EO hc ht;obtain⟨x1,x2,x3,y,hy,YQ⟩:=lC E.P μ φ yx hx;have Rl:l<ps.length:=(By.1 mS).1;have hN:aX E.P μ φ w id s et es:=hM.dx id _ hm;have Ht:=hN.2.2.2.2.1 i e he;have Hl:(aC s e).length=s:=aW _ _;have pM:ps=(ps.set l .bad).set l (.qE s2 rs):=by rw[alY];apply ajw;grind
 have sL:∀(a:Nat)p,(ps.set l .bad)[a]?=some p→(a=l∧p=.bad)∨(a≠l∧ps[a]?=some p):=fun a p h=>eO h;have hE:tv E.P μ (aO E.P t) (.agg (ps.set l .bad)) yx:=by
  refine⟨by simp[PV.cells,GF],x1,fun a p z hp hz=>?_,x2⟩;rcases sL a p (by simpa[PV.cells]using hp)with⟨_,rfl⟩|⟨h1,h2⟩
  ·exact .bad
  grind
 have one:s=1→ps.length=1:=fun h=>by omega
 have hq:(if s=1 then ps.headD .bad else PV.agg (bJ (aC s e) off ps)).cells=bJ (aC s e) off ps:=C1 GF hb h0 fun h1 p hp MS=>by grind [List.head?_eq_getElem?,Option.some.injEq]
 have hq':(if s=1 then(ps.set l .bad).headD .bad else PV.agg (bJ (aC s e) off (ps.set l .bad))).cells=bJ (aC s e) off (ps.set l .bad):=C1 (by simpa using GF) hb h0 fun h1 p hp MS=>by
  have Pd:l=0:=by omega
  subst Pd;rw[ale,ajW,GW rfl,GW Rl]at hp;grind
 generalize (if s=1 then ps.headD .bad else PV.agg (bJ (aC s e) off ps))=q at hq⊢;generalize (if s=1 then(ps.set l .bad).headD .bad else PV.agg (bJ (aC s e) off (ps.set l .bad)))=q' at hq';cases ha with
 | @oe _ _ _ g hg=>
  obtain⟨c,T,hh,mo,zG,hrw⟩:=aX.set (q:=q') hN (hM.apart id _ hm) hg he hE hb (by rw[hq'];rfl);have oD:(φ id).sz=s:=hN.2.1;have hi:=kM (P:=E.P) (t:=t) (by omega);have vh:av E.P G w0 μ φ (ao m id (.nest s et (es.set i q'))) (w.setRow g (bJ c.toList (i*s+off) yx.cells.toList).toArray):=hM.write hm rfl hg (lD.setRow (ajo _)) setRow_size (fun k hk=>bU hk) zG rfl (fun j hj=>by simp[bH.names]at hj) (fun st h=>by cases h) hrw;have Tp:i<es.length:=(By.1 he).1;have adS:q.cells=q'.cells.set (off+l) (.qE s2 rs):=by grind [EP]
  have AH:q'.cells[off+l]?=some .bad:=by rw[hq',EP Rl (by omega),ajW,GW rfl,GW];grind [cn]
  have wb:=av.abA vh (id:=id) (id2:=id2) (i:=i) (off:=off+l) (e:=q') (q:=q) (x:=y) cJ (bM _ _ _) (by rw[aq cJ];exact cK) (by simp[Tp]) AH (fun g0 c0 _ MQ Kv=>by
   rw[hg]at MQ;simp only[cN]at MQ;subst MQ;rw[setRow_heap w g c _ T (0,0) hh]at Kv;simp only[cN,Obj.cells.injEq]at Kv;obtain⟨rfl,_⟩:=Kv;rw[ajL,dP];have bT:(c.toList.take (i*s+off)).length=i*s+off:=by simp;omega
   have Ku:l<yx.cells.toList.length:=by grind
   rw[ajD,ajX (by omega),bT,show i*s+(off+l)-(i*s+off)=l by omega,aj4 Ku];simpa using hy) YQ adS
  rw[alY,ER cJ]at wb;refine⟨_,_,by grind [gk],wb,?_⟩;have DB:bS E.P μ φ (ao m id (.nest s et (es.set i q'))) f ρ:=hF.nh (fun _ _ h=>h) .set;have YR:=(DB.forget id2).vj id;refine YR.aax (by simp[kN]) (fun k hk=>by simp[hk]) fun k hk=>?_;show(ao (eV id (bg (bD id2 m) id2)) id _ k).isSome=true;by_cases e1:k=id
  ·subst e1;simp
  ·rw[aq e1];rw[pe]at hk⊢;by_cases e2:k=id2
   ·subst e2;simp at hk
   grind [gi,bD,aq]
end
section
variable {R:Type} {E:Env}
variable{e:TypeId}{id2:Nat}{G:Nat→Option (List PV)}{w0:bx}{φ:Nat→aA}{w:World}{ρ:Nat→Value}
theorem RC{t:TypeId}{v:V}{j site:Nat}{cs:List V}{ps:List PV}{p:PV}{m:Mem}(hu:E.P.underlying t=some (.slice e))(hc:toCells (aO E.P e) v=some cs)(ht:lO m 0 cs=some (ps,some (j,id2)))(hs:m site=none)(hp:elemOf (ax E.P e) ps=some p)(ff:0<aO E.P e)(Ca:aO E.P e≤16777216)(hz:(cY E e).isSome=true){μ:Ro}{f:Fr}{yx:Value}(hM:av E.P G w0 μ φ m w)(hF:bS E.P μ φ m f ρ)(hx:af E.P μ φ v yx):∃y w' φ',(Instr.buildSlice t 1 #[(0,yx)]).run E.P w=.ok y w'∧av E.P G w0 μ φ' (ue [(site,.nest (aO E.P e) e [p])] (km [(true,id2)] m)) w'∧bS E.P μ φ' (ue [(site,.nest (aO E.P e) e [p])] (km [(true,id2)] m)) (kf [(true,id2)] f) ρ∧af E.P μ φ' (.os site) y:=by
 obtain⟨l,s2,KA,rs,cK,mS,GF,ag7,lC⟩:=EO hc ht;obtain⟨x1,x2,x3,z,hz1,hvz⟩:=lC E.P μ φ yx hx;obtain⟨zc,Tn⟩:=ajv.1 hz;obtain⟨iz,zv,i1,i2,i3,_⟩:=ek Tn;have cJ:id2≠site:=fun e=>by simp_all
 have RD:p.cells=ps:=by
  unfold elemOf at hp;split at hp
  ·simp only[cN]at hp;subst hp;rfl
  ·split at hp
   ·rename_i q;simp only[cN]at hp;subst hp;have Pd:l=0:=by grind
    subst Pd;simp only[ajK,cN]at mS;subst mS;rfl
   ·cases hp
 have hA2:aH E.P μ φ w id2 s2 KA rs:=hM.dx id2 _ cK;have aiP:Instr.fill (fun i=>some (i*aO E.P e,aO E.P e)) ((Array.range (1*aO E.P e)).map (zv.cells[·%zv.cells.size]!)) [(0,yx)]=some yx.cells:=by
  have Nb:((Array.range (1*aO E.P e)).map (zv.cells[·%zv.cells.size]!)).size=aO E.P e:=by simp
  rw[yC (off:=0) (size:=aO E.P e) (by simp) x1 (by omega)];simp only[Instr.fill,cN];apply akJ;simp only[dP,ak0,akK,aj0];simp_all
 have uk:=run_buildSlice (P:=E.P) w t e 1 #[(0,yx)] yx.cells iz zv hu i1 i2 (by omega) (by omega) (by rw[i3];omega);let q:aA:={g:=some w.heap.size,cap:=1,len:=1,sz:=aO E.P e,row:=fun a b=>if a=0∧b=l then(φ id2).toCP else default};have Ks:∀k,(bg (bD id2 m) id2 k).isSome=true→k≠site:=fun k hk e=>by simp_all[gi,Ne.symm,bD]
 have Uh:∀a b,(bH.nest (aO E.P e) e [p]).rowAt a b=true→a=0∧b=l:=by
  intro a b hr;rcases kj hr with⟨_,_,_,e',s',rs',jG,h',uz⟩|⟨_,_,_,_,_,_,jG,_⟩
  ·simp only[bH.nest.injEq]at jG;obtain⟨rfl,rfl,rfl⟩:=jG;cases a with
   |succ a=>simp at h'
   |zero=>
    simp only[ajK,cN]at h';subst h';rw[RD]at uz;refine⟨rfl,?_⟩;by_cases Tr:b=l
    ·exact Tr
    ·exfalso;have bT:b<yx.cells.size:=by rw[x1,←GF];exact(By.1 uz).1
     exact absurd (x3 b _ _ Tr uz (IT bT)).DO (by simp[PV.isRow])
  ·cases jG
 have vh:=hM.forget id2;have mr:av E.P G w0 μ (fun i=>if i=site then q else φ i) (ao (bg (bD id2 m) id2) site (.nest (aO E.P e) e [p])) (w.alloc (.cells yx.cells e)):=by
  have hold:∀k,k<w.heap.size→(w.alloc (.cells yx.cells e)).heap[k]?=w.heap[k]?:=fun k hk=>lD.heap_alloc w _ k hk;refine vh.put (by rw[gi (Ne.symm cJ)];simp[bD,hs]) ((lD.refl _ w).alloc hM.below.size _) (fun k o hk=>?_) (fun id b' g hid hg=>hold g ((vh.dx id b' hid).Ev hg)) (fun g hg=>?_) ?_ ?_ (by simp[bH.names]) (fun st h=>by cases h)
  ·have:=hM.ro k o hk;rw[hold k (abi.1 this).1];exact this
  ·rcases hg with hg|⟨a,b,hr,hg⟩
   ·simp only[q,cN]at hg;subst hg;refine⟨hM.below.size,?_,fun id b' hid ho=>?_⟩
    ·cases hq:μ w.heap.size with
     |none=>rfl
     |some o'=>have:=hM.ro _ _ hq;simp at this
    ·have:=(vh.dx id b' hid).Ev ho;omega
   ·have wb:=Uh a b hr;have hg:(φ id2).g=some g:=by simpa[q,wb]using hg
    obtain⟨o1,o2⟩:=hM.own id2 _ g cK (.inl hg);refine⟨o1,o2 rfl,fun id b' hid ho=>?_⟩;obtain⟨h1,b2,ux,rfl⟩:=fC hid;exact h1 (hM.inj id id2 _ _ g ux cK (gj.1 ho) (.inl hg))
  ·intro a b g hr hg;have wb:=Uh a b hr;have hg:(φ id2).g=some g:=by simpa[q,wb]using hg
   refine⟨fun h=>?_,fun a' b' wF _=>by have:=Uh a' b' wF;omega⟩;simp only[q,cN]at h;have:=(hM.dx id2 _ cK).Ev (.inl hg);omega
  ·show aX E.P μ (fun i=>if i=site then q else φ i) (w.alloc (.cells yx.cells e)) site (aO E.P e) e [p];unfold aX;simp only[IS];refine⟨rfl,rfl,trivial,ff,fun i e' RE=>?_,by simp[q,maxLen],yx.cells,e,fE w _,by simp[q,x1],by simp[q],fun i e' b p' x' RE uz IG=>?_,fun i x' _ IG=>x2 i x' IG⟩
   ·cases i with
    |zero=>simp at RE;subst RE;rw[RD,GF]
    |succ i=>simp at RE
   ·cases i with
    |succ i=>simp at RE
    |zero=>
     simp only[ajK,cN]at RE;subst RE;rw[RD]at uz;rw[ame,aj0]at IG;by_cases Tr:b=l
     ·subst Tr;rw[mS]at uz;simp only[cN]at uz;subst uz;rw[hz1]at IG;simp only[cN]at IG;subst IG;have:q.row 0 b=(φ id2).toCP:=by simp[q]
      rw[this];refine eC.cg ⟨⟨KA,hA2.up⟩,M7 hvz⟩ (fun _ _ h=>h) fun g hg=>hold g ((hM.dx id2 _ cK).Ev (.inl hg))
     ·exact .pure (x3 b p' x' Tr uz IG)
 refine⟨_,_,_,uk,mr,?_,?_⟩
 ·exact(hF.forget id2).mono (fun _ _ h=>h) fun k hk=>⟨by simp[Ks k hk],by show(ao (bg (bD id2 m) id2) site _ k).isSome=true;rw[aq (Ks k hk)];exact hk⟩
 ·have:=af.os (P:=E.P) (μ:=μ) (φ:=fun i=>if i=site then q else φ i) (id:=site) (g:=w.heap.size) (by simp[q]);simpa[q]using this
theorem Ui{k v v':PV}:∀{es:List (PV×PV)}{j:Nat},(df k v es)[j]?=some (k,v)→(mT k es=some j∨(mT k es=none∧j=es.length))→(df k v es).set j (k,v')=df k v' es:=by
 intro es j hj hp;rw[ni,ni];rcases hp with hp|⟨hp,rfl⟩
 ·rw[hp];simp
 ·rw[hp];simp
variable{es:List (PV×PV)}
theorem av.YW{P:Program}{μ:Ro}{m:Mem}(hM:av P G w0 μ φ m w){id i s2:Nat}{kt:TypeId}{k:PV}{rs:List PV}{x:Value}(cJ:id2≠id)(hm:m id=some (.fa kt e es))(cK:m id2=some (.arr s2 e rs))(he:es[i]?=some (k,.bad))(hx:∀g en clock,(φ id).g=some g→w.heap[g]?=some (.map en clock)→∃e0,en[i]?=some e0∧e0.val=x)(hv:af P μ φ (.os id2) x):av P G w0 μ (fun j=>if j=id then kN (φ id) i 0 (φ id2).toCP else φ j) (ao (eV id (bg (bD id2 m) id2)) id (.fa kt e (es.set i (k,.qE s2 rs)))) w:=by
 have vh:=(hM.forget id2).vj id;obtain⟨g0,en,clock,kk,hN⟩:=uC.1 (hM.dx id _ hm);have hA2:aH P μ φ w id2 s2 e rs:=hM.dx id2 _ cK;have mS:∀a b,(bH.fa kt e (es.set i (k,.qE s2 rs))).rowAt a b=true→(a=i∧b=0)∨((bH.fa kt e es).rowAt a b=true∧¬(a=i∧b=0)):=by
  intro a b hr;by_cases wb:a=i∧b=0
  ·exact .inl wb
  ·refine .inr ⟨?_,wb⟩;rcases kj hr with⟨_,_,_,_,_,_,jG,_⟩|⟨_,_,_,k',s',rs',jG,rfl,h'⟩
   ·cases jG
   ·simp only[bH.fa.injEq]at jG;obtain⟨rfl,rfl,rfl⟩:=jG;rcases eO h' with⟨rfl,_⟩|⟨Yj,h'⟩
    ·exact absurd ⟨rfl,rfl⟩ wb
    ·rw[kh h'];rfl
 refine hM.Pf (fun _ k=>if k=id2 then id else k) (fun j b' hj=>?_) (fun j b' g hj ho=>?_) (fun j b' hj=>?_) (fun j cs k hj hk=>?_) (fun j st hj=>?_)
 ·rcases fD hj with⟨rfl,rfl⟩|⟨h1,h2,c,hc,rfl⟩
  ·refine uC.2 ⟨g0,en,clock,kk,by simp[kN,hN.pl],hN.heap,by simp[hN.size],hN.BP,fun a k' v' h'=>?_,hN.born,fun a k' v' e' h' RE=>?_⟩
   ·rcases eO h' with⟨rfl,hq⟩|⟨_,h'⟩
    ·simp only[aab]at hq;rw[hq.1];exact hN.key a k _ he
    ·exact hN.key a k' v' h'
   ·simp only[IS];rcases eO h' with⟨rfl,hq⟩|⟨Yj,h'⟩
    ·simp only[aab]at hq;obtain⟨rfl,rfl⟩:=hq;refine⟨(hN.rep a _ _ e' he RE).1,?_⟩;rw[gr];obtain⟨e1,he1,hxe⟩:=hx g0 en clock hN.pl hN.heap;rw[RE]at he1;simp only[cN]at he1;subst he1;rw[hxe];exact⟨hA2.up,M7 hv⟩
    ·rw[gH _ _ (fun h=>Yj h.1)];exact hN.rep a k' v' e' h' RE
  ·have hb:gG P μ φ w j (dI id (gq id2 c)):=(hM.dx j c hc).kill.zb;exact hb.Pg h1 (by simp[kN]) fun k hk=>by simp[hk]
 ·rcases fD hj with⟨rfl,rfl⟩|⟨h1,h2,c,hc,rfl⟩
  ·simp only[IS]at ho;rcases ho with ho|⟨a,b,hr,ho⟩
   ·exact⟨j,_,hm,.inl ho,fun _=>rfl,by simp[cJ.symm]⟩
   ·rcases mS a b hr with⟨rfl,rfl⟩|⟨wF,wb⟩
    ·rw[gr]at ho;exact⟨id2,_,cK,.inl ho,fun _=>rfl,by simp⟩
    ·rw[gH _ _ wb]at ho;exact⟨j,_,hm,.inr ⟨a,b,wF,ho⟩,fun _=>rfl,by simp[cJ.symm]⟩
  ·simp only[h1,S3]at ho;exact⟨j,c,hc,gj.1 (rI.1 ho),fun h=>by rw[zO,yA]at h;exact h,by simp[h2]⟩
 ·rcases fD hj with⟨rfl,rfl⟩|⟨h1,h2,c,hc,rfl⟩
  ·simp only[IS];have GB:=hM.apart j _ hm;have new:∀g,(φ id2).g=some g→¬(bH.fa kt e es).owns (φ j) g:=fun g hg ho=>cJ (hM.inj id2 j _ _ g cK hm (.inl hg) ho);intro a b g hr hg;rcases mS a b hr with⟨rfl,rfl⟩|⟨wF,wb⟩
   ·rw[gr]at hg;refine⟨fun h=>new g hg (.inl h),fun a' b' RA IM=>?_⟩;rcases mS a' b' RA with h|⟨YT,M8⟩
    ·exact h
    ·rw[gH _ _ M8]at IM;exact absurd (.inr ⟨a',b',YT,IM⟩) (new g hg)
   ·rw[gH _ _ wb]at hg;obtain⟨h3,h4⟩:=GB a b g wF hg;refine⟨h3,fun a' b' RA IM=>?_⟩;rcases mS a' b' RA with⟨rfl,rfl⟩|⟨YT,M8⟩
    ·rw[gr]at IM;exact absurd (.inr ⟨a,b,wF,hg⟩) (new g IM)
    ·rw[gH _ _ M8]at IM;exact h4 a' b' YT IM
  ·simp only[h1,S3];exact wW.2 (vg.2 (hM.apart j c hc))
 ·rcases fD hj with⟨rfl,hb⟩|⟨h1,h2,c,hc,hb⟩
  ·cases hb
  ·have Yl:eV id (bg (bD id2 m) id2) j=some (.box cs):=by rw[aq h1]at hj;exact hj
   have:=vh.fO j cs k Yl hk;by_cases e:k=id
   ·subst e;simp
   ·rw[aq e];exact this
 ·rcases fD hj with⟨rfl,hb⟩|⟨h1,h2,c,hc,hb⟩
  ·cases hb
  ·cases c<;>first|(simp[dI,gq]at hb;done)|skip
   simp only[dI,gq,bH.loop.injEq]at hb;subst hb;exact⟨hc,by simp[h1]⟩
theorem RF{t kt et:TypeId}{xk:V}{id s:Nat}{key:PV}{rs:List PV}{m:Mem}(hu:E.P.underlying t=some (.map kt et))(hm:m id=some (.fa kt e es))(cK:m id2=some (.arr s e rs))(yX:keyOf E kt xk=some key){μ:Ro}{f:Fr}{ya yk yv:Value}(hM:av E.P G w0 μ φ m w)(hF:bS E.P μ φ m f ρ)(ha:af E.P μ φ (.om id) ya)(hk:af E.P μ φ xk yk)(hv:af E.P μ φ (.os id2) yv):∃w' φ',(Instr.mapUpdate t ya yk yv).run E.P w=.ok () w'∧av E.P G w0 μ φ' (ue [(id,.fa kt e (df key (.qE s rs) es))] (km [(true,id2),(false,id)] m)) w'∧bS E.P μ φ' (ue [(id,.fa kt e (df key (.qE s rs) es))] (km [(true,id2),(false,id)] m)) (kf [(true,id2),(false,id)] f) ρ:=by
 have cJ:id2≠id:=fun h=>by subst h;rw[hm]at cK;cases cK
 obtain⟨ks,k1,k2,k3⟩:=uA yX;obtain⟨g,en,clock,kk,hN⟩:=uC.1 (hM.dx id _ hm);have Aq:=hN.BP;rw[k1]at Aq;simp only[cN]at Aq;subst Aq;have Rp:=yD k1;have hkr:=k3 μ φ yk hk;obtain⟨hc,hkv⟩:=mN k2 hkr;obtain⟨res,r1,r2⟩:=lY (v:=.q8) (z:=.bad) Rp hc w hN.ent;have GA:=Go.MapKept.run_getObj_map (P:=E.P) hN.heap;have h1:(Instr.checkKey false 10000 kt yk).run E.P w=.ok () w:=by rw[hkv];exact iB 8 kt ks Rp 9992 w false key.cells hc
 rw[←hkv]at r1;have bT:g<w.heap.size:=(abi.1 hN.heap).1;cases ha with
 |om cP=>
  rw[hN.pl]at cP;simp only[cN]at cP;subst cP;have fin:∀(J:Nat)(MB:Array MapEntry)(pP:Nat),(mT key es=some J∨(mT key es=none∧J=es.length))→(Instr.mapUpdate t (.map (some g)) yk yv).run E.P w=.ok () {w with heap:=w.heap.setIfInBounds g (.map MB pP)}→ml MB pP→MB.size=(df key .bad es).length→(∃e0,MB[J]?=some e0∧e0.key=yk∧e0.val=yv)→(∀i e0,i≠J→MB[i]?=some e0→en[i]?=some e0)→∃w' φ',(Instr.mapUpdate t (.map (some g)) yk yv).run E.P w=.ok () w'∧av E.P G w0 μ φ' (ue [(id,.fa kt e (df key (.qE s rs) es))] (km [(true,id2),(false,id)] m)) w'∧bS E.P μ φ' (ue [(id,.fa kt e (df key (.qE s rs) es))] (km [(true,id2),(false,id)] m)) (kf [(true,id2),(false,id)] f) ρ:=by
   intro J MB pP hJ hr yq oD hJe GG;obtain⟨eJ,adT,ag8,ag9⟩:=hJe;have mr:∀i k' v',(df key .bad es)[i]?=some (k',v')→(i=J∧k'=key∧v'=.bad)∨(i≠J∧es[i]?=some (k',v')):=by
    intro i k' v' h;rw[ni]at h;rcases hJ with hJ|⟨hJ,rfl⟩
    ·rw[hJ]at h;rcases eO h with⟨rfl,hq⟩|⟨Yj,h⟩
     ·simp only[aab]at hq;exact .inl ⟨rfl,hq.1,hq.2⟩
     ·exact .inr ⟨Yj,h⟩
    ·rw[hJ]at h;simp only at h;rw[ajF]at h;split at h
     ·rename_i bT;exact .inr ⟨by omega,h⟩
     ·rename_i GC;cases hd:i-es.length with
      |zero=>rw[hd]at h;simp only[ajK,cN,aab]at h;exact .inl ⟨by omega,h.1.symm,h.2.symm⟩
      |succ n=>rw[hd]at h;simp at h
   have hJb:(df key .bad es)[J]?=some (key,.bad):=by
    rw[ni];rcases hJ with hJ|⟨hJ,rfl⟩
    ·rw[hJ];obtain⟨a,u,hj,_⟩:=DR hJ;simp[(By.1 hj).1]
    ·rw[hJ];simp
   have vh:av E.P G w0 μ φ (ao m id (.fa kt e (df key .bad es))) {w with heap:=w.heap.setIfInBounds g (.map MB pP)}:=by
    refine hM.write hm rfl hN.pl ⟨⟨rfl,rfl,rfl,by simp,fun k hk=>by simp[akH (Nat.ne_of_gt hk)]⟩,fun _=>ajo _⟩ (by simp) (fun k hk=>by simp[akH (Ne.symm hk)]) (uC.2 ⟨g,MB,pP,ks,hN.pl,by simp[bT],oD,k1,fun i k' v' h=>?_,yq,fun i k' v' e0 h Ud=>?_⟩) rfl (by simp[bH.names]) (fun st h=>by cases h) fun a b hr=>?_
    ·rcases mr i k' v' h with⟨_,rfl,_⟩|⟨_,h⟩
     ·exact k2
     ·exact hN.key i k' v' h
    ·rcases mr i k' v' h with⟨rfl,rfl,rfl⟩|⟨Yj,h⟩
     ·rw[adT]at Ud;simp only[cN]at Ud;subst Ud;exact⟨by rw[ag8];exact hkr,.pure .bad⟩
     ·obtain⟨q1,q2⟩:=hN.rep i k' v' e0 h (GG i e0 Yj Ud);refine⟨q1,?_⟩;unfold EL at q2⊢;split at q2
      ·refine⟨q2.1.cg rfl (fun _ _ h=>h) fun g' cP=>?_,q2.2⟩;have hr:(bH.fa kt e es).rowAt i 0=true:=by rw[kh h];rfl
       have:=(hM.apart id _ hm i 0 g' hr cP).1;rw[hN.pl]at this;simp only[ne_eq,cN]at this;simp[akH this]
      ·exact q2
    ·rcases kj hr with⟨_,_,_,_,_,_,jG,_⟩|⟨_,_,_,k',s',rs',jG,rfl,h'⟩
     ·cases jG
     ·simp only[bH.fa.injEq]at jG;obtain⟨rfl,rfl,rfl⟩:=jG;rcases mr a k' _ h' with⟨_,_,h⟩|⟨_,h⟩
      ·cases h
      ·rw[kh h];rfl
   have wb:=av.YW vh (id:=id) (id2:=id2) (i:=J) (x:=yv) cJ (bM _ _ _) (by rw[aq cJ];exact cK) hJb (fun g0 en0 aha MQ hh0=>by
    rw[hN.pl]at MQ;simp only[cN]at MQ;subst MQ;have:(w.heap.setIfInBounds g (Obj.map MB pP))[g]?=some (.map MB pP):=by simp[bT]
    rw[this]at hh0;simp only[cN,Obj.map.injEq]at hh0;obtain⟨rfl,_⟩:=hh0;exact⟨eJ,adT,ag9⟩) hv
   rw[Ui hJb hJ,ER cJ]at wb;refine⟨_,_,hr,wb,?_⟩;have DB:bS E.P μ φ (ao m id (.fa kt e (df key .bad es))) f ρ:=hF.nh (fun _ _ h=>h) .set;refine((DB.forget id2).vj id).aax (by simp[kN]) (fun k hk=>by simp[hk]) fun k hk=>?_;show(ao (eV id (bg (bD id2 m) id2)) id _ k).isSome=true;by_cases e1:k=id
   ·subst e1;simp
   ·rw[aq e1];rw[pe]at hk⊢;by_cases e2:k=id2
    ·subst e2;simp at hk
    ·rw[gi e2]at hk⊢;simp only[bD,aq e1]at hk⊢;exact hk
  rcases HA r2 with⟨rfl,hp⟩|⟨j,e0,rfl,Ud,hp⟩
  ·have Rq:=Go.MapKept.run_setObj_map (P:=E.P) (.map (en.push {key:=yk,val:=yv,born:=clock}) (clock+1)) hN.heap;refine fin es.length _ _ (.inr ⟨hp,rfl⟩) (by simp only[Instr.mapUpdate,Sem.run_bind,run_underlying hu,GA,h1,r1,Result.andThen_ok];exact Rq) hN.born.push (by rw[ni,hp];simp[hN.size]) ⟨{key:=yk,val:=yv,born:=clock},?_,rfl,rfl⟩ fun i e0 hi h=>?_
   ·rw[←hN.size];simp
   ·rw[alr]at h;split at h
    ·rename_i h';rw[hN.size]at h';exact absurd h' hi
    ·exact h
  ·have YX:en[j]?=some e0:=by simpa using Ud
   obtain⟨a,u,haj,hpq⟩:=DR hp;obtain⟨hca,hva⟩:=mN (hN.key j a u haj) (hN.rep j a u e0 haj YX).1;have vi:=II hc hca hpq;have hsb:Instr.sameBits 10000 e0.key yk=true:=by rw[hva,hkv,←vi];refine wV (n:=9999) hc (fun ha=>?_);rw[qJ hc];exact(yy Rp).2.1 ha
   have Rq:=Go.MapKept.run_setObj_map (P:=E.P) (.map (en.modify j fun e=>{e with key:=yk,val:=yv}) clock) hN.heap;have zK:j<en.size:=(abi.1 YX).1;refine fin j _ _ (.inl hp) (by simp only[Instr.mapUpdate,Sem.run_bind,run_underlying hu,GA,h1,r1,Result.andThen_ok];simp only[aj0,YX,ajg,aka,Instr.keyThatStays,hsb,IS,Sem.run_pure,Result.andThen_ok];exact Rq) (hN.born.modify (fun e=>{e with key:=yk,val:=yv}) (fun _=>rfl) _) (by rw[ni,hp];simp[hN.size]) ⟨{e0 with key:=yk,val:=yv},by rw[akC,GW rfl,YX];rfl,rfl,rfl⟩ fun i e1 hi h=>?_;rw[akC,No (Ne.symm hi)]at h;exact h
end
section
variable {P:Program} {G:Nat→Option (List PV)} {w0:bx} {μ μ':Ro} {φ φ':Nat→aA} {m m':Mem} {w w':World}
structure lE(P:Program)(μ:Ro)(rows:Nat→Nat→CP)(w:World)(s:Nat)(es:List PV)(xs:List Value):Prop where
 len:xs.length=es.length*s
 each:∀(i:Nat)e,es[i]?=some e→e.cells.length=s
 rep:∀(i:Nat)e(j:Nat)p x,es[i]?=some e→e.cells[j]?=some p→xs[i*s+j]?=some x→dX P μ (rows i j) w p x
 one:∀(i:Nat)(x:Value),xs[i]?=some x→x.oneCell'=true
variable{rows:Nat→Nat→CP}{es:List PV}{xs:List Value}
theorem lE.append{ES Uj:Nat→Nat→CP}{s:Nat}{es':List PV}{xs':List Value}(h:lE P μ rows w s es xs)(h':lE P μ ES w s es' xs')(h1:∀i j,i<es.length→Uj i j=rows i j)(h2:∀i j,es.length≤i→Uj i j=ES (i-es.length) j):lE P μ Uj w s (es++es') (xs++xs'):=by
 refine⟨by simp[h.len,h'.len,ajV],fun i e he=>?_,fun i e j p x he hp hx=>?_,fun i x hx=>?_⟩
 ·rw[ajF]at he;split at he
  ·exact h.each i e he
  ·exact h'.each _ e he
 ·rw[ajF]at he;split at he
  ·rename_i hi;rw[h1 i j hi];have hj:j<s:=by rw[←h.each i e he];grind
   rw[aj4 (by rw[h.len];exact EC hi hj)]at hx;exact h.rep i e j p x he hp hx
  ·rename_i hi;rw[h2 i j (by omega)];have e1:i*s+j=es.length*s+((i-es.length)*s+j):=by
    have:i=es.length+(i-es.length):=by omega
    grind
   rw[ajX (by rw[h.len,e1];omega),h.len,show i*s+j-es.length*s=(i-es.length)*s+j by omega]at hx;exact h'.rep _ e j p x he hp hx
 ·rw[ajF]at hx;split at hx
  ·exact h.one i x hx
  ·exact h'.one _ x hx
theorem Cells.IP{s:Nat}(h:Cells P μ s es xs):lE P μ rows w s es xs:=⟨h.len,h.each,fun i e j p x he hp hx=>.pure (h.rep i e j p x he hp hx),h.one⟩
theorem lE.cg{rows:Nat→Nat→CP}{s:Nat}{es:List PV}{xs:List Value}(h:lE P μ rows w s es xs)(hw:∀i e j p g,es[i]?=some e→e.cells[j]?=some p→p.isRow=true→(rows i j).g=some g→w'.heap[g]?=w.heap[g]?):lE P μ rows w' s es xs:=⟨h.len,h.each,fun i e j p x he hp hx=>(h.rep i e j p x he hp hx).cg (fun _ _ h=>h) fun hr g hg=>hw i e j p g he hp hr hg,h.one⟩
theorem aX.IP{id sz:Nat}{et:TypeId}(h:aX P μ φ w id sz et es){g:Nat}(hg:(φ id).g=some g):∃(c:Array Value)(T:TypeId),w.heap[g]?=some (.cells c T (0,0))∧(φ id).cap*sz≤c.size∧es.length≤(φ id).cap∧lE P μ (φ id).row w sz es (c.toList.take (es.length*sz)):=by obtain⟨a1,a2,a3,a4,a5,a6,a7⟩:=h;rw[hg]at a7;obtain⟨c,T,c1,c2,c3,c4,c5⟩:=a7;have hle:es.length*sz≤c.size:=ajQ (agw _ c3) c2;refine⟨c,T,c1,c2,c3,by simp;omega,a5,fun i e j p x he hp hx=>c4 i e j p x he hp (by grind),fun i x hx=>?_⟩;grind
theorem lE.nest{id g sz:Nat}{et T:TypeId}{c:Array Value}(YN:(φ id).toCP=⟨some g,(φ id).cap,es.length,sz⟩)(oD:sz=aO P et)(ff:0<sz)(qI:(φ id).cap≤maxLen)(hh:w.heap[g]?=some (.cells c T (0,0)))(hc:(φ id).cap*sz≤c.size)(hle:es.length≤(φ id).cap)(hC:lE P μ (φ id).row w sz es (c.toList.take (es.length*sz))):aX P μ φ w id sz et es:=by
 have e1:(φ id).g=some g:=by rw[YN]
 refine⟨by rw[YN],by rw[YN],oD,ff,hC.each,qI,?_⟩;rw[e1];have zK:∀(i:Nat)e(j:Nat)p,es[i]?=some e→e.cells[j]?=some p→i*sz+j<es.length*sz:=fun i e j p hi hj=>EC (By.1 hi).1 (by rw[←hC.each i e hi];grind);refine⟨c,T,hh,hc,hle,fun i e j p x hi hj hx=>?_,fun i x hi hx=>?_⟩
 ·exact hC.rep i e j p x hi hj (by grind)
 ·exact hC.one i x (by grind)
end
section
variable {R:Type} {E:Env}
def Ph(src:Option Nat)(m:Mem):Mem:=match src with|some id2=>bg (bD id2 m) id2|none=>m
def kfS(src:Option Nat)(f:Fr):Fr:=match src with|some id2=>eN id2 f|none=>f
variable{src:Option Nat}
theorem Uk{m:Mem}{j:Nat}{b:bH}(h:Ph src m j=some b):src≠some j∧∃b',m j=some b'∧b.rowAt=b'.rowAt:=by
 cases src with
 |none=>exact⟨by simp,b,h,rfl⟩
 |some id2=>obtain⟨h1,b',h2,rfl⟩:=fC h;grind [vf]
theorem RG{t e ty:TypeId}{x:V}{id s:Nat}{es new:List PV}{rd:bq}{m:Mem}(hu:E.P.underlying t=some (.slice e))(hm:m id=some (.nest s e es))(hs:s=aO E.P e)(hz:(cY E e).isSome=true)(ff:0<aO E.P e)(hby:0<Gt E.P e)(fg:(es++new).length*Gt E.P e≤ah)(zM:(∃id2,src=some id2∧id2≠id∧x=.os id2∧m id2=some (.nest s e new))∨(src=none∧fl m s x=some (new,rd))){G:Nat→Option (List PV)}{w0:bx}{μ:Ro}{φ:Nat→aA}{w:World}{f:Fr}{ρ:Nat→Value}{ys yx:Value}(hM:av E.P G w0 μ φ m w)(hF:bS E.P μ φ m f ρ)(ha:af E.P μ φ (.os id) ys)(hx:af E.P μ φ x yx):∃w' y φ',(Builtin.append_ #[t,t] ty #[ys,yx]).run E.P w=.ok y w'∧av E.P G w0 μ φ' (ao (bg (bD id (Ph src m)) id) id (.nest s e (es++new))) w'∧bS E.P μ φ' (ao (bg (bD id (Ph src m)) id) id (.nest s e (es++new))) (eN id (kfS src f)) ρ∧af E.P μ φ' (.os id) y:=by
 obtain⟨zc,Tn⟩:=ajv.1 hz;obtain⟨i,zv,hi,hzv,his,_,Pc,_,_,_⟩:=ek Tn;have hN:aX E.P μ φ w id s e es:=hM.dx id _ hm;have Rl:(es++new).length=es.length+new.length:=by simp
 have yB:0<s:=by omega
 obtain⟨ES,wF⟩:∃ES:Nat→Nat→CP,ES=match src with|some id2=>(φ id2).row|none=>fun _ _=>default:=⟨_,rfl⟩
 obtain⟨os,hos,hC⟩:∃os,((ys=.slice none 0 0∧es.length=0∧os=[])∨∃(g cap:Nat)(c:Array Value)(T:TypeId),ys=.slice (some ⟨g,0,none⟩) es.length cap∧w.heap[g]?=some (.cells c T (0,0))∧cap*s≤c.size∧es.length≤cap∧cap≤maxLen∧os=c.toList.take (es.length*s))∧lE E.P μ (φ id).row w s es os:=by
  cases ha with
  |sK hg=>have a7:=hN.2.2.2.2.2.2;rw[hg]at a7;rw[a7.1];exact⟨[],.inl ⟨rfl,rfl,rfl⟩,by simp,by simp,fun i e j p x he=>by simp at he,by simp⟩
  | @os _ g hg=>obtain⟨c,T,c1,c2,c3,c4⟩:=hN.IP hg;exact⟨_,.inr ⟨g,(φ id).cap,c,T,by rw[hN.1],c1,c2,c3,hN.2.2.2.2.2.1,rfl⟩,c4⟩
 obtain⟨xs,JT,hCx⟩:∃xs,((yx=.slice none 0 0∧new.length=0∧xs=[])∨∃(a:Addr)(cx:Nat),yx=.slice (some a) new.length cx∧xs.length=new.length*s∧(∀(j:Nat)v,xs[j]?=some v→w.cell? (a.add j)=some v)∧(∀v∈xs,v.oneCell'=true)∧new.length≤cx∧cx≤maxLen)∧lE E.P μ ES w s new xs:=by
  rcases zM with⟨id2,rfl,cJ,rfl,cK⟩|⟨rfl,Ht⟩
  ·have YY:aX E.P μ φ w id2 s e new:=hM.dx id2 _ cK;simp only at wF;subst wF;cases hx with
   |sK hg=>have a7:=YY.2.2.2.2.2.2;rw[hg]at a7;rw[a7.1];exact⟨[],.inl ⟨rfl,rfl,rfl⟩,by simp,by simp,fun i e j p x he=>by simp at he,by simp⟩
   | @os _ g hg=>
    obtain⟨c,_,c1,c2,c3,c4⟩:=YY.IP hg;refine⟨_,.inr ⟨⟨g,0,none⟩,(φ id2).cap,by rw[YY.1],c4.len,fun j v hj=>?_,fun v hv=>?_,c3,YY.2.2.2.2.2.1⟩,c4⟩
    ·grind [Addr.add_mid,dm,iy]
    ·obtain⟨j,hj⟩:=ajB hv;exact c4.one j v hj
  ·obtain⟨_,_,hsr⟩:=oE Ht;have:=hsr _ _ _ _ _ _ _ hM hx;cases this with
   |none hn=>subst hn;exact⟨[],.inl ⟨rfl,rfl,rfl⟩,by simp,by simp,fun i e j p x he=>by simp at he,by simp⟩
   | @some a cx xs hC JT hcx T5=>exact⟨xs,.inr ⟨a,cx,rfl,hC.len,JT,fun u hu=>by obtain⟨j,hj⟩:=ajB hu;exact hC.one j u hj,hcx,T5⟩,hC.IP⟩
 obtain⟨w',y,hr,T6⟩:=ED (ty:=ty) hu hi hzv (by omega) hs ff hby (by simp_all) hos JT;let qz:Nat→Nat→CP:=fun a b=>if a<es.length then(φ id).row a b else ES (a-es.length) b;have hCC:lE E.P μ qz w s (es++new) (os++xs):=hC.append hCx (fun a b h=>by grind) (fun a b h=>by grind);have mS:∀a b g,(bH.nest s e (es++new)).rowAt a b=true→(qz a b).g=some g→(a<es.length∧(bH.nest s e es).rowAt a b=true∧((φ id).row a b).g=some g)∨(es.length≤a∧∃id2,src=some id2∧id2≠id∧m id2=some (.nest s e new)∧(bH.nest s e new).rowAt (a-es.length) b=true∧((φ id2).row (a-es.length) b).g=some g):=by
  intro a b g MP hg;rcases kj MP with⟨_,_,_,e',s',rs',jG,h',uz⟩|⟨_,_,_,_,_,_,jG,_⟩
  ·simp only[bH.nest.injEq]at jG;obtain⟨rfl,rfl,rfl⟩:=jG;by_cases bT:a<es.length
   ·rw[aj4 bT]at h';exact .inl ⟨bT,by rw[dt h' uz];rfl,by grind⟩
   ·rw[ajX (by omega)]at h';simp only[qz,bT,S3]at hg;rcases zM with⟨id2,rfl,cJ,rfl,cK⟩|⟨rfl,Ht⟩
    ·simp only at wF;subst wF;exact .inr ⟨by omega,id2,rfl,cJ,cK,by rw[dt h' uz];rfl,hg⟩
    ·exfalso;obtain⟨_,_,hsr⟩:=oE Ht;have h3:=hsr _ _ _ _ _ _ _ hM hx;cases h3 with
     |none hn=>subst hn;simp at h'
     | @some a2 cx xs2 hC2 ai3 hcx T5=>
      have hj:(a-es.length)*s+b<xs2.length:=by rw[hC2.len];exact EC (By.1 h').1 (by rw[←hC2.each _ _ h'];grind)
      exact absurd (hC2.rep _ _ _ _ _ h' uz (cO hj)).DO (by simp[PV.isRow])
  ·cases jG
 have abB:∀j,(bg (bD id (Ph src m)) id j).isSome=true→j≠id:=fun j hj e=>by subst e;simp at hj
 have bX:∀j b',bg (bD id (Ph src m)) id j=some b'→j≠id∧src≠some j∧∃b,m j=some b∧b'.rowAt=b.rowAt:=by intro j b' hj;obtain⟨h1,b1,h2,rfl⟩:=fC hj;grind [Uk,vf]
 have Nc:∀{j b' b g},b'.rowAt=b.rowAt→bH.owns b' (φ j) g→bH.owns b (φ j) g:=fun h ho=>by simp_all[bH.owns]
 have hM0:av E.P G w0 μ φ (Ph src m) w:=by
  cases src with
  |none=>exact hM
  |some id2=>exact hM.forget id2
 have hF0:bS E.P μ φ (Ph src m) (kfS src f) ρ:=by
  cases src with
  |none=>exact hF
  |some id2=>exact hF.forget id2
 have vh:=hM0.forget id;have DB:=hF0.forget id;have YZ:∀a b g,(bH.nest s e (es++new)).rowAt a b=true→(qz a b).g=some g→w0.heap.size≤g∧μ g=none∧g<w.heap.size∧∀j b',bg (bD id (Ph src m)) id j=some b'→¬b'.owns (φ j) g:=by
  intro a b g MP hg;rcases mS a b g MP hg with⟨_,h2,h3⟩|⟨_,id2,rfl,cJ,cK,h2,h3⟩
  ·obtain⟨o1,o2⟩:=hM.own id _ g hm (.inr ⟨a,b,h2,h3⟩);refine⟨o1,o2 rfl,(hM.dx id _ hm).Ev (.inr ⟨a,b,h2,h3⟩),fun j b' hj ho=>?_⟩;obtain⟨k1,_,b2,k3,k4⟩:=bX j b' hj;exact k1 (hM.inj j id _ _ g k3 hm (Nc k4 ho) (.inr ⟨a,b,h2,h3⟩))
  ·obtain⟨o1,o2⟩:=hM.own id2 _ g cK (.inr ⟨_,b,h2,h3⟩);refine⟨o1,o2 rfl,(hM.dx id2 _ cK).Ev (.inr ⟨_,b,h2,h3⟩),fun j b' hj ho=>?_⟩;obtain⟨_,k1,b2,k3,k4⟩:=bX j b' hj;exact k1 (by rw[hM.inj j id2 _ _ g k3 cK (Nc k4 ho) (.inr ⟨_,b,h2,h3⟩)])
 have ady:∀a b a' b' g,(bH.nest s e (es++new)).rowAt a b=true→(qz a b).g=some g→(bH.nest s e (es++new)).rowAt a' b'=true→(qz a' b').g=some g→a'=a∧b'=b:=by
  intro a b a' b' g h1 h2 h3 h4;rcases mS a b g h1 h2 with⟨u1,u2,u3⟩|⟨u1,i2,u0,une,um,u2,u3⟩<;>rcases mS a' b' g h3 h4 with⟨v1,v2,v3⟩|⟨v1,i3,v0,vne,vm,v2,v3⟩
  ·exact(hM.apart id _ hm a b g u2 u3).2 a' b' v2 v3
  ·exact absurd (hM.inj i3 id _ _ g vm hm (.inr ⟨_,_,v2,v3⟩) (.inr ⟨_,_,u2,u3⟩)) vne
  ·exact absurd (hM.inj i2 id _ _ g um hm (.inr ⟨_,_,u2,u3⟩) (.inr ⟨_,_,v2,v3⟩)) une
  ·rw[u0]at v0;simp only[cN]at v0;subst v0;obtain⟨h5,h6⟩:=(hM.apart i2 _ um (a-es.length) b g u2 u3).2 (a'-es.length) b' v2 v3;omega
 have fin:∀(q:aA)(w1:World),q.row=qz→lD w0.heap.size w w1→(∀k o,μ k=some o→w1.heap[k]?=some o)→(∀j b' g,bg (bD id (Ph src m)) id j=some b'→b'.owns (φ j) g→w1.heap[g]?=w.heap[g]?)→(∀g,q.g=some g→w0.heap.size≤g∧μ g=none∧(∀j b',bg (bD id (Ph src m)) id j=some b'→¬b'.owns (φ j) g)∧∀a b,(bH.nest s e (es++new)).rowAt a b=true→(qz a b).g≠some g)→(aX E.P μ (fun k=>if k=id then q else φ k) w1 id s e (es++new))→av E.P G w0 μ (fun k=>if k=id then q else φ k) (ao (bg (bD id (Ph src m)) id) id (.nest s e (es++new))) w1∧bS E.P μ (fun k=>if k=id then q else φ k) (ao (bg (bD id (Ph src m)) id) id (.nest s e (es++new))) (eN id (kfS src f)) ρ:=by
  intro q w1 hq MT vT hold B2 lC;refine⟨vh.put (by simp) MT vT hold (fun g hg=>?_) (fun a b g MP hg=>?_) lC (by simp[bH.names]) (fun st h=>by cases h),DB.mono (fun _ _ h=>h) fun j hj=>⟨by simp[abB j hj],by grind [aq]⟩⟩
  ·rcases hg with hg|⟨a,b,MP,hg⟩
   ·grind
   grind
  grind
 rcases T6 with⟨rfl,rfl,h1,h2⟩|⟨g',DA,c',T',rfl,b1,b2,b3,b4,b5,b6⟩
 ·have h1:es=[]:=ajl h1;have h2:new=[]:=ajl h2;obtain⟨k1,k2⟩:=fin {g:=none,cap:=0,len:=0,sz:=s,row:=qz} w' rfl (lD.refl _ _) hM.ro (fun _ _ _ _ _=>rfl) (fun g hg=>by cases hg) ⟨by simp[h1,h2],by simp,hs,yB,by simp[h1,h2],by simp[maxLen],by simp[h1,h2]⟩;exact⟨w',_,_,hr,k1,k2,.sK (by simp)⟩
 ·have hq:∀(w1:World)(T:TypeId),w1.heap[g']?=some (.cells c' T (0,0))→lE E.P μ qz w1 s (es++new) (os++xs)→aX E.P μ (fun k=>if k=id then({g:=some g',cap:=DA,len:=(es++new).length,sz:=s,row:=qz}:aA)else φ k) w1 id s e (es++new):=fun w1 T hh hC1=>lE.nest (g:=g') (c:=c') (by simp) hs yB (by simpa using b4) hh (by simpa using b2) (by simpa[Rl]using b3) (by grind);have aiQ:af E.P μ (fun k=>if k=id then({g:=some g',cap:=DA,len:=(es++new).length,sz:=s,row:=qz}:aA)else φ k) (.os id) (.slice (some ⟨g',0,none⟩) (es.length+new.length) DA):=by have:=af.os (P:=E.P) (μ:=μ) (φ:=fun k=>if k=id then({g:=some g',cap:=DA,len:=(es++new).length,sz:=s,row:=qz}:aA)else φ k) (id:=id) (g:=g') (by simp);grind
  rcases b6 with⟨YO,hys,b6,b7⟩|⟨rfl,rfl⟩
  ·have cP:(φ id).g=some g':=by
    have key:∀z,af E.P μ φ (.os id) z→z=.slice (some ⟨g',0,none⟩) es.length YO→(φ id).g=some g':=by
     intro z hz he;cases hz with
     |sK _=>cases he
     |os hg=>grind
    exact key _ ha hys
   obtain⟨o1,o2⟩:=hM.own id _ g' hm (.inl cP);have JS:∀a b,(bH.nest s e (es++new)).rowAt a b=true→(qz a b).g≠some g':=by
    intro a b MP hg;rcases mS a b g' MP hg with⟨u1,u2,u3⟩|⟨u1,i2,u0,une,um,u2,u3⟩
    ·exact(hM.apart id _ hm a b g' u2 u3).1 cP
    ·exact une (hM.inj i2 id _ _ g' um hm (.inr ⟨_,_,u2,u3⟩) (.inl cP))
   have GG:∀j b',bg (bD id (Ph src m)) id j=some b'→¬b'.owns (φ j) g':=fun j b' hj ho=>by obtain⟨k1,_,b2,k3,k4⟩:=bX j b' hj;exact k1 (hM.inj j id _ _ g' k3 hm (Nc k4 ho) (.inl cP))
   obtain⟨k1,k2⟩:=fin {g:=some g',cap:=DA,len:=(es++new).length,sz:=s,row:=qz} w' rfl (b6.mono o1) (fun k o hk=>by rw[b7 k (fun e=>by subst e;rw[o2 rfl]at hk;cases hk)];exact hM.ro k o hk) (fun j b' g hj ho=>b7 g fun e=>by grind) (fun g hg=>by
     simp only[cN]at hg;subst hg;exact⟨o1,o2 rfl,GG,JS⟩)
    (hq w' _ b1 (hCC.cg fun a e1 b p1 g he hp MP hg=>b7 g fun e=>by grind [dt]))
   grind
  ·have hold:∀k,k<w.heap.size→(w.drew.alloc (.cells c' e)).heap[k]?=w.heap[k]?:=fun k hk=>lD.heap_alloc w.drew _ k hk;obtain⟨k1,k2⟩:=fin {g:=some w.heap.size,cap:=DA,len:=(es++new).length,sz:=s,row:=qz} (w.drew.alloc (.cells c' e)) rfl ((lD.refl _ w).drew.alloc hM.below.size _) (fun k o hk=>by
     have:=hM.ro k o hk;grind)
    (fun j b' g hj ho=>hold g ((vh.dx j b' hj).Ev ho)) (fun g hg=>by
     simp only[cN]at hg;subst hg;refine⟨hM.below.size,?_,fun j b' hj ho=>?_,fun a b MP hg=>?_⟩
     ·cases hq:μ w.heap.size with
      |none=>rfl
      |some o'=>have:=hM.ro _ _ hq;simp at this
     ·have:=(vh.dx j b' hj).Ev ho;omega
     grind)
    (hq _ _ b1 (hCC.cg fun a e1 b p1 g he hp MP hg=>hold g (YZ a b g (by rw[dt he hp];omega) hg).2.2.1))
   grind
theorem ET{m:Mem}:∀{cs:List V}{j0:Nat}{ps:List PV},lO m j0 cs=some (ps,none)→∀m2:Mem,lO m2 j0 cs=some (ps,none)
 |[],j0,ps,h,m2=>h
 |v::r,j0,ps,h,m2=>by
  unfold lO at h;split at h
  ·rename_i heq;cases heq
  ·grind
  ·rename_i j v' r' cJ heq;simp only[akf]at heq;obtain⟨rfl,rfl⟩:=heq;unfold lO;split
   ·rename_i heq;cases heq
   ·simp_all
   ·rename_i j v' r' cJ heq;simp only[akf]at heq;obtain⟨rfl,rfl⟩:=heq;split at h
    ·rename_i p hp;split at h
     ·rename_i ps' t ht;simp only[cN,aab]at h;obtain⟨rfl,rfl⟩:=h;rw[ET ht m2]
     ·cases h
    omega
theorem wX{m m2:Mem}{j id2:Nat}(hm:m2 id2=m id2):∀{cs:List V}{j0:Nat}{ps:List PV},lO m j0 cs=some (ps,some (j,id2))→lO m2 j0 cs=some (ps,some (j,id2))
 |[],j0,ps,h=>by simp[lO]at h
 |v::r,j0,ps,h=>by
  unfold lO at h;split at h
  ·rename_i heq;cases heq
  ·rename_i j id r' heq;simp only[akf]at heq;obtain⟨rfl,rfl⟩:=heq;split at h
   ·rename_i s et es Ym;split at h
    ·rename_i ps' ht;simp only[cN,aab]at h;obtain⟨rfl,rfl,rfl⟩:=h;grind [lO,ET]
    ·cases h
   ·cases h
  ·rename_i j v' r' cJ heq;simp only[akf]at heq;obtain⟨rfl,rfl⟩:=heq;unfold lO;split
   ·rename_i heq;cases heq
   ·simp_all
   ·rename_i j v' r' cJ heq;simp only[akf]at heq;obtain⟨rfl,rfl⟩:=heq;split at h
    ·rename_i p hp;split at h
     ·rename_i ps' t ht;simp only[cN,aab]at h;obtain⟨rfl,rfl⟩:=h;rw[wX hm ht]
     ·cases h
    omega
theorem Nf{site:Nat}{o:Oper}{f f2:Fr}{m m2:Mem}{sp:Sp}(h:zB E site o f m=some sp)(hf:∀x∈o.op.operands,bC E f2 x=bC E f x)(hm:∀x∈(sp.info site).2,m2 x.2=m x.2):zB E site o f2 m2=some sp:=by
 obtain⟨dst,op,type,pos,after,guard⟩:=o;unfold zB at h⊢;cases op;case store t a x=>
  simp only at h⊢;rw[hf a (by simp[Op.operands]),hf x (by simp[Op.operands])];split at h
  ·rename_i id i off ha;split at h
   ·rename_i s et es Ym;split at h
    ·rename_i cs hc;split at h
     ·rename_i ps j id2 ht;split at h
      ·rename_i lA;simp only[cN]at h;subst h;have h1:m2 id=m id:=hm (true,id) (by simp[Sp.info]);have h2:m2 id2=m id2:=hm (true,id2) (by simp[Sp.info]);simp only[ha,h1,Ym,hc,wX h2 ht,lA,IS]
      ·cases h
     ·cases h
    ·cases h
   ·cases h
  omega
 case buildSlice t len parts=>
  simp only at h⊢;have RD:(parts.toList.map fun(x:Nat×Operand)=>(x.1,bC E f2 x.2))=parts.toList.map fun(x:Nat×Operand)=>(x.1,bC E f x.2):=ajJ fun x hx=>by rw[hf x.2 (by simp only[Op.operands,ak2,ajy];exact⟨x,hx,rfl⟩)]
  rw[RD];split at h
  ·rename_i e v hu hp;split at h
   ·rename_i cs hc;split at h
    ·rename_i ps j id2 ht hs;split at h
     ·rename_i p IQ;split at h
      ·rename_i lA;simp only[cN]at h;subst h;have h1:m2 site=m site:=hm (true,site) (by simp[Sp.info]);have h2:m2 id2=m id2:=hm (true,id2) (by simp[Sp.info]);simp only[hu,hp,hc,wX h2 ht,h1,hs,IQ,lA,IS]
      ·cases h
     ·cases h
    ·cases h
   ·cases h
  omega
 case call c=>
  obtain⟨callee,args,argTypes⟩:=c;simp only at h⊢;have rJ:args.toList.map (bC E f2)=args.toList.map (bC E f):=ajJ fun x hx=>hf x (by simp_all[Op.operands,Call.operands]);rw[rJ];split at h
  ·rename_i id x t t' ha Y0;split at h
   ·rename_i e s et es hu Ym;split at h
    ·rename_i lA;have plain:∀{new:List PV}{rd:bq},fl m s x=some (new,rd)→x.has id=false→sp=.app id s et es new none rd→fl m2 s x=some (new,rd):=by grind [oE,Sp.info]
     split at h
     ·rename_i sI;split at h
      ·rename_i s' Gq new hm';split at h
       ·rename_i Tm;simp only[cN]at h;subst h;have h1:m2 id=m id:=hm (true,id) (by simp[Sp.info]);simp_all[Sp.info,IS]
       ·cases h
      ·rename_i hnn;split at h
       ·rename_i new rd Ht;split at h
        ·cases h
        ·rename_i hxh;simp only[cN]at h;have Ul:=plain Ht (by simpa using hxh) h.symm;subst h;have h1:m2 id=m id:=hm (true,id) (by simp[Sp.info]);simp only[ha,Y0,hu,h1,Ym,lA,IS,Ul];split
         ·rename_i s' Gq ai4 cK;exfalso;simp only[fl,cK]at Ul;cases Ul
         ·rw[No hxh]
       ·cases h
     ·rename_i ai5;split at h
      ·rename_i new rd Ht;split at h
       ·cases h
       ·rename_i hxh;simp only[cN]at h;have Ul:=plain Ht (by simpa using hxh) h.symm;subst h;have h1:m2 id=m id:=hm (true,id) (by simp[Sp.info]);simp only[ha,Y0,hu,h1,Ym,lA,IS,Ul];try rw[No hxh]
      ·cases h
    ·cases h
   ·cases h
  ·cases h
 case mapUpdate t x key v=>
  simp only at h⊢;rw[hf x (by simp[Op.operands]),hf key (by simp[Op.operands]),hf v (by simp[Op.operands])];split at h
  ·rename_i kt et id id2 hu hx hv;split at h
   ·rename_i wE e es s e' rs kp h1 h2 hk;split at h
    ·rename_i lA;simp only[cN]at h;subst h;have h3:m2 id=m id:=hm (true,id) (by simp[Sp.info]);have h4:m2 id2=m id2:=hm (true,id2) (by simp[Sp.info]);simp only[hu,hx,hv,h3,h4,h1,h2,hk,lA,IS]
    ·cases h
   ·cases h
  ·cases h
 all_goals (cases h)
end
end Go.Ab
