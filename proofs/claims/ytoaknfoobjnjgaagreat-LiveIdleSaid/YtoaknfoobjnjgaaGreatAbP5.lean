import Derived.Test.YtoaknfoobjnjgaaGreatAbP4
import Derived.RangeFuncRecord
import Derived.Laws.IdiomRangeMap
set_option linter.all false
namespace Go.Ab
section
variable {P:Program} {G:Nat→Option (List PV)} {w0:bl} {μ:Ro} {φ:Nat→aK} {m:Mem} {w:World}
theorem aG.ahv(hM:aG P G w0 μ φ m w){g:Nat}(hB:w0.heap.size≤g)(amS:∀id b,m id=some b→¬b.owns (φ id) g)(hh:w0.hid g=none):aG P G w0 (pT μ w (some g)) φ m w:=by
 have mono:=mU hM (some g);refine⟨hM.below,fun b o hb=>?_,fun g' cs hg=>(hM.aF g' cs hg).mono mono,fun j c hj=>(hM.dF j c hj).cG (fun _ _=>rfl) rfl mono (fun _ _=>rfl),fun j c g' hj cV=>?_,hM.inj,hM.apart,hM.fJ,fun b o hb bK=>?_,fun b o hb=>mono b o (hM.dG b o hb),hM.DL,fun k o h=>(by obtain⟨h1,h2,h3,h4⟩:=hM.hid k o h;exact⟨h1,h2,by unfold pT;rw[IT (fun e=>by cases e;rw[hh]at h;cases h)];exact h3,h4⟩)⟩
 ·unfold pT at hb;split at hb
  ·omega
  ·exact hM.ro b o hb
 ·obtain⟨h1,h2⟩:=hM.own j c g' hj cV;grind [pT,Option.some.injEq,absurd]
 ·unfold pT at hb;split at hb
  ·grind
  ·exact hM.base b o hb bK
theorem QI(w:World)(g:Nat)(o:Obj):lr g w (w.putObj g o):=⟨⟨rfl,rfl,rfl,by simp,fun k hk=>World.putObj_heap_other (by omega)⟩,fun _=>anz _⟩
theorem CO{A:Type}(f:A→Nat):∀{l:List A}{i:Nat}{e:A},l[i]?=some e→(∀(j:Nat)x,l[j]?=some x→f x=f e→j=i)→l.filter (fun x=> !(f x==f e))=l.eraseIdx i
 |[],i,e,h,_=>by rfl
 |y::l,0,e,h,inj=>by simp only[aoh,tb]at h;subst h;simp only[aqo,BEq.rfl,ag0,tc,PS,List.eraseIdx_cons_zero];rw[aqN];intro x hx;obtain⟨j,hj⟩:=anI.1 hx;simp only[anT,apE];intro e;have:=inj (j+1) x (by simpa using hj) e;omega
 |y::l,i+1,e,h,inj=>by
  have h':l[i]?=some e:=by simpa using h
  have cy:¬f y=f e:=fun e'=>by have:=inj 0 y rfl e';omega
  have hb:(f y==f e)=false:=by simpa using cy
  simp only[aqo,hb,anM,IS,List.eraseIdx_cons_succ];rw[CO f h' (fun j x hj e'=>by have:=inj (j+1) x (by simpa using hj) e';omega)]
theorem J7(en:Array MapEntry):mi en #[]=en.toList:=by simp[mi,aqN]
variable{en:Array MapEntry}{clock:Nat}{seen:Array Nat}{e:MapEntry}
theorem G7(hb:mS en clock){i:Nat}(hi:(mi en seen)[i]?=some e):mi en (seen.push e.born)=(mi en seen).eraseIdx i:=by
 have h1:mi en (seen.push e.born)=(mi en seen).filter (fun x=> !(x.born==e.born)):=by unfold mi;rw[List.filter_filter];grind
 rw[h1];refine CO (fun x=>x.born) hi fun j x hj e'=>?_;have SL:(mi en seen).Pairwise fun a b=>a.born≠b.born:=by
  unfold mi;refine List.Pairwise.filter _ ?_;rw[an8];intro a b ha j4 tt he;have h2:en[a]?=some en.toList[a]:=by simp
  have h3:en[b]?=some en.toList[b]:=by simp
  have:=(hb b _ h3).2 a _ h2 he;omega
 have yD:j<(mi en seen).length:=(IN.1 hj).1;have I7:i<(mi en seen).length:=(IN.1 hi).1;grind [List.getElem?_eq_getElem,Option.some.injEq,List.pairwise_iff_getElem,Nat.lt_trichotomy,absurd]
theorem US(h:e∈mi en seen):∃i:Nat,en[i]?=some e:=by unfold mi at h;have:=(anP.1 h).1;obtain⟨i,hi⟩:=anI.1 this;grind
theorem UT{w:World}{g mg:Nat}(hg:w.heap[g]?=some (.mapIter (some mg) clock seen clock))(hm:w.heap[mg]?=some (.map en clock))(hb:mS en clock)(ty:TypeId):(mi en seen=[]∧(Instr.next (.pointer (some ⟨g,0,none⟩)) false ty).run P w=.ok (.tuple #[.bool false]) w)∨∃(j:Nat)(e:MapEntry)(w1:World),(mi en seen)[j]?=some e∧(w1=w∨w1=w.drew)∧(Instr.next (.pointer (some ⟨g,0,none⟩)) false ty).run P w=.ok (.tuple #[.bool true,e.key,e.val]) (w1.putObj g (.mapIter (some mg) clock (seen.push e.born) clock)):=by
 have hold:∀x∈en.toList,x.born<clock:=fun x hx=>by obtain⟨i,hi⟩:=anI.1 hx;exact(hb i x (by simp_all)).1
 simp only[Instr.next,getObj,Sem.run_bind,Sem.run,hg,hm,Result.andThen,next_test_false seen en clock clock hold (anz _),tc,PS];have hL:(Array.filter (fun e=> !seen.contains e.born) en).toList=mi en seen:=by simp[mi]
 have bu:∀x∈(Array.filter (fun e=> !seen.contains e.born) en).toList,x.born<clock:=fun x hx=>hold x (by grind);generalize Array.filter (fun e=> !seen.contains e.born) en=L at bu hL⊢;have e1:L.filter (fun x=>decide (x.born<clock))=L:=Array.filter_eq_self.2 (fun x hx=>by grind);have e2:L.filter (fun x=>decide (x.born≥clock))= #[]:=by simp_all
 simp only[e1,e2,Array.append_empty];rw[←hL];by_cases h0:L.size=0
 ·left;have:L= #[]:=apT h0;subst this;refine⟨rfl,?_⟩;simp[choose,Sem.run,Question.forced]
 ·right;have cy:L.isEmpty=false:=by simp[Array.isEmpty,h0]
  simp only[cy,tc,PS,Array.empty_append,Array.size_map];have hch:∃(j:Nat)(w1:World),j<L.size∧(w1=w∨w1=w.drew)∧(choose (Question.mapNext L.size)).run P w=.ok j w1:=by
   by_cases hf:L.size≤1
   ·exact⟨0,w,by omega,.inl rfl,by simp[choose,Sem.run,Question.forced,hf]⟩
   ·exact⟨_,w.drew,aqF _ (by omega),.inr rfl,by simp only[choose,Sem.run,Question.forced,te,hf,PS,Question.cut];rfl⟩
  obtain⟨j,w1,hj,G0,vk⟩:=hch;refine⟨j,L[j],w1,by simp,G0,?_⟩;have hg1:w1.heap[g]?=some (.mapIter (some mg) clock seen clock):=by rcases G0 with rfl|rfl<;>exact hg
  have uy:(setObj g (.mapIter (some mg) clock (seen.push L[j].born) clock)).run P w1=.ok () (w1.putObj g (.mapIter (some mg) clock (seen.push L[j].born) clock)):=by simp only[setObj,Sem.run,hg1];rfl
  simp_all
theorem QJ{w:World}{g mg:Nat}{i:Nat}(hg:w.heap[g]?=some (.mapIter (some mg) clock seen clock))(hm:w.heap[mg]?=some (.map en clock))(hb:mS en clock)(hi:en[i]?=some e)(hs:seen.back? =some e.born):(Instr.entry (.pointer (some ⟨g,0,none⟩))).run P w=.ok (.tuple #[e.key,e.val]) w:=by
 have hf:en.find? (·.born==e.born)=some e:=by
  rw[←Array.find?_toList];refine find_born e en.toList ?_ (by grind);rw[List.Nodup,aqe,an8];intro a b ha j4 tt he;have h2:en[a]?=some en.toList[a]:=by simp
  have h3:en[b]?=some en.toList[b]:=by simp
  have:=(hb b _ h3).2 a _ h2 he;omega
 simp only[Instr.entry,getObj,Sem.run_bind,Sem.run,hg,hm,Result.andThen,hs,bne_self_eq_false,tc,PS,hf];rfl
end
section
variable {R:Type} {E:Env}
variable{g:Nat→Option R}{r:R}
theorem QK{n:Nat}(h:uF n g=some r)(i:Nat)(hi:i<n):g i=some r:=by
 unfold uF at h;split at h
 ·grind
 ·cases h
theorem G8{n:Nat}(h0:0<n)(h:∀i,i<n→g i=some r):uF n g=some r:=by unfold uF;have hh:∃r,∀i,i<n→g i=some r:=⟨r,h⟩;rw[aqY hh];grind
variable{k:V→Fr→Mem→Option R}
theorem UU{site:Nat}{t:TypeId}{x:V}{f:Fr}{m:Mem}(h:Qq E site t x f m k=some r):∃f' m',k (.it site) f' m'=some r∧(m' site).isSome=true∧∀(G:Nat→Option (List PV))(w0:bl)(μ:Ro)(φ:Nat→aK)(w:World)(ρ:Nat→Value)(y:Value),aG E.P G w0 μ φ m w→b9 E.P μ φ m f ρ→aq E.P μ φ x y→∃w' y' μ' φ',(Instr.range t y).run E.P w=.ok y' w'∧aG E.P G w0 μ' φ' m' w'∧b9 E.P μ' φ' m' f' ρ∧aq E.P μ' φ' (.it site) y':=by
 unfold Qq at h;split at h
 ·rename_i kt et hu;split at h
  ·rename_i id;split at h
   ·rename_i yH es hm;split at h
    ·obtain⟨f',m',hn,nM,yI,AP,xh⟩:=ck h;refine⟨f',m',nM,by simp[yI],fun G w0 μ φ w ρ y hM hF hx=>?_⟩;obtain⟨g,en,clock,kk,hg,hh,hs,yJ,Qf,Ah,hv⟩:=hM.dF id _ hm;obtain⟨o1,o2⟩:=hM.own id _ g hm (.inl hg);cases hx with
     |om cV=>
      rw[hg]at cV;simp only[tb]at cV;subst cV;have xq:=hM.forget id;have hM2:=xq.ahv o1 (fun j b hj e=>by
       obtain⟨cy,b',j4,rfl⟩:=fS hj;exact cy (hM.inj j id b' _ g j4 hm (fU.1 e) (.inl hg))) (by
        cases hq:w0.hid g with
        |none=>rfl
        |some o=>exact absurd (.inl hg) ((hM.hid g o hq).2.2.2 id _ hm))
      have uI:=mU xq (some g);have FV:b9 E.P (pT μ w (some g)) φ (br (bH id m) id) (eU id f) ρ:=(hF.forget id).mono uI fun j hj=>⟨rfl,hj⟩;have kL:∀φ':Nat→aK,φ' site=(EY (some w.heap.size) 0 0 0)→(∀j,(bI.iter t es none).names j=true→φ' j=φ j)→gK E.P (pT μ w (some g)) φ' (w.alloc (.mapIter (some g) clock #[] clock)) site (.iter t es none):=fun φ' hp _=>by
       refine⟨w.heap.size,g,en,clock,#[],by rw[hp],fV w _,by simp[pT,hh],Ah,(by rw[J7,ap1,hs]),fun i k v e h1 h2=>?_,fun k v h=>by cases h⟩;have h2':en[i]?=some e:=by simp_all[aoi,J7]
       exact⟨(hv i k v e h1 h2').1.mono uI,(hv i k v e h1 h2').2.mono uI⟩
      obtain⟨φ',a1,a2,a3⟩:=xh E.P G w0 _ φ w (w.alloc (.mapIter (some g) clock #[] clock)) ρ (EY (some w.heap.size) 0 0 0) hM2 FV (lW.alloc (o:=.mapIter (some g) clock #[] clock) hM2 rfl kL (by simp[bI.names]));exact⟨_,_,_,φ',run_range_map w t kt et g en clock hu hh,a2,a3,.it (by rw[a1])⟩
    ·cases h
   ·cases h
  ·cases h
 ·cases h
theorem XG{x:V}{f:Fr}{m:Mem}(h:Xc E x f m k=some r)(G:Nat→Option (List PV))(w0:bl)(μ:Ro)(φ:Nat→aK)(w:World)(y:Value)(ty:TypeId)(hM:aG E.P G w0 μ φ m w)(hx:aq E.P μ φ x y):∃v m' y' w',k v f m'=some r∧(∀id,v.has id=false)∧kS m m'∧(Instr.next y false ty).run E.P w=.ok y' w'∧aG E.P G w0 μ φ m' w'∧aq E.P μ φ v y':=by
 unfold Xc at h;split at h
 ·rename_i id;split at h
  ·rename_i t es cur hm;split at h
   ·rename_i kt et hu;obtain⟨g,mg,en,clock,seen,hg,hh,Nb,Ah,Jf,hv,_⟩:=hM.dF id _ hm;obtain⟨o1,o2⟩:=hM.own id _ g hm (.inl hg);cases hx with
    |it cV=>
     rw[hg]at cV;simp only[tb]at cV;subst cV;have hmg:=hM.ro _ _ Nb;rcases UT (P:=E.P) hh hmg Ah ty with⟨afk,vk⟩|⟨j,e,w1,hj,UW,vk⟩
     ·have:es=[]:=by grind
      subst this;simp only[List.isEmpty_nil,IS]at h;refine⟨_,m,_,w,h,by simp[V.has,cq],kS.refl m,vk,hM,.aV rfl fun i p x hp hx=>?_⟩;cases i with
      |zero=>simp at hp hx;subst hp;subst hx;exact .pv .bool
      |succ i=>simp at hp
     ·have yD:j<(mi en seen).length:=(IN.1 hj).1;have cy:¬es.isEmpty=true:=by grind
      rw[IT cy]at h;have h:=QK h j (by omega);obtain⟨e0,Ng,h⟩:=AI.1 h;obtain⟨qa,_,ha,ra,_⟩:=mz h;obtain⟨qb,_,hb,rb,_⟩:=mz ha;obtain⟨rk,rv⟩:=hv j e0.1 e0.2 e Ng hj;refine⟨_,_,_,_,hb,by simp[V.has,cq],.set,vk,?_,.aV rfl fun i p x hp hx=>?_⟩
      ·have xq:aG E.P G w0 μ φ m w1:=by rcases UW with rfl|rfl;exact hM;exact hM.drew
       have bK:g<w1.heap.size:=by have:g<w.heap.size:=(adW.1 hh).1;rcases UW with rfl|rfl<;>exact this
       refine xq.write hm rfl hg (QI w1 g _) World.putObj_size (fun k hk=>World.putObj_heap_other hk) ?_ rfl (by simp[bI.names]);refine⟨g,mg,en,clock,seen.push e.born,hg,World.putObj_heap_same bK,Nb,Ah,?_,fun i k v e' h1 h2=>?_,fun k v hc=>?_⟩
       ·rw[G7 Ah hj,aqJ,aqJ,Jf]
       ·rw[G7 Ah hj]at h2;grind
       ·simp only[tb,T0]at hc;obtain⟨rfl,rfl⟩:=hc;obtain⟨i,hi⟩:=US (amq hj);grind
      ·match i with
       |0=>simp at hp hx;subst hp;subst hx;exact .pv .bool
       |1=>simp at hp hx;subst hp;subst hx;exact .pv (ra _ _ _ rk)
       |2=>simp at hp hx;subst hp;subst hx;exact .pv (rb _ _ _ rv)
       |i+3=>simp at hp
   ·cases h
  ·cases h
 ·cases h
theorem UX{x:V}{m:Mem}{k:V→Mem→Option R}(h:Qr x m k=some r)(P:Program)(G:Nat→Option (List PV))(w0:bl)(μ:Ro)(φ:Nat→aK)(w:World)(y:Value)(hM:aG P G w0 μ φ m w)(hx:aq P μ φ x y):∃v m' y',k v m'=some r∧(∀id,v.has id=false)∧kS m m'∧(Instr.entry y).run P w=.ok y' w∧aG P G w0 μ φ m' w∧aq P μ φ v y':=by
 unfold Qr at h;split at h
 ·rename_i id;split at h
  ·rename_i t es a b hm;obtain⟨g,mg,en,clock,seen,hg,hh,Nb,Ah,Jf,hv,hcu⟩:=hM.dF id _ hm;obtain⟨i,e,hi,hs,ra,rb⟩:=hcu a b rfl;cases hx with
   |it cV=>
    rw[hg]at cV;simp only[tb]at cV;subst cV;refine⟨_,_,_,h,by simp[V.has,cq],.set,QJ hh (hM.ro _ _ Nb) Ah hi hs,?_,.aV rfl fun i p x hp hx=>?_⟩
    ·exact hM.write hm rfl hg (lr.refl _ _) rfl (fun _ _=>rfl) ⟨g,mg,en,clock,seen,hg,hh,Nb,Ah,Jf,hv,fun k v h=>by cases h⟩ rfl (by simp[bI.names])
    match i with
    |0=>simp at hp hx;subst hp;subst hx;exact .pv ra
    |1=>simp at hp hx;subst hp;subst hx;exact .pv rb
    |i+2=>simp at hp
  ·cases h
 ·cases h
end
section
variable {P:Program} {G:Nat→Option (List PV)} {w0:bl} {μ μ':Ro} {φ φ':Nat→aK} {m m':Mem} {w w':World}
variable{id j:Nat}{b:bI}
theorem gL(h:fA id m j=some b):∃b',m j=some b'∧b=dX id b':=by unfold fA at h;grind
theorem qC:(fA id m j).isSome=(m j).isSome:=by unfold fA;cases m j<;>rfl
theorem E8(id:Nat)(b:bI):(dX id b).rowAt=b.rowAt:=by cases b<;>rfl
theorem qf{p:aK}{g:Nat}:(dX id b).owns p g↔b.owns p g:=by unfold bI.owns;rw[E8]
theorem yY{p:aK}:(dX id b).apart p↔b.apart p:=by unfold bI.apart;rw[E8]
theorem BL(id:Nat)(b:bI):(dX id b).ke=b.ke:=by cases b<;>rfl
theorem QL{cs:List V}(h:cq j (cs.map (oj id))=true):cq j cs=true:=by obtain⟨v,hv,hh⟩:=cT.1 h;obtain⟨u,hu,rfl⟩:=anG.1 hv;exact bO hu (Aj hh).1
theorem gK.A4{id j:Nat}{b:bI}(h:gK P μ φ w j b):gK P μ φ w j (dX id b):=by
 cases b with
 |box cs=>obtain⟨g,c,T,hg,hh,hs,hv,h1,Jf⟩:=h;refine⟨g,c,T,hg,hh,by simpa using hs,fun i v x hi hx=>?_,h1,by simpa using Jf⟩;simp only[AT,ae0]at hi;obtain⟨u,hu,rfl⟩:=hi;exact(hv i u x hu hx).A4 id
 |_=>exact h
theorem aG.xt(hM:aG P G w0 μ φ m w)(id:Nat):aG P G w0 μ φ (fA id m) w:=by
 refine⟨hM.below,hM.ro,hM.aF,fun j b h=>?_,fun j b g h hg=>?_,fun i j b1 b2 g h1 h2 g1 g2=>?_,fun j b h=>?_,fun j cs i h hh=>?_,hM.base,hM.dG,fun j st h=>?_,fun g o h=>⟨(hM.hid g o h).1,(hM.hid g o h).2.1,(hM.hid g o h).2.2.1,fun j b hj hg=>by obtain⟨b',hb,rfl⟩:=gL hj;exact(hM.hid g o h).2.2.2 j b' hb (qf.1 hg)⟩⟩
 ·obtain⟨b',hb,rfl⟩:=gL h;exact(hM.dF j b' hb).A4
 ·obtain⟨b',hb,rfl⟩:=gL h;rw[BL];exact hM.own j b' g hb (qf.1 hg)
 ·obtain⟨b1',SB,rfl⟩:=gL h1;obtain⟨b2',td,rfl⟩:=gL h2;exact hM.inj i j b1' b2' g SB td (qf.1 g1) (qf.1 g2)
 ·obtain⟨b',hb,rfl⟩:=gL h;exact yY.2 (hM.apart j b' hb)
 ·obtain⟨b',hb,e⟩:=gL h;cases b' with
  |box I6=>simp only[dX,bI.box.injEq]at e;subst e;rw[qC];exact hM.fJ j I6 i hb (QL hh)
  |_=>simp[dX]at e
 ·obtain⟨b',hb,e⟩:=gL h;cases b' with
  |loop st'=>simp only[dX,bI.loop.injEq]at e;subst e;exact hM.DL j st hb
  |_=>simp[dX]at e
variable{ρ:Nat→Value}
theorem b9.xt{f:Fr}(h:b9 P μ φ m f ρ)(id:Nat):b9 P μ φ (fA id m) (gz id f) ρ:=⟨fun t=>(h.fr t).A4 id,fun t j hj=>by rw[qC];exact h.live t j (Aj hj).1⟩
theorem aG.km:∀{kl:Kl}{m:Mem},aG P G w0 μ φ m w→aG P G w0 μ φ (Go.Ab.km kl m) w
 |[],_,h=>h
 |(true,id)::r,m,h=>(aG.km (kl:=r) (m:=br (bH id m) id) (h.forget id):)
 |(false,id)::r,m,h=>(aG.km (kl:=r) (m:=fA id m) (h.xt id):)
theorem b9.km{ρ:Nat→Value}:∀{kl:Kl}{m:Mem}{f:Fr},b9 P μ φ m f ρ→b9 P μ φ (Go.Ab.km kl m) (kf kl f) ρ
 |[],_,_,h=>h
 |(true,id)::r,m,f,h=>(b9.km (kl:=r) (m:=br (bH id m) id) (f:=eU id f) (h.forget id):)
 |(false,id)::r,m,f,h=>(b9.km (kl:=r) (m:=fA id m) (f:=gz id f) (h.xt id):)
theorem aG.SM(hM:aG P G w0 μ φ m w)(nw:Nat→Nat→Nat)(hblk:∀j b',m' j=some b'→gK P μ φ' w j b')(AO:∀j b' g,m' j=some b'→b'.owns (φ' j) g→∃k b,m k=some b∧b.owns (φ k) g∧(b'.ke=true→b.ke=true)∧j=nw g k)(F8:∀j b',m' j=some b'→b'.apart (φ' j))(EW:∀j cs id,m' j=some (.box cs)→cq id cs=true→(m' id).isSome=true)(ale:∀j st,m' j=some (.loop st)→m j=some (.loop st)∧(φ' j).g=(φ j).g):aG P G w0 μ φ' m' w:=by
 refine⟨hM.below,hM.ro,hM.aF,hblk,fun j b' g h hg=>?_,fun i j b1 b2 g h1 h2 g1 g2=>?_,F8,EW,hM.base,hM.dG,fun j st h=>?_,fun g o h=>⟨(hM.hid g o h).1,(hM.hid g o h).2.1,(hM.hid g o h).2.2.1,fun j b' hj hg=>by obtain⟨k,b,hk,ho,_,_⟩:=AO j b' g hj hg;exact(hM.hid g o h).2.2.2 k b hk ho⟩⟩
 ·obtain⟨k,b,hk,ho,Nb,_⟩:=AO j b' g h hg;obtain⟨o1,o2⟩:=hM.own k b g hk ho;simp_all
 ·obtain⟨k1,c1,hk1,ho1,_,e1⟩:=AO i b1 g h1 g1;obtain⟨k2,c2,NS,ho2,_,e2⟩:=AO j b2 g h2 g2;rw[e1,e2,hM.inj k1 k2 c1 c2 g hk1 NS ho1 ho2]
 ·obtain⟨h1,h2⟩:=ale j st h;obtain⟨g,rc,r1,r2,r3⟩:=hM.DL j st h1;simp_all
def lB(p:aK)(i off:Nat)(r:EX):aK:={p with row:=fun a b=>if a=i∧b=off then r else p.row a b}
theorem gM(p:aK)(i off:Nat)(r:EX):(lB p i off r).row i off=r:=by simp[lB]
theorem il(p:aK){i off a b:Nat}(r:EX)(h:¬(a=i∧b=off)):(lB p i off r).row a b=p.row a b:=by simp[lB,h]
theorem gK.SN(h:gK P μ φ w j (dX id b))(hj:j≠id)(h0:(φ' id).toEX=(φ id).toEX)(hφ:∀k,k≠id→φ' k=φ k):gK P μ φ' w j (dX id b):=by
 have e:=hφ j hj;cases b with
 |box cs=>
  obtain⟨g,c,T,hg,hh,hs,hv,h1,Jf⟩:=h;refine⟨g,c,T,by rw[e];omega,hh,hs,fun i v x hi hx=>?_,h1,by rw[e];omega⟩;refine(hv i v x hi hx).ael (fun _ _ h=>h) fun k hk=>?_;by_cases hki:k=id
  ·subst hki;refine⟨h0,fun h2=>?_⟩;simp only[AT,ae0]at hi;obtain⟨u,hu,rfl⟩:=hi;rw[(Aj hk).2]at h2;cases h2
  simp_all
 |arr sz et es=>exact gK.cG h (fun k hk=>by simp[bI.names,dX]at hk) e (fun _ _ h=>h) (fun _ _=>rfl)
 |rE sz et es=>exact gK.cG h (fun k hk=>by simp[bI.names,dX]at hk) e (fun _ _ h=>h) (fun _ _=>rfl)
 |map kt es=>exact gK.cG h (fun k hk=>by simp[bI.names,dX]at hk) e (fun _ _ h=>h) (fun _ _=>rfl)
 |nest sz et es=>exact gK.cG h (fun k hk=>by simp[bI.names,dX]at hk) e (fun _ _ h=>h) (fun _ _=>rfl)
 |fH kt e0 es=>exact gK.cG h (fun k hk=>by simp[bI.names,dX]at hk) e (fun _ _ h=>h) (fun _ _=>rfl)
 |loop st=>exact gK.cG h (fun k hk=>by simp[bI.names,dX]at hk) e (fun _ _ h=>h) (fun _ _=>rfl)
 |iter t es cur=>exact gK.cG h (fun k hk=>by simp[bI.names,dX]at hk) e (fun _ _ h=>h) (fun _ _=>rfl)
theorem b9.aer{f:Fr}(h:b9 P μ φ m (gz id f) ρ)(h0:(φ' id).toEX=(φ id).toEX)(hφ:∀k,k≠id→φ' k=φ k)(hl:∀j,(m j).isSome=true→(m' j).isSome=true):b9 P μ φ' m' (gz id f) ρ:=by
 refine⟨fun t=>(h.fr t).ael (fun _ _ h=>h) fun k hk=>?_,fun t j hj=>hl j (h.live t j hj)⟩;by_cases hki:k=id
 ·subst hki;refine⟨h0,fun h2=>?_⟩;have:=(Aj (show(oj k (f t)).has k=true from hk)).2;rw[show gz k f t=oj k (f t)from rfl,this]at h2;cases h2
 simp_all
theorem fT{id2:Nat}{b':bI}(h:aB (fA id (br (bH id2 m) id2)) id b j=some b'):(j=id∧b'=b)∨(j≠id∧j≠id2∧∃c,m j=some c∧b'=dX id (gI id2 c)):=by
 by_cases e:j=id
 ·simp_all
 ·rw[aA e]at h;obtain⟨c1,h1,rfl⟩:=gL h;obtain⟨cy,c,hc,rfl⟩:=fS h1;simp_all
theorem QM{x:Value}(h:aq P μ φ (.os id) x):aq P μ (fun _=>((φ id).toEX).up) (.os 0) x:=by
 cases h with
 |ux h=>exact .ux h
 |os h=>exact .os (id:=0) (φ:=fun _=>((φ id).toEX).up) h
theorem aP.up{sz:Nat}{et:TypeId}{es:List PV}(h:aP P μ φ w id sz et es):aP P μ (fun _=>((φ id).toEX).up) w 0 sz et es:=h
theorem aG.afl(hM:aG P G w0 μ φ m w){id2 i off s s2:Nat}{et NT:TypeId}{es rs:List PV}{e q:PV}{x:Value}(cy:id2≠id)(hm:m id=some (.nest s et es))(cQ:m id2=some (.arr s2 NT rs))(he:es[i]?=some e)(CM:e.cells[off]?=some .bad)(hx:∀g c T,(φ id).g=some g→w.heap[g]?=some (.cells c T (0,0))→c[i*s+off]?=some x)(hv:aq P μ φ (.os id2) x)(hq:q.cells=e.cells.set off (.jr s2 rs)):aG P G w0 μ (fun j=>if j=id then lB (φ id) i off (φ id2).toEX else φ j) (aB (fA id (br (bH id2 m) id2)) id (.nest s et (es.set i q))) w:=by
 have xq:=(hM.forget id2).xt id;have hN:bg P μ φ w id s et es:=hM.dF id _ hm;have hA2:aP P μ φ w id2 s2 NT rs:=hM.dF id2 _ cQ;have I7:i<es.length:=(IN.1 he).1;have hol:off<e.cells.length:=(IN.1 CM).1;have mT:∀a b,(bI.nest s et (es.set i q)).rowAt a b=true→(a=i∧b=off)∨((bI.nest s et es).rowAt a b=true∧¬(a=i∧b=off)):=by
  intro a b hr;by_cases tt:a=i∧b=off
  ·exact .inl tt
  ·refine .inr ⟨?_,tt⟩;rcases kR hr with⟨_,_,_,e',s',rs',j4,h',wv⟩|⟨_,_,_,_,_,_,j4,_⟩
   ·simp only[bI.nest.injEq]at j4;obtain⟨rfl,rfl,rfl⟩:=j4;rcases eV h' with⟨rfl,rfl⟩|⟨hni,h'⟩
    ·rw[hq]at wv;rcases eV wv with⟨rfl,_⟩|⟨hnj,wv⟩
     ·exact absurd ⟨rfl,rfl⟩ tt
     ·rw[dK he wv];rfl
    ·rw[dK h' wv];rfl
   ·cases j4
 refine hM.SM (fun _ k=>if k=id2 then id else k) (fun j b' hj=>?_) (fun j b' g hj ho=>?_) (fun j b' hj=>?_) (fun j cs k hj hk=>?_) (fun j st hj=>?_)
 ·rcases fT hj with⟨rfl,rfl⟩|⟨h1,h2,c,hc,rfl⟩
  ·show bg P μ (fun k=>if k=j then lB (φ j) i off (φ id2).toEX else φ k) w j s et (es.set i q);refine bg.change (μ':=μ) (w':=w) (es':=es.set i q) hN (by simp) (fun i' e' h'=>?_) (by simp[lB]) (fun _ _=>rfl) (fun i' e' j' p' g c T x' h' wv hg hc Lr hold=>?_)
   ·rcases eV h' with⟨_,rfl⟩|⟨_,h'⟩
    ·rw[hq,aoA];exact hN.2.2.2.2.1 i e he
    ·exact hN.2.2.2.2.1 i' e' h'
   ·simp only[IS];by_cases tt:i'=i∧j'=off
    ·obtain⟨rfl,rfl⟩:=tt;rw[gM];have e1:e'=q:=by
      rcases eV h' with⟨_,h⟩|⟨h,_⟩
      ·exact h
      ·exact absurd rfl h
     subst e1;rw[hq]at wv;have e2:p'=.jr s2 rs:=by
      rcases eV wv with⟨_,h⟩|⟨h,_⟩
      ·exact h
      ·exact absurd rfl h
     subst e2;have e3:x'=x:=by have:=hx g c _ hg hc;rw[Lr]at this;simpa using this
     subst e3;exact⟨⟨NT,hA2.up⟩,QM hv⟩
    ·rw[il _ _ tt];rcases eV h' with⟨rfl,rfl⟩|⟨hni,h'⟩
     ·rw[hq]at wv;rcases eV wv with⟨rfl,_⟩|⟨hnj,wv⟩
      ·exact absurd ⟨rfl,rfl⟩ tt
      ·exact hold e p' he wv
     ·exact hold e' p' h' wv
  ·have hb:gK P μ φ w j (dX id (gI id2 c)):=(hM.dF j c hc).kill.A4;exact hb.SN h1 (by simp[lB]) fun k hk=>by simp[hk]
 ·rcases fT hj with⟨rfl,rfl⟩|⟨h1,h2,c,hc,rfl⟩
  ·simp only[IS]at ho;rcases ho with ho|⟨a,b,hr,ho⟩
   ·exact⟨j,_,hm,.inl ho,fun _=>rfl,by simp[cy.symm]⟩
   ·rcases mT a b hr with⟨rfl,rfl⟩|⟨yt,tt⟩
    ·rw[gM]at ho;exact⟨id2,_,cQ,.inl ho,fun _=>rfl,by simp⟩
    ·rw[il _ _ tt]at ho;exact⟨j,_,hm,.inr ⟨a,b,yt,ho⟩,fun _=>rfl,by simp[cy.symm]⟩
  ·simp only[h1,PS]at ho;exact⟨j,c,hc,fU.1 (qf.1 ho),fun h=>by rw[BL,Ao]at h;exact h,by simp[h2]⟩
 ·rcases fT hj with⟨rfl,rfl⟩|⟨h1,h2,c,hc,rfl⟩
  ·simp only[IS];have F8:=hM.apart j _ hm;have new:∀g,(φ id2).g=some g→¬(bI.nest s et es).owns (φ j) g:=fun g hg ho=>cy (hM.inj id2 j _ _ g cQ hm (.inl hg) ho);intro a b g hr hg;rcases mT a b hr with⟨rfl,rfl⟩|⟨yt,tt⟩
   ·rw[gM]at hg;refine⟨fun h=>new g hg (.inl h),fun a' b' UY Lz=>?_⟩;rcases mT a' b' UY with h|⟨hr3,QN⟩
    ·exact h
    ·rw[il _ _ QN]at Lz;exact absurd (.inr ⟨a',b',hr3,Lz⟩) (new g hg)
   ·rw[il _ _ tt]at hg;obtain⟨h3,h4⟩:=F8 a b g yt hg;refine⟨h3,fun a' b' UY Lz=>?_⟩;rcases mT a' b' UY with⟨rfl,rfl⟩|⟨hr3,QN⟩
    ·rw[gM]at Lz;exact absurd (.inr ⟨a,b,yt,hg⟩) (new g Lz)
    ·rw[il _ _ QN]at Lz;exact h4 a' b' hr3 Lz
  ·simp only[h1,PS];exact yY.2 (xp.2 (hM.apart j c hc))
 ·rcases fT hj with⟨rfl,hb⟩|⟨h1,h2,c,hc,hb⟩
  ·cases hb
  ·have Nh:fA id (br (bH id2 m) id2) j=some (.box cs):=by rw[aA h1]at hj;exact hj
   have:=xq.fJ j cs k Nh hk;by_cases e:k=id
   ·subst e;simp
   ·rw[aA e];exact this
 ·rcases fT hj with⟨rfl,hb⟩|⟨h1,h2,c,hc,hb⟩
  ·cases hb
  ·cases c<;>first|(simp[dX,gI]at hb;done)|skip
   simp only[dX,gI,bI.loop.injEq]at hb;subst hb;exact⟨hc,by simp[h1]⟩
end
def nZ(k:PV):List (PV×PV)→Option Nat
 |[]=>none
 |(a,_)::r=>if bR k.cells a.cells then some 0 else(nZ k r).map (·+1)
def kg(es:List (PV×PV)):List (PV×PV):=es.map fun x=>(x.1,.bad)
theorem G9(k:PV):∀es,nZ k (kg es)=nZ k es
 |[]=>rfl
 |(a,u)::r=>by simp only[kg,anB,nZ];rw[←G9 k r];rfl
theorem Ga{k:PV}:∀{es:List (PV×PV)}{j:Nat},nZ k es=some j→∃a u,es[j]?=some (a,u)∧bR k.cells a.cells=true
 |(a,u)::r,j,h=>by
  simp only[nZ]at h;split at h
  ·rename_i hp;simp only[tb]at h;subst h;simp_all
  ·obtain⟨i,hi,rfl⟩:=ae0.1 h;simpa using Ga hi
theorem oC(k v:PV):∀es,dr k v es=match nZ k es with|some j=>es.set j (k,v)|none=>es++[(k,v)]
 |[]=>rfl
 |(a,u)::r=>by
  simp only[dr,nZ];split
  ·rfl
  ·rw[oC k v r];cases nZ k r<;>rfl
theorem wy(k:PV):∀es,wg k es=match nZ k es with|some j=>es.modify j fun x=>(x.1,.bad)|none=>es
 |[]=>rfl
 |(a,u)::r=>by
  simp only[wg,nZ];split
  ·rfl
  ·rw[wy k r];cases nZ k r<;>simp
theorem NU(sz:Nat)(k:PV):∀es,Nn sz k es=match nZ k es with|some j=>(es[j]?).bind fun x=>bW sz x.2|none=>some []
 |[]=>rfl
 |(a,u)::r=>by
  simp only[Nn,nZ];split
  ·simp
  ·rw[NU sz k r];cases nZ k r<;>simp
theorem J8{k z:PV}{l:List (PV×PV)}{es:List MapEntry}{i:Nat}{r:Option (Nat×Value)}(h:Found k .oh z (kg l) es i r):(r=none∧nZ k l=none)∨∃j e,r=some (i+j,e.val)∧es[j]?=some e∧nZ k l=some j:=by
 cases h with
 |none h1 h2 h3=>
  refine .inl ⟨rfl,?_⟩;rw[oC]at h3;rw[←G9];cases hp:nZ k (kg l)with
  |none=>rfl
  |some j=>rw[hp]at h3;have:=congrArg List.length h3;simp at this
 | @some j a u e h1 h2 h3 h4 h5 h6=>
  refine .inr ⟨j,e,rfl,h2,?_⟩;rw[oC]at h6;rw[←G9];have bK:j<(kg l).length:=(IN.1 h1).1;cases hp:nZ k (kg l)with
  |none=>rw[hp]at h6;have:=congrArg List.length h6;simp at this
  |some j'=>
   rw[hp]at h6;simp only at h6;obtain⟨a',u',Nh,_⟩:=Ga hp;have alf:j'<(kg l).length:=(IN.1 Nh).1;have e1:((kg l).set j (k,.oh))[j']?=some (k,.oh):=by rw[←h6];simp[alf]
   grind [kg,Option.map_eq_some_iff]
section
variable {P:Program} {G:Nat→Option (List PV)} {w0:bl} {μ μ':Ro} {φ φ':Nat→aK} {m m':Mem} {w w':World}
def Ha(P:Program)(μ:Ro)(R:EX)(w:World)(e0:TypeId)(v:PV)(x:Value):Prop:=match v with
 |.jr s rs=>aP P μ (fun _=>R.up) w 0 s e0 rs∧aq P μ (fun _=>R.up) (.os 0) x
 |v=>au P μ v x
variable{e0:TypeId}
theorem Ha.pure{R:EX}{v:PV}{x:Value}(h:au P μ v x):Ha P μ R w e0 v x:=by
 unfold Ha;split
 ·cases h
 omega
structure QO(P:Program)(μ:Ro)(p:aK)(w:World)(kt e0:TypeId)(es:List (PV×PV))(g:Nat)(en:Array MapEntry)(clock:Nat)(kk:List Kd):Prop where
 pl:p.g=some g
 heap:w.heap[g]?=some (.map en clock)
 size:en.size=es.length
 DK:uD P kt=some kk
 key:∀(i:Nat)k v,es[i]?=some (k,v)→yn P kt kk k=true
 born:mS en clock
 rep:∀(i:Nat)k v e,es[i]?=some (k,v)→en[i]?=some e→au P μ k e.key∧Ha P μ (p.row i 0) w e0 v e.val
variable{kt:TypeId}{es:List (PV×PV)}
theorem wz{id:Nat}:gK P μ φ w id (.fH kt e0 es)↔∃g en clock kk,QO P μ (φ id) w kt e0 es g en clock kk:=by
 constructor
 ·rintro⟨g,en,clock,kk,h1,h2,h3,h4,h5,h6,h7⟩;exact⟨g,en,clock,kk,h1,h2,h3,h4,h5,h6,fun i k v e a b=>h7 i k v e a b⟩
 ·rintro⟨g,en,clock,kk,h1,h2,h3,h4,h5,h6,h7⟩;exact⟨g,en,clock,kk,h1,h2,h3,h4,h5,h6,fun i k v e a b=>h7 i k v e a b⟩
variable{en:Array MapEntry}
theorem QO.ent{p:aK}{g:Nat}{clock:Nat}{kk:List Kd}(h:QO P μ p w kt e0 es g en clock kk):yW P μ kt kk (kg es) en.toList:=by
 refine⟨by simp[kg,h.size],fun i k v hi=>?_,fun i k v e hi he=>?_⟩
 ·simp only[kg,AT,ae0]at hi;obtain⟨⟨a,u⟩,hq,hx⟩:=hi;simp only[T0]at hx;obtain⟨rfl,rfl⟩:=hx;exact h.key i a u hq
 ·simp only[kg,AT,ae0]at hi;obtain⟨⟨a,u⟩,hq,hx⟩:=hi;simp only[T0]at hx;obtain⟨rfl,rfl⟩:=hx;exact⟨(h.rep i a u e hq (by simpa using he)).1,.bad⟩
theorem Hb{t et:TypeId}{ks:List Kd}{key:PV}{zv yi:Value}{g clock:Nat}{l:List (PV×PV)}(hu:P.underlying t=some (.map kt et))(hk:uD P kt=some ks)(tn:yn P kt ks key=true)(WQ:au P μ key yi)(hg:w.heap[g]?=some (.map en clock))(hE:yW P μ kt ks (kg l) en.toList)(hz:(zeroValue et).run P w=.ok zv w):(nZ key l=none∧(Instr.lookup t (.map (some g)) yi false).run P w=.ok zv w)∨∃j e,nZ key l=some j∧en[j]?=some e∧(Instr.lookup t (.map (some g)) yi false).run P w=.ok e.val w:=by
 have UN:=Ar hk;obtain⟨hc,hv⟩:=nL tn WQ;obtain⟨r,r1,r2⟩:=mC (v:=.oh) (z:=.bad) UN hc w hE;have h1:=iS 8 kt ks UN 9992 w en.isEmpty key.cells hc;have DM:=Go.MapKept.run_getObj_map (P:=P) hg;have h1':(Instr.checkKey en.isEmpty 10000 kt (fe P kt key.cells)).run P w=.ok () w:=h1;rw[hv];unfold Instr.lookup;simp only[Sem.run_bind,run_underlying hu,Result.andThen_ok,Sem.run_pure,DM];rcases J8 r2 with⟨rfl,h⟩|⟨j,e,rfl,he,h⟩
 ·simp_all
 simp_all
end
section
variable {R:Type} {E:Env}
theorem QP{t:TypeId}(h:zeroV E.P t=some .gy)(w:World):(zeroValue t).run E.P w=.ok (.slice none 0 0) w:=by unfold zeroV at h;obtain⟨c,hc,h⟩:=ae0.1 h;obtain⟨i,hi,hz⟩:=AI.1 hc;have:=wm (P:=E.P) (μ:=fun _=>none) (φ:=fun _=>default) c;rw[h]at this;cases this;exact qA hi hz
theorem XH{site:Nat}{t:TypeId}{x ix:V}{m:Mem}{k:V→Mem→bx→Option R}{r:R}(h:Ns E site t x ix m k=some r):∃id b1 b2 m',m'=uE [(id,b1),(site,b2)] m∧k (.os site) m' [(true,id),(true,site)]=some r∧m site=none∧b2.names=(fun _=>false)∧b1.names=(fun _=>false)∧(m id).isSome=true∧(∀m2:Mem,m2 id=m id→m2 site=none→∀(R':Type)(k':V→Mem→bx→Option R'),Ns E site t x ix m2 k'=k' (.os site) (uE [(id,b1),(site,b2)] m2) [(true,id),(true,site)])∧∀(G:Nat→Option (List PV))(w0:bl)(μ:Ro)(φ:Nat→aK)(w:World)(f:Fr)(ρ:Nat→Value)(y yi:Value),aG E.P G w0 μ φ m w→b9 E.P μ φ m f ρ→aq E.P μ φ x y→aq E.P μ φ ix yi→∃u φ',(Instr.lookup t y yi false).run E.P w=.ok u w∧aG E.P G w0 μ φ' m' w∧b9 E.P μ φ' m' f ρ∧aq E.P μ φ' (.os site) u:=by
 unfold Ns at h;split at h
 ·rename_i kt et hu;split at h
  ·rename_i e hue;split at h
   ·rename_i id hz;split at h
    ·rename_i yH e' es hm hs;split at h
     ·rename_i hc;obtain⟨rfl,rfl,eO⟩:=hc;obtain⟨key,tn,h⟩:=AI.1 h;obtain⟨rs,hrs,h⟩:=AI.1 h;obtain⟨ks,k1,k2,k3⟩:=wx tn;have cy:site≠id:=fun e=>by simp_all
      refine⟨id,.fH yH e' (wg key es),.arr (aW E.P e') e' rs,_,rfl,h,hs,rfl,rfl,by rw[hm];rfl,fun m2 h1 h2 R' k'=>?_,fun G w0 μ φ w f ρ y yi hM hF hx hi=>?_⟩
      ·simp only[Ns,hu,hue,hz,h1,h2,hm,tn,hrs,anC,eO,and_self,IS];rfl
      ·obtain⟨g,en,clock,kk,hN⟩:=wz.1 (hM.dF id _ hm);have yJ:=hN.DK;rw[k1]at yJ;simp only[tb]at yJ;subst yJ;cases hx with
       |om cV=>
        rw[hN.pl]at cV;simp only[tb]at cV;subst cV;have QQ:=Hb hu k1 k2 (k3 μ φ yi hi) hN.heap hN.ent (QP hz w);have LA:∀i off,(bI.fH yH e' (wg key es)).rowAt i off=true→(bI.fH yH e' es).rowAt i off=true∧nZ key es≠some i:=by
         intro i off hr;rcases kR hr with⟨_,_,_,_,_,_,hb,_⟩|⟨_,_,_,k0,s0,rs0,hb,rfl,he⟩
         ·cases hb
         ·simp only[bI.fH.injEq]at hb;obtain⟨rfl,rfl,rfl⟩:=hb;rw[wy]at he;cases hp:nZ key es with
          |none=>rw[hp]at he;simp only at he;exact⟨by rw[kQ he];rfl,by simp⟩
          |some j=>
           rw[hp]at he;simp only[apX]at he;split at he
           ·simp_all
           ·rename_i hji;have he:es[i]?=some (k0,PV.jr s0 rs0):=by simpa using he
            exact⟨by rw[kQ he];rfl,fun h=>hji (by simpa using h)⟩
        have xq:aG E.P G w0 μ φ (aB m id (.fH yH e' (wg key es))) w:=by
         refine hM.write hm rfl hN.pl (lr.refl _ _) rfl (fun _ _=>rfl) (wz.2 ⟨g,en,clock,ks,hN.pl,hN.heap,?_,k1,fun i k0 v0 h0=>?_,hN.born,fun i k0 v0 e0 h0 Ng=>?_⟩) rfl (by simp[bI.names]) (fun st h=>by cases h) (fun i off hr=>(LA i off hr).1)
         ·rw[hN.size,wy];grind
         ·rw[wy]at h0;cases hp:nZ key es with
          |none=>rw[hp]at h0;exact hN.key i k0 v0 h0
          |some j=>
           rw[hp]at h0;simp only[apX]at h0;obtain⟨x0,UJ,hq⟩:=ae0.1 h0;obtain⟨xa,xu⟩:=x0;split at hq
           ·simp only[T0]at hq;rw[←hq.1];exact hN.key i xa xu UJ
           ·simp only[id_eq,T0]at hq;rw[←hq.1];exact hN.key i xa xu UJ
         ·rw[wy]at h0;cases hp:nZ key es with
          |none=>rw[hp]at h0;exact hN.rep i k0 v0 e0 h0 Ng
          |some j=>
           rw[hp]at h0;simp only[apX]at h0;obtain⟨x0,UJ,hq⟩:=ae0.1 h0;obtain⟨xa,xu⟩:=x0;obtain⟨q1,q2⟩:=hN.rep i xa xu e0 UJ Ng;split at hq
           ·simp only[T0]at hq;obtain⟨rfl,rfl⟩:=hq;exact⟨q1,.pure .bad⟩
           simp_all
        have ahw:∀(ph:aK)(u:Value),aP E.P μ (fun _=>ph) w 0 (aW E.P e') e' rs→aq E.P μ (fun _=>ph) (.os 0) u→(∀g',ph.g=some g'→∃j,nZ key es=some j∧(bI.fH yH e' es).rowAt j 0=true∧((φ id).row j 0).g=some g')→∃φ',aG E.P G w0 μ φ' (uE [(id,.fH yH e' (wg key es)),(site,.arr (aW E.P e') e' rs)] m) w∧b9 E.P μ φ' (uE [(id,.fH yH e' (wg key es)),(site,.arr (aW E.P e') e' rs)] m) f ρ∧aq E.P μ φ' (.os site) u:=by
         intro ph u hA hV DM;have Ji:∀j,(m j).isSome=true→j≠site:=fun j hj e=>by simp_all
         refine⟨fun i=>if i=site then ph else φ i,?_,?_,?_⟩
         ·refine xq.put (by rw[aA cy];omega) (lr.refl _ _) hM.ro (fun _ _ _ _ _=>rfl) (fun g' cV=>?_) (s9 pZ) ?_ (by simp[bI.names]) (fun st h=>by cases h) (fun k o h=>⟨(hM.hid k o h).1,fun hk=>by obtain⟨j,hj,hr,hjg⟩:=DM k (ly pZ hk);exact(hM.hid k o h).2.2.2 id _ hm (.inr ⟨j,0,hr,hjg⟩)⟩)
          ·have cV:=ly pZ cV;obtain⟨j,hj,hr,hjg⟩:=DM g' cV;obtain⟨o1,o2⟩:=hM.own id _ g' hm (.inr ⟨j,0,hr,hjg⟩);refine⟨o1,o2 rfl,fun i b' hi ho=>?_⟩;by_cases UG:i=id
           ·subst UG;rw[bB]at hi;simp only[tb]at hi;subst hi;obtain⟨a1,a2⟩:=hM.apart i _ hm j 0 g' hr hjg;rcases ho with ho|⟨i',xg,yt,ho⟩
            ·exact a1 ho
            grind
           ·rw[aA UG]at hi;exact UG (hM.inj i id _ _ g' hi hm ho (.inr ⟨j,0,hr,hjg⟩))
          ·exact aP.move (φ':=fun i=>if i=site then ph else φ i) (j:=site) hA (by simp) (fun _ _ h=>h)
         ·refine hF.mono (fun _ _ h=>h) fun j hj=>⟨by simp[Ji j hj],?_⟩;show(aB (aB m id _) site _ j).isSome=true;rw[aA (Ji j hj)];by_cases hji:j=id
          ·subst hji;simp
          ·rw[aA hji];omega
         ·cases hV with
          |ux h=>exact .ux (by simpa using h)
          | @os _ g0 h=>have:=aq.os (P:=E.P) (μ:=μ) (φ:=fun i=>if i=site then ph else φ i) (id:=site) (g:=g0) (by simpa using h);simpa using this
        rw[NU]at hrs;rcases QQ with⟨hp,vk⟩|⟨j,en0,hp,hen,vk⟩
        ·rw[hp]at hrs;simp only[tb]at hrs;subst hrs;obtain⟨φ',a1,a2,a3⟩:=ahw (EY none 0 0 (aW E.P e')) (.slice none 0 0) ⟨rfl,rfl,rfl,eO,by simp,by simp[maxLen],⟨rfl,rfl⟩⟩ (.ux rfl) (fun g' cV=>by cases cV);grind
        ·rw[hp]at hrs;obtain⟨x0,UJ,mT⟩:=AI.1 hrs;obtain⟨xa,xu⟩:=x0;have hxu:=NI mT;simp only at hxu;subst hxu;obtain⟨_,q2⟩:=hN.rep j xa _ en0 UJ hen;obtain⟨φ',a1,a2,a3⟩:=ahw ((φ id).row j 0).up en0.val q2.1 q2.2 (fun g' cV=>⟨j,hp,by rw[kQ UJ];rfl,cV⟩);grind
     ·cases h
    ·cases h
   ·cases h
  ·cases h
 ·cases h
end
theorem Hc{m:Mem}:∀{cs:List V}{j0:Nat}{ps:List PV}{tk:Option (Nat×Nat)},mf m j0 cs=some (ps,tk)→ps.length=cs.length∧(tk=none→∀(i:Nat)p,ps[i]?=some p→∃v,cs[i]?=some v∧lU dh 1 v=some p)∧∀j id2,tk=some (j,id2)→∃l s2 NT rs,cs[l]?=some (.os id2)∧m id2=some (.arr s2 NT rs)∧ps[l]?=some (.jr s2 rs)∧∀(i:Nat)p,i≠l→ps[i]?=some p→∃v,cs[i]?=some v∧lU dh 1 v=some p
 |[],j0,ps,tk,h=>by simp only[mf,tb,T0]at h;grind
 |v::r,j0,ps,tk,h=>by
  have plain:∀{p:PV},lU dh 1 v=some p→(match mf m (j0+1) r with
   |some (ps,t)=>some (p::ps,t)
   |none=>none)=some (ps,tk)→ps.length=(v::r).length∧
   (tk=none→∀(i:Nat)p,ps[i]?=some p→∃u,(v::r)[i]?=some u∧lU dh 1 u=some p)∧
   ∀j id2,tk=some (j,id2)→∃l s2 NT rs,(v::r)[l]?=some (.os id2)∧m id2=some (.arr s2 NT rs)∧ps[l]?=some (.jr s2 rs)∧∀(i:Nat)p,i≠l→ps[i]?=some p→∃u,(v::r)[i]?=some u∧lU dh 1 u=some p:=by
   intro p hp h
   split at h
   ·rename_i ps' t ht;simp only[tb,T0]at h;obtain⟨rfl,rfl⟩:=h;obtain⟨h1,h2,h3⟩:=Hc ht;refine⟨by simp[h1],fun hn i q hq=>?_,fun j id2 hj=>?_⟩
    ·grind
    ·obtain⟨l,s2,NT,rs,a1,a2,a3,a4⟩:=h3 j id2 hj;refine⟨l+1,s2,NT,rs,by simpa using a1,a2,by simpa using a3,fun i q hi hq=>?_⟩;grind
   ·cases h
  unfold mf at h;split at h
  ·rename_i heq;cases heq
  ·rename_i j id r' heq;simp only[aon]at heq;obtain⟨rfl,rfl⟩:=heq;split at h
   ·rename_i s et es hm;split at h
    ·rename_i ps' ht;simp only[tb,T0]at h;obtain⟨rfl,rfl⟩:=h;obtain⟨h1,h2,_⟩:=Hc ht;refine⟨by simp[h1],fun hn=>(nomatch hn),fun j id2 hj=>?_⟩;simp only[tb,T0]at hj;obtain⟨rfl,rfl⟩:=hj;refine⟨0,s,et,es,rfl,hm,rfl,fun i q hi hq=>?_⟩;grind
    ·cases h
   ·cases h
  grind
section
variable {P:Program} {G:Nat→Option (List PV)} {w0:bl} {μ μ':Ro} {φ φ':Nat→aK} {m m':Mem} {w w':World}
theorem Hd{v:V}{n j id2:Nat}{cs:List V}{ps:List PV}(hc:toCells n v=some cs)(h:mf m 0 cs=some (ps,some (j,id2))):∃l s2 NT rs,m id2=some (.arr s2 NT rs)∧ps[l]?=some (.jr s2 rs)∧ps.length=n∧v.has id2=true∧∀(P:Program)(μ:Ro)(φ:Nat→aK)(x:Value),aq P μ φ v x→x.cells.size=n∧(∀(i:Nat)(y:Value),x.cells[i]?=some y→y.oneCell'=true)∧(∀(i:Nat)p y,i≠l→ps[i]?=some p→x.cells[i]?=some y→au P μ p y)∧∃y,x.cells[l]?=some y∧aq P μ φ (.os id2) y:=by
 obtain⟨t1,_,t3⟩:=Hc h;obtain⟨l,s2,NT,rs,a1,a2,a3,a4⟩:=t3 j id2 rfl;obtain⟨n1,n2,n3⟩:=toCells_ok hc;refine⟨l,s2,NT,rs,a2,a3,by omega,n2 id2 (bO (amq a1) (by simp[V.has])),fun P μ φ x hx=>?_⟩;obtain⟨x1,x2,x3⟩:=n3 P μ φ x hx;refine⟨x1,x3,fun i p y hi hp hy=>?_,?_⟩
 ·grind [wu]
 ·have hl:l<x.cells.size:=by grind
  exact⟨x.cells[l],T1 hl,x2 l _ _ a1 (T1 hl)⟩
theorem E9{s off n:Nat}{e:PV}{ps:List PV}(hn:ps.length=n)(hb:off+n≤s)(h0:0<n)(ha:s=1→∀p,ps.head? =some p→∀cs,p≠.agg cs):(if s=1 then ps.headD .bad else PV.agg (bN (aM s e) off ps)).cells=bN (aM s e) off ps:=by
 split
 ·rename_i h1;subst h1;have e1:off=0:=by omega
  have e2:n=1:=by omega
  subst e1;subst e2;match ps,hn with
  |[p],_=>
   have:=ha rfl p rfl;have hp:p.cells=[p]:=by cases p<;>first|rfl|exact absurd rfl (this _)
   simp only[List.headD_cons,hp,ek,apy,aoT,alx,anx];rfl
 rfl
theorem He{T:Type}{cs ps:List T}{off l:Nat}{x:T}(hl:l<ps.length)(hb:off+ps.length≤cs.length):bN cs off (ps.set l x)=(bN cs off ps).set (off+l) x:=by
 have hto:(cs.take off).length=off:=by simp;omega
 simp_all[ek,aoA,an1,List.set_append,IT,BY]
theorem Hf{id id2:Nat}{B X:bI}(cy:id2≠id):aB (fA id (br (bH id2 (aB m id B)) id2)) id X=aB (fA id (br (bH id2 m) id2)) id X:=by
 funext t;by_cases h:t=id
 ·subst h;simp
 ·rw[aA h,aA h];unfold fA;by_cases h2:t=id2
  ·subst h2;simp
  simp_all[gB,bH,aA]
end
section
variable {R:Type} {E:Env}
theorem XI{t:TypeId}{v:V}{id i off s id2 j:Nat}{et:TypeId}{es ps:List PV}{cs:List V}{e:PV}{m:Mem}(hm:m id=some (.nest s et es))(hc:toCells (aW E.P t) v=some cs)(ht:mf m 0 cs=some (ps,some (j,id2)))(hb:off+aW E.P t≤s)(h0:0<aW E.P t)(cy:id2≠id)(he:es[i]?=some e){G:Nat→Option (List PV)}{w0:bl}{μ:Ro}{φ:Nat→aK}{w:World}{f:Fr}{ρ:Nat→Value}{ya yx:Value}(hM:aG E.P G w0 μ φ m w)(hF:b9 E.P μ φ m f ρ)(ha:aq E.P μ φ (.oe id i off) ya)(hx:aq E.P μ φ v yx):∃w' φ',(Instr.storeAt t ya yx).run E.P w=.ok () w'∧aG E.P G w0 μ φ' (uE [(id,.nest s et (es.set i (if s=1 then ps.headD .bad else .agg (bN (aM s e) off ps))))] (km [(true,id2),(false,id)] m)) w'∧b9 E.P μ φ' (uE [(id,.nest s et (es.set i (if s=1 then ps.headD .bad else .agg (bN (aM s e) off ps))))] (km [(true,id2),(false,id)] m)) (kf [(true,id2),(false,id)] f) ρ:=by
 obtain⟨l,s2,NT,rs,cQ,mT,Hg,alg,kL⟩:=Hd hc ht;obtain⟨x1,x2,x3,y,hy,hvy⟩:=kL E.P μ φ yx hx;have WN:l<ps.length:=(IN.1 mT).1;have hN:bg E.P μ φ w id s et es:=hM.dF id _ hm;have GY:=hN.2.2.2.2.1 i e he;have I5:(aM s e).length=s:=bj _ _;have pS:ps=(ps.set l .bad).set l (.jr s2 rs):=by rw[aoS];apply anX;grind
 have uy:∀(a:Nat)p,(ps.set l .bad)[a]?=some p→(a=l∧p=.bad)∨(a≠l∧ps[a]?=some p):=fun a p h=>eV h;have hE:vq E.P μ (aW E.P t) (.agg (ps.set l .bad)) yx:=by
  refine⟨by simp[PV.cells,Hg],x1,fun a p z hp hz=>?_,x2⟩;rcases uy a p (by simpa[PV.cells]using hp)with⟨_,rfl⟩|⟨h1,h2⟩
  ·exact .bad
  grind
 have one:s=1→ps.length=1:=fun h=>by omega
 have hq:(if s=1 then ps.headD .bad else PV.agg (bN (aM s e) off ps)).cells=bN (aM s e) off ps:=E9 Hg hb h0 fun h1 p hp I6=>by grind [List.head?_eq_getElem?,Option.some.injEq]
 have F9:(if s=1 then(ps.set l .bad).headD .bad else PV.agg (bN (aM s e) off (ps.set l .bad))).cells=bN (aM s e) off (ps.set l .bad):=E9 (by simpa using Hg) hb h0 fun h1 p hp I6=>by
  have Nc:l=0:=by omega
  subst Nc;rw[apJ,aod,BY rfl,BY WN]at hp;grind
 generalize (if s=1 then ps.headD .bad else PV.agg (bN (aM s e) off ps))=q at hq⊢;generalize (if s=1 then(ps.set l .bad).headD .bad else PV.agg (bN (aM s e) off (ps.set l .bad)))=q' at F9;cases ha with
 | @oe _ _ _ g hg=>
  obtain⟨c,T,hh,oB,AN,hrw⟩:=bg.set (q:=q') hN (hM.apart id _ hm) hg he hE hb (by rw[F9];rfl);have n9:(φ id).sz=s:=hN.2.1;have hi:=lA (P:=E.P) (t:=t) (by omega);have xq:aG E.P G w0 μ φ (aB m id (.nest s et (es.set i q'))) (w.setRow g (bN c.toList (i*s+off) yx.cells.toList).toArray):=hM.write hm rfl hg (lr.setRow (anz _)) setRow_size (fun k hk=>cm hk) AN rfl (fun j hj=>by simp[bI.names]at hj) (fun st h=>by cases h) hrw;have I7:i<es.length:=(IN.1 he).1;have ahx:q.cells=q'.cells.set (off+l) (.jr s2 rs):=by grind [He]
  have CM:q'.cells[off+l]?=some .bad:=by rw[F9,He WN (by omega),aod,BY rfl,BY];grind [cM]
  have tt:=aG.afl xq (id:=id) (id2:=id2) (i:=i) (off:=off+l) (e:=q') (q:=q) (x:=y) cy (bB _ _ _) (by rw[aA cy];exact cQ) (by simp[I7]) CM (fun g0 c0 _ Qy hc0=>by
   rw[hg]at Qy;simp only[tb]at Qy;subst Qy;rw[setRow_heap w g c _ T (0,0) hh]at hc0;simp only[tb,Obj.cells.injEq]at hc0;obtain⟨rfl,_⟩:=hc0;rw[aoa,ek];have bK:(c.toList.take (i*s+off)).length=i*s+off:=by simp;omega
   have GV:l<yx.cells.toList.length:=by grind
   rw[an1,aov (by omega),bK,show i*s+(off+l)-(i*s+off)=l by omega,aoz GV];simpa using hy) hvy ahx
  rw[aoS,Hf cy]at tt;refine⟨_,_,by grind [gC],tt,?_⟩;have FV:b9 E.P μ φ (aB m id (.nest s et (es.set i q'))) f ρ:=hF.oA (fun _ _ h=>h) .set;have hF2:=(FV.forget id2).xt id;refine hF2.aer (by simp[lB]) (fun k hk=>by simp[hk]) fun k hk=>?_;show(aB (fA id (br (bH id2 m) id2)) id _ k).isSome=true;by_cases e1:k=id
  ·subst e1;simp
  ·rw[aA e1];rw[qC]at hk⊢;by_cases e2:k=id2
   ·subst e2;simp at hk
   grind [gB,bH,aA]
end
section
variable {R:Type} {E:Env}
variable{e:TypeId}{id2:Nat}{G:Nat→Option (List PV)}{w0:bl}{φ:Nat→aK}{w:World}{ρ:Nat→Value}
theorem UZ{t:TypeId}{v:V}{j site:Nat}{cs:List V}{ps:List PV}{p:PV}{m:Mem}(hu:E.P.underlying t=some (.slice e))(hc:toCells (aW E.P e) v=some cs)(ht:mf m 0 cs=some (ps,some (j,id2)))(hs:m site=none)(hp:elemOf (aJ E.P e) ps=some p)(eO:0<aW E.P e)(Ea:aW E.P e≤16777216)(hz:(da E e).isSome=true){μ:Ro}{f:Fr}{yx:Value}(hM:aG E.P G w0 μ φ m w)(hF:b9 E.P μ φ m f ρ)(hx:aq E.P μ φ v yx):∃y w' φ',(Instr.buildSlice t 1 #[(0,yx)]).run E.P w=.ok y w'∧aG E.P G w0 μ φ' (uE [(site,.nest (aW E.P e) e [p])] (km [(true,id2)] m)) w'∧b9 E.P μ φ' (uE [(site,.nest (aW E.P e) e [p])] (km [(true,id2)] m)) (kf [(true,id2)] f) ρ∧aq E.P μ φ' (.os site) y:=by
 obtain⟨l,s2,NT,rs,cQ,mT,Hg,alg,kL⟩:=Hd hc ht;obtain⟨x1,x2,x3,z,hz1,hvz⟩:=kL E.P μ φ yx hx;obtain⟨zc,WM⟩:=anK.1 hz;obtain⟨iz,zv,i1,i2,i3,_⟩:=dC WM;have cy:id2≠site:=fun e=>by simp_all
 have U0:p.cells=ps:=by
  unfold elemOf at hp;split at hp
  ·simp only[tb]at hp;subst hp;rfl
  ·split at hp
   ·rename_i q;simp only[tb]at hp;subst hp;have Nc:l=0:=by grind
    subst Nc;simp only[aoh,tb]at mT;subst mT;rfl
   ·cases hp
 have hA2:aP E.P μ φ w id2 s2 NT rs:=hM.dF id2 _ cQ;have amT:Instr.fill (fun i=>some (i*aW E.P e,aW E.P e)) ((Array.range (1*aW E.P e)).map (zv.cells[·%zv.cells.size]!)) [(0,yx)]=some yx.cells:=by
  have Jk:((Array.range (1*aW E.P e)).map (zv.cells[·%zv.cells.size]!)).size=aW E.P e:=by simp
  rw[Aq (off:=0) (size:=aW E.P e) (by simp) x1 (by omega)];simp only[Instr.fill,tb];apply ao7;simp only[ek,apy,aoT,aoy];simp_all
 have vk:=run_buildSlice (P:=E.P) w t e 1 #[(0,yx)] yx.cells iz zv hu i1 i2 (by omega) (by omega) (by rw[i3];omega);let q:aK:={g:=some w.heap.size,cap:=1,len:=1,sz:=aW E.P e,row:=fun a b=>if a=0∧b=l then(φ id2).toEX else default};have Ji:∀k,(br (bH id2 m) id2 k).isSome=true→k≠site:=fun k hk e=>by simp_all[gB,Ne.symm,bH]
 have SO:∀a b,(bI.nest (aW E.P e) e [p]).rowAt a b=true→a=0∧b=l:=by
  intro a b hr;rcases kR hr with⟨_,_,_,e',s',rs',j4,h',wv⟩|⟨_,_,_,_,_,_,j4,_⟩
  ·simp only[bI.nest.injEq]at j4;obtain⟨rfl,rfl,rfl⟩:=j4;cases a with
   |succ a=>simp at h'
   |zero=>
    simp only[aoh,tb]at h';subst h';rw[U0]at wv;refine⟨rfl,?_⟩;by_cases U1:b=l
    ·exact U1
    ·exfalso;have bK:b<yx.cells.size:=by rw[x1,←Hg];exact(IN.1 wv).1
     exact absurd (x3 b _ _ U1 wv (T1 bK)).F7 (by simp[PV.isRow])
  ·cases j4
 have xq:=hM.forget id2;have mW:aG E.P G w0 μ (fun i=>if i=site then q else φ i) (aB (br (bH id2 m) id2) site (.nest (aW E.P e) e [p])) (w.alloc (.cells yx.cells e)):=by
  have hold:∀k,k<w.heap.size→(w.alloc (.cells yx.cells e)).heap[k]?=w.heap[k]?:=fun k hk=>lr.heap_alloc w _ k hk;refine xq.put (by rw[gB (Ne.symm cy)];simp[bH,hs]) ((lr.refl _ w).alloc hM.below.size _) (fun k o hk=>?_) (fun id b' g hid hg=>hold g ((xq.dF id b' hid).FU hg)) (fun g hg=>?_) ?_ ?_ (by simp[bI.names]) (fun st h=>by cases h) (fun k o h=>(by
   obtain⟨h1,h2,h3,h4⟩:=hM.hid k o h;have bK:=(adW.1 h1).1;refine⟨by rw[hold k bK];exact h1,fun hk=>?_⟩;rcases hk with hg|⟨a,b,hr,hg⟩
   ·simp only[q,tb]at hg;omega
   ·have tt:=SO a b hr;have hg:(φ id2).g=some k:=by simpa[q,tt]using hg
    exact h4 id2 _ cQ (.inl hg)))
  ·have:=hM.ro k o hk;rw[hold k (adW.1 this).1];exact this
  ·rcases hg with hg|⟨a,b,hr,hg⟩
   ·simp only[q,tb]at hg;subst hg;refine⟨hM.below.size,?_,fun id b' hid ho=>?_⟩
    ·cases hq:μ w.heap.size with
     |none=>rfl
     |some o'=>have:=hM.ro _ _ hq;simp at this
    ·have:=(xq.dF id b' hid).FU ho;omega
   ·have tt:=SO a b hr;have hg:(φ id2).g=some g:=by simpa[q,tt]using hg
    obtain⟨o1,o2⟩:=hM.own id2 _ g cQ (.inl hg);refine⟨o1,o2 rfl,fun id b' hid ho=>?_⟩;obtain⟨h1,b2,td,rfl⟩:=fS hid;exact h1 (hM.inj id id2 _ _ g td cQ (fU.1 ho) (.inl hg))
  ·intro a b g hr hg;have tt:=SO a b hr;have hg:(φ id2).g=some g:=by simpa[q,tt]using hg
   refine⟨fun h=>?_,fun a' b' yt _=>by have:=SO a' b' yt;omega⟩;simp only[q,tb]at h;have:=(hM.dF id2 _ cQ).FU (.inl hg);omega
  ·show bg E.P μ (fun i=>if i=site then q else φ i) (w.alloc (.cells yx.cells e)) site (aW E.P e) e [p];unfold bg;simp only[IS];refine⟨rfl,rfl,trivial,eO,fun i e' Qj=>?_,by simp[q,maxLen],yx.cells,e,fV w _,by simp[q,x1],by simp[q],fun i e' b p' x' Qj wv Lr=>?_,fun i x' _ Lr=>x2 i x' Lr⟩
   ·cases i with
    |zero=>simp at Qj;subst Qj;rw[U0,Hg]
    |succ i=>simp at Qj
   ·cases i with
    |succ i=>simp at Qj
    |zero=>
     simp only[aoh,tb]at Qj;subst Qj;rw[U0]at wv;rw[aqV,aoy]at Lr;by_cases U1:b=l
     ·subst U1;rw[mT]at wv;simp only[tb]at wv;subst wv;rw[hz1]at Lr;simp only[tb]at Lr;subst Lr;have:q.row 0 b=(φ id2).toEX:=by simp[q]
      rw[this];refine fb.cG ⟨⟨NT,hA2.up⟩,QM hvz⟩ (fun _ _ h=>h) fun g hg=>hold g ((hM.dF id2 _ cQ).FU (.inl hg))
     ·exact .pure (x3 b p' x' U1 wv Lr)
 refine⟨_,_,_,vk,mW,?_,?_⟩
 ·exact(hF.forget id2).mono (fun _ _ h=>h) fun k hk=>⟨by simp[Ji k hk],by show(aB (br (bH id2 m) id2) site _ k).isSome=true;rw[aA (Ji k hk)];exact hk⟩
 ·have:=aq.os (P:=E.P) (μ:=μ) (φ:=fun i=>if i=site then q else φ i) (id:=site) (g:=w.heap.size) (by simp[q]);simpa[q]using this
theorem XJ{k v v':PV}:∀{es:List (PV×PV)}{j:Nat},(dr k v es)[j]?=some (k,v)→(nZ k es=some j∨(nZ k es=none∧j=es.length))→(dr k v es).set j (k,v')=dr k v' es:=by
 intro es j hj hp;rw[oC,oC];rcases hp with hp|⟨hp,rfl⟩
 ·rw[hp];simp
 ·rw[hp];simp
variable{es:List (PV×PV)}
theorem aG.acQ{P:Program}{μ:Ro}{m:Mem}(hM:aG P G w0 μ φ m w){id i s2:Nat}{kt:TypeId}{k:PV}{rs:List PV}{x:Value}(cy:id2≠id)(hm:m id=some (.fH kt e es))(cQ:m id2=some (.arr s2 e rs))(he:es[i]?=some (k,.bad))(hx:∀g en clock,(φ id).g=some g→w.heap[g]?=some (.map en clock)→∃e0,en[i]?=some e0∧e0.val=x)(hv:aq P μ φ (.os id2) x):aG P G w0 μ (fun j=>if j=id then lB (φ id) i 0 (φ id2).toEX else φ j) (aB (fA id (br (bH id2 m) id2)) id (.fH kt e (es.set i (k,.jr s2 rs)))) w:=by
 have xq:=(hM.forget id2).xt id;obtain⟨g0,en,clock,kk,hN⟩:=wz.1 (hM.dF id _ hm);have hA2:aP P μ φ w id2 s2 e rs:=hM.dF id2 _ cQ;have mT:∀a b,(bI.fH kt e (es.set i (k,.jr s2 rs))).rowAt a b=true→(a=i∧b=0)∨((bI.fH kt e es).rowAt a b=true∧¬(a=i∧b=0)):=by
  intro a b hr;by_cases tt:a=i∧b=0
  ·exact .inl tt
  ·refine .inr ⟨?_,tt⟩;rcases kR hr with⟨_,_,_,_,_,_,j4,_⟩|⟨_,_,_,k',s',rs',j4,rfl,h'⟩
   ·cases j4
   ·simp only[bI.fH.injEq]at j4;obtain⟨rfl,rfl,rfl⟩:=j4;rcases eV h' with⟨rfl,_⟩|⟨hni,h'⟩
    ·exact absurd ⟨rfl,rfl⟩ tt
    ·rw[kQ h'];rfl
 refine hM.SM (fun _ k=>if k=id2 then id else k) (fun j b' hj=>?_) (fun j b' g hj ho=>?_) (fun j b' hj=>?_) (fun j cs k hj hk=>?_) (fun j st hj=>?_)
 ·rcases fT hj with⟨rfl,rfl⟩|⟨h1,h2,c,hc,rfl⟩
  ·refine wz.2 ⟨g0,en,clock,kk,by simp[lB,hN.pl],hN.heap,by simp[hN.size],hN.DK,fun a k' v' h'=>?_,hN.born,fun a k' v' e' h' Qj=>?_⟩
   ·rcases eV h' with⟨rfl,hq⟩|⟨_,h'⟩
    ·simp only[T0]at hq;rw[hq.1];exact hN.key a k _ he
    ·exact hN.key a k' v' h'
   ·simp only[IS];rcases eV h' with⟨rfl,hq⟩|⟨hni,h'⟩
    ·simp only[T0]at hq;obtain⟨rfl,rfl⟩:=hq;refine⟨(hN.rep a _ _ e' he Qj).1,?_⟩;rw[gM];obtain⟨e1,he1,hxe⟩:=hx g0 en clock hN.pl hN.heap;rw[Qj]at he1;simp only[tb]at he1;subst he1;rw[hxe];exact⟨hA2.up,QM hv⟩
    ·rw[il _ _ (fun h=>hni h.1)];exact hN.rep a k' v' e' h' Qj
  ·have hb:gK P μ φ w j (dX id (gI id2 c)):=(hM.dF j c hc).kill.A4;exact hb.SN h1 (by simp[lB]) fun k hk=>by simp[hk]
 ·rcases fT hj with⟨rfl,rfl⟩|⟨h1,h2,c,hc,rfl⟩
  ·simp only[IS]at ho;rcases ho with ho|⟨a,b,hr,ho⟩
   ·exact⟨j,_,hm,.inl ho,fun _=>rfl,by simp[cy.symm]⟩
   ·rcases mT a b hr with⟨rfl,rfl⟩|⟨yt,tt⟩
    ·rw[gM]at ho;exact⟨id2,_,cQ,.inl ho,fun _=>rfl,by simp⟩
    ·rw[il _ _ tt]at ho;exact⟨j,_,hm,.inr ⟨a,b,yt,ho⟩,fun _=>rfl,by simp[cy.symm]⟩
  ·simp only[h1,PS]at ho;exact⟨j,c,hc,fU.1 (qf.1 ho),fun h=>by rw[BL,Ao]at h;exact h,by simp[h2]⟩
 ·rcases fT hj with⟨rfl,rfl⟩|⟨h1,h2,c,hc,rfl⟩
  ·simp only[IS];have F8:=hM.apart j _ hm;have new:∀g,(φ id2).g=some g→¬(bI.fH kt e es).owns (φ j) g:=fun g hg ho=>cy (hM.inj id2 j _ _ g cQ hm (.inl hg) ho);intro a b g hr hg;rcases mT a b hr with⟨rfl,rfl⟩|⟨yt,tt⟩
   ·rw[gM]at hg;refine⟨fun h=>new g hg (.inl h),fun a' b' UY Lz=>?_⟩;rcases mT a' b' UY with h|⟨hr3,QN⟩
    ·exact h
    ·rw[il _ _ QN]at Lz;exact absurd (.inr ⟨a',b',hr3,Lz⟩) (new g hg)
   ·rw[il _ _ tt]at hg;obtain⟨h3,h4⟩:=F8 a b g yt hg;refine⟨h3,fun a' b' UY Lz=>?_⟩;rcases mT a' b' UY with⟨rfl,rfl⟩|⟨hr3,QN⟩
    ·rw[gM]at Lz;exact absurd (.inr ⟨a,b,yt,hg⟩) (new g Lz)
    ·rw[il _ _ QN]at Lz;exact h4 a' b' hr3 Lz
  ·simp only[h1,PS];exact yY.2 (xp.2 (hM.apart j c hc))
 ·rcases fT hj with⟨rfl,hb⟩|⟨h1,h2,c,hc,hb⟩
  ·cases hb
  ·have Nh:fA id (br (bH id2 m) id2) j=some (.box cs):=by rw[aA h1]at hj;exact hj
   have:=xq.fJ j cs k Nh hk;by_cases e:k=id
   ·subst e;simp
   ·rw[aA e];exact this
 ·rcases fT hj with⟨rfl,hb⟩|⟨h1,h2,c,hc,hb⟩
  ·cases hb
  ·cases c<;>first|(simp[dX,gI]at hb;done)|skip
   simp only[dX,gI,bI.loop.injEq]at hb;subst hb;exact⟨hc,by simp[h1]⟩
theorem U2{t kt et:TypeId}{xk:V}{id s:Nat}{key:PV}{rs:List PV}{m:Mem}(hu:E.P.underlying t=some (.map kt et))(hm:m id=some (.fH kt e es))(cQ:m id2=some (.arr s e rs))(tn:keyOf E kt xk=some key){μ:Ro}{f:Fr}{ya yk yv:Value}(hM:aG E.P G w0 μ φ m w)(hF:b9 E.P μ φ m f ρ)(ha:aq E.P μ φ (.om id) ya)(hk:aq E.P μ φ xk yk)(hv:aq E.P μ φ (.os id2) yv):∃w' φ',(Instr.mapUpdate t ya yk yv).run E.P w=.ok () w'∧aG E.P G w0 μ φ' (uE [(id,.fH kt e (dr key (.jr s rs) es))] (km [(true,id2),(false,id)] m)) w'∧b9 E.P μ φ' (uE [(id,.fH kt e (dr key (.jr s rs) es))] (km [(true,id2),(false,id)] m)) (kf [(true,id2),(false,id)] f) ρ:=by
 have cy:id2≠id:=fun h=>by subst h;rw[hm]at cQ;cases cQ
 obtain⟨ks,k1,k2,k3⟩:=wx tn;obtain⟨g,en,clock,kk,hN⟩:=wz.1 (hM.dF id _ hm);have yJ:=hN.DK;rw[k1]at yJ;simp only[tb]at yJ;subst yJ;have UN:=Ar k1;have hkr:=k3 μ φ yk hk;obtain⟨hc,hkv⟩:=nL k2 hkr;obtain⟨res,r1,r2⟩:=mC (v:=.oh) (z:=.bad) UN hc w hN.ent;have DM:=Go.MapKept.run_getObj_map (P:=E.P) hN.heap;have h1:(Instr.checkKey false 10000 kt yk).run E.P w=.ok () w:=by rw[hkv];exact iS 8 kt ks UN 9992 w false key.cells hc
 rw[←hkv]at r1;have bK:g<w.heap.size:=(adW.1 hN.heap).1;cases ha with
 |om cV=>
  rw[hN.pl]at cV;simp only[tb]at cV;subst cV;have fin:∀(J:Nat)(Qh:Array MapEntry)(rJ:Nat),(nZ key es=some J∨(nZ key es=none∧J=es.length))→(Instr.mapUpdate t (.map (some g)) yk yv).run E.P w=.ok () {w with heap:=w.heap.setIfInBounds g (.map Qh rJ)}→mS Qh rJ→Qh.size=(dr key .bad es).length→(∃e0,Qh[J]?=some e0∧e0.key=yk∧e0.val=yv)→(∀i e0,i≠J→Qh[i]?=some e0→en[i]?=some e0)→∃w' φ',(Instr.mapUpdate t (.map (some g)) yk yv).run E.P w=.ok () w'∧aG E.P G w0 μ φ' (uE [(id,.fH kt e (dr key (.jr s rs) es))] (km [(true,id2),(false,id)] m)) w'∧b9 E.P μ φ' (uE [(id,.fH kt e (dr key (.jr s rs) es))] (km [(true,id2),(false,id)] m)) (kf [(true,id2),(false,id)] f) ρ:=by
   intro J Qh rJ hJ hr Ah n9 hJe AQ;obtain⟨eJ,ahy,alh,ali⟩:=hJe;have mW:∀i k' v',(dr key .bad es)[i]?=some (k',v')→(i=J∧k'=key∧v'=.bad)∨(i≠J∧es[i]?=some (k',v')):=by
    intro i k' v' h;rw[oC]at h;rcases hJ with hJ|⟨hJ,rfl⟩
    ·rw[hJ]at h;rcases eV h with⟨rfl,hq⟩|⟨hni,h⟩
     ·simp only[T0]at hq;exact .inl ⟨rfl,hq.1,hq.2⟩
     ·exact .inr ⟨hni,h⟩
    ·rw[hJ]at h;simp only at h;rw[an6]at h;split at h
     ·rename_i bK;exact .inr ⟨by omega,h⟩
     ·rename_i G2;cases hd:i-es.length with
      |zero=>rw[hd]at h;simp only[aoh,tb,T0]at h;exact .inl ⟨by omega,h.1.symm,h.2.symm⟩
      |succ n=>rw[hd]at h;simp at h
   have hJb:(dr key .bad es)[J]?=some (key,.bad):=by
    rw[oC];rcases hJ with hJ|⟨hJ,rfl⟩
    ·rw[hJ];obtain⟨a,u,hj,_⟩:=Ga hJ;simp[(IN.1 hj).1]
    ·rw[hJ];simp
   have xq:aG E.P G w0 μ φ (aB m id (.fH kt e (dr key .bad es))) {w with heap:=w.heap.setIfInBounds g (.map Qh rJ)}:=by
    refine hM.write hm rfl hN.pl ⟨⟨rfl,rfl,rfl,by simp,fun k hk=>by simp[ao5 (Nat.ne_of_gt hk)]⟩,fun _=>anz _⟩ (by simp) (fun k hk=>by simp[ao5 (Ne.symm hk)]) (wz.2 ⟨g,Qh,rJ,ks,hN.pl,by simp[bK],n9,k1,fun i k' v' h=>?_,Ah,fun i k' v' e0 h Ng=>?_⟩) rfl (by simp[bI.names]) (fun st h=>by cases h) fun a b hr=>?_
    ·rcases mW i k' v' h with⟨_,rfl,_⟩|⟨_,h⟩
     ·exact k2
     ·exact hN.key i k' v' h
    ·rcases mW i k' v' h with⟨rfl,rfl,rfl⟩|⟨hni,h⟩
     ·rw[ahy]at Ng;simp only[tb]at Ng;subst Ng;exact⟨by rw[alh];exact hkr,.pure .bad⟩
     ·obtain⟨q1,q2⟩:=hN.rep i k' v' e0 h (AQ i e0 hni Ng);refine⟨q1,?_⟩;unfold Ha at q2⊢;split at q2
      ·refine⟨q2.1.cG rfl (fun _ _ h=>h) fun g' cV=>?_,q2.2⟩;have hr:(bI.fH kt e es).rowAt i 0=true:=by rw[kQ h];rfl
       have:=(hM.apart id _ hm i 0 g' hr cV).1;rw[hN.pl]at this;simp only[aqP,tb]at this;simp[ao5 this]
      ·exact q2
    ·rcases kR hr with⟨_,_,_,_,_,_,j4,_⟩|⟨_,_,_,k',s',rs',j4,rfl,h'⟩
     ·cases j4
     ·simp only[bI.fH.injEq]at j4;obtain⟨rfl,rfl,rfl⟩:=j4;rcases mW a k' _ h' with⟨_,_,h⟩|⟨_,h⟩
      ·cases h
      ·rw[kQ h];rfl
   have tt:=aG.acQ xq (id:=id) (id2:=id2) (i:=J) (x:=yv) cy (bB _ _ _) (by rw[aA cy];exact cQ) hJb (fun g0 en0 alj Qy hh0=>by
    rw[hN.pl]at Qy;simp only[tb]at Qy;subst Qy;have:(w.heap.setIfInBounds g (Obj.map Qh rJ))[g]?=some (.map Qh rJ):=by simp[bK]
    rw[this]at hh0;simp only[tb,Obj.map.injEq]at hh0;obtain⟨rfl,_⟩:=hh0;exact⟨eJ,ahy,ali⟩) hv
   rw[XJ hJb hJ,Hf cy]at tt;refine⟨_,_,hr,tt,?_⟩;have FV:b9 E.P μ φ (aB m id (.fH kt e (dr key .bad es))) f ρ:=hF.oA (fun _ _ h=>h) .set;refine((FV.forget id2).xt id).aer (by simp[lB]) (fun k hk=>by simp[hk]) fun k hk=>?_;show(aB (fA id (br (bH id2 m) id2)) id _ k).isSome=true;by_cases e1:k=id
   ·subst e1;simp
   ·rw[aA e1];rw[qC]at hk⊢;by_cases e2:k=id2
    ·subst e2;simp at hk
    ·rw[gB e2]at hk⊢;simp only[bH,aA e1]at hk⊢;exact hk
  rcases J8 r2 with⟨rfl,hp⟩|⟨j,e0,rfl,Ng,hp⟩
  ·have UO:=Go.MapKept.run_setObj_map (P:=E.P) (.map (en.push {key:=yk,val:=yv,born:=clock}) (clock+1)) hN.heap;refine fin es.length _ _ (.inr ⟨hp,rfl⟩) (by simp only[Instr.mapUpdate,Sem.run_bind,run_underlying hu,DM,h1,r1,Result.andThen_ok];exact UO) hN.born.push (by rw[oC,hp];simp[hN.size]) ⟨{key:=yk,val:=yv,born:=clock},?_,rfl,rfl⟩ fun i e0 hi h=>?_
   ·rw[←hN.size];simp
   ·rw[ap0]at h;split at h
    ·rename_i h';rw[hN.size]at h';exact absurd h' hi
    ·exact h
  ·have acR:en[j]?=some e0:=by simpa using Ng
   obtain⟨a,u,haj,hpq⟩:=Ga hp;obtain⟨hca,hva⟩:=nL (hN.key j a u haj) (hN.rep j a u e0 haj acR).1;have xr:=Lv hc hca hpq;have hsb:Instr.sameBits 10000 e0.key yk=true:=by rw[hva,hkv,←xr];refine yX (n:=9999) hc (fun ha=>?_);rw[sw hc];exact(Am UN).2.1 ha
   have UO:=Go.MapKept.run_setObj_map (P:=E.P) (.map (en.modify j fun e=>{e with key:=yk,val:=yv}) clock) hN.heap;have yD:j<en.size:=(adW.1 acR).1;refine fin j _ _ (.inl hp) (by simp only[Instr.mapUpdate,Sem.run_bind,run_underlying hu,DM,h1,r1,Result.andThen_ok];simp only[aoy,acR,No,anY,Instr.keyThatStays,hsb,IS,Sem.run_pure,Result.andThen_ok];exact UO) (hN.born.modify (fun e=>{e with key:=yk,val:=yv}) (fun _=>rfl) _) (by rw[oC,hp];simp[hN.size]) ⟨{e0 with key:=yk,val:=yv},by rw[ao0,BY rfl,acR];rfl,rfl,rfl⟩ fun i e1 hi h=>?_;rw[ao0,IT (Ne.symm hi)]at h;exact h
end
section
variable {P:Program} {G:Nat→Option (List PV)} {w0:bl} {μ μ':Ro} {φ φ':Nat→aK} {m m':Mem} {w w':World}
structure l0(P:Program)(μ:Ro)(rows:Nat→Nat→EX)(w:World)(s:Nat)(es:List PV)(xs:List Value):Prop where
 len:xs.length=es.length*s
 each:∀(i:Nat)e,es[i]?=some e→e.cells.length=s
 rep:∀(i:Nat)e(j:Nat)p x,es[i]?=some e→e.cells[j]?=some p→xs[i*s+j]?=some x→eH P μ (rows i j) w p x
 one:∀(i:Nat)(x:Value),xs[i]?=some x→x.oneCell'=true
variable{rows:Nat→Nat→EX}{es:List PV}{xs:List Value}
theorem l0.append{Hh XK:Nat→Nat→EX}{s:Nat}{es':List PV}{xs':List Value}(h:l0 P μ rows w s es xs)(h':l0 P μ Hh w s es' xs')(h1:∀i j,i<es.length→XK i j=rows i j)(h2:∀i j,es.length≤i→XK i j=Hh (i-es.length) j):l0 P μ XK w s (es++es') (xs++xs'):=by
 refine⟨by simp[h.len,h'.len,aoo],fun i e he=>?_,fun i e j p x he hp hx=>?_,fun i x hx=>?_⟩
 ·rw[an6]at he;split at he
  ·exact h.each i e he
  ·exact h'.each _ e he
 ·rw[an6]at he;split at he
  ·rename_i hi;rw[h1 i j hi];have hj:j<s:=by rw[←h.each i e he];grind
   rw[aoz (by rw[h.len];exact GZ hi hj)]at hx;exact h.rep i e j p x he hp hx
  ·rename_i hi;rw[h2 i j (by omega)];have e1:i*s+j=es.length*s+((i-es.length)*s+j):=by
    have:i=es.length+(i-es.length):=by omega
    grind
   rw[aov (by rw[h.len,e1];omega),h.len,show i*s+j-es.length*s=(i-es.length)*s+j by omega]at hx;exact h'.rep _ e j p x he hp hx
 ·rw[an6]at hx;split at hx
  ·exact h.one i x hx
  ·exact h'.one _ x hx
theorem Cells.LB{s:Nat}(h:Cells P μ s es xs):l0 P μ rows w s es xs:=⟨h.len,h.each,fun i e j p x he hp hx=>.pure (h.rep i e j p x he hp hx),h.one⟩
theorem l0.cG{rows:Nat→Nat→EX}{s:Nat}{es:List PV}{xs:List Value}(h:l0 P μ rows w s es xs)(hw:∀i e j p g,es[i]?=some e→e.cells[j]?=some p→p.isRow=true→(rows i j).g=some g→w'.heap[g]?=w.heap[g]?):l0 P μ rows w' s es xs:=⟨h.len,h.each,fun i e j p x he hp hx=>(h.rep i e j p x he hp hx).cG (fun _ _ h=>h) fun hr g hg=>hw i e j p g he hp hr hg,h.one⟩
theorem bg.LB{id sz:Nat}{et:TypeId}(h:bg P μ φ w id sz et es){g:Nat}(hg:(φ id).g=some g):∃(c:Array Value)(T:TypeId),w.heap[g]?=some (.cells c T (0,0))∧(φ id).cap*sz≤c.size∧es.length≤(φ id).cap∧l0 P μ (φ id).row w sz es (c.toList.take (es.length*sz)):=by obtain⟨a1,a2,a3,a4,a5,a6,a7⟩:=h;rw[hg]at a7;obtain⟨c,T,c1,c2,c3,c4,c5⟩:=a7;have hle:es.length*sz≤c.size:=anW (amt _ c3) c2;refine⟨c,T,c1,c2,c3,by simp;omega,a5,fun i e j p x he hp hx=>c4 i e j p x he hp (by grind),fun i x hx=>?_⟩;grind
theorem l0.nest{id g sz:Nat}{et T:TypeId}{c:Array Value}(hph:(φ id).toEX=⟨some g,(φ id).cap,es.length,sz⟩)(n9:sz=aW P et)(eO:0<sz)(su:(φ id).cap≤maxLen)(hh:w.heap[g]?=some (.cells c T (0,0)))(hc:(φ id).cap*sz≤c.size)(hle:es.length≤(φ id).cap)(hC:l0 P μ (φ id).row w sz es (c.toList.take (es.length*sz))):bg P μ φ w id sz et es:=by
 have e1:(φ id).g=some g:=by rw[hph]
 refine⟨by rw[hph],by rw[hph],n9,eO,hC.each,su,?_⟩;rw[e1];have yD:∀(i:Nat)e(j:Nat)p,es[i]?=some e→e.cells[j]?=some p→i*sz+j<es.length*sz:=fun i e j p hi hj=>GZ (IN.1 hi).1 (by rw[←hC.each i e hi];grind);refine⟨c,T,hh,hc,hle,fun i e j p x hi hj hx=>?_,fun i x hi hx=>?_⟩
 ·exact hC.rep i e j p x hi hj (by grind)
 ·exact hC.one i x (by grind)
end
section
variable {R:Type} {E:Env}
def SP(src:Option Nat)(m:Mem):Mem:=match src with|some id2=>br (bH id2 m) id2|none=>m
def kfS(src:Option Nat)(f:Fr):Fr:=match src with|some id2=>eU id2 f|none=>f
variable{src:Option Nat}
theorem XL{m:Mem}{j:Nat}{b:bI}(h:SP src m j=some b):src≠some j∧∃b',m j=some b'∧b.rowAt=b'.rowAt:=by
 cases src with
 |none=>exact⟨by simp,b,h,rfl⟩
 |some id2=>obtain⟨h1,b',h2,rfl⟩:=fS h;grind [xo]
theorem U3{t e ty:TypeId}{x:V}{id s:Nat}{es new:List PV}{rd:bx}{m:Mem}(hu:E.P.underlying t=some (.slice e))(hm:m id=some (.nest s e es))(hs:s=aW E.P e)(hz:(da E e).isSome=true)(eO:0<aW E.P e)(hby:0<Jb E.P e)(cr:(es++new).length*Jb E.P e≤aa)(AO:(∃id2,src=some id2∧id2≠id∧x=.os id2∧m id2=some (.nest s e new))∨(src=none∧fM m s x=some (new,rd))){G:Nat→Option (List PV)}{w0:bl}{μ:Ro}{φ:Nat→aK}{w:World}{f:Fr}{ρ:Nat→Value}{ys yx:Value}(hM:aG E.P G w0 μ φ m w)(hF:b9 E.P μ φ m f ρ)(ha:aq E.P μ φ (.os id) ys)(hx:aq E.P μ φ x yx):∃w' y φ',(Builtin.append_ #[t,t] ty #[ys,yx]).run E.P w=.ok y w'∧aG E.P G w0 μ φ' (aB (br (bH id (SP src m)) id) id (.nest s e (es++new))) w'∧b9 E.P μ φ' (aB (br (bH id (SP src m)) id) id (.nest s e (es++new))) (eU id (kfS src f)) ρ∧aq E.P μ φ' (.os id) y:=by
 obtain⟨zc,WM⟩:=anK.1 hz;obtain⟨i,zv,hi,hzv,his,_,SI,_,_,_⟩:=dC WM;have hN:bg E.P μ φ w id s e es:=hM.dF id _ hm;have WN:(es++new).length=es.length+new.length:=by simp
 have rD:0<s:=by omega
 obtain⟨Hh,yt⟩:∃Hh:Nat→Nat→EX,Hh=match src with|some id2=>(φ id2).row|none=>fun _ _=>default:=⟨_,rfl⟩
 obtain⟨os,hos,hC⟩:∃os,((ys=.slice none 0 0∧es.length=0∧os=[])∨∃(g cap:Nat)(c:Array Value)(T:TypeId),ys=.slice (some ⟨g,0,none⟩) es.length cap∧w.heap[g]?=some (.cells c T (0,0))∧cap*s≤c.size∧es.length≤cap∧cap≤maxLen∧os=c.toList.take (es.length*s))∧l0 E.P μ (φ id).row w s es os:=by
  cases ha with
  |ux hg=>have a7:=hN.2.2.2.2.2.2;rw[hg]at a7;rw[a7.1];exact⟨[],.inl ⟨rfl,rfl,rfl⟩,by simp,by simp,fun i e j p x he=>by simp at he,by simp⟩
  | @os _ g hg=>obtain⟨c,T,c1,c2,c3,c4⟩:=hN.LB hg;exact⟨_,.inr ⟨g,(φ id).cap,c,T,by rw[hN.1],c1,c2,c3,hN.2.2.2.2.2.1,rfl⟩,c4⟩
 obtain⟨xs,GX,hCx⟩:∃xs,((yx=.slice none 0 0∧new.length=0∧xs=[])∨∃(a:Addr)(cx:Nat),yx=.slice (some a) new.length cx∧xs.length=new.length*s∧(∀(j:Nat)v,xs[j]?=some v→w.cell? (a.add j)=some v)∧(∀v∈xs,v.oneCell'=true)∧new.length≤cx∧cx≤maxLen)∧l0 E.P μ Hh w s new xs:=by
  rcases AO with⟨id2,rfl,cy,rfl,cQ⟩|⟨rfl,GY⟩
  ·have NV:bg E.P μ φ w id2 s e new:=hM.dF id2 _ cQ;simp only at yt;subst yt;cases hx with
   |ux hg=>have a7:=NV.2.2.2.2.2.2;rw[hg]at a7;rw[a7.1];exact⟨[],.inl ⟨rfl,rfl,rfl⟩,by simp,by simp,fun i e j p x he=>by simp at he,by simp⟩
   | @os _ g hg=>
    obtain⟨c,_,c1,c2,c3,c4⟩:=NV.LB hg;refine⟨_,.inr ⟨⟨g,0,none⟩,(φ id2).cap,by rw[NV.1],c4.len,fun j v hj=>?_,fun v hv=>?_,c3,NV.2.2.2.2.2.1⟩,c4⟩
    ·grind [Addr.add_mid,dB,iQ]
    ·obtain⟨j,hj⟩:=aok hv;exact c4.one j v hj
  ·obtain⟨_,_,hsr⟩:=qe GY;have:=hsr _ _ _ _ _ _ _ hM hx;cases this with
   |none hn=>subst hn;exact⟨[],.inl ⟨rfl,rfl,rfl⟩,by simp,by simp,fun i e j p x he=>by simp at he,by simp⟩
   | @some a cx xs hC GX hcx UK=>exact⟨xs,.inr ⟨a,cx,rfl,hC.len,GX,fun u hu=>by obtain⟨j,hj⟩:=aok hu;exact hC.one j u hj,hcx,UK⟩,hC.LB⟩
 obtain⟨w',y,hr,NN⟩:=G1 (ty:=ty) hu hi hzv (by omega) hs eO hby (by simp_all) hos GX;let sj:Nat→Nat→EX:=fun a b=>if a<es.length then(φ id).row a b else Hh (a-es.length) b;have hCC:l0 E.P μ sj w s (es++new) (os++xs):=hC.append hCx (fun a b h=>by grind) (fun a b h=>by grind);have mT:∀a b g,(bI.nest s e (es++new)).rowAt a b=true→(sj a b).g=some g→(a<es.length∧(bI.nest s e es).rowAt a b=true∧((φ id).row a b).g=some g)∨(es.length≤a∧∃id2,src=some id2∧id2≠id∧m id2=some (.nest s e new)∧(bI.nest s e new).rowAt (a-es.length) b=true∧((φ id2).row (a-es.length) b).g=some g):=by
  intro a b g Ln hg;rcases kR Ln with⟨_,_,_,e',s',rs',j4,h',wv⟩|⟨_,_,_,_,_,_,j4,_⟩
  ·simp only[bI.nest.injEq]at j4;obtain⟨rfl,rfl,rfl⟩:=j4;by_cases bK:a<es.length
   ·rw[aoz bK]at h';exact .inl ⟨bK,by rw[dK h' wv];rfl,by grind⟩
   ·rw[aov (by omega)]at h';simp only[sj,bK,PS]at hg;rcases AO with⟨id2,rfl,cy,rfl,cQ⟩|⟨rfl,GY⟩
    ·simp only at yt;subst yt;exact .inr ⟨by omega,id2,rfl,cy,cQ,by rw[dK h' wv];rfl,hg⟩
    ·exfalso;obtain⟨_,_,hsr⟩:=qe GY;have h3:=hsr _ _ _ _ _ _ _ hM hx;cases h3 with
     |none hn=>subst hn;simp at h'
     | @some a2 cx xs2 hC2 am9 hcx UK=>
      have hj:(a-es.length)*s+b<xs2.length:=by rw[hC2.len];exact GZ (IN.1 h').1 (by rw[←hC2.each _ _ h'];grind)
      exact absurd (hC2.rep _ _ _ _ _ h' wv (ta hj)).F7 (by simp[PV.isRow])
  ·cases j4
 have afm:∀j,(br (bH id (SP src m)) id j).isSome=true→j≠id:=fun j hj e=>by subst e;simp at hj
 have bu:∀j b',br (bH id (SP src m)) id j=some b'→j≠id∧src≠some j∧∃b,m j=some b∧b'.rowAt=b.rowAt:=by intro j b' hj;obtain⟨h1,b1,h2,rfl⟩:=fS hj;grind [XL,xo]
 have QR:∀{j b' b g},b'.rowAt=b.rowAt→bI.owns b' (φ j) g→bI.owns b (φ j) g:=fun h ho=>by simp_all[bI.owns]
 have hM0:aG E.P G w0 μ φ (SP src m) w:=by
  cases src with
  |none=>exact hM
  |some id2=>exact hM.forget id2
 have hF0:b9 E.P μ φ (SP src m) (kfS src f) ρ:=by
  cases src with
  |none=>exact hF
  |some id2=>exact hF.forget id2
 have xq:=hM0.forget id;have FV:=hF0.forget id;have acS:∀a b g,(bI.nest s e (es++new)).rowAt a b=true→(sj a b).g=some g→w0.heap.size≤g∧μ g=none∧g<w.heap.size∧∀j b',br (bH id (SP src m)) id j=some b'→¬b'.owns (φ j) g:=by
  intro a b g Ln hg;rcases mT a b g Ln hg with⟨_,h2,h3⟩|⟨_,id2,rfl,cy,cQ,h2,h3⟩
  ·obtain⟨o1,o2⟩:=hM.own id _ g hm (.inr ⟨a,b,h2,h3⟩);refine⟨o1,o2 rfl,(hM.dF id _ hm).FU (.inr ⟨a,b,h2,h3⟩),fun j b' hj ho=>?_⟩;obtain⟨k1,_,b2,k3,k4⟩:=bu j b' hj;exact k1 (hM.inj j id _ _ g k3 hm (QR k4 ho) (.inr ⟨a,b,h2,h3⟩))
  ·obtain⟨o1,o2⟩:=hM.own id2 _ g cQ (.inr ⟨_,b,h2,h3⟩);refine⟨o1,o2 rfl,(hM.dF id2 _ cQ).FU (.inr ⟨_,b,h2,h3⟩),fun j b' hj ho=>?_⟩;obtain⟨_,k1,b2,k3,k4⟩:=bu j b' hj;exact k1 (by rw[hM.inj j id2 _ _ g k3 cQ (QR k4 ho) (.inr ⟨_,b,h2,h3⟩)])
 have ahc:∀a b a' b' g,(bI.nest s e (es++new)).rowAt a b=true→(sj a b).g=some g→(bI.nest s e (es++new)).rowAt a' b'=true→(sj a' b').g=some g→a'=a∧b'=b:=by
  intro a b a' b' g h1 h2 h3 h4;rcases mT a b g h1 h2 with⟨u1,u2,u3⟩|⟨u1,i2,u0,une,um,u2,u3⟩<;>rcases mT a' b' g h3 h4 with⟨v1,v2,v3⟩|⟨v1,i3,v0,vne,vm,v2,v3⟩
  ·exact(hM.apart id _ hm a b g u2 u3).2 a' b' v2 v3
  ·exact absurd (hM.inj i3 id _ _ g vm hm (.inr ⟨_,_,v2,v3⟩) (.inr ⟨_,_,u2,u3⟩)) vne
  ·exact absurd (hM.inj i2 id _ _ g um hm (.inr ⟨_,_,u2,u3⟩) (.inr ⟨_,_,v2,v3⟩)) une
  ·rw[u0]at v0;simp only[tb]at v0;subst v0;obtain⟨h5,h6⟩:=(hM.apart i2 _ um (a-es.length) b g u2 u3).2 (a'-es.length) b' v2 v3;omega
 have fin:∀(q:aK)(w1:World),(∀g o,w0.hid g=some o→w1.heap[g]?=some o∧q.g≠some g)→q.row=sj→lr w0.heap.size w w1→(∀k o,μ k=some o→w1.heap[k]?=some o)→(∀j b' g,br (bH id (SP src m)) id j=some b'→b'.owns (φ j) g→w1.heap[g]?=w.heap[g]?)→(∀g,q.g=some g→w0.heap.size≤g∧μ g=none∧(∀j b',br (bH id (SP src m)) id j=some b'→¬b'.owns (φ j) g)∧∀a b,(bI.nest s e (es++new)).rowAt a b=true→(sj a b).g≠some g)→(bg E.P μ (fun k=>if k=id then q else φ k) w1 id s e (es++new))→aG E.P G w0 μ (fun k=>if k=id then q else φ k) (aB (br (bH id (SP src m)) id) id (.nest s e (es++new))) w1∧b9 E.P μ (fun k=>if k=id then q else φ k) (aB (br (bH id (SP src m)) id) id (.nest s e (es++new))) (eU id (kfS src f)) ρ:=by
  intro q w1 hqh hq QA sW hold BE kL;refine⟨xq.put (by simp) QA sW hold (fun g hg=>?_) (fun a b g Ln hg=>?_) kL (by simp[bI.names]) (fun st h=>by cases h) (fun g o h=>⟨(hqh g o h).1,fun hk=>(by
   rcases hk with hk|⟨a,b,Ln,hg⟩
   ·exact(hqh g o h).2 hk
   ·rw[hq]at hg;rcases mT a b g Ln hg with⟨_,h2,h3⟩|⟨_,id2,rfl,cy,cQ,h2,h3⟩
    ·exact(hM.hid g o h).2.2.2 id _ hm (.inr ⟨a,b,h2,h3⟩)
    ·exact(hM.hid g o h).2.2.2 id2 _ cQ (.inr ⟨_,b,h2,h3⟩))⟩),FV.mono (fun _ _ h=>h) fun j hj=>⟨by simp[afm j hj],by grind [aA]⟩⟩
  ·rcases hg with hg|⟨a,b,Ln,hg⟩
   ·grind
   grind
  grind
 rcases NN with⟨rfl,rfl,h1,h2⟩|⟨g',FT,c',T',rfl,b1,b2,b3,b4,b5,b6⟩
 ·have h1:es=[]:=anF h1;have h2:new=[]:=anF h2;obtain⟨k1,k2⟩:=fin {g:=none,cap:=0,len:=0,sz:=s,row:=sj} w' (fun g o h=>⟨(hM.hid g o h).1,by simp⟩) rfl (lr.refl _ _) hM.ro (fun _ _ _ _ _=>rfl) (fun g hg=>by cases hg) ⟨by simp[h1,h2],by simp,hs,rD,by simp[h1,h2],by simp[maxLen],by simp[h1,h2]⟩;exact⟨w',_,_,hr,k1,k2,.ux (by simp)⟩
 ·have hq:∀(w1:World)(T:TypeId),w1.heap[g']?=some (.cells c' T (0,0))→l0 E.P μ sj w1 s (es++new) (os++xs)→bg E.P μ (fun k=>if k=id then({g:=some g',cap:=FT,len:=(es++new).length,sz:=s,row:=sj}:aK)else φ k) w1 id s e (es++new):=fun w1 T hh hC1=>l0.nest (g:=g') (c:=c') (by simp) hs rD (by simpa using b4) hh (by simpa using b2) (by simpa[WN]using b3) (by grind);have amU:aq E.P μ (fun k=>if k=id then({g:=some g',cap:=FT,len:=(es++new).length,sz:=s,row:=sj}:aK)else φ k) (.os id) (.slice (some ⟨g',0,none⟩) (es.length+new.length) FT):=by have:=aq.os (P:=E.P) (μ:=μ) (φ:=fun k=>if k=id then({g:=some g',cap:=FT,len:=(es++new).length,sz:=s,row:=sj}:aK)else φ k) (id:=id) (g:=g') (by simp);grind
  rcases b6 with⟨acP,WO,b6,b7⟩|⟨rfl,rfl⟩
  ·have cV:(φ id).g=some g':=by
    have key:∀z,aq E.P μ φ (.os id) z→z=.slice (some ⟨g',0,none⟩) es.length acP→(φ id).g=some g':=by
     intro z hz he;cases hz with
     |ux _=>cases he
     |os hg=>grind
    exact key _ ha WO
   obtain⟨o1,o2⟩:=hM.own id _ g' hm (.inl cV);have J0:∀a b,(bI.nest s e (es++new)).rowAt a b=true→(sj a b).g≠some g':=by
    intro a b Ln hg;rcases mT a b g' Ln hg with⟨u1,u2,u3⟩|⟨u1,i2,u0,une,um,u2,u3⟩
    ·exact(hM.apart id _ hm a b g' u2 u3).1 cV
    ·exact une (hM.inj i2 id _ _ g' um hm (.inr ⟨_,_,u2,u3⟩) (.inl cV))
   have AQ:∀j b',br (bH id (SP src m)) id j=some b'→¬b'.owns (φ j) g':=fun j b' hj ho=>by obtain⟨k1,_,b2,k3,k4⟩:=bu j b' hj;exact k1 (hM.inj j id _ _ g' k3 hm (QR k4 ho) (.inl cV))
   obtain⟨k1,k2⟩:=fin {g:=some g',cap:=FT,len:=(es++new).length,sz:=s,row:=sj} w' (fun g o h=>(by
    have cy:g≠g':=fun e=>by subst e;exact(hM.hid g o h).2.2.2 id _ hm (.inl cV)
    exact⟨(b7 g cy).trans (hM.hid g o h).1,fun e=>by cases e;exact cy rfl⟩)) rfl (b6.mono o1) (fun k o hk=>by rw[b7 k (fun e=>by subst e;rw[o2 rfl]at hk;cases hk)];exact hM.ro k o hk)
    (fun j b' g hj ho=>b7 g fun e=>by grind) (fun g hg=>by simp only[tb]at hg;subst hg;exact⟨o1,o2 rfl,AQ,J0⟩)
    (hq w' _ b1 (hCC.cG fun a e1 b p1 g he hp Ln hg=>b7 g fun e=>by grind [dK]))
   grind
  ·have hold:∀k,k<w.heap.size→(w.drew.alloc (.cells c' e)).heap[k]?=w.heap[k]?:=fun k hk=>lr.heap_alloc w.drew _ k hk;obtain⟨k1,k2⟩:=fin {g:=some w.heap.size,cap:=FT,len:=(es++new).length,sz:=s,row:=sj} (w.drew.alloc (.cells c' e)) (fun g o h=>(by
    obtain⟨h1,_⟩:=hM.hid g o h;have bK:=(adW.1 h1).1;exact⟨by rw[hold g bK];exact h1,fun e=>by cases e;omega⟩)) rfl ((lr.refl _ w).drew.alloc hM.below.size _) (fun k o hk=>by have:=hM.ro k o hk;grind)
    (fun j b' g hj ho=>hold g ((xq.dF j b' hj).FU ho)) (fun g hg=>by
     simp only[tb]at hg;subst hg;refine⟨hM.below.size,?_,fun j b' hj ho=>?_,fun a b Ln hg=>?_⟩
     ·cases hq:μ w.heap.size with
      |none=>rfl
      |some o'=>have:=hM.ro _ _ hq;simp at this
     ·have:=(xq.dF j b' hj).FU ho;omega
     grind)
    (hq _ _ b1 (hCC.cG fun a e1 b p1 g he hp Ln hg=>hold g (acS a b g (by rw[dK he hp];omega) hg).2.2.1))
   grind
theorem Hi{m:Mem}:∀{cs:List V}{j0:Nat}{ps:List PV},mf m j0 cs=some (ps,none)→∀m2:Mem,mf m2 j0 cs=some (ps,none)
 |[],j0,ps,h,m2=>h
 |v::r,j0,ps,h,m2=>by
  unfold mf at h;split at h
  ·rename_i heq;cases heq
  ·grind
  ·rename_i j v' r' cy heq;simp only[aon]at heq;obtain⟨rfl,rfl⟩:=heq;unfold mf;split
   ·rename_i heq;cases heq
   ·simp_all
   ·rename_i j v' r' cy heq;simp only[aon]at heq;obtain⟨rfl,rfl⟩:=heq;split at h
    ·rename_i p hp;split at h
     ·rename_i ps' t ht;simp only[tb,T0]at h;obtain⟨rfl,rfl⟩:=h;rw[Hi ht m2]
     ·cases h
    omega
theorem yZ{m m2:Mem}{j id2:Nat}(hm:m2 id2=m id2):∀{cs:List V}{j0:Nat}{ps:List PV},mf m j0 cs=some (ps,some (j,id2))→mf m2 j0 cs=some (ps,some (j,id2))
 |[],j0,ps,h=>by simp[mf]at h
 |v::r,j0,ps,h=>by
  unfold mf at h;split at h
  ·rename_i heq;cases heq
  ·rename_i j id r' heq;simp only[aon]at heq;obtain⟨rfl,rfl⟩:=heq;split at h
   ·rename_i s et es hmm;split at h
    ·rename_i ps' ht;simp only[tb,T0]at h;obtain⟨rfl,rfl,rfl⟩:=h;grind [mf,Hi]
    ·cases h
   ·cases h
  ·rename_i j v' r' cy heq;simp only[aon]at heq;obtain⟨rfl,rfl⟩:=heq;unfold mf;split
   ·rename_i heq;cases heq
   ·simp_all
   ·rename_i j v' r' cy heq;simp only[aon]at heq;obtain⟨rfl,rfl⟩:=heq;split at h
    ·rename_i p hp;split at h
     ·rename_i ps' t ht;simp only[tb,T0]at h;obtain⟨rfl,rfl⟩:=h;rw[yZ hm ht]
     ·cases h
    omega
theorem QS{site:Nat}{o:Oper}{f f2:Fr}{m m2:Mem}{sp:Sp}(h:Bz E site o f m=some sp)(hf:∀x∈o.op.operands,bF E f2 x=bF E f x)(hm:∀x∈(sp.info site).2,m2 x.2=m x.2):Bz E site o f2 m2=some sp:=by
 obtain⟨dst,op,type,pos,after,guard⟩:=o;unfold Bz at h⊢;cases op;case store t a x=>
  simp only at h⊢;rw[hf a (by simp[Op.operands]),hf x (by simp[Op.operands])];split at h
  ·rename_i id i off ha;split at h
   ·rename_i s et es hmm;split at h
    ·rename_i cs hc;split at h
     ·rename_i ps j id2 ht;split at h
      ·rename_i lX;simp only[tb]at h;subst h;have h1:m2 id=m id:=hm (true,id) (by simp[Sp.info]);have h2:m2 id2=m id2:=hm (true,id2) (by simp[Sp.info]);simp only[ha,h1,hmm,hc,yZ h2 ht,lX,IS]
      ·cases h
     ·cases h
    ·cases h
   ·cases h
  omega
 case buildSlice t len parts=>
  simp only at h⊢;have U0:(parts.toList.map fun(x:Nat×Operand)=>(x.1,bF E f2 x.2))=parts.toList.map fun(x:Nat×Operand)=>(x.1,bF E f x.2):=an2 fun x hx=>by rw[hf x.2 (by simp only[Op.operands,apB,anG];exact⟨x,hx,rfl⟩)]
  rw[U0];split at h
  ·rename_i e v hu hp;split at h
   ·rename_i cs hc;split at h
    ·rename_i ps j id2 ht hs;split at h
     ·rename_i p NW;split at h
      ·rename_i lX;simp only[tb]at h;subst h;have h1:m2 site=m site:=hm (true,site) (by simp[Sp.info]);have h2:m2 id2=m id2:=hm (true,id2) (by simp[Sp.info]);simp only[hu,hp,hc,yZ h2 ht,h1,hs,NW,lX,IS]
      ·cases h
     ·cases h
    ·cases h
   ·cases h
  omega
 case call c=>
  obtain⟨callee,args,argTypes⟩:=c;simp only at h⊢;have tu:args.toList.map (bF E f2)=args.toList.map (bF E f):=an2 fun x hx=>hf x (by simp_all[Op.operands,Call.operands]);rw[tu];split at h
  ·rename_i id x t t' ha hty;split at h
   ·rename_i e s et es hu hmm;split at h
    ·rename_i lX;have plain:∀{new:List PV}{rd:bx},fM m s x=some (new,rd)→x.has id=false→sp=.app id s et es new none rd→fM m2 s x=some (new,rd):=by grind [qe,Sp.info]
     split at h
     ·rename_i uv;split at h
      ·rename_i s' I4 new U4;split at h
       ·rename_i Na;simp only[tb]at h;subst h;have h1:m2 id=m id:=hm (true,id) (by simp[Sp.info]);simp_all[Sp.info,IS]
       ·cases h
      ·rename_i hnn;split at h
       ·rename_i new rd GY;split at h
        ·cases h
        ·rename_i hxh;simp only[tb]at h;have XM:=plain GY (by simpa using hxh) h.symm;subst h;have h1:m2 id=m id:=hm (true,id) (by simp[Sp.info]);simp only[ha,hty,hu,h1,hmm,lX,IS,XM];split
         ·rename_i s' I4 ana cQ;exfalso;simp only[fM,cQ]at XM;cases XM
         ·rw[IT hxh]
       ·cases h
     ·rename_i anb;split at h
      ·rename_i new rd GY;split at h
       ·cases h
       ·rename_i hxh;simp only[tb]at h;have XM:=plain GY (by simpa using hxh) h.symm;subst h;have h1:m2 id=m id:=hm (true,id) (by simp[Sp.info]);simp only[ha,hty,hu,h1,hmm,lX,IS,XM];try rw[IT hxh]
      ·cases h
    ·cases h
   ·cases h
  ·cases h
 case mapUpdate t x key v=>
  simp only at h⊢;rw[hf x (by simp[Op.operands]),hf key (by simp[Op.operands]),hf v (by simp[Op.operands])];split at h
  ·rename_i kt et id id2 hu hx hv;split at h
   ·rename_i yH e es s e' rs kp h1 h2 hk;split at h
    ·rename_i lX;simp only[tb]at h;subst h;have h3:m2 id=m id:=hm (true,id) (by simp[Sp.info]);have h4:m2 id2=m id2:=hm (true,id2) (by simp[Sp.info]);simp only[hu,hx,hv,h3,h4,h1,h2,hk,lX,IS]
    ·cases h
   ·cases h
  ·cases h
 all_goals (cases h)
end
end Go.Ab
