import Derived.Test.YtoaknfoobjnjgaaGreatAbP4
import Derived.RangeFuncRecord
import Derived.Laws.IdiomRangeMap
set_option linter.all false
namespace Go.Ab
section
variable {P:Program} {G:Nat→Option (List PV)} {w0:bu} {μ:Ro} {φ:Nat→aH} {m:Mem} {w:World}
theorem aA.aiB(hM:aA P G w0 μ φ m w){g:Nat}(hB:w0.heap.size≤g)(anC:∀id b,m id=some b→¬b.owns (φ id) g)(hh:w0.hid g=none):aA P G w0 (qm μ w (some g)) φ m w:=by
 have mono:=nc hM (some g);refine⟨hM.below,fun b o hb=>?_,fun g' cs hg=>(hM.az g' cs hg).mono mono,fun j c hj=>(hM.dB j c hj).cv (fun _ _=>rfl) rfl mono (fun _ _=>rfl),fun j c g' hj cL=>?_,hM.inj,hM.apart,hM.fI,fun b o hb bF=>?_,fun b o hb=>mono b o (hM.dC b o hb),hM.Ft,fun k o h=>(by obtain⟨h1,h2,h3,h4⟩:=hM.hid k o h;exact⟨h1,h2,by unfold qm;rw[QU (fun e=>by cases e;rw[hh]at h;cases h)];exact h3,h4⟩)⟩
 ·unfold qm at hb;split at hb
  ·omega
  ·exact hM.ro b o hb
 ·obtain⟨h1,h2⟩:=hM.own j c g' hj cL;grind [qm,Option.some.injEq,absurd]
 ·unfold qm at hb;split at hb
  ·grind
  ·exact hM.base b o hb bF
theorem RL(w:World)(g:Nat)(o:Obj):lh g w (w.putObj g o):=⟨⟨rfl,rfl,rfl,by simp,fun k hk=>World.putObj_heap_other (by omega)⟩,fun _=>aoa _⟩
theorem EA{A:Type}(f:A→Nat):∀{l:List A}{i:Nat}{e:A},l[i]?=some e→(∀(j:Nat)x,l[j]?=some x→f x=f e→j=i)→l.filter (fun x=> !(f x==f e))=l.eraseIdx i
 |[],i,e,h,_=>by rfl
 |y::l,0,e,h,inj=>by simp only[aoR,tb]at h;subst h;simp only[List.filter_cons,BEq.rfl,alk,AI,OF,List.eraseIdx_cons_zero];rw[aq7];intro x hx;obtain⟨j,hj⟩:=aoh.1 hx;simp only[aou,ap8];intro e;have:=inj (j+1) x (by simpa using hj) e;omega
 |y::l,i+1,e,h,inj=>by
  have h':l[i]?=some e:=by simpa using h
  have bU:¬f y=f e:=fun e'=>by have:=inj 0 y rfl e';omega
  have hb:(f y==f e)=false:=by simpa using bU
  simp only[List.filter_cons,hb,aoj,BY,List.eraseIdx_cons_succ];rw[EA f h' (fun j x hj e'=>by have:=inj (j+1) x (by simpa using hj) e';omega)]
theorem LJ(en:Array MapEntry):mq en #[]=en.toList:=by simp[mq,aq7]
variable{en:Array MapEntry}{clock:Nat}{seen:Array Nat}{e:MapEntry}
theorem IZ(hb:na en clock){i:Nat}(hi:(mq en seen)[i]?=some e):mq en (seen.push e.born)=(mq en seen).eraseIdx i:=by
 have h1:mq en (seen.push e.born)=(mq en seen).filter (fun x=> !(x.born==e.born)):=by unfold mq;rw[List.filter_filter];grind
 rw[h1];refine EA (fun x=>x.born) hi fun j x hj e'=>?_;have YI:(mq en seen).Pairwise fun a b=>a.born≠b.born:=by
  unfold mq;refine List.Pairwise.filter _ ?_;rw[aoH];intro a b ha jn sn he;have h2:en[a]?=some en.toList[a]:=by simp
  have h3:en[b]?=some en.toList[b]:=by simp
  have:=(hb b _ h3).2 a _ h2 he;omega
 have tf:j<(mq en seen).length:=(IN.1 hj).1;have I0:i<(mq en seen).length:=(IN.1 hi).1;grind [List.getElem?_eq_getElem,Option.some.injEq,List.pairwise_iff_getElem,Nat.lt_trichotomy,absurd]
theorem WK(h:e∈mq en seen):∃i:Nat,en[i]?=some e:=by unfold mq at h;have:=(aok.1 h).1;obtain⟨i,hi⟩:=aoh.1 this;grind
theorem WL{w:World}{g mg:Nat}(hg:w.heap[g]?=some (.mapIter (some mg) clock seen clock))(hm:w.heap[mg]?=some (.map en clock))(hb:na en clock)(ty:TypeId):(mq en seen=[]∧(Instr.next (.pointer (some ⟨g,0,none⟩)) false ty).run P w=.ok (.tuple #[.bool false]) w)∨∃(j:Nat)(e:MapEntry)(w1:World),(mq en seen)[j]?=some e∧(w1=w∨w1=w.drew)∧(Instr.next (.pointer (some ⟨g,0,none⟩)) false ty).run P w=.ok (.tuple #[.bool true,e.key,e.val]) (w1.putObj g (.mapIter (some mg) clock (seen.push e.born) clock)):=by
 have hold:∀x∈en.toList,x.born<clock:=fun x hx=>by obtain⟨i,hi⟩:=aoh.1 hx;exact(hb i x (by simp_all)).1
 simp only[Instr.next,getObj,Sem.run_bind,Sem.run,hg,hm,Result.andThen,next_test_false seen en clock clock hold (aoa _),AI,OF];have hL:(Array.filter (fun e=> !seen.contains e.born) en).toList=mq en seen:=by simp[mq]
 have bk:∀x∈(Array.filter (fun e=> !seen.contains e.born) en).toList,x.born<clock:=fun x hx=>hold x (by grind);generalize Array.filter (fun e=> !seen.contains e.born) en=L at bk hL⊢;have e1:L.filter (fun x=>decide (x.born<clock))=L:=Array.filter_eq_self.2 (fun x hx=>by grind);have e2:L.filter (fun x=>decide (x.born≥clock))= #[]:=by simp_all
 simp only[e1,e2,Array.append_empty];rw[←hL];by_cases h0:L.size=0
 ·left;have:L= #[]:=aqi h0;subst this;refine⟨rfl,?_⟩;simp[choose,Sem.run,Question.forced]
 ·right;have bU:L.isEmpty=false:=by simp[Array.isEmpty,h0]
  simp only[bU,AI,OF,Array.empty_append,Array.size_map];have YJ:∃(j:Nat)(w1:World),j<L.size∧(w1=w∨w1=w.drew)∧(choose (Question.mapNext L.size)).run P w=.ok j w1:=by
   by_cases hf:L.size≤1
   ·exact⟨0,w,by omega,.inl rfl,by simp[choose,Sem.run,Question.forced,hf]⟩
   ·exact⟨_,w.drew,aq1 _ (by omega),.inr rfl,by simp only[choose,Sem.run,Question.forced,tc,hf,OF,Question.cut];rfl⟩
  obtain⟨j,w1,hj,G1,xZ⟩:=YJ;refine⟨j,L[j],w1,by simp,G1,?_⟩;have hg1:w1.heap[g]?=some (.mapIter (some mg) clock seen clock):=by rcases G1 with rfl|rfl<;>exact hg
  have sx:(setObj g (.mapIter (some mg) clock (seen.push L[j].born) clock)).run P w1=.ok () (w1.putObj g (.mapIter (some mg) clock (seen.push L[j].born) clock)):=by simp only[setObj,Sem.run,hg1];rfl
  simp_all
theorem RM{w:World}{g mg:Nat}{i:Nat}(hg:w.heap[g]?=some (.mapIter (some mg) clock seen clock))(hm:w.heap[mg]?=some (.map en clock))(hb:na en clock)(hi:en[i]?=some e)(hs:seen.back? =some e.born):(Instr.entry (.pointer (some ⟨g,0,none⟩))).run P w=.ok (.tuple #[e.key,e.val]) w:=by
 have hf:en.find? (·.born==e.born)=some e:=by
  rw[←Array.find?_toList];refine find_born e en.toList ?_ (by grind);rw[List.Nodup,aqH,aoH];intro a b ha jn sn he;have h2:en[a]?=some en.toList[a]:=by simp
  have h3:en[b]?=some en.toList[b]:=by simp
  have:=(hb b _ h3).2 a _ h2 he;omega
 simp only[Instr.entry,getObj,Sem.run_bind,Sem.run,hg,hm,Result.andThen,hs,bne_self_eq_false,AI,OF,hf];rfl
end
section
variable {R:Type} {E:Env}
variable{g:Nat→Option R}{r:R}
theorem RN{n:Nat}(h:vU n g=some r)(i:Nat)(hi:i<n):g i=some r:=by
 unfold vU at h;split at h
 ·grind
 ·cases h
theorem I1{n:Nat}(h0:0<n)(h:∀i,i<n→g i=some r):vU n g=some r:=by unfold vU;have hh:∃r,∀i,i<n→g i=some r:=⟨r,h⟩;rw[dif_pos hh];grind
variable{k:V→Fr→Mem→Option R}
theorem WM{site:Nat}{t:TypeId}{x:V}{f:Fr}{m:Mem}(h:Rq E site t x f m k=some r):∃f' m',k (.it site) f' m'=some r∧(m' site).isSome=true∧∀(G:Nat→Option (List PV))(w0:bu)(μ:Ro)(φ:Nat→aH)(w:World)(ρ:Nat→Value)(y:Value),aA E.P G w0 μ φ m w→cd E.P μ φ m f ρ→an E.P μ φ x y→∃w' y' μ' φ',(Instr.range t y).run E.P w=.ok y' w'∧aA E.P G w0 μ' φ' m' w'∧cd E.P μ' φ' m' f' ρ∧an E.P μ' φ' (.it site) y':=by
 unfold Rq at h;split at h
 ·rename_i kt et hu;split at h
  ·rename_i id;split at h
   ·rename_i AG es hm;split at h
    ·obtain⟨f',m',hn,qo,Ak,AH,yW⟩:=cj h;refine⟨f',m',qo,by simp[Ak],fun G w0 μ φ w ρ y hM hF hx=>?_⟩;obtain⟨g,en,clock,kk,hg,hh,hs,xU,Ra,Ci,hv⟩:=hM.dB id _ hm;obtain⟨o1,o2⟩:=hM.own id _ g hm (.inl hg);cases hx with
     |om cL=>
      rw[hg]at cL;simp only[tb]at cL;subst cL;have y9:=hM.forget id;have hM2:=y9.aiB o1 (fun j b hj e=>by
       obtain⟨bU,b',jn,rfl⟩:=fV hj;exact bU (hM.inj j id b' _ g jn hm (fZ.1 e) (.inl hg))) (by
        cases hq:w0.hid g with
        |none=>rfl
        |some o=>exact absurd (.inl hg) ((hM.hid g o hq).2.2.2 id _ hm))
      have uz:=nc y9 (some g);have HF:cd E.P (qm μ w (some g)) φ (bq (bK id m) id) (eP id f) ρ:=(hF.forget id).mono uz fun j hj=>⟨rfl,hj⟩;have kF:∀φ':Nat→aH,φ' site=(GU (some w.heap.size) 0 0 0)→(∀j,(bL.iter t es none).names j=true→φ' j=φ j)→gM E.P (qm μ w (some g)) φ' (w.alloc (.mapIter (some g) clock #[] clock)) site (.iter t es none):=fun φ' hp _=>by
       refine⟨w.heap.size,g,en,clock,#[],by rw[hp],ga w _,by simp[qm,hh],Ci,(by rw[LJ,aqw,hs]),fun i k v e h1 h2=>?_,fun k v h=>by cases h⟩;have h2':en[i]?=some e:=by simp_all[aoS,LJ]
       exact⟨(hv i k v e h1 h2').1.mono uz,(hv i k v e h1 h2').2.mono uz⟩
      obtain⟨φ',a1,a2,a3⟩:=yW E.P G w0 _ φ w (w.alloc (.mapIter (some g) clock #[] clock)) ρ (GU (some w.heap.size) 0 0 0) hM2 HF (l6.alloc (o:=.mapIter (some g) clock #[] clock) hM2 rfl kF (by simp[bL.names]));exact⟨_,_,_,φ',run_range_map w t kt et g en clock hu hh,a2,a3,.it (by rw[a1])⟩
    ·cases h
   ·cases h
  ·cases h
 ·cases h
theorem Zu{x:V}{f:Fr}{m:Mem}(h:Y0 E x f m k=some r)(G:Nat→Option (List PV))(w0:bu)(μ:Ro)(φ:Nat→aH)(w:World)(y:Value)(ty:TypeId)(hM:aA E.P G w0 μ φ m w)(hx:an E.P μ φ x y):∃v m' y' w',k v f m'=some r∧(∀id,v.has id=false)∧kN m m'∧(Instr.next y false ty).run E.P w=.ok y' w'∧aA E.P G w0 μ φ m' w'∧an E.P μ φ v y':=by
 unfold Y0 at h;split at h
 ·rename_i id;split at h
  ·rename_i t es cur hm;split at h
   ·rename_i kt et hu;obtain⟨g,mg,en,clock,seen,hg,hh,Oz,Ci,KH,hv,_⟩:=hM.dB id _ hm;obtain⟨o1,o2⟩:=hM.own id _ g hm (.inl hg);cases hx with
    |it cL=>
     rw[hg]at cL;simp only[tb]at cL;subst cL;have hmg:=hM.ro _ _ Oz;rcases WL (P:=E.P) hh hmg Ci ty with⟨afN,xZ⟩|⟨j,e,w1,hj,WN,xZ⟩
     ·have:es=[]:=by grind
      subst this;simp only[List.isEmpty_nil,BY]at h;refine⟨_,m,_,w,h,by simp[V.has,cp],kN.refl m,xZ,hM,.aI rfl fun i p x hp hx=>?_⟩;cases i with
      |zero=>simp at hp hx;subst hp;subst hx;exact .pv .bool
      |succ i=>simp at hp
     ·have tf:j<(mq en seen).length:=(IN.1 hj).1;have bU:¬es.isEmpty=true:=by grind
      rw[QU bU]at h;have h:=RN h j (by omega);obtain⟨e0,WO,h⟩:=By.1 h;obtain⟨qa,_,ha,ra,_⟩:=mK h;obtain⟨qb,_,hb,rb,_⟩:=mK ha;obtain⟨rk,rv⟩:=hv j e0.1 e0.2 e WO hj;refine⟨_,_,_,_,hb,by simp[V.has,cp],.set,xZ,?_,.aI rfl fun i p x hp hx=>?_⟩
      ·have y9:aA E.P G w0 μ φ m w1:=by rcases WN with rfl|rfl;exact hM;exact hM.drew
       have bF:g<w1.heap.size:=by have:g<w.heap.size:=(T0.1 hh).1;rcases WN with rfl|rfl<;>exact this
       refine y9.write hm rfl hg (RL w1 g _) World.putObj_size (fun k hk=>World.putObj_heap_other hk) ?_ rfl (by simp[bL.names]);refine⟨g,mg,en,clock,seen.push e.born,hg,World.putObj_heap_same bF,Oz,Ci,?_,fun i k v e' h1 h2=>?_,fun k v hc=>?_⟩
       ·rw[IZ Ci hj,aq3,aq3,KH]
       ·rw[IZ Ci hj]at h2;grind
       ·simp only[tb,afu]at hc;obtain⟨rfl,rfl⟩:=hc;obtain⟨i,hi⟩:=WK (an4 hj);grind
      ·match i with
       |0=>simp at hp hx;subst hp;subst hx;exact .pv .bool
       |1=>simp at hp hx;subst hp;subst hx;exact .pv (ra _ _ _ rk)
       |2=>simp at hp hx;subst hp;subst hx;exact .pv (rb _ _ _ rv)
       |i+3=>simp at hp
   ·cases h
  ·cases h
 ·cases h
theorem WQ{x:V}{m:Mem}{k:V→Mem→Option R}(h:Rr x m k=some r)(P:Program)(G:Nat→Option (List PV))(w0:bu)(μ:Ro)(φ:Nat→aH)(w:World)(y:Value)(hM:aA P G w0 μ φ m w)(hx:an P μ φ x y):∃v m' y',k v m'=some r∧(∀id,v.has id=false)∧kN m m'∧(Instr.entry y).run P w=.ok y' w∧aA P G w0 μ φ m' w∧an P μ φ v y':=by
 unfold Rr at h;split at h
 ·rename_i id;split at h
  ·rename_i t es a b hm;obtain⟨g,mg,en,clock,seen,hg,hh,Oz,Ci,KH,hv,hcu⟩:=hM.dB id _ hm;obtain⟨i,e,hi,hs,ra,rb⟩:=hcu a b rfl;cases hx with
   |it cL=>
    rw[hg]at cL;simp only[tb]at cL;subst cL;refine⟨_,_,_,h,by simp[V.has,cp],.set,RM hh (hM.ro _ _ Oz) Ci hi hs,?_,.aI rfl fun i p x hp hx=>?_⟩
    ·exact hM.write hm rfl hg (lh.refl _ _) rfl (fun _ _=>rfl) ⟨g,mg,en,clock,seen,hg,hh,Oz,Ci,KH,hv,fun k v h=>by cases h⟩ rfl (by simp[bL.names])
    match i with
    |0=>simp at hp hx;subst hp;subst hx;exact .pv ra
    |1=>simp at hp hx;subst hp;subst hx;exact .pv rb
    |i+2=>simp at hp
  ·cases h
 ·cases h
end
section
variable {P:Program} {G:Nat→Option (List PV)} {w0:bu} {μ μ':Ro} {φ φ':Nat→aH} {m m':Mem} {w w':World}
variable{id j:Nat}{b:bL}
theorem gN(h:fE id m j=some b):∃b',m j=some b'∧b=dR id b':=by unfold fE at h;grind
theorem qX:(fE id m j).isSome=(m j).isSome:=by unfold fE;cases m j<;>rfl
theorem G7(id:Nat)(b:bL):(dR id b).rowAt=b.rowAt:=by cases b<;>rfl
theorem qF{p:aH}{g:Nat}:(dR id b).owns p g↔b.owns p g:=by unfold bL.owns;rw[G7]
theorem AZ{p:aH}:(dR id b).apart p↔b.apart p:=by unfold bL.apart;rw[G7]
theorem Dx(id:Nat)(b:bL):(dR id b).kh=b.kh:=by cases b<;>rfl
theorem RO{cs:List V}(h:cp j (cs.map (oC id))=true):cp j cs=true:=by obtain⟨v,hv,hh⟩:=cK.1 h;obtain⟨u,hu,rfl⟩:=aoi.1 hv;exact bR hu (Ck hh).1
theorem gM.CW{id j:Nat}{b:bL}(h:gM P μ φ w j b):gM P μ φ w j (dR id b):=by
 cases b with
 |box cs=>obtain⟨g,c,T,hg,hh,hs,hv,h1,KH⟩:=h;refine⟨g,c,T,hg,hh,by simpa using hs,fun i v x hi hx=>?_,h1,by simpa using KH⟩;simp only[AT,alj]at hi;obtain⟨u,hu,rfl⟩:=hi;exact(hv i u x hu hx).CW id
 |_=>exact h
theorem aA.zb(hM:aA P G w0 μ φ m w)(id:Nat):aA P G w0 μ φ (fE id m) w:=by
 refine⟨hM.below,hM.ro,hM.az,fun j b h=>?_,fun j b g h hg=>?_,fun i j b1 b2 g h1 h2 g1 g2=>?_,fun j b h=>?_,fun j cs i h hh=>?_,hM.base,hM.dC,fun j st h=>?_,fun g o h=>⟨(hM.hid g o h).1,(hM.hid g o h).2.1,(hM.hid g o h).2.2.1,fun j b hj hg=>by obtain⟨b',hb,rfl⟩:=gN hj;exact(hM.hid g o h).2.2.2 j b' hb (qF.1 hg)⟩⟩
 ·obtain⟨b',hb,rfl⟩:=gN h;exact(hM.dB j b' hb).CW
 ·obtain⟨b',hb,rfl⟩:=gN h;rw[Dx];exact hM.own j b' g hb (qF.1 hg)
 ·obtain⟨b1',Rb,rfl⟩:=gN h1;obtain⟨b2',td,rfl⟩:=gN h2;exact hM.inj i j b1' b2' g Rb td (qF.1 g1) (qF.1 g2)
 ·obtain⟨b',hb,rfl⟩:=gN h;exact AZ.2 (hM.apart j b' hb)
 ·obtain⟨b',hb,e⟩:=gN h;cases b' with
  |box O1=>simp only[dR,bL.box.injEq]at e;subst e;rw[qX];exact hM.fI j O1 i hb (RO hh)
  |_=>simp[dR]at e
 ·obtain⟨b',hb,e⟩:=gN h;cases b' with
  |loop st'=>simp only[dR,bL.loop.injEq]at e;subst e;exact hM.Ft j st hb
  |_=>simp[dR]at e
variable{ρ:Nat→Value}
theorem cd.zb{f:Fr}(h:cd P μ φ m f ρ)(id:Nat):cd P μ φ (fE id m) (gA id f) ρ:=⟨fun t=>(h.fr t).CW id,fun t j hj=>by rw[qX];exact h.live t j (Ck hj).1⟩
theorem aA.km:∀{kl:Kl}{m:Mem},aA P G w0 μ φ m w→aA P G w0 μ φ (Go.Ab.km kl m) w
 |[],_,h=>h
 |(true,id)::r,m,h=>(aA.km (kl:=r) (m:=bq (bK id m) id) (h.forget id):)
 |(false,id)::r,m,h=>(aA.km (kl:=r) (m:=fE id m) (h.zb id):)
theorem cd.km{ρ:Nat→Value}:∀{kl:Kl}{m:Mem}{f:Fr},cd P μ φ m f ρ→cd P μ φ (Go.Ab.km kl m) (kf kl f) ρ
 |[],_,_,h=>h
 |(true,id)::r,m,f,h=>(cd.km (kl:=r) (m:=bq (bK id m) id) (f:=eP id f) (h.forget id):)
 |(false,id)::r,m,f,h=>(cd.km (kl:=r) (m:=fE id m) (f:=gA id f) (h.zb id):)
theorem aA.T9(hM:aA P G w0 μ φ m w)(nw:Nat→Nat→Nat)(hblk:∀j b',m' j=some b'→gM P μ φ' w j b')(CK:∀j b' g,m' j=some b'→b'.owns (φ' j) g→∃k b,m k=some b∧b.owns (φ k) g∧(b'.kh=true→b.kh=true)∧j=nw g k)(HV:∀j b',m' j=some b'→b'.apart (φ' j))(GR:∀j cs id,m' j=some (.box cs)→cp id cs=true→(m' id).isSome=true)(amb:∀j st,m' j=some (.loop st)→m j=some (.loop st)∧(φ' j).g=(φ j).g):aA P G w0 μ φ' m' w:=by
 refine⟨hM.below,hM.ro,hM.az,hblk,fun j b' g h hg=>?_,fun i j b1 b2 g h1 h2 g1 g2=>?_,HV,GR,hM.base,hM.dC,fun j st h=>?_,fun g o h=>⟨(hM.hid g o h).1,(hM.hid g o h).2.1,(hM.hid g o h).2.2.1,fun j b' hj hg=>by obtain⟨k,b,hk,ho,_,_⟩:=CK j b' g hj hg;exact(hM.hid g o h).2.2.2 k b hk ho⟩⟩
 ·obtain⟨k,b,hk,ho,Oz,_⟩:=CK j b' g h hg;obtain⟨o1,o2⟩:=hM.own k b g hk ho;simp_all
 ·obtain⟨k1,c1,Zv,ho1,_,e1⟩:=CK i b1 g h1 g1;obtain⟨k2,c2,OC,ho2,_,e2⟩:=CK j b2 g h2 g2;rw[e1,e2,hM.inj k1 k2 c1 c2 g Zv OC ho1 ho2]
 ·obtain⟨h1,h2⟩:=amb j st h;obtain⟨g,rc,r1,r2,r3⟩:=hM.Ft j st h1;simp_all
def lv(p:aH)(i off:Nat)(r:GS):aH:={p with row:=fun a b=>if a=i∧b=off then r else p.row a b}
theorem gO(p:aH)(i off:Nat)(r:GS):(lv p i off r).row i off=r:=by simp[lv]
theorem il(p:aH){i off a b:Nat}(r:GS)(h:¬(a=i∧b=off)):(lv p i off r).row a b=p.row a b:=by simp[lv,h]
theorem gM.Ua(h:gM P μ φ w j (dR id b))(hj:j≠id)(h0:(φ' id).toGS=(φ id).toGS)(hφ:∀k,k≠id→φ' k=φ k):gM P μ φ' w j (dR id b):=by
 have e:=hφ j hj;cases b with
 |box cs=>
  obtain⟨g,c,T,hg,hh,hs,hv,h1,KH⟩:=h;refine⟨g,c,T,by rw[e];omega,hh,hs,fun i v x hi hx=>?_,h1,by rw[e];omega⟩;refine(hv i v x hi hx).aeS (fun _ _ h=>h) fun k hk=>?_;by_cases hki:k=id
  ·subst hki;refine⟨h0,fun h2=>?_⟩;simp only[AT,alj]at hi;obtain⟨u,hu,rfl⟩:=hi;rw[(Ck hk).2]at h2;cases h2
  simp_all
 |arr sz et es=>exact gM.cv h (fun k hk=>by simp[bL.names,dR]at hk) e (fun _ _ h=>h) (fun _ _=>rfl)
 |sq sz et es=>exact gM.cv h (fun k hk=>by simp[bL.names,dR]at hk) e (fun _ _ h=>h) (fun _ _=>rfl)
 |map kt es=>exact gM.cv h (fun k hk=>by simp[bL.names,dR]at hk) e (fun _ _ h=>h) (fun _ _=>rfl)
 |nest sz et es=>exact gM.cv h (fun k hk=>by simp[bL.names,dR]at hk) e (fun _ _ h=>h) (fun _ _=>rfl)
 |fG kt e0 es=>exact gM.cv h (fun k hk=>by simp[bL.names,dR]at hk) e (fun _ _ h=>h) (fun _ _=>rfl)
 |loop st=>exact gM.cv h (fun k hk=>by simp[bL.names,dR]at hk) e (fun _ _ h=>h) (fun _ _=>rfl)
 |iter t es cur=>exact gM.cv h (fun k hk=>by simp[bL.names,dR]at hk) e (fun _ _ h=>h) (fun _ _=>rfl)
theorem cd.aeY{f:Fr}(h:cd P μ φ m (gA id f) ρ)(h0:(φ' id).toGS=(φ id).toGS)(hφ:∀k,k≠id→φ' k=φ k)(hl:∀j,(m j).isSome=true→(m' j).isSome=true):cd P μ φ' m' (gA id f) ρ:=by
 refine⟨fun t=>(h.fr t).aeS (fun _ _ h=>h) fun k hk=>?_,fun t j hj=>hl j (h.live t j hj)⟩;by_cases hki:k=id
 ·subst hki;refine⟨h0,fun h2=>?_⟩;have:=(Ck (show(oC k (f t)).has k=true from hk)).2;rw[show gA k f t=oC k (f t)from rfl,this]at h2;cases h2
 simp_all
theorem fW{id2:Nat}{b':bL}(h:aw (fE id (bq (bK id2 m) id2)) id b j=some b'):(j=id∧b'=b)∨(j≠id∧j≠id2∧∃c,m j=some c∧b'=dR id (gK id2 c)):=by
 by_cases e:j=id
 ·simp_all
 ·rw[av e]at h;obtain⟨c1,h1,rfl⟩:=gN h;obtain⟨bU,c,hc,rfl⟩:=fV h1;simp_all
theorem RP{x:Value}(h:an P μ φ (.os id) x):an P μ (fun _=>((φ id).toGS).up) (.os 0) x:=by
 cases h with
 |vO h=>exact .vO h
 |os h=>exact .os (id:=0) (φ:=fun _=>((φ id).toGS).up) h
theorem aL.up{sz:Nat}{et:TypeId}{es:List PV}(h:aL P μ φ w id sz et es):aL P μ (fun _=>((φ id).toGS).up) w 0 sz et es:=h
theorem aA.afO(hM:aA P G w0 μ φ m w){id2 i off s s2:Nat}{et O8:TypeId}{es rs:List PV}{e q:PV}{x:Value}(bU:id2≠id)(hm:m id=some (.nest s et es))(cG:m id2=some (.arr s2 O8 rs))(he:es[i]?=some e)(Ey:e.cells[off]?=some .bad)(hx:∀g c T,(φ id).g=some g→w.heap[g]?=some (.cells c T (0,0))→c[i*s+off]?=some x)(hv:an P μ φ (.os id2) x)(hq:q.cells=e.cells.set off (.qg s2 rs)):aA P G w0 μ (fun j=>if j=id then lv (φ id) i off (φ id2).toGS else φ j) (aw (fE id (bq (bK id2 m) id2)) id (.nest s et (es.set i q))) w:=by
 have y9:=(hM.forget id2).zb id;have hN:bd P μ φ w id s et es:=hM.dB id _ hm;have hA2:aL P μ φ w id2 s2 O8 rs:=hM.dB id2 _ cG;have I0:i<es.length:=(IN.1 he).1;have hol:off<e.cells.length:=(IN.1 Ey).1;have nb:∀a b,(bL.nest s et (es.set i q)).rowAt a b=true→(a=i∧b=off)∨((bL.nest s et es).rowAt a b=true∧¬(a=i∧b=off)):=by
  intro a b hr;by_cases sn:a=i∧b=off
  ·exact .inl sn
  ·refine .inr ⟨?_,sn⟩;rcases kM hr with⟨_,_,_,e',s',rs',jn,h',yp⟩|⟨_,_,_,_,_,_,jn,_⟩
   ·simp only[bL.nest.injEq]at jn;obtain⟨rfl,rfl,rfl⟩:=jn;rcases eQ h' with⟨rfl,rfl⟩|⟨hni,h'⟩
    ·rw[hq]at yp;rcases eQ yp with⟨rfl,_⟩|⟨hnj,yp⟩
     ·exact absurd ⟨rfl,rfl⟩ sn
     ·rw[dE he yp];rfl
    ·rw[dE h' yp];rfl
   ·cases jn
 refine hM.T9 (fun _ k=>if k=id2 then id else k) (fun j b' hj=>?_) (fun j b' g hj ho=>?_) (fun j b' hj=>?_) (fun j cs k hj hk=>?_) (fun j st hj=>?_)
 ·rcases fW hj with⟨rfl,rfl⟩|⟨h1,h2,c,hc,rfl⟩
  ·show bd P μ (fun k=>if k=j then lv (φ j) i off (φ id2).toGS else φ k) w j s et (es.set i q);refine bd.change (μ':=μ) (w':=w) (es':=es.set i q) hN (by simp) (fun i' e' h'=>?_) (by simp[lv]) (fun _ _=>rfl) (fun i' e' j' p' g c T x' h' yp hg hc MZ hold=>?_)
   ·rcases eQ h' with⟨_,rfl⟩|⟨_,h'⟩
    ·rw[hq,apW];exact hN.2.2.2.2.1 i e he
    ·exact hN.2.2.2.2.1 i' e' h'
   ·simp only[BY];by_cases sn:i'=i∧j'=off
    ·obtain⟨rfl,rfl⟩:=sn;rw[gO];have e1:e'=q:=by
      rcases eQ h' with⟨_,h⟩|⟨h,_⟩
      ·exact h
      ·exact absurd rfl h
     subst e1;rw[hq]at yp;have e2:p'=.qg s2 rs:=by
      rcases eQ yp with⟨_,h⟩|⟨h,_⟩
      ·exact h
      ·exact absurd rfl h
     subst e2;have e3:x'=x:=by have:=hx g c _ hg hc;rw[MZ]at this;simpa using this
     subst e3;exact⟨⟨O8,hA2.up⟩,RP hv⟩
    ·rw[il _ _ sn];rcases eQ h' with⟨rfl,rfl⟩|⟨hni,h'⟩
     ·rw[hq]at yp;rcases eQ yp with⟨rfl,_⟩|⟨hnj,yp⟩
      ·exact absurd ⟨rfl,rfl⟩ sn
      ·exact hold e p' he yp
     ·exact hold e' p' h' yp
  ·have hb:gM P μ φ w j (dR id (gK id2 c)):=(hM.dB j c hc).kill.CW;exact hb.Ua h1 (by simp[lv]) fun k hk=>by simp[hk]
 ·rcases fW hj with⟨rfl,rfl⟩|⟨h1,h2,c,hc,rfl⟩
  ·simp only[BY]at ho;rcases ho with ho|⟨a,b,hr,ho⟩
   ·exact⟨j,_,hm,.inl ho,fun _=>rfl,by simp[bU.symm]⟩
   ·rcases nb a b hr with⟨rfl,rfl⟩|⟨Fu,sn⟩
    ·rw[gO]at ho;exact⟨id2,_,cG,.inl ho,fun _=>rfl,by simp⟩
    ·rw[il _ _ sn]at ho;exact⟨j,_,hm,.inr ⟨a,b,Fu,ho⟩,fun _=>rfl,by simp[bU.symm]⟩
  ·simp only[h1,OF]at ho;exact⟨j,c,hc,fZ.1 (qF.1 ho),fun h=>by rw[Dx,Cp]at h;exact h,by simp[h2]⟩
 ·rcases fW hj with⟨rfl,rfl⟩|⟨h1,h2,c,hc,rfl⟩
  ·simp only[BY];have HV:=hM.apart j _ hm;have new:∀g,(φ id2).g=some g→¬(bL.nest s et es).owns (φ j) g:=fun g hg ho=>bU (hM.inj id2 j _ _ g cG hm (.inl hg) ho);intro a b g hr hg;rcases nb a b hr with⟨rfl,rfl⟩|⟨Fu,sn⟩
   ·rw[gO]at hg;refine⟨fun h=>new g hg (.inl h),fun a' b' RQ M6=>?_⟩;rcases nb a' b' RQ with h|⟨hr3,RR⟩
    ·exact h
    ·rw[il _ _ RR]at M6;exact absurd (.inr ⟨a',b',hr3,M6⟩) (new g hg)
   ·rw[il _ _ sn]at hg;obtain⟨h3,h4⟩:=HV a b g Fu hg;refine⟨h3,fun a' b' RQ M6=>?_⟩;rcases nb a' b' RQ with⟨rfl,rfl⟩|⟨hr3,RR⟩
    ·rw[gO]at M6;exact absurd (.inr ⟨a,b,Fu,hg⟩) (new g M6)
    ·rw[il _ _ RR]at M6;exact h4 a' b' hr3 M6
  ·simp only[h1,OF];exact AZ.2 (y8.2 (hM.apart j c hc))
 ·rcases fW hj with⟨rfl,hb⟩|⟨h1,h2,c,hc,hb⟩
  ·cases hb
  ·have YK:fE id (bq (bK id2 m) id2) j=some (.box cs):=by rw[av h1]at hj;exact hj
   have:=y9.fI j cs k YK hk;by_cases e:k=id
   ·subst e;simp
   ·rw[av e];exact this
 ·rcases fW hj with⟨rfl,hb⟩|⟨h1,h2,c,hc,hb⟩
  ·cases hb
  ·cases c<;>first|(simp[dR,gK]at hb;done)|skip
   simp only[dR,gK,bL.loop.injEq]at hb;subst hb;exact⟨hc,by simp[h1]⟩
end
def oq(k:PV):List (PV×PV)→Option Nat
 |[]=>none
 |(a,_)::r=>if bO k.cells a.cells then some 0 else(oq k r).map (·+1)
def kj(es:List (PV×PV)):List (PV×PV):=es.map fun x=>(x.1,.bad)
theorem I2(k:PV):∀es,oq k (kj es)=oq k es
 |[]=>rfl
 |(a,u)::r=>by simp only[kj,aog,oq];rw[←I2 k r];rfl
theorem HW{k:PV}:∀{es:List (PV×PV)}{j:Nat},oq k es=some j→∃a u,es[j]?=some (a,u)∧bO k.cells a.cells=true
 |(a,u)::r,j,h=>by
  simp only[oq]at h;split at h
  ·rename_i hp;simp only[tb]at h;subst h;simp_all
  ·obtain⟨i,hi,rfl⟩:=alj.1 h;simpa using HW hi
theorem oK(k v:PV):∀es,dd k v es=match oq k es with|some j=>es.set j (k,v)|none=>es++[(k,v)]
 |[]=>rfl
 |(a,u)::r=>by
  simp only[dd,oq];split
  ·rfl
  ·rw[oK k v r];cases oq k r<;>rfl
theorem yr(k:PV):∀es,xW k es=match oq k es with|some j=>es.modify j fun x=>(x.1,.bad)|none=>es
 |[]=>rfl
 |(a,u)::r=>by
  simp only[xW,oq];split
  ·rfl
  ·rw[yr k r];cases oq k r<;>simp
theorem O9(sz:Nat)(k:PV):∀es,OH sz k es=match oq k es with|some j=>(es[j]?).bind fun x=>dQ sz x.2|none=>some []
 |[]=>rfl
 |(a,u)::r=>by
  simp only[OH,oq];split
  ·simp
  ·rw[O9 sz k r];cases oq k r<;>simp
theorem LK{k z:PV}{l:List (PV×PV)}{es:List MapEntry}{i:Nat}{r:Option (Nat×Value)}(h:Found k .ig z (kj l) es i r):(r=none∧oq k l=none)∨∃j e,r=some (i+j,e.val)∧es[j]?=some e∧oq k l=some j:=by
 cases h with
 |none h1 h2 h3=>
  refine .inl ⟨rfl,?_⟩;rw[oK]at h3;rw[←I2];cases hp:oq k (kj l)with
  |none=>rfl
  |some j=>rw[hp]at h3;have:=congrArg List.length h3;simp at this
 | @some j a u e h1 h2 h3 h4 h5 h6=>
  refine .inr ⟨j,e,rfl,h2,?_⟩;rw[oK]at h6;rw[←I2];have bF:j<(kj l).length:=(IN.1 h1).1;cases hp:oq k (kj l)with
  |none=>rw[hp]at h6;have:=congrArg List.length h6;simp at this
  |some j'=>
   rw[hp]at h6;simp only at h6;obtain⟨a',u',YK,_⟩:=HW hp;have amc:j'<(kj l).length:=(IN.1 YK).1;have e1:((kj l).set j (k,.ig))[j']?=some (k,.ig):=by rw[←h6];simp[amc]
   grind [kj,Option.map_eq_some_iff]
section
variable {P:Program} {G:Nat→Option (List PV)} {w0:bu} {μ μ':Ro} {φ φ':Nat→aH} {m m':Mem} {w w':World}
def I3(P:Program)(μ:Ro)(R:GS)(w:World)(e0:TypeId)(v:PV)(x:Value):Prop:=match v with
 |.qg s rs=>aL P μ (fun _=>R.up) w 0 s e0 rs∧an P μ (fun _=>R.up) (.os 0) x
 |v=>aq P μ v x
variable{e0:TypeId}
theorem I3.pure{R:GS}{v:PV}{x:Value}(h:aq P μ v x):I3 P μ R w e0 v x:=by
 unfold I3;split
 ·cases h
 omega
structure RS(P:Program)(μ:Ro)(p:aH)(w:World)(kt e0:TypeId)(es:List (PV×PV))(g:Nat)(en:Array MapEntry)(clock:Nat)(kk:List Kd):Prop where
 pl:p.g=some g
 heap:w.heap[g]?=some (.map en clock)
 size:en.size=es.length
 Fq:vS P kt=some kk
 key:∀(i:Nat)k v,es[i]?=some (k,v)→Af P kt kk k=true
 born:na en clock
 rep:∀(i:Nat)k v e,es[i]?=some (k,v)→en[i]?=some e→aq P μ k e.key∧I3 P μ (p.row i 0) w e0 v e.val
variable{kt:TypeId}{es:List (PV×PV)}
theorem yt{id:Nat}:gM P μ φ w id (.fG kt e0 es)↔∃g en clock kk,RS P μ (φ id) w kt e0 es g en clock kk:=by
 constructor
 ·rintro⟨g,en,clock,kk,h1,h2,h3,h4,h5,h6,h7⟩;exact⟨g,en,clock,kk,h1,h2,h3,h4,h5,h6,fun i k v e a b=>h7 i k v e a b⟩
 ·rintro⟨g,en,clock,kk,h1,h2,h3,h4,h5,h6,h7⟩;exact⟨g,en,clock,kk,h1,h2,h3,h4,h5,h6,fun i k v e a b=>h7 i k v e a b⟩
variable{en:Array MapEntry}
theorem RS.ent{p:aH}{g:Nat}{clock:Nat}{kk:List Kd}(h:RS P μ p w kt e0 es g en clock kk):AX P μ kt kk (kj es) en.toList:=by
 refine⟨by simp[kj,h.size],fun i k v hi=>?_,fun i k v e hi he=>?_⟩
 ·simp only[kj,AT,alj]at hi;obtain⟨⟨a,u⟩,hq,hx⟩:=hi;simp only[afu]at hx;obtain⟨rfl,rfl⟩:=hx;exact h.key i a u hq
 ·simp only[kj,AT,alj]at hi;obtain⟨⟨a,u⟩,hq,hx⟩:=hi;simp only[afu]at hx;obtain⟨rfl,rfl⟩:=hx;exact⟨(h.rep i a u e hq (by simpa using he)).1,.bad⟩
theorem I4{t et:TypeId}{ks:List Kd}{key:PV}{zv yi:Value}{g clock:Nat}{l:List (PV×PV)}(hu:P.underlying t=some (.map kt et))(hk:vS P kt=some ks)(tD:Af P kt ks key=true)(Re:aq P μ key yi)(hg:w.heap[g]?=some (.map en clock))(hE:AX P μ kt ks (kj l) en.toList)(hz:(zeroValue et).run P w=.ok zv w):(oq key l=none∧(Instr.lookup t (.map (some g)) yi false).run P w=.ok zv w)∨∃j e,oq key l=some j∧en[j]?=some e∧(Instr.lookup t (.map (some g)) yi false).run P w=.ok e.val w:=by
 have WE:=Cs hk;obtain⟨hc,hv⟩:=nU tD Re;obtain⟨r,r1,r2⟩:=mN (v:=.ig) (z:=.bad) WE hc w hE;have h1:=iU 8 kt ks WE 9992 w en.isEmpty key.cells hc;have Fv:=Go.MapKept.run_getObj_map (P:=P) hg;have h1':(Instr.checkKey en.isEmpty 10000 kt (eZ P kt key.cells)).run P w=.ok () w:=h1;rw[hv];unfold Instr.lookup;simp only[Sem.run_bind,run_underlying hu,Result.andThen_ok,Sem.run_pure,Fv];rcases LK r2 with⟨rfl,h⟩|⟨j,e,rfl,he,h⟩
 ·simp_all
 simp_all
end
section
variable {R:Type} {E:Env}
theorem RT{t:TypeId}(h:zeroV E.P t=some .fM)(w:World):(zeroValue t).run E.P w=.ok (.slice none 0 0) w:=by unfold zeroV at h;obtain⟨c,hc,h⟩:=alj.1 h;obtain⟨i,hi,hz⟩:=By.1 hc;have:=yf (P:=E.P) (μ:=fun _=>none) (φ:=fun _=>default) c;rw[h]at this;cases this;exact qW hi hz
theorem Zw{site:Nat}{t:TypeId}{x ix:V}{m:Mem}{k:V→Mem→bB→Option R}{r:R}(h:OL E site t x ix m k=some r):∃id b1 b2 m',m'=vT [(id,b1),(site,b2)] m∧k (.os site) m' [(true,id),(true,site)]=some r∧m site=none∧b2.names=(fun _=>false)∧b1.names=(fun _=>false)∧(m id).isSome=true∧(∀m2:Mem,m2 id=m id→m2 site=none→∀(R':Type)(k':V→Mem→bB→Option R'),OL E site t x ix m2 k'=k' (.os site) (vT [(id,b1),(site,b2)] m2) [(true,id),(true,site)])∧∀(G:Nat→Option (List PV))(w0:bu)(μ:Ro)(φ:Nat→aH)(w:World)(f:Fr)(ρ:Nat→Value)(y yi:Value),aA E.P G w0 μ φ m w→cd E.P μ φ m f ρ→an E.P μ φ x y→an E.P μ φ ix yi→∃u φ',(Instr.lookup t y yi false).run E.P w=.ok u w∧aA E.P G w0 μ φ' m' w∧cd E.P μ φ' m' f ρ∧an E.P μ φ' (.os site) u:=by
 unfold OL at h;split at h
 ·rename_i kt et hu;split at h
  ·rename_i e hue;split at h
   ·rename_i id hz;split at h
    ·rename_i AG e' es hm hs;split at h
     ·rename_i hc;obtain⟨rfl,rfl,eY⟩:=hc;obtain⟨key,tD,h⟩:=By.1 h;obtain⟨rs,hrs,h⟩:=By.1 h;obtain⟨ks,k1,k2,k3⟩:=yq tD;have bU:site≠id:=fun e=>by simp_all
      refine⟨id,.fG AG e' (xW key es),.arr (aS E.P e') e' rs,_,rfl,h,hs,rfl,rfl,by rw[hm];rfl,fun m2 h1 h2 R' k'=>?_,fun G w0 μ φ w f ρ y yi hM hF hx hi=>?_⟩
      ·simp only[OL,hu,hue,hz,h1,h2,hm,tD,hrs,aoe,eY,and_self,BY];rfl
      ·obtain⟨g,en,clock,kk,hN⟩:=yt.1 (hM.dB id _ hm);have xU:=hN.Fq;rw[k1]at xU;simp only[tb]at xU;subst xU;cases hx with
       |om cL=>
        rw[hN.pl]at cL;simp only[tb]at cL;subst cL;have OD:=I4 hu k1 k2 (k3 μ φ yi hi) hN.heap hN.ent (RT hz w);have Zx:∀i off,(bL.fG AG e' (xW key es)).rowAt i off=true→(bL.fG AG e' es).rowAt i off=true∧oq key es≠some i:=by
         intro i off hr;rcases kM hr with⟨_,_,_,_,_,_,hb,_⟩|⟨_,_,_,k0,s0,rs0,hb,rfl,he⟩
         ·cases hb
         ·simp only[bL.fG.injEq]at hb;obtain⟨rfl,rfl,rfl⟩:=hb;rw[yr]at he;cases hp:oq key es with
          |none=>rw[hp]at he;simp only at he;exact⟨by rw[kL he];rfl,by simp⟩
          |some j=>
           rw[hp]at he;simp only[aqo]at he;split at he
           ·simp_all
           ·rename_i hji;have he:es[i]?=some (k0,PV.qg s0 rs0):=by simpa using he
            exact⟨by rw[kL he];rfl,fun h=>hji (by simpa using h)⟩
        have y9:aA E.P G w0 μ φ (aw m id (.fG AG e' (xW key es))) w:=by
         refine hM.write hm rfl hN.pl (lh.refl _ _) rfl (fun _ _=>rfl) (yt.2 ⟨g,en,clock,ks,hN.pl,hN.heap,?_,k1,fun i k0 v0 h0=>?_,hN.born,fun i k0 v0 e0 h0 WO=>?_⟩) rfl (by simp[bL.names]) (fun st h=>by cases h) (fun i off hr=>(Zx i off hr).1)
         ·rw[hN.size,yr];grind
         ·rw[yr]at h0;cases hp:oq key es with
          |none=>rw[hp]at h0;exact hN.key i k0 v0 h0
          |some j=>
           rw[hp]at h0;simp only[aqo]at h0;obtain⟨x0,WA,hq⟩:=alj.1 h0;obtain⟨xa,xu⟩:=x0;split at hq
           ·simp only[afu]at hq;rw[←hq.1];exact hN.key i xa xu WA
           ·simp only[id_eq,afu]at hq;rw[←hq.1];exact hN.key i xa xu WA
         ·rw[yr]at h0;cases hp:oq key es with
          |none=>rw[hp]at h0;exact hN.rep i k0 v0 e0 h0 WO
          |some j=>
           rw[hp]at h0;simp only[aqo]at h0;obtain⟨x0,WA,hq⟩:=alj.1 h0;obtain⟨xa,xu⟩:=x0;obtain⟨q1,q2⟩:=hN.rep i xa xu e0 WA WO;split at hq
           ·simp only[afu]at hq;obtain⟨rfl,rfl⟩:=hq;exact⟨q1,.pure .bad⟩
           simp_all
        have aiC:∀(ph:aH)(u:Value),aL E.P μ (fun _=>ph) w 0 (aS E.P e') e' rs→an E.P μ (fun _=>ph) (.os 0) u→(∀g',ph.g=some g'→∃j,oq key es=some j∧(bL.fG AG e' es).rowAt j 0=true∧((φ id).row j 0).g=some g')→∃φ',aA E.P G w0 μ φ' (vT [(id,.fG AG e' (xW key es)),(site,.arr (aS E.P e') e' rs)] m) w∧cd E.P μ φ' (vT [(id,.fG AG e' (xW key es)),(site,.arr (aS E.P e') e' rs)] m) f ρ∧an E.P μ φ' (.os site) u:=by
         intro ph u hA hV Fv;have KL:∀j,(m j).isSome=true→j≠site:=fun j hj e=>by simp_all
         refine⟨fun i=>if i=site then ph else φ i,?_,?_,?_⟩
         ·refine y9.put (by rw[av bU];omega) (lh.refl _ _) hM.ro (fun _ _ _ _ _=>rfl) (fun g' cL=>?_) (uu qD) ?_ (by simp[bL.names]) (fun st h=>by cases h) (fun k o h=>⟨(hM.hid k o h).1,fun hk=>by obtain⟨j,hj,hr,hjg⟩:=Fv k (lq qD hk);exact(hM.hid k o h).2.2.2 id _ hm (.inr ⟨j,0,hr,hjg⟩)⟩)
          ·have cL:=lq qD cL;obtain⟨j,hj,hr,hjg⟩:=Fv g' cL;obtain⟨o1,o2⟩:=hM.own id _ g' hm (.inr ⟨j,0,hr,hjg⟩);refine⟨o1,o2 rfl,fun i b' hi ho=>?_⟩;by_cases hii:i=id
           ·subst hii;rw[bD]at hi;simp only[tb]at hi;subst hi;obtain⟨a1,a2⟩:=hM.apart i _ hm j 0 g' hr hjg;rcases ho with ho|⟨i',yV,Fu,ho⟩
            ·exact a1 ho
            grind
           ·rw[av hii]at hi;exact hii (hM.inj i id _ _ g' hi hm ho (.inr ⟨j,0,hr,hjg⟩))
          ·exact aL.move (φ':=fun i=>if i=site then ph else φ i) (j:=site) hA (by simp) (fun _ _ h=>h)
         ·refine hF.mono (fun _ _ h=>h) fun j hj=>⟨by simp[KL j hj],?_⟩;show(aw (aw m id _) site _ j).isSome=true;rw[av (KL j hj)];by_cases hji:j=id
          ·subst hji;simp
          ·rw[av hji];omega
         ·cases hV with
          |vO h=>exact .vO (by simpa using h)
          | @os _ g0 h=>have:=an.os (P:=E.P) (μ:=μ) (φ:=fun i=>if i=site then ph else φ i) (id:=site) (g:=g0) (by simpa using h);simpa using this
        rw[O9]at hrs;rcases OD with⟨hp,xZ⟩|⟨j,en0,hp,hen,xZ⟩
        ·rw[hp]at hrs;simp only[tb]at hrs;subst hrs;obtain⟨φ',a1,a2,a3⟩:=aiC (GU none 0 0 (aS E.P e')) (.slice none 0 0) ⟨rfl,rfl,rfl,eY,by simp,by simp[maxLen],⟨rfl,rfl⟩⟩ (.vO rfl) (fun g' cL=>by cases cL);grind
        ·rw[hp]at hrs;obtain⟨x0,WA,nb⟩:=By.1 hrs;obtain⟨xa,xu⟩:=x0;have hxu:=OZ nb;simp only at hxu;subst hxu;obtain⟨_,q2⟩:=hN.rep j xa _ en0 WA hen;obtain⟨φ',a1,a2,a3⟩:=aiC ((φ id).row j 0).up en0.val q2.1 q2.2 (fun g' cL=>⟨j,hp,by rw[kL WA];rfl,cL⟩);grind
     ·cases h
    ·cases h
   ·cases h
  ·cases h
 ·cases h
end
theorem I5{m:Mem}:∀{cs:List V}{j0:Nat}{ps:List PV}{tk:Option (Nat×Nat)},mn m j0 cs=some (ps,tk)→ps.length=cs.length∧(tk=none→∀(i:Nat)p,ps[i]?=some p→∃v,cs[i]?=some v∧l0 cY 1 v=some p)∧∀j id2,tk=some (j,id2)→∃l s2 O8 rs,cs[l]?=some (.os id2)∧m id2=some (.arr s2 O8 rs)∧ps[l]?=some (.qg s2 rs)∧∀(i:Nat)p,i≠l→ps[i]?=some p→∃v,cs[i]?=some v∧l0 cY 1 v=some p
 |[],j0,ps,tk,h=>by simp only[mn,tb,afu]at h;grind
 |v::r,j0,ps,tk,h=>by
  have plain:∀{p:PV},l0 cY 1 v=some p→(match mn m (j0+1) r with
   |some (ps,t)=>some (p::ps,t)
   |none=>none)=some (ps,tk)→ps.length=(v::r).length∧
   (tk=none→∀(i:Nat)p,ps[i]?=some p→∃u,(v::r)[i]?=some u∧l0 cY 1 u=some p)∧
   ∀j id2,tk=some (j,id2)→∃l s2 O8 rs,(v::r)[l]?=some (.os id2)∧m id2=some (.arr s2 O8 rs)∧ps[l]?=some (.qg s2 rs)∧∀(i:Nat)p,i≠l→ps[i]?=some p→∃u,(v::r)[i]?=some u∧l0 cY 1 u=some p:=by
   intro p hp h
   split at h
   ·rename_i ps' t ht;simp only[tb,afu]at h;obtain⟨rfl,rfl⟩:=h;obtain⟨h1,h2,h3⟩:=I5 ht;refine⟨by simp[h1],fun hn i q hq=>?_,fun j id2 hj=>?_⟩
    ·grind
    ·obtain⟨l,s2,O8,rs,a1,a2,a3,a4⟩:=h3 j id2 hj;refine⟨l+1,s2,O8,rs,by simpa using a1,a2,by simpa using a3,fun i q hi hq=>?_⟩;grind
   ·cases h
  unfold mn at h;split at h
  ·rename_i heq;cases heq
  ·rename_i j id r' heq;simp only[ao6]at heq;obtain⟨rfl,rfl⟩:=heq;split at h
   ·rename_i s et es hm;split at h
    ·rename_i ps' ht;simp only[tb,afu]at h;obtain⟨rfl,rfl⟩:=h;obtain⟨h1,h2,_⟩:=I5 ht;refine⟨by simp[h1],fun hn=>(nomatch hn),fun j id2 hj=>?_⟩;simp only[tb,afu]at hj;obtain⟨rfl,rfl⟩:=hj;refine⟨0,s,et,es,rfl,hm,rfl,fun i q hi hq=>?_⟩;grind
    ·cases h
   ·cases h
  grind
section
variable {P:Program} {G:Nat→Option (List PV)} {w0:bu} {μ μ':Ro} {φ φ':Nat→aH} {m m':Mem} {w w':World}
theorem I6{v:V}{n j id2:Nat}{cs:List V}{ps:List PV}(hc:toCells n v=some cs)(h:mn m 0 cs=some (ps,some (j,id2))):∃l s2 O8 rs,m id2=some (.arr s2 O8 rs)∧ps[l]?=some (.qg s2 rs)∧ps.length=n∧v.has id2=true∧∀(P:Program)(μ:Ro)(φ:Nat→aH)(x:Value),an P μ φ v x→x.cells.size=n∧(∀(i:Nat)(y:Value),x.cells[i]?=some y→y.oneCell'=true)∧(∀(i:Nat)p y,i≠l→ps[i]?=some p→x.cells[i]?=some y→aq P μ p y)∧∃y,x.cells[l]?=some y∧an P μ φ (.os id2) y:=by
 obtain⟨t1,_,t3⟩:=I5 h;obtain⟨l,s2,O8,rs,a1,a2,a3,a4⟩:=t3 j id2 rfl;obtain⟨n1,n2,n3⟩:=toCells_ok hc;refine⟨l,s2,O8,rs,a2,a3,by omega,n2 id2 (bR (an4 a1) (by simp[V.has])),fun P μ φ x hx=>?_⟩;obtain⟨x1,x2,x3⟩:=n3 P μ φ x hx;refine⟨x1,x3,fun i p y hi hp hy=>?_,?_⟩
 ·grind [yn]
 ·have hl:l<x.cells.size:=by grind
  exact⟨x.cells[l],Yh hl,x2 l _ _ a1 (Yh hl)⟩
theorem G8{s off n:Nat}{e:PV}{ps:List PV}(hn:ps.length=n)(hb:off+n≤s)(h0:0<n)(ha:s=1→∀p,ps.head? =some p→∀cs,p≠.agg cs):(if s=1 then ps.headD .bad else PV.agg (bQ (aK s e) off ps)).cells=bQ (aK s e) off ps:=by
 split
 ·rename_i h1;subst h1;have e1:off=0:=by omega
  have e2:n=1:=by omega
  subst e1;subst e2;match ps,hn with
  |[p],_=>
   have:=ha rfl p rfl;have hp:p.cells=[p]:=by cases p<;>first|rfl|exact absurd rfl (this _)
   simp only[List.headD_cons,hp,ea,ap4,apA,alx,an5];rfl
 rfl
theorem I7{T:Type}{cs ps:List T}{off l:Nat}{x:T}(hl:l<ps.length)(hb:off+ps.length≤cs.length):bQ cs off (ps.set l x)=(bQ cs off ps).set (off+l) x:=by
 have hto:(cs.take off).length=off:=by simp;omega
 simp_all[ea,apW,aow,List.set_append,QU,No]
theorem I8{id id2:Nat}{B X:bL}(bU:id2≠id):aw (fE id (bq (bK id2 (aw m id B)) id2)) id X=aw (fE id (bq (bK id2 m) id2)) id X:=by
 funext t;by_cases h:t=id
 ·subst h;simp
 ·rw[av h,av h];unfold fE;by_cases h2:t=id2
  ·subst h2;simp
  simp_all[gE,bK,av]
end
section
variable {R:Type} {E:Env}
theorem Zy{t:TypeId}{v:V}{id i off s id2 j:Nat}{et:TypeId}{es ps:List PV}{cs:List V}{e:PV}{m:Mem}(hm:m id=some (.nest s et es))(hc:toCells (aS E.P t) v=some cs)(ht:mn m 0 cs=some (ps,some (j,id2)))(hb:off+aS E.P t≤s)(h0:0<aS E.P t)(bU:id2≠id)(he:es[i]?=some e){G:Nat→Option (List PV)}{w0:bu}{μ:Ro}{φ:Nat→aH}{w:World}{f:Fr}{ρ:Nat→Value}{ya yx:Value}(hM:aA E.P G w0 μ φ m w)(hF:cd E.P μ φ m f ρ)(ha:an E.P μ φ (.oe id i off) ya)(hx:an E.P μ φ v yx):∃w' φ',(Instr.storeAt t ya yx).run E.P w=.ok () w'∧aA E.P G w0 μ φ' (vT [(id,.nest s et (es.set i (if s=1 then ps.headD .bad else .agg (bQ (aK s e) off ps))))] (km [(true,id2),(false,id)] m)) w'∧cd E.P μ φ' (vT [(id,.nest s et (es.set i (if s=1 then ps.headD .bad else .agg (bQ (aK s e) off ps))))] (km [(true,id2),(false,id)] m)) (kf [(true,id2),(false,id)] f) ρ:=by
 obtain⟨l,s2,O8,rs,cG,nb,I9,amd,kF⟩:=I6 hc ht;obtain⟨x1,x2,x3,y,hy,hvy⟩:=kF E.P μ φ yx hx;have YH:l<ps.length:=(IN.1 nb).1;have hN:bd E.P μ φ w id s et es:=hM.dB id _ hm;have G0:=hN.2.2.2.2.1 i e he;have KK:(aK s e).length=s:=bh _ _;have qk:ps=(ps.set l .bad).set l (.qg s2 rs):=by rw[aqZ];apply aox;grind
 have sx:∀(a:Nat)p,(ps.set l .bad)[a]?=some p→(a=l∧p=.bad)∨(a≠l∧ps[a]?=some p):=fun a p h=>eQ h;have hE:wV E.P μ (aS E.P t) (.agg (ps.set l .bad)) yx:=by
  refine⟨by simp[PV.cells,I9],x1,fun a p z hp hz=>?_,x2⟩;rcases sx a p (by simpa[PV.cells]using hp)with⟨_,rfl⟩|⟨h1,h2⟩
  ·exact .bad
  grind
 have one:s=1→ps.length=1:=fun h=>by omega
 have hq:(if s=1 then ps.headD .bad else PV.agg (bQ (aK s e) off ps)).cells=bQ (aK s e) off ps:=G8 I9 hb h0 fun h1 p hp O1=>by grind [List.head?_eq_getElem?,Option.some.injEq]
 have IM:(if s=1 then(ps.set l .bad).headD .bad else PV.agg (bQ (aK s e) off (ps.set l .bad))).cells=bQ (aK s e) off (ps.set l .bad):=G8 (by simpa using I9) hb h0 fun h1 p hp O1=>by
  have OA:l=0:=by omega
  subst OA;rw[aqb,aoO,No rfl,No YH]at hp;grind
 generalize (if s=1 then ps.headD .bad else PV.agg (bQ (aK s e) off ps))=q at hq⊢;generalize (if s=1 then(ps.set l .bad).headD .bad else PV.agg (bQ (aK s e) off (ps.set l .bad)))=q' at IM;cases ha with
 | @oe _ _ _ g hg=>
  obtain⟨c,T,hh,oJ,Dq,hrw⟩:=bd.set (q:=q') hN (hM.apart id _ hm) hg he hE hb (by rw[IM];rfl);have ou:(φ id).sz=s:=hN.2.1;have hi:=lu (P:=E.P) (t:=t) (by omega);have y9:aA E.P G w0 μ φ (aw m id (.nest s et (es.set i q'))) (w.setRow g (bQ c.toList (i*s+off) yx.cells.toList).toArray):=hM.write hm rfl hg (lh.setRow (aoa _)) setRow_size (fun k hk=>ck hk) Dq rfl (fun j hj=>by simp[bL.names]at hj) (fun st h=>by cases h) hrw;have I0:i<es.length:=(IN.1 he).1;have Zz:q.cells=q'.cells.set (off+l) (.qg s2 rs):=by grind [I7]
  have Ey:q'.cells[off+l]?=some .bad:=by rw[IM,I7 YH (by omega),aoO,No rfl,No];grind [cC]
  have sn:=aA.afO y9 (id:=id) (id2:=id2) (i:=i) (off:=off+l) (e:=q') (q:=q) (x:=y) bU (bD _ _ _) (by rw[av bU];exact cG) (by simp[I0]) Ey (fun g0 c0 _ Rz Rc=>by
   rw[hg]at Rz;simp only[tb]at Rz;subst Rz;rw[setRow_heap w g c _ T (0,0) hh]at Rc;simp only[tb,Obj.cells.injEq]at Rc;obtain⟨rfl,_⟩:=Rc;rw[aoL,ea];have bF:(c.toList.take (i*s+off)).length=i*s+off:=by simp;omega
   have IJ:l<yx.cells.toList.length:=by grind
   rw[aow,apj (by omega),bF,show i*s+(off+l)-(i*s+off)=l by omega,apn IJ];simpa using hy) hvy Zz
  rw[aqZ,I8 bU]at sn;refine⟨_,_,by grind [gF],sn,?_⟩;have HF:cd E.P μ φ (aw m id (.nest s et (es.set i q'))) f ρ:=hF.oI (fun _ _ h=>h) .set;have hF2:=(HF.forget id2).zb id;refine hF2.aeY (by simp[lv]) (fun k hk=>by simp[hk]) fun k hk=>?_;show(aw (fE id (bq (bK id2 m) id2)) id _ k).isSome=true;by_cases e1:k=id
  ·subst e1;simp
  ·rw[av e1];rw[qX]at hk⊢;by_cases e2:k=id2
   ·subst e2;simp at hk
   grind [gE,bK,av]
end
section
variable {R:Type} {E:Env}
variable{e:TypeId}{id2:Nat}{G:Nat→Option (List PV)}{w0:bu}{φ:Nat→aH}{w:World}{ρ:Nat→Value}
theorem WR{t:TypeId}{v:V}{j site:Nat}{cs:List V}{ps:List PV}{p:PV}{m:Mem}(hu:E.P.underlying t=some (.slice e))(hc:toCells (aS E.P e) v=some cs)(ht:mn m 0 cs=some (ps,some (j,id2)))(hs:m site=none)(hp:elemOf (aG E.P e) ps=some p)(eY:0<aS E.P e)(FU:aS E.P e≤16777216)(hz:(cQ E e).isSome=true){μ:Ro}{f:Fr}{yx:Value}(hM:aA E.P G w0 μ φ m w)(hF:cd E.P μ φ m f ρ)(hx:an E.P μ φ v yx):∃y w' φ',(Instr.buildSlice t 1 #[(0,yx)]).run E.P w=.ok y w'∧aA E.P G w0 μ φ' (vT [(site,.nest (aS E.P e) e [p])] (km [(true,id2)] m)) w'∧cd E.P μ φ' (vT [(site,.nest (aS E.P e) e [p])] (km [(true,id2)] m)) (kf [(true,id2)] f) ρ∧an E.P μ φ' (.os site) y:=by
 obtain⟨l,s2,O8,rs,cG,nb,I9,amd,kF⟩:=I6 hc ht;obtain⟨x1,x2,x3,z,hz1,hvz⟩:=kF E.P μ φ yx hx;obtain⟨zc,YG⟩:=aop.1 hz;obtain⟨iz,zv,i1,i2,i3,_⟩:=du YG;have bU:id2≠site:=fun e=>by simp_all
 have WS:p.cells=ps:=by
  unfold elemOf at hp;split at hp
  ·simp only[tb]at hp;subst hp;rfl
  ·split at hp
   ·rename_i q;simp only[tb]at hp;subst hp;have OA:l=0:=by grind
    subst OA;simp only[aoR,tb]at nb;subst nb;rfl
   ·cases hp
 have hA2:aL E.P μ φ w id2 s2 O8 rs:=hM.dB id2 _ cG;have anD:Instr.fill (fun i=>some (i*aS E.P e,aS E.P e)) ((Array.range (1*aS E.P e)).map (zv.cells[·%zv.cells.size]!)) [(0,yx)]=some yx.cells:=by
  have M7:((Array.range (1*aS E.P e)).map (zv.cells[·%zv.cells.size]!)).size=aS E.P e:=by simp
  rw[Cr (off:=0) (size:=aS E.P e) (by simp) x1 (by omega)];simp only[Instr.fill,tb];apply apI;simp only[ea,ap4,apA,apa];simp_all
 have xZ:=run_buildSlice (P:=E.P) w t e 1 #[(0,yx)] yx.cells iz zv hu i1 i2 (by omega) (by omega) (by rw[i3];omega);let q:aH:={g:=some w.heap.size,cap:=1,len:=1,sz:=aS E.P e,row:=fun a b=>if a=0∧b=l then(φ id2).toGS else default};have KL:∀k,(bq (bK id2 m) id2 k).isSome=true→k≠site:=fun k hk e=>by simp_all[gE,Ne.symm,bK]
 have Ub:∀a b,(bL.nest (aS E.P e) e [p]).rowAt a b=true→a=0∧b=l:=by
  intro a b hr;rcases kM hr with⟨_,_,_,e',s',rs',jn,h',yp⟩|⟨_,_,_,_,_,_,jn,_⟩
  ·simp only[bL.nest.injEq]at jn;obtain⟨rfl,rfl,rfl⟩:=jn;cases a with
   |succ a=>simp at h'
   |zero=>
    simp only[aoR,tb]at h';subst h';rw[WS]at yp;refine⟨rfl,?_⟩;by_cases Rh:b=l
    ·exact Rh
    ·exfalso;have bF:b<yx.cells.size:=by rw[x1,←I9];exact(IN.1 yp).1
     exact absurd (x3 b _ _ Rh yp (Yh bF)).HU (by simp[PV.isRow])
  ·cases jn
 have y9:=hM.forget id2;have nf:aA E.P G w0 μ (fun i=>if i=site then q else φ i) (aw (bq (bK id2 m) id2) site (.nest (aS E.P e) e [p])) (w.alloc (.cells yx.cells e)):=by
  have hold:∀k,k<w.heap.size→(w.alloc (.cells yx.cells e)).heap[k]?=w.heap[k]?:=fun k hk=>lh.heap_alloc w _ k hk;refine y9.put (by rw[gE (Ne.symm bU)];simp[bK,hs]) ((lh.refl _ w).alloc hM.below.size _) (fun k o hk=>?_) (fun id b' g hid hg=>hold g ((y9.dB id b' hid).HE hg)) (fun g hg=>?_) ?_ ?_ (by simp[bL.names]) (fun st h=>by cases h) (fun k o h=>(by
   obtain⟨h1,h2,h3,h4⟩:=hM.hid k o h;have bF:=(T0.1 h1).1;refine⟨by rw[hold k bF];exact h1,fun hk=>?_⟩;rcases hk with hg|⟨a,b,hr,hg⟩
   ·simp only[q,tb]at hg;omega
   ·have sn:=Ub a b hr;have hg:(φ id2).g=some k:=by simpa[q,sn]using hg
    exact h4 id2 _ cG (.inl hg)))
  ·have:=hM.ro k o hk;rw[hold k (T0.1 this).1];exact this
  ·rcases hg with hg|⟨a,b,hr,hg⟩
   ·simp only[q,tb]at hg;subst hg;refine⟨hM.below.size,?_,fun id b' hid ho=>?_⟩
    ·cases hq:μ w.heap.size with
     |none=>rfl
     |some o'=>have:=hM.ro _ _ hq;simp at this
    ·have:=(y9.dB id b' hid).HE ho;omega
   ·have sn:=Ub a b hr;have hg:(φ id2).g=some g:=by simpa[q,sn]using hg
    obtain⟨o1,o2⟩:=hM.own id2 _ g cG (.inl hg);refine⟨o1,o2 rfl,fun id b' hid ho=>?_⟩;obtain⟨h1,b2,td,rfl⟩:=fV hid;exact h1 (hM.inj id id2 _ _ g td cG (fZ.1 ho) (.inl hg))
  ·intro a b g hr hg;have sn:=Ub a b hr;have hg:(φ id2).g=some g:=by simpa[q,sn]using hg
   refine⟨fun h=>?_,fun a' b' Fu _=>by have:=Ub a' b' Fu;omega⟩;simp only[q,tb]at h;have:=(hM.dB id2 _ cG).HE (.inl hg);omega
  ·show bd E.P μ (fun i=>if i=site then q else φ i) (w.alloc (.cells yx.cells e)) site (aS E.P e) e [p];unfold bd;simp only[BY];refine⟨rfl,rfl,trivial,eY,fun i e' M8=>?_,by simp[q,maxLen],yx.cells,e,ga w _,by simp[q,x1],by simp[q],fun i e' b p' x' M8 yp MZ=>?_,fun i x' _ MZ=>x2 i x' MZ⟩
   ·cases i with
    |zero=>simp at M8;subst M8;rw[WS,I9]
    |succ i=>simp at M8
   ·cases i with
    |succ i=>simp at M8
    |zero=>
     simp only[aoR,tb]at M8;subst M8;rw[WS]at yp;rw[arb,apa]at MZ;by_cases Rh:b=l
     ·subst Rh;rw[nb]at yp;simp only[tb]at yp;subst yp;rw[hz1]at MZ;simp only[tb]at MZ;subst MZ;have:q.row 0 b=(φ id2).toGS:=by simp[q]
      rw[this];refine eX.cv ⟨⟨O8,hA2.up⟩,RP hvz⟩ (fun _ _ h=>h) fun g hg=>hold g ((hM.dB id2 _ cG).HE (.inl hg))
     ·exact .pure (x3 b p' x' Rh yp MZ)
 refine⟨_,_,_,xZ,nf,?_,?_⟩
 ·exact(hF.forget id2).mono (fun _ _ h=>h) fun k hk=>⟨by simp[KL k hk],by show(aw (bq (bK id2 m) id2) site _ k).isSome=true;rw[av (KL k hk)];exact hk⟩
 ·have:=an.os (P:=E.P) (μ:=μ) (φ:=fun i=>if i=site then q else φ i) (id:=site) (g:=w.heap.size) (by simp[q]);simpa[q]using this
theorem ZA{k v v':PV}:∀{es:List (PV×PV)}{j:Nat},(dd k v es)[j]?=some (k,v)→(oq k es=some j∨(oq k es=none∧j=es.length))→(dd k v es).set j (k,v')=dd k v' es:=by
 intro es j hj hp;rw[oK,oK];rcases hp with hp|⟨hp,rfl⟩
 ·rw[hp];simp
 ·rw[hp];simp
variable{es:List (PV×PV)}
theorem aA.adC{P:Program}{μ:Ro}{m:Mem}(hM:aA P G w0 μ φ m w){id i s2:Nat}{kt:TypeId}{k:PV}{rs:List PV}{x:Value}(bU:id2≠id)(hm:m id=some (.fG kt e es))(cG:m id2=some (.arr s2 e rs))(he:es[i]?=some (k,.bad))(hx:∀g en clock,(φ id).g=some g→w.heap[g]?=some (.map en clock)→∃e0,en[i]?=some e0∧e0.val=x)(hv:an P μ φ (.os id2) x):aA P G w0 μ (fun j=>if j=id then lv (φ id) i 0 (φ id2).toGS else φ j) (aw (fE id (bq (bK id2 m) id2)) id (.fG kt e (es.set i (k,.qg s2 rs)))) w:=by
 have y9:=(hM.forget id2).zb id;obtain⟨g0,en,clock,kk,hN⟩:=yt.1 (hM.dB id _ hm);have hA2:aL P μ φ w id2 s2 e rs:=hM.dB id2 _ cG;have nb:∀a b,(bL.fG kt e (es.set i (k,.qg s2 rs))).rowAt a b=true→(a=i∧b=0)∨((bL.fG kt e es).rowAt a b=true∧¬(a=i∧b=0)):=by
  intro a b hr;by_cases sn:a=i∧b=0
  ·exact .inl sn
  ·refine .inr ⟨?_,sn⟩;rcases kM hr with⟨_,_,_,_,_,_,jn,_⟩|⟨_,_,_,k',s',rs',jn,rfl,h'⟩
   ·cases jn
   ·simp only[bL.fG.injEq]at jn;obtain⟨rfl,rfl,rfl⟩:=jn;rcases eQ h' with⟨rfl,_⟩|⟨hni,h'⟩
    ·exact absurd ⟨rfl,rfl⟩ sn
    ·rw[kL h'];rfl
 refine hM.T9 (fun _ k=>if k=id2 then id else k) (fun j b' hj=>?_) (fun j b' g hj ho=>?_) (fun j b' hj=>?_) (fun j cs k hj hk=>?_) (fun j st hj=>?_)
 ·rcases fW hj with⟨rfl,rfl⟩|⟨h1,h2,c,hc,rfl⟩
  ·refine yt.2 ⟨g0,en,clock,kk,by simp[lv,hN.pl],hN.heap,by simp[hN.size],hN.Fq,fun a k' v' h'=>?_,hN.born,fun a k' v' e' h' M8=>?_⟩
   ·rcases eQ h' with⟨rfl,hq⟩|⟨_,h'⟩
    ·simp only[afu]at hq;rw[hq.1];exact hN.key a k _ he
    ·exact hN.key a k' v' h'
   ·simp only[BY];rcases eQ h' with⟨rfl,hq⟩|⟨hni,h'⟩
    ·simp only[afu]at hq;obtain⟨rfl,rfl⟩:=hq;refine⟨(hN.rep a _ _ e' he M8).1,?_⟩;rw[gO];obtain⟨e1,he1,hxe⟩:=hx g0 en clock hN.pl hN.heap;rw[M8]at he1;simp only[tb]at he1;subst he1;rw[hxe];exact⟨hA2.up,RP hv⟩
    ·rw[il _ _ (fun h=>hni h.1)];exact hN.rep a k' v' e' h' M8
  ·have hb:gM P μ φ w j (dR id (gK id2 c)):=(hM.dB j c hc).kill.CW;exact hb.Ua h1 (by simp[lv]) fun k hk=>by simp[hk]
 ·rcases fW hj with⟨rfl,rfl⟩|⟨h1,h2,c,hc,rfl⟩
  ·simp only[BY]at ho;rcases ho with ho|⟨a,b,hr,ho⟩
   ·exact⟨j,_,hm,.inl ho,fun _=>rfl,by simp[bU.symm]⟩
   ·rcases nb a b hr with⟨rfl,rfl⟩|⟨Fu,sn⟩
    ·rw[gO]at ho;exact⟨id2,_,cG,.inl ho,fun _=>rfl,by simp⟩
    ·rw[il _ _ sn]at ho;exact⟨j,_,hm,.inr ⟨a,b,Fu,ho⟩,fun _=>rfl,by simp[bU.symm]⟩
  ·simp only[h1,OF]at ho;exact⟨j,c,hc,fZ.1 (qF.1 ho),fun h=>by rw[Dx,Cp]at h;exact h,by simp[h2]⟩
 ·rcases fW hj with⟨rfl,rfl⟩|⟨h1,h2,c,hc,rfl⟩
  ·simp only[BY];have HV:=hM.apart j _ hm;have new:∀g,(φ id2).g=some g→¬(bL.fG kt e es).owns (φ j) g:=fun g hg ho=>bU (hM.inj id2 j _ _ g cG hm (.inl hg) ho);intro a b g hr hg;rcases nb a b hr with⟨rfl,rfl⟩|⟨Fu,sn⟩
   ·rw[gO]at hg;refine⟨fun h=>new g hg (.inl h),fun a' b' RQ M6=>?_⟩;rcases nb a' b' RQ with h|⟨hr3,RR⟩
    ·exact h
    ·rw[il _ _ RR]at M6;exact absurd (.inr ⟨a',b',hr3,M6⟩) (new g hg)
   ·rw[il _ _ sn]at hg;obtain⟨h3,h4⟩:=HV a b g Fu hg;refine⟨h3,fun a' b' RQ M6=>?_⟩;rcases nb a' b' RQ with⟨rfl,rfl⟩|⟨hr3,RR⟩
    ·rw[gO]at M6;exact absurd (.inr ⟨a,b,Fu,hg⟩) (new g M6)
    ·rw[il _ _ RR]at M6;exact h4 a' b' hr3 M6
  ·simp only[h1,OF];exact AZ.2 (y8.2 (hM.apart j c hc))
 ·rcases fW hj with⟨rfl,hb⟩|⟨h1,h2,c,hc,hb⟩
  ·cases hb
  ·have YK:fE id (bq (bK id2 m) id2) j=some (.box cs):=by rw[av h1]at hj;exact hj
   have:=y9.fI j cs k YK hk;by_cases e:k=id
   ·subst e;simp
   ·rw[av e];exact this
 ·rcases fW hj with⟨rfl,hb⟩|⟨h1,h2,c,hc,hb⟩
  ·cases hb
  ·cases c<;>first|(simp[dR,gK]at hb;done)|skip
   simp only[dR,gK,bL.loop.injEq]at hb;subst hb;exact⟨hc,by simp[h1]⟩
theorem WT{t kt et:TypeId}{xk:V}{id s:Nat}{key:PV}{rs:List PV}{m:Mem}(hu:E.P.underlying t=some (.map kt et))(hm:m id=some (.fG kt e es))(cG:m id2=some (.arr s e rs))(tD:keyOf E kt xk=some key){μ:Ro}{f:Fr}{ya yk yv:Value}(hM:aA E.P G w0 μ φ m w)(hF:cd E.P μ φ m f ρ)(ha:an E.P μ φ (.om id) ya)(hk:an E.P μ φ xk yk)(hv:an E.P μ φ (.os id2) yv):∃w' φ',(Instr.mapUpdate t ya yk yv).run E.P w=.ok () w'∧aA E.P G w0 μ φ' (vT [(id,.fG kt e (dd key (.qg s rs) es))] (km [(true,id2),(false,id)] m)) w'∧cd E.P μ φ' (vT [(id,.fG kt e (dd key (.qg s rs) es))] (km [(true,id2),(false,id)] m)) (kf [(true,id2),(false,id)] f) ρ:=by
 have bU:id2≠id:=fun h=>by subst h;rw[hm]at cG;cases cG
 obtain⟨ks,k1,k2,k3⟩:=yq tD;obtain⟨g,en,clock,kk,hN⟩:=yt.1 (hM.dB id _ hm);have xU:=hN.Fq;rw[k1]at xU;simp only[tb]at xU;subst xU;have WE:=Cs k1;have hkr:=k3 μ φ yk hk;obtain⟨hc,hkv⟩:=nU k2 hkr;obtain⟨res,r1,r2⟩:=mN (v:=.ig) (z:=.bad) WE hc w hN.ent;have Fv:=Go.MapKept.run_getObj_map (P:=E.P) hN.heap;have h1:(Instr.checkKey false 10000 kt yk).run E.P w=.ok () w:=by rw[hkv];exact iU 8 kt ks WE 9992 w false key.cells hc
 rw[←hkv]at r1;have bF:g<w.heap.size:=(T0.1 hN.heap).1;cases ha with
 |om cL=>
  rw[hN.pl]at cL;simp only[tb]at cL;subst cL;have fin:∀(J:Nat)(Rf:Array MapEntry)(sA:Nat),(oq key es=some J∨(oq key es=none∧J=es.length))→(Instr.mapUpdate t (.map (some g)) yk yv).run E.P w=.ok () {w with heap:=w.heap.setIfInBounds g (.map Rf sA)}→na Rf sA→Rf.size=(dd key .bad es).length→(∃e0,Rf[J]?=some e0∧e0.key=yk∧e0.val=yv)→(∀i e0,i≠J→Rf[i]?=some e0→en[i]?=some e0)→∃w' φ',(Instr.mapUpdate t (.map (some g)) yk yv).run E.P w=.ok () w'∧aA E.P G w0 μ φ' (vT [(id,.fG kt e (dd key (.qg s rs) es))] (km [(true,id2),(false,id)] m)) w'∧cd E.P μ φ' (vT [(id,.fG kt e (dd key (.qg s rs) es))] (km [(true,id2),(false,id)] m)) (kf [(true,id2),(false,id)] f) ρ:=by
   intro J Rf sA hJ hr Ci ou hJe Ax;obtain⟨eJ,aiD,ame,amf⟩:=hJe;have nf:∀i k' v',(dd key .bad es)[i]?=some (k',v')→(i=J∧k'=key∧v'=.bad)∨(i≠J∧es[i]?=some (k',v')):=by
    intro i k' v' h;rw[oK]at h;rcases hJ with hJ|⟨hJ,rfl⟩
    ·rw[hJ]at h;rcases eQ h with⟨rfl,hq⟩|⟨hni,h⟩
     ·simp only[afu]at hq;exact .inl ⟨rfl,hq.1,hq.2⟩
     ·exact .inr ⟨hni,h⟩
    ·rw[hJ]at h;simp only at h;rw[aoG]at h;split at h
     ·rename_i bF;exact .inr ⟨by omega,h⟩
     ·rename_i G2;cases hd:i-es.length with
      |zero=>rw[hd]at h;simp only[aoR,tb,afu]at h;exact .inl ⟨by omega,h.1.symm,h.2.symm⟩
      |succ n=>rw[hd]at h;simp at h
   have hJb:(dd key .bad es)[J]?=some (key,.bad):=by
    rw[oK];rcases hJ with hJ|⟨hJ,rfl⟩
    ·rw[hJ];obtain⟨a,u,hj,_⟩:=HW hJ;simp[(IN.1 hj).1]
    ·rw[hJ];simp
   have y9:aA E.P G w0 μ φ (aw m id (.fG kt e (dd key .bad es))) {w with heap:=w.heap.setIfInBounds g (.map Rf sA)}:=by
    refine hM.write hm rfl hN.pl ⟨⟨rfl,rfl,rfl,by simp,fun k hk=>by simp[apK (Nat.ne_of_gt hk)]⟩,fun _=>aoa _⟩ (by simp) (fun k hk=>by simp[apK (Ne.symm hk)]) (yt.2 ⟨g,Rf,sA,ks,hN.pl,by simp[bF],ou,k1,fun i k' v' h=>?_,Ci,fun i k' v' e0 h WO=>?_⟩) rfl (by simp[bL.names]) (fun st h=>by cases h) fun a b hr=>?_
    ·rcases nf i k' v' h with⟨_,rfl,_⟩|⟨_,h⟩
     ·exact k2
     ·exact hN.key i k' v' h
    ·rcases nf i k' v' h with⟨rfl,rfl,rfl⟩|⟨hni,h⟩
     ·rw[aiD]at WO;simp only[tb]at WO;subst WO;exact⟨by rw[ame];exact hkr,.pure .bad⟩
     ·obtain⟨q1,q2⟩:=hN.rep i k' v' e0 h (Ax i e0 hni WO);refine⟨q1,?_⟩;unfold I3 at q2⊢;split at q2
      ·refine⟨q2.1.cv rfl (fun _ _ h=>h) fun g' cL=>?_,q2.2⟩;have hr:(bL.fG kt e es).rowAt i 0=true:=by rw[kL h];rfl
       have:=(hM.apart id _ hm i 0 g' hr cL).1;rw[hN.pl]at this;simp only[arn,tb]at this;simp[apK this]
      ·exact q2
    ·rcases kM hr with⟨_,_,_,_,_,_,jn,_⟩|⟨_,_,_,k',s',rs',jn,rfl,h'⟩
     ·cases jn
     ·simp only[bL.fG.injEq]at jn;obtain⟨rfl,rfl,rfl⟩:=jn;rcases nf a k' _ h' with⟨_,_,h⟩|⟨_,h⟩
      ·cases h
      ·rw[kL h];rfl
   have sn:=aA.adC y9 (id:=id) (id2:=id2) (i:=J) (x:=yv) bU (bD _ _ _) (by rw[av bU];exact cG) hJb (fun g0 en0 amg Rz hh0=>by
    rw[hN.pl]at Rz;simp only[tb]at Rz;subst Rz;have:(w.heap.setIfInBounds g (Obj.map Rf sA))[g]?=some (.map Rf sA):=by simp[bF]
    rw[this]at hh0;simp only[tb,Obj.map.injEq]at hh0;obtain⟨rfl,_⟩:=hh0;exact⟨eJ,aiD,amf⟩) hv
   rw[ZA hJb hJ,I8 bU]at sn;refine⟨_,_,hr,sn,?_⟩;have HF:cd E.P μ φ (aw m id (.fG kt e (dd key .bad es))) f ρ:=hF.oI (fun _ _ h=>h) .set;refine((HF.forget id2).zb id).aeY (by simp[lv]) (fun k hk=>by simp[hk]) fun k hk=>?_;show(aw (fE id (bq (bK id2 m) id2)) id _ k).isSome=true;by_cases e1:k=id
   ·subst e1;simp
   ·rw[av e1];rw[qX]at hk⊢;by_cases e2:k=id2
    ·subst e2;simp at hk
    ·rw[gE e2]at hk⊢;simp only[bK,av e1]at hk⊢;exact hk
  rcases LK r2 with⟨rfl,hp⟩|⟨j,e0,rfl,WO,hp⟩
  ·have WG:=Go.MapKept.run_setObj_map (P:=E.P) (.map (en.push {key:=yk,val:=yv,born:=clock}) (clock+1)) hN.heap;refine fin es.length _ _ (.inr ⟨hp,rfl⟩) (by simp only[Instr.mapUpdate,Sem.run_bind,run_underlying hu,Fv,h1,r1,Result.andThen_ok];exact WG) hN.born.push (by rw[oK,hp];simp[hN.size]) ⟨{key:=yk,val:=yv,born:=clock},?_,rfl,rfl⟩ fun i e0 hi h=>?_
   ·rw[←hN.size];simp
   ·rw[aqu]at h;split at h
    ·rename_i h';rw[hN.size]at h';exact absurd h' hi
    ·exact h
  ·have adD:en[j]?=some e0:=by simpa using WO
   obtain⟨a,u,haj,hpq⟩:=HW hp;obtain⟨hca,hva⟩:=nU (hN.key j a u haj) (hN.rep j a u e0 haj adD).1;have za:=M1 hc hca hpq;have hsb:Instr.sameBits 10000 e0.key yk=true:=by rw[hva,hkv,←za];refine AY (n:=9999) hc (fun ha=>?_);rw[tC hc];exact(Cn WE).2.1 ha
   have WG:=Go.MapKept.run_setObj_map (P:=E.P) (.map (en.modify j fun e=>{e with key:=yk,val:=yv}) clock) hN.heap;have tf:j<en.size:=(T0.1 adD).1;refine fin j _ _ (.inl hp) (by simp only[Instr.mapUpdate,Sem.run_bind,run_underlying hu,Fv,h1,r1,Result.andThen_ok];simp only[apa,adD,IS,aoD,Instr.keyThatStays,hsb,BY,Sem.run_pure,Result.andThen_ok];exact WG) (hN.born.modify (fun e=>{e with key:=yk,val:=yv}) (fun _=>rfl) _) (by rw[oK,hp];simp[hN.size]) ⟨{e0 with key:=yk,val:=yv},by rw[apD,No rfl,adD];rfl,rfl,rfl⟩ fun i e1 hi h=>?_;rw[apD,QU (Ne.symm hi)]at h;exact h
end
section
variable {P:Program} {G:Nat→Option (List PV)} {w0:bu} {μ μ':Ro} {φ φ':Nat→aH} {m m':Mem} {w w':World}
structure l9(P:Program)(μ:Ro)(rows:Nat→Nat→GS)(w:World)(s:Nat)(es:List PV)(xs:List Value):Prop where
 len:xs.length=es.length*s
 each:∀(i:Nat)e,es[i]?=some e→e.cells.length=s
 rep:∀(i:Nat)e(j:Nat)p x,es[i]?=some e→e.cells[j]?=some p→xs[i*s+j]?=some x→eA P μ (rows i j) w p x
 one:∀(i:Nat)(x:Value),xs[i]?=some x→x.oneCell'=true
variable{rows:Nat→Nat→GS}{es:List PV}{xs:List Value}
theorem l9.append{Ja ZB:Nat→Nat→GS}{s:Nat}{es':List PV}{xs':List Value}(h:l9 P μ rows w s es xs)(h':l9 P μ Ja w s es' xs')(h1:∀i j,i<es.length→ZB i j=rows i j)(h2:∀i j,es.length≤i→ZB i j=Ja (i-es.length) j):l9 P μ ZB w s (es++es') (xs++xs'):=by
 refine⟨by simp[h.len,h'.len,aoV],fun i e he=>?_,fun i e j p x he hp hx=>?_,fun i x hx=>?_⟩
 ·rw[aoG]at he;split at he
  ·exact h.each i e he
  ·exact h'.each _ e he
 ·rw[aoG]at he;split at he
  ·rename_i hi;rw[h1 i j hi];have hj:j<s:=by rw[←h.each i e he];grind
   rw[apn (by rw[h.len];exact IP hi hj)]at hx;exact h.rep i e j p x he hp hx
  ·rename_i hi;rw[h2 i j (by omega)];have e1:i*s+j=es.length*s+((i-es.length)*s+j):=by
    have:i=es.length+(i-es.length):=by omega
    grind
   rw[apj (by rw[h.len,e1];omega),h.len,show i*s+j-es.length*s=(i-es.length)*s+j by omega]at hx;exact h'.rep _ e j p x he hp hx
 ·rw[aoG]at hx;split at hx
  ·exact h.one i x hx
  ·exact h'.one _ x hx
theorem Cells.M9{s:Nat}(h:Cells P μ s es xs):l9 P μ rows w s es xs:=⟨h.len,h.each,fun i e j p x he hp hx=>.pure (h.rep i e j p x he hp hx),h.one⟩
theorem l9.cv{rows:Nat→Nat→GS}{s:Nat}{es:List PV}{xs:List Value}(h:l9 P μ rows w s es xs)(hw:∀i e j p g,es[i]?=some e→e.cells[j]?=some p→p.isRow=true→(rows i j).g=some g→w'.heap[g]?=w.heap[g]?):l9 P μ rows w' s es xs:=⟨h.len,h.each,fun i e j p x he hp hx=>(h.rep i e j p x he hp hx).cv (fun _ _ h=>h) fun hr g hg=>hw i e j p g he hp hr hg,h.one⟩
theorem bd.M9{id sz:Nat}{et:TypeId}(h:bd P μ φ w id sz et es){g:Nat}(hg:(φ id).g=some g):∃(c:Array Value)(T:TypeId),w.heap[g]?=some (.cells c T (0,0))∧(φ id).cap*sz≤c.size∧es.length≤(φ id).cap∧l9 P μ (φ id).row w sz es (c.toList.take (es.length*sz)):=by obtain⟨a1,a2,a3,a4,a5,a6,a7⟩:=h;rw[hg]at a7;obtain⟨c,T,c1,c2,c3,c4,c5⟩:=a7;have hle:es.length*sz≤c.size:=aov (an8 _ c3) c2;refine⟨c,T,c1,c2,c3,by simp;omega,a5,fun i e j p x he hp hx=>c4 i e j p x he hp (by grind),fun i x hx=>?_⟩;grind
theorem l9.nest{id g sz:Nat}{et T:TypeId}{c:Array Value}(hph:(φ id).toGS=⟨some g,(φ id).cap,es.length,sz⟩)(ou:sz=aS P et)(eY:0<sz)(tB:(φ id).cap≤maxLen)(hh:w.heap[g]?=some (.cells c T (0,0)))(hc:(φ id).cap*sz≤c.size)(hle:es.length≤(φ id).cap)(hC:l9 P μ (φ id).row w sz es (c.toList.take (es.length*sz))):bd P μ φ w id sz et es:=by
 have e1:(φ id).g=some g:=by rw[hph]
 refine⟨by rw[hph],by rw[hph],ou,eY,hC.each,tB,?_⟩;rw[e1];have tf:∀(i:Nat)e(j:Nat)p,es[i]?=some e→e.cells[j]?=some p→i*sz+j<es.length*sz:=fun i e j p hi hj=>IP (IN.1 hi).1 (by rw[←hC.each i e hi];grind);refine⟨c,T,hh,hc,hle,fun i e j p x hi hj hx=>?_,fun i x hi hx=>?_⟩
 ·exact hC.rep i e j p x hi hj (by grind)
 ·exact hC.one i x (by grind)
end
section
variable {R:Type} {E:Env}
def Uc(src:Option Nat)(m:Mem):Mem:=match src with|some id2=>bq (bK id2 m) id2|none=>m
def kfS(src:Option Nat)(f:Fr):Fr:=match src with|some id2=>eP id2 f|none=>f
variable{src:Option Nat}
theorem ZC{m:Mem}{j:Nat}{b:bL}(h:Uc src m j=some b):src≠some j∧∃b',m j=some b'∧b.rowAt=b'.rowAt:=by
 cases src with
 |none=>exact⟨by simp,b,h,rfl⟩
 |some id2=>obtain⟨h1,b',h2,rfl⟩:=fV h;grind [y7]
theorem WU{t e ty:TypeId}{x:V}{id s:Nat}{es new:List PV}{rd:bB}{m:Mem}(hu:E.P.underlying t=some (.slice e))(hm:m id=some (.nest s e es))(hs:s=aS E.P e)(hz:(cQ E e).isSome=true)(eY:0<aS E.P e)(hby:0<KD E.P e)(bw:(es++new).length*KD E.P e≤ab)(CK:(∃id2,src=some id2∧id2≠id∧x=.os id2∧m id2=some (.nest s e new))∨(src=none∧fN m s x=some (new,rd))){G:Nat→Option (List PV)}{w0:bu}{μ:Ro}{φ:Nat→aH}{w:World}{f:Fr}{ρ:Nat→Value}{ys yx:Value}(hM:aA E.P G w0 μ φ m w)(hF:cd E.P μ φ m f ρ)(ha:an E.P μ φ (.os id) ys)(hx:an E.P μ φ x yx):∃w' y φ',(Builtin.append_ #[t,t] ty #[ys,yx]).run E.P w=.ok y w'∧aA E.P G w0 μ φ' (aw (bq (bK id (Uc src m)) id) id (.nest s e (es++new))) w'∧cd E.P μ φ' (aw (bq (bK id (Uc src m)) id) id (.nest s e (es++new))) (eP id (kfS src f)) ρ∧an E.P μ φ' (.os id) y:=by
 obtain⟨zc,YG⟩:=aop.1 hz;obtain⟨i,zv,hi,hzv,his,_,T6,_,_,_⟩:=du YG;have hN:bd E.P μ φ w id s e es:=hM.dB id _ hm;have YH:(es++new).length=es.length+new.length:=by simp
 have wW:0<s:=by omega
 obtain⟨Ja,Fu⟩:∃Ja:Nat→Nat→GS,Ja=match src with|some id2=>(φ id2).row|none=>fun _ _=>default:=⟨_,rfl⟩
 obtain⟨os,hos,hC⟩:∃os,((ys=.slice none 0 0∧es.length=0∧os=[])∨∃(g cap:Nat)(c:Array Value)(T:TypeId),ys=.slice (some ⟨g,0,none⟩) es.length cap∧w.heap[g]?=some (.cells c T (0,0))∧cap*s≤c.size∧es.length≤cap∧cap≤maxLen∧os=c.toList.take (es.length*s))∧l9 E.P μ (φ id).row w s es os:=by
  cases ha with
  |vO hg=>have a7:=hN.2.2.2.2.2.2;rw[hg]at a7;rw[a7.1];exact⟨[],.inl ⟨rfl,rfl,rfl⟩,by simp,by simp,fun i e j p x he=>by simp at he,by simp⟩
  | @os _ g hg=>obtain⟨c,T,c1,c2,c3,c4⟩:=hN.M9 hg;exact⟨_,.inr ⟨g,(φ id).cap,c,T,by rw[hN.1],c1,c2,c3,hN.2.2.2.2.2.1,rfl⟩,c4⟩
 obtain⟨xs,IL,hCx⟩:∃xs,((yx=.slice none 0 0∧new.length=0∧xs=[])∨∃(a:Addr)(cx:Nat),yx=.slice (some a) new.length cx∧xs.length=new.length*s∧(∀(j:Nat)v,xs[j]?=some v→w.cell? (a.add j)=some v)∧(∀v∈xs,v.oneCell'=true)∧new.length≤cx∧cx≤maxLen)∧l9 E.P μ Ja w s new xs:=by
  rcases CK with⟨id2,rfl,bU,rfl,cG⟩|⟨rfl,G0⟩
  ·have hN2:bd E.P μ φ w id2 s e new:=hM.dB id2 _ cG;simp only at Fu;subst Fu;cases hx with
   |vO hg=>have a7:=hN2.2.2.2.2.2.2;rw[hg]at a7;rw[a7.1];exact⟨[],.inl ⟨rfl,rfl,rfl⟩,by simp,by simp,fun i e j p x he=>by simp at he,by simp⟩
   | @os _ g hg=>
    obtain⟨c,_,c1,c2,c3,c4⟩:=hN2.M9 hg;refine⟨_,.inr ⟨⟨g,0,none⟩,(φ id2).cap,by rw[hN2.1],c4.len,fun j v hj=>?_,fun v hv=>?_,c3,hN2.2.2.2.2.2.1⟩,c4⟩
    ·grind [Addr.add_mid,dt,iS]
    ·obtain⟨j,hj⟩:=aoU hv;exact c4.one j v hj
  ·obtain⟨_,_,hsr⟩:=qE G0;have:=hsr _ _ _ _ _ _ _ hM hx;cases this with
   |none hn=>subst hn;exact⟨[],.inl ⟨rfl,rfl,rfl⟩,by simp,by simp,fun i e j p x he=>by simp at he,by simp⟩
   | @some a cx xs hC IL hcx RD=>exact⟨xs,.inr ⟨a,cx,rfl,hC.len,IL,fun u hu=>by obtain⟨j,hj⟩:=aoU hu;exact hC.one j u hj,hcx,RD⟩,hC.M9⟩
 obtain⟨w',y,hr,IV⟩:=IQ (ty:=ty) hu hi hzv (by omega) hs eY hby (by simp_all) hos IL;let tg:Nat→Nat→GS:=fun a b=>if a<es.length then(φ id).row a b else Ja (a-es.length) b;have hCC:l9 E.P μ tg w s (es++new) (os++xs):=hC.append hCx (fun a b h=>by grind) (fun a b h=>by grind);have nb:∀a b g,(bL.nest s e (es++new)).rowAt a b=true→(tg a b).g=some g→(a<es.length∧(bL.nest s e es).rowAt a b=true∧((φ id).row a b).g=some g)∨(es.length≤a∧∃id2,src=some id2∧id2≠id∧m id2=some (.nest s e new)∧(bL.nest s e new).rowAt (a-es.length) b=true∧((φ id2).row (a-es.length) b).g=some g):=by
  intro a b g Ry hg;rcases kM Ry with⟨_,_,_,e',s',rs',jn,h',yp⟩|⟨_,_,_,_,_,_,jn,_⟩
  ·simp only[bL.nest.injEq]at jn;obtain⟨rfl,rfl,rfl⟩:=jn;by_cases bF:a<es.length
   ·rw[apn bF]at h';exact .inl ⟨bF,by rw[dE h' yp];rfl,by grind⟩
   ·rw[apj (by omega)]at h';simp only[tg,bF,OF]at hg;rcases CK with⟨id2,rfl,bU,rfl,cG⟩|⟨rfl,G0⟩
    ·simp only at Fu;subst Fu;exact .inr ⟨by omega,id2,rfl,bU,cG,by rw[dE h' yp];rfl,hg⟩
    ·exfalso;obtain⟨_,_,hsr⟩:=qE G0;have h3:=hsr _ _ _ _ _ _ _ hM hx;cases h3 with
     |none hn=>subst hn;simp at h'
     | @some a2 cx xs2 hC2 anO hcx RD=>
      have hj:(a-es.length)*s+b<xs2.length:=by rw[hC2.len];exact IP (IN.1 h').1 (by rw[←hC2.each _ _ h'];grind)
      exact absurd (hC2.rep _ _ _ _ _ h' yp (ta hj)).HU (by simp[PV.isRow])
  ·cases jn
 have afP:∀j,(bq (bK id (Uc src m)) id j).isSome=true→j≠id:=fun j hj e=>by subst e;simp at hj
 have bk:∀j b',bq (bK id (Uc src m)) id j=some b'→j≠id∧src≠some j∧∃b,m j=some b∧b'.rowAt=b.rowAt:=by intro j b' hj;obtain⟨h1,b1,h2,rfl⟩:=fV hj;grind [ZC,y7]
 have RU:∀{j b' b g},b'.rowAt=b.rowAt→bL.owns b' (φ j) g→bL.owns b (φ j) g:=fun h ho=>by simp_all[bL.owns]
 have hM0:aA E.P G w0 μ φ (Uc src m) w:=by
  cases src with
  |none=>exact hM
  |some id2=>exact hM.forget id2
 have hF0:cd E.P μ φ (Uc src m) (kfS src f) ρ:=by
  cases src with
  |none=>exact hF
  |some id2=>exact hF.forget id2
 have y9:=hM0.forget id;have HF:=hF0.forget id;have adE:∀a b g,(bL.nest s e (es++new)).rowAt a b=true→(tg a b).g=some g→w0.heap.size≤g∧μ g=none∧g<w.heap.size∧∀j b',bq (bK id (Uc src m)) id j=some b'→¬b'.owns (φ j) g:=by
  intro a b g Ry hg;rcases nb a b g Ry hg with⟨_,h2,h3⟩|⟨_,id2,rfl,bU,cG,h2,h3⟩
  ·obtain⟨o1,o2⟩:=hM.own id _ g hm (.inr ⟨a,b,h2,h3⟩);refine⟨o1,o2 rfl,(hM.dB id _ hm).HE (.inr ⟨a,b,h2,h3⟩),fun j b' hj ho=>?_⟩;obtain⟨k1,_,b2,k3,k4⟩:=bk j b' hj;exact k1 (hM.inj j id _ _ g k3 hm (RU k4 ho) (.inr ⟨a,b,h2,h3⟩))
  ·obtain⟨o1,o2⟩:=hM.own id2 _ g cG (.inr ⟨_,b,h2,h3⟩);refine⟨o1,o2 rfl,(hM.dB id2 _ cG).HE (.inr ⟨_,b,h2,h3⟩),fun j b' hj ho=>?_⟩;obtain⟨_,k1,b2,k3,k4⟩:=bk j b' hj;exact k1 (by rw[hM.inj j id2 _ _ g k3 cG (RU k4 ho) (.inr ⟨_,b,h2,h3⟩)])
 have aii:∀a b a' b' g,(bL.nest s e (es++new)).rowAt a b=true→(tg a b).g=some g→(bL.nest s e (es++new)).rowAt a' b'=true→(tg a' b').g=some g→a'=a∧b'=b:=by
  intro a b a' b' g h1 h2 h3 h4;rcases nb a b g h1 h2 with⟨u1,u2,u3⟩|⟨u1,i2,u0,une,um,u2,u3⟩<;>rcases nb a' b' g h3 h4 with⟨v1,v2,v3⟩|⟨v1,i3,v0,vne,vm,v2,v3⟩
  ·exact(hM.apart id _ hm a b g u2 u3).2 a' b' v2 v3
  ·exact absurd (hM.inj i3 id _ _ g vm hm (.inr ⟨_,_,v2,v3⟩) (.inr ⟨_,_,u2,u3⟩)) vne
  ·exact absurd (hM.inj i2 id _ _ g um hm (.inr ⟨_,_,u2,u3⟩) (.inr ⟨_,_,v2,v3⟩)) une
  ·rw[u0]at v0;simp only[tb]at v0;subst v0;obtain⟨h5,h6⟩:=(hM.apart i2 _ um (a-es.length) b g u2 u3).2 (a'-es.length) b' v2 v3;omega
 have fin:∀(q:aH)(w1:World),(∀g o,w0.hid g=some o→w1.heap[g]?=some o∧q.g≠some g)→q.row=tg→lh w0.heap.size w w1→(∀k o,μ k=some o→w1.heap[k]?=some o)→(∀j b' g,bq (bK id (Uc src m)) id j=some b'→b'.owns (φ j) g→w1.heap[g]?=w.heap[g]?)→(∀g,q.g=some g→w0.heap.size≤g∧μ g=none∧(∀j b',bq (bK id (Uc src m)) id j=some b'→¬b'.owns (φ j) g)∧∀a b,(bL.nest s e (es++new)).rowAt a b=true→(tg a b).g≠some g)→(bd E.P μ (fun k=>if k=id then q else φ k) w1 id s e (es++new))→aA E.P G w0 μ (fun k=>if k=id then q else φ k) (aw (bq (bK id (Uc src m)) id) id (.nest s e (es++new))) w1∧cd E.P μ (fun k=>if k=id then q else φ k) (aw (bq (bK id (Uc src m)) id) id (.nest s e (es++new))) (eP id (kfS src f)) ρ:=by
  intro q w1 hqh hq RB yN hold AQ kF;refine⟨y9.put (by simp) RB yN hold (fun g hg=>?_) (fun a b g Ry hg=>?_) kF (by simp[bL.names]) (fun st h=>by cases h) (fun g o h=>⟨(hqh g o h).1,fun hk=>(by
   rcases hk with hk|⟨a,b,Ry,hg⟩
   ·exact(hqh g o h).2 hk
   ·rw[hq]at hg;rcases nb a b g Ry hg with⟨_,h2,h3⟩|⟨_,id2,rfl,bU,cG,h2,h3⟩
    ·exact(hM.hid g o h).2.2.2 id _ hm (.inr ⟨a,b,h2,h3⟩)
    ·exact(hM.hid g o h).2.2.2 id2 _ cG (.inr ⟨_,b,h2,h3⟩))⟩),HF.mono (fun _ _ h=>h) fun j hj=>⟨by simp[afP j hj],by grind [av]⟩⟩
  ·rcases hg with hg|⟨a,b,Ry,hg⟩
   ·grind
   grind
  grind
 rcases IV with⟨rfl,rfl,h1,h2⟩|⟨g',HD,c',T',rfl,b1,b2,b3,b4,b5,b6⟩
 ·have h1:es=[]:=aof h1;have h2:new=[]:=aof h2;obtain⟨k1,k2⟩:=fin {g:=none,cap:=0,len:=0,sz:=s,row:=tg} w' (fun g o h=>⟨(hM.hid g o h).1,by simp⟩) rfl (lh.refl _ _) hM.ro (fun _ _ _ _ _=>rfl) (fun g hg=>by cases hg) ⟨by simp[h1,h2],by simp,hs,wW,by simp[h1,h2],by simp[maxLen],by simp[h1,h2]⟩;exact⟨w',_,_,hr,k1,k2,.vO (by simp)⟩
 ·have hq:∀(w1:World)(T:TypeId),w1.heap[g']?=some (.cells c' T (0,0))→l9 E.P μ tg w1 s (es++new) (os++xs)→bd E.P μ (fun k=>if k=id then({g:=some g',cap:=HD,len:=(es++new).length,sz:=s,row:=tg}:aH)else φ k) w1 id s e (es++new):=fun w1 T hh hC1=>l9.nest (g:=g') (c:=c') (by simp) hs wW (by simpa using b4) hh (by simpa using b2) (by simpa[YH]using b3) (by grind);have anE:an E.P μ (fun k=>if k=id then({g:=some g',cap:=HD,len:=(es++new).length,sz:=s,row:=tg}:aH)else φ k) (.os id) (.slice (some ⟨g',0,none⟩) (es.length+new.length) HD):=by have:=an.os (P:=E.P) (μ:=μ) (φ:=fun k=>if k=id then({g:=some g',cap:=HD,len:=(es++new).length,sz:=s,row:=tg}:aH)else φ k) (id:=id) (g:=g') (by simp);grind
  rcases b6 with⟨adA,hys,b6,b7⟩|⟨rfl,rfl⟩
  ·have cL:(φ id).g=some g':=by
    have key:∀z,an E.P μ φ (.os id) z→z=.slice (some ⟨g',0,none⟩) es.length adA→(φ id).g=some g':=by
     intro z hz he;cases hz with
     |vO _=>cases he
     |os hg=>grind
    exact key _ ha hys
   obtain⟨o1,o2⟩:=hM.own id _ g' hm (.inl cL);have IG:∀a b,(bL.nest s e (es++new)).rowAt a b=true→(tg a b).g≠some g':=by
    intro a b Ry hg;rcases nb a b g' Ry hg with⟨u1,u2,u3⟩|⟨u1,i2,u0,une,um,u2,u3⟩
    ·exact(hM.apart id _ hm a b g' u2 u3).1 cL
    ·exact une (hM.inj i2 id _ _ g' um hm (.inr ⟨_,_,u2,u3⟩) (.inl cL))
   have Ax:∀j b',bq (bK id (Uc src m)) id j=some b'→¬b'.owns (φ j) g':=fun j b' hj ho=>by obtain⟨k1,_,b2,k3,k4⟩:=bk j b' hj;exact k1 (hM.inj j id _ _ g' k3 hm (RU k4 ho) (.inl cL))
   obtain⟨k1,k2⟩:=fin {g:=some g',cap:=HD,len:=(es++new).length,sz:=s,row:=tg} w' (fun g o h=>(by
    have bU:g≠g':=fun e=>by subst e;exact(hM.hid g o h).2.2.2 id _ hm (.inl cL)
    exact⟨(b7 g bU).trans (hM.hid g o h).1,fun e=>by cases e;exact bU rfl⟩)) rfl (b6.mono o1) (fun k o hk=>by rw[b7 k (fun e=>by subst e;rw[o2 rfl]at hk;cases hk)];exact hM.ro k o hk)
    (fun j b' g hj ho=>b7 g fun e=>by grind) (fun g hg=>by simp only[tb]at hg;subst hg;exact⟨o1,o2 rfl,Ax,IG⟩)
    (hq w' _ b1 (hCC.cv fun a e1 b p1 g he hp Ry hg=>b7 g fun e=>by grind [dE]))
   grind
  ·have hold:∀k,k<w.heap.size→(w.drew.alloc (.cells c' e)).heap[k]?=w.heap[k]?:=fun k hk=>lh.heap_alloc w.drew _ k hk;obtain⟨k1,k2⟩:=fin {g:=some w.heap.size,cap:=HD,len:=(es++new).length,sz:=s,row:=tg} (w.drew.alloc (.cells c' e)) (fun g o h=>(by
    obtain⟨h1,_⟩:=hM.hid g o h;have bF:=(T0.1 h1).1;exact⟨by rw[hold g bF];exact h1,fun e=>by cases e;omega⟩)) rfl ((lh.refl _ w).drew.alloc hM.below.size _) (fun k o hk=>by have:=hM.ro k o hk;grind)
    (fun j b' g hj ho=>hold g ((y9.dB j b' hj).HE ho)) (fun g hg=>by
     simp only[tb]at hg;subst hg;refine⟨hM.below.size,?_,fun j b' hj ho=>?_,fun a b Ry hg=>?_⟩
     ·cases hq:μ w.heap.size with
      |none=>rfl
      |some o'=>have:=hM.ro _ _ hq;simp at this
     ·have:=(y9.dB j b' hj).HE ho;omega
     grind)
    (hq _ _ b1 (hCC.cv fun a e1 b p1 g he hp Ry hg=>hold g (adE a b g (by rw[dE he hp];omega) hg).2.2.1))
   grind
theorem Jb{m:Mem}:∀{cs:List V}{j0:Nat}{ps:List PV},mn m j0 cs=some (ps,none)→∀m2:Mem,mn m2 j0 cs=some (ps,none)
 |[],j0,ps,h,m2=>h
 |v::r,j0,ps,h,m2=>by
  unfold mn at h;split at h
  ·rename_i heq;cases heq
  ·grind
  ·rename_i j v' r' bU heq;simp only[ao6]at heq;obtain⟨rfl,rfl⟩:=heq;unfold mn;split
   ·rename_i heq;cases heq
   ·simp_all
   ·rename_i j v' r' bU heq;simp only[ao6]at heq;obtain⟨rfl,rfl⟩:=heq;split at h
    ·rename_i p hp;split at h
     ·rename_i ps' t ht;simp only[tb,afu]at h;obtain⟨rfl,rfl⟩:=h;rw[Jb ht m2]
     ·cases h
    omega
theorem A0{m m2:Mem}{j id2:Nat}(hm:m2 id2=m id2):∀{cs:List V}{j0:Nat}{ps:List PV},mn m j0 cs=some (ps,some (j,id2))→mn m2 j0 cs=some (ps,some (j,id2))
 |[],j0,ps,h=>by simp[mn]at h
 |v::r,j0,ps,h=>by
  unfold mn at h;split at h
  ·rename_i heq;cases heq
  ·rename_i j id r' heq;simp only[ao6]at heq;obtain⟨rfl,rfl⟩:=heq;split at h
   ·rename_i s et es hmm;split at h
    ·rename_i ps' ht;simp only[tb,afu]at h;obtain⟨rfl,rfl,rfl⟩:=h;grind [mn,Jb]
    ·cases h
   ·cases h
  ·rename_i j v' r' bU heq;simp only[ao6]at heq;obtain⟨rfl,rfl⟩:=heq;unfold mn;split
   ·rename_i heq;cases heq
   ·simp_all
   ·rename_i j v' r' bU heq;simp only[ao6]at heq;obtain⟨rfl,rfl⟩:=heq;split at h
    ·rename_i p hp;split at h
     ·rename_i ps' t ht;simp only[tb,afu]at h;obtain⟨rfl,rfl⟩:=h;rw[A0 hm ht]
     ·cases h
    omega
theorem RV{site:Nat}{o:Oper}{f f2:Fr}{m m2:Mem}{sp:Sp}(h:Dj E site o f m=some sp)(hf:∀x∈o.op.operands,bJ E f2 x=bJ E f x)(hm:∀x∈(sp.info site).2,m2 x.2=m x.2):Dj E site o f2 m2=some sp:=by
 obtain⟨dst,op,type,pos,after,guard⟩:=o;unfold Dj at h⊢;cases op;case store t a x=>
  simp only at h⊢;rw[hf a (by simp[Op.operands]),hf x (by simp[Op.operands])];split at h
  ·rename_i id i off ha;split at h
   ·rename_i s et es hmm;split at h
    ·rename_i cs hc;split at h
     ·rename_i ps j id2 ht;split at h
      ·rename_i l7;simp only[tb]at h;subst h;have h1:m2 id=m id:=hm (true,id) (by simp[Sp.info]);have h2:m2 id2=m id2:=hm (true,id2) (by simp[Sp.info]);simp only[ha,h1,hmm,hc,A0 h2 ht,l7,BY]
      ·cases h
     ·cases h
    ·cases h
   ·cases h
  omega
 case buildSlice t len parts=>
  simp only at h⊢;have WS:(parts.toList.map fun(x:Nat×Operand)=>(x.1,bJ E f2 x.2))=parts.toList.map fun(x:Nat×Operand)=>(x.1,bJ E f x.2):=aoB fun x hx=>by rw[hf x.2 (by simp only[Op.operands,ap5,aoi];exact⟨x,hx,rfl⟩)]
  rw[WS];split at h
  ·rename_i e v hu hp;split at h
   ·rename_i cs hc;split at h
    ·rename_i ps j id2 ht hs;split at h
     ·rename_i p Pa;split at h
      ·rename_i l7;simp only[tb]at h;subst h;have h1:m2 site=m site:=hm (true,site) (by simp[Sp.info]);have h2:m2 id2=m id2:=hm (true,id2) (by simp[Sp.info]);simp only[hu,hp,hc,A0 h2 ht,h1,hs,Pa,l7,BY]
      ·cases h
     ·cases h
    ·cases h
   ·cases h
  omega
 case call c=>
  obtain⟨callee,args,argTypes⟩:=c;simp only at h⊢;have uA:args.toList.map (bJ E f2)=args.toList.map (bJ E f):=aoB fun x hx=>hf x (by simp_all[Op.operands,Call.operands]);rw[uA];split at h
  ·rename_i id x t t' ha hty;split at h
   ·rename_i e s et es hu hmm;split at h
    ·rename_i l7;have plain:∀{new:List PV}{rd:bB},fN m s x=some (new,rd)→x.has id=false→sp=.app id s et es new none rd→fN m2 s x=some (new,rd):=by grind [qE,Sp.info]
     split at h
     ·rename_i vM;split at h
      ·rename_i s' Kz new hm';split at h
       ·rename_i TW;simp only[tb]at h;subst h;have h1:m2 id=m id:=hm (true,id) (by simp[Sp.info]);simp_all[Sp.info,BY]
       ·cases h
      ·rename_i hnn;split at h
       ·rename_i new rd G0;split at h
        ·cases h
        ·rename_i hxh;simp only[tb]at h;have ZD:=plain G0 (by simpa using hxh) h.symm;subst h;have h1:m2 id=m id:=hm (true,id) (by simp[Sp.info]);simp only[ha,hty,hu,h1,hmm,l7,BY,ZD];split
         ·rename_i s' Kz anP cG;exfalso;simp only[fN,cG]at ZD;cases ZD
         ·rw[QU hxh]
       ·cases h
     ·rename_i anQ;split at h
      ·rename_i new rd G0;split at h
       ·cases h
       ·rename_i hxh;simp only[tb]at h;have ZD:=plain G0 (by simpa using hxh) h.symm;subst h;have h1:m2 id=m id:=hm (true,id) (by simp[Sp.info]);simp only[ha,hty,hu,h1,hmm,l7,BY,ZD];try rw[QU hxh]
      ·cases h
    ·cases h
   ·cases h
  ·cases h
 case mapUpdate t x key v=>
  simp only at h⊢;rw[hf x (by simp[Op.operands]),hf key (by simp[Op.operands]),hf v (by simp[Op.operands])];split at h
  ·rename_i kt et id id2 hu hx hv;split at h
   ·rename_i AG e es s e' rs kp h1 h2 hk;split at h
    ·rename_i l7;simp only[tb]at h;subst h;have h3:m2 id=m id:=hm (true,id) (by simp[Sp.info]);have h4:m2 id2=m id2:=hm (true,id2) (by simp[Sp.info]);simp only[hu,hx,hv,h3,h4,h1,h2,hk,l7,BY]
    ·cases h
   ·cases h
  ·cases h
 all_goals (cases h)
end
end Go.Ab
