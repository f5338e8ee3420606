import Derived.Test.YtmbihgjlollbeaaGreatAbP4
import Derived.RangeFuncRecord
import Derived.Laws.IdiomRangeMap
set_option linter.all false
namespace Go.Ab
section
variable {P:Program} {G:Nat→Option (List PV)} {w0:bO} {μ:Ro} {φ:Nat→aP} {m:Mem} {w:World}
theorem aL.amE(hM:aL P G w0 μ φ m w){g:Nat}(hB:w0.heap.size≤g)(arJ:∀id b,m id=some b→¬b.owns (φ id) g):aL P G w0 (uK μ w (some g)) φ m w:=by
 have mono:=oH hM (some g);refine⟨hM.below,fun b o hb=>?_,fun g' cs hg=>(hM.aW g' cs hg).mono mono,fun j c hj=>(hM.dW j c hj).cF (fun _ _=>rfl) rfl mono (fun _ _=>rfl),fun j c g' hj dr=>?_,hM.inj,hM.apart,hM.gy,fun b o hb cd=>?_,fun b o hb=>mono b o (hM.dX b o hb),hM.Jb⟩
 ·unfold uK at hb;split at hb
  ·omega
  ·exact hM.ro b o hb
 ·obtain⟨h1,h2⟩:=hM.own j c g' hj dr;grind [uK,Option.some.injEq,absurd]
 ·unfold uK at hb;split at hb
  ·grind
  ·exact hM.base b o hb cd
theorem T6(w:World)(g:Nat)(o:Obj):nC g w (w.putObj g o):=⟨⟨rfl,rfl,rfl,by simp,fun k hk=>World.putObj_heap_other (by omega)⟩,fun _=>aso _⟩
theorem GS{A:Type}(f:A→Nat):∀{l:List A}{i:Nat}{e:A},l[i]?=some e→(∀(j:Nat)x,l[j]?=some x→f x=f e→j=i)→l.filter (fun x=> !(f x==f e))=l.eraseIdx i
 |[],i,e,h,_=>by rfl
 |y::l,0,e,h,inj=>by simp only[asF,cO]at h;subst h;simp only[List.filter_cons,BEq.rfl,aiI,cQ,IS,List.eraseIdx_cons_zero];rw[avk];intro x hx;obtain⟨j,hj⟩:=ast.1 hx;simp only[asI,at2];intro e;have:=inj (j+1) x (by simpa using hj) e;omega
 |y::l,i+1,e,h,inj=>by
  have h':l[i]?=some e:=by simpa using h
  have cU:¬f y=f e:=fun e'=>by have:=inj 0 y rfl e';omega
  have hb:(f y==f e)=false:=by simpa using cU
  simp only[List.filter_cons,hb,asr,BY,List.eraseIdx_cons_succ];rw[GS f h' (fun j x hj e'=>by have:=inj (j+1) x (by simpa using hj) e';omega)]
theorem Oc(en:Array MapEntry):nO en #[]=en.toList:=by simp[nO,avk]
variable{en:Array MapEntry}{clock:Nat}{seen:Array Nat}{e:MapEntry}
theorem K2(hb:oG en clock){i:Nat}(hi:(nO en seen)[i]?=some e):nO en (seen.push e.born)=(nO en seen).eraseIdx i:=by
 have h1:nO en (seen.push e.born)=(nO en seen).filter (fun x=> !(x.born==e.born)):=by unfold nO;rw[List.filter_filter];grind
 rw[h1];refine GS (fun x=>x.born) hi fun j x hj e'=>?_;have hnd:(nO en seen).Pairwise fun a b=>a.born≠b.born:=by
  unfold nO;refine List.Pairwise.filter _ ?_;rw[atC];intro a b ha lf Ak he;have h2:en[a]?=some en.toList[a]:=by simp
  have h3:en[b]?=some en.toList[b]:=by simp
  have:=(hb b _ h3).2 a _ h2 he;omega
 have ze:j<(nO en seen).length:=(Qs.1 hj).1;have QD:i<(nO en seen).length:=(Qs.1 hi).1;grind [List.getElem?_eq_getElem,Option.some.injEq,List.pairwise_iff_getElem,Nat.lt_trichotomy,absurd]
theorem ZV(h:e∈nO en seen):∃i:Nat,en[i]?=some e:=by unfold nO at h;have:=(auv.1 h).1;obtain⟨i,hi⟩:=ast.1 this;grind
theorem ZW{w:World}{g mg:Nat}(hg:w.heap[g]?=some (.mapIter (some mg) clock seen clock))(hm:w.heap[mg]?=some (.map en clock))(hb:oG en clock)(ty:TypeId):(nO en seen=[]∧(Instr.next (.pointer (some ⟨g,0,none⟩)) false ty).run P w=.ok (.tuple #[.bool false]) w)∨∃(j:Nat)(e:MapEntry)(w1:World),(nO en seen)[j]?=some e∧(w1=w∨w1=w.drew)∧(Instr.next (.pointer (some ⟨g,0,none⟩)) false ty).run P w=.ok (.tuple #[.bool true,e.key,e.val]) (w1.putObj g (.mapIter (some mg) clock (seen.push e.born) clock)):=by
 have hold:∀x∈en.toList,x.born<clock:=fun x hx=>by obtain⟨i,hi⟩:=ast.1 hx;exact(hb i x (by simp_all)).1
 simp only[Instr.next,getObj,Sem.run_bind,Sem.run,hg,hm,Result.andThen,next_test_false seen en clock clock hold (aso _),cQ,IS];have hL:(Array.filter (fun e=> !seen.contains e.born) en).toList=nO en seen:=by simp[nO]
 have bB:∀x∈(Array.filter (fun e=> !seen.contains e.born) en).toList,x.born<clock:=fun x hx=>hold x (by grind);generalize Array.filter (fun e=> !seen.contains e.born) en=L at bB hL⊢;have e1:L.filter (fun x=>decide (x.born<clock))=L:=Array.filter_eq_self.2 (fun x hx=>by grind);have e2:L.filter (fun x=>decide (x.born≥clock))= #[]:=by simp_all
 simp only[e1,e2,Array.append_empty];rw[←hL];by_cases h0:L.size=0
 ·left;have:L= #[]:=aug h0;subst this;refine⟨rfl,?_⟩;simp[choose,Sem.run,Question.forced]
 ·right;have cU:L.isEmpty=false:=by simp[Array.isEmpty,h0]
  simp only[cU,cQ,IS,Array.empty_append,Array.size_map];have hch:∃(j:Nat)(w1:World),j<L.size∧(w1=w∨w1=w.drew)∧(choose (Question.mapNext L.size)).run P w=.ok j w1:=by
   by_cases hf:L.size≤1
   ·exact⟨0,w,by omega,.inl rfl,by simp[choose,Sem.run,Question.forced,hf]⟩
   ·exact⟨_,w.drew,avb _ (by omega),.inr rfl,by simp only[choose,Sem.run,Question.forced,cT,hf,IS,Question.cut];rfl⟩
  obtain⟨j,w1,hj,N6,y7⟩:=hch;refine⟨j,L[j],w1,by simp,N6,?_⟩;have hg1:w1.heap[g]?=some (.mapIter (some mg) clock seen clock):=by rcases N6 with rfl|rfl<;>exact hg
  have rU:(setObj g (.mapIter (some mg) clock (seen.push L[j].born) clock)).run P w1=.ok () (w1.putObj g (.mapIter (some mg) clock (seen.push L[j].born) clock)):=by simp only[setObj,Sem.run,hg1];rfl
  simp_all
theorem T7{w:World}{g mg:Nat}{i:Nat}(hg:w.heap[g]?=some (.mapIter (some mg) clock seen clock))(hm:w.heap[mg]?=some (.map en clock))(hb:oG en clock)(hi:en[i]?=some e)(hs:seen.back? =some e.born):(Instr.entry (.pointer (some ⟨g,0,none⟩))).run P w=.ok (.tuple #[e.key,e.val]) w:=by
 have hf:en.find? (·.born==e.born)=some e:=by
  rw[←Array.find?_toList];refine find_born e en.toList ?_ (by grind);rw[List.Nodup,List.pairwise_map,atC];intro a b ha lf Ak he;have h2:en[a]?=some en.toList[a]:=by simp
  have h3:en[b]?=some en.toList[b]:=by simp
  have:=(hb b _ h3).2 a _ h2 he;omega
 simp only[Instr.entry,getObj,Sem.run_bind,Sem.run,hg,hm,Result.andThen,hs,aub,cQ,IS,hf];rfl
end
section
variable {R:Type} {E:Env}
variable{g:Nat→Option R}{r:R}
theorem T8{n:Nat}(h:yt n g=some r)(i:Nat)(hi:i<n):g i=some r:=by
 unfold yt at h;split at h
 ·grind
 ·cases h
theorem K3{n:Nat}(h0:0<n)(h:∀i,i<n→g i=some r):yt n g=some r:=by unfold yt;have hh:∃r,∀i,i<n→g i=some r:=⟨r,h⟩;rw[avt hh];grind
variable{k:V→Fr→Mem→Option R}
theorem ZX{site:Nat}{t:TypeId}{x:V}{f:Fr}{m:Mem}(h:TN E site t x f m k=some r):∃f' m',k (.it site) f' m'=some r∧(m' site).isSome=true∧∀(G:Nat→Option (List PV))(w0:bO)(μ:Ro)(φ:Nat→aP)(w:World)(ρ:Nat→Value)(y:Value),aL E.P G w0 μ φ m w→cp E.P μ φ m f ρ→au E.P μ φ x y→∃w' y' μ' φ',(Instr.range t y).run E.P w=.ok y' w'∧aL E.P G w0 μ' φ' m' w'∧cp E.P μ' φ' m' f' ρ∧au E.P μ' φ' (.it site) y':=by
 unfold TN at h;split at h
 ·rename_i kt et hu;split at h
  ·rename_i id;split at h
   ·rename_i Ct es hm;split at h
    ·obtain⟨f',m',hn,sD,Cw,E7,Ca⟩:=eL h;refine⟨f',m',sD,by simp[Cw],fun G w0 μ φ w ρ y hM hF hx=>?_⟩;obtain⟨g,en,clock,kk,hg,hh,hs,B1,Wc,Cu,hv⟩:=hM.dW id _ hm;obtain⟨o1,o2⟩:=hM.own id _ g hm (.inl hg);cases hx with
     |om dr=>
      rw[hg]at dr;simp only[cO]at dr;subst dr;have A2:=hM.forget id;have hM2:=A2.amE o1 (fun j b hj e=>by obtain⟨cU,b',lf,rfl⟩:=gj hj;exact cU (hM.inj j id b' _ g lf hm (gZ.1 e) (.inl hg)));have GU:=oH A2 (some g);have JU:cp E.P (uK μ w (some g)) φ (bF (bR id m) id) (fC id f) ρ:=(hF.forget id).mono GU fun j hj=>⟨rfl,hj⟩;have nB:∀φ':Nat→aP,φ' site=(JR (some w.heap.size) 0 0 0)→(∀j,(bW.iter t es none).names j=true→φ' j=φ j)→iH E.P (uK μ w (some g)) φ' (w.alloc (.mapIter (some g) clock #[] clock)) site (.iter t es none):=fun φ' hp _=>by
       refine⟨w.heap.size,g,en,clock,#[],by rw[hp],gn w _,by simp[uK,hh],Cu,(by rw[Oc,auz,hs]),fun i k v e h1 h2=>?_,fun k v h=>by cases h⟩;have h2':en[i]?=some e:=by simp_all[asP,Oc]
       exact⟨(hv i k v e h1 h2').1.mono GU,(hv i k v e h1 h2').2.mono GU⟩
      obtain⟨φ',a1,a2,a3⟩:=Ca E.P G w0 _ φ w (w.alloc (.mapIter (some g) clock #[] clock)) ρ (JR (some w.heap.size) 0 0 0) hM2 JU (ny.alloc (o:=.mapIter (some g) clock #[] clock) hM2 rfl nB (by simp[bW.names]));exact⟨_,_,_,φ',run_range_map w t kt et g en clock hu hh,a2,a3,.it (by rw[a1])⟩
    ·cases h
   ·cases h
  ·cases h
 ·cases h
theorem acd{x:V}{f:Fr}{m:Mem}(h:abO E x f m k=some r)(G:Nat→Option (List PV))(w0:bO)(μ:Ro)(φ:Nat→aP)(w:World)(y:Value)(ty:TypeId)(hM:aL E.P G w0 μ φ m w)(hx:au E.P μ φ x y):∃v m' y' w',k v f m'=some r∧(∀id,v.has id=false)∧mf m m'∧(Instr.next y false ty).run E.P w=.ok y' w'∧aL E.P G w0 μ φ m' w'∧au E.P μ φ v y':=by
 unfold abO at h;split at h
 ·rename_i id;split at h
  ·rename_i t es cur hm;split at h
   ·rename_i kt et hu;obtain⟨g,mg,en,clock,seen,hg,hh,QA,Cu,JS,hv,_⟩:=hM.dW id _ hm;obtain⟨o1,o2⟩:=hM.own id _ g hm (.inl hg);cases hx with
    |it dr=>
     rw[hg]at dr;simp only[cO]at dr;subst dr;have hmg:=hM.ro _ _ QA;rcases ZW (P:=E.P) hh hmg Cu ty with⟨aiX,y7⟩|⟨j,e,w1,hj,Nl,y7⟩
     ·have:es=[]:=by grind
      subst this;simp only[List.isEmpty_nil,BY]at h;refine⟨_,m,_,w,h,by simp[V.has,cA],mf.refl m,y7,hM,.aG rfl fun i p x hp hx=>?_⟩;cases i with
      |zero=>simp at hp hx;subst hp;subst hx;exact .pv .bool
      |succ i=>simp at hp
     ·have ze:j<(nO en seen).length:=(Qs.1 hj).1;have cU:¬es.isEmpty=true:=by grind
      rw[IT cU]at h;have h:=T8 h j (by omega);obtain⟨e0,he0,h⟩:=By.1 h;obtain⟨qa,_,ha,ra,_⟩:=nZ h;obtain⟨qb,_,hb,rb,_⟩:=nZ ha;obtain⟨rk,rv⟩:=hv j e0.1 e0.2 e he0 hj;refine⟨_,_,_,_,hb,by simp[V.has,cA],.set,y7,?_,.aG rfl fun i p x hp hx=>?_⟩
      ·have A2:aL E.P G w0 μ φ m w1:=by rcases Nl with rfl|rfl;exact hM;exact hM.drew
       have cd:g<w1.heap.size:=by have:g<w.heap.size:=(are.1 hh).1;rcases Nl with rfl|rfl<;>exact this
       refine A2.write hm rfl hg (T6 w1 g _) World.putObj_size (fun k hk=>World.putObj_heap_other hk) ?_ rfl (by simp[bW.names]);refine⟨g,mg,en,clock,seen.push e.born,hg,World.putObj_heap_same cd,QA,Cu,?_,fun i k v e' h1 h2=>?_,fun k v hc=>?_⟩
       ·rw[K2 Cu hj,avd,avd,JS]
       ·rw[K2 Cu hj]at h2;grind
       ·simp only[cO,apa]at hc;obtain⟨rfl,rfl⟩:=hc;obtain⟨i,hi⟩:=ZV (asb hj);grind
      ·match i with
       |0=>simp at hp hx;subst hp;subst hx;exact .pv .bool
       |1=>simp at hp hx;subst hp;subst hx;exact .pv (ra _ _ _ rk)
       |2=>simp at hp hx;subst hp;subst hx;exact .pv (rb _ _ _ rv)
       |i+3=>simp at hp
   ·cases h
  ·cases h
 ·cases h
theorem ZY{x:V}{m:Mem}{k:V→Mem→Option R}(h:TO x m k=some r)(P:Program)(G:Nat→Option (List PV))(w0:bO)(μ:Ro)(φ:Nat→aP)(w:World)(y:Value)(hM:aL P G w0 μ φ m w)(hx:au P μ φ x y):∃v m' y',k v m'=some r∧(∀id,v.has id=false)∧mf m m'∧(Instr.entry y).run P w=.ok y' w∧aL P G w0 μ φ m' w∧au P μ φ v y':=by
 unfold TO at h;split at h
 ·rename_i id;split at h
  ·rename_i t es a b hm;obtain⟨g,mg,en,clock,seen,hg,hh,QA,Cu,JS,hv,hcu⟩:=hM.dW id _ hm;obtain⟨i,e,hi,hs,ra,rb⟩:=hcu a b rfl;cases hx with
   |it dr=>
    rw[hg]at dr;simp only[cO]at dr;subst dr;refine⟨_,_,_,h,by simp[V.has,cA],.set,T7 hh (hM.ro _ _ QA) Cu hi hs,?_,.aG rfl fun i p x hp hx=>?_⟩
    ·exact hM.write hm rfl hg (nC.refl _ _) rfl (fun _ _=>rfl) ⟨g,mg,en,clock,seen,hg,hh,QA,Cu,JS,hv,fun k v h=>by cases h⟩ rfl (by simp[bW.names])
    match i with
    |0=>simp at hp hx;subst hp;subst hx;exact .pv ra
    |1=>simp at hp hx;subst hp;subst hx;exact .pv rb
    |i+2=>simp at hp
  ·cases h
 ·cases h
end
section
variable {P:Program} {G:Nat→Option (List PV)} {w0:bO} {μ μ':Ro} {φ φ':Nat→aP} {m m':Mem} {w w':World}
variable{id j:Nat}{b:bW}
theorem j1(h:fM id m j=some b):∃b',m j=some b'∧b=eh id b':=by unfold fM at h;grind
theorem sE:(fM id m j).isSome=(m j).isSome:=by unfold fM;cases m j<;>rfl
theorem Jm(id:Nat)(b:bW):(eh id b).rowAt=b.rowAt:=by cases b<;>rfl
theorem wm{p:aP}{g:Nat}:(eh id b).owns p g↔b.owns p g:=by unfold bW.owns;rw[Jm]
theorem CL{p:aP}:(eh id b).apart p↔b.apart p:=by unfold bW.apart;rw[Jm]
theorem FJ(id:Nat)(b:bW):(eh id b).lK=b.lK:=by cases b<;>rfl
theorem T9{cs:List V}(h:cA j (cs.map (rQ id))=true):cA j cs=true:=by obtain⟨v,hv,hh⟩:=cV.1 h;obtain⟨u,hu,rfl⟩:=asx.1 hv;exact bZ hu (Em hh).1
theorem iH.E0{id j:Nat}{b:bW}(h:iH P μ φ w j b):iH P μ φ w j (eh id b):=by
 cases b with
 |box cs=>obtain⟨g,c,T,hg,hh,hs,hv,h1,JS⟩:=h;refine⟨g,c,T,hg,hh,by simpa using hs,fun i v x hi hx=>?_,h1,by simpa using JS⟩;simp only[AT,asa]at hi;obtain⟨u,hu,rfl⟩:=hi;exact(hv i u x hu hx).E0 id
 |_=>exact h
theorem aL.A4(hM:aL P G w0 μ φ m w)(id:Nat):aL P G w0 μ φ (fM id m) w:=by
 refine⟨hM.below,hM.ro,hM.aW,fun j b h=>?_,fun j b g h hg=>?_,fun i j b1 b2 g h1 h2 g1 g2=>?_,fun j b h=>?_,fun j cs i h hh=>?_,hM.base,hM.dX,fun j st h=>?_⟩
 ·obtain⟨b',hb,rfl⟩:=j1 h;exact(hM.dW j b' hb).E0
 ·obtain⟨b',hb,rfl⟩:=j1 h;rw[FJ];exact hM.own j b' g hb (wm.1 hg)
 ·obtain⟨b1',ZK,rfl⟩:=j1 h1;obtain⟨b2',yj,rfl⟩:=j1 h2;exact hM.inj i j b1' b2' g ZK yj (wm.1 g1) (wm.1 g2)
 ·obtain⟨b',hb,rfl⟩:=j1 h;exact CL.2 (hM.apart j b' hb)
 ·obtain⟨b',hb,e⟩:=j1 h;cases b' with
  |box TV=>simp only[eh,bW.box.injEq]at e;subst e;rw[sE];exact hM.gy j TV i hb (T9 hh)
  |_=>simp[eh]at e
 ·obtain⟨b',hb,e⟩:=j1 h;cases b' with
  |loop st'=>simp only[eh,bW.loop.injEq]at e;subst e;exact hM.Jb j st hb
  |_=>simp[eh]at e
variable{ρ:Nat→Value}
theorem cp.A4{f:Fr}(h:cp P μ φ m f ρ)(id:Nat):cp P μ φ (fM id m) (jC id f) ρ:=⟨fun t=>(h.fr t).E0 id,fun t j hj=>by rw[sE];exact h.live t j (Em hj).1⟩
theorem aL.km:∀{kl:Kl}{m:Mem},aL P G w0 μ φ m w→aL P G w0 μ φ (Go.Ab.km kl m) w
 |[],_,h=>h
 |(true,id)::r,m,h=>(aL.km (kl:=r) (m:=bF (bR id m) id) (h.forget id):)
 |(false,id)::r,m,h=>(aL.km (kl:=r) (m:=fM id m) (h.A4 id):)
theorem cp.km{ρ:Nat→Value}:∀{kl:Kl}{m:Mem}{f:Fr},cp P μ φ m f ρ→cp P μ φ (Go.Ab.km kl m) (kf kl f) ρ
 |[],_,_,h=>h
 |(true,id)::r,m,f,h=>(cp.km (kl:=r) (m:=bF (bR id m) id) (f:=fC id f) (h.forget id):)
 |(false,id)::r,m,f,h=>(cp.km (kl:=r) (m:=fM id m) (f:=jC id f) (h.A4 id):)
theorem aL.Wn(hM:aL P G w0 μ φ m w)(nw:Nat→Nat→Nat)(hblk:∀j b',m' j=some b'→iH P μ φ' w j b')(FH:∀j b' g,m' j=some b'→b'.owns (φ' j) g→∃k b,m k=some b∧b.owns (φ k) g∧(b'.lK=true→b.lK=true)∧j=nw g k)(Nj:∀j b',m' j=some b'→b'.apart (φ' j))(Ja:∀j cs id,m' j=some (.box cs)→cA id cs=true→(m' id).isSome=true)(apM:∀j st,m' j=some (.loop st)→m j=some (.loop st)∧(φ' j).g=(φ j).g):aL P G w0 μ φ' m' w:=by
 refine⟨hM.below,hM.ro,hM.aW,hblk,fun j b' g h hg=>?_,fun i j b1 b2 g h1 h2 g1 g2=>?_,Nj,Ja,hM.base,hM.dX,fun j st h=>?_⟩
 ·obtain⟨k,b,hk,ho,QA,_⟩:=FH j b' g h hg;obtain⟨o1,o2⟩:=hM.own k b g hk ho;simp_all
 ·obtain⟨k1,c1,ZZ,ho1,_,e1⟩:=FH i b1 g h1 g1;obtain⟨k2,c2,Ua,ho2,_,e2⟩:=FH j b2 g h2 g2;rw[e1,e2,hM.inj k1 k2 c1 c2 g ZZ Ua ho1 ho2]
 ·obtain⟨h1,h2⟩:=apM j st h;obtain⟨g,rc,r1,r2,r3⟩:=hM.Jb j st h1;simp_all
def mP(p:aP)(i off:Nat)(r:Jc):aP:={p with row:=fun a b=>if a=i∧b=off then r else p.row a b}
theorem il(p:aP)(i off:Nat)(r:Jc):(mP p i off r).row i off=r:=by simp[mP]
theorem iI(p:aP){i off a b:Nat}(r:Jc)(h:¬(a=i∧b=off)):(mP p i off r).row a b=p.row a b:=by simp[mP,h]
theorem iH.Wo(h:iH P μ φ w j (eh id b))(hj:j≠id)(h0:(φ' id).toJc=(φ id).toJc)(hφ:∀k,k≠id→φ' k=φ k):iH P μ φ' w j (eh id b):=by
 have e:=hφ j hj;cases b with
 |box cs=>
  obtain⟨g,c,T,hg,hh,hs,hv,h1,JS⟩:=h;refine⟨g,c,T,by rw[e];omega,hh,hs,fun i v x hi hx=>?_,h1,by rw[e];omega⟩;refine(hv i v x hi hx).ah2 (fun _ _ h=>h) fun k hk=>?_;by_cases hki:k=id
  ·subst hki;refine⟨h0,fun h2=>?_⟩;simp only[AT,asa]at hi;obtain⟨u,hu,rfl⟩:=hi;rw[(Em hk).2]at h2;cases h2
  simp_all
 |arr sz et es=>exact iH.cF h (fun k hk=>by simp[bW.names,eh]at hk) e (fun _ _ h=>h) (fun _ _=>rfl)
 |vF sz et es=>exact iH.cF h (fun k hk=>by simp[bW.names,eh]at hk) e (fun _ _ h=>h) (fun _ _=>rfl)
 |map kt es=>exact iH.cF h (fun k hk=>by simp[bW.names,eh]at hk) e (fun _ _ h=>h) (fun _ _=>rfl)
 |nest sz et es=>exact iH.cF h (fun k hk=>by simp[bW.names,eh]at hk) e (fun _ _ h=>h) (fun _ _=>rfl)
 |fS kt e0 es=>exact iH.cF h (fun k hk=>by simp[bW.names,eh]at hk) e (fun _ _ h=>h) (fun _ _=>rfl)
 |loop st=>exact iH.cF h (fun k hk=>by simp[bW.names,eh]at hk) e (fun _ _ h=>h) (fun _ _=>rfl)
 |iter t es cur=>exact iH.cF h (fun k hk=>by simp[bW.names,eh]at hk) e (fun _ _ h=>h) (fun _ _=>rfl)
theorem cp.ah7{f:Fr}(h:cp P μ φ m (jC id f) ρ)(h0:(φ' id).toJc=(φ id).toJc)(hφ:∀k,k≠id→φ' k=φ k)(hl:∀j,(m j).isSome=true→(m' j).isSome=true):cp P μ φ' m' (jC id f) ρ:=by
 refine⟨fun t=>(h.fr t).ah2 (fun _ _ h=>h) fun k hk=>?_,fun t j hj=>hl j (h.live t j hj)⟩;by_cases hki:k=id
 ·subst hki;refine⟨h0,fun h2=>?_⟩;have:=(Em (show(rQ k (f t)).has k=true from hk)).2;rw[show jC k f t=rQ k (f t)from rfl,this]at h2;cases h2
 simp_all
theorem gk{id2:Nat}{b':bW}(h:aD (fM id (bF (bR id2 m) id2)) id b j=some b'):(j=id∧b'=b)∨(j≠id∧j≠id2∧∃c,m j=some c∧b'=eh id (ij id2 c)):=by
 by_cases e:j=id
 ·simp_all
 ·rw[aF e]at h;obtain⟨c1,h1,rfl⟩:=j1 h;obtain⟨cU,c,hc,rfl⟩:=gj h1;simp_all
theorem Ub{x:Value}(h:au P μ φ (.os id) x):au P μ (fun _=>((φ id).toJc).up) (.os 0) x:=by
 cases h with
 |yg h=>exact .yg h
 |os h=>exact .os (id:=0) (φ:=fun _=>((φ id).toJc).up) h
theorem aX.up{sz:Nat}{et:TypeId}{es:List PV}(h:aX P μ φ w id sz et es):aX P μ (fun _=>((φ id).toJc).up) w 0 sz et es:=h
theorem aL.aiY(hM:aL P G w0 μ φ m w){id2 i off s s2:Nat}{et Rl:TypeId}{es rs:List PV}{e q:PV}{x:Value}(cU:id2≠id)(hm:m id=some (.nest s et es))(cZ:m id2=some (.arr s2 Rl rs))(he:es[i]?=some e)(GR:e.cells[off]?=some .bad)(hx:∀g c T,(φ id).g=some g→w.heap[g]?=some (.cells c T (0,0))→c[i*s+off]?=some x)(hv:au P μ φ (.os id2) x)(hq:q.cells=e.cells.set off (.uS s2 rs)):aL P G w0 μ (fun j=>if j=id then mP (φ id) i off (φ id2).toJc else φ j) (aD (fM id (bF (bR id2 m) id2)) id (.nest s et (es.set i q))) w:=by
 have A2:=(hM.forget id2).A4 id;have hN:bu P μ φ w id s et es:=hM.dW id _ hm;have hA2:aX P μ φ w id2 s2 Rl rs:=hM.dW id2 _ cZ;have QD:i<es.length:=(Qs.1 he).1;have hol:off<e.cells.length:=(Qs.1 GR).1;have py:∀a b,(bW.nest s et (es.set i q)).rowAt a b=true→(a=i∧b=off)∨((bW.nest s et es).rowAt a b=true∧¬(a=i∧b=off)):=by
  intro a b hr;by_cases Ak:a=i∧b=off
  ·exact .inl Ak
  ·refine .inr ⟨?_,Ak⟩;rcases me hr with⟨_,_,_,e',s',rs',lf,h',Ai⟩|⟨_,_,_,_,_,_,lf,_⟩
   ·simp only[bW.nest.injEq]at lf;obtain⟨rfl,rfl,rfl⟩:=lf;rcases fD h' with⟨rfl,rfl⟩|⟨hni,h'⟩
    ·rw[hq]at Ai;rcases fD Ai with⟨rfl,_⟩|⟨hnj,Ai⟩
     ·exact absurd ⟨rfl,rfl⟩ Ak
     ·rw[dR he Ai];rfl
    ·rw[dR h' Ai];rfl
   ·cases lf
 refine hM.Wn (fun _ k=>if k=id2 then id else k) (fun j b' hj=>?_) (fun j b' g hj ho=>?_) (fun j b' hj=>?_) (fun j cs k hj hk=>?_) (fun j st hj=>?_)
 ·rcases gk hj with⟨rfl,rfl⟩|⟨h1,h2,c,hc,rfl⟩
  ·show bu P μ (fun k=>if k=j then mP (φ j) i off (φ id2).toJc else φ k) w j s et (es.set i q);refine bu.change (μ':=μ) (w':=w) (es':=es.set i q) hN (by simp) (fun i' e' h'=>?_) (by simp[mP]) (fun _ _=>rfl) (fun i' e' j' p' g c T x' h' Ai hg hc Pq hold=>?_)
   ·rcases fD h' with⟨_,rfl⟩|⟨_,h'⟩
    ·rw[hq,atT];exact hN.2.2.2.2.1 i e he
    ·exact hN.2.2.2.2.1 i' e' h'
   ·simp only[BY];by_cases Ak:i'=i∧j'=off
    ·obtain⟨rfl,rfl⟩:=Ak;rw[il];have e1:e'=q:=by
      rcases fD h' with⟨_,h⟩|⟨h,_⟩
      ·exact h
      ·exact absurd rfl h
     subst e1;rw[hq]at Ai;have e2:p'=.uS s2 rs:=by
      rcases fD Ai with⟨_,h⟩|⟨h,_⟩
      ·exact h
      ·exact absurd rfl h
     subst e2;have e3:x'=x:=by have:=hx g c _ hg hc;rw[Pq]at this;simpa using this
     subst e3;exact⟨⟨Rl,hA2.up⟩,Ub hv⟩
    ·rw[iI _ _ Ak];rcases fD h' with⟨rfl,rfl⟩|⟨hni,h'⟩
     ·rw[hq]at Ai;rcases fD Ai with⟨rfl,_⟩|⟨hnj,Ai⟩
      ·exact absurd ⟨rfl,rfl⟩ Ak
      ·exact hold e p' he Ai
     ·exact hold e' p' h' Ai
  ·have hb:iH P μ φ w j (eh id (ij id2 c)):=(hM.dW j c hc).kill.E0;exact hb.Wo h1 (by simp[mP]) fun k hk=>by simp[hk]
 ·rcases gk hj with⟨rfl,rfl⟩|⟨h1,h2,c,hc,rfl⟩
  ·simp only[BY]at ho;rcases ho with ho|⟨a,b,hr,ho⟩
   ·exact⟨j,_,hm,.inl ho,fun _=>rfl,by simp[cU.symm]⟩
   ·rcases py a b hr with⟨rfl,rfl⟩|⟨Cv,Ak⟩
    ·rw[il]at ho;exact⟨id2,_,cZ,.inl ho,fun _=>rfl,by simp⟩
    ·rw[iI _ _ Ak]at ho;exact⟨j,_,hm,.inr ⟨a,b,Cv,ho⟩,fun _=>rfl,by simp[cU.symm]⟩
  ·simp only[h1,IS]at ho;exact⟨j,c,hc,gZ.1 (wm.1 ho),fun h=>by rw[FJ,Es]at h;exact h,by simp[h2]⟩
 ·rcases gk hj with⟨rfl,rfl⟩|⟨h1,h2,c,hc,rfl⟩
  ·simp only[BY];have Nj:=hM.apart j _ hm;have new:∀g,(φ id2).g=some g→¬(bW.nest s et es).owns (φ j) g:=fun g hg ho=>cU (hM.inj id2 j _ _ g cZ hm (.inl hg) ho);intro a b g hr hg;rcases py a b hr with⟨rfl,rfl⟩|⟨Cv,Ak⟩
   ·rw[il]at hg;refine⟨fun h=>new g hg (.inl h),fun a' b' Uc Pw=>?_⟩;rcases py a' b' Uc with h|⟨hr3,Ud⟩
    ·exact h
    ·rw[iI _ _ Ud]at Pw;exact absurd (.inr ⟨a',b',hr3,Pw⟩) (new g hg)
   ·rw[iI _ _ Ak]at hg;obtain⟨h3,h4⟩:=Nj a b g Cv hg;refine⟨h3,fun a' b' Uc Pw=>?_⟩;rcases py a' b' Uc with⟨rfl,rfl⟩|⟨hr3,Ud⟩
    ·rw[il]at Pw;exact absurd (.inr ⟨a,b,Cv,hg⟩) (new g Pw)
    ·rw[iI _ _ Ud]at Pw;exact h4 a' b' hr3 Pw
  ·simp only[h1,IS];exact CL.2 (A1.2 (hM.apart j c hc))
 ·rcases gk hj with⟨rfl,hb⟩|⟨h1,h2,c,hc,hb⟩
  ·cases hb
  ·have TF:fM id (bF (bR id2 m) id2) j=some (.box cs):=by rw[aF h1]at hj;exact hj
   have:=A2.gy j cs k TF hk;by_cases e:k=id
   ·subst e;simp
   ·rw[aF e];exact this
 ·rcases gk hj with⟨rfl,hb⟩|⟨h1,h2,c,hc,hb⟩
  ·cases hb
  ·cases c<;>first|(simp[eh,ij]at hb;done)|skip
   simp only[eh,ij,bW.loop.injEq]at hb;subst hb;exact⟨hc,by simp[h1]⟩
end
def pz(k:PV):List (PV×PV)→Option Nat
 |[]=>none
 |(a,_)::r=>if cz k.cells a.cells then some 0 else(pz k r).map (·+1)
def lL(es:List (PV×PV)):List (PV×PV):=es.map fun x=>(x.1,.bad)
theorem K4(k:PV):∀es,pz k (lL es)=pz k es
 |[]=>rfl
 |(a,u)::r=>by simp only[lL,asn,pz];rw[←K4 k r];rfl
theorem Kc{k:PV}:∀{es:List (PV×PV)}{j:Nat},pz k es=some j→∃a u,es[j]?=some (a,u)∧cz k.cells a.cells=true
 |(a,u)::r,j,h=>by
  simp only[pz]at h;split at h
  ·rename_i hp;simp only[cO]at h;subst h;simp_all
  ·obtain⟨i,hi,rfl⟩:=asa.1 h;simpa using Kc hi
theorem pP(k v:PV):∀es,dI k v es=match pz k es with|some j=>es.set j (k,v)|none=>es++[(k,v)]
 |[]=>rfl
 |(a,u)::r=>by
  simp only[dI,pz];split
  ·rfl
  ·rw[pP k v r];cases pz k r<;>rfl
theorem Al(k:PV):∀es,zX k es=match pz k es with|some j=>es.modify j fun x=>(x.1,.bad)|none=>es
 |[]=>rfl
 |(a,u)::r=>by
  simp only[zX,pz];split
  ·rfl
  ·rw[Al k r];cases pz k r<;>simp
theorem Rm(sz:Nat)(k:PV):∀es,QS sz k es=match pz k es with|some j=>(es[j]?).bind fun x=>fT sz x.2|none=>some []
 |[]=>rfl
 |(a,u)::r=>by
  simp only[QS,pz];split
  ·simp
  ·rw[Rm sz k r];cases pz k r<;>simp
theorem Od{k z:PV}{l:List (PV×PV)}{es:List MapEntry}{i:Nat}{r:Option (Nat×Value)}(h:Found k .vO z (lL l) es i r):(r=none∧pz k l=none)∨∃j e,r=some (i+j,e.val)∧es[j]?=some e∧pz k l=some j:=by
 cases h with
 |none h1 h2 h3=>
  refine .inl ⟨rfl,?_⟩;rw[pP]at h3;rw[←K4];cases hp:pz k (lL l)with
  |none=>rfl
  |some j=>rw[hp]at h3;have:=congrArg List.length h3;simp at this
 | @some j a u e h1 h2 h3 h4 h5 h6=>
  refine .inr ⟨j,e,rfl,h2,?_⟩;rw[pP]at h6;rw[←K4];have cd:j<(lL l).length:=(Qs.1 h1).1;cases hp:pz k (lL l)with
  |none=>rw[hp]at h6;have:=congrArg List.length h6;simp at this
  |some j'=>
   rw[hp]at h6;simp only at h6;obtain⟨a',u',TF,_⟩:=Kc hp;have apN:j'<(lL l).length:=(Qs.1 TF).1;have e1:((lL l).set j (k,.vO))[j']?=some (k,.vO):=by rw[←h6];simp[apN]
   grind [lL,Option.map_eq_some_iff]
section
variable {P:Program} {G:Nat→Option (List PV)} {w0:bO} {μ μ':Ro} {φ φ':Nat→aP} {m m':Mem} {w w':World}
def K5(P:Program)(μ:Ro)(R:Jc)(w:World)(e0:TypeId)(v:PV)(x:Value):Prop:=match v with
 |.uS s rs=>aX P μ (fun _=>R.up) w 0 s e0 rs∧au P μ (fun _=>R.up) (.os 0) x
 |v=>av P μ v x
variable{e0:TypeId}
theorem K5.pure{R:Jc}{v:PV}{x:Value}(h:av P μ v x):K5 P μ R w e0 v x:=by
 unfold K5;split
 ·cases h
 omega
structure Ue(P:Program)(μ:Ro)(p:aP)(w:World)(kt e0:TypeId)(es:List (PV×PV))(g:Nat)(en:Array MapEntry)(clock:Nat)(kk:List Kd):Prop where
 pl:p.g=some g
 heap:w.heap[g]?=some (.map en clock)
 size:en.size=es.length
 HP:yq P kt=some kk
 key:∀(i:Nat)k v,es[i]?=some (k,v)→BV P kt kk k=true
 born:oG en clock
 rep:∀(i:Nat)k v e,es[i]?=some (k,v)→en[i]?=some e→av P μ k e.key∧K5 P μ (p.row i 0) w e0 v e.val
variable{kt:TypeId}{es:List (PV×PV)}
theorem Am{id:Nat}:iH P μ φ w id (.fS kt e0 es)↔∃g en clock kk,Ue P μ (φ id) w kt e0 es g en clock kk:=by
 constructor
 ·rintro⟨g,en,clock,kk,h1,h2,h3,h4,h5,h6,h7⟩;exact⟨g,en,clock,kk,h1,h2,h3,h4,h5,h6,fun i k v e a b=>h7 i k v e a b⟩
 ·rintro⟨g,en,clock,kk,h1,h2,h3,h4,h5,h6,h7⟩;exact⟨g,en,clock,kk,h1,h2,h3,h4,h5,h6,fun i k v e a b=>h7 i k v e a b⟩
variable{en:Array MapEntry}
theorem Ue.ent{p:aP}{g:Nat}{clock:Nat}{kk:List Kd}(h:Ue P μ p w kt e0 es g en clock kk):CJ P μ kt kk (lL es) en.toList:=by
 refine⟨by simp[lL,h.size],fun i k v hi=>?_,fun i k v e hi he=>?_⟩
 ·simp only[lL,AT,asa]at hi;obtain⟨⟨a,u⟩,hq,hx⟩:=hi;simp only[apa]at hx;obtain⟨rfl,rfl⟩:=hx;exact h.key i a u hq
 ·simp only[lL,AT,asa]at hi;obtain⟨⟨a,u⟩,hq,hx⟩:=hi;simp only[apa]at hx;obtain⟨rfl,rfl⟩:=hx;exact⟨(h.rep i a u e hq (by simpa using he)).1,.bad⟩
theorem K6{t et:TypeId}{ks:List Kd}{key:PV}{zv yi:Value}{g clock:Nat}{l:List (PV×PV)}(hu:P.underlying t=some (.map kt et))(hk:yq P kt=some ks)(Cb:BV P kt ks key=true)(hyi:av P μ key yi)(hg:w.heap[g]?=some (.map en clock))(hE:CJ P μ kt ks (lL l) en.toList)(hz:(zeroValue et).run P w=.ok zv w):(pz key l=none∧(Instr.lookup t (.map (some g)) yi false).run P w=.ok zv w)∨∃j e,pz key l=some j∧en[j]?=some e∧(Instr.lookup t (.map (some g)) yi false).run P w=.ok e.val w:=by
 have ZR:=Ev hk;obtain⟨hc,hv⟩:=pn Cb hyi;obtain⟨r,r1,r2⟩:=ob (v:=.vO) (z:=.bad) ZR hc w hE;have h1:=jI 8 kt ks ZR 9992 w en.isEmpty key.cells hc;have Ni:=Go.MapKept.run_getObj_map (P:=P) hg;have h1':(Instr.checkKey en.isEmpty 10000 kt (fo P kt key.cells)).run P w=.ok () w:=h1;rw[hv];unfold Instr.lookup;simp only[Sem.run_bind,run_underlying hu,Result.andThen_ok,Sem.run_pure,Ni];rcases Od r2 with⟨rfl,h⟩|⟨j,e,rfl,he,h⟩
 ·simp_all
 simp_all
end
section
variable {R:Type} {E:Env}
theorem Uf{t:TypeId}(h:zeroV E.P t=some .jB)(w:World):(zeroValue t).run E.P w=.ok (.slice none 0 0) w:=by unfold zeroV at h;obtain⟨c,hc,h⟩:=asa.1 h;obtain⟨i,hi,hz⟩:=By.1 hc;have:=Ad (P:=E.P) (μ:=fun _=>none) (φ:=fun _=>default) c;rw[h]at this;cases this;exact sC hi hz
theorem ace{site:Nat}{t:TypeId}{x ix:V}{m:Mem}{k:V→Mem→bN→Option R}{r:R}(h:QW E site t x ix m k=some r):∃id b1 b2 m',m'=zV [(id,b1),(site,b2)] m∧k (.os site) m' [(true,id),(true,site)]=some r∧m site=none∧b2.names=(fun _=>false)∧b1.names=(fun _=>false)∧(m id).isSome=true∧(∀m2:Mem,m2 id=m id→m2 site=none→∀(R':Type)(k':V→Mem→bN→Option R'),QW E site t x ix m2 k'=k' (.os site) (zV [(id,b1),(site,b2)] m2) [(true,id),(true,site)])∧∀(G:Nat→Option (List PV))(w0:bO)(μ:Ro)(φ:Nat→aP)(w:World)(f:Fr)(ρ:Nat→Value)(y yi:Value),aL E.P G w0 μ φ m w→cp E.P μ φ m f ρ→au E.P μ φ x y→au E.P μ φ ix yi→∃u φ',(Instr.lookup t y yi false).run E.P w=.ok u w∧aL E.P G w0 μ φ' m' w∧cp E.P μ φ' m' f ρ∧au E.P μ φ' (.os site) u:=by
 unfold QW at h;split at h
 ·rename_i kt et hu;split at h
  ·rename_i e hue;split at h
   ·rename_i id hz;split at h
    ·rename_i Ct e' es hm hs;split at h
     ·rename_i hc;obtain⟨rfl,rfl,eR⟩:=hc;obtain⟨key,Cb,h⟩:=By.1 h;obtain⟨rs,hrs,h⟩:=By.1 h;obtain⟨ks,k1,k2,k3⟩:=Aj Cb;have cU:site≠id:=fun e=>by simp_all
      refine⟨id,.fS Ct e' (zX key es),.arr (bj E.P e') e' rs,_,rfl,h,hs,rfl,rfl,by rw[hm];rfl,fun m2 h1 h2 R' k'=>?_,fun G w0 μ φ w f ρ y yi hM hF hx hi=>?_⟩
      ·simp only[QW,hu,hue,hz,h1,h2,hm,Cb,hrs,asl,eR,auU,BY];rfl
      ·obtain⟨g,en,clock,kk,hN⟩:=Am.1 (hM.dW id _ hm);have B1:=hN.HP;rw[k1]at B1;simp only[cO]at B1;subst B1;cases hx with
       |om dr=>
        rw[hN.pl]at dr;simp only[cO]at dr;subst dr;have Oe:=K6 hu k1 k2 (k3 μ φ yi hi) hN.heap hN.ent (Uf hz w);have Ug:∀i off,(bW.fS Ct e' (zX key es)).rowAt i off=true→(bW.fS Ct e' es).rowAt i off=true∧pz key es≠some i:=by
         intro i off hr;rcases me hr with⟨_,_,_,_,_,_,hb,_⟩|⟨_,_,_,k0,s0,rs0,hb,rfl,he⟩
         ·cases hb
         ·simp only[bW.fS.injEq]at hb;obtain⟨rfl,rfl,rfl⟩:=hb;rw[Al]at he;cases hp:pz key es with
          |none=>rw[hp]at he;simp only at he;exact⟨by rw[mc he];rfl,by simp⟩
          |some j=>
           rw[hp]at he;simp only[aup]at he;split at he
           ·simp_all
           ·rename_i hji;have he:es[i]?=some (k0,PV.uS s0 rs0):=by simpa using he
            exact⟨by rw[mc he];rfl,fun h=>hji (by simpa using h)⟩
        have A2:aL E.P G w0 μ φ (aD m id (.fS Ct e' (zX key es))) w:=by
         refine hM.write hm rfl hN.pl (nC.refl _ _) rfl (fun _ _=>rfl) (Am.2 ⟨g,en,clock,ks,hN.pl,hN.heap,?_,k1,fun i k0 v0 h0=>?_,hN.born,fun i k0 v0 e0 h0 he0=>?_⟩) rfl (by simp[bW.names]) (fun st h=>by cases h) (fun i off hr=>(Ug i off hr).1)
         ·rw[hN.size,Al];grind
         ·rw[Al]at h0;cases hp:pz key es with
          |none=>rw[hp]at h0;exact hN.key i k0 v0 h0
          |some j=>
           rw[hp]at h0;simp only[aup]at h0;obtain⟨x0,ZO,hq⟩:=asa.1 h0;obtain⟨xa,xu⟩:=x0;split at hq
           ·simp only[apa]at hq;rw[←hq.1];exact hN.key i xa xu ZO
           ·simp only[id_eq,apa]at hq;rw[←hq.1];exact hN.key i xa xu ZO
         ·rw[Al]at h0;cases hp:pz key es with
          |none=>rw[hp]at h0;exact hN.rep i k0 v0 e0 h0 he0
          |some j=>
           rw[hp]at h0;simp only[aup]at h0;obtain⟨x0,ZO,hq⟩:=asa.1 h0;obtain⟨xa,xu⟩:=x0;obtain⟨q1,q2⟩:=hN.rep i xa xu e0 ZO he0;split at hq
           ·simp only[apa]at hq;obtain⟨rfl,rfl⟩:=hq;exact⟨q1,.pure .bad⟩
           simp_all
        have amF:∀(ph:aP)(u:Value),aX E.P μ (fun _=>ph) w 0 (bj E.P e') e' rs→au E.P μ (fun _=>ph) (.os 0) u→(∀g',ph.g=some g'→∃j,pz key es=some j∧(bW.fS Ct e' es).rowAt j 0=true∧((φ id).row j 0).g=some g')→∃φ',aL E.P G w0 μ φ' (zV [(id,.fS Ct e' (zX key es)),(site,.arr (bj E.P e') e' rs)] m) w∧cp E.P μ φ' (zV [(id,.fS Ct e' (zX key es)),(site,.arr (bj E.P e') e' rs)] m) f ρ∧au E.P μ φ' (.os site) u:=by
         intro ph u hA hV Ni;have Re:∀j,(m j).isSome=true→j≠site:=fun j hj e=>by simp_all
         refine⟨fun i=>if i=site then ph else φ i,?_,?_,?_⟩
         ·refine A2.put (by rw[aF cU];omega) (nC.refl _ _) hM.ro (fun _ _ _ _ _=>rfl) (fun g' dr=>?_) (wb vG) ?_ (by simp[bW.names]) (fun st h=>by cases h)
          ·have dr:=sB vG dr;obtain⟨j,hj,hr,hjg⟩:=Ni g' dr;obtain⟨o1,o2⟩:=hM.own id _ g' hm (.inr ⟨j,0,hr,hjg⟩);refine⟨o1,o2 rfl,fun i b' hi ho=>?_⟩;by_cases hii:i=id
           ·subst hii;rw[cj]at hi;simp only[cO]at hi;subst hi;obtain⟨a1,a2⟩:=hM.apart i _ hm j 0 g' hr hjg;rcases ho with ho|⟨i',AW,Cv,ho⟩
            ·exact a1 ho
            grind
           ·rw[aF hii]at hi;exact hii (hM.inj i id _ _ g' hi hm ho (.inr ⟨j,0,hr,hjg⟩))
          ·exact aX.move (φ':=fun i=>if i=site then ph else φ i) (j:=site) hA (by simp) (fun _ _ h=>h)
         ·refine hF.mono (fun _ _ h=>h) fun j hj=>⟨by simp[Re j hj],?_⟩;show(aD (aD m id _) site _ j).isSome=true;rw[aF (Re j hj)];by_cases hji:j=id
          ·subst hji;simp
          ·rw[aF hji];omega
         ·cases hV with
          |yg h=>exact .yg (by simpa using h)
          | @os _ g0 h=>have:=au.os (P:=E.P) (μ:=μ) (φ:=fun i=>if i=site then ph else φ i) (id:=site) (g:=g0) (by simpa using h);simpa using this
        rw[Rm]at hrs;rcases Oe with⟨hp,y7⟩|⟨j,en0,hp,hen,y7⟩
        ·rw[hp]at hrs;simp only[cO]at hrs;subst hrs;obtain⟨φ',a1,a2,a3⟩:=amF (JR none 0 0 (bj E.P e')) (.slice none 0 0) ⟨rfl,rfl,rfl,eR,by simp,by simp[maxLen],⟨rfl,rfl⟩⟩ (.yg rfl) (fun g' dr=>by cases dr);grind
        ·rw[hp]at hrs;obtain⟨x0,ZO,py⟩:=By.1 hrs;obtain⟨xa,xu⟩:=x0;have hxu:=Ra py;simp only at hxu;subst hxu;obtain⟨_,q2⟩:=hN.rep j xa _ en0 ZO hen;obtain⟨φ',a1,a2,a3⟩:=amF ((φ id).row j 0).up en0.val q2.1 q2.2 (fun g' dr=>⟨j,hp,by rw[mc ZO];rfl,dr⟩);grind
     ·cases h
    ·cases h
   ·cases h
  ·cases h
 ·cases h
end
theorem K7{m:Mem}:∀{cs:List V}{j0:Nat}{ps:List PV}{tk:Option (Nat×Nat)},nN m j0 cs=some (ps,tk)→ps.length=cs.length∧(tk=none→∀(i:Nat)p,ps[i]?=some p→∃v,cs[i]?=some v∧nu dn 1 v=some p)∧∀j id2,tk=some (j,id2)→∃l s2 Rl rs,cs[l]?=some (.os id2)∧m id2=some (.arr s2 Rl rs)∧ps[l]?=some (.uS s2 rs)∧∀(i:Nat)p,i≠l→ps[i]?=some p→∃v,cs[i]?=some v∧nu dn 1 v=some p
 |[],j0,ps,tk,h=>by simp only[nN,cO,apa]at h;grind
 |v::r,j0,ps,tk,h=>by
  have plain:∀{p:PV},nu dn 1 v=some p→(match nN m (j0+1) r with
   |some (ps,t)=>some (p::ps,t)
   |none=>none)=some (ps,tk)→ps.length=(v::r).length∧
   (tk=none→∀(i:Nat)p,ps[i]?=some p→∃u,(v::r)[i]?=some u∧nu dn 1 u=some p)∧
   ∀j id2,tk=some (j,id2)→∃l s2 Rl rs,(v::r)[l]?=some (.os id2)∧m id2=some (.arr s2 Rl rs)∧ps[l]?=some (.uS s2 rs)∧∀(i:Nat)p,i≠l→ps[i]?=some p→∃u,(v::r)[i]?=some u∧nu dn 1 u=some p:=by
   intro p hp h
   split at h
   ·rename_i ps' t ht;simp only[cO,apa]at h;obtain⟨rfl,rfl⟩:=h;obtain⟨h1,h2,h3⟩:=K7 ht;refine⟨by simp[h1],fun hn i q hq=>?_,fun j id2 hj=>?_⟩
    ·grind
    ·obtain⟨l,s2,Rl,rs,a1,a2,a3,a4⟩:=h3 j id2 hj;refine⟨l+1,s2,Rl,rs,by simpa using a1,a2,by simpa using a3,fun i q hi hq=>?_⟩;grind
   ·cases h
  unfold nN at h;split at h
  ·rename_i heq;cases heq
  ·rename_i j id r' heq;simp only[atk]at heq;obtain⟨rfl,rfl⟩:=heq;split at h
   ·rename_i s et es hm;split at h
    ·rename_i ps' ht;simp only[cO,apa]at h;obtain⟨rfl,rfl⟩:=h;obtain⟨h1,h2,_⟩:=K7 ht;refine⟨by simp[h1],fun hn=>(nomatch hn),fun j id2 hj=>?_⟩;simp only[cO,apa]at hj;obtain⟨rfl,rfl⟩:=hj;refine⟨0,s,et,es,rfl,hm,rfl,fun i q hi hq=>?_⟩;grind
    ·cases h
   ·cases h
  grind
section
variable {P:Program} {G:Nat→Option (List PV)} {w0:bO} {μ μ':Ro} {φ φ':Nat→aP} {m m':Mem} {w w':World}
theorem K8{v:V}{n j id2:Nat}{cs:List V}{ps:List PV}(hc:toCells n v=some cs)(h:nN m 0 cs=some (ps,some (j,id2))):∃l s2 Rl rs,m id2=some (.arr s2 Rl rs)∧ps[l]?=some (.uS s2 rs)∧ps.length=n∧v.has id2=true∧∀(P:Program)(μ:Ro)(φ:Nat→aP)(x:Value),au P μ φ v x→x.cells.size=n∧(∀(i:Nat)(y:Value),x.cells[i]?=some y→y.oneCell'=true)∧(∀(i:Nat)p y,i≠l→ps[i]?=some p→x.cells[i]?=some y→av P μ p y)∧∃y,x.cells[l]?=some y∧au P μ φ (.os id2) y:=by
 obtain⟨t1,_,t3⟩:=K7 h;obtain⟨l,s2,Rl,rs,a1,a2,a3,a4⟩:=t3 j id2 rfl;obtain⟨n1,n2,n3⟩:=toCells_ok hc;refine⟨l,s2,Rl,rs,a2,a3,by omega,n2 id2 (bZ (asb a1) (by simp[V.has])),fun P μ φ x hx=>?_⟩;obtain⟨x1,x2,x3⟩:=n3 P μ φ x hx;refine⟨x1,x3,fun i p y hi hp hy=>?_,?_⟩
 ·grind [Ag]
 ·have hl:l<x.cells.size:=by grind
  exact⟨x.cells[l],ame hl,x2 l _ _ a1 (ame hl)⟩
theorem Jn{s off n:Nat}{e:PV}{ps:List PV}(hn:ps.length=n)(hb:off+n≤s)(h0:0<n)(ha:s=1→∀p,ps.head? =some p→∀cs,p≠.agg cs):(if s=1 then ps.headD .bad else PV.agg (bY (aQ s e) off ps)).cells=bY (aQ s e) off ps:=by
 split
 ·rename_i h1;subst h1;have e1:off=0:=by omega
  have e2:n=1:=by omega
  subst e1;subst e2;match ps,hn with
  |[p],_=>
   have:=ha rfl p rfl;have hp:p.cells=[p]:=by cases p<;>first|rfl|exact absurd rfl (this _)
   simp only[List.headD_cons,hp,eu,atX,atx,aqP,ase];rfl
 rfl
theorem K9{T:Type}{cs ps:List T}{off l:Nat}{x:T}(hl:l<ps.length)(hb:off+ps.length≤cs.length):bY cs off (ps.set l x)=(bY cs off ps).set (off+l) x:=by
 have hto:(cs.take off).length=off:=by simp;omega
 simp_all[eu,atT,asy,List.set_append,IT,IN]
theorem La{id id2:Nat}{B X:bW}(cU:id2≠id):aD (fM id (bF (bR id2 (aD m id B)) id2)) id X=aD (fM id (bF (bR id2 m) id2)) id X:=by
 funext t;by_cases h:t=id
 ·subst h;simp
 ·rw[aF h,aF h];unfold fM;by_cases h2:t=id2
  ·subst h2;simp
  simp_all[gY,bR,aF]
end
section
variable {R:Type} {E:Env}
theorem acf{t:TypeId}{v:V}{id i off s id2 j:Nat}{et:TypeId}{es ps:List PV}{cs:List V}{e:PV}{m:Mem}(hm:m id=some (.nest s et es))(hc:toCells (bj E.P t) v=some cs)(ht:nN m 0 cs=some (ps,some (j,id2)))(hb:off+bj E.P t≤s)(h0:0<bj E.P t)(cU:id2≠id)(he:es[i]?=some e){G:Nat→Option (List PV)}{w0:bO}{μ:Ro}{φ:Nat→aP}{w:World}{f:Fr}{ρ:Nat→Value}{ya yx:Value}(hM:aL E.P G w0 μ φ m w)(hF:cp E.P μ φ m f ρ)(ha:au E.P μ φ (.oe id i off) ya)(hx:au E.P μ φ v yx):∃w' φ',(Instr.storeAt t ya yx).run E.P w=.ok () w'∧aL E.P G w0 μ φ' (zV [(id,.nest s et (es.set i (if s=1 then ps.headD .bad else .agg (bY (aQ s e) off ps))))] (km [(true,id2),(false,id)] m)) w'∧cp E.P μ φ' (zV [(id,.nest s et (es.set i (if s=1 then ps.headD .bad else .agg (bY (aQ s e) off ps))))] (km [(true,id2),(false,id)] m)) (kf [(true,id2),(false,id)] f) ρ:=by
 obtain⟨l,s2,Rl,rs,cZ,py,Nn,apO,nB⟩:=K8 hc ht;obtain⟨x1,x2,x3,y,hy,hvy⟩:=nB E.P μ φ yx hx;have TC:l<ps.length:=(Qs.1 py).1;have hN:bu E.P μ φ w id s et es:=hM.dW id _ hm;have N5:=hN.2.2.2.2.1 i e he;have NY:(aQ s e).length=s:=bt _ _;have tP:ps=(ps.set l .bad).set l (.uS s2 rs):=by rw[au6];apply asw;grind
 have rU:∀(a:Nat)p,(ps.set l .bad)[a]?=some p→(a=l∧p=.bad)∨(a≠l∧ps[a]?=some p):=fun a p h=>fD h;have hE:zd E.P μ (bj E.P t) (.agg (ps.set l .bad)) yx:=by
  refine⟨by simp[PV.cells,Nn],x1,fun a p z hp hz=>?_,x2⟩;rcases rU a p (by simpa[PV.cells]using hp)with⟨_,rfl⟩|⟨h1,h2⟩
  ·exact .bad
  grind
 have one:s=1→ps.length=1:=fun h=>by omega
 have hq:(if s=1 then ps.headD .bad else PV.agg (bY (aQ s e) off ps)).cells=bY (aQ s e) off ps:=Jn Nn hb h0 fun h1 p hp TV=>by grind [List.head?_eq_getElem?,Option.some.injEq]
 have hq':(if s=1 then(ps.set l .bad).headD .bad else PV.agg (bY (aQ s e) off (ps.set l .bad))).cells=bY (aQ s e) off (ps.set l .bad):=Jn (by simpa using Nn) hb h0 fun h1 p hp TV=>by
  have Wl:l=0:=by omega
  subst Wl;rw[atP,asN,IN rfl,IN TC]at hp;grind
 generalize (if s=1 then ps.headD .bad else PV.agg (bY (aQ s e) off ps))=q at hq⊢;generalize (if s=1 then(ps.set l .bad).headD .bad else PV.agg (bY (aQ s e) off (ps.set l .bad)))=q' at hq';cases ha with
 | @oe _ _ _ g hg=>
  obtain⟨c,T,hh,oI,FC,hrw⟩:=bu.set (q:=q') hN (hM.apart id _ hm) hg he hE hb (by rw[hq'];rfl);have rS:(φ id).sz=s:=hN.2.1;have hi:=mO (P:=E.P) (t:=t) (by omega);have A2:aL E.P G w0 μ φ (aD m id (.nest s et (es.set i q'))) (w.setRow g (bY c.toList (i*s+off) yx.cells.toList).toArray):=hM.write hm rfl hg (nC.setRow (aso _)) setRow_size (fun k hk=>cq hk) FC rfl (fun j hj=>by simp[bW.names]at hj) (fun st h=>by cases h) hrw;have QD:i<es.length:=(Qs.1 he).1;have acg:q.cells=q'.cells.set (off+l) (.uS s2 rs):=by grind [K9]
  have GR:q'.cells[off+l]?=some .bad:=by rw[hq',K9 TC (by omega),asN,IN rfl,IN];grind [cL]
  have Ak:=aL.aiY A2 (id:=id) (id2:=id2) (i:=i) (off:=off+l) (e:=q') (q:=q) (x:=y) cU (cj _ _ _) (by rw[aF cU];exact cZ) (by simp[QD]) GR (fun g0 c0 _ TT M6=>by
   rw[hg]at TT;simp only[cO]at TT;subst TT;rw[setRow_heap w g c _ T (0,0) hh]at M6;simp only[cO,Obj.cells.injEq]at M6;obtain⟨rfl,_⟩:=M6;rw[asG,eu];have cd:(c.toList.take (i*s+off)).length=i*s+off:=by simp;omega
   have Rg:l<yx.cells.toList.length:=by grind
   rw[asy,as8 (by omega),cd,show i*s+(off+l)-(i*s+off)=l by omega,asY Rg];simpa using hy) hvy acg
  rw[au6,La cU]at Ak;refine⟨_,_,by grind [hU],Ak,?_⟩;have JU:cp E.P μ φ (aD m id (.nest s et (es.set i q'))) f ρ:=hF.pO (fun _ _ h=>h) .set;have hF2:=(JU.forget id2).A4 id;refine hF2.ah7 (by simp[mP]) (fun k hk=>by simp[hk]) fun k hk=>?_;show(aD (fM id (bF (bR id2 m) id2)) id _ k).isSome=true;by_cases e1:k=id
  ·subst e1;simp
  ·rw[aF e1];rw[sE]at hk⊢;by_cases e2:k=id2
   ·subst e2;simp at hk
   grind [gY,bR,aF]
end
section
variable {R:Type} {E:Env}
variable{e:TypeId}{id2:Nat}{G:Nat→Option (List PV)}{w0:bO}{φ:Nat→aP}{w:World}{ρ:Nat→Value}
theorem Z0{t:TypeId}{v:V}{j site:Nat}{cs:List V}{ps:List PV}{p:PV}{m:Mem}(hu:E.P.underlying t=some (.slice e))(hc:toCells (bj E.P e) v=some cs)(ht:nN m 0 cs=some (ps,some (j,id2)))(hs:m site=none)(hp:elemOf (aN E.P e) ps=some p)(eR:0<bj E.P e)(Ia:bj E.P e≤16777216)(hz:(dC E e).isSome=true){μ:Ro}{f:Fr}{yx:Value}(hM:aL E.P G w0 μ φ m w)(hF:cp E.P μ φ m f ρ)(hx:au E.P μ φ v yx):∃y w' φ',(Instr.buildSlice t 1 #[(0,yx)]).run E.P w=.ok y w'∧aL E.P G w0 μ φ' (zV [(site,.nest (bj E.P e) e [p])] (km [(true,id2)] m)) w'∧cp E.P μ φ' (zV [(site,.nest (bj E.P e) e [p])] (km [(true,id2)] m)) (kf [(true,id2)] f) ρ∧au E.P μ φ' (.os site) y:=by
 obtain⟨l,s2,Rl,rs,cZ,py,Nn,apO,nB⟩:=K8 hc ht;obtain⟨x1,x2,x3,z,hz1,hvz⟩:=nB E.P μ φ yx hx;obtain⟨zc,hzc⟩:=asv.1 hz;obtain⟨iz,zv,i1,i2,i3,_⟩:=fa hzc;have cU:id2≠site:=fun e=>by simp_all
 have Uh:p.cells=ps:=by
  unfold elemOf at hp;split at hp
  ·simp only[cO]at hp;subst hp;rfl
  ·split at hp
   ·rename_i q;simp only[cO]at hp;subst hp;have Wl:l=0:=by grind
    subst Wl;simp only[asF,cO]at py;subst py;rfl
   ·cases hp
 have hA2:aX E.P μ φ w id2 s2 Rl rs:=hM.dW id2 _ cZ;have arK:Instr.fill (fun i=>some (i*bj E.P e,bj E.P e)) ((Array.range (1*bj E.P e)).map (zv.cells[·%zv.cells.size]!)) [(0,yx)]=some yx.cells:=by
  have Ui:((Array.range (1*bj E.P e)).map (zv.cells[·%zv.cells.size]!)).size=bj E.P e:=by simp
  rw[Eu (off:=0) (size:=bj E.P e) (by simp) x1 (by omega)];simp only[Instr.fill,cO];apply atK;simp only[eu,atX,atx,asZ];simp_all
 have y7:=run_buildSlice (P:=E.P) w t e 1 #[(0,yx)] yx.cells iz zv hu i1 i2 (by omega) (by omega) (by rw[i3];omega);let q:aP:={g:=some w.heap.size,cap:=1,len:=1,sz:=bj E.P e,row:=fun a b=>if a=0∧b=l then(φ id2).toJc else default};have Re:∀k,(bF (bR id2 m) id2 k).isSome=true→k≠site:=fun k hk e=>by simp_all[gY,Ne.symm,bR]
 have ach:∀a b,(bW.nest (bj E.P e) e [p]).rowAt a b=true→a=0∧b=l:=by
  intro a b hr;rcases me hr with⟨_,_,_,e',s',rs',lf,h',Ai⟩|⟨_,_,_,_,_,_,lf,_⟩
  ·simp only[bW.nest.injEq]at lf;obtain⟨rfl,rfl,rfl⟩:=lf;cases a with
   |succ a=>simp at h'
   |zero=>
    simp only[asF,cO]at h';subst h';rw[Uh]at Ai;refine⟨rfl,?_⟩;by_cases Uj:b=l
    ·exact Uj
    ·exfalso;have cd:b<yx.cells.size:=by rw[x1,←Nn];exact(Qs.1 Ai).1
     exact absurd (x3 b _ _ Uj Ai (ame cd)).J9 (by simp[PV.isRow])
  ·cases lf
 have A2:=hM.forget id2;have oK:aL E.P G w0 μ (fun i=>if i=site then q else φ i) (aD (bF (bR id2 m) id2) site (.nest (bj E.P e) e [p])) (w.alloc (.cells yx.cells e)):=by
  have hold:∀k,k<w.heap.size→(w.alloc (.cells yx.cells e)).heap[k]?=w.heap[k]?:=fun k hk=>nC.heap_alloc w _ k hk;refine A2.put (by rw[gY (Ne.symm cU)];simp[bR,hs]) ((nC.refl _ w).alloc hM.below.size _) (fun k o hk=>?_) (fun id b' g hid hg=>hold g ((A2.dW id b' hid).KP hg)) (fun g hg=>?_) ?_ ?_ (by simp[bW.names]) (fun st h=>by cases h)
  ·have:=hM.ro k o hk;rw[hold k (are.1 this).1];exact this
  ·rcases hg with hg|⟨a,b,hr,hg⟩
   ·simp only[q,cO]at hg;subst hg;refine⟨hM.below.size,?_,fun id b' hid ho=>?_⟩
    ·cases hq:μ w.heap.size with
     |none=>rfl
     |some o'=>have:=hM.ro _ _ hq;simp at this
    ·have:=(A2.dW id b' hid).KP ho;omega
   ·have Ak:=ach a b hr;have hg:(φ id2).g=some g:=by simpa[q,Ak]using hg
    obtain⟨o1,o2⟩:=hM.own id2 _ g cZ (.inl hg);refine⟨o1,o2 rfl,fun id b' hid ho=>?_⟩;obtain⟨h1,b2,yj,rfl⟩:=gj hid;exact h1 (hM.inj id id2 _ _ g yj cZ (gZ.1 ho) (.inl hg))
  ·intro a b g hr hg;have Ak:=ach a b hr;have hg:(φ id2).g=some g:=by simpa[q,Ak]using hg
   refine⟨fun h=>?_,fun a' b' Cv _=>by have:=ach a' b' Cv;omega⟩;simp only[q,cO]at h;have:=(hM.dW id2 _ cZ).KP (.inl hg);omega
  ·show bu E.P μ (fun i=>if i=site then q else φ i) (w.alloc (.cells yx.cells e)) site (bj E.P e) e [p];unfold bu;simp only[BY];refine⟨rfl,rfl,trivial,eR,fun i e' Z1=>?_,by simp[q,maxLen],yx.cells,e,gn w _,by simp[q,x1],by simp[q],fun i e' b p' x' Z1 Ai Pq=>?_,fun i x' _ Pq=>x2 i x' Pq⟩
   ·cases i with
    |zero=>simp at Z1;subst Z1;rw[Uh,Nn]
    |succ i=>simp at Z1
   ·cases i with
    |succ i=>simp at Z1
    |zero=>
     simp only[asF,cO]at Z1;subst Z1;rw[Uh]at Ai;rw[avp,asZ]at Pq;by_cases Uj:b=l
     ·subst Uj;rw[py]at Ai;simp only[cO]at Ai;subst Ai;rw[hz1]at Pq;simp only[cO]at Pq;subst Pq;have:q.row 0 b=(φ id2).toJc:=by simp[q]
      rw[this];refine fm.cF ⟨⟨Rl,hA2.up⟩,Ub hvz⟩ (fun _ _ h=>h) fun g hg=>hold g ((hM.dW id2 _ cZ).KP (.inl hg))
     ·exact .pure (x3 b p' x' Uj Ai Pq)
 refine⟨_,_,_,y7,oK,?_,?_⟩
 ·exact(hF.forget id2).mono (fun _ _ h=>h) fun k hk=>⟨by simp[Re k hk],by show(aD (bF (bR id2 m) id2) site _ k).isSome=true;rw[aF (Re k hk)];exact hk⟩
 ·have:=au.os (P:=E.P) (μ:=μ) (φ:=fun i=>if i=site then q else φ i) (id:=site) (g:=w.heap.size) (by simp[q]);simpa[q]using this
theorem aci{k v v':PV}:∀{es:List (PV×PV)}{j:Nat},(dI k v es)[j]?=some (k,v)→(pz k es=some j∨(pz k es=none∧j=es.length))→(dI k v es).set j (k,v')=dI k v' es:=by
 intro es j hj hp;rw[pP,pP];rcases hp with hp|⟨hp,rfl⟩
 ·rw[hp];simp
 ·rw[hp];simp
variable{es:List (PV×PV)}
theorem aL.agC{P:Program}{μ:Ro}{m:Mem}(hM:aL P G w0 μ φ m w){id i s2:Nat}{kt:TypeId}{k:PV}{rs:List PV}{x:Value}(cU:id2≠id)(hm:m id=some (.fS kt e es))(cZ:m id2=some (.arr s2 e rs))(he:es[i]?=some (k,.bad))(hx:∀g en clock,(φ id).g=some g→w.heap[g]?=some (.map en clock)→∃e0,en[i]?=some e0∧e0.val=x)(hv:au P μ φ (.os id2) x):aL P G w0 μ (fun j=>if j=id then mP (φ id) i 0 (φ id2).toJc else φ j) (aD (fM id (bF (bR id2 m) id2)) id (.fS kt e (es.set i (k,.uS s2 rs)))) w:=by
 have A2:=(hM.forget id2).A4 id;obtain⟨g0,en,clock,kk,hN⟩:=Am.1 (hM.dW id _ hm);have hA2:aX P μ φ w id2 s2 e rs:=hM.dW id2 _ cZ;have py:∀a b,(bW.fS kt e (es.set i (k,.uS s2 rs))).rowAt a b=true→(a=i∧b=0)∨((bW.fS kt e es).rowAt a b=true∧¬(a=i∧b=0)):=by
  intro a b hr;by_cases Ak:a=i∧b=0
  ·exact .inl Ak
  ·refine .inr ⟨?_,Ak⟩;rcases me hr with⟨_,_,_,_,_,_,lf,_⟩|⟨_,_,_,k',s',rs',lf,rfl,h'⟩
   ·cases lf
   ·simp only[bW.fS.injEq]at lf;obtain⟨rfl,rfl,rfl⟩:=lf;rcases fD h' with⟨rfl,_⟩|⟨hni,h'⟩
    ·exact absurd ⟨rfl,rfl⟩ Ak
    ·rw[mc h'];rfl
 refine hM.Wn (fun _ k=>if k=id2 then id else k) (fun j b' hj=>?_) (fun j b' g hj ho=>?_) (fun j b' hj=>?_) (fun j cs k hj hk=>?_) (fun j st hj=>?_)
 ·rcases gk hj with⟨rfl,rfl⟩|⟨h1,h2,c,hc,rfl⟩
  ·refine Am.2 ⟨g0,en,clock,kk,by simp[mP,hN.pl],hN.heap,by simp[hN.size],hN.HP,fun a k' v' h'=>?_,hN.born,fun a k' v' e' h' Z1=>?_⟩
   ·rcases fD h' with⟨rfl,hq⟩|⟨_,h'⟩
    ·simp only[apa]at hq;rw[hq.1];exact hN.key a k _ he
    ·exact hN.key a k' v' h'
   ·simp only[BY];rcases fD h' with⟨rfl,hq⟩|⟨hni,h'⟩
    ·simp only[apa]at hq;obtain⟨rfl,rfl⟩:=hq;refine⟨(hN.rep a _ _ e' he Z1).1,?_⟩;rw[il];obtain⟨e1,he1,hxe⟩:=hx g0 en clock hN.pl hN.heap;rw[Z1]at he1;simp only[cO]at he1;subst he1;rw[hxe];exact⟨hA2.up,Ub hv⟩
    ·rw[iI _ _ (fun h=>hni h.1)];exact hN.rep a k' v' e' h' Z1
  ·have hb:iH P μ φ w j (eh id (ij id2 c)):=(hM.dW j c hc).kill.E0;exact hb.Wo h1 (by simp[mP]) fun k hk=>by simp[hk]
 ·rcases gk hj with⟨rfl,rfl⟩|⟨h1,h2,c,hc,rfl⟩
  ·simp only[BY]at ho;rcases ho with ho|⟨a,b,hr,ho⟩
   ·exact⟨j,_,hm,.inl ho,fun _=>rfl,by simp[cU.symm]⟩
   ·rcases py a b hr with⟨rfl,rfl⟩|⟨Cv,Ak⟩
    ·rw[il]at ho;exact⟨id2,_,cZ,.inl ho,fun _=>rfl,by simp⟩
    ·rw[iI _ _ Ak]at ho;exact⟨j,_,hm,.inr ⟨a,b,Cv,ho⟩,fun _=>rfl,by simp[cU.symm]⟩
  ·simp only[h1,IS]at ho;exact⟨j,c,hc,gZ.1 (wm.1 ho),fun h=>by rw[FJ,Es]at h;exact h,by simp[h2]⟩
 ·rcases gk hj with⟨rfl,rfl⟩|⟨h1,h2,c,hc,rfl⟩
  ·simp only[BY];have Nj:=hM.apart j _ hm;have new:∀g,(φ id2).g=some g→¬(bW.fS kt e es).owns (φ j) g:=fun g hg ho=>cU (hM.inj id2 j _ _ g cZ hm (.inl hg) ho);intro a b g hr hg;rcases py a b hr with⟨rfl,rfl⟩|⟨Cv,Ak⟩
   ·rw[il]at hg;refine⟨fun h=>new g hg (.inl h),fun a' b' Uc Pw=>?_⟩;rcases py a' b' Uc with h|⟨hr3,Ud⟩
    ·exact h
    ·rw[iI _ _ Ud]at Pw;exact absurd (.inr ⟨a',b',hr3,Pw⟩) (new g hg)
   ·rw[iI _ _ Ak]at hg;obtain⟨h3,h4⟩:=Nj a b g Cv hg;refine⟨h3,fun a' b' Uc Pw=>?_⟩;rcases py a' b' Uc with⟨rfl,rfl⟩|⟨hr3,Ud⟩
    ·rw[il]at Pw;exact absurd (.inr ⟨a,b,Cv,hg⟩) (new g Pw)
    ·rw[iI _ _ Ud]at Pw;exact h4 a' b' hr3 Pw
  ·simp only[h1,IS];exact CL.2 (A1.2 (hM.apart j c hc))
 ·rcases gk hj with⟨rfl,hb⟩|⟨h1,h2,c,hc,hb⟩
  ·cases hb
  ·have TF:fM id (bF (bR id2 m) id2) j=some (.box cs):=by rw[aF h1]at hj;exact hj
   have:=A2.gy j cs k TF hk;by_cases e:k=id
   ·subst e;simp
   ·rw[aF e];exact this
 ·rcases gk hj with⟨rfl,hb⟩|⟨h1,h2,c,hc,hb⟩
  ·cases hb
  ·cases c<;>first|(simp[eh,ij]at hb;done)|skip
   simp only[eh,ij,bW.loop.injEq]at hb;subst hb;exact⟨hc,by simp[h1]⟩
theorem Z2{t kt et:TypeId}{xk:V}{id s:Nat}{key:PV}{rs:List PV}{m:Mem}(hu:E.P.underlying t=some (.map kt et))(hm:m id=some (.fS kt e es))(cZ:m id2=some (.arr s e rs))(Cb:keyOf E kt xk=some key){μ:Ro}{f:Fr}{ya yk yv:Value}(hM:aL E.P G w0 μ φ m w)(hF:cp E.P μ φ m f ρ)(ha:au E.P μ φ (.om id) ya)(hk:au E.P μ φ xk yk)(hv:au E.P μ φ (.os id2) yv):∃w' φ',(Instr.mapUpdate t ya yk yv).run E.P w=.ok () w'∧aL E.P G w0 μ φ' (zV [(id,.fS kt e (dI key (.uS s rs) es))] (km [(true,id2),(false,id)] m)) w'∧cp E.P μ φ' (zV [(id,.fS kt e (dI key (.uS s rs) es))] (km [(true,id2),(false,id)] m)) (kf [(true,id2),(false,id)] f) ρ:=by
 have cU:id2≠id:=fun h=>by subst h;rw[hm]at cZ;cases cZ
 obtain⟨ks,k1,k2,k3⟩:=Aj Cb;obtain⟨g,en,clock,kk,hN⟩:=Am.1 (hM.dW id _ hm);have B1:=hN.HP;rw[k1]at B1;simp only[cO]at B1;subst B1;have ZR:=Ev k1;have hkr:=k3 μ φ yk hk;obtain⟨hc,hkv⟩:=pn k2 hkr;obtain⟨res,r1,r2⟩:=ob (v:=.vO) (z:=.bad) ZR hc w hN.ent;have Ni:=Go.MapKept.run_getObj_map (P:=E.P) hN.heap;have h1:(Instr.checkKey false 10000 kt yk).run E.P w=.ok () w:=by rw[hkv];exact jI 8 kt ks ZR 9992 w false key.cells hc
 rw[←hkv]at r1;have cd:g<w.heap.size:=(are.1 hN.heap).1;cases ha with
 |om dr=>
  rw[hN.pl]at dr;simp only[cO]at dr;subst dr;have fin:∀(J:Nat)(TD:Array MapEntry)(tT:Nat),(pz key es=some J∨(pz key es=none∧J=es.length))→(Instr.mapUpdate t (.map (some g)) yk yv).run E.P w=.ok () {w with heap:=w.heap.setIfInBounds g (.map TD tT)}→oG TD tT→TD.size=(dI key .bad es).length→(∃e0,TD[J]?=some e0∧e0.key=yk∧e0.val=yv)→(∀i e0,i≠J→TD[i]?=some e0→en[i]?=some e0)→∃w' φ',(Instr.mapUpdate t (.map (some g)) yk yv).run E.P w=.ok () w'∧aL E.P G w0 μ φ' (zV [(id,.fS kt e (dI key (.uS s rs) es))] (km [(true,id2),(false,id)] m)) w'∧cp E.P μ φ' (zV [(id,.fS kt e (dI key (.uS s rs) es))] (km [(true,id2),(false,id)] m)) (kf [(true,id2),(false,id)] f) ρ:=by
   intro J TD tT hJ hr Cu rS hJe Np;obtain⟨eJ,amG,apP,apQ⟩:=hJe;have oK:∀i k' v',(dI key .bad es)[i]?=some (k',v')→(i=J∧k'=key∧v'=.bad)∨(i≠J∧es[i]?=some (k',v')):=by
    intro i k' v' h;rw[pP]at h;rcases hJ with hJ|⟨hJ,rfl⟩
    ·rw[hJ]at h;rcases fD h with⟨rfl,hq⟩|⟨hni,h⟩
     ·simp only[apa]at hq;exact .inl ⟨rfl,hq.1,hq.2⟩
     ·exact .inr ⟨hni,h⟩
    ·rw[hJ]at h;simp only at h;rw[asC]at h;split at h
     ·rename_i cd;exact .inr ⟨by omega,h⟩
     ·rename_i Kb;cases hd:i-es.length with
      |zero=>rw[hd]at h;simp only[asF,cO,apa]at h;exact .inl ⟨by omega,h.1.symm,h.2.symm⟩
      |succ n=>rw[hd]at h;simp at h
   have hJb:(dI key .bad es)[J]?=some (key,.bad):=by
    rw[pP];rcases hJ with hJ|⟨hJ,rfl⟩
    ·rw[hJ];obtain⟨a,u,hj,_⟩:=Kc hJ;simp[(Qs.1 hj).1]
    ·rw[hJ];simp
   have A2:aL E.P G w0 μ φ (aD m id (.fS kt e (dI key .bad es))) {w with heap:=w.heap.setIfInBounds g (.map TD tT)}:=by
    refine hM.write hm rfl hN.pl ⟨⟨rfl,rfl,rfl,by simp,fun k hk=>by simp[atI (Nat.ne_of_gt hk)]⟩,fun _=>aso _⟩ (by simp) (fun k hk=>by simp[atI (Ne.symm hk)]) (Am.2 ⟨g,TD,tT,ks,hN.pl,by simp[cd],rS,k1,fun i k' v' h=>?_,Cu,fun i k' v' e0 h he0=>?_⟩) rfl (by simp[bW.names]) (fun st h=>by cases h) fun a b hr=>?_
    ·rcases oK i k' v' h with⟨_,rfl,_⟩|⟨_,h⟩
     ·exact k2
     ·exact hN.key i k' v' h
    ·rcases oK i k' v' h with⟨rfl,rfl,rfl⟩|⟨hni,h⟩
     ·rw[amG]at he0;simp only[cO]at he0;subst he0;exact⟨by rw[apP];exact hkr,.pure .bad⟩
     ·obtain⟨q1,q2⟩:=hN.rep i k' v' e0 h (Np i e0 hni he0);refine⟨q1,?_⟩;unfold K5 at q2⊢;split at q2
      ·refine⟨q2.1.cF rfl (fun _ _ h=>h) fun g' dr=>?_,q2.2⟩;have hr:(bW.fS kt e es).rowAt i 0=true:=by rw[mc h];rfl
       have:=(hM.apart id _ hm i 0 g' hr dr).1;rw[hN.pl]at this;simp only[avu,cO]at this;simp[atI this]
      ·exact q2
    ·rcases me hr with⟨_,_,_,_,_,_,lf,_⟩|⟨_,_,_,k',s',rs',lf,rfl,h'⟩
     ·cases lf
     ·simp only[bW.fS.injEq]at lf;obtain⟨rfl,rfl,rfl⟩:=lf;rcases oK a k' _ h' with⟨_,_,h⟩|⟨_,h⟩
      ·cases h
      ·rw[mc h];rfl
   have Ak:=aL.agC A2 (id:=id) (id2:=id2) (i:=J) (x:=yv) cU (cj _ _ _) (by rw[aF cU];exact cZ) hJb (fun g0 en0 apR TT hh0=>by
    rw[hN.pl]at TT;simp only[cO]at TT;subst TT;have:(w.heap.setIfInBounds g (Obj.map TD tT))[g]?=some (.map TD tT):=by simp[cd]
    rw[this]at hh0;simp only[cO,Obj.map.injEq]at hh0;obtain⟨rfl,_⟩:=hh0;exact⟨eJ,amG,apQ⟩) hv
   rw[aci hJb hJ,La cU]at Ak;refine⟨_,_,hr,Ak,?_⟩;have JU:cp E.P μ φ (aD m id (.fS kt e (dI key .bad es))) f ρ:=hF.pO (fun _ _ h=>h) .set;refine((JU.forget id2).A4 id).ah7 (by simp[mP]) (fun k hk=>by simp[hk]) fun k hk=>?_;show(aD (fM id (bF (bR id2 m) id2)) id _ k).isSome=true;by_cases e1:k=id
   ·subst e1;simp
   ·rw[aF e1];rw[sE]at hk⊢;by_cases e2:k=id2
    ·subst e2;simp at hk
    ·rw[gY e2]at hk⊢;simp only[bR,aF e1]at hk⊢;exact hk
  rcases Od r2 with⟨rfl,hp⟩|⟨j,e0,rfl,he0,hp⟩
  ·have ZS:=Go.MapKept.run_setObj_map (P:=E.P) (.map (en.push {key:=yk,val:=yv,born:=clock}) (clock+1)) hN.heap;refine fin es.length _ _ (.inr ⟨hp,rfl⟩) (by simp only[Instr.mapUpdate,Sem.run_bind,run_underlying hu,Ni,h1,r1,Result.andThen_ok];exact ZS) hN.born.push (by rw[pP,hp];simp[hN.size]) ⟨{key:=yk,val:=yv,born:=clock},?_,rfl,rfl⟩ fun i e0 hi h=>?_
   ·rw[←hN.size];simp
   ·rw[auy]at h;split at h
    ·rename_i h';rw[hN.size]at h';exact absurd h' hi
    ·exact h
  ·have agD:en[j]?=some e0:=by simpa using he0
   obtain⟨a,u,haj,hpq⟩:=Kc hp;obtain⟨hca,hva⟩:=pn (hN.key j a u haj) (hN.rep j a u e0 haj agD).1;have A3:=Ps hc hca hpq;have hsb:Instr.sameBits 10000 e0.key yk=true:=by rw[hva,hkv,←A3];refine CK (n:=9999) hc (fun ha=>?_);rw[uW hc];exact(Ep ZR).2.1 ha
   have ZS:=Go.MapKept.run_setObj_map (P:=E.P) (.map (en.modify j fun e=>{e with key:=yk,val:=yv}) clock) hN.heap;have ze:j<en.size:=(are.1 agD).1;refine fin j _ _ (.inl hp) (by simp only[Instr.mapUpdate,Sem.run_bind,run_underlying hu,Ni,h1,r1,Result.andThen_ok];simp only[asZ,agD,No,ate,Instr.keyThatStays,hsb,BY,Sem.run_pure,Result.andThen_ok];exact ZS) (hN.born.modify (fun e=>{e with key:=yk,val:=yv}) (fun _=>rfl) _) (by rw[pP,hp];simp[hN.size]) ⟨{e0 with key:=yk,val:=yv},by rw[atB,IN rfl,agD];rfl,rfl,rfl⟩ fun i e1 hi h=>?_;rw[atB,IT (Ne.symm hi)]at h;exact h
end
section
variable {P:Program} {G:Nat→Option (List PV)} {w0:bO} {μ μ':Ro} {φ φ':Nat→aP} {m m':Mem} {w w':World}
structure nD(P:Program)(μ:Ro)(rows:Nat→Nat→Jc)(w:World)(s:Nat)(es:List PV)(xs:List Value):Prop where
 len:xs.length=es.length*s
 each:∀(i:Nat)e,es[i]?=some e→e.cells.length=s
 rep:∀(i:Nat)e(j:Nat)p x,es[i]?=some e→e.cells[j]?=some p→xs[i*s+j]?=some x→eG P μ (rows i j) w p x
 one:∀(i:Nat)(x:Value),xs[i]?=some x→x.oneCell'=true
variable{rows:Nat→Nat→Jc}{es:List PV}{xs:List Value}
theorem nD.append{Lb acj:Nat→Nat→Jc}{s:Nat}{es':List PV}{xs':List Value}(h:nD P μ rows w s es xs)(h':nD P μ Lb w s es' xs')(h1:∀i j,i<es.length→acj i j=rows i j)(h2:∀i j,es.length≤i→acj i j=Lb (i-es.length) j):nD P μ acj w s (es++es') (xs++xs'):=by
 refine⟨by simp[h.len,h'.len,asV],fun i e he=>?_,fun i e j p x he hp hx=>?_,fun i x hx=>?_⟩
 ·rw[asC]at he;split at he
  ·exact h.each i e he
  ·exact h'.each _ e he
 ·rw[asC]at he;split at he
  ·rename_i hi;rw[h1 i j hi];have hj:j<s:=by rw[←h.each i e he];grind
   rw[asY (by rw[h.len];exact KW hi hj)]at hx;exact h.rep i e j p x he hp hx
  ·rename_i hi;rw[h2 i j (by omega)];have e1:i*s+j=es.length*s+((i-es.length)*s+j):=by
    have:i=es.length+(i-es.length):=by omega
    grind
   rw[as8 (by rw[h.len,e1];omega),h.len,show i*s+j-es.length*s=(i-es.length)*s+j by omega]at hx;exact h'.rep _ e j p x he hp hx
 ·rw[asC]at hx;split at hx
  ·exact h.one i x hx
  ·exact h'.one _ x hx
theorem Cells.Px{s:Nat}(h:Cells P μ s es xs):nD P μ rows w s es xs:=⟨h.len,h.each,fun i e j p x he hp hx=>.pure (h.rep i e j p x he hp hx),h.one⟩
theorem nD.cF{rows:Nat→Nat→Jc}{s:Nat}{es:List PV}{xs:List Value}(h:nD P μ rows w s es xs)(hw:∀i e j p g,es[i]?=some e→e.cells[j]?=some p→p.isRow=true→(rows i j).g=some g→w'.heap[g]?=w.heap[g]?):nD P μ rows w' s es xs:=⟨h.len,h.each,fun i e j p x he hp hx=>(h.rep i e j p x he hp hx).cF (fun _ _ h=>h) fun hr g hg=>hw i e j p g he hp hr hg,h.one⟩
theorem bu.Px{id sz:Nat}{et:TypeId}(h:bu P μ φ w id sz et es){g:Nat}(hg:(φ id).g=some g):∃(c:Array Value)(T:TypeId),w.heap[g]?=some (.cells c T (0,0))∧(φ id).cap*sz≤c.size∧es.length≤(φ id).cap∧nD P μ (φ id).row w sz es (c.toList.take (es.length*sz)):=by obtain⟨a1,a2,a3,a4,a5,a6,a7⟩:=h;rw[hg]at a7;obtain⟨c,T,c1,c2,c3,c4,c5⟩:=a7;have hle:es.length*sz≤c.size:=asT (asd _ c3) c2;refine⟨c,T,c1,c2,c3,by simp;omega,a5,fun i e j p x he hp hx=>c4 i e j p x he hp (by grind),fun i x hx=>?_⟩;grind
theorem nD.nest{id g sz:Nat}{et T:TypeId}{c:Array Value}(hph:(φ id).toJc=⟨some g,(φ id).cap,es.length,sz⟩)(rS:sz=bj P et)(eR:0<sz)(uV:(φ id).cap≤maxLen)(hh:w.heap[g]?=some (.cells c T (0,0)))(hc:(φ id).cap*sz≤c.size)(hle:es.length≤(φ id).cap)(hC:nD P μ (φ id).row w sz es (c.toList.take (es.length*sz))):bu P μ φ w id sz et es:=by
 have e1:(φ id).g=some g:=by rw[hph]
 refine⟨by rw[hph],by rw[hph],rS,eR,hC.each,uV,?_⟩;rw[e1];have ze:∀(i:Nat)e(j:Nat)p,es[i]?=some e→e.cells[j]?=some p→i*sz+j<es.length*sz:=fun i e j p hi hj=>KW (Qs.1 hi).1 (by rw[←hC.each i e hi];grind);refine⟨c,T,hh,hc,hle,fun i e j p x hi hj hx=>?_,fun i x hi hx=>?_⟩
 ·exact hC.rep i e j p x hi hj (by grind)
 ·exact hC.one i x (by grind)
end
section
variable {R:Type} {E:Env}
def Wp(src:Option Nat)(m:Mem):Mem:=match src with|some id2=>bF (bR id2 m) id2|none=>m
def kfS(src:Option Nat)(f:Fr):Fr:=match src with|some id2=>fC id2 f|none=>f
variable{src:Option Nat}
theorem ack{m:Mem}{j:Nat}{b:bW}(h:Wp src m j=some b):src≠some j∧∃b',m j=some b'∧b.rowAt=b'.rowAt:=by
 cases src with
 |none=>exact⟨by simp,b,h,rfl⟩
 |some id2=>obtain⟨h1,b',h2,rfl⟩:=gj h;grind [A0]
theorem Z3{t e ty:TypeId}{x:V}{id s:Nat}{es new:List PV}{rd:bN}{m:Mem}(hu:E.P.underlying t=some (.slice e))(hm:m id=some (.nest s e es))(hs:s=bj E.P e)(hz:(dC E e).isSome=true)(eR:0<bj E.P e)(hby:0<M9 E.P e)(ee:(es++new).length*M9 E.P e≤ah)(FH:(∃id2,src=some id2∧id2≠id∧x=.os id2∧m id2=some (.nest s e new))∨(src=none∧fY m s x=some (new,rd))){G:Nat→Option (List PV)}{w0:bO}{μ:Ro}{φ:Nat→aP}{w:World}{f:Fr}{ρ:Nat→Value}{ys yx:Value}(hM:aL E.P G w0 μ φ m w)(hF:cp E.P μ φ m f ρ)(ha:au E.P μ φ (.os id) ys)(hx:au E.P μ φ x yx):∃w' y φ',(Builtin.append_ #[t,t] ty #[ys,yx]).run E.P w=.ok y w'∧aL E.P G w0 μ φ' (aD (bF (bR id (Wp src m)) id) id (.nest s e (es++new))) w'∧cp E.P μ φ' (aD (bF (bR id (Wp src m)) id) id (.nest s e (es++new))) (fC id (kfS src f)) ρ∧au E.P μ φ' (.os id) y:=by
 obtain⟨zc,hzc⟩:=asv.1 hz;obtain⟨i,zv,hi,hzv,his,_,Wk,_,_,_⟩:=fa hzc;have hN:bu E.P μ φ w id s e es:=hM.dW id _ hm;have TC:(es++new).length=es.length+new.length:=by simp
 have Et:0<s:=by omega
 obtain⟨Lb,Cv⟩:∃Lb:Nat→Nat→Jc,Lb=match src with|some id2=>(φ id2).row|none=>fun _ _=>default:=⟨_,rfl⟩
 obtain⟨os,hos,hC⟩:∃os,((ys=.slice none 0 0∧es.length=0∧os=[])∨∃(g cap:Nat)(c:Array Value)(T:TypeId),ys=.slice (some ⟨g,0,none⟩) es.length cap∧w.heap[g]?=some (.cells c T (0,0))∧cap*s≤c.size∧es.length≤cap∧cap≤maxLen∧os=c.toList.take (es.length*s))∧nD E.P μ (φ id).row w s es os:=by
  cases ha with
  |yg hg=>have a7:=hN.2.2.2.2.2.2;rw[hg]at a7;rw[a7.1];exact⟨[],.inl ⟨rfl,rfl,rfl⟩,by simp,by simp,fun i e j p x he=>by simp at he,by simp⟩
  | @os _ g hg=>obtain⟨c,T,c1,c2,c3,c4⟩:=hN.Px hg;exact⟨_,.inr ⟨g,(φ id).cap,c,T,by rw[hN.1],c1,c2,c3,hN.2.2.2.2.2.1,rfl⟩,c4⟩
 obtain⟨xs,QB,hCx⟩:∃xs,((yx=.slice none 0 0∧new.length=0∧xs=[])∨∃(a:Addr)(cx:Nat),yx=.slice (some a) new.length cx∧xs.length=new.length*s∧(∀(j:Nat)v,xs[j]?=some v→w.cell? (a.add j)=some v)∧(∀v∈xs,v.oneCell'=true)∧new.length≤cx∧cx≤maxLen)∧nD E.P μ Lb w s new xs:=by
  rcases FH with⟨id2,rfl,cU,rfl,cZ⟩|⟨rfl,N5⟩
  ·have hN2:bu E.P μ φ w id2 s e new:=hM.dW id2 _ cZ;simp only at Cv;subst Cv;cases hx with
   |yg hg=>have a7:=hN2.2.2.2.2.2.2;rw[hg]at a7;rw[a7.1];exact⟨[],.inl ⟨rfl,rfl,rfl⟩,by simp,by simp,fun i e j p x he=>by simp at he,by simp⟩
   | @os _ g hg=>
    obtain⟨c,_,c1,c2,c3,c4⟩:=hN2.Px hg;refine⟨_,.inr ⟨⟨g,0,none⟩,(φ id2).cap,by rw[hN2.1],c4.len,fun j v hj=>?_,fun v hv=>?_,c3,hN2.2.2.2.2.2.1⟩,c4⟩
    ·grind [Addr.add_mid,dK,jG]
    ·obtain⟨j,hj⟩:=asz hv;exact c4.one j v hj
  ·obtain⟨_,_,hsr⟩:=rV N5;have:=hsr _ _ _ _ _ _ _ hM hx;cases this with
   |none hn=>subst hn;exact⟨[],.inl ⟨rfl,rfl,rfl⟩,by simp,by simp,fun i e j p x he=>by simp at he,by simp⟩
   | @some a cx xs hC QB hcx hcm=>exact⟨xs,.inr ⟨a,cx,rfl,hC.len,QB,fun u hu=>by obtain⟨j,hj⟩:=asz hu;exact hC.one j u hj,hcx,hcm⟩,hC.Px⟩
 obtain⟨w',y,hr,ab5⟩:=KX (ty:=ty) hu hi hzv (by omega) hs eR hby (by simp_all) hos QB;let uL:Nat→Nat→Jc:=fun a b=>if a<es.length then(φ id).row a b else Lb (a-es.length) b;have hCC:nD E.P μ uL w s (es++new) (os++xs):=hC.append hCx (fun a b h=>by grind) (fun a b h=>by grind);have py:∀a b g,(bW.nest s e (es++new)).rowAt a b=true→(uL a b).g=some g→(a<es.length∧(bW.nest s e es).rowAt a b=true∧((φ id).row a b).g=some g)∨(es.length≤a∧∃id2,src=some id2∧id2≠id∧m id2=some (.nest s e new)∧(bW.nest s e new).rowAt (a-es.length) b=true∧((φ id2).row (a-es.length) b).g=some g):=by
  intro a b g Qz hg;rcases me Qz with⟨_,_,_,e',s',rs',lf,h',Ai⟩|⟨_,_,_,_,_,_,lf,_⟩
  ·simp only[bW.nest.injEq]at lf;obtain⟨rfl,rfl,rfl⟩:=lf;by_cases cd:a<es.length
   ·rw[asY cd]at h';exact .inl ⟨cd,by rw[dR h' Ai];rfl,by grind⟩
   ·rw[as8 (by omega)]at h';simp only[uL,cd,IS]at hg;rcases FH with⟨id2,rfl,cU,rfl,cZ⟩|⟨rfl,N5⟩
    ·simp only at Cv;subst Cv;exact .inr ⟨by omega,id2,rfl,cU,cZ,by rw[dR h' Ai];rfl,hg⟩
    ·exfalso;obtain⟨_,_,hsr⟩:=rV N5;have h3:=hsr _ _ _ _ _ _ _ hM hx;cases h3 with
     |none hn=>subst hn;simp at h'
     | @some a2 cx xs2 hC2 arY hcx hcm=>
      have hj:(a-es.length)*s+b<xs2.length:=by rw[hC2.len];exact KW (Qs.1 h').1 (by rw[←hC2.each _ _ h'];grind)
      exact absurd (hC2.rep _ _ _ _ _ h' Ai (cN hj)).J9 (by simp[PV.isRow])
  ·cases lf
 have aiZ:∀j,(bF (bR id (Wp src m)) id j).isSome=true→j≠id:=fun j hj e=>by subst e;simp at hj
 have bB:∀j b',bF (bR id (Wp src m)) id j=some b'→j≠id∧src≠some j∧∃b,m j=some b∧b'.rowAt=b.rowAt:=by intro j b' hj;obtain⟨h1,b1,h2,rfl⟩:=gj hj;grind [ack,A0]
 have Uk:∀{j b' b g},b'.rowAt=b.rowAt→bW.owns b' (φ j) g→bW.owns b (φ j) g:=fun h ho=>by simp_all[bW.owns]
 have hM0:aL E.P G w0 μ φ (Wp src m) w:=by
  cases src with
  |none=>exact hM
  |some id2=>exact hM.forget id2
 have hF0:cp E.P μ φ (Wp src m) (kfS src f) ρ:=by
  cases src with
  |none=>exact hF
  |some id2=>exact hF.forget id2
 have A2:=hM0.forget id;have JU:=hF0.forget id;have agE:∀a b g,(bW.nest s e (es++new)).rowAt a b=true→(uL a b).g=some g→w0.heap.size≤g∧μ g=none∧g<w.heap.size∧∀j b',bF (bR id (Wp src m)) id j=some b'→¬b'.owns (φ j) g:=by
  intro a b g Qz hg;rcases py a b g Qz hg with⟨_,h2,h3⟩|⟨_,id2,rfl,cU,cZ,h2,h3⟩
  ·obtain⟨o1,o2⟩:=hM.own id _ g hm (.inr ⟨a,b,h2,h3⟩);refine⟨o1,o2 rfl,(hM.dW id _ hm).KP (.inr ⟨a,b,h2,h3⟩),fun j b' hj ho=>?_⟩;obtain⟨k1,_,b2,k3,k4⟩:=bB j b' hj;exact k1 (hM.inj j id _ _ g k3 hm (Uk k4 ho) (.inr ⟨a,b,h2,h3⟩))
  ·obtain⟨o1,o2⟩:=hM.own id2 _ g cZ (.inr ⟨_,b,h2,h3⟩);refine⟨o1,o2 rfl,(hM.dW id2 _ cZ).KP (.inr ⟨_,b,h2,h3⟩),fun j b' hj ho=>?_⟩;obtain⟨_,k1,b2,k3,k4⟩:=bB j b' hj;exact k1 (by rw[hM.inj j id2 _ _ g k3 cZ (Uk k4 ho) (.inr ⟨_,b,h2,h3⟩)])
 have amn:∀a b a' b' g,(bW.nest s e (es++new)).rowAt a b=true→(uL a b).g=some g→(bW.nest s e (es++new)).rowAt a' b'=true→(uL a' b').g=some g→a'=a∧b'=b:=by
  intro a b a' b' g h1 h2 h3 h4;rcases py a b g h1 h2 with⟨u1,u2,u3⟩|⟨u1,i2,u0,une,um,u2,u3⟩<;>rcases py a' b' g h3 h4 with⟨v1,v2,v3⟩|⟨v1,i3,v0,vne,vm,v2,v3⟩
  ·exact(hM.apart id _ hm a b g u2 u3).2 a' b' v2 v3
  ·exact absurd (hM.inj i3 id _ _ g vm hm (.inr ⟨_,_,v2,v3⟩) (.inr ⟨_,_,u2,u3⟩)) vne
  ·exact absurd (hM.inj i2 id _ _ g um hm (.inr ⟨_,_,u2,u3⟩) (.inr ⟨_,_,v2,v3⟩)) une
  ·rw[u0]at v0;simp only[cO]at v0;subst v0;obtain⟨h5,h6⟩:=(hM.apart i2 _ um (a-es.length) b g u2 u3).2 (a'-es.length) b' v2 v3;omega
 have fin:∀(q:aP)(w1:World),q.row=uL→nC w0.heap.size w w1→(∀k o,μ k=some o→w1.heap[k]?=some o)→(∀j b' g,bF (bR id (Wp src m)) id j=some b'→b'.owns (φ j) g→w1.heap[g]?=w.heap[g]?)→(∀g,q.g=some g→w0.heap.size≤g∧μ g=none∧(∀j b',bF (bR id (Wp src m)) id j=some b'→¬b'.owns (φ j) g)∧∀a b,(bW.nest s e (es++new)).rowAt a b=true→(uL a b).g≠some g)→(bu E.P μ (fun k=>if k=id then q else φ k) w1 id s e (es++new))→aL E.P G w0 μ (fun k=>if k=id then q else φ k) (aD (bF (bR id (Wp src m)) id) id (.nest s e (es++new))) w1∧cp E.P μ (fun k=>if k=id then q else φ k) (aD (bF (bR id (Wp src m)) id) id (.nest s e (es++new))) (fC id (kfS src f)) ρ:=by
  intro q w1 hq TW B0 hold H2 nB;refine⟨A2.put (by simp) TW B0 hold (fun g hg=>?_) (fun a b g Qz hg=>?_) nB (by simp[bW.names]) (fun st h=>by cases h),JU.mono (fun _ _ h=>h) fun j hj=>⟨by simp[aiZ j hj],by grind [aF]⟩⟩
  ·rcases hg with hg|⟨a,b,Qz,hg⟩
   ·grind
   grind
  grind
 rcases ab5 with⟨rfl,rfl,h1,h2⟩|⟨g',JT,c',T',rfl,b1,b2,b3,b4,b5,b6⟩
 ·have h1:es=[]:=ash h1;have h2:new=[]:=ash h2;obtain⟨k1,k2⟩:=fin {g:=none,cap:=0,len:=0,sz:=s,row:=uL} w' rfl (nC.refl _ _) hM.ro (fun _ _ _ _ _=>rfl) (fun g hg=>by cases hg) ⟨by simp[h1,h2],by simp,hs,Et,by simp[h1,h2],by simp[maxLen],by simp[h1,h2]⟩;exact⟨w',_,_,hr,k1,k2,.yg (by simp)⟩
 ·have hq:∀(w1:World)(T:TypeId),w1.heap[g']?=some (.cells c' T (0,0))→nD E.P μ uL w1 s (es++new) (os++xs)→bu E.P μ (fun k=>if k=id then({g:=some g',cap:=JT,len:=(es++new).length,sz:=s,row:=uL}:aP)else φ k) w1 id s e (es++new):=fun w1 T hh hC1=>nD.nest (g:=g') (c:=c') (by simp) hs Et (by simpa using b4) hh (by simpa using b2) (by simpa[TC]using b3) (by grind);have arL:au E.P μ (fun k=>if k=id then({g:=some g',cap:=JT,len:=(es++new).length,sz:=s,row:=uL}:aP)else φ k) (.os id) (.slice (some ⟨g',0,none⟩) (es.length+new.length) JT):=by have:=au.os (P:=E.P) (μ:=μ) (φ:=fun k=>if k=id then({g:=some g',cap:=JT,len:=(es++new).length,sz:=s,row:=uL}:aP)else φ k) (id:=id) (g:=g') (by simp);grind
  rcases b6 with⟨agB,hys,b6,b7⟩|⟨rfl,rfl⟩
  ·have dr:(φ id).g=some g':=by
    have key:∀z,au E.P μ φ (.os id) z→z=.slice (some ⟨g',0,none⟩) es.length agB→(φ id).g=some g':=by
     intro z hz he;cases hz with
     |yg _=>cases he
     |os hg=>grind
    exact key _ ha hys
   obtain⟨o1,o2⟩:=hM.own id _ g' hm (.inl dr);have TA:∀a b,(bW.nest s e (es++new)).rowAt a b=true→(uL a b).g≠some g':=by
    intro a b Qz hg;rcases py a b g' Qz hg with⟨u1,u2,u3⟩|⟨u1,i2,u0,une,um,u2,u3⟩
    ·exact(hM.apart id _ hm a b g' u2 u3).1 dr
    ·exact une (hM.inj i2 id _ _ g' um hm (.inr ⟨_,_,u2,u3⟩) (.inl dr))
   have Np:∀j b',bF (bR id (Wp src m)) id j=some b'→¬b'.owns (φ j) g':=fun j b' hj ho=>by obtain⟨k1,_,b2,k3,k4⟩:=bB j b' hj;exact k1 (hM.inj j id _ _ g' k3 hm (Uk k4 ho) (.inl dr))
   obtain⟨k1,k2⟩:=fin {g:=some g',cap:=JT,len:=(es++new).length,sz:=s,row:=uL} w' rfl (b6.mono o1) (fun k o hk=>by rw[b7 k (fun e=>by subst e;rw[o2 rfl]at hk;cases hk)];exact hM.ro k o hk) (fun j b' g hj ho=>b7 g fun e=>by grind) (fun g hg=>by
     simp only[cO]at hg;subst hg;exact⟨o1,o2 rfl,Np,TA⟩)
    (hq w' _ b1 (hCC.cF fun a e1 b p1 g he hp Qz hg=>b7 g fun e=>by grind [dR]))
   grind
  ·have hold:∀k,k<w.heap.size→(w.drew.alloc (.cells c' e)).heap[k]?=w.heap[k]?:=fun k hk=>nC.heap_alloc w.drew _ k hk;obtain⟨k1,k2⟩:=fin {g:=some w.heap.size,cap:=JT,len:=(es++new).length,sz:=s,row:=uL} (w.drew.alloc (.cells c' e)) rfl ((nC.refl _ w).drew.alloc hM.below.size _) (fun k o hk=>by
     have:=hM.ro k o hk;grind)
    (fun j b' g hj ho=>hold g ((A2.dW j b' hj).KP ho)) (fun g hg=>by
     simp only[cO]at hg;subst hg;refine⟨hM.below.size,?_,fun j b' hj ho=>?_,fun a b Qz hg=>?_⟩
     ·cases hq:μ w.heap.size with
      |none=>rfl
      |some o'=>have:=hM.ro _ _ hq;simp at this
     ·have:=(A2.dW j b' hj).KP ho;omega
     grind)
    (hq _ _ b1 (hCC.cF fun a e1 b p1 g he hp Qz hg=>hold g (agE a b g (by rw[dR he hp];omega) hg).2.2.1))
   grind
theorem Lc{m:Mem}:∀{cs:List V}{j0:Nat}{ps:List PV},nN m j0 cs=some (ps,none)→∀m2:Mem,nN m2 j0 cs=some (ps,none)
 |[],j0,ps,h,m2=>h
 |v::r,j0,ps,h,m2=>by
  unfold nN at h;split at h
  ·rename_i heq;cases heq
  ·grind
  ·rename_i j v' r' cU heq;simp only[atk]at heq;obtain⟨rfl,rfl⟩:=heq;unfold nN;split
   ·rename_i heq;cases heq
   ·simp_all
   ·rename_i j v' r' cU heq;simp only[atk]at heq;obtain⟨rfl,rfl⟩:=heq;split at h
    ·rename_i p hp;split at h
     ·rename_i ps' t ht;simp only[cO,apa]at h;obtain⟨rfl,rfl⟩:=h;rw[Lc ht m2]
     ·cases h
    omega
theorem CM{m m2:Mem}{j id2:Nat}(hm:m2 id2=m id2):∀{cs:List V}{j0:Nat}{ps:List PV},nN m j0 cs=some (ps,some (j,id2))→nN m2 j0 cs=some (ps,some (j,id2))
 |[],j0,ps,h=>by simp[nN]at h
 |v::r,j0,ps,h=>by
  unfold nN at h;split at h
  ·rename_i heq;cases heq
  ·rename_i j id r' heq;simp only[atk]at heq;obtain⟨rfl,rfl⟩:=heq;split at h
   ·rename_i s et es hmm;split at h
    ·rename_i ps' ht;simp only[cO,apa]at h;obtain⟨rfl,rfl,rfl⟩:=h;grind [nN,Lc]
    ·cases h
   ·cases h
  ·rename_i j v' r' cU heq;simp only[atk]at heq;obtain⟨rfl,rfl⟩:=heq;unfold nN;split
   ·rename_i heq;cases heq
   ·simp_all
   ·rename_i j v' r' cU heq;simp only[atk]at heq;obtain⟨rfl,rfl⟩:=heq;split at h
    ·rename_i p hp;split at h
     ·rename_i ps' t ht;simp only[cO,apa]at h;obtain⟨rfl,rfl⟩:=h;rw[CM hm ht]
     ·cases h
    omega
theorem Ul{site:Nat}{o:Oper}{f f2:Fr}{m m2:Mem}{sp:Sp}(h:Fy E site o f m=some sp)(hf:∀x∈o.op.operands,bQ E f2 x=bQ E f x)(hm:∀x∈(sp.info site).2,m2 x.2=m x.2):Fy E site o f2 m2=some sp:=by
 obtain⟨dst,op,type,pos,after,guard⟩:=o;unfold Fy at h⊢;cases op;case store t a x=>
  simp only at h⊢;rw[hf a (by simp[Op.operands]),hf x (by simp[Op.operands])];split at h
  ·rename_i id i off ha;split at h
   ·rename_i s et es hmm;split at h
    ·rename_i cs hc;split at h
     ·rename_i ps j id2 ht;split at h
      ·rename_i nA;simp only[cO]at h;subst h;have h1:m2 id=m id:=hm (true,id) (by simp[Sp.info]);have h2:m2 id2=m id2:=hm (true,id2) (by simp[Sp.info]);simp only[ha,h1,hmm,hc,CM h2 ht,nA,BY]
      ·cases h
     ·cases h
    ·cases h
   ·cases h
  omega
 case buildSlice t len parts=>
  simp only at h⊢;have Uh:(parts.toList.map fun(x:Nat×Operand)=>(x.1,bQ E f2 x.2))=parts.toList.map fun(x:Nat×Operand)=>(x.1,bQ E f x.2):=asD fun x hx=>by rw[hf x.2 (by simp only[Op.operands,at0,asx];exact⟨x,hx,rfl⟩)]
  rw[Uh];split at h
  ·rename_i e v hu hp;split at h
   ·rename_i cs hc;split at h
    ·rename_i ps j id2 ht hs;split at h
     ·rename_i p Py;split at h
      ·rename_i nA;simp only[cO]at h;subst h;have h1:m2 site=m site:=hm (true,site) (by simp[Sp.info]);have h2:m2 id2=m id2:=hm (true,id2) (by simp[Sp.info]);simp only[hu,hp,hc,CM h2 ht,h1,hs,Py,nA,BY]
      ·cases h
     ·cases h
    ·cases h
   ·cases h
  omega
 case call c=>
  obtain⟨callee,args,argTypes⟩:=c;simp only at h⊢;have wo:args.toList.map (bQ E f2)=args.toList.map (bQ E f):=asD fun x hx=>hf x (by simp_all[Op.operands,Call.operands]);rw[wo];split at h
  ·rename_i id x t t' ha Um;split at h
   ·rename_i e s et es hu hmm;split at h
    ·rename_i nA;have plain:∀{new:List PV}{rd:bN},fY m s x=some (new,rd)→x.has id=false→sp=.app id s et es new none rd→fY m2 s x=some (new,rd):=by grind [rV,Sp.info]
     split at h
     ·rename_i ye;split at h
      ·rename_i s' M5 new hm';split at h
       ·rename_i hc2;simp only[cO]at h;subst h;have h1:m2 id=m id:=hm (true,id) (by simp[Sp.info]);simp_all[Sp.info,BY]
       ·cases h
      ·rename_i hnn;split at h
       ·rename_i new rd N5;split at h
        ·cases h
        ·rename_i hxh;simp only[cO]at h;have acm:=plain N5 (by simpa using hxh) h.symm;subst h;have h1:m2 id=m id:=hm (true,id) (by simp[Sp.info]);simp only[ha,Um,hu,h1,hmm,nA,BY,acm];split
         ·rename_i s' M5 arZ cZ;exfalso;simp only[fY,cZ]at acm;cases acm
         ·rw[IT hxh]
       ·cases h
     ·rename_i ar0;split at h
      ·rename_i new rd N5;split at h
       ·cases h
       ·rename_i hxh;simp only[cO]at h;have acm:=plain N5 (by simpa using hxh) h.symm;subst h;have h1:m2 id=m id:=hm (true,id) (by simp[Sp.info]);simp only[ha,Um,hu,h1,hmm,nA,BY,acm];try rw[IT hxh]
      ·cases h
    ·cases h
   ·cases h
  ·cases h
 case mapUpdate t x key v=>
  simp only at h⊢;rw[hf x (by simp[Op.operands]),hf key (by simp[Op.operands]),hf v (by simp[Op.operands])];split at h
  ·rename_i kt et id id2 hu hx hv;split at h
   ·rename_i Ct e es s e' rs kp h1 h2 hk;split at h
    ·rename_i nA;simp only[cO]at h;subst h;have h3:m2 id=m id:=hm (true,id) (by simp[Sp.info]);have h4:m2 id2=m id2:=hm (true,id2) (by simp[Sp.info]);simp only[hu,hx,hv,h3,h4,h1,h2,hk,nA,BY]
    ·cases h
   ·cases h
  ·cases h
 all_goals (cases h)
end
end Go.Ab
