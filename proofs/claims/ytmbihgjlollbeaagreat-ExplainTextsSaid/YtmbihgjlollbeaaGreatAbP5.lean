import Derived.Test.YtmbihgjlollbeaaGreatAbP4
import Derived.RangeFuncRecord
import Derived.Laws.IdiomRangeMap
set_option linter.unusedVariables false
set_option linter.unusedSimpArgs false
namespace Go.Ab
section
variable {P:Program} {G:Nat→Option (List PV)} {w0:bw} {μ:Ro} {φ:Nat→aA} {m:Mem} {w:World}
theorem av.acx(hM:av P G w0 μ φ m w){g:Nat}(hB:w0.heap.size≤g)(acy:∀id b,m id=some b→¬b.owns (φ id) g):av P G w0 (oN μ w (some g)) φ m w:=by
 have mono:=kM hM (some g);refine⟨hM.below,fun b o hb=>?_,fun g' cs hg=>(hM.aF g' cs hg).mono mono,fun j c hj=>(hM.dw j c hj).cn (fun _ _=>rfl) rfl mono (fun _ _=>rfl),fun j c g' hj cv=>?_,hM.inj,hM.apart,hM.fu,fun b o hb bT=>?_,fun b o hb=>mono b o (hM.dy b o hb),hM.BH⟩
 ·unfold oN at hb;split at hb
  ·exact hb
  ·exact hM.ro b o hb
 ·obtain⟨h1,h2⟩:=hM.own j c g' hj cv;refine⟨h1,fun Fg=>?_⟩;unfold oN;split
  ·rename_i he;simp only[cN]at he;subst he;exact absurd cv (acy j c hj)
  ·exact h2 Fg
 ·unfold oN at hb;split at hb
  ·rename_i he;simp only[cN]at he;omega
  ·exact hM.base b o hb bT
theorem MW(w:World)(g:Nat)(o:Obj):jS g w (w.putObj g o):=⟨⟨rfl,rfl,rfl,by simp,fun k hk=>World.putObj_heap_other (by omega)⟩,fun _=>aiJ _⟩
theorem zo{A:Type}(f:A→Nat):∀{l:List A}{i:Nat}{e:A},l[i]?=some e→(∀(j:Nat)x,l[j]?=some x→f x=f e→j=i)→l.filter (fun x=> !(f x==f e))=l.eraseIdx i
 |[],i,e,h,_=>by simp at h
 |y::l,0,e,h,inj=>by simp only[aje,cN]at h;subst h;simp only[ajG,BEq.rfl,aiK,cT,T1,List.eraseIdx_cons_zero];rw[alq];intro x hx;obtain⟨j,hj⟩:=ajd.1 hx;simp only[aiT,ajf];intro e;have:=inj (j+1) x (by simpa using hj) e;omega
 |y::l,i+1,e,h,inj=>by
  have h':l[i]?=some e:=by simpa using h
  have dh:¬f y=f e:=fun e'=>by have:=inj 0 y rfl e';omega
  have hb:(f y==f e)=false:=by simpa using dh
  simp only[ajG,hb,ai4,IS,List.eraseIdx_cons_succ];rw[zo f h' (fun j x hj e'=>by have:=inj (j+1) x (by simpa using hj) e';omega)]
theorem Ga(en:Array MapEntry):kh en #[]=en.toList:=by unfold kh;rw[alq];intro x _;simp
variable{en:Array MapEntry}{clock:Nat}{seen:Array Nat}{e:MapEntry}
theorem DA(hb:kL en clock){i:Nat}(hi:(kh en seen)[i]?=some e):kh en (seen.push e.born)=(kh en seen).eraseIdx i:=by
 have h1:kh en (seen.push e.born)=(kh en seen).filter (fun x=> !(x.born==e.born)):=by unfold kh;rw[List.filter_filter];congr 1;funext x;simp only[Array.contains_push,Bool.not_or];rw[Bool.and_comm]
 rw[h1];refine zo (fun x=>x.born) hi fun j x hj e'=>?_;have hnd:(kh en seen).Pairwise fun a b=>a.born≠b.born:=by
  unfold kh;refine List.Pairwise.filter _ ?_;rw[ajW];intro a b ha gN sy he;have h2:en[a]?=some en.toList[a]:=by rw[←aiM];exact cO ha
  have h3:en[b]?=some en.toList[b]:=by rw[←aiM];exact cO gN
  have:=(hb b _ h3).2 a _ h2 he;omega
 have Cq:j<(kh en seen).length:=(AT.1 hj).1;have hil:i<(kh en seen).length:=(AT.1 hi).1;rw[cO Cq]at hj;rw[cO hil]at hi;simp only[cN]at hj hi;rw[ajW]at hnd;rcases Nat.lt_trichotomy j i with h|h|h
 ·exact absurd (by rw[hj,hi];exact e') (hnd j i Cq hil h)
 ·exact h
 ·exact absurd (by rw[hj,hi];exact e'.symm) (hnd i j hil Cq h)
theorem R4(h:e∈kh en seen):∃i:Nat,en[i]?=some e:=by unfold kh at h;have:=(aj1.1 h).1;obtain⟨i,hi⟩:=ajd.1 this;exact⟨i,by rw[←aiM];exact hi⟩
theorem R5{w:World}{g mg:Nat}(hg:w.heap[g]?=some (.mapIter (some mg) clock seen clock))(hm:w.heap[mg]?=some (.map en clock))(hb:kL en clock)(ty:TypeId):(kh en seen=[]∧(Instr.next (.pointer (some ⟨g,0,none⟩)) false ty).run P w=.ok (.tuple #[.bool false]) w)∨∃(j:Nat)(e:MapEntry)(w1:World),(kh en seen)[j]?=some e∧(w1=w∨w1=w.drew)∧(Instr.next (.pointer (some ⟨g,0,none⟩)) false ty).run P w=.ok (.tuple #[.bool true,e.key,e.val]) (w1.putObj g (.mapIter (some mg) clock (seen.push e.born) clock)):=by
 have hold:∀x∈en.toList,x.born<clock:=fun x hx=>by obtain⟨i,hi⟩:=ajd.1 hx;exact(hb i x (by rw[←aiM];exact hi)).1
 simp only[Instr.next,getObj,Sem.run_bind,Sem.run,hg,hm,Result.andThen,next_test_false seen en clock clock hold (aiJ _),cT,T1];have hL:(Array.filter (fun e=> !seen.contains e.born) en).toList=kh en seen:=by simp[kh]
 have bQ:∀x∈(Array.filter (fun e=> !seen.contains e.born) en).toList,x.born<clock:=fun x hx=>hold x (by simp at hx⊢;exact hx.1);generalize Array.filter (fun e=> !seen.contains e.born) en=L at bQ hL⊢;have e1:L.filter (fun x=>decide (x.born<clock))=L:=Array.filter_eq_self.2 (fun x hx=>by simpa using bQ x (by simpa using hx));have e2:L.filter (fun x=>decide (x.born≥clock))= #[]:=by rw[Array.filter_eq_empty_iff];intro x hx;have:=bQ x (by simpa using hx);simp;omega
 simp only[e1,e2,Array.append_empty];rw[←hL];by_cases h0:L.size=0
 ·left;have:L= #[]:=akv h0;subst this;refine⟨rfl,?_⟩;simp[choose,Sem.run,Question.forced]
 ·right;have dh:L.isEmpty=false:=by simp[Array.isEmpty,h0]
  simp only[dh,cT,T1,Array.empty_append,Array.size_map];have hch:∃(j:Nat)(w1:World),j<L.size∧(w1=w∨w1=w.drew)∧(choose (Question.mapNext L.size)).run P w=.ok j w1:=by
   by_cases hf:L.size≤1
   ·exact⟨0,w,by omega,.inl rfl,by simp[choose,Sem.run,Question.forced,hf]⟩
   ·exact⟨_,w.drew,alk _ (by omega),.inr rfl,by simp only[choose,Sem.run,Question.forced,IL,hf,T1,Question.cut];rfl⟩
  obtain⟨j,w1,hj,RY,ob⟩:=hch;refine⟨j,L[j],w1,by rw[aiM,IN hj],RY,?_⟩;have hg1:w1.heap[g]?=some (.mapIter (some mg) clock seen clock):=by rcases RY with rfl|rfl<;>exact hg
  have vz:(setObj g (.mapIter (some mg) clock (seen.push L[j].born) clock)).run P w1=.ok () (w1.putObj g (.mapIter (some mg) clock (seen.push L[j].born) clock)):=by simp only[setObj,Sem.run,hg1];rfl
  simp only[ob,akT,IN hj,aff,Sem.run_bind,vz,Result.andThen];rfl
theorem MX{w:World}{g mg:Nat}{i:Nat}(hg:w.heap[g]?=some (.mapIter (some mg) clock seen clock))(hm:w.heap[mg]?=some (.map en clock))(hb:kL en clock)(hi:en[i]?=some e)(hs:seen.back? =some e.born):(Instr.entry (.pointer (some ⟨g,0,none⟩))).run P w=.ok (.tuple #[e.key,e.val]) w:=by
 have hf:en.find? (·.born==e.born)=some e:=by
  rw[←Array.find?_toList];refine find_born e en.toList ?_ (by rw[ajH];exact akw hi);rw[List.Nodup,List.pairwise_map,ajW];intro a b ha gN sy he;have h2:en[a]?=some en.toList[a]:=by rw[←aiM];exact cO ha
  have h3:en[b]?=some en.toList[b]:=by rw[←aiM];exact cO gN
  have:=(hb b _ h3).2 a _ h2 he;omega
 simp only[Instr.entry,getObj,Sem.run_bind,Sem.run,hg,hm,Result.andThen,hs,bne_self_eq_false,cT,T1,hf];rfl
end
section
variable {R:Type} {E:Env}
variable{g:Nat→Option R}{r:R}
theorem MY{n:Nat}(h:ri n g=some r)(i:Nat)(hi:i<n):g i=some r:=by
 unfold ri at h;split at h
 ·rename_i hh;simp only[cN]at h;subst h;exact Classical.choose_spec hh i hi
 ·cases h
theorem DB{n:Nat}(h0:0<n)(h:∀i,i<n→g i=some r):ri n g=some r:=by unfold ri;have hh:∃r,∀i,i<n→g i=some r:=⟨r,h⟩;rw[alB hh];have:=Classical.choose_spec hh 0 h0;rw[h 0 h0]at this;exact this.symm
variable{k:V→Fr→Mem→Option R}
theorem R6{site:Nat}{t:TypeId}{x:V}{f:Fr}{m:Mem}(h:MC E site t x f m k=some r):∃f' m',k (.it site) f' m'=some r∧(m' site).isSome=true∧∀(G:Nat→Option (List PV))(w0:bw)(μ:Ro)(φ:Nat→aA)(w:World)(ρ:Nat→Value)(y:Value),av E.P G w0 μ φ m w→bU E.P μ φ m f ρ→ag E.P μ φ x y→∃w' y' μ' φ',(Instr.range t y).run E.P w=.ok y' w'∧av E.P G w0 μ' φ' m' w'∧bU E.P μ' φ' m' f' ρ∧ag E.P μ' φ' (.it site) y':=by
 unfold MC at h;split at h
 ·rename_i kt et hu;split at h
  ·rename_i id;split at h
   ·rename_i uR es hm;split at h
    ·obtain⟨f',m',hn,pX,vd,xz,uS⟩:=dY h;refine⟨f',m',pX,by simp[vd],fun G w0 μ φ w ρ y hM hF hx=>?_⟩;obtain⟨g,en,clock,kk,hg,hh,hs,E5,Qu,wK,hv⟩:=hM.dw id _ hm;obtain⟨o1,o2⟩:=hM.own id _ g hm (.inl hg);cases hx with
     |om cv=>
      rw[hg]at cv;simp only[cN]at cv;subst cv;have tE:=hM.forget id;have hM2:=tE.acx o1 (fun j b hj e=>by obtain⟨dh,b',gN,rfl⟩:=ff hj;exact dh (hM.inj j id b' _ g gN hm (fN.1 e) (.inl hg)));have Gb:=kM tE (some g);have Cp:bU E.P (oN μ w (some g)) φ (bj (bB id m) id) (eM id f) ρ:=(hF.forget id).mono Gb fun j hj=>⟨rfl,hj⟩;have jR:∀φ':Nat→aA,φ' site=(Cn (some w.heap.size) 0 0 0)→(∀j,(bF.iter t es none).names j=true→φ' j=φ j)→gf E.P (oN μ w (some g)) φ' (w.alloc (.mapIter (some g) clock #[] clock)) site (.iter t es none):=fun φ' hp _=>by
       refine⟨w.heap.size,g,en,clock,#[],by rw[hp],fj w _,by simp[oN,hh],wK,(by rw[Ga,ajD,hs]),fun i k v e h1 h2=>?_,fun k v h=>by cases h⟩;have h2':en[i]?=some e:=by rw[←aiM,←Ga en];exact h2
       exact⟨(hv i k v e h1 h2').1.mono Gb,(hv i k v e h1 h2').2.mono Gb⟩
      obtain⟨φ',a1,a2,a3⟩:=uS E.P G w0 _ φ w (w.alloc (.mapIter (some g) clock #[] clock)) ρ (Cn (some w.heap.size) 0 0 0) hM2 Cp (jM.alloc (o:=.mapIter (some g) clock #[] clock) hM2 rfl jR (by simp[bF.names]));exact⟨_,_,_,φ',run_range_map w t kt et g en clock hu hh,a2,a3,.it (by rw[a1])⟩
    ·cases h
   ·cases h
  ·cases h
 ·cases h
theorem zp{A:Type}{l:List A}{i j:Nat}{x:A}(h:(l.eraseIdx i)[j]?=some x):l[if j<i then j else j+1]?=some x:=by
 rw[ak7]at h;split at h
 ·rename_i bT;rw[AI bT];exact h
 ·rename_i bT;rw[By bT];exact h
theorem Us{x:V}{f:Fr}{m:Mem}(h:TW E x f m k=some r)(G:Nat→Option (List PV))(w0:bw)(μ:Ro)(φ:Nat→aA)(w:World)(y:Value)(ty:TypeId)(hM:av E.P G w0 μ φ m w)(hx:ag E.P μ φ x y):∃v m' y' w',k v f m'=some r∧(∀id,v.has id=false)∧jj m m'∧(Instr.next y false ty).run E.P w=.ok y' w'∧av E.P G w0 μ φ m' w'∧ag E.P μ φ v y':=by
 unfold TW at h;split at h
 ·rename_i id;split at h
  ·rename_i t es cur hm;split at h
   ·rename_i kt et hu;obtain⟨g,mg,en,clock,seen,hg,hh,Fg,wK,CJ,hv,_⟩:=hM.dw id _ hm;obtain⟨o1,o2⟩:=hM.own id _ g hm (.inl hg);cases hx with
    |it cv=>
     rw[hg]at cv;simp only[cN]at cv;subst cv;have hmg:=hM.ro _ _ Fg;rcases R5 (P:=E.P) hh hmg wK ty with⟨Xn,ob⟩|⟨j,e,w1,hj,R7,ob⟩
     ·have:es=[]:=by rw[Xn]at CJ;exact ahk CJ.symm
      subst this;simp only[List.isEmpty_nil,IS]at h;refine⟨_,m,_,w,h,by simp[V.has,cd],jj.refl m,ob,hM,.aP rfl fun i p x hp hx=>?_⟩;cases i with
      |zero=>simp at hp hx;subst hp;subst hx;exact .pv .bool
      |succ i=>simp at hp
     ·have Cq:j<(kh en seen).length:=(AT.1 hj).1;have dh:¬es.isEmpty=true:=by
       have eB:0<es.length:=by omega
       intro e';rw[List.isEmpty_iff]at e';rw[e']at eB;exact absurd eB (Nat.lt_irrefl 0)
      rw[By dh]at h;have h:=MY h j (by omega);obtain⟨e0,Ut,h⟩:=cQ.1 h;obtain⟨qa,_,ha,ra,_⟩:=kA h;obtain⟨qb,_,hb,rb,_⟩:=kA ha;obtain⟨rk,rv⟩:=hv j e0.1 e0.2 e Ut hj;refine⟨_,_,_,_,hb,by simp[V.has,cd],.set,ob,?_,.aP rfl fun i p x hp hx=>?_⟩
      ·have tE:av E.P G w0 μ φ m w1:=by rcases R7 with rfl|rfl;exact hM;exact hM.drew
       have bT:g<w1.heap.size:=by have:g<w.heap.size:=(OF.1 hh).1;rcases R7 with rfl|rfl<;>exact this
       refine tE.write hm rfl hg (MW w1 g _) World.putObj_size (fun k hk=>World.putObj_heap_other hk) ?_ rfl (by simp[bF.names]);refine⟨g,mg,en,clock,seen.push e.born,hg,World.putObj_heap_same bT,Fg,wK,?_,fun i k v e' h1 h2=>?_,fun k v hc=>?_⟩
       ·rw[DA wK hj,akD,akD,CJ]
       ·rw[DA wK hj]at h2;exact hv _ k v e' (zp h1) (zp h2)
       ·simp only[cN,IT]at hc;obtain⟨rfl,rfl⟩:=hc;obtain⟨i,hi⟩:=R4 (abV hj);exact⟨i,e,hi,by simp,ra _ _ _ rk,rb _ _ _ rv⟩
      ·match i with
       |0=>simp at hp hx;subst hp;subst hx;exact .pv .bool
       |1=>simp at hp hx;subst hp;subst hx;exact .pv (ra _ _ _ rk)
       |2=>simp at hp hx;subst hp;subst hx;exact .pv (rb _ _ _ rv)
       |i+3=>simp at hp
   ·cases h
  ·cases h
 ·cases h
theorem R8{x:V}{m:Mem}{k:V→Mem→Option R}(h:MD x m k=some r)(P:Program)(G:Nat→Option (List PV))(w0:bw)(μ:Ro)(φ:Nat→aA)(w:World)(y:Value)(hM:av P G w0 μ φ m w)(hx:ag P μ φ x y):∃v m' y',k v m'=some r∧(∀id,v.has id=false)∧jj m m'∧(Instr.entry y).run P w=.ok y' w∧av P G w0 μ φ m' w∧ag P μ φ v y':=by
 unfold MD at h;split at h
 ·rename_i id;split at h
  ·rename_i t es a b hm;obtain⟨g,mg,en,clock,seen,hg,hh,Fg,wK,CJ,hv,hcu⟩:=hM.dw id _ hm;obtain⟨i,e,hi,hs,ra,rb⟩:=hcu a b rfl;cases hx with
   |it cv=>
    rw[hg]at cv;simp only[cN]at cv;subst cv;refine⟨_,_,_,h,by simp[V.has,cd],.set,MX hh (hM.ro _ _ Fg) wK hi hs,?_,.aP rfl fun i p x hp hx=>?_⟩
    ·exact hM.write hm rfl hg (jS.refl _ _) rfl (fun _ _=>rfl) ⟨g,mg,en,clock,seen,hg,hh,Fg,wK,CJ,hv,fun k v h=>by cases h⟩ rfl (by simp[bF.names])
    match i with
    |0=>simp at hp hx;subst hp;subst hx;exact .pv ra
    |1=>simp at hp hx;subst hp;subst hx;exact .pv rb
    |i+2=>simp at hp
  ·cases h
 ·cases h
end
section
variable {P:Program} {G:Nat→Option (List PV)} {w0:bw} {μ μ':Ro} {φ φ':Nat→aA} {m m':Mem} {w w':World}
variable{id j:Nat}{b:bF}
theorem gQ(h:eT id m j=some b):∃b',m j=some b'∧b=dH id b':=by
 unfold eT at h;cases hm:m j with
 |none=>rw[hm]at h;cases h
 |some b'=>rw[hm]at h;simp only[cN]at h;exact⟨b',rfl,h.symm⟩
theorem nB:(eT id m j).isSome=(m j).isSome:=by unfold eT;cases m j<;>rfl
theorem BS(id:Nat)(b:bF):(dH id b).rowAt=b.rowAt:=by cases b<;>rfl
theorem pZ{p:aA}{g:Nat}:(dH id b).owns p g↔b.owns p g:=by unfold bF.owns;rw[BS]
theorem vC{p:aA}:(dH id b).apart p↔b.apart p:=by unfold bF.apart;rw[BS]
theorem yq(id:Nat)(b:bF):(dH id b).iO=b.iO:=by cases b<;>rfl
theorem MZ{cs:List V}(h:cd j (cs.map (mS id))=true):cd j cs=true:=by obtain⟨v,hv,hh⟩:=cC.1 h;obtain⟨u,hu,rfl⟩:=aiR.1 hv;exact bH hu (wM hh).1
theorem gf.xo{id j:Nat}{b:bF}(h:gf P μ φ w j b):gf P μ φ w j (dH id b):=by
 cases b with
 |box cs=>obtain⟨g,c,T,hg,hh,hs,hv,h1,CJ⟩:=h;refine⟨g,c,T,hg,hh,by simpa using hs,fun i v x hi hx=>?_,h1,by simpa using CJ⟩;simp only[GP,Yo]at hi;obtain⟨u,hu,rfl⟩:=hi;exact(hv i u x hu hx).xo id
 |_=>exact h
theorem av.tG(hM:av P G w0 μ φ m w)(id:Nat):av P G w0 μ φ (eT id m) w:=by
 refine⟨hM.below,hM.ro,hM.aF,fun j b h=>?_,fun j b g h hg=>?_,fun i j b1 b2 g h1 h2 g1 g2=>?_,fun j b h=>?_,fun j cs i h hh=>?_,hM.base,hM.dy,fun j st h=>?_⟩
 ·obtain⟨b',hb,rfl⟩:=gQ h;exact(hM.dw j b' hb).xo
 ·obtain⟨b',hb,rfl⟩:=gQ h;rw[yq];exact hM.own j b' g hb (pZ.1 hg)
 ·obtain⟨b1',Y0,rfl⟩:=gQ h1;obtain⟨b2',uw,rfl⟩:=gQ h2;exact hM.inj i j b1' b2' g Y0 uw (pZ.1 g1) (pZ.1 g2)
 ·obtain⟨b',hb,rfl⟩:=gQ h;exact vC.2 (hM.apart j b' hb)
 ·obtain⟨b',hb,e⟩:=gQ h;cases b' with
  |box ML=>simp only[dH,bF.box.injEq]at e;subst e;rw[nB];exact hM.fu j ML i hb (MZ hh)
  |_=>simp[dH]at e
 ·obtain⟨b',hb,e⟩:=gQ h;cases b' with
  |loop st'=>simp only[dH,bF.loop.injEq]at e;subst e;exact hM.BH j st hb
  |_=>simp[dH]at e
variable{ρ:Nat→Value}
theorem bU.tG{f:Fr}(h:bU P μ φ m f ρ)(id:Nat):bU P μ φ (eT id m) (gz id f) ρ:=⟨fun t=>(h.fr t).xo id,fun t j hj=>by rw[nB];exact h.live t j (wM hj).1⟩
theorem av.km:∀{kl:Kl}{m:Mem},av P G w0 μ φ m w→av P G w0 μ φ (Go.Ab.km kl m) w
 |[],_,h=>h
 |(true,id)::r,m,h=>(av.km (kl:=r) (m:=bj (bB id m) id) (h.forget id):)
 |(false,id)::r,m,h=>(av.km (kl:=r) (m:=eT id m) (h.tG id):)
theorem bU.km{ρ:Nat→Value}:∀{kl:Kl}{m:Mem}{f:Fr},bU P μ φ m f ρ→bU P μ φ (Go.Ab.km kl m) (kf kl f) ρ
 |[],_,_,h=>h
 |(true,id)::r,m,f,h=>(bU.km (kl:=r) (m:=bj (bB id m) id) (f:=eM id f) (h.forget id):)
 |(false,id)::r,m,f,h=>(bU.km (kl:=r) (m:=eT id m) (f:=gz id f) (h.tG id):)
theorem av.QE(hM:av P G w0 μ φ m w)(nw:Nat→Nat→Nat)(hblk:∀j b',m' j=some b'→gf P μ φ' w j b')(yo:∀j b' g,m' j=some b'→b'.owns (φ' j) g→∃k b,m k=some b∧b.owns (φ k) g∧(b'.iO=true→b.iO=true)∧j=nw g k)(E4:∀j b',m' j=some b'→b'.apart (φ' j))(BG:∀j cs id,m' j=some (.box cs)→cd id cs=true→(m' id).isSome=true)(ags:∀j st,m' j=some (.loop st)→m j=some (.loop st)∧(φ' j).g=(φ j).g):av P G w0 μ φ' m' w:=by
 refine⟨hM.below,hM.ro,hM.aF,hblk,fun j b' g h hg=>?_,fun i j b1 b2 g h1 h2 g1 g2=>?_,E4,BG,hM.base,hM.dy,fun j st h=>?_⟩
 ·obtain⟨k,b,hk,ho,Fg,_⟩:=yo j b' g h hg;obtain⟨o1,o2⟩:=hM.own k b g hk ho;exact⟨o1,fun h=>o2 (Fg h)⟩
 ·obtain⟨k1,c1,R9,ho1,_,e1⟩:=yo i b1 g h1 g1;obtain⟨k2,c2,Xo,ho2,_,e2⟩:=yo j b2 g h2 g2;rw[e1,e2,hM.inj k1 k2 c1 c2 g R9 Xo ho1 ho2]
 ·obtain⟨h1,h2⟩:=ags j st h;obtain⟨g,rc,r1,r2,r3⟩:=hM.BH j st h1;exact⟨g,rc,by rw[h2];exact r1,r2,r3⟩
def jC(p:aA)(i off:Nat)(r:BI):aA:={p with row:=fun a b=>if a=i∧b=off then r else p.row a b}
theorem fW(p:aA)(i off:Nat)(r:BI):(jC p i off r).row i off=r:=by simp[jC]
theorem gg(p:aA){i off a b:Nat}(r:BI)(h:¬(a=i∧b=off)):(jC p i off r).row a b=p.row a b:=by simp[jC,h]
theorem gf.QF(h:gf P μ φ w j (dH id b))(hj:j≠id)(h0:(φ' id).toBI=(φ id).toBI)(hφ:∀k,k≠id→φ' k=φ k):gf P μ φ' w j (dH id b):=by
 have e:=hφ j hj;cases b with
 |box cs=>
  obtain⟨g,c,T,hg,hh,hs,hv,h1,CJ⟩:=h;refine⟨g,c,T,by rw[e];exact hg,hh,hs,fun i v x hi hx=>?_,h1,by rw[e];exact CJ⟩;refine(hv i v x hi hx).YV (fun _ _ h=>h) fun k hk=>?_;by_cases Xp:k=id
  ·subst Xp;refine⟨h0,fun h2=>?_⟩;simp only[GP,Yo]at hi;obtain⟨u,hu,rfl⟩:=hi;rw[(wM hk).2]at h2;cases h2
  ·rw[hφ k Xp];exact⟨rfl,fun _=>rfl⟩
 |arr sz et es=>exact gf.cn h (fun k hk=>by simp[bF.names,dH]at hk) e (fun _ _ h=>h) (fun _ _=>rfl)
 |pt sz et es=>exact gf.cn h (fun k hk=>by simp[bF.names,dH]at hk) e (fun _ _ h=>h) (fun _ _=>rfl)
 |map kt es=>exact gf.cn h (fun k hk=>by simp[bF.names,dH]at hk) e (fun _ _ h=>h) (fun _ _=>rfl)
 |nest sz et es=>exact gf.cn h (fun k hk=>by simp[bF.names,dH]at hk) e (fun _ _ h=>h) (fun _ _=>rfl)
 |eV kt e0 es=>exact gf.cn h (fun k hk=>by simp[bF.names,dH]at hk) e (fun _ _ h=>h) (fun _ _=>rfl)
 |loop st=>exact gf.cn h (fun k hk=>by simp[bF.names,dH]at hk) e (fun _ _ h=>h) (fun _ _=>rfl)
 |iter t es cur=>exact gf.cn h (fun k hk=>by simp[bF.names,dH]at hk) e (fun _ _ h=>h) (fun _ _=>rfl)
theorem bU.Y8{f:Fr}(h:bU P μ φ m (gz id f) ρ)(h0:(φ' id).toBI=(φ id).toBI)(hφ:∀k,k≠id→φ' k=φ k)(hl:∀j,(m j).isSome=true→(m' j).isSome=true):bU P μ φ' m' (gz id f) ρ:=by
 refine⟨fun t=>(h.fr t).YV (fun _ _ h=>h) fun k hk=>?_,fun t j hj=>hl j (h.live t j hj)⟩;by_cases Xp:k=id
 ·subst Xp;refine⟨h0,fun h2=>?_⟩;have:=(wM (show(mS k (f t)).has k=true from hk)).2;rw[show gz k f t=mS k (f t)from rfl,this]at h2;cases h2
 ·rw[hφ k Xp];exact⟨rfl,fun _=>rfl⟩
theorem fg{id2:Nat}{b':bF}(h:al (eT id (bj (bB id2 m) id2)) id b j=some b'):(j=id∧b'=b)∨(j≠id∧j≠id2∧∃c,m j=some c∧b'=dH id (fU id2 c)):=by
 by_cases e:j=id
 ·subst e;rw[bm]at h;simp only[cN]at h;exact .inl ⟨rfl,h.symm⟩
 ·rw[ao e]at h;obtain⟨c1,h1,rfl⟩:=gQ h;obtain⟨dh,c,hc,rfl⟩:=ff h1;exact .inr ⟨e,dh,c,hc,rfl⟩
theorem M0{x:Value}(h:ag P μ φ (.os id) x):ag P μ (fun _=>((φ id).toBI).up) (.os 0) x:=by
 cases h with
 |qY h=>exact .qY h
 |os h=>exact .os (id:=0) (φ:=fun _=>((φ id).toBI).up) h
theorem aH.up{sz:Nat}{et:TypeId}{es:List PV}(h:aH P μ φ w id sz et es):aH P μ (fun _=>((φ id).toBI).up) w 0 sz et es:=h
theorem av.aag(hM:av P G w0 μ φ m w){id2 i off s s2:Nat}{et JV:TypeId}{es rs:List PV}{e q:PV}{x:Value}(dh:id2≠id)(hm:m id=some (.nest s et es))(cL:m id2=some (.arr s2 JV rs))(he:es[i]?=some e)(xx:e.cells[off]?=some .bad)(hx:∀g c T,(φ id).g=some g→w.heap[g]?=some (.cells c T (0,0))→c[i*s+off]?=some x)(hv:ag P μ φ (.os id2) x)(hq:q.cells=e.cells.set off (.oX s2 rs)):av P G w0 μ (fun j=>if j=id then jC (φ id) i off (φ id2).toBI else φ j) (al (eT id (bj (bB id2 m) id2)) id (.nest s et (es.set i q))) w:=by
 have tE:=(hM.forget id2).tG id;have hN:aW P μ φ w id s et es:=hM.dw id _ hm;have hA2:aH P μ φ w id2 s2 JV rs:=hM.dw id2 _ cL;have hil:i<es.length:=(AT.1 he).1;have hol:off<e.cells.length:=(AT.1 xx).1;have jT:∀a b,(bF.nest s et (es.set i q)).rowAt a b=true→(a=i∧b=off)∨((bF.nest s et es).rowAt a b=true∧¬(a=i∧b=off)):=by
  intro a b hr;by_cases sy:a=i∧b=off
  ·exact .inl sy
  ·refine .inr ⟨?_,sy⟩;rcases jh hr with⟨_,_,_,e',s',rs',gN,h',sL⟩|⟨_,_,_,_,_,_,gN,_⟩
   ·simp only[bF.nest.injEq]at gN;obtain⟨rfl,rfl,rfl⟩:=gN;rcases eN h' with⟨rfl,rfl⟩|⟨WJ,h'⟩
    ·rw[hq]at sL;rcases eN sL with⟨rfl,_⟩|⟨hnj,sL⟩
     ·exact absurd ⟨rfl,rfl⟩ sy
     ·rw[du he sL];rfl
    ·rw[du h' sL];rfl
   ·cases gN
 refine hM.QE (fun _ k=>if k=id2 then id else k) (fun j b' hj=>?_) (fun j b' g hj ho=>?_) (fun j b' hj=>?_) (fun j cs k hj hk=>?_) (fun j st hj=>?_)
 ·rcases fg hj with⟨rfl,rfl⟩|⟨h1,h2,c,hc,rfl⟩
  ·show aW P μ (fun k=>if k=j then jC (φ j) i off (φ id2).toBI else φ k) w j s et (es.set i q);refine aW.change (μ':=μ) (w':=w) (es':=es.set i q) hN (by simp) (fun i' e' h'=>?_) (by simp[jC]) (fun _ _=>rfl) (fun i' e' j' p' g c T x' h' sL hg hc QB hold=>?_)
   ·rcases eN h' with⟨_,rfl⟩|⟨_,h'⟩
    ·rw[hq,ako];exact hN.2.2.2.2.1 i e he
    ·exact hN.2.2.2.2.1 i' e' h'
   ·simp only[IS];by_cases sy:i'=i∧j'=off
    ·obtain⟨rfl,rfl⟩:=sy;rw[fW];have e1:e'=q:=by
      rcases eN h' with⟨_,h⟩|⟨h,_⟩
      ·exact h
      ·exact absurd rfl h
     subst e1;rw[hq]at sL;have e2:p'=.oX s2 rs:=by
      rcases eN sL with⟨_,h⟩|⟨h,_⟩
      ·exact h
      ·exact absurd rfl h
     subst e2;have e3:x'=x:=by have:=hx g c _ hg hc;rw[QB]at this;simpa using this
     subst e3;exact⟨⟨JV,hA2.up⟩,M0 hv⟩
    ·rw[gg _ _ sy];rcases eN h' with⟨rfl,rfl⟩|⟨WJ,h'⟩
     ·rw[hq]at sL;rcases eN sL with⟨rfl,_⟩|⟨hnj,sL⟩
      ·exact absurd ⟨rfl,rfl⟩ sy
      ·exact hold e p' he sL
     ·exact hold e' p' h' sL
  ·have hb:gf P μ φ w j (dH id (fU id2 c)):=(hM.dw j c hc).kill.xo;exact hb.QF h1 (by simp[jC]) fun k hk=>by simp[hk]
 ·rcases fg hj with⟨rfl,rfl⟩|⟨h1,h2,c,hc,rfl⟩
  ·simp only[IS]at ho;rcases ho with ho|⟨a,b,hr,ho⟩
   ·exact⟨j,_,hm,.inl ho,fun _=>rfl,by simp[dh.symm]⟩
   ·rcases jT a b hr with⟨rfl,rfl⟩|⟨yY,sy⟩
    ·rw[fW]at ho;exact⟨id2,_,cL,.inl ho,fun _=>rfl,by simp⟩
    ·rw[gg _ _ sy]at ho;exact⟨j,_,hm,.inr ⟨a,b,yY,ho⟩,fun _=>rfl,by simp[dh.symm]⟩
  ·simp only[h1,T1]at ho;exact⟨j,c,hc,fN.1 (pZ.1 ho),fun h=>by rw[yq,wR]at h;exact h,by simp[h2]⟩
 ·rcases fg hj with⟨rfl,rfl⟩|⟨h1,h2,c,hc,rfl⟩
  ·simp only[IS];have E4:=hM.apart j _ hm;have new:∀g,(φ id2).g=some g→¬(bF.nest s et es).owns (φ j) g:=fun g hg ho=>dh (hM.inj id2 j _ _ g cL hm (.inl hg) ho);intro a b g hr hg;rcases jT a b hr with⟨rfl,rfl⟩|⟨yY,sy⟩
   ·rw[fW]at hg;refine⟨fun h=>new g hg (.inl h),fun a' b' Sa M1=>?_⟩;rcases jT a' b' Sa with h|⟨Xq,M3⟩
    ·exact h
    ·rw[gg _ _ M3]at M1;exact absurd (.inr ⟨a',b',Xq,M1⟩) (new g hg)
   ·rw[gg _ _ sy]at hg;obtain⟨h3,h4⟩:=E4 a b g yY hg;refine⟨h3,fun a' b' Sa M1=>?_⟩;rcases jT a' b' Sa with⟨rfl,rfl⟩|⟨Xq,M3⟩
    ·rw[fW]at M1;exact absurd (.inr ⟨a,b,yY,hg⟩) (new g M1)
    ·rw[gg _ _ M3]at M1;exact h4 a' b' Xq M1
  ·simp only[h1,T1];exact vC.2 (tD.2 (hM.apart j c hc))
 ·rcases fg hj with⟨rfl,hb⟩|⟨h1,h2,c,hc,hb⟩
  ·cases hb
  ·have Jo:eT id (bj (bB id2 m) id2) j=some (.box cs):=by rw[ao h1]at hj;exact hj
   have:=tE.fu j cs k Jo hk;by_cases e:k=id
   ·subst e;simp
   ·rw[ao e];exact this
 ·rcases fg hj with⟨rfl,hb⟩|⟨h1,h2,c,hc,hb⟩
  ·cases hb
  ·cases c<;>first|(simp[dH,fU]at hb;done)|skip
   simp only[dH,fU,bF.loop.injEq]at hb;subst hb;exact⟨hc,by simp[h1]⟩
end
def kO(k:PV):List (PV×PV)→Option Nat
 |[]=>none
 |(a,_)::r=>if dr k.cells a.cells then some 0 else(kO k r).map (·+1)
def iP(es:List (PV×PV)):List (PV×PV):=es.map fun x=>(x.1,.bad)
theorem DC(k:PV):∀es,kO k (iP es)=kO k es
 |[]=>rfl
 |(a,u)::r=>by simp only[iP,aiL,kO];rw[←DC k r];rfl
theorem CL{k:PV}:∀{es:List (PV×PV)}{j:Nat},kO k es=some j→∃a u,es[j]?=some (a,u)∧dr k.cells a.cells=true
 |(a,u)::r,j,h=>by
  simp only[kO]at h;split at h
  ·rename_i hp;simp only[cN]at h;subst h;exact⟨a,u,rfl,hp⟩
  ·obtain⟨i,hi,rfl⟩:=Yo.1 h;simpa using CL hi
theorem lT(k v:PV):∀es,dE k v es=match kO k es with|some j=>es.set j (k,v)|none=>es++[(k,v)]
 |[]=>rfl
 |(a,u)::r=>by
  simp only[dE,kO];split
  ·rfl
  ·rw[lT k v r];cases kO k r<;>rfl
theorem sN(k:PV):∀es,q9 k es=match kO k es with|some j=>es.modify j fun x=>(x.1,.bad)|none=>es
 |[]=>rfl
 |(a,u)::r=>by
  simp only[q9,kO];split
  ·rfl
  ·rw[sN k r];cases kO k r<;>simp
theorem JW(sz:Nat)(k:PV):∀es,Jt sz k es=match kO k es with|some j=>(es[j]?).bind fun x=>eL sz x.2|none=>some []
 |[]=>rfl
 |(a,u)::r=>by
  simp only[Jt,kO];split
  ·simp
  ·rw[JW sz k r];cases kO k r<;>simp
theorem Gc{k z:PV}{l:List (PV×PV)}{es:List MapEntry}{i:Nat}{r:Option (Nat×Value)}(h:Found k .oW z (iP l) es i r):(r=none∧kO k l=none)∨∃j e,r=some (i+j,e.val)∧es[j]?=some e∧kO k l=some j:=by
 cases h with
 |none h1 h2 h3=>
  refine .inl ⟨rfl,?_⟩;rw[lT]at h3;rw[←DC];cases hp:kO k (iP l)with
  |none=>rfl
  |some j=>rw[hp]at h3;have:=congrArg List.length h3;simp at this
 | @some j a u e h1 h2 h3 h4 h5 h6=>
  refine .inr ⟨j,e,rfl,h2,?_⟩;rw[lT]at h6;rw[←DC];have bT:j<(iP l).length:=(AT.1 h1).1;cases hp:kO k (iP l)with
  |none=>rw[hp]at h6;have:=congrArg List.length h6;simp at this
  |some j'=>
   rw[hp]at h6;simp only at h6;obtain⟨a',u',Jo,_⟩:=CL hp;have agt:j'<(iP l).length:=(AT.1 Jo).1;have e1:((iP l).set j (k,.oW))[j']?=some (k,.oW):=by rw[←h6];simp[agt]
   rw[ai9]at e1;split at e1
   ·rename_i h;rw[h]
   ·exfalso;simp only[iP,GP,Yo]at e1;obtain⟨x,_,hx⟩:=e1;simp at hx
section
variable {P:Program} {G:Nat→Option (List PV)} {w0:bw} {μ μ':Ro} {φ φ':Nat→aA} {m m':Mem} {w w':World}
def DD(P:Program)(μ:Ro)(R:BI)(w:World)(e0:TypeId)(v:PV)(x:Value):Prop:=match v with
 |.oX s rs=>aH P μ (fun _=>R.up) w 0 s e0 rs∧ag P μ (fun _=>R.up) (.os 0) x
 |v=>ah P μ v x
variable{e0:TypeId}
theorem DD.pure{R:BI}{v:PV}{x:Value}(h:ah P μ v x):DD P μ R w e0 v x:=by
 unfold DD;split
 ·cases h
 ·exact h
structure M4(P:Program)(μ:Ro)(p:aA)(w:World)(kt e0:TypeId)(es:List (PV×PV))(g:Nat)(en:Array MapEntry)(clock:Nat)(kk:List Kd):Prop where
 pl:p.g=some g
 heap:w.heap[g]?=some (.map en clock)
 size:en.size=es.length
 As:re P kt=some kk
 key:∀(i:Nat)k v,es[i]?=some (k,v)→uq P kt kk k=true
 born:kL en clock
 rep:∀(i:Nat)k v e,es[i]?=some (k,v)→en[i]?=some e→ah P μ k e.key∧DD P μ (p.row i 0) w e0 v e.val
variable{kt:TypeId}{es:List (PV×PV)}
theorem sO{id:Nat}:gf P μ φ w id (.eV kt e0 es)↔∃g en clock kk,M4 P μ (φ id) w kt e0 es g en clock kk:=by
 constructor
 ·rintro⟨g,en,clock,kk,h1,h2,h3,h4,h5,h6,h7⟩;exact⟨g,en,clock,kk,h1,h2,h3,h4,h5,h6,fun i k v e a b=>h7 i k v e a b⟩
 ·rintro⟨g,en,clock,kk,h1,h2,h3,h4,h5,h6,h7⟩;exact⟨g,en,clock,kk,h1,h2,h3,h4,h5,h6,fun i k v e a b=>h7 i k v e a b⟩
variable{en:Array MapEntry}
theorem M4.ent{p:aA}{g:Nat}{clock:Nat}{kk:List Kd}(h:M4 P μ p w kt e0 es g en clock kk):vA P μ kt kk (iP es) en.toList:=by
 refine⟨by simp[iP,h.size],fun i k v hi=>?_,fun i k v e hi he=>?_⟩
 ·simp only[iP,GP,Yo]at hi;obtain⟨⟨a,u⟩,hq,hx⟩:=hi;simp only[IT]at hx;obtain⟨rfl,rfl⟩:=hx;exact h.key i a u hq
 ·simp only[iP,GP,Yo]at hi;obtain⟨⟨a,u⟩,hq,hx⟩:=hi;simp only[IT]at hx;obtain⟨rfl,rfl⟩:=hx;exact⟨(h.rep i a u e hq (by simpa using he)).1,.bad⟩
theorem DE{t et:TypeId}{ks:List Kd}{key:PV}{zv yi:Value}{g clock:Nat}{l:List (PV×PV)}(hu:P.underlying t=some (.map kt et))(hk:re P kt=some ks)(xf:uq P kt ks key=true)(hyi:ah P μ key yi)(hg:w.heap[g]?=some (.map en clock))(hE:vA P μ kt ks (iP l) en.toList)(hz:(zeroValue et).run P w=.ok zv w):(kO key l=none∧(Instr.lookup t (.map (some g)) yi false).run P w=.ok zv w)∨∃j e,kO key l=some j∧en[j]?=some e∧(Instr.lookup t (.map (some g)) yi false).run P w=.ok e.val w:=by
 have R1:=wT hk;obtain⟨hc,hv⟩:=lj xf hyi;obtain⟨r,r1,r2⟩:=kD (v:=.oW) (z:=.bad) R1 hc w hE;have h1:=gC 8 kt ks R1 9992 w en.isEmpty key.cells hc;have Fh:=Go.MapKept.run_getObj_map (P:=P) hg;have WK:(Instr.checkKey en.isEmpty 10000 kt (eC P kt key.cells)).run P w=.ok () w:=h1;rw[hv];unfold Instr.lookup;simp only[Sem.run_bind,run_underlying hu,Result.andThen_ok,Sem.run_pure,Fh];rcases Gc r2 with⟨rfl,h⟩|⟨j,e,rfl,he,h⟩
 ·exact .inl ⟨h,by simp[WK,r1,hz]⟩
 ·exact .inr ⟨j,e,h,by simpa using he,by simp[WK,r1]⟩
end
section
variable {R:Type} {E:Env}
theorem M5{t:TypeId}(h:zeroV E.P t=some .gy)(w:World):(zeroValue t).run E.P w=.ok (.slice none 0 0) w:=by unfold zeroV at h;obtain⟨c,hc,h⟩:=Yo.1 h;obtain⟨i,hi,hz⟩:=cQ.1 hc;have:=sH (P:=E.P) (μ:=fun _=>none) (φ:=fun _=>default) c;rw[h]at this;cases this;exact nA hi hz
theorem Uu{site:Nat}{t:TypeId}{x ix:V}{m:Mem}{k:V→Mem→bq→Option R}{r:R}(h:Jx E site t x ix m k=some r):∃id b1 b2 m',m'=sw [(id,b1),(site,b2)] m∧k (.os site) m' [(true,id),(true,site)]=some r∧m site=none∧b2.names=(fun _=>false)∧b1.names=(fun _=>false)∧(m id).isSome=true∧(∀m2:Mem,m2 id=m id→m2 site=none→∀(R':Type)(k':V→Mem→bq→Option R'),Jx E site t x ix m2 k'=k' (.os site) (sw [(id,b1),(site,b2)] m2) [(true,id),(true,site)])∧∀(G:Nat→Option (List PV))(w0:bw)(μ:Ro)(φ:Nat→aA)(w:World)(f:Fr)(ρ:Nat→Value)(y yi:Value),av E.P G w0 μ φ m w→bU E.P μ φ m f ρ→ag E.P μ φ x y→ag E.P μ φ ix yi→∃u φ',(Instr.lookup t y yi false).run E.P w=.ok u w∧av E.P G w0 μ φ' m' w∧bU E.P μ φ' m' f ρ∧ag E.P μ φ' (.os site) u:=by
 unfold Jx at h;split at h
 ·rename_i kt et hu;split at h
  ·rename_i e hue;split at h
   ·rename_i id hz;split at h
    ·rename_i uR e' es hm hs;split at h
     ·rename_i hc;obtain⟨rfl,rfl,eB⟩:=hc;obtain⟨key,xf,h⟩:=cQ.1 h;obtain⟨rs,hrs,h⟩:=cQ.1 h;obtain⟨ks,k1,k2,k3⟩:=sM xf;have dh:site≠id:=fun e=>by subst e;rw[hs]at hm;cases hm
      refine⟨id,.eV uR e' (q9 key es),.arr (aQ E.P e') e' rs,_,rfl,h,hs,rfl,rfl,by rw[hm];rfl,fun m2 h1 h2 R' k'=>?_,fun G w0 μ φ w f ρ y yi hM hF hx hi=>?_⟩
      ·simp only[Jx,hu,hue,hz,h1,h2,hm,xf,hrs,aiH,eB,and_self,IS];rfl
      ·obtain⟨g,en,clock,kk,hN⟩:=sO.1 (hM.dw id _ hm);have E5:=hN.As;rw[k1]at E5;simp only[cN]at E5;subst E5;cases hx with
       |om cv=>
        rw[hN.pl]at cv;simp only[cN]at cv;subst cv;have Uv:=DE hu k1 k2 (k3 μ φ yi hi) hN.heap hN.ent (M5 hz w);have acz:∀i off,(bF.eV uR e' (q9 key es)).rowAt i off=true→(bF.eV uR e' es).rowAt i off=true∧kO key es≠some i:=by
         intro i off hr;rcases jh hr with⟨_,_,_,_,_,_,hb,_⟩|⟨_,_,_,k0,s0,rs0,hb,rfl,he⟩
         ·cases hb
         ·simp only[bF.eV.injEq]at hb;obtain⟨rfl,rfl,rfl⟩:=hb;rw[sN]at he;cases hp:kO key es with
          |none=>rw[hp]at he;simp only at he;exact⟨by rw[jg he];rfl,by simp⟩
          |some j=>
           rw[hp]at he;simp only[akC]at he;split at he
           ·rename_i Sb;exfalso;obtain⟨x0,_,MO⟩:=Yo.1 he;simp at MO
           ·rename_i Sb;have he:es[i]?=some (k0,PV.oX s0 rs0):=by simpa using he
            exact⟨by rw[jg he];rfl,fun h=>Sb (by simpa using h)⟩
        have tE:av E.P G w0 μ φ (al m id (.eV uR e' (q9 key es))) w:=by
         refine hM.write hm rfl hN.pl (jS.refl _ _) rfl (fun _ _=>rfl) (sO.2 ⟨g,en,clock,ks,hN.pl,hN.heap,?_,k1,fun i k0 v0 h0=>?_,hN.born,fun i k0 v0 e0 h0 Ut=>?_⟩) rfl (by simp[bF.names]) (fun st h=>by cases h) (fun i off hr=>(acz i off hr).1)
         ·rw[hN.size,sN];cases kO key es<;>simp
         ·rw[sN]at h0;cases hp:kO key es with
          |none=>rw[hp]at h0;exact hN.key i k0 v0 h0
          |some j=>
           rw[hp]at h0;simp only[akC]at h0;obtain⟨x0,MO,hq⟩:=Yo.1 h0;obtain⟨xa,xu⟩:=x0;split at hq
           ·simp only[IT]at hq;rw[←hq.1];exact hN.key i xa xu MO
           ·simp only[id_eq,IT]at hq;rw[←hq.1];exact hN.key i xa xu MO
         ·rw[sN]at h0;cases hp:kO key es with
          |none=>rw[hp]at h0;exact hN.rep i k0 v0 e0 h0 Ut
          |some j=>
           rw[hp]at h0;simp only[akC]at h0;obtain⟨x0,MO,hq⟩:=Yo.1 h0;obtain⟨xa,xu⟩:=x0;obtain⟨q1,q2⟩:=hN.rep i xa xu e0 MO Ut;split at hq
           ·simp only[IT]at hq;obtain⟨rfl,rfl⟩:=hq;exact⟨q1,.pure .bad⟩
           ·simp only[id_eq,IT]at hq;obtain⟨rfl,rfl⟩:=hq;exact⟨q1,q2⟩
        have acA:∀(ph:aA)(u:Value),aH E.P μ (fun _=>ph) w 0 (aQ E.P e') e' rs→ag E.P μ (fun _=>ph) (.os 0) u→(∀g',ph.g=some g'→∃j,kO key es=some j∧(bF.eV uR e' es).rowAt j 0=true∧((φ id).row j 0).g=some g')→∃φ',av E.P G w0 μ φ' (sw [(id,.eV uR e' (q9 key es)),(site,.arr (aQ E.P e') e' rs)] m) w∧bU E.P μ φ' (sw [(id,.eV uR e' (q9 key es)),(site,.arr (aQ E.P e') e' rs)] m) f ρ∧ag E.P μ φ' (.os site) u:=by
         intro ph u hA hV Fh;have F0:∀j,(m j).isSome=true→j≠site:=fun j hj e=>by subst e;rw[hs]at hj;cases hj
         refine⟨fun i=>if i=site then ph else φ i,?_,?_,?_⟩
         ·refine tE.put (by rw[ao dh];exact hs) (jS.refl _ _) hM.ro (fun _ _ _ _ _=>rfl) (fun g' cv=>?_) (pS pw) ?_ (by simp[bF.names]) (fun st h=>by cases h)
          ·have cv:=ny pw cv;obtain⟨j,hj,hr,hjg⟩:=Fh g' cv;obtain⟨o1,o2⟩:=hM.own id _ g' hm (.inr ⟨j,0,hr,hjg⟩);refine⟨o1,o2 rfl,fun i b' hi ho=>?_⟩;by_cases Tx:i=id
           ·subst Tx;rw[bm]at hi;simp only[cN]at hi;subst hi;obtain⟨a1,a2⟩:=hM.apart i _ hm j 0 g' hr hjg;rcases ho with ho|⟨i',rP,yY,ho⟩
            ·exact a1 ho
            ·obtain⟨h3,h4⟩:=acz i' rP yY;exact h4 (by rw[hj,(a2 i' rP h3 ho).1])
           ·rw[ao Tx]at hi;exact Tx (hM.inj i id _ _ g' hi hm ho (.inr ⟨j,0,hr,hjg⟩))
          ·exact aH.move (φ':=fun i=>if i=site then ph else φ i) (j:=site) hA (by simp) (fun _ _ h=>h)
         ·refine hF.mono (fun _ _ h=>h) fun j hj=>⟨by simp[F0 j hj],?_⟩;show(al (al m id _) site _ j).isSome=true;rw[ao (F0 j hj)];by_cases Sb:j=id
          ·subst Sb;simp
          ·rw[ao Sb];exact hj
         ·cases hV with
          |qY h=>exact .qY (by simpa using h)
          | @os _ g0 h=>have:=ag.os (P:=E.P) (μ:=μ) (φ:=fun i=>if i=site then ph else φ i) (id:=site) (g:=g0) (by simpa using h);simpa using this
        rw[JW]at hrs;rcases Uv with⟨hp,ob⟩|⟨j,en0,hp,hen,ob⟩
        ·rw[hp]at hrs;simp only[cN]at hrs;subst hrs;obtain⟨φ',a1,a2,a3⟩:=acA (Cn none 0 0 (aQ E.P e')) (.slice none 0 0) ⟨rfl,rfl,rfl,eB,by simp,by simp[maxLen],⟨rfl,rfl⟩⟩ (.qY rfl) (fun g' cv=>by cases cv);exact⟨_,φ',ob,a1,a2,a3⟩
        ·rw[hp]at hrs;obtain⟨x0,MO,jT⟩:=cQ.1 hrs;obtain⟨xa,xu⟩:=x0;have hxu:=JM jT;simp only at hxu;subst hxu;obtain⟨_,q2⟩:=hN.rep j xa _ en0 MO hen;obtain⟨φ',a1,a2,a3⟩:=acA ((φ id).row j 0).up en0.val q2.1 q2.2 (fun g' cv=>⟨j,hp,by rw[jg MO];rfl,cv⟩);exact⟨_,φ',ob,a1,a2,a3⟩
     ·cases h
    ·cases h
   ·cases h
  ·cases h
 ·cases h
end
theorem DF{m:Mem}:∀{cs:List V}{j0:Nat}{ps:List PV}{tk:Option (Nat×Nat)},kg m j0 cs=some (ps,tk)→ps.length=cs.length∧(tk=none→∀(i:Nat)p,ps[i]?=some p→∃v,cs[i]?=some v∧jK cU 1 v=some p)∧∀j id2,tk=some (j,id2)→∃l s2 JV rs,cs[l]?=some (.os id2)∧m id2=some (.arr s2 JV rs)∧ps[l]?=some (.oX s2 rs)∧∀(i:Nat)p,i≠l→ps[i]?=some p→∃v,cs[i]?=some v∧jK cU 1 v=some p
 |[],j0,ps,tk,h=>by simp only[kg,cN,IT]at h;obtain⟨rfl,rfl⟩:=h;exact⟨rfl,fun _ i p hp=>by simp at hp,fun j id2 h=>by cases h⟩
 |v::r,j0,ps,tk,h=>by
  have plain:∀{p:PV},jK cU 1 v=some p→(match kg m (j0+1) r with
   |some (ps,t)=>some (p::ps,t)
   |none=>none)=some (ps,tk)→ps.length=(v::r).length∧
   (tk=none→∀(i:Nat)p,ps[i]?=some p→∃u,(v::r)[i]?=some u∧jK cU 1 u=some p)∧
   ∀j id2,tk=some (j,id2)→∃l s2 JV rs,(v::r)[l]?=some (.os id2)∧m id2=some (.arr s2 JV rs)∧ps[l]?=some (.oX s2 rs)∧∀(i:Nat)p,i≠l→ps[i]?=some p→∃u,(v::r)[i]?=some u∧jK cU 1 u=some p:=by
   intro p hp h
   split at h
   ·rename_i ps' t ht;simp only[cN,IT]at h;obtain⟨rfl,rfl⟩:=h;obtain⟨h1,h2,h3⟩:=DF ht;refine⟨by simp[h1],fun hn i q hq=>?_,fun j id2 hj=>?_⟩
    ·cases i with
     |zero=>simp at hq;subst hq;exact⟨v,rfl,hp⟩
     |succ i=>simpa using h2 hn i q (by simpa using hq)
    ·obtain⟨l,s2,JV,rs,a1,a2,a3,a4⟩:=h3 j id2 hj;refine⟨l+1,s2,JV,rs,by simpa using a1,a2,by simpa using a3,fun i q hi hq=>?_⟩;cases i with
     |zero=>simp at hq;subst hq;exact⟨v,rfl,hp⟩
     |succ i=>simpa using a4 i q (by omega) (by simpa using hq)
   ·cases h
  unfold kg at h;split at h
  ·rename_i heq;cases heq
  ·rename_i j id r' heq;simp only[ajl]at heq;obtain⟨rfl,rfl⟩:=heq;split at h
   ·rename_i s et es hm;split at h
    ·rename_i ps' ht;simp only[cN,IT]at h;obtain⟨rfl,rfl⟩:=h;obtain⟨h1,h2,_⟩:=DF ht;refine⟨by simp[h1],fun hn=>(nomatch hn),fun j id2 hj=>?_⟩;simp only[cN,IT]at hj;obtain⟨rfl,rfl⟩:=hj;refine⟨0,s,et,es,rfl,hm,rfl,fun i q hi hq=>?_⟩;cases i with
     |zero=>exact absurd rfl hi
     |succ i=>simpa using h2 rfl i q (by simpa using hq)
    ·cases h
   ·cases h
  ·rename_i j v' r' _ heq;simp only[ajl]at heq;obtain⟨rfl,rfl⟩:=heq;split at h
   ·rename_i p hp;exact plain hp h
   ·cases h
section
variable {P:Program} {G:Nat→Option (List PV)} {w0:bw} {μ μ':Ro} {φ φ':Nat→aA} {m m':Mem} {w w':World}
theorem DG{v:V}{n j id2:Nat}{cs:List V}{ps:List PV}(hc:toCells n v=some cs)(h:kg m 0 cs=some (ps,some (j,id2))):∃l s2 JV rs,m id2=some (.arr s2 JV rs)∧ps[l]?=some (.oX s2 rs)∧ps.length=n∧v.has id2=true∧∀(P:Program)(μ:Ro)(φ:Nat→aA)(x:Value),ag P μ φ v x→x.cells.size=n∧(∀(i:Nat)(y:Value),x.cells[i]?=some y→y.oneCell'=true)∧(∀(i:Nat)p y,i≠l→ps[i]?=some p→x.cells[i]?=some y→ah P μ p y)∧∃y,x.cells[l]?=some y∧ag P μ φ (.os id2) y:=by
 obtain⟨t1,_,t3⟩:=DF h;obtain⟨l,s2,JV,rs,a1,a2,a3,a4⟩:=t3 j id2 rfl;obtain⟨n1,n2,n3⟩:=toCells_ok hc;refine⟨l,s2,JV,rs,a2,a3,by rw[t1,n1],n2 id2 (bH (abV a1) (by simp[V.has])),fun P μ φ x hx=>?_⟩;obtain⟨x1,x2,x3⟩:=n3 P μ φ x hx;refine⟨x1,x3,fun i p y hi hp hy=>?_,?_⟩
 ·obtain⟨u,hu,hf⟩:=a4 i p hi hp;exact sJ 1 hf (x2 i u y hu hy)
 ·have hl:l<x.cells.size:=by rw[x1,←n1];exact(AT.1 a1).1
  exact⟨x.cells[l],IN hl,x2 l _ _ a1 (IN hl)⟩
theorem BT{s off n:Nat}{e:PV}{ps:List PV}(hn:ps.length=n)(hb:off+n≤s)(h0:0<n)(ha:s=1→∀p,ps.head? =some p→∀cs,p≠.agg cs):(if s=1 then ps.headD .bad else PV.agg (bG (aJ s e) off ps)).cells=bG (aJ s e) off ps:=by
 split
 ·rename_i h1;subst h1;have e1:off=0:=by omega
  have e2:n=1:=by omega
  subst e1;subst e2;match ps,hn with
  |[p],_=>
   have:=ha rfl p rfl;have hp:p.cells=[p]:=by cases p<;>first|rfl|exact absurd rfl (this _)
   simp only[List.headD_cons,hp,dx,ajU,ajN,aiV,aji];rw[List.drop_of_length_le (by rw[bd];exact aiJ _)];rfl
 ·rfl
theorem DH{T:Type}{cs ps:List T}{off l:Nat}{x:T}(hl:l<ps.length)(hb:off+ps.length≤cs.length):bG cs off (ps.set l x)=(bG cs off ps).set (off+l) x:=by
 have hto:(cs.take off).length=off:=by simp;omega
 rw[dx,dx,ako,abW,abW,List.set_append,By (by omega),List.set_append,AI (by omega)];rw[show off+l-(cs.take off).length=l by omega]
theorem DJ{id id2:Nat}{B X:bF}(dh:id2≠id):al (eT id (bj (bB id2 (al m id B)) id2)) id X=al (eT id (bj (bB id2 m) id2)) id X:=by
 funext t;by_cases h:t=id
 ·subst h;simp
 ·rw[ao h,ao h];unfold eT;by_cases h2:t=id2
  ·subst h2;simp
  ·rw[fi h2,fi h2];unfold bB;rw[ao h]
end
section
variable {R:Type} {E:Env}
theorem Uw{t:TypeId}{v:V}{id i off s id2 j:Nat}{et:TypeId}{es ps:List PV}{cs:List V}{e:PV}{m:Mem}(hm:m id=some (.nest s et es))(hc:toCells (aQ E.P t) v=some cs)(ht:kg m 0 cs=some (ps,some (j,id2)))(hb:off+aQ E.P t≤s)(h0:0<aQ E.P t)(dh:id2≠id)(he:es[i]?=some e){G:Nat→Option (List PV)}{w0:bw}{μ:Ro}{φ:Nat→aA}{w:World}{f:Fr}{ρ:Nat→Value}{ya yx:Value}(hM:av E.P G w0 μ φ m w)(hF:bU E.P μ φ m f ρ)(ha:ag E.P μ φ (.oe id i off) ya)(hx:ag E.P μ φ v yx):∃w' φ',(Instr.storeAt t ya yx).run E.P w=.ok () w'∧av E.P G w0 μ φ' (sw [(id,.nest s et (es.set i (if s=1 then ps.headD .bad else .agg (bG (aJ s e) off ps))))] (km [(true,id2),(false,id)] m)) w'∧bU E.P μ φ' (sw [(id,.nest s et (es.set i (if s=1 then ps.headD .bad else .agg (bG (aJ s e) off ps))))] (km [(true,id2),(false,id)] m)) (kf [(true,id2),(false,id)] f) ρ:=by
 obtain⟨l,s2,JV,rs,cL,jT,CM,agu,jR⟩:=DG hc ht;obtain⟨x1,x2,x3,y,hy,Xk⟩:=jR E.P μ φ yx hx;have QC:l<ps.length:=(AT.1 jT).1;have hN:aW E.P μ φ w id s et es:=hM.dw id _ hm;have CK:=hN.2.2.2.2.1 i e he;have E3:(aJ s e).length=s:=bd _ _;have oa:ps=(ps.set l .bad).set l (.oX s2 rs):=by
  rw[List.set_set];apply aiY;intro a;rw[ai9];split
  ·rename_i e1;subst e1;first|exact jT|(rw[AI QC];exact jT)
  ·rfl
 have vz:∀(a:Nat)p,(ps.set l .bad)[a]?=some p→(a=l∧p=.bad)∨(a≠l∧ps[a]?=some p):=fun a p h=>eN h;have hE:rU E.P μ (aQ E.P t) (.agg (ps.set l .bad)) yx:=by
  refine⟨by simp[PV.cells,CM],x1,fun a p z hp hz=>?_,x2⟩;rcases vz a p (by simpa[PV.cells]using hp)with⟨_,rfl⟩|⟨h1,h2⟩
  ·exact .bad
  ·exact x3 a p z h1 h2 hz
 have one:s=1→ps.length=1:=fun h=>by omega
 have hq:(if s=1 then ps.headD .bad else PV.agg (bG (aJ s e) off ps)).cells=bG (aJ s e) off ps:=BT CM hb h0 fun h1 p hp ML=>by
  have Mp:l=0:=by have:=one h1;omega
  subst Mp;rw[akq,jT]at hp;simp only[cN]at hp;subst hp;simp
 have hq':(if s=1 then(ps.set l .bad).headD .bad else PV.agg (bG (aJ s e) off (ps.set l .bad))).cells=bG (aJ s e) off (ps.set l .bad):=BT (by simpa using CM) hb h0 fun h1 p hp ML=>by
  have Mp:l=0:=by have:=one h1;omega
  subst Mp;rw[akq,ai9,AI rfl,AI QC]at hp;simp only[cN]at hp;subst hp;simp
 generalize (if s=1 then ps.headD .bad else PV.agg (bG (aJ s e) off ps))=q at hq⊢;generalize (if s=1 then(ps.set l .bad).headD .bad else PV.agg (bG (aJ s e) off (ps.set l .bad)))=q' at hq';cases ha with
 | @oe _ _ _ g hg=>
  obtain⟨c,T,hh,pV,xq,hrw⟩:=aW.set (q:=q') hN (hM.apart id _ hm) hg he hE hb (by rw[hq'];rfl);have mI:(φ id).sz=s:=hN.2.1;have hi:=jB (P:=E.P) (t:=t) (by omega);have tE:av E.P G w0 μ φ (al m id (.nest s et (es.set i q'))) (w.setRow g (bG c.toList (i*s+off) yx.cells.toList).toArray):=hM.write hm rfl hg (jS.setRow (aiJ _)) setRow_size (fun k hk=>bW hk) xq rfl (fun j hj=>by simp[bF.names]at hj) (fun st h=>by cases h) hrw;have hil:i<es.length:=(AT.1 he).1;have acB:q.cells=q'.cells.set (off+l) (.oX s2 rs):=by rw[hq,hq',←DH (by simpa using QC) (by simp[E3,CM];omega),←oa]
  have xx:q'.cells[off+l]?=some .bad:=by rw[hq',DH QC (by rw[E3,CM];exact hb),ai9,AI rfl,AI];rw[cw (by rw[E3,CM];exact hb),E3];omega
  have sy:=av.aag tE (id:=id) (id2:=id2) (i:=i) (off:=off+l) (e:=q') (q:=q) (x:=y) dh (bm _ _ _) (by rw[ao dh];exact cL) (by simp[hil]) xx (fun g0 c0 _ MJ hc0=>by
   rw[hg]at MJ;simp only[cN]at MJ;subst MJ;rw[setRow_heap w g c _ T (0,0) hh]at hc0;simp only[cN,Obj.cells.injEq]at hc0;obtain⟨rfl,_⟩:=hc0;rw[ai0,dx];have bT:(c.toList.take (i*s+off)).length=i*s+off:=by simp;omega
   have F2:l<yx.cells.toList.length:=by simp only[ajD];rw[x1];omega
   rw[abW,akc (by omega),bT,show i*s+(off+l)-(i*s+off)=l by omega,ajT F2];simpa using hy) Xk acB
  rw[List.set_set,DJ dh]at sy;refine⟨_,_,by rw[mI];exact fO hE.size hi hh pV hE.one,sy,?_⟩;have Cp:bU E.P μ φ (al m id (.nest s et (es.set i q'))) f ρ:=hF.lS (fun _ _ h=>h) .set;have Xm:=(Cp.forget id2).tG id;refine Xm.Y8 (by simp[jC]) (fun k hk=>by simp[hk]) fun k hk=>?_;show(al (eT id (bj (bB id2 m) id2)) id _ k).isSome=true;by_cases e1:k=id
  ·subst e1;simp
  ·rw[ao e1];rw[nB]at hk⊢;by_cases e2:k=id2
   ·subst e2;simp at hk
   ·rw[fi e2]at hk⊢;simp only[bB,ao e1]at hk⊢;exact hk
end
section
variable {R:Type} {E:Env}
variable{e:TypeId}{id2:Nat}{G:Nat→Option (List PV)}{w0:bw}{φ:Nat→aA}{w:World}{ρ:Nat→Value}
theorem Sc{t:TypeId}{v:V}{j site:Nat}{cs:List V}{ps:List PV}{p:PV}{m:Mem}(hu:E.P.underlying t=some (.slice e))(hc:toCells (aQ E.P e) v=some cs)(ht:kg m 0 cs=some (ps,some (j,id2)))(hs:m site=none)(hp:elemOf (ax E.P e) ps=some p)(eB:0<aQ E.P e)(AQ:aQ E.P e≤16777216)(hz:(db E e).isSome=true){μ:Ro}{f:Fr}{yx:Value}(hM:av E.P G w0 μ φ m w)(hF:bU E.P μ φ m f ρ)(hx:ag E.P μ φ v yx):∃y w' φ',(Instr.buildSlice t 1 #[(0,yx)]).run E.P w=.ok y w'∧av E.P G w0 μ φ' (sw [(site,.nest (aQ E.P e) e [p])] (km [(true,id2)] m)) w'∧bU E.P μ φ' (sw [(site,.nest (aQ E.P e) e [p])] (km [(true,id2)] m)) (kf [(true,id2)] f) ρ∧ag E.P μ φ' (.os site) y:=by
 obtain⟨l,s2,JV,rs,cL,jT,CM,agu,jR⟩:=DG hc ht;obtain⟨x1,x2,x3,z,Y7,hvz⟩:=jR E.P μ φ yx hx;obtain⟨zc,Ty⟩:=aiO.1 hz;obtain⟨iz,zv,i1,i2,i3,_⟩:=ei Ty;have dh:id2≠site:=fun e=>by simp_all
 have Sd:p.cells=ps:=by
  unfold elemOf at hp;split at hp
  ·simp only[cN]at hp;subst hp;rfl
  ·split at hp
   ·rename_i q;simp only[cN]at hp;subst hp;have Mp:l=0:=by grind
    subst Mp;simp only[aje,cN]at jT;subst jT;rfl
   ·cases hp
 have hA2:aH E.P μ φ w id2 s2 JV rs:=hM.dw id2 _ cL;have aie:Instr.fill (fun i=>some (i*aQ E.P e,aQ E.P e)) ((Array.range (1*aQ E.P e)).map (zv.cells[·%zv.cells.size]!)) [(0,yx)]=some yx.cells:=by
  have Tz:((Array.range (1*aQ E.P e)).map (zv.cells[·%zv.cells.size]!)).size=aQ E.P e:=by simp
  rw[wS (off:=0) (size:=aQ E.P e) (by simp) x1 (by omega)];simp only[Instr.fill,cN];apply ajZ;simp only[dx,ajU,ajN,ajk];simp_all
 have ob:=run_buildSlice (P:=E.P) w t e 1 #[(0,yx)] yx.cells iz zv hu i1 i2 (by omega) (by omega) (by rw[i3];omega);let q:aA:={g:=some w.heap.size,cap:=1,len:=1,sz:=aQ E.P e,row:=fun a b=>if a=0∧b=l then(φ id2).toBI else default};have F0:∀k,(bj (bB id2 m) id2 k).isSome=true→k≠site:=fun k hk e=>by simp_all[fi,Ne.symm,bB]
 have Ux:∀a b,(bF.nest (aQ E.P e) e [p]).rowAt a b=true→a=0∧b=l:=by
  intro a b hr;rcases jh hr with⟨_,_,_,e',s',rs',gN,h',sL⟩|⟨_,_,_,_,_,_,gN,_⟩
  ·simp only[bF.nest.injEq]at gN;obtain⟨rfl,rfl,rfl⟩:=gN;cases a with
   |succ a=>simp at h'
   |zero=>
    simp only[aje,cN]at h';subst h';rw[Sd]at sL;refine⟨rfl,?_⟩;by_cases Uy:b=l
    ·exact Uy
    ·exfalso;have bT:b<yx.cells.size:=by rw[x1,←CM];exact(AT.1 sL).1
     exact absurd (x3 b _ _ Uy sL (IN bT)).CI (by simp[PV.isRow])
  ·cases gN
 have tE:=hM.forget id2;have rY:av E.P G w0 μ (fun i=>if i=site then q else φ i) (al (bj (bB id2 m) id2) site (.nest (aQ E.P e) e [p])) (w.alloc (.cells yx.cells e)):=by
  have hold:∀k,k<w.heap.size→(w.alloc (.cells yx.cells e)).heap[k]?=w.heap[k]?:=fun k hk=>jS.heap_alloc w _ k hk;refine tE.put (by rw[fi (Ne.symm dh)];simp[bB,hs]) ((jS.refl _ w).alloc hM.below.size _) (fun k o hk=>?_) (fun id b' g hid hg=>hold g ((tE.dw id b' hid).Dl hg)) (fun g hg=>?_) ?_ ?_ (by simp[bF.names]) (fun st h=>by cases h)
  ·have:=hM.ro k o hk;rw[hold k (OF.1 this).1];exact this
  ·rcases hg with hg|⟨a,b,hr,hg⟩
   ·simp only[q,cN]at hg;subst hg;refine⟨hM.below.size,?_,fun id b' hid ho=>?_⟩
    ·cases hq:μ w.heap.size with
     |none=>rfl
     |some o'=>have:=hM.ro _ _ hq;simp at this
    ·have:=(tE.dw id b' hid).Dl ho;omega
   ·have sy:=Ux a b hr;have hg:(φ id2).g=some g:=by simpa[q,sy]using hg
    obtain⟨o1,o2⟩:=hM.own id2 _ g cL (.inl hg);refine⟨o1,o2 rfl,fun id b' hid ho=>?_⟩;obtain⟨h1,b2,uw,rfl⟩:=ff hid;exact h1 (hM.inj id id2 _ _ g uw cL (fN.1 ho) (.inl hg))
  ·intro a b g hr hg;have sy:=Ux a b hr;have hg:(φ id2).g=some g:=by simpa[q,sy]using hg
   refine⟨fun h=>?_,fun a' b' yY _=>by have:=Ux a' b' yY;omega⟩;simp only[q,cN]at h;have:=(hM.dw id2 _ cL).Dl (.inl hg);omega
  ·show aW E.P μ (fun i=>if i=site then q else φ i) (w.alloc (.cells yx.cells e)) site (aQ E.P e) e [p];unfold aW;simp only[IS];refine⟨rfl,rfl,trivial,eB,fun i e' Se=>?_,by simp[q,maxLen],yx.cells,e,fj w _,by simp[q,x1],by simp[q],fun i e' b p' x' Se sL QB=>?_,fun i x' _ QB=>x2 i x' QB⟩
   ·cases i with
    |zero=>simp at Se;subst Se;rw[Sd,CM]
    |succ i=>simp at Se
   ·cases i with
    |succ i=>simp at Se
    |zero=>
     simp only[aje,cN]at Se;subst Se;rw[Sd]at sL;rw[alx,ajk]at QB;by_cases Uy:b=l
     ·subst Uy;rw[jT]at sL;simp only[cN]at sL;subst sL;rw[Y7]at QB;simp only[cN]at QB;subst QB;have:q.row 0 b=(φ id2).toBI:=by simp[q]
      rw[this];refine ez.cn ⟨⟨JV,hA2.up⟩,M0 hvz⟩ (fun _ _ h=>h) fun g hg=>hold g ((hM.dw id2 _ cL).Dl (.inl hg))
     ·exact .pure (x3 b p' x' Uy sL QB)
 refine⟨_,_,_,ob,rY,?_,?_⟩
 ·exact(hF.forget id2).mono (fun _ _ h=>h) fun k hk=>⟨by simp[F0 k hk],by show(al (bj (bB id2 m) id2) site _ k).isSome=true;rw[ao (F0 k hk)];exact hk⟩
 ·have:=ag.os (P:=E.P) (μ:=μ) (φ:=fun i=>if i=site then q else φ i) (id:=site) (g:=w.heap.size) (by simp[q]);simpa[q]using this
theorem Uz{k v v':PV}:∀{es:List (PV×PV)}{j:Nat},(dE k v es)[j]?=some (k,v)→(kO k es=some j∨(kO k es=none∧j=es.length))→(dE k v es).set j (k,v')=dE k v' es:=by
 intro es j hj hp;rw[lT,lT];rcases hp with hp|⟨hp,rfl⟩
 ·rw[hp];simp
 ·rw[hp];simp
variable{es:List (PV×PV)}
theorem av.Xr{P:Program}{μ:Ro}{m:Mem}(hM:av P G w0 μ φ m w){id i s2:Nat}{kt:TypeId}{k:PV}{rs:List PV}{x:Value}(dh:id2≠id)(hm:m id=some (.eV kt e es))(cL:m id2=some (.arr s2 e rs))(he:es[i]?=some (k,.bad))(hx:∀g en clock,(φ id).g=some g→w.heap[g]?=some (.map en clock)→∃e0,en[i]?=some e0∧e0.val=x)(hv:ag P μ φ (.os id2) x):av P G w0 μ (fun j=>if j=id then jC (φ id) i 0 (φ id2).toBI else φ j) (al (eT id (bj (bB id2 m) id2)) id (.eV kt e (es.set i (k,.oX s2 rs)))) w:=by
 have tE:=(hM.forget id2).tG id;obtain⟨g0,en,clock,kk,hN⟩:=sO.1 (hM.dw id _ hm);have hA2:aH P μ φ w id2 s2 e rs:=hM.dw id2 _ cL;have jT:∀a b,(bF.eV kt e (es.set i (k,.oX s2 rs))).rowAt a b=true→(a=i∧b=0)∨((bF.eV kt e es).rowAt a b=true∧¬(a=i∧b=0)):=by
  intro a b hr;by_cases sy:a=i∧b=0
  ·exact .inl sy
  ·refine .inr ⟨?_,sy⟩;rcases jh hr with⟨_,_,_,_,_,_,gN,_⟩|⟨_,_,_,k',s',rs',gN,rfl,h'⟩
   ·cases gN
   ·simp only[bF.eV.injEq]at gN;obtain⟨rfl,rfl,rfl⟩:=gN;rcases eN h' with⟨rfl,_⟩|⟨WJ,h'⟩
    ·exact absurd ⟨rfl,rfl⟩ sy
    ·rw[jg h'];rfl
 refine hM.QE (fun _ k=>if k=id2 then id else k) (fun j b' hj=>?_) (fun j b' g hj ho=>?_) (fun j b' hj=>?_) (fun j cs k hj hk=>?_) (fun j st hj=>?_)
 ·rcases fg hj with⟨rfl,rfl⟩|⟨h1,h2,c,hc,rfl⟩
  ·refine sO.2 ⟨g0,en,clock,kk,by simp[jC,hN.pl],hN.heap,by simp[hN.size],hN.As,fun a k' v' h'=>?_,hN.born,fun a k' v' e' h' Se=>?_⟩
   ·rcases eN h' with⟨rfl,hq⟩|⟨_,h'⟩
    ·simp only[IT]at hq;rw[hq.1];exact hN.key a k _ he
    ·exact hN.key a k' v' h'
   ·simp only[IS];rcases eN h' with⟨rfl,hq⟩|⟨WJ,h'⟩
    ·simp only[IT]at hq;obtain⟨rfl,rfl⟩:=hq;refine⟨(hN.rep a _ _ e' he Se).1,?_⟩;rw[fW];obtain⟨e1,he1,hxe⟩:=hx g0 en clock hN.pl hN.heap;rw[Se]at he1;simp only[cN]at he1;subst he1;rw[hxe];exact⟨hA2.up,M0 hv⟩
    ·rw[gg _ _ (fun h=>WJ h.1)];exact hN.rep a k' v' e' h' Se
  ·have hb:gf P μ φ w j (dH id (fU id2 c)):=(hM.dw j c hc).kill.xo;exact hb.QF h1 (by simp[jC]) fun k hk=>by simp[hk]
 ·rcases fg hj with⟨rfl,rfl⟩|⟨h1,h2,c,hc,rfl⟩
  ·simp only[IS]at ho;rcases ho with ho|⟨a,b,hr,ho⟩
   ·exact⟨j,_,hm,.inl ho,fun _=>rfl,by simp[dh.symm]⟩
   ·rcases jT a b hr with⟨rfl,rfl⟩|⟨yY,sy⟩
    ·rw[fW]at ho;exact⟨id2,_,cL,.inl ho,fun _=>rfl,by simp⟩
    ·rw[gg _ _ sy]at ho;exact⟨j,_,hm,.inr ⟨a,b,yY,ho⟩,fun _=>rfl,by simp[dh.symm]⟩
  ·simp only[h1,T1]at ho;exact⟨j,c,hc,fN.1 (pZ.1 ho),fun h=>by rw[yq,wR]at h;exact h,by simp[h2]⟩
 ·rcases fg hj with⟨rfl,rfl⟩|⟨h1,h2,c,hc,rfl⟩
  ·simp only[IS];have E4:=hM.apart j _ hm;have new:∀g,(φ id2).g=some g→¬(bF.eV kt e es).owns (φ j) g:=fun g hg ho=>dh (hM.inj id2 j _ _ g cL hm (.inl hg) ho);intro a b g hr hg;rcases jT a b hr with⟨rfl,rfl⟩|⟨yY,sy⟩
   ·rw[fW]at hg;refine⟨fun h=>new g hg (.inl h),fun a' b' Sa M1=>?_⟩;rcases jT a' b' Sa with h|⟨Xq,M3⟩
    ·exact h
    ·rw[gg _ _ M3]at M1;exact absurd (.inr ⟨a',b',Xq,M1⟩) (new g hg)
   ·rw[gg _ _ sy]at hg;obtain⟨h3,h4⟩:=E4 a b g yY hg;refine⟨h3,fun a' b' Sa M1=>?_⟩;rcases jT a' b' Sa with⟨rfl,rfl⟩|⟨Xq,M3⟩
    ·rw[fW]at M1;exact absurd (.inr ⟨a,b,yY,hg⟩) (new g M1)
    ·rw[gg _ _ M3]at M1;exact h4 a' b' Xq M1
  ·simp only[h1,T1];exact vC.2 (tD.2 (hM.apart j c hc))
 ·rcases fg hj with⟨rfl,hb⟩|⟨h1,h2,c,hc,hb⟩
  ·cases hb
  ·have Jo:eT id (bj (bB id2 m) id2) j=some (.box cs):=by rw[ao h1]at hj;exact hj
   have:=tE.fu j cs k Jo hk;by_cases e:k=id
   ·subst e;simp
   ·rw[ao e];exact this
 ·rcases fg hj with⟨rfl,hb⟩|⟨h1,h2,c,hc,hb⟩
  ·cases hb
  ·cases c<;>first|(simp[dH,fU]at hb;done)|skip
   simp only[dH,fU,bF.loop.injEq]at hb;subst hb;exact⟨hc,by simp[h1]⟩
theorem Sf{t kt et:TypeId}{xk:V}{id s:Nat}{key:PV}{rs:List PV}{m:Mem}(hu:E.P.underlying t=some (.map kt et))(hm:m id=some (.eV kt e es))(cL:m id2=some (.arr s e rs))(xf:keyOf E kt xk=some key){μ:Ro}{f:Fr}{ya yk yv:Value}(hM:av E.P G w0 μ φ m w)(hF:bU E.P μ φ m f ρ)(ha:ag E.P μ φ (.om id) ya)(hk:ag E.P μ φ xk yk)(hv:ag E.P μ φ (.os id2) yv):∃w' φ',(Instr.mapUpdate t ya yk yv).run E.P w=.ok () w'∧av E.P G w0 μ φ' (sw [(id,.eV kt e (dE key (.oX s rs) es))] (km [(true,id2),(false,id)] m)) w'∧bU E.P μ φ' (sw [(id,.eV kt e (dE key (.oX s rs) es))] (km [(true,id2),(false,id)] m)) (kf [(true,id2),(false,id)] f) ρ:=by
 have dh:id2≠id:=fun h=>by subst h;rw[hm]at cL;cases cL
 obtain⟨ks,k1,k2,k3⟩:=sM xf;obtain⟨g,en,clock,kk,hN⟩:=sO.1 (hM.dw id _ hm);have E5:=hN.As;rw[k1]at E5;simp only[cN]at E5;subst E5;have R1:=wT k1;have hkr:=k3 μ φ yk hk;obtain⟨hc,hkv⟩:=lj k2 hkr;obtain⟨res,r1,r2⟩:=kD (v:=.oW) (z:=.bad) R1 hc w hN.ent;have Fh:=Go.MapKept.run_getObj_map (P:=E.P) hN.heap;have h1:(Instr.checkKey false 10000 kt yk).run E.P w=.ok () w:=by rw[hkv];exact gC 8 kt ks R1 9992 w false key.cells hc
 rw[←hkv]at r1;have bT:g<w.heap.size:=(OF.1 hN.heap).1;cases ha with
 |om cv=>
  rw[hN.pl]at cv;simp only[cN]at cv;subst cv;have fin:∀(J:Nat)(Mq:Array MapEntry)(oi:Nat),(kO key es=some J∨(kO key es=none∧J=es.length))→(Instr.mapUpdate t (.map (some g)) yk yv).run E.P w=.ok () {w with heap:=w.heap.setIfInBounds g (.map Mq oi)}→kL Mq oi→Mq.size=(dE key .bad es).length→(∃e0,Mq[J]?=some e0∧e0.key=yk∧e0.val=yv)→(∀i e0,i≠J→Mq[i]?=some e0→en[i]?=some e0)→∃w' φ',(Instr.mapUpdate t (.map (some g)) yk yv).run E.P w=.ok () w'∧av E.P G w0 μ φ' (sw [(id,.eV kt e (dE key (.oX s rs) es))] (km [(true,id2),(false,id)] m)) w'∧bU E.P μ φ' (sw [(id,.eV kt e (dE key (.oX s rs) es))] (km [(true,id2),(false,id)] m)) (kf [(true,id2),(false,id)] f) ρ:=by
   intro J Mq oi hJ hr wK mI hJe DK;obtain⟨eJ,acC,agv,agw⟩:=hJe;have rY:∀i k' v',(dE key .bad es)[i]?=some (k',v')→(i=J∧k'=key∧v'=.bad)∨(i≠J∧es[i]?=some (k',v')):=by
    intro i k' v' h;rw[lT]at h;rcases hJ with hJ|⟨hJ,rfl⟩
    ·rw[hJ]at h;rcases eN h with⟨rfl,hq⟩|⟨WJ,h⟩
     ·simp only[IT]at hq;exact .inl ⟨rfl,hq.1,hq.2⟩
     ·exact .inr ⟨WJ,h⟩
    ·rw[hJ]at h;simp only at h;rw[aiX]at h;split at h
     ·rename_i bT;exact .inr ⟨by omega,h⟩
     ·rename_i Fi;cases hd:i-es.length with
      |zero=>rw[hd]at h;simp only[aje,cN,IT]at h;exact .inl ⟨by omega,h.1.symm,h.2.symm⟩
      |succ n=>rw[hd]at h;simp at h
   have hJb:(dE key .bad es)[J]?=some (key,.bad):=by
    rw[lT];rcases hJ with hJ|⟨hJ,rfl⟩
    ·rw[hJ];obtain⟨a,u,hj,_⟩:=CL hJ;simp[(AT.1 hj).1]
    ·rw[hJ];simp
   have tE:av E.P G w0 μ φ (al m id (.eV kt e (dE key .bad es))) {w with heap:=w.heap.setIfInBounds g (.map Mq oi)}:=by
    refine hM.write hm rfl hN.pl ⟨⟨rfl,rfl,rfl,by simp,fun k hk=>by simp[aj0 (Nat.ne_of_gt hk)]⟩,fun _=>aiJ _⟩ (by simp) (fun k hk=>by simp[aj0 (Ne.symm hk)]) (sO.2 ⟨g,Mq,oi,ks,hN.pl,by simp[bT],mI,k1,fun i k' v' h=>?_,wK,fun i k' v' e0 h Ut=>?_⟩) rfl (by simp[bF.names]) (fun st h=>by cases h) fun a b hr=>?_
    ·rcases rY i k' v' h with⟨_,rfl,_⟩|⟨_,h⟩
     ·exact k2
     ·exact hN.key i k' v' h
    ·rcases rY i k' v' h with⟨rfl,rfl,rfl⟩|⟨WJ,h⟩
     ·rw[acC]at Ut;simp only[cN]at Ut;subst Ut;exact⟨by rw[agv];exact hkr,.pure .bad⟩
     ·obtain⟨q1,q2⟩:=hN.rep i k' v' e0 h (DK i e0 WJ Ut);refine⟨q1,?_⟩;unfold DD at q2⊢;split at q2
      ·refine⟨q2.1.cn rfl (fun _ _ h=>h) fun g' cv=>?_,q2.2⟩;have hr:(bF.eV kt e es).rowAt i 0=true:=by rw[jg h];rfl
       have:=(hM.apart id _ hm i 0 g' hr cv).1;rw[hN.pl]at this;simp only[alC,cN]at this;simp[aj0 this]
      ·exact q2
    ·rcases jh hr with⟨_,_,_,_,_,_,gN,_⟩|⟨_,_,_,k',s',rs',gN,rfl,h'⟩
     ·cases gN
     ·simp only[bF.eV.injEq]at gN;obtain⟨rfl,rfl,rfl⟩:=gN;rcases rY a k' _ h' with⟨_,_,h⟩|⟨_,h⟩
      ·cases h
      ·rw[jg h];rfl
   have sy:=av.Xr tE (id:=id) (id2:=id2) (i:=J) (x:=yv) dh (bm _ _ _) (by rw[ao dh];exact cL) hJb (fun g0 en0 agx MJ hh0=>by
    rw[hN.pl]at MJ;simp only[cN]at MJ;subst MJ;have:(w.heap.setIfInBounds g (Obj.map Mq oi))[g]?=some (.map Mq oi):=by simp[bT]
    rw[this]at hh0;simp only[cN,Obj.map.injEq]at hh0;obtain⟨rfl,_⟩:=hh0;exact⟨eJ,acC,agw⟩) hv
   rw[Uz hJb hJ,DJ dh]at sy;refine⟨_,_,hr,sy,?_⟩;have Cp:bU E.P μ φ (al m id (.eV kt e (dE key .bad es))) f ρ:=hF.lS (fun _ _ h=>h) .set;refine((Cp.forget id2).tG id).Y8 (by simp[jC]) (fun k hk=>by simp[hk]) fun k hk=>?_;show(al (eT id (bj (bB id2 m) id2)) id _ k).isSome=true;by_cases e1:k=id
   ·subst e1;simp
   ·rw[ao e1];rw[nB]at hk⊢;by_cases e2:k=id2
    ·subst e2;simp at hk
    ·rw[fi e2]at hk⊢;simp only[bB,ao e1]at hk⊢;exact hk
  rcases Gc r2 with⟨rfl,hp⟩|⟨j,e0,rfl,Ut,hp⟩
  ·have Xl:=Go.MapKept.run_setObj_map (P:=E.P) (.map (en.push {key:=yk,val:=yv,born:=clock}) (clock+1)) hN.heap;refine fin es.length _ _ (.inr ⟨hp,rfl⟩) (by simp only[Instr.mapUpdate,Sem.run_bind,run_underlying hu,Fh,h1,r1,Result.andThen_ok];exact Xl) hN.born.push (by rw[lT,hp];simp[hN.size]) ⟨{key:=yk,val:=yv,born:=clock},?_,rfl,rfl⟩ fun i e0 hi h=>?_
   ·rw[←hN.size];simp
   ·rw[akH]at h;split at h
    ·rename_i h';rw[hN.size]at h';exact absurd h' hi
    ·exact h
  ·have Xs:en[j]?=some e0:=by simpa using Ut
   obtain⟨a,u,haj,hpq⟩:=CL hp;obtain⟨hca,hva⟩:=lj (hN.key j a u haj) (hN.rep j a u e0 haj Xs).1;have tF:=He hc hca hpq;have hsb:Instr.sameBits 10000 e0.key yk=true:=by rw[hva,hkv,←tF];refine vB (n:=9999) hc (fun ha=>?_);rw[pd hc];exact(wP R1).2.1 ha
   have Xl:=Go.MapKept.run_setObj_map (P:=E.P) (.map (en.modify j fun e=>{e with key:=yk,val:=yv}) clock) hN.heap;have Cq:j<en.size:=(OF.1 Xs).1;refine fin j _ _ (.inl hp) (by simp only[Instr.mapUpdate,Sem.run_bind,run_underlying hu,Fh,h1,r1,Result.andThen_ok];simp only[ajk,Xs,aff,aju,Instr.keyThatStays,hsb,IS,Sem.run_pure,Result.andThen_ok];exact Xl) (hN.born.modify (fun e=>{e with key:=yk,val:=yv}) (fun _=>rfl) _) (by rw[lT,hp];simp[hN.size]) ⟨{e0 with key:=yk,val:=yv},by rw[ajR,AI rfl,Xs];rfl,rfl,rfl⟩ fun i e1 hi h=>?_;rw[ajR,By (Ne.symm hi)]at h;exact h
end
section
variable {P:Program} {G:Nat→Option (List PV)} {w0:bw} {μ μ':Ro} {φ φ':Nat→aA} {m m':Mem} {w w':World}
structure jU(P:Program)(μ:Ro)(rows:Nat→Nat→BI)(w:World)(s:Nat)(es:List PV)(xs:List Value):Prop where
 len:xs.length=es.length*s
 each:∀(i:Nat)e,es[i]?=some e→e.cells.length=s
 rep:∀(i:Nat)e(j:Nat)p x,es[i]?=some e→e.cells[j]?=some p→xs[i*s+j]?=some x→dV P μ (rows i j) w p x
 one:∀(i:Nat)(x:Value),xs[i]?=some x→x.oneCell'=true
variable{rows:Nat→Nat→BI}{es:List PV}{xs:List Value}
theorem jU.append{DL UA:Nat→Nat→BI}{s:Nat}{es':List PV}{xs':List Value}(h:jU P μ rows w s es xs)(h':jU P μ DL w s es' xs')(h1:∀i j,i<es.length→UA i j=rows i j)(h2:∀i j,es.length≤i→UA i j=DL (i-es.length) j):jU P μ UA w s (es++es') (xs++xs'):=by
 refine⟨by simp[h.len,h'.len,ajc],fun i e he=>?_,fun i e j p x he hp hx=>?_,fun i x hx=>?_⟩
 ·rw[aiX]at he;split at he
  ·exact h.each i e he
  ·exact h'.each _ e he
 ·rw[aiX]at he;split at he
  ·rename_i hi;rw[h1 i j hi];have hj:j<s:=by rw[←h.each i e he];grind
   rw[ajT (by rw[h.len];exact Du hi hj)]at hx;exact h.rep i e j p x he hp hx
  ·rename_i hi;rw[h2 i j (by omega)];have e1:i*s+j=es.length*s+((i-es.length)*s+j):=by
    have:i=es.length+(i-es.length):=by omega
    grind
   rw[akc (by rw[h.len,e1];omega),h.len,show i*s+j-es.length*s=(i-es.length)*s+j by omega]at hx;exact h'.rep _ e j p x he hp hx
 ·rw[aiX]at hx;split at hx
  ·exact h.one i x hx
  ·exact h'.one _ x hx
theorem Cells.Hi{s:Nat}(h:Cells P μ s es xs):jU P μ rows w s es xs:=⟨h.len,h.each,fun i e j p x he hp hx=>.pure (h.rep i e j p x he hp hx),h.one⟩
theorem jU.cn{rows:Nat→Nat→BI}{s:Nat}{es:List PV}{xs:List Value}(h:jU P μ rows w s es xs)(hw:∀i e j p g,es[i]?=some e→e.cells[j]?=some p→p.isRow=true→(rows i j).g=some g→w'.heap[g]?=w.heap[g]?):jU P μ rows w' s es xs:=⟨h.len,h.each,fun i e j p x he hp hx=>(h.rep i e j p x he hp hx).cn (fun _ _ h=>h) fun hr g hg=>hw i e j p g he hp hr hg,h.one⟩
theorem aW.Hi{id sz:Nat}{et:TypeId}(h:aW P μ φ w id sz et es){g:Nat}(hg:(φ id).g=some g):∃(c:Array Value)(T:TypeId),w.heap[g]?=some (.cells c T (0,0))∧(φ id).cap*sz≤c.size∧es.length≤(φ id).cap∧jU P μ (φ id).row w sz es (c.toList.take (es.length*sz)):=by obtain⟨a1,a2,a3,a4,a5,a6,a7⟩:=h;rw[hg]at a7;obtain⟨c,T,c1,c2,c3,c4,c5⟩:=a7;have hle:es.length*sz≤c.size:=ajq (ZG _ c3) c2;refine⟨c,T,c1,c2,c3,by simp;omega,a5,fun i e j p x he hp hx=>c4 i e j p x he hp (by grind),fun i x hx=>?_⟩;grind
theorem jU.nest{id g sz:Nat}{et T:TypeId}{c:Array Value}(Xh:(φ id).toBI=⟨some g,(φ id).cap,es.length,sz⟩)(mI:sz=aQ P et)(eB:0<sz)(od:(φ id).cap≤maxLen)(hh:w.heap[g]?=some (.cells c T (0,0)))(hc:(φ id).cap*sz≤c.size)(hle:es.length≤(φ id).cap)(hC:jU P μ (φ id).row w sz es (c.toList.take (es.length*sz))):aW P μ φ w id sz et es:=by
 have e1:(φ id).g=some g:=by rw[Xh]
 refine⟨by rw[Xh],by rw[Xh],mI,eB,hC.each,od,?_⟩;rw[e1];have Cq:∀(i:Nat)e(j:Nat)p,es[i]?=some e→e.cells[j]?=some p→i*sz+j<es.length*sz:=fun i e j p hi hj=>Du (AT.1 hi).1 (by rw[←hC.each i e hi];grind);refine⟨c,T,hh,hc,hle,fun i e j p x hi hj hx=>?_,fun i x hi hx=>?_⟩
 ·exact hC.rep i e j p x hi hj (by grind)
 ·exact hC.one i x (by grind)
end
section
variable {R:Type} {E:Env}
def QG(src:Option Nat)(m:Mem):Mem:=match src with|some id2=>bj (bB id2 m) id2|none=>m
def kfS(src:Option Nat)(f:Fr):Fr:=match src with|some id2=>eM id2 f|none=>f
variable{src:Option Nat}
theorem UB{m:Mem}{j:Nat}{b:bF}(h:QG src m j=some b):src≠some j∧∃b',m j=some b'∧b.rowAt=b'.rowAt:=by
 cases src with
 |none=>exact⟨by simp,b,h,rfl⟩
 |some id2=>obtain⟨h1,b',h2,rfl⟩:=ff h;grind [tC]
theorem Sg{t e ty:TypeId}{x:V}{id s:Nat}{es new:List PV}{rd:bq}{m:Mem}(hu:E.P.underlying t=some (.slice e))(hm:m id=some (.nest s e es))(hs:s=aQ E.P e)(hz:(db E e).isSome=true)(eB:0<aQ E.P e)(hby:0<E9 E.P e)(gn:(es++new).length*E9 E.P e≤ar)(yo:(∃id2,src=some id2∧id2≠id∧x=.os id2∧m id2=some (.nest s e new))∨(src=none∧ey m s x=some (new,rd))){G:Nat→Option (List PV)}{w0:bw}{μ:Ro}{φ:Nat→aA}{w:World}{f:Fr}{ρ:Nat→Value}{ys yx:Value}(hM:av E.P G w0 μ φ m w)(hF:bU E.P μ φ m f ρ)(ha:ag E.P μ φ (.os id) ys)(hx:ag E.P μ φ x yx):∃w' y φ',(Builtin.append_ #[t,t] ty #[ys,yx]).run E.P w=.ok y w'∧av E.P G w0 μ φ' (al (bj (bB id (QG src m)) id) id (.nest s e (es++new))) w'∧bU E.P μ φ' (al (bj (bB id (QG src m)) id) id (.nest s e (es++new))) (eM id (kfS src f)) ρ∧ag E.P μ φ' (.os id) y:=by
 obtain⟨zc,Ty⟩:=aiO.1 hz;obtain⟨i,zv,hi,hzv,Y3,_,MQ,_,_,_⟩:=ei Ty;have hN:aW E.P μ φ w id s e es:=hM.dw id _ hm;have QC:(es++new).length=es.length+new.length:=by simp
 have sx:0<s:=by omega
 obtain⟨DL,yY⟩:∃DL:Nat→Nat→BI,DL=match src with|some id2=>(φ id2).row|none=>fun _ _=>default:=⟨_,rfl⟩
 obtain⟨os,hos,hC⟩:∃os,((ys=.slice none 0 0∧es.length=0∧os=[])∨∃(g cap:Nat)(c:Array Value)(T:TypeId),ys=.slice (some ⟨g,0,none⟩) es.length cap∧w.heap[g]?=some (.cells c T (0,0))∧cap*s≤c.size∧es.length≤cap∧cap≤maxLen∧os=c.toList.take (es.length*s))∧jU E.P μ (φ id).row w s es os:=by
  cases ha with
  |qY hg=>have a7:=hN.2.2.2.2.2.2;rw[hg]at a7;rw[a7.1];exact⟨[],.inl ⟨rfl,rfl,rfl⟩,by simp,by simp,fun i e j p x he=>by simp at he,by simp⟩
  | @os _ g hg=>obtain⟨c,T,c1,c2,c3,c4⟩:=hN.Hi hg;exact⟨_,.inr ⟨g,(φ id).cap,c,T,by rw[hN.1],c1,c2,c3,hN.2.2.2.2.2.1,rfl⟩,c4⟩
 obtain⟨xs,Jn,hCx⟩:∃xs,((yx=.slice none 0 0∧new.length=0∧xs=[])∨∃(a:Addr)(cx:Nat),yx=.slice (some a) new.length cx∧xs.length=new.length*s∧(∀(j:Nat)v,xs[j]?=some v→w.cell? (a.add j)=some v)∧(∀v∈xs,v.oneCell'=true)∧new.length≤cx∧cx≤maxLen)∧jU E.P μ DL w s new xs:=by
  rcases yo with⟨id2,rfl,dh,rfl,cL⟩|⟨rfl,CK⟩
  ·have hN2:aW E.P μ φ w id2 s e new:=hM.dw id2 _ cL;simp only at yY;subst yY;cases hx with
   |qY hg=>have a7:=hN2.2.2.2.2.2.2;rw[hg]at a7;rw[a7.1];exact⟨[],.inl ⟨rfl,rfl,rfl⟩,by simp,by simp,fun i e j p x he=>by simp at he,by simp⟩
   | @os _ g hg=>
    obtain⟨c,_,c1,c2,c3,c4⟩:=hN2.Hi hg;refine⟨_,.inr ⟨⟨g,0,none⟩,(φ id2).cap,by rw[hN2.1],c4.len,fun j v hj=>?_,fun v hv=>?_,c3,hN2.2.2.2.2.2.1⟩,c4⟩
    ·grind [Addr.add_mid,dp,eA]
    ·obtain⟨j,hj⟩:=aiU hv;exact c4.one j v hj
  ·obtain⟨_,_,hsr⟩:=mU CK;have:=hsr _ _ _ _ _ _ _ hM hx;cases this with
   |none hn=>subst hn;exact⟨[],.inl ⟨rfl,rfl,rfl⟩,by simp,by simp,fun i e j p x he=>by simp at he,by simp⟩
   | @some a cx xs hC Jn Y4 Ul=>exact⟨xs,.inr ⟨a,cx,rfl,hC.len,Jn,fun u hu=>by obtain⟨j,hj⟩:=aiU hu;exact hC.one j u hj,Y4,Ul⟩,hC.Hi⟩
 obtain⟨w',y,hr,Um⟩:=Dv (ty:=ty) hu hi hzv (by omega) hs eB hby (by simp_all) hos Jn;let oO:Nat→Nat→BI:=fun a b=>if a<es.length then(φ id).row a b else DL (a-es.length) b;have hCC:jU E.P μ oO w s (es++new) (os++xs):=hC.append hCx (fun a b h=>by grind) (fun a b h=>by grind);have jT:∀a b g,(bF.nest s e (es++new)).rowAt a b=true→(oO a b).g=some g→(a<es.length∧(bF.nest s e es).rowAt a b=true∧((φ id).row a b).g=some g)∨(es.length≤a∧∃id2,src=some id2∧id2≠id∧m id2=some (.nest s e new)∧(bF.nest s e new).rowAt (a-es.length) b=true∧((φ id2).row (a-es.length) b).g=some g):=by
  intro a b g Ml hg;rcases jh Ml with⟨_,_,_,e',s',rs',gN,h',sL⟩|⟨_,_,_,_,_,_,gN,_⟩
  ·simp only[bF.nest.injEq]at gN;obtain⟨rfl,rfl,rfl⟩:=gN;by_cases bT:a<es.length
   ·rw[ajT bT]at h';exact .inl ⟨bT,by rw[du h' sL];rfl,by grind⟩
   ·rw[akc (by omega)]at h';simp only[oO,bT,T1]at hg;rcases yo with⟨id2,rfl,dh,rfl,cL⟩|⟨rfl,CK⟩
    ·simp only at yY;subst yY;exact .inr ⟨by omega,id2,rfl,dh,cL,by rw[du h' sL];rfl,hg⟩
    ·exfalso;obtain⟨_,_,hsr⟩:=mU CK;have h3:=hsr _ _ _ _ _ _ _ hM hx;cases h3 with
     |none hn=>subst hn;simp at h'
     | @some a2 cx xs2 hC2 aiq Y4 Ul=>
      have hj:(a-es.length)*s+b<xs2.length:=by rw[hC2.len];exact Du (AT.1 h').1 (by rw[←hC2.each _ _ h'];grind)
      exact absurd (hC2.rep _ _ _ _ _ h' sL (cO hj)).CI (by simp[PV.isRow])
  ·cases gN
 have aah:∀j,(bj (bB id (QG src m)) id j).isSome=true→j≠id:=fun j hj e=>by subst e;simp at hj
 have bQ:∀j b',bj (bB id (QG src m)) id j=some b'→j≠id∧src≠some j∧∃b,m j=some b∧b'.rowAt=b.rowAt:=by intro j b' hj;obtain⟨h1,b1,h2,rfl⟩:=ff hj;grind [UB,tC]
 have M6:∀{j b' b g},b'.rowAt=b.rowAt→bF.owns b' (φ j) g→bF.owns b (φ j) g:=fun h ho=>by simp_all[bF.owns]
 have hM0:av E.P G w0 μ φ (QG src m) w:=by
  cases src with
  |none=>exact hM
  |some id2=>exact hM.forget id2
 have hF0:bU E.P μ φ (QG src m) (kfS src f) ρ:=by
  cases src with
  |none=>exact hF
  |some id2=>exact hF.forget id2
 have tE:=hM0.forget id;have Cp:=hF0.forget id;have Xt:∀a b g,(bF.nest s e (es++new)).rowAt a b=true→(oO a b).g=some g→w0.heap.size≤g∧μ g=none∧g<w.heap.size∧∀j b',bj (bB id (QG src m)) id j=some b'→¬b'.owns (φ j) g:=by
  intro a b g Ml hg;rcases jT a b g Ml hg with⟨_,h2,h3⟩|⟨_,id2,rfl,dh,cL,h2,h3⟩
  ·obtain⟨o1,o2⟩:=hM.own id _ g hm (.inr ⟨a,b,h2,h3⟩);refine⟨o1,o2 rfl,(hM.dw id _ hm).Dl (.inr ⟨a,b,h2,h3⟩),fun j b' hj ho=>?_⟩;obtain⟨k1,_,b2,k3,k4⟩:=bQ j b' hj;exact k1 (hM.inj j id _ _ g k3 hm (M6 k4 ho) (.inr ⟨a,b,h2,h3⟩))
  ·obtain⟨o1,o2⟩:=hM.own id2 _ g cL (.inr ⟨_,b,h2,h3⟩);refine⟨o1,o2 rfl,(hM.dw id2 _ cL).Dl (.inr ⟨_,b,h2,h3⟩),fun j b' hj ho=>?_⟩;obtain⟨_,k1,b2,k3,k4⟩:=bQ j b' hj;exact k1 (by rw[hM.inj j id2 _ _ g k3 cL (M6 k4 ho) (.inr ⟨_,b,h2,h3⟩)])
 have aca:∀a b a' b' g,(bF.nest s e (es++new)).rowAt a b=true→(oO a b).g=some g→(bF.nest s e (es++new)).rowAt a' b'=true→(oO a' b').g=some g→a'=a∧b'=b:=by
  intro a b a' b' g h1 h2 h3 h4;rcases jT a b g h1 h2 with⟨u1,u2,u3⟩|⟨u1,i2,u0,une,um,u2,u3⟩<;>rcases jT a' b' g h3 h4 with⟨v1,v2,v3⟩|⟨v1,i3,v0,vne,vm,v2,v3⟩
  ·exact(hM.apart id _ hm a b g u2 u3).2 a' b' v2 v3
  ·exact absurd (hM.inj i3 id _ _ g vm hm (.inr ⟨_,_,v2,v3⟩) (.inr ⟨_,_,u2,u3⟩)) vne
  ·exact absurd (hM.inj i2 id _ _ g um hm (.inr ⟨_,_,u2,u3⟩) (.inr ⟨_,_,v2,v3⟩)) une
  ·rw[u0]at v0;simp only[cN]at v0;subst v0;obtain⟨h5,h6⟩:=(hM.apart i2 _ um (a-es.length) b g u2 u3).2 (a'-es.length) b' v2 v3;omega
 have fin:∀(q:aA)(w1:World),q.row=oO→jS w0.heap.size w w1→(∀k o,μ k=some o→w1.heap[k]?=some o)→(∀j b' g,bj (bB id (QG src m)) id j=some b'→b'.owns (φ j) g→w1.heap[g]?=w.heap[g]?)→(∀g,q.g=some g→w0.heap.size≤g∧μ g=none∧(∀j b',bj (bB id (QG src m)) id j=some b'→¬b'.owns (φ j) g)∧∀a b,(bF.nest s e (es++new)).rowAt a b=true→(oO a b).g≠some g)→(aW E.P μ (fun k=>if k=id then q else φ k) w1 id s e (es++new))→av E.P G w0 μ (fun k=>if k=id then q else φ k) (al (bj (bB id (QG src m)) id) id (.nest s e (es++new))) w1∧bU E.P μ (fun k=>if k=id then q else φ k) (al (bj (bB id (QG src m)) id) id (.nest s e (es++new))) (eM id (kfS src f)) ρ:=by
  intro q w1 hq MN tx hold vp jR;refine⟨tE.put (by simp) MN tx hold (fun g hg=>?_) (fun a b g Ml hg=>?_) jR (by simp[bF.names]) (fun st h=>by cases h),Cp.mono (fun _ _ h=>h) fun j hj=>⟨by simp[aah j hj],by grind [ao]⟩⟩
  ·rcases hg with hg|⟨a,b,Ml,hg⟩
   ·grind
   grind
  grind
 rcases Um with⟨rfl,rfl,h1,h2⟩|⟨g',Co,c',T',rfl,b1,b2,b3,b4,b5,b6⟩
 ·have h1:es=[]:=ahk h1;have h2:new=[]:=ahk h2;obtain⟨k1,k2⟩:=fin {g:=none,cap:=0,len:=0,sz:=s,row:=oO} w' rfl (jS.refl _ _) hM.ro (fun _ _ _ _ _=>rfl) (fun g hg=>by cases hg) ⟨by simp[h1,h2],by simp,hs,sx,by simp[h1,h2],by simp[maxLen],by simp[h1,h2]⟩;exact⟨w',_,_,hr,k1,k2,.qY (by simp)⟩
 ·have hq:∀(w1:World)(T:TypeId),w1.heap[g']?=some (.cells c' T (0,0))→jU E.P μ oO w1 s (es++new) (os++xs)→aW E.P μ (fun k=>if k=id then({g:=some g',cap:=Co,len:=(es++new).length,sz:=s,row:=oO}:aA)else φ k) w1 id s e (es++new):=fun w1 T hh hC1=>jU.nest (g:=g') (c:=c') (by simp) hs sx (by simpa using b4) hh (by simpa using b2) (by simpa[QC]using b3) (by grind);have aif:ag E.P μ (fun k=>if k=id then({g:=some g',cap:=Co,len:=(es++new).length,sz:=s,row:=oO}:aA)else φ k) (.os id) (.slice (some ⟨g',0,none⟩) (es.length+new.length) Co):=by have:=ag.os (P:=E.P) (μ:=μ) (φ:=fun k=>if k=id then({g:=some g',cap:=Co,len:=(es++new).length,sz:=s,row:=oO}:aA)else φ k) (id:=id) (g:=g') (by simp);grind
  rcases b6 with⟨Xi,hys,b6,b7⟩|⟨rfl,rfl⟩
  ·have cv:(φ id).g=some g':=by
    have key:∀z,ag E.P μ φ (.os id) z→z=.slice (some ⟨g',0,none⟩) es.length Xi→(φ id).g=some g':=by
     intro z hz he;cases hz with
     |qY _=>cases he
     |os hg=>grind
    exact key _ ha hys
   obtain⟨o1,o2⟩:=hM.own id _ g' hm (.inl cv);have Mn:∀a b,(bF.nest s e (es++new)).rowAt a b=true→(oO a b).g≠some g':=by
    intro a b Ml hg;rcases jT a b g' Ml hg with⟨u1,u2,u3⟩|⟨u1,i2,u0,une,um,u2,u3⟩
    ·exact(hM.apart id _ hm a b g' u2 u3).1 cv
    ·exact une (hM.inj i2 id _ _ g' um hm (.inr ⟨_,_,u2,u3⟩) (.inl cv))
   have DK:∀j b',bj (bB id (QG src m)) id j=some b'→¬b'.owns (φ j) g':=fun j b' hj ho=>by obtain⟨k1,_,b2,k3,k4⟩:=bQ j b' hj;exact k1 (hM.inj j id _ _ g' k3 hm (M6 k4 ho) (.inl cv))
   obtain⟨k1,k2⟩:=fin {g:=some g',cap:=Co,len:=(es++new).length,sz:=s,row:=oO} w' rfl (b6.mono o1) (fun k o hk=>by rw[b7 k (fun e=>by subst e;rw[o2 rfl]at hk;cases hk)];exact hM.ro k o hk) (fun j b' g hj ho=>b7 g fun e=>by grind) (fun g hg=>by
     simp only[cN]at hg;subst hg;exact⟨o1,o2 rfl,DK,Mn⟩)
    (hq w' _ b1 (hCC.cn fun a e1 b p1 g he hp Ml hg=>b7 g fun e=>by grind [du]))
   grind
  ·have hold:∀k,k<w.heap.size→(w.drew.alloc (.cells c' e)).heap[k]?=w.heap[k]?:=fun k hk=>jS.heap_alloc w.drew _ k hk;obtain⟨k1,k2⟩:=fin {g:=some w.heap.size,cap:=Co,len:=(es++new).length,sz:=s,row:=oO} (w.drew.alloc (.cells c' e)) rfl ((jS.refl _ w).drew.alloc hM.below.size _) (fun k o hk=>by
     have:=hM.ro k o hk;grind)
    (fun j b' g hj ho=>hold g ((tE.dw j b' hj).Dl ho)) (fun g hg=>by
     simp only[cN]at hg;subst hg;refine⟨hM.below.size,?_,fun j b' hj ho=>?_,fun a b Ml hg=>?_⟩
     ·cases hq:μ w.heap.size with
      |none=>rfl
      |some o'=>have:=hM.ro _ _ hq;simp at this
     ·have:=(tE.dw j b' hj).Dl ho;omega
     grind)
    (hq _ _ b1 (hCC.cn fun a e1 b p1 g he hp Ml hg=>hold g (Xt a b g (by rw[du he hp];omega) hg).2.2.1))
   grind
theorem DM{m:Mem}:∀{cs:List V}{j0:Nat}{ps:List PV},kg m j0 cs=some (ps,none)→∀m2:Mem,kg m2 j0 cs=some (ps,none)
 |[],j0,ps,h,m2=>h
 |v::r,j0,ps,h,m2=>by
  unfold kg at h;split at h
  ·rename_i heq;cases heq
  ·grind
  ·rename_i j v' r' dh heq;simp only[ajl]at heq;obtain⟨rfl,rfl⟩:=heq;unfold kg;split
   ·rename_i heq;cases heq
   ·simp_all
   ·rename_i j v' r' dh heq;simp only[ajl]at heq;obtain⟨rfl,rfl⟩:=heq;split at h
    ·rename_i p hp;split at h
     ·rename_i ps' t ht;simp only[cN,IT]at h;obtain⟨rfl,rfl⟩:=h;rw[DM ht m2]
     ·cases h
    omega
theorem vD{m m2:Mem}{j id2:Nat}(hm:m2 id2=m id2):∀{cs:List V}{j0:Nat}{ps:List PV},kg m j0 cs=some (ps,some (j,id2))→kg m2 j0 cs=some (ps,some (j,id2))
 |[],j0,ps,h=>by simp[kg]at h
 |v::r,j0,ps,h=>by
  unfold kg at h;split at h
  ·rename_i heq;cases heq
  ·rename_i j id r' heq;simp only[ajl]at heq;obtain⟨rfl,rfl⟩:=heq;split at h
   ·rename_i s et es WM;split at h
    ·rename_i ps' ht;simp only[cN,IT]at h;obtain⟨rfl,rfl,rfl⟩:=h;grind [kg,DM]
    ·cases h
   ·cases h
  ·rename_i j v' r' dh heq;simp only[ajl]at heq;obtain⟨rfl,rfl⟩:=heq;unfold kg;split
   ·rename_i heq;cases heq
   ·simp_all
   ·rename_i j v' r' dh heq;simp only[ajl]at heq;obtain⟨rfl,rfl⟩:=heq;split at h
    ·rename_i p hp;split at h
     ·rename_i ps' t ht;simp only[cN,IT]at h;obtain⟨rfl,rfl⟩:=h;rw[vD hm ht]
     ·cases h
    omega
theorem M7{site:Nat}{o:Oper}{f f2:Fr}{m m2:Mem}{sp:Sp}(h:xY E site o f m=some sp)(hf:∀x∈o.op.operands,bA E f2 x=bA E f x)(hm:∀x∈(sp.info site).2,m2 x.2=m x.2):xY E site o f2 m2=some sp:=by
 obtain⟨dst,op,type,pos,after,guard⟩:=o;unfold xY at h⊢;cases op;case store t a x=>
  simp only at h⊢;rw[hf a (by simp[Op.operands]),hf x (by simp[Op.operands])];split at h
  ·rename_i id i off ha;split at h
   ·rename_i s et es WM;split at h
    ·rename_i cs hc;split at h
     ·rename_i ps j id2 ht;split at h
      ·rename_i jN;simp only[cN]at h;subst h;have h1:m2 id=m id:=hm (true,id) (by simp[Sp.info]);have h2:m2 id2=m id2:=hm (true,id2) (by simp[Sp.info]);simp only[ha,h1,WM,hc,vD h2 ht,jN,IS]
      ·cases h
     ·cases h
    ·cases h
   ·cases h
  omega
 case buildSlice t len parts=>
  simp only at h⊢;have Sd:(parts.toList.map fun(x:Nat×Operand)=>(x.1,bA E f2 x.2))=parts.toList.map fun(x:Nat×Operand)=>(x.1,bA E f x.2):=ai7 fun x hx=>by rw[hf x.2 (by simp only[Op.operands,akh,aiR];exact⟨x,hx,rfl⟩)]
  rw[Sd];split at h
  ·rename_i e v hu hp;split at h
   ·rename_i cs hc;split at h
    ·rename_i ps j id2 ht hs;split at h
     ·rename_i p Fl;split at h
      ·rename_i jN;simp only[cN]at h;subst h;have h1:m2 site=m site:=hm (true,site) (by simp[Sp.info]);have h2:m2 id2=m id2:=hm (true,id2) (by simp[Sp.info]);simp only[hu,hp,hc,vD h2 ht,h1,hs,Fl,jN,IS]
      ·cases h
     ·cases h
    ·cases h
   ·cases h
  omega
 case call c=>
  obtain⟨callee,args,argTypes⟩:=c;simp only at h⊢;have qd:args.toList.map (bA E f2)=args.toList.map (bA E f):=ai7 fun x hx=>hf x (by simp_all[Op.operands,Call.operands]);rw[qd];split at h
  ·rename_i id x t t' ha hty;split at h
   ·rename_i e s et es hu WM;split at h
    ·rename_i jN;have plain:∀{new:List PV}{rd:bq},ey m s x=some (new,rd)→x.has id=false→sp=.app id s et es new none rd→ey m2 s x=some (new,rd):=by grind [mU,Sp.info]
     split at h
     ·rename_i qW;split at h
      ·rename_i s' E2 new hm';split at h
       ·rename_i T8;simp only[cN]at h;subst h;have h1:m2 id=m id:=hm (true,id) (by simp[Sp.info]);simp_all[Sp.info,IS]
       ·cases h
      ·rename_i hnn;split at h
       ·rename_i new rd CK;split at h
        ·cases h
        ·rename_i hxh;simp only[cN]at h;have UC:=plain CK (by simpa using hxh) h.symm;subst h;have h1:m2 id=m id:=hm (true,id) (by simp[Sp.info]);simp only[ha,hty,hu,h1,WM,jN,IS,UC];split
         ·rename_i s' E2 air cL;exfalso;simp only[ey,cL]at UC;cases UC
         ·rw[By hxh]
       ·cases h
     ·rename_i ais;split at h
      ·rename_i new rd CK;split at h
       ·cases h
       ·rename_i hxh;simp only[cN]at h;have UC:=plain CK (by simpa using hxh) h.symm;subst h;have h1:m2 id=m id:=hm (true,id) (by simp[Sp.info]);simp only[ha,hty,hu,h1,WM,jN,IS,UC];try rw[By hxh]
      ·cases h
    ·cases h
   ·cases h
  ·cases h
 case mapUpdate t x key v=>
  simp only at h⊢;rw[hf x (by simp[Op.operands]),hf key (by simp[Op.operands]),hf v (by simp[Op.operands])];split at h
  ·rename_i kt et id id2 hu hx hv;split at h
   ·rename_i uR e es s e' rs kp h1 h2 hk;split at h
    ·rename_i jN;simp only[cN]at h;subst h;have h3:m2 id=m id:=hm (true,id) (by simp[Sp.info]);have h4:m2 id2=m id2:=hm (true,id2) (by simp[Sp.info]);simp only[hu,hx,hv,h3,h4,h1,h2,hk,jN,IS]
    ·cases h
   ·cases h
  ·cases h
 all_goals (cases h)
end
end Go.Ab
