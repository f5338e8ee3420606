import Derived.Test.YtanikidijjaohaaGreatAbP4
import Derived.RangeFuncRecord
import Derived.Laws.IdiomRangeMap
set_option linter.unusedVariables false
set_option linter.unusedSimpArgs false
namespace Go.Ab
section
variable {P:Program} {G:Nat→Option (List PV)} {w0:bI} {μ:Ro} {φ:Nat→aH} {m:Mem} {w:World}
theorem az.adW(hM:az P G w0 μ φ m w){g:Nat}(hB:w0.heap.size≤g)(adX:∀id b,m id=some b→¬b.ev (φ id) g):az P G w0 (qP μ w (some g)) φ m w:=by
 have mono:=mC hM (some g);refine⟨hM.below,fun b o hb=>?_,fun g' cs hg=>(hM.aM g' cs hg).mono mono,fun j c hj=>(hM.dH j c hj).cL (fun _ _=>rfl) rfl mono (fun _ _=>rfl),fun j c g' hj cO=>?_,hM.inj,hM.apart,hM.fY,fun b o hb cd=>?_,fun b o hb=>mono b o (hM.dJ b o hb),hM.Dc⟩
 ·unfold qP at hb;split at hb
  ·exact hb
  ·exact hM.ro b o hb
 ·obtain⟨h1,h2⟩:=hM.own j c g' hj cO;refine⟨h1,fun Hd=>?_⟩;unfold qP;split
  ·rename_i he;simp only[AT]at he;subst he;exact absurd cO (adX j c hj)
  ·exact h2 Hd
 ·unfold qP at hb;split at hb
  ·rename_i he;simp only[AT]at he;omega
  ·exact hM.base b o hb cd
theorem OI(w:World)(g:Nat)(o:Obj):lA g w (w.putObj g o):=⟨⟨rfl,rfl,rfl,by simp,fun k hk=>World.putObj_heap_other (by omega)⟩,fun _=>ajC _⟩
theorem A2{A:Type}(f:A→Nat):∀{l:List A}{i:Nat}{e:A},l[i]?=some e→(∀(j:Nat)x,l[j]?=some x→f x=f e→j=i)→l.filter (fun x=> !(f x==f e))=l.eraseIdx i
 |[],i,e,h,_=>by simp at h
 |y::l,0,e,h,inj=>by simp only[akb,AT]at h;subst h;simp only[akc,BEq.rfl,ajx,By,abG,List.eraseIdx_cons_zero];rw[al6];intro x hx;obtain⟨j,hj⟩:=akk.1 hx;simp only[ajF,akm];intro e;have:=inj (j+1) x (by simpa using hj) e;omega
 |y::l,i+1,e,h,inj=>by
  have h':l[i]?=some e:=by simpa using h
  have cY:¬f y=f e:=fun e'=>by have:=inj 0 y rfl e';omega
  have hb:(f y==f e)=false:=by simpa using cY
  simp only[akc,hb,ajT,aaV,List.eraseIdx_cons_succ];rw[A2 f h' (fun j x hj e'=>by have:=inj (j+1) x (by simpa using hj) e';omega)]
theorem H4(en:Array MapEntry):lO en #[]=en.toList:=by unfold lO;rw[al6];intro x _;simp
variable{en:Array MapEntry}{clock:Nat}{seen:Array Nat}{e:MapEntry}
theorem Fe(hb:mB en clock){i:Nat}(hi:(lO en seen)[i]?=some e):lO en (seen.push e.born)=(lO en seen).eraseIdx i:=by
 have h1:lO en (seen.push e.born)=(lO en seen).filter (fun x=> !(x.born==e.born)):=by unfold lO;rw[List.filter_filter];congr 1;funext x;simp only[Array.contains_push,Bool.not_or];rw[Bool.and_comm]
 rw[h1];refine A2 (fun x=>x.born) hi fun j x hj e'=>?_;have hnd:(lO en seen).Pairwise fun a b=>a.born≠b.born:=by
  unfold lO;refine List.Pairwise.filter _ ?_;rw[akZ];intro a b ha iv uh he;have h2:en[a]?=some en.toList[a]:=by rw[←ajL];exact AI ha
  have h3:en[b]?=some en.toList[b]:=by rw[←ajL];exact AI iv
  have:=(hb b _ h3).2 a _ h2 he;omega
 have Ca:j<(lO en seen).length:=(IS.1 hj).1;have hil:i<(lO en seen).length:=(IS.1 hi).1;rw[AI Ca]at hj;rw[AI hil]at hi;simp only[AT]at hj hi;rw[akZ]at hnd;rcases Nat.lt_trichotomy j i with h|h|h
 ·exact absurd (by rw[hj,hi];exact e') (hnd j i Ca hil h)
 ·exact h
 ·exact absurd (by rw[hj,hi];exact e'.symm) (hnd i j hil Ca h)
theorem Ud(h:e∈lO en seen):∃i:Nat,en[i]?=some e:=by unfold lO at h;have:=(aka.1 h).1;obtain⟨i,hi⟩:=akk.1 this;exact⟨i,by rw[←ajL];exact hi⟩
theorem Ue{w:World}{g mg:Nat}(hg:w.heap[g]?=some (.mapIter (some mg) clock seen clock))(hm:w.heap[mg]?=some (.map en clock))(hb:mB en clock)(ty:TypeId):(lO en seen=[]∧(Instr.next (.pointer (some ⟨g,0,none⟩)) false ty).run P w=.ok (.tuple #[.bool false]) w)∨∃(j:Nat)(e:MapEntry)(w1:World),(lO en seen)[j]?=some e∧(w1=w∨w1=w.drew)∧(Instr.next (.pointer (some ⟨g,0,none⟩)) false ty).run P w=.ok (.tuple #[.bool true,e.key,e.val]) (w1.putObj g (.mapIter (some mg) clock (seen.push e.born) clock)):=by
 have hold:∀x∈en.toList,x.born<clock:=fun x hx=>by obtain⟨i,hi⟩:=akk.1 hx;exact(hb i x (by rw[←ajL];exact hi)).1
 simp only[Instr.next,getObj,Sem.run_bind,Sem.run,hg,hm,Result.andThen,next_test_false seen en clock clock hold (ajC _),By,abG];have hL:(Array.filter (fun e=> !seen.contains e.born) en).toList=lO en seen:=by simp[lO]
 have cg:∀x∈(Array.filter (fun e=> !seen.contains e.born) en).toList,x.born<clock:=fun x hx=>hold x (by simp at hx⊢;exact hx.1);generalize Array.filter (fun e=> !seen.contains e.born) en=L at cg hL⊢;have e1:L.filter (fun x=>decide (x.born<clock))=L:=Array.filter_eq_self.2 (fun x hx=>by simpa using cg x (by simpa using hx));have e2:L.filter (fun x=>decide (x.born≥clock))= #[]:=by rw[Array.filter_eq_empty_iff];intro x hx;have:=cg x (by simpa using hx);simp;omega
 simp only[e1,e2,Array.append_empty];rw[←hL];by_cases h0:L.size=0
 ·left;have:L= #[]:=alR h0;subst this;refine⟨rfl,?_⟩;simp[choose,Sem.run,Question.forced]
 ·right;have cY:L.isEmpty=false:=by simp[Array.isEmpty,h0]
  simp only[cY,By,abG,Array.empty_append,Array.size_map];have Lu:∃(j:Nat)(w1:World),j<L.size∧(w1=w∨w1=w.drew)∧(choose (Question.mapNext L.size)).run P w=.ok j w1:=by
   by_cases hf:L.size≤1
   ·exact⟨0,w,by omega,.inl rfl,by simp[choose,Sem.run,Question.forced,hf]⟩
   ·exact⟨_,w.drew,amR _ (by omega),.inr rfl,by simp only[choose,Sem.run,Question.forced,I5,hf,abG,Question.cut];rfl⟩
  obtain⟨j,w1,hj,Jo,pZ⟩:=Lu;refine⟨j,L[j],w1,by rw[ajL,T0 hj],Jo,?_⟩;have hg1:w1.heap[g]?=some (.mapIter (some mg) clock seen clock):=by rcases Jo with rfl|rfl<;>exact hg
  have tb:(setObj g (.mapIter (some mg) clock (seen.push L[j].born) clock)).run P w1=.ok () (w1.putObj g (.mapIter (some mg) clock (seen.push L[j].born) clock)):=by simp only[setObj,Sem.run,hg1];rfl
  simp only[pZ,ame,T0 hj,ah5,Sem.run_bind,tb,Result.andThen];rfl
theorem OJ{w:World}{g mg:Nat}{i:Nat}(hg:w.heap[g]?=some (.mapIter (some mg) clock seen clock))(hm:w.heap[mg]?=some (.map en clock))(hb:mB en clock)(hi:en[i]?=some e)(hs:seen.back? =some e.born):(Instr.entry (.pointer (some ⟨g,0,none⟩))).run P w=.ok (.tuple #[e.key,e.val]) w:=by
 have hf:en.find? (·.born==e.born)=some e:=by
  rw[←Array.find?_toList];refine find_born e en.toList ?_ (by rw[ak6];exact alP hi);rw[List.Nodup,List.pairwise_map,akZ];intro a b ha iv uh he;have h2:en[a]?=some en.toList[a]:=by rw[←ajL];exact AI ha
  have h3:en[b]?=some en.toList[b]:=by rw[←ajL];exact AI iv
  have:=(hb b _ h3).2 a _ h2 he;omega
 simp only[Instr.entry,getObj,Sem.run_bind,Sem.run,hg,hm,Result.andThen,hs,alM,By,abG,hf];rfl
end
section
variable {R:Type} {E:Env}
variable{g:Nat→Option R}{r:R}
theorem OK{n:Nat}(h:ti n g=some r)(i:Nat)(hi:i<n):g i=some r:=by
 unfold ti at h;split at h
 ·rename_i hh;simp only[AT]at h;subst h;exact Classical.choose_spec hh i hi
 ·cases h
theorem Ff{n:Nat}(h0:0<n)(h:∀i,i<n→g i=some r):ti n g=some r:=by unfold ti;have hh:∃r,∀i,i<n→g i=some r:=⟨r,h⟩;rw[ana hh];have:=Classical.choose_spec hh 0 h0;rw[h 0 h0]at this;exact this.symm
variable{k:V→Fr→Mem→Option R}
theorem Uf{site:Nat}{t:TypeId}{x:V}{f:Fr}{m:Mem}(h:Oi E site t x f m k=some r):∃f' m',k (.it site) f' m'=some r∧(m' site).isSome=true∧∀(G:Nat→Option (List PV))(w0:bI)(μ:Ro)(φ:Nat→aH)(w:World)(ρ:Nat→Value)(y:Value),az E.P G w0 μ φ m w→cu E.P μ φ m f ρ→ah E.P μ φ x y→∃w' y' μ' φ',(Instr.range t y).run E.P w=.ok y' w'∧az E.P G w0 μ' φ' m' w'∧cu E.P μ' φ' m' f' ρ∧ah E.P μ' φ' (.it site) y':=by
 unfold Oi at h;split at h
 ·rename_i kt et hu;split at h
  ·rename_i id;split at h
   ·rename_i wL es hm;split at h
    ·obtain⟨f',m',hn,qg,wP,zq,wM⟩:=eC h;refine⟨f',m',qg,by simp[wP],fun G w0 μ φ w ρ y hM hF hx=>?_⟩;obtain⟨g,en,clock,kk,hg,hh,hs,Dk,Sr,yE,hv⟩:=hM.dH id _ hm;obtain⟨o1,o2⟩:=hM.own id _ g hm (.inl hg);cases hx with
     |om cO=>
      rw[hg]at cO;simp only[AT]at cO;subst cO;have vw:=hM.forget id;have hM2:=vw.adW o1 (fun j b hj e=>by obtain⟨cY,b',iv,rfl⟩:=fN hj;exact cY (hM.inj j id b' _ g iv hm (gJ.1 e) (.inl hg)));have H5:=mC vw (some g);have DW:cu E.P (qP μ w (some g)) φ (bq (bM id m) id) (fi id f) ρ:=(hF.forget id).mono H5 fun j hj=>⟨rfl,hj⟩;have ku:∀φ':Nat→aH,φ' site=(DU (some w.heap.size) 0 0 0)→(∀j,(bR.iter t es none).names j=true→φ' j=φ j)→hU E.P (qP μ w (some g)) φ' (w.alloc (.mapIter (some g) clock #[] clock)) site (.iter t es none):=fun φ' hp _=>by
       refine⟨w.heap.size,g,en,clock,#[],by rw[hp],fS w _,by simp[qP,hh],yE,(by rw[H4,akX,hs]),fun i k v e h1 h2=>?_,fun k v h=>by cases h⟩;have ZN:en[i]?=some e:=by rw[←ajL,←H4 en];exact h2
       exact⟨(hv i k v e h1 ZN).1.mono H5,(hv i k v e h1 ZN).2.mono H5⟩
      obtain⟨φ',a1,a2,a3⟩:=wM E.P G w0 _ φ w (w.alloc (.mapIter (some g) clock #[] clock)) ρ (DU (some w.heap.size) 0 0 0) hM2 DW (ll.alloc (o:=.mapIter (some g) clock #[] clock) hM2 rfl ku (by simp[bR.names]));exact⟨_,_,_,φ',run_range_map w t kt et g en clock hu hh,a2,a3,.it (by rw[a1])⟩
    ·cases h
   ·cases h
  ·cases h
 ·cases h
theorem A3{A:Type}{l:List A}{i j:Nat}{x:A}(h:(l.eraseIdx i)[j]?=some x):l[if j<i then j else j+1]?=some x:=by
 rw[amI]at h;split at h
 ·rename_i cd;rw[BK cd];exact h
 ·rename_i cd;rw[IN cd];exact h
theorem Wx{x:V}{f:Fr}{m:Mem}(h:V5 E x f m k=some r)(G:Nat→Option (List PV))(w0:bI)(μ:Ro)(φ:Nat→aH)(w:World)(y:Value)(ty:TypeId)(hM:az E.P G w0 μ φ m w)(hx:ah E.P μ φ x y):∃v m' y' w',k v f m'=some r∧(∀id,v.has id=false)∧kB m m'∧(Instr.next y false ty).run E.P w=.ok y' w'∧az E.P G w0 μ φ m' w'∧ah E.P μ φ v y':=by
 unfold V5 at h;split at h
 ·rename_i id;split at h
  ·rename_i t es cur hm;split at h
   ·rename_i kt et hu;obtain⟨g,mg,en,clock,seen,hg,hh,Hd,yE,BN,hv,_⟩:=hM.dH id _ hm;obtain⟨o1,o2⟩:=hM.own id _ g hm (.inl hg);cases hx with
    |it cO=>
     rw[hg]at cO;simp only[AT]at cO;subst cO;have hmg:=hM.ro _ _ Hd;rcases Ue (P:=E.P) hh hmg yE ty with⟨Ju,pZ⟩|⟨j,e,w1,hj,G1,pZ⟩
     ·have:es=[]:=by rw[Ju]at BN;exact ajB BN.symm
      subst this;simp only[List.isEmpty_nil,aaV]at h;refine⟨_,m,_,w,h,by simp[V.has,cD],kB.refl m,pZ,hM,.bu rfl fun i p x hp hx=>?_⟩;cases i with
      |zero=>simp at hp hx;subst hp;subst hx;exact .pv .bool
      |succ i=>simp at hp
     ·have Ca:j<(lO en seen).length:=(IS.1 hj).1;have cY:¬es.isEmpty=true:=by
       have eF:0<es.length:=by omega
       intro e';rw[List.isEmpty_iff]at e';rw[e']at eF;exact absurd eF (am2 0)
      rw[IN cY]at h;have h:=OK h j (by omega);obtain⟨e0,Wy,h⟩:=BY.1 h;obtain⟨qa,_,ha,ra,_⟩:=mh h;obtain⟨qb,_,hb,rb,_⟩:=mh ha;obtain⟨rk,rv⟩:=hv j e0.1 e0.2 e Wy hj;refine⟨_,_,_,_,hb,by simp[V.has,cD],.set,pZ,?_,.bu rfl fun i p x hp hx=>?_⟩
      ·have vw:az E.P G w0 μ φ m w1:=by rcases G1 with rfl|rfl;exact hM;exact hM.drew
       have cd:g<w1.heap.size:=by have:g<w.heap.size:=(adp.1 hh).1;rcases G1 with rfl|rfl<;>exact this
       refine vw.write hm rfl hg (OI w1 g _) World.putObj_size (fun k hk=>World.putObj_heap_other hk) ?_ rfl (by simp[bR.names]);refine⟨g,mg,en,clock,seen.push e.born,hg,World.putObj_heap_same cd,Hd,yE,?_,fun i k v e' h1 h2=>?_,fun k v hc=>?_⟩
       ·rw[Fe yE hj,al1,al1,BN]
       ·rw[Fe yE hj]at h2;exact hv _ k v e' (A3 h1) (A3 h2)
       ·simp only[AT,ado]at hc;obtain⟨rfl,rfl⟩:=hc;obtain⟨i,hi⟩:=Ud (ah3 hj);exact⟨i,e,hi,by simp,ra _ _ _ rk,rb _ _ _ rv⟩
      ·match i with
       |0=>simp at hp hx;subst hp;subst hx;exact .pv .bool
       |1=>simp at hp hx;subst hp;subst hx;exact .pv (ra _ _ _ rk)
       |2=>simp at hp hx;subst hp;subst hx;exact .pv (rb _ _ _ rv)
       |i+3=>simp at hp
   ·cases h
  ·cases h
 ·cases h
theorem Ug{x:V}{m:Mem}{k:V→Mem→Option R}(h:Oj x m k=some r)(P:Program)(G:Nat→Option (List PV))(w0:bI)(μ:Ro)(φ:Nat→aH)(w:World)(y:Value)(hM:az P G w0 μ φ m w)(hx:ah P μ φ x y):∃v m' y',k v m'=some r∧(∀id,v.has id=false)∧kB m m'∧(Instr.entry y).run P w=.ok y' w∧az P G w0 μ φ m' w∧ah P μ φ v y':=by
 unfold Oj at h;split at h
 ·rename_i id;split at h
  ·rename_i t es a b hm;obtain⟨g,mg,en,clock,seen,hg,hh,Hd,yE,BN,hv,hcu⟩:=hM.dH id _ hm;obtain⟨i,e,hi,hs,ra,rb⟩:=hcu a b rfl;cases hx with
   |it cO=>
    rw[hg]at cO;simp only[AT]at cO;subst cO;refine⟨_,_,_,h,by simp[V.has,cD],.set,OJ hh (hM.ro _ _ Hd) yE hi hs,?_,.bu rfl fun i p x hp hx=>?_⟩
    ·exact hM.write hm rfl hg (lA.refl _ _) rfl (fun _ _=>rfl) ⟨g,mg,en,clock,seen,hg,hh,Hd,yE,BN,hv,fun k v h=>by cases h⟩ rfl (by simp[bR.names])
    match i with
    |0=>simp at hp hx;subst hp;subst hx;exact .pv ra
    |1=>simp at hp hx;subst hp;subst hx;exact .pv rb
    |i+2=>simp at hp
  ·cases h
 ·cases h
end
section
variable {P:Program} {G:Nat→Option (List PV)} {w0:bI} {μ μ':Ro} {φ φ':Nat→aH} {m m':Mem} {w w':World}
variable{id j:Nat}{b:bR}
theorem jl(h:fo id m j=some b):∃b',m j=some b'∧b=dY id b':=by
 unfold fo at h;cases hm:m j with
 |none=>rw[hm]at h;cases h
 |some b'=>rw[hm]at h;simp only[AT]at h;exact⟨b',rfl,h.symm⟩
theorem pk:(fo id m j).isSome=(m j).isSome:=by unfold fo;cases m j<;>rfl
theorem Dp(id:Nat)(b:bR):(dY id b).rowAt=b.rowAt:=by cases b<;>rfl
theorem rW{p:aH}{g:Nat}:(dY id b).ev p g↔b.ev p g:=by unfold bR.ev;rw[Dp]
theorem xe{p:aH}:(dY id b).apart p↔b.apart p:=by unfold bR.apart;rw[Dp]
theorem zT(id:Nat)(b:bR):(dY id b).j7=b.j7:=by cases b<;>rfl
theorem OL{cs:List V}(h:cD j (cs.map (oE id))=true):cD j cs=true:=by obtain⟨v,hv,hh⟩:=cW.1 h;obtain⟨u,hu,rfl⟩:=ajJ.1 hv;exact bU hu (yG hh).1
theorem hU.zg{id j:Nat}{b:bR}(h:hU P μ φ w j b):hU P μ φ w j (dY id b):=by
 cases b with
 |box cs=>obtain⟨g,c,T,hg,hh,hs,hv,h1,BN⟩:=h;refine⟨g,c,T,hg,hh,by simpa using hs,fun i v x hi hx=>?_,h1,by simpa using BN⟩;simp only[IT,ah2]at hi;obtain⟨u,hu,rfl⟩:=hi;exact(hv i u x hu hx).zg id
 |_=>exact h
theorem az.vA(hM:az P G w0 μ φ m w)(id:Nat):az P G w0 μ φ (fo id m) w:=by
 refine⟨hM.below,hM.ro,hM.aM,fun j b h=>?_,fun j b g h hg=>?_,fun i j b1 b2 g h1 h2 g1 g2=>?_,fun j b h=>?_,fun j cs i h hh=>?_,hM.base,hM.dJ,fun j st h=>?_⟩
 ·obtain⟨b',hb,rfl⟩:=jl h;exact(hM.dH j b' hb).zg
 ·obtain⟨b',hb,rfl⟩:=jl h;rw[zT];exact hM.own j b' g hb (rW.1 hg)
 ·obtain⟨b1',hb1,rfl⟩:=jl h1;obtain⟨b2',vg,rfl⟩:=jl h2;exact hM.inj i j b1' b2' g hb1 vg (rW.1 g1) (rW.1 g2)
 ·obtain⟨b',hb,rfl⟩:=jl h;exact xe.2 (hM.apart j b' hb)
 ·obtain⟨b',hb,e⟩:=jl h;cases b' with
  |box Ov=>simp only[dY,bR.box.injEq]at e;subst e;rw[pk];exact hM.fY j Ov i hb (OL hh)
  |_=>simp[dY]at e
 ·obtain⟨b',hb,e⟩:=jl h;cases b' with
  |loop st'=>simp only[dY,bR.loop.injEq]at e;subst e;exact hM.Dc j st hb
  |_=>simp[dY]at e
variable{ρ:Nat→Value}
theorem cu.vA{f:Fr}(h:cu P μ φ m f ρ)(id:Nat):cu P μ φ (fo id m) (iL id f) ρ:=⟨fun t=>(h.fr t).zg id,fun t j hj=>by rw[pk];exact h.live t j (yG hj).1⟩
theorem az.km:∀{kl:Kl}{m:Mem},az P G w0 μ φ m w→az P G w0 μ φ (Go.Ab.km kl m) w
 |[],_,h=>h
 |(true,id)::r,m,h=>(az.km (kl:=r) (m:=bq (bM id m) id) (h.forget id):)
 |(false,id)::r,m,h=>(az.km (kl:=r) (m:=fo id m) (h.vA id):)
theorem cu.km{ρ:Nat→Value}:∀{kl:Kl}{m:Mem}{f:Fr},cu P μ φ m f ρ→cu P μ φ (Go.Ab.km kl m) (kf kl f) ρ
 |[],_,_,h=>h
 |(true,id)::r,m,f,h=>(cu.km (kl:=r) (m:=bq (bM id m) id) (f:=fi id f) (h.forget id):)
 |(false,id)::r,m,f,h=>(cu.km (kl:=r) (m:=fo id m) (f:=iL id f) (h.vA id):)
theorem az.SA(hM:az P G w0 μ φ m w)(nw:Nat→Nat→Nat)(hblk:∀j b',m' j=some b'→hU P μ φ' w j b')(zR:∀j b' g,m' j=some b'→b'.ev (φ' j) g→∃k b,m k=some b∧b.ev (φ k) g∧(b'.j7=true→b.j7=true)∧j=nw g k)(G0:∀j b',m' j=some b'→b'.apart (φ' j))(Db:∀j cs id,m' j=some (.box cs)→cD id cs=true→(m' id).isSome=true)(ahc:∀j st,m' j=some (.loop st)→m j=some (.loop st)∧(φ' j).g=(φ j).g):az P G w0 μ φ' m' w:=by
 refine⟨hM.below,hM.ro,hM.aM,hblk,fun j b' g h hg=>?_,fun i j b1 b2 g h1 h2 g1 g2=>?_,G0,Db,hM.base,hM.dJ,fun j st h=>?_⟩
 ·obtain⟨k,b,hk,ho,Hd,_⟩:=zR j b' g h hg;obtain⟨o1,o2⟩:=hM.own k b g hk ho;exact⟨o1,fun h=>o2 (Hd h)⟩
 ·obtain⟨k1,c1,Uh,ho1,_,e1⟩:=zR i b1 g h1 g1;obtain⟨k2,c2,ZO,ho2,_,e2⟩:=zR j b2 g h2 g2;rw[e1,e2,hM.inj k1 k2 c1 c2 g Uh ZO ho1 ho2]
 ·obtain⟨h1,h2⟩:=ahc j st h;obtain⟨g,rc,r1,r2,r3⟩:=hM.Dc j st h1;exact⟨g,rc,by rw[h2];exact r1,r2,r3⟩
def kY(p:aH)(i off:Nat)(r:Dd):aH:={p with row:=fun a b=>if a=i∧b=off then r else p.row a b}
theorem gR(p:aH)(i off:Nat)(r:Dd):(kY p i off r).row i off=r:=by simp[kY]
theorem hZ(p:aH){i off a b:Nat}(r:Dd)(h:¬(a=i∧b=off)):(kY p i off r).row a b=p.row a b:=by simp[kY,h]
theorem hU.SB(h:hU P μ φ w j (dY id b))(hj:j≠id)(h0:(φ' id).toDd=(φ id).toDd)(hφ:∀k,k≠id→φ' k=φ k):hU P μ φ' w j (dY id b):=by
 have e:=hφ j hj;cases b with
 |box cs=>
  obtain⟨g,c,T,hg,hh,hs,hv,h1,BN⟩:=h;refine⟨g,c,T,by rw[e];exact hg,hh,hs,fun i v x hi hx=>?_,h1,by rw[e];exact BN⟩;refine(hv i v x hi hx).aa2 (fun _ _ h=>h) fun k hk=>?_;by_cases ZP:k=id
  ·subst ZP;refine⟨h0,fun h2=>?_⟩;simp only[IT,ah2]at hi;obtain⟨u,hu,rfl⟩:=hi;rw[(yG hk).2]at h2;cases h2
  ·rw[hφ k ZP];exact⟨rfl,fun _=>rfl⟩
 |arr sz et es=>exact hU.cL h (fun k hk=>by simp[bR.names,dY]at hk) e (fun _ _ h=>h) (fun _ _=>rfl)
 |ri sz et es=>exact hU.cL h (fun k hk=>by simp[bR.names,dY]at hk) e (fun _ _ h=>h) (fun _ _=>rfl)
 |map kt es=>exact hU.cL h (fun k hk=>by simp[bR.names,dY]at hk) e (fun _ _ h=>h) (fun _ _=>rfl)
 |nest sz et es=>exact hU.cL h (fun k hk=>by simp[bR.names,dY]at hk) e (fun _ _ h=>h) (fun _ _=>rfl)
 |fv kt e0 es=>exact hU.cL h (fun k hk=>by simp[bR.names,dY]at hk) e (fun _ _ h=>h) (fun _ _=>rfl)
 |loop st=>exact hU.cL h (fun k hk=>by simp[bR.names,dY]at hk) e (fun _ _ h=>h) (fun _ _=>rfl)
 |iter t es cur=>exact hU.cL h (fun k hk=>by simp[bR.names,dY]at hk) e (fun _ _ h=>h) (fun _ _=>rfl)
theorem cu.aa7{f:Fr}(h:cu P μ φ m (iL id f) ρ)(h0:(φ' id).toDd=(φ id).toDd)(hφ:∀k,k≠id→φ' k=φ k)(hl:∀j,(m j).isSome=true→(m' j).isSome=true):cu P μ φ' m' (iL id f) ρ:=by
 refine⟨fun t=>(h.fr t).aa2 (fun _ _ h=>h) fun k hk=>?_,fun t j hj=>hl j (h.live t j hj)⟩;by_cases ZP:k=id
 ·subst ZP;refine⟨h0,fun h2=>?_⟩;have:=(yG (show(oE k (f t)).has k=true from hk)).2;rw[show iL k f t=oE k (f t)from rfl,this]at h2;cases h2
 ·rw[hφ k ZP];exact⟨rfl,fun _=>rfl⟩
theorem fO{id2:Nat}{b':bR}(h:aq (fo id (bq (bM id2 m) id2)) id b j=some b'):(j=id∧b'=b)∨(j≠id∧j≠id2∧∃c,m j=some c∧b'=dY id (gP id2 c)):=by
 by_cases e:j=id
 ·subst e;rw[bw]at h;simp only[AT]at h;exact .inl ⟨rfl,h.symm⟩
 ·rw[aw e]at h;obtain⟨c1,h1,rfl⟩:=jl h;obtain⟨cY,c,hc,rfl⟩:=fN h1;exact .inr ⟨e,cY,c,hc,rfl⟩
theorem OM{x:Value}(h:ah P μ φ (.os id) x):ah P μ (fun _=>((φ id).toDd).up) (.os 0) x:=by
 cases h with
 |s9 h=>exact .s9 h
 |os h=>exact .os (id:=0) (φ:=fun _=>((φ id).toDd).up) h
theorem aN.up{sz:Nat}{et:TypeId}{es:List PV}(h:aN P μ φ w id sz et es):aN P μ (fun _=>((φ id).toDd).up) w 0 sz et es:=h
theorem az.abY(hM:az P G w0 μ φ m w){id2 i off s s2:Nat}{et Lv:TypeId}{es rs:List PV}{e q:PV}{x:Value}(cY:id2≠id)(hm:m id=some (.nest s et es))(c9:m id2=some (.arr s2 Lv rs))(he:es[i]?=some e)(zo:e.cells[off]?=some .bad)(hx:∀g c T,(φ id).g=some g→w.heap[g]?=some (.cells c T (0,0))→c[i*s+off]?=some x)(hv:ah P μ φ (.os id2) x)(hq:q.cells=e.cells.set off (.qV s2 rs)):az P G w0 μ (fun j=>if j=id then kY (φ id) i off (φ id2).toDd else φ j) (aq (fo id (bq (bM id2 m) id2)) id (.nest s et (es.set i q))) w:=by
 have vw:=(hM.forget id2).vA id;have hN:bd P μ φ w id s et es:=hM.dH id _ hm;have hA2:aN P μ φ w id2 s2 Lv rs:=hM.dH id2 _ c9;have hil:i<es.length:=(IS.1 he).1;have hol:off<e.cells.length:=(IS.1 zo).1;have lB:∀a b,(bR.nest s et (es.set i q)).rowAt a b=true→(a=i∧b=off)∨((bR.nest s et es).rowAt a b=true∧¬(a=i∧b=off)):=by
  intro a b hr;by_cases uh:a=i∧b=off
  ·exact .inl uh
  ·refine .inr ⟨?_,uh⟩;rcases kA hr with⟨_,_,_,e',s',rs',iv,h',uy⟩|⟨_,_,_,_,_,_,iv,_⟩
   ·simp only[bR.nest.injEq]at iv;obtain⟨rfl,rfl,rfl⟩:=iv;rcases fj h' with⟨rfl,rfl⟩|⟨Zc,h'⟩
    ·rw[hq]at uy;rcases fj uy with⟨rfl,_⟩|⟨hnj,uy⟩
     ·exact absurd ⟨rfl,rfl⟩ uh
     ·rw[dE he uy];rfl
    ·rw[dE h' uy];rfl
   ·cases iv
 refine hM.SA (fun _ k=>if k=id2 then id else k) (fun j b' hj=>?_) (fun j b' g hj ho=>?_) (fun j b' hj=>?_) (fun j cs k hj hk=>?_) (fun j st hj=>?_)
 ·rcases fO hj with⟨rfl,rfl⟩|⟨h1,h2,c,hc,rfl⟩
  ·show bd P μ (fun k=>if k=j then kY (φ j) i off (φ id2).toDd else φ k) w j s et (es.set i q);refine bd.change (μ':=μ) (w':=w) (es':=es.set i q) hN (by simp) (fun i' e' h'=>?_) (by simp[kY]) (fun _ _=>rfl) (fun i' e' j' p' g c T x' h' uy hg hc Sy hold=>?_)
   ·rcases fj h' with⟨_,rfl⟩|⟨_,h'⟩
    ·rw[hq,alA];exact hN.2.2.2.2.1 i e he
    ·exact hN.2.2.2.2.1 i' e' h'
   ·simp only[aaV];by_cases uh:i'=i∧j'=off
    ·obtain⟨rfl,rfl⟩:=uh;rw[gR];have e1:e'=q:=by
      rcases fj h' with⟨_,h⟩|⟨h,_⟩
      ·exact h
      ·exact absurd rfl h
     subst e1;rw[hq]at uy;have e2:p'=.qV s2 rs:=by
      rcases fj uy with⟨_,h⟩|⟨h,_⟩
      ·exact h
      ·exact absurd rfl h
     subst e2;have e3:x'=x:=by have:=hx g c _ hg hc;rw[Sy]at this;simpa using this
     subst e3;exact⟨⟨Lv,hA2.up⟩,OM hv⟩
    ·rw[hZ _ _ uh];rcases fj h' with⟨rfl,rfl⟩|⟨Zc,h'⟩
     ·rw[hq]at uy;rcases fj uy with⟨rfl,_⟩|⟨hnj,uy⟩
      ·exact absurd ⟨rfl,rfl⟩ uh
      ·exact hold e p' he uy
     ·exact hold e' p' h' uy
  ·have hb:hU P μ φ w j (dY id (gP id2 c)):=(hM.dH j c hc).kill.zg;exact hb.SB h1 (by simp[kY]) fun k hk=>by simp[hk]
 ·rcases fO hj with⟨rfl,rfl⟩|⟨h1,h2,c,hc,rfl⟩
  ·simp only[aaV]at ho;rcases ho with ho|⟨a,b,hr,ho⟩
   ·exact⟨j,_,hm,.inl ho,fun _=>rfl,by simp[cY.symm]⟩
   ·rcases lB a b hr with⟨rfl,rfl⟩|⟨AL,uh⟩
    ·rw[gR]at ho;exact⟨id2,_,c9,.inl ho,fun _=>rfl,by simp⟩
    ·rw[hZ _ _ uh]at ho;exact⟨j,_,hm,.inr ⟨a,b,AL,ho⟩,fun _=>rfl,by simp[cY.symm]⟩
  ·simp only[h1,abG]at ho;exact⟨j,c,hc,gJ.1 (rW.1 ho),fun h=>by rw[zT,yL]at h;exact h,by simp[h2]⟩
 ·rcases fO hj with⟨rfl,rfl⟩|⟨h1,h2,c,hc,rfl⟩
  ·simp only[aaV];have G0:=hM.apart j _ hm;have new:∀g,(φ id2).g=some g→¬(bR.nest s et es).ev (φ j) g:=fun g hg ho=>cY (hM.inj id2 j _ _ g c9 hm (.inl hg) ho);intro a b g hr hg;rcases lB a b hr with⟨rfl,rfl⟩|⟨AL,uh⟩
   ·rw[gR]at hg;refine⟨fun h=>new g hg (.inl h),fun a' b' SC ON=>?_⟩;rcases lB a' b' SC with h|⟨VL,OO⟩
    ·exact h
    ·rw[hZ _ _ OO]at ON;exact absurd (.inr ⟨a',b',VL,ON⟩) (new g hg)
   ·rw[hZ _ _ uh]at hg;obtain⟨h3,h4⟩:=G0 a b g AL hg;refine⟨h3,fun a' b' SC ON=>?_⟩;rcases lB a' b' SC with⟨rfl,rfl⟩|⟨VL,OO⟩
    ·rw[gR]at ON;exact absurd (.inr ⟨a,b,AL,hg⟩) (new g ON)
    ·rw[hZ _ _ OO]at ON;exact h4 a' b' VL ON
  ·simp only[h1,abG];exact xe.2 (vv.2 (hM.apart j c hc))
 ·rcases fO hj with⟨rfl,hb⟩|⟨h1,h2,c,hc,hb⟩
  ·cases hb
  ·have KX:fo id (bq (bM id2 m) id2) j=some (.box cs):=by rw[aw h1]at hj;exact hj
   have:=vw.fY j cs k KX hk;by_cases e:k=id
   ·subst e;simp
   ·rw[aw e];exact this
 ·rcases fO hj with⟨rfl,hb⟩|⟨h1,h2,c,hc,hb⟩
  ·cases hb
  ·cases c<;>first|(simp[dY,gP]at hb;done)|skip
   simp only[dY,gP,bR.loop.injEq]at hb;subst hb;exact⟨hc,by simp[h1]⟩
end
def mE(k:PV):List (PV×PV)→Option Nat
 |[]=>none
 |(a,_)::r=>if dW k.cells a.cells then some 0 else(mE k r).map (·+1)
def j8(es:List (PV×PV)):List (PV×PV):=es.map fun x=>(x.1,.bad)
theorem Fg(k:PV):∀es,mE k (j8 es)=mE k es
 |[]=>rfl
 |(a,u)::r=>by simp only[j8,ajy,mE];rw[←Fg k r];rfl
theorem El{k:PV}:∀{es:List (PV×PV)}{j:Nat},mE k es=some j→∃a u,es[j]?=some (a,u)∧dW k.cells a.cells=true
 |(a,u)::r,j,h=>by
  simp only[mE]at h;split at h
  ·rename_i hp;simp only[AT]at h;subst h;exact⟨a,u,rfl,hp⟩
  ·obtain⟨i,hi,rfl⟩:=ah2.1 h;simpa using El hi
theorem nj(k v:PV):∀es,fg k v es=match mE k es with|some j=>es.set j (k,v)|none=>es++[(k,v)]
 |[]=>rfl
 |(a,u)::r=>by
  simp only[fg,mE];split
  ·rfl
  ·rw[nj k v r];cases mE k r<;>rfl
theorem uA(k:PV):∀es,tf k es=match mE k es with|some j=>es.modify j fun x=>(x.1,.bad)|none=>es
 |[]=>rfl
 |(a,u)::r=>by
  simp only[tf,mE];split
  ·rfl
  ·rw[uA k r];cases mE k r<;>simp
theorem Lw(sz:Nat)(k:PV):∀es,K2 sz k es=match mE k es with|some j=>(es[j]?).bind fun x=>fh sz x.2|none=>some []
 |[]=>rfl
 |(a,u)::r=>by
  simp only[K2,mE];split
  ·simp
  ·rw[Lw sz k r];cases mE k r<;>simp
theorem H6{k z:PV}{l:List (PV×PV)}{es:List MapEntry}{i:Nat}{r:Option (Nat×Value)}(h:Found k .qU z (j8 l) es i r):(r=none∧mE k l=none)∨∃j e,r=some (i+j,e.val)∧es[j]?=some e∧mE k l=some j:=by
 cases h with
 |none h1 h2 h3=>
  refine .inl ⟨rfl,?_⟩;rw[nj]at h3;rw[←Fg];cases hp:mE k (j8 l)with
  |none=>rfl
  |some j=>rw[hp]at h3;have:=congrArg List.length h3;simp at this
 | @some j a u e h1 h2 h3 h4 h5 h6=>
  refine .inr ⟨j,e,rfl,h2,?_⟩;rw[nj]at h6;rw[←Fg];have cd:j<(j8 l).length:=(IS.1 h1).1;cases hp:mE k (j8 l)with
  |none=>rw[hp]at h6;have:=congrArg List.length h6;simp at this
  |some j'=>
   rw[hp]at h6;simp only at h6;obtain⟨a',u',KX,_⟩:=El hp;have ahd:j'<(j8 l).length:=(IS.1 KX).1;have e1:((j8 l).set j (k,.qU))[j']?=some (k,.qU):=by rw[←h6];simp[ahd]
   rw[aj6]at e1;split at e1
   ·rename_i h;rw[h]
   ·exfalso;simp only[j8,IT,ah2]at e1;obtain⟨x,_,hx⟩:=e1;simp at hx
section
variable {P:Program} {G:Nat→Option (List PV)} {w0:bI} {μ μ':Ro} {φ φ':Nat→aH} {m m':Mem} {w w':World}
def Fh(P:Program)(μ:Ro)(R:Dd)(w:World)(e0:TypeId)(v:PV)(x:Value):Prop:=match v with
 |.qV s rs=>aN P μ (fun _=>R.up) w 0 s e0 rs∧ah P μ (fun _=>R.up) (.os 0) x
 |v=>ai P μ v x
variable{e0:TypeId}
theorem Fh.pure{R:Dd}{v:PV}{x:Value}(h:ai P μ v x):Fh P μ R w e0 v x:=by
 unfold Fh;split
 ·cases h
 ·exact h
structure OP(P:Program)(μ:Ro)(p:aH)(w:World)(kt e0:TypeId)(es:List (PV×PV))(g:Nat)(en:Array MapEntry)(clock:Nat)(kk:List Kd):Prop where
 pl:p.g=some g
 heap:w.heap[g]?=some (.map en clock)
 size:en.size=es.length
 BM:tg P kt=some kk
 key:∀(i:Nat)k v,es[i]?=some (k,v)→wy P kt kk k=true
 born:mB en clock
 rep:∀(i:Nat)k v e,es[i]?=some (k,v)→en[i]?=some e→ai P μ k e.key∧Fh P μ (p.row i 0) w e0 v e.val
variable{kt:TypeId}{es:List (PV×PV)}
theorem uB{id:Nat}:hU P μ φ w id (.fv kt e0 es)↔∃g en clock kk,OP P μ (φ id) w kt e0 es g en clock kk:=by
 constructor
 ·rintro⟨g,en,clock,kk,h1,h2,h3,h4,h5,h6,h7⟩;exact⟨g,en,clock,kk,h1,h2,h3,h4,h5,h6,fun i k v e a b=>h7 i k v e a b⟩
 ·rintro⟨g,en,clock,kk,h1,h2,h3,h4,h5,h6,h7⟩;exact⟨g,en,clock,kk,h1,h2,h3,h4,h5,h6,fun i k v e a b=>h7 i k v e a b⟩
variable{en:Array MapEntry}
theorem OP.ent{p:aH}{g:Nat}{clock:Nat}{kk:List Kd}(h:OP P μ p w kt e0 es g en clock kk):xc P μ kt kk (j8 es) en.toList:=by
 refine⟨by simp[j8,h.size],fun i k v hi=>?_,fun i k v e hi he=>?_⟩
 ·simp only[j8,IT,ah2]at hi;obtain⟨⟨a,u⟩,hq,hx⟩:=hi;simp only[ado]at hx;obtain⟨rfl,rfl⟩:=hx;exact h.key i a u hq
 ·simp only[j8,IT,ah2]at hi;obtain⟨⟨a,u⟩,hq,hx⟩:=hi;simp only[ado]at hx;obtain⟨rfl,rfl⟩:=hx;exact⟨(h.rep i a u e hq (by simpa using he)).1,.bad⟩
theorem Fi{t et:TypeId}{ks:List Kd}{key:PV}{zv yi:Value}{g clock:Nat}{l:List (PV×PV)}(hu:P.underlying t=some (.map kt et))(hk:tg P kt=some ks)(y0:wy P kt ks key=true)(hyi:ai P μ key yi)(hg:w.heap[g]?=some (.map en clock))(hE:xc P μ kt ks (j8 l) en.toList)(hz:(zeroValue et).run P w=.ok zv w):(mE key l=none∧(Instr.lookup t (.map (some g)) yi false).run P w=.ok zv w)∨∃j e,mE key l=some j∧en[j]?=some e∧(Instr.lookup t (.map (some g)) yi false).run P w=.ok e.val w:=by
 have T9:=yN hk;obtain⟨hc,hv⟩:=mS y0 hyi;obtain⟨r,r1,r2⟩:=mn (v:=.qU) (z:=.bad) T9 hc w hE;have h1:=iO 8 kt ks T9 9992 w en.isEmpty key.cells hc;have He:=Go.MapKept.run_getObj_map (P:=P) hg;have Ua:(Instr.checkKey en.isEmpty 10000 kt (e8 P kt key.cells)).run P w=.ok () w:=h1;rw[hv];unfold Instr.lookup;simp only[Sem.run_bind,run_underlying hu,Result.andThen_ok,Sem.run_pure,He];rcases H6 r2 with⟨rfl,h⟩|⟨j,e,rfl,he,h⟩
 ·exact .inl ⟨h,by simp[Ua,r1,hz]⟩
 ·exact .inr ⟨j,e,h,by simpa using he,by simp[Ua,r1]⟩
end
section
variable {R:Type} {E:Env}
theorem OQ{t:TypeId}(h:zeroV E.P t=some .iK)(w:World):(zeroValue t).run E.P w=.ok (.slice none 0 0) w:=by unfold zeroV at h;obtain⟨c,hc,h⟩:=ah2.1 h;obtain⟨i,hi,hz⟩:=BY.1 hc;have:=uu (P:=E.P) (μ:=fun _=>none) (φ:=fun _=>default) c;rw[h]at this;cases this;exact pj hi hz
theorem Wz{site:Nat}{t:TypeId}{x ix:V}{m:Mem}{k:V→Mem→bG→Option R}{r:R}(h:K6 E site t x ix m k=some r):∃id b1 b2 m',m'=uf [(id,b1),(site,b2)] m∧k (.os site) m' [(true,id),(true,site)]=some r∧m site=none∧b2.names=(fun _=>false)∧b1.names=(fun _=>false)∧(m id).isSome=true∧(∀m2:Mem,m2 id=m id→m2 site=none→∀(R':Type)(k':V→Mem→bG→Option R'),K6 E site t x ix m2 k'=k' (.os site) (uf [(id,b1),(site,b2)] m2) [(true,id),(true,site)])∧∀(G:Nat→Option (List PV))(w0:bI)(μ:Ro)(φ:Nat→aH)(w:World)(f:Fr)(ρ:Nat→Value)(y yi:Value),az E.P G w0 μ φ m w→cu E.P μ φ m f ρ→ah E.P μ φ x y→ah E.P μ φ ix yi→∃u φ',(Instr.lookup t y yi false).run E.P w=.ok u w∧az E.P G w0 μ φ' m' w∧cu E.P μ φ' m' f ρ∧ah E.P μ φ' (.os site) u:=by
 unfold K6 at h;split at h
 ·rename_i kt et hu;split at h
  ·rename_i e hue;split at h
   ·rename_i id hz;split at h
    ·rename_i wL e' es hm hs;split at h
     ·rename_i hc;obtain⟨rfl,rfl,eF⟩:=hc;obtain⟨key,y0,h⟩:=BY.1 h;obtain⟨rs,hrs,h⟩:=BY.1 h;obtain⟨ks,k1,k2,k3⟩:=uz y0;have cY:site≠id:=fun e=>by subst e;rw[hs]at hm;cases hm
      refine⟨id,.fv wL e' (tf key es),.arr (aV E.P e') e' rs,_,rfl,h,hs,rfl,rfl,by rw[hm];rfl,fun m2 h1 h2 R' k'=>?_,fun G w0 μ φ w f ρ y yi hM hF hx hi=>?_⟩
      ·simp only[K6,hu,hue,hz,h1,h2,hm,y0,hrs,ajH,eF,and_self,aaV];rfl
      ·obtain⟨g,en,clock,kk,hN⟩:=uB.1 (hM.dH id _ hm);have Dk:=hN.BM;rw[k1]at Dk;simp only[AT]at Dk;subst Dk;cases hx with
       |om cO=>
        rw[hN.pl]at cO;simp only[AT]at cO;subst cO;have WA:=Fi hu k1 k2 (k3 μ φ yi hi) hN.heap hN.ent (OQ hz w);have ZQ:∀i off,(bR.fv wL e' (tf key es)).rowAt i off=true→(bR.fv wL e' es).rowAt i off=true∧mE key es≠some i:=by
         intro i off hr;rcases kA hr with⟨_,_,_,_,_,_,hb,_⟩|⟨_,_,_,k0,s0,rs0,hb,rfl,he⟩
         ·cases hb
         ·simp only[bR.fv.injEq]at hb;obtain⟨rfl,rfl,rfl⟩:=hb;rw[uA]at he;cases hp:mE key es with
          |none=>rw[hp]at he;simp only at he;exact⟨by rw[ky he];rfl,by simp⟩
          |some j=>
           rw[hp]at he;simp only[al0]at he;split at he
           ·rename_i Ui;exfalso;obtain⟨x0,_,Oy⟩:=ah2.1 he;simp at Oy
           ·rename_i Ui;have he:es[i]?=some (k0,PV.qV s0 rs0):=by simpa using he
            exact⟨by rw[ky he];rfl,fun h=>Ui (by simpa using h)⟩
        have vw:az E.P G w0 μ φ (aq m id (.fv wL e' (tf key es))) w:=by
         refine hM.write hm rfl hN.pl (lA.refl _ _) rfl (fun _ _=>rfl) (uB.2 ⟨g,en,clock,ks,hN.pl,hN.heap,?_,k1,fun i k0 v0 h0=>?_,hN.born,fun i k0 v0 e0 h0 Wy=>?_⟩) rfl (by simp[bR.names]) (fun st h=>by cases h) (fun i off hr=>(ZQ i off hr).1)
         ·rw[hN.size,uA];cases mE key es<;>simp
         ·rw[uA]at h0;cases hp:mE key es with
          |none=>rw[hp]at h0;exact hN.key i k0 v0 h0
          |some j=>
           rw[hp]at h0;simp only[al0]at h0;obtain⟨x0,Oy,hq⟩:=ah2.1 h0;obtain⟨xa,xu⟩:=x0;split at hq
           ·simp only[ado]at hq;rw[←hq.1];exact hN.key i xa xu Oy
           ·simp only[id_eq,ado]at hq;rw[←hq.1];exact hN.key i xa xu Oy
         ·rw[uA]at h0;cases hp:mE key es with
          |none=>rw[hp]at h0;exact hN.rep i k0 v0 e0 h0 Wy
          |some j=>
           rw[hp]at h0;simp only[al0]at h0;obtain⟨x0,Oy,hq⟩:=ah2.1 h0;obtain⟨xa,xu⟩:=x0;obtain⟨q1,q2⟩:=hN.rep i xa xu e0 Oy Wy;split at hq
           ·simp only[ado]at hq;obtain⟨rfl,rfl⟩:=hq;exact⟨q1,.pure .bad⟩
           ·simp only[id_eq,ado]at hq;obtain⟨rfl,rfl⟩:=hq;exact⟨q1,q2⟩
        have adY:∀(ph:aH)(u:Value),aN E.P μ (fun _=>ph) w 0 (aV E.P e') e' rs→ah E.P μ (fun _=>ph) (.os 0) u→(∀g',ph.g=some g'→∃j,mE key es=some j∧(bR.fv wL e' es).rowAt j 0=true∧((φ id).row j 0).g=some g')→∃φ',az E.P G w0 μ φ' (uf [(id,.fv wL e' (tf key es)),(site,.arr (aV E.P e') e' rs)] m) w∧cu E.P μ φ' (uf [(id,.fv wL e' (tf key es)),(site,.arr (aV E.P e') e' rs)] m) f ρ∧ah E.P μ φ' (.os site) u:=by
         intro ph u hA hV He;have HR:∀j,(m j).isSome=true→j≠site:=fun j hj e=>by subst e;rw[hs]at hj;cases hj
         refine⟨fun i=>if i=site then ph else φ i,?_,?_,?_⟩
         ·refine vw.put (by rw[aw cY];exact hs) (lA.refl _ _) hM.ro (fun _ _ _ _ _=>rfl) (fun g' cO=>?_) (rQ rj) ?_ (by simp[bR.names]) (fun st h=>by cases h)
          ·have cO:=pg rj cO;obtain⟨j,hj,hr,hjg⟩:=He g' cO;obtain⟨o1,o2⟩:=hM.own id _ g' hm (.inr ⟨j,0,hr,hjg⟩);refine⟨o1,o2 rfl,fun i b' hi ho=>?_⟩;by_cases VJ:i=id
           ·subst VJ;rw[bw]at hi;simp only[AT]at hi;subst hi;obtain⟨a1,a2⟩:=hM.apart i _ hm j 0 g' hr hjg;rcases ho with ho|⟨i',tC,AL,ho⟩
            ·exact a1 ho
            ·obtain⟨h3,h4⟩:=ZQ i' tC AL;exact h4 (by rw[hj,(a2 i' tC h3 ho).1])
           ·rw[aw VJ]at hi;exact VJ (hM.inj i id _ _ g' hi hm ho (.inr ⟨j,0,hr,hjg⟩))
          ·exact aN.move (φ':=fun i=>if i=site then ph else φ i) (j:=site) hA (by simp) (fun _ _ h=>h)
         ·refine hF.mono (fun _ _ h=>h) fun j hj=>⟨by simp[HR j hj],?_⟩;show(aq (aq m id _) site _ j).isSome=true;rw[aw (HR j hj)];by_cases Ui:j=id
          ·subst Ui;simp
          ·rw[aw Ui];exact hj
         ·cases hV with
          |s9 h=>exact .s9 (by simpa using h)
          | @os _ g0 h=>have:=ah.os (P:=E.P) (μ:=μ) (φ:=fun i=>if i=site then ph else φ i) (id:=site) (g:=g0) (by simpa using h);simpa using this
        rw[Lw]at hrs;rcases WA with⟨hp,pZ⟩|⟨j,en0,hp,hen,pZ⟩
        ·rw[hp]at hrs;simp only[AT]at hrs;subst hrs;obtain⟨φ',a1,a2,a3⟩:=adY (DU none 0 0 (aV E.P e')) (.slice none 0 0) ⟨rfl,rfl,rfl,eF,by simp,by simp[maxLen],⟨rfl,rfl⟩⟩ (.s9 rfl) (fun g' cO=>by cases cO);exact⟨_,φ',pZ,a1,a2,a3⟩
        ·rw[hp]at hrs;obtain⟨x0,Oy,lB⟩:=BY.1 hrs;obtain⟨xa,xu⟩:=x0;have hxu:=Lj lB;simp only at hxu;subst hxu;obtain⟨_,q2⟩:=hN.rep j xa _ en0 Oy hen;obtain⟨φ',a1,a2,a3⟩:=adY ((φ id).row j 0).up en0.val q2.1 q2.2 (fun g' cO=>⟨j,hp,by rw[ky Oy];rfl,cO⟩);exact⟨_,φ',pZ,a1,a2,a3⟩
     ·cases h
    ·cases h
   ·cases h
  ·cases h
 ·cases h
end
theorem Fj{m:Mem}:∀{cs:List V}{j0:Nat}{ps:List PV}{tk:Option (Nat×Nat)},lN m j0 cs=some (ps,tk)→ps.length=cs.length∧(tk=none→∀(i:Nat)p,ps[i]?=some p→∃v,cs[i]?=some v∧lj dh 1 v=some p)∧∀j id2,tk=some (j,id2)→∃l s2 Lv rs,cs[l]?=some (.os id2)∧m id2=some (.arr s2 Lv rs)∧ps[l]?=some (.qV s2 rs)∧∀(i:Nat)p,i≠l→ps[i]?=some p→∃v,cs[i]?=some v∧lj dh 1 v=some p
 |[],j0,ps,tk,h=>by simp only[lN,AT,ado]at h;obtain⟨rfl,rfl⟩:=h;exact⟨rfl,fun _ i p hp=>by simp at hp,fun j id2 h=>by cases h⟩
 |v::r,j0,ps,tk,h=>by
  have plain:∀{p:PV},lj dh 1 v=some p→(match lN m (j0+1) r with
   |some (ps,t)=>some (p::ps,t)
   |none=>none)=some (ps,tk)→ps.length=(v::r).length∧
   (tk=none→∀(i:Nat)p,ps[i]?=some p→∃u,(v::r)[i]?=some u∧lj dh 1 u=some p)∧
   ∀j id2,tk=some (j,id2)→∃l s2 Lv rs,(v::r)[l]?=some (.os id2)∧m id2=some (.arr s2 Lv rs)∧ps[l]?=some (.qV s2 rs)∧∀(i:Nat)p,i≠l→ps[i]?=some p→∃u,(v::r)[i]?=some u∧lj dh 1 u=some p:=by
   intro p hp h
   split at h
   ·rename_i ps' t ht;simp only[AT,ado]at h;obtain⟨rfl,rfl⟩:=h;obtain⟨h1,h2,h3⟩:=Fj ht;refine⟨by simp[h1],fun hn i q hq=>?_,fun j id2 hj=>?_⟩
    ·cases i with
     |zero=>simp at hq;subst hq;exact⟨v,rfl,hp⟩
     |succ i=>simpa using h2 hn i q (by simpa using hq)
    ·obtain⟨l,s2,Lv,rs,a1,a2,a3,a4⟩:=h3 j id2 hj;refine⟨l+1,s2,Lv,rs,by simpa using a1,a2,by simpa using a3,fun i q hi hq=>?_⟩;cases i with
     |zero=>simp at hq;subst hq;exact⟨v,rfl,hp⟩
     |succ i=>simpa using a4 i q (by omega) (by simpa using hq)
   ·cases h
  unfold lN at h;split at h
  ·rename_i heq;cases heq
  ·rename_i j id r' heq;simp only[aku]at heq;obtain⟨rfl,rfl⟩:=heq;split at h
   ·rename_i s et es hm;split at h
    ·rename_i ps' ht;simp only[AT,ado]at h;obtain⟨rfl,rfl⟩:=h;obtain⟨h1,h2,_⟩:=Fj ht;refine⟨by simp[h1],fun hn=>(nomatch hn),fun j id2 hj=>?_⟩;simp only[AT,ado]at hj;obtain⟨rfl,rfl⟩:=hj;refine⟨0,s,et,es,rfl,hm,rfl,fun i q hi hq=>?_⟩;cases i with
     |zero=>exact absurd rfl hi
     |succ i=>simpa using h2 rfl i q (by simpa using hq)
    ·cases h
   ·cases h
  ·rename_i j v' r' _ heq;simp only[aku]at heq;obtain⟨rfl,rfl⟩:=heq;split at h
   ·rename_i p hp;exact plain hp h
   ·cases h
section
variable {P:Program} {G:Nat→Option (List PV)} {w0:bI} {μ μ':Ro} {φ φ':Nat→aH} {m m':Mem} {w w':World}
theorem Fk{v:V}{n j id2:Nat}{cs:List V}{ps:List PV}(hc:toCells n v=some cs)(h:lN m 0 cs=some (ps,some (j,id2))):∃l s2 Lv rs,m id2=some (.arr s2 Lv rs)∧ps[l]?=some (.qV s2 rs)∧ps.length=n∧v.has id2=true∧∀(P:Program)(μ:Ro)(φ:Nat→aH)(x:Value),ah P μ φ v x→x.cells.size=n∧(∀(i:Nat)(y:Value),x.cells[i]?=some y→y.oneCell'=true)∧(∀(i:Nat)p y,i≠l→ps[i]?=some p→x.cells[i]?=some y→ai P μ p y)∧∃y,x.cells[l]?=some y∧ah P μ φ (.os id2) y:=by
 obtain⟨t1,_,t3⟩:=Fj h;obtain⟨l,s2,Lv,rs,a1,a2,a3,a4⟩:=t3 j id2 rfl;obtain⟨n1,n2,n3⟩:=toCells_ok hc;refine⟨l,s2,Lv,rs,a2,a3,by rw[t1,n1],n2 id2 (bU (ah3 a1) (by simp[V.has])),fun P μ φ x hx=>?_⟩;obtain⟨x1,x2,x3⟩:=n3 P μ φ x hx;refine⟨x1,x3,fun i p y hi hp hy=>?_,?_⟩
 ·obtain⟨u,hu,hf⟩:=a4 i p hi hp;exact uv 1 hf (x2 i u y hu hy)
 ·have hl:l<x.cells.size:=by rw[x1,←n1];exact(IS.1 a1).1
  exact⟨x.cells[l],T0 hl,x2 l _ _ a1 (T0 hl)⟩
theorem Dq{s off n:Nat}{e:PV}{ps:List PV}(hn:ps.length=n)(hb:off+n≤s)(h0:0<n)(ha:s=1→∀p,ps.head? =some p→∀cs,p≠.agg cs):(if s=1 then ps.headD .bad else PV.agg (bT (aJ s e) off ps)).cells=bT (aJ s e) off ps:=by
 split
 ·rename_i h1;subst h1;have e1:off=0:=by omega
  have e2:n=1:=by omega
  subst e1;subst e2;match ps,hn with
  |[p],_=>
   have:=ha rfl p rfl;have hp:p.cells=[p]:=by cases p<;>first|rfl|exact absurd rfl (this _)
   simp only[List.headD_cons,hp,dI,alh,aj1,ajv,ajQ];rw[List.drop_of_length_le (by rw[aZ];exact ajC _)];rfl
 ·rfl
theorem Fl{T:Type}{cs ps:List T}{off l:Nat}{x:T}(hl:l<ps.length)(hb:off+ps.length≤cs.length):bT cs off (ps.set l x)=(bT cs off ps).set (off+l) x:=by
 have hto:(cs.take off).length=off:=by simp;omega
 rw[dI,dI,alA,ajN,ajN,List.set_append,IN (by omega),List.set_append,BK (by omega)];rw[show off+l-(cs.take off).length=l by omega]
theorem Fm{id id2:Nat}{B X:bR}(cY:id2≠id):aq (fo id (bq (bM id2 (aq m id B)) id2)) id X=aq (fo id (bq (bM id2 m) id2)) id X:=by
 funext t;by_cases h:t=id
 ·subst h;simp
 ·rw[aw h,aw h];unfold fo;by_cases h2:t=id2
  ·subst h2;simp
  ·rw[fR h2,fR h2];unfold bM;rw[aw h]
end
section
variable {R:Type} {E:Env}
theorem WB{t:TypeId}{v:V}{id i off s id2 j:Nat}{et:TypeId}{es ps:List PV}{cs:List V}{e:PV}{m:Mem}(hm:m id=some (.nest s et es))(hc:toCells (aV E.P t) v=some cs)(ht:lN m 0 cs=some (ps,some (j,id2)))(hb:off+aV E.P t≤s)(h0:0<aV E.P t)(cY:id2≠id)(he:es[i]?=some e){G:Nat→Option (List PV)}{w0:bI}{μ:Ro}{φ:Nat→aH}{w:World}{f:Fr}{ρ:Nat→Value}{ya yx:Value}(hM:az E.P G w0 μ φ m w)(hF:cu E.P μ φ m f ρ)(ha:ah E.P μ φ (.oe id i off) ya)(hx:ah E.P μ φ v yx):∃w' φ',(Instr.storeAt t ya yx).run E.P w=.ok () w'∧az E.P G w0 μ φ' (uf [(id,.nest s et (es.set i (if s=1 then ps.headD .bad else .agg (bT (aJ s e) off ps))))] (km [(true,id2),(false,id)] m)) w'∧cu E.P μ φ' (uf [(id,.nest s et (es.set i (if s=1 then ps.headD .bad else .agg (bT (aJ s e) off ps))))] (km [(true,id2),(false,id)] m)) (kf [(true,id2),(false,id)] f) ρ:=by
 obtain⟨l,s2,Lv,rs,c9,lB,DX,ahe,ku⟩:=Fk hc ht;obtain⟨x1,x2,x3,y,hy,ZK⟩:=ku E.P μ φ yx hx;have HX:l<ps.length:=(IS.1 lB).1;have hN:bd E.P μ φ w id s et es:=hM.dH id _ hm;have Ek:=hN.2.2.2.2.1 i e he;have Ej:(aJ s e).length=s:=aZ _ _;have pX:ps=(ps.set l .bad).set l (.qV s2 rs):=by
  rw[List.set_set];apply ajY;intro a;rw[aj6];split
  ·rename_i e1;subst e1;first|exact lB|(rw[BK HX];exact lB)
  ·rfl
 have tb:∀(a:Nat)p,(ps.set l .bad)[a]?=some p→(a=l∧p=.bad)∨(a≠l∧ps[a]?=some p):=fun a p h=>fj h;have hE:tH E.P μ (aV E.P t) (.agg (ps.set l .bad)) yx:=by
  refine⟨by simp[PV.cells,DX],x1,fun a p z hp hz=>?_,x2⟩;rcases tb a p (by simpa[PV.cells]using hp)with⟨_,rfl⟩|⟨h1,h2⟩
  ·exact .bad
  ·exact x3 a p z h1 h2 hz
 have one:s=1→ps.length=1:=fun h=>by omega
 have hq:(if s=1 then ps.headD .bad else PV.agg (bT (aJ s e) off ps)).cells=bT (aJ s e) off ps:=Dq DX hb h0 fun h1 p hp Ov=>by
  have N8:l=0:=by have:=one h1;omega
  subst N8;rw[alu,lB]at hp;simp only[AT]at hp;subst hp;simp
 have hq':(if s=1 then(ps.set l .bad).headD .bad else PV.agg (bT (aJ s e) off (ps.set l .bad))).cells=bT (aJ s e) off (ps.set l .bad):=Dq (by simpa using DX) hb h0 fun h1 p hp Ov=>by
  have N8:l=0:=by have:=one h1;omega
  subst N8;rw[alu,aj6,BK rfl,BK HX]at hp;simp only[AT]at hp;subst hp;simp
 generalize (if s=1 then ps.headD .bad else PV.agg (bT (aJ s e) off ps))=q at hq⊢;generalize (if s=1 then(ps.set l .bad).headD .bad else PV.agg (bT (aJ s e) off (ps.set l .bad)))=q' at hq';cases ha with
 | @oe _ _ _ g hg=>
  obtain⟨c,T,hh,rT,zi,hrw⟩:=bd.set (q:=q') hN (hM.apart id _ hm) hg he hE hb (by rw[hq'];rfl);have oh:(φ id).sz=s:=hN.2.1;have hi:=kX (P:=E.P) (t:=t) (by omega);have vw:az E.P G w0 μ φ (aq m id (.nest s et (es.set i q'))) (w.setRow g (bT c.toList (i*s+off) yx.cells.toList).toArray):=hM.write hm rfl hg (lA.setRow (ajC _)) setRow_size (fun k hk=>cv hk) zi rfl (fun j hj=>by simp[bR.names]at hj) (fun st h=>by cases h) hrw;have hil:i<es.length:=(IS.1 he).1;have adZ:q.cells=q'.cells.set (off+l) (.qV s2 rs):=by rw[hq,hq',←Fl (by simpa using HX) (by simp[Ej,DX];omega),←pX]
  have zo:q'.cells[off+l]?=some .bad:=by rw[hq',Fl HX (by rw[Ej,DX];exact hb),aj6,BK rfl,BK];rw[cP (by rw[Ej,DX];exact hb),Ej];omega
  have uh:=az.abY vw (id:=id) (id2:=id2) (i:=i) (off:=off+l) (e:=q') (q:=q) (x:=y) cY (bw _ _ _) (by rw[aw cY];exact c9) (by simp[hil]) zo (fun g0 c0 _ Ot hc0=>by
   rw[hg]at Ot;simp only[AT]at Ot;subst Ot;rw[setRow_heap w g c _ T (0,0) hh]at hc0;simp only[AT,Obj.cells.injEq]at hc0;obtain⟨rfl,_⟩:=hc0;rw[aj0,dI];have cd:(c.toList.take (i*s+off)).length=i*s+off:=by simp;omega
   have HT:l<yx.cells.toList.length:=by simp only[akX];rw[x1];omega
   rw[ajN,aks (by omega),cd,show i*s+(off+l)-(i*s+off)=l by omega,akC HT];simpa using hy) ZK adZ
  rw[List.set_set,Fm cY]at uh;refine⟨_,_,by rw[oh];exact gK hE.size hi hh rT hE.one,uh,?_⟩;have DW:cu E.P μ φ (aq m id (.nest s et (es.set i q'))) f ρ:=hF.ni (fun _ _ h=>h) .set;have ZM:=(DW.forget id2).vA id;refine ZM.aa7 (by simp[kY]) (fun k hk=>by simp[hk]) fun k hk=>?_;show(aq (fo id (bq (bM id2 m) id2)) id _ k).isSome=true;by_cases e1:k=id
  ·subst e1;simp
  ·rw[aw e1];rw[pk]at hk⊢;by_cases e2:k=id2
   ·subst e2;simp at hk
   ·rw[fR e2]at hk⊢;simp only[bM,aw e1]at hk⊢;exact hk
end
section
variable {R:Type} {E:Env}
variable{e:TypeId}{id2:Nat}{G:Nat→Option (List PV)}{w0:bI}{φ:Nat→aH}{w:World}{ρ:Nat→Value}
theorem Uj{t:TypeId}{v:V}{j site:Nat}{cs:List V}{ps:List PV}{p:PV}{m:Mem}(hu:E.P.underlying t=some (.slice e))(hc:toCells (aV E.P e) v=some cs)(ht:lN m 0 cs=some (ps,some (j,id2)))(hs:m site=none)(hp:elemOf (aF E.P e) ps=some p)(eF:0<aV E.P e)(Cd:aV E.P e≤16777216)(hz:(dq E e).isSome=true){μ:Ro}{f:Fr}{yx:Value}(hM:az E.P G w0 μ φ m w)(hF:cu E.P μ φ m f ρ)(hx:ah E.P μ φ v yx):∃y w' φ',(Instr.buildSlice t 1 #[(0,yx)]).run E.P w=.ok y w'∧az E.P G w0 μ φ' (uf [(site,.nest (aV E.P e) e [p])] (km [(true,id2)] m)) w'∧cu E.P μ φ' (uf [(site,.nest (aV E.P e) e [p])] (km [(true,id2)] m)) (kf [(true,id2)] f) ρ∧ah E.P μ φ' (.os site) y:=by
 obtain⟨l,s2,Lv,rs,c9,lB,DX,ahe,ku⟩:=Fk hc ht;obtain⟨x1,x2,x3,z,hz1,hvz⟩:=ku E.P μ φ yx hx;obtain⟨zc,VK⟩:=ajR.1 hz;obtain⟨iz,zv,i1,i2,i3,_⟩:=eS VK;have cY:id2≠site:=fun e=>by simp_all
 have OR:p.cells=ps:=by
  unfold elemOf at hp;split at hp
  ·simp only[AT]at hp;subst hp;rfl
  ·split at hp
   ·rename_i q;simp only[AT]at hp;subst hp;have N8:l=0:=by grind
    subst N8;simp only[akb,AT]at lB;subst lB;rfl
   ·cases hp
 have hA2:aN E.P μ φ w id2 s2 Lv rs:=hM.dH id2 _ c9;have ai5:Instr.fill (fun i=>some (i*aV E.P e,aV E.P e)) ((Array.range (1*aV E.P e)).map (zv.cells[·%zv.cells.size]!)) [(0,yx)]=some yx.cells:=by
  have VM:((Array.range (1*aV E.P e)).map (zv.cells[·%zv.cells.size]!)).size=aV E.P e:=by simp
  rw[yM (off:=0) (size:=aV E.P e) (by simp) x1 (by omega)];simp only[Instr.fill,AT];apply alj;simp only[dI,alh,aj1,ako];simp_all
 have pZ:=run_buildSlice (P:=E.P) w t e 1 #[(0,yx)] yx.cells iz zv hu i1 i2 (by omega) (by omega) (by rw[i3];omega);let q:aH:={g:=some w.heap.size,cap:=1,len:=1,sz:=aV E.P e,row:=fun a b=>if a=0∧b=l then(φ id2).toDd else default};have HR:∀k,(bq (bM id2 m) id2 k).isSome=true→k≠site:=fun k hk e=>by simp_all[fR,Ne.symm,bM]
 have WC:∀a b,(bR.nest (aV E.P e) e [p]).rowAt a b=true→a=0∧b=l:=by
  intro a b hr;rcases kA hr with⟨_,_,_,e',s',rs',iv,h',uy⟩|⟨_,_,_,_,_,_,iv,_⟩
  ·simp only[bR.nest.injEq]at iv;obtain⟨rfl,rfl,rfl⟩:=iv;cases a with
   |succ a=>simp at h'
   |zero=>
    simp only[akb,AT]at h';subst h';rw[OR]at uy;refine⟨rfl,?_⟩;by_cases WD:b=l
    ·exact WD
    ·exfalso;have cd:b<yx.cells.size:=by rw[x1,←DX];exact(IS.1 uy).1
     exact absurd (x3 b _ _ WD uy (T0 cd)).Ei (by simp[PV.isRow])
  ·cases iv
 have vw:=hM.forget id2;have tL:az E.P G w0 μ (fun i=>if i=site then q else φ i) (aq (bq (bM id2 m) id2) site (.nest (aV E.P e) e [p])) (w.alloc (.cells yx.cells e)):=by
  have hold:∀k,k<w.heap.size→(w.alloc (.cells yx.cells e)).heap[k]?=w.heap[k]?:=fun k hk=>lA.heap_alloc w _ k hk;refine vw.put (by rw[fR (Ne.symm cY)];simp[bM,hs]) ((lA.refl _ w).alloc hM.below.size _) (fun k o hk=>?_) (fun id b' g av hg=>hold g ((vw.dH id b' av).E1 hg)) (fun g hg=>?_) ?_ ?_ (by simp[bR.names]) (fun st h=>by cases h)
  ·have:=hM.ro k o hk;rw[hold k (adp.1 this).1];exact this
  ·rcases hg with hg|⟨a,b,hr,hg⟩
   ·simp only[q,AT]at hg;subst hg;refine⟨hM.below.size,?_,fun id b' av ho=>?_⟩
    ·cases hq:μ w.heap.size with
     |none=>rfl
     |some o'=>have:=hM.ro _ _ hq;simp at this
    ·have:=(vw.dH id b' av).E1 ho;omega
   ·have uh:=WC a b hr;have hg:(φ id2).g=some g:=by simpa[q,uh]using hg
    obtain⟨o1,o2⟩:=hM.own id2 _ g c9 (.inl hg);refine⟨o1,o2 rfl,fun id b' av ho=>?_⟩;obtain⟨h1,b2,vg,rfl⟩:=fN av;exact h1 (hM.inj id id2 _ _ g vg c9 (gJ.1 ho) (.inl hg))
  ·intro a b g hr hg;have uh:=WC a b hr;have hg:(φ id2).g=some g:=by simpa[q,uh]using hg
   refine⟨fun h=>?_,fun a' b' AL _=>by have:=WC a' b' AL;omega⟩;simp only[q,AT]at h;have:=(hM.dH id2 _ c9).E1 (.inl hg);omega
  ·show bd E.P μ (fun i=>if i=site then q else φ i) (w.alloc (.cells yx.cells e)) site (aV E.P e) e [p];unfold bd;simp only[aaV];refine⟨rfl,rfl,trivial,eF,fun i e' Uk=>?_,by simp[q,maxLen],yx.cells,e,fS w _,by simp[q,x1],by simp[q],fun i e' b p' x' Uk uy Sy=>?_,fun i x' _ Sy=>x2 i x' Sy⟩
   ·cases i with
    |zero=>simp at Uk;subst Uk;rw[OR,DX]
    |succ i=>simp at Uk
   ·cases i with
    |succ i=>simp at Uk
    |zero=>
     simp only[akb,AT]at Uk;subst Uk;rw[OR]at uy;rw[am4,ako]at Sy;by_cases WD:b=l
     ·subst WD;rw[lB]at uy;simp only[AT]at uy;subst uy;rw[hz1]at Sy;simp only[AT]at Sy;subst Sy;have:q.row 0 b=(φ id2).toDd:=by simp[q]
      rw[this];refine eY.cL ⟨⟨Lv,hA2.up⟩,OM hvz⟩ (fun _ _ h=>h) fun g hg=>hold g ((hM.dH id2 _ c9).E1 (.inl hg))
     ·exact .pure (x3 b p' x' WD uy Sy)
 refine⟨_,_,_,pZ,tL,?_,?_⟩
 ·exact(hF.forget id2).mono (fun _ _ h=>h) fun k hk=>⟨by simp[HR k hk],by show(aq (bq (bM id2 m) id2) site _ k).isSome=true;rw[aw (HR k hk)];exact hk⟩
 ·have:=ah.os (P:=E.P) (μ:=μ) (φ:=fun i=>if i=site then q else φ i) (id:=site) (g:=w.heap.size) (by simp[q]);simpa[q]using this
theorem WE{k v v':PV}:∀{es:List (PV×PV)}{j:Nat},(fg k v es)[j]?=some (k,v)→(mE k es=some j∨(mE k es=none∧j=es.length))→(fg k v es).set j (k,v')=fg k v' es:=by
 intro es j hj hp;rw[nj,nj];rcases hp with hp|⟨hp,rfl⟩
 ·rw[hp];simp
 ·rw[hp];simp
variable{es:List (PV×PV)}
theorem az.ZR{P:Program}{μ:Ro}{m:Mem}(hM:az P G w0 μ φ m w){id i s2:Nat}{kt:TypeId}{k:PV}{rs:List PV}{x:Value}(cY:id2≠id)(hm:m id=some (.fv kt e es))(c9:m id2=some (.arr s2 e rs))(he:es[i]?=some (k,.bad))(hx:∀g en clock,(φ id).g=some g→w.heap[g]?=some (.map en clock)→∃e0,en[i]?=some e0∧e0.val=x)(hv:ah P μ φ (.os id2) x):az P G w0 μ (fun j=>if j=id then kY (φ id) i 0 (φ id2).toDd else φ j) (aq (fo id (bq (bM id2 m) id2)) id (.fv kt e (es.set i (k,.qV s2 rs)))) w:=by
 have vw:=(hM.forget id2).vA id;obtain⟨g0,en,clock,kk,hN⟩:=uB.1 (hM.dH id _ hm);have hA2:aN P μ φ w id2 s2 e rs:=hM.dH id2 _ c9;have lB:∀a b,(bR.fv kt e (es.set i (k,.qV s2 rs))).rowAt a b=true→(a=i∧b=0)∨((bR.fv kt e es).rowAt a b=true∧¬(a=i∧b=0)):=by
  intro a b hr;by_cases uh:a=i∧b=0
  ·exact .inl uh
  ·refine .inr ⟨?_,uh⟩;rcases kA hr with⟨_,_,_,_,_,_,iv,_⟩|⟨_,_,_,k',s',rs',iv,rfl,h'⟩
   ·cases iv
   ·simp only[bR.fv.injEq]at iv;obtain⟨rfl,rfl,rfl⟩:=iv;rcases fj h' with⟨rfl,_⟩|⟨Zc,h'⟩
    ·exact absurd ⟨rfl,rfl⟩ uh
    ·rw[ky h'];rfl
 refine hM.SA (fun _ k=>if k=id2 then id else k) (fun j b' hj=>?_) (fun j b' g hj ho=>?_) (fun j b' hj=>?_) (fun j cs k hj hk=>?_) (fun j st hj=>?_)
 ·rcases fO hj with⟨rfl,rfl⟩|⟨h1,h2,c,hc,rfl⟩
  ·refine uB.2 ⟨g0,en,clock,kk,by simp[kY,hN.pl],hN.heap,by simp[hN.size],hN.BM,fun a k' v' h'=>?_,hN.born,fun a k' v' e' h' Uk=>?_⟩
   ·rcases fj h' with⟨rfl,hq⟩|⟨_,h'⟩
    ·simp only[ado]at hq;rw[hq.1];exact hN.key a k _ he
    ·exact hN.key a k' v' h'
   ·simp only[aaV];rcases fj h' with⟨rfl,hq⟩|⟨Zc,h'⟩
    ·simp only[ado]at hq;obtain⟨rfl,rfl⟩:=hq;refine⟨(hN.rep a _ _ e' he Uk).1,?_⟩;rw[gR];obtain⟨e1,he1,hxe⟩:=hx g0 en clock hN.pl hN.heap;rw[Uk]at he1;simp only[AT]at he1;subst he1;rw[hxe];exact⟨hA2.up,OM hv⟩
    ·rw[hZ _ _ (fun h=>Zc h.1)];exact hN.rep a k' v' e' h' Uk
  ·have hb:hU P μ φ w j (dY id (gP id2 c)):=(hM.dH j c hc).kill.zg;exact hb.SB h1 (by simp[kY]) fun k hk=>by simp[hk]
 ·rcases fO hj with⟨rfl,rfl⟩|⟨h1,h2,c,hc,rfl⟩
  ·simp only[aaV]at ho;rcases ho with ho|⟨a,b,hr,ho⟩
   ·exact⟨j,_,hm,.inl ho,fun _=>rfl,by simp[cY.symm]⟩
   ·rcases lB a b hr with⟨rfl,rfl⟩|⟨AL,uh⟩
    ·rw[gR]at ho;exact⟨id2,_,c9,.inl ho,fun _=>rfl,by simp⟩
    ·rw[hZ _ _ uh]at ho;exact⟨j,_,hm,.inr ⟨a,b,AL,ho⟩,fun _=>rfl,by simp[cY.symm]⟩
  ·simp only[h1,abG]at ho;exact⟨j,c,hc,gJ.1 (rW.1 ho),fun h=>by rw[zT,yL]at h;exact h,by simp[h2]⟩
 ·rcases fO hj with⟨rfl,rfl⟩|⟨h1,h2,c,hc,rfl⟩
  ·simp only[aaV];have G0:=hM.apart j _ hm;have new:∀g,(φ id2).g=some g→¬(bR.fv kt e es).ev (φ j) g:=fun g hg ho=>cY (hM.inj id2 j _ _ g c9 hm (.inl hg) ho);intro a b g hr hg;rcases lB a b hr with⟨rfl,rfl⟩|⟨AL,uh⟩
   ·rw[gR]at hg;refine⟨fun h=>new g hg (.inl h),fun a' b' SC ON=>?_⟩;rcases lB a' b' SC with h|⟨VL,OO⟩
    ·exact h
    ·rw[hZ _ _ OO]at ON;exact absurd (.inr ⟨a',b',VL,ON⟩) (new g hg)
   ·rw[hZ _ _ uh]at hg;obtain⟨h3,h4⟩:=G0 a b g AL hg;refine⟨h3,fun a' b' SC ON=>?_⟩;rcases lB a' b' SC with⟨rfl,rfl⟩|⟨VL,OO⟩
    ·rw[gR]at ON;exact absurd (.inr ⟨a,b,AL,hg⟩) (new g ON)
    ·rw[hZ _ _ OO]at ON;exact h4 a' b' VL ON
  ·simp only[h1,abG];exact xe.2 (vv.2 (hM.apart j c hc))
 ·rcases fO hj with⟨rfl,hb⟩|⟨h1,h2,c,hc,hb⟩
  ·cases hb
  ·have KX:fo id (bq (bM id2 m) id2) j=some (.box cs):=by rw[aw h1]at hj;exact hj
   have:=vw.fY j cs k KX hk;by_cases e:k=id
   ·subst e;simp
   ·rw[aw e];exact this
 ·rcases fO hj with⟨rfl,hb⟩|⟨h1,h2,c,hc,hb⟩
  ·cases hb
  ·cases c<;>first|(simp[dY,gP]at hb;done)|skip
   simp only[dY,gP,bR.loop.injEq]at hb;subst hb;exact⟨hc,by simp[h1]⟩
theorem Ul{t kt et:TypeId}{xk:V}{id s:Nat}{key:PV}{rs:List PV}{m:Mem}(hu:E.P.underlying t=some (.map kt et))(hm:m id=some (.fv kt e es))(c9:m id2=some (.arr s e rs))(y0:keyOf E kt xk=some key){μ:Ro}{f:Fr}{ya yk yv:Value}(hM:az E.P G w0 μ φ m w)(hF:cu E.P μ φ m f ρ)(ha:ah E.P μ φ (.om id) ya)(hk:ah E.P μ φ xk yk)(hv:ah E.P μ φ (.os id2) yv):∃w' φ',(Instr.mapUpdate t ya yk yv).run E.P w=.ok () w'∧az E.P G w0 μ φ' (uf [(id,.fv kt e (fg key (.qV s rs) es))] (km [(true,id2),(false,id)] m)) w'∧cu E.P μ φ' (uf [(id,.fv kt e (fg key (.qV s rs) es))] (km [(true,id2),(false,id)] m)) (kf [(true,id2),(false,id)] f) ρ:=by
 have cY:id2≠id:=fun h=>by subst h;rw[hm]at c9;cases c9
 obtain⟨ks,k1,k2,k3⟩:=uz y0;obtain⟨g,en,clock,kk,hN⟩:=uB.1 (hM.dH id _ hm);have Dk:=hN.BM;rw[k1]at Dk;simp only[AT]at Dk;subst Dk;have T9:=yN k1;have hkr:=k3 μ φ yk hk;obtain⟨hc,hkv⟩:=mS k2 hkr;obtain⟨res,r1,r2⟩:=mn (v:=.qU) (z:=.bad) T9 hc w hN.ent;have He:=Go.MapKept.run_getObj_map (P:=E.P) hN.heap;have h1:(Instr.checkKey false 10000 kt yk).run E.P w=.ok () w:=by rw[hkv];exact iO 8 kt ks T9 9992 w false key.cells hc
 rw[←hkv]at r1;have cd:g<w.heap.size:=(adp.1 hN.heap).1;cases ha with
 |om cO=>
  rw[hN.pl]at cO;simp only[AT]at cO;subst cO;have fin:∀(J:Nat)(N9:Array MapEntry)(qi:Nat),(mE key es=some J∨(mE key es=none∧J=es.length))→(Instr.mapUpdate t (.map (some g)) yk yv).run E.P w=.ok () {w with heap:=w.heap.setIfInBounds g (.map N9 qi)}→mB N9 qi→N9.size=(fg key .bad es).length→(∃e0,N9[J]?=some e0∧e0.key=yk∧e0.val=yv)→(∀i e0,i≠J→N9[i]?=some e0→en[i]?=some e0)→∃w' φ',(Instr.mapUpdate t (.map (some g)) yk yv).run E.P w=.ok () w'∧az E.P G w0 μ φ' (uf [(id,.fv kt e (fg key (.qV s rs) es))] (km [(true,id2),(false,id)] m)) w'∧cu E.P μ φ' (uf [(id,.fv kt e (fg key (.qV s rs) es))] (km [(true,id2),(false,id)] m)) (kf [(true,id2),(false,id)] f) ρ:=by
   intro J N9 qi hJ hr yE oh hJe Fo;obtain⟨eJ,ad0,ahf,ahg⟩:=hJe;have tL:∀i k' v',(fg key .bad es)[i]?=some (k',v')→(i=J∧k'=key∧v'=.bad)∨(i≠J∧es[i]?=some (k',v')):=by
    intro i k' v' h;rw[nj]at h;rcases hJ with hJ|⟨hJ,rfl⟩
    ·rw[hJ]at h;rcases fj h with⟨rfl,hq⟩|⟨Zc,h⟩
     ·simp only[ado]at hq;exact .inl ⟨rfl,hq.1,hq.2⟩
     ·exact .inr ⟨Zc,h⟩
    ·rw[hJ]at h;simp only at h;rw[ajZ]at h;split at h
     ·rename_i cd;exact .inr ⟨by omega,h⟩
     ·rename_i Hf;cases hd:i-es.length with
      |zero=>rw[hd]at h;simp only[akb,AT,ado]at h;exact .inl ⟨by omega,h.1.symm,h.2.symm⟩
      |succ n=>rw[hd]at h;simp at h
   have hJb:(fg key .bad es)[J]?=some (key,.bad):=by
    rw[nj];rcases hJ with hJ|⟨hJ,rfl⟩
    ·rw[hJ];obtain⟨a,u,hj,_⟩:=El hJ;simp[(IS.1 hj).1]
    ·rw[hJ];simp
   have vw:az E.P G w0 μ φ (aq m id (.fv kt e (fg key .bad es))) {w with heap:=w.heap.setIfInBounds g (.map N9 qi)}:=by
    refine hM.write hm rfl hN.pl ⟨⟨rfl,rfl,rfl,by simp,fun k hk=>by simp[ali (Nat.ne_of_gt hk)]⟩,fun _=>ajC _⟩ (by simp) (fun k hk=>by simp[ali (Ne.symm hk)]) (uB.2 ⟨g,N9,qi,ks,hN.pl,by simp[cd],oh,k1,fun i k' v' h=>?_,yE,fun i k' v' e0 h Wy=>?_⟩) rfl (by simp[bR.names]) (fun st h=>by cases h) fun a b hr=>?_
    ·rcases tL i k' v' h with⟨_,rfl,_⟩|⟨_,h⟩
     ·exact k2
     ·exact hN.key i k' v' h
    ·rcases tL i k' v' h with⟨rfl,rfl,rfl⟩|⟨Zc,h⟩
     ·rw[ad0]at Wy;simp only[AT]at Wy;subst Wy;exact⟨by rw[ahf];exact hkr,.pure .bad⟩
     ·obtain⟨q1,q2⟩:=hN.rep i k' v' e0 h (Fo i e0 Zc Wy);refine⟨q1,?_⟩;unfold Fh at q2⊢;split at q2
      ·refine⟨q2.1.cL rfl (fun _ _ h=>h) fun g' cO=>?_,q2.2⟩;have hr:(bR.fv kt e es).rowAt i 0=true:=by rw[ky h];rfl
       have:=(hM.apart id _ hm i 0 g' hr cO).1;rw[hN.pl]at this;simp only[am9,AT]at this;simp[ali this]
      ·exact q2
    ·rcases kA hr with⟨_,_,_,_,_,_,iv,_⟩|⟨_,_,_,k',s',rs',iv,rfl,h'⟩
     ·cases iv
     ·simp only[bR.fv.injEq]at iv;obtain⟨rfl,rfl,rfl⟩:=iv;rcases tL a k' _ h' with⟨_,_,h⟩|⟨_,h⟩
      ·cases h
      ·rw[ky h];rfl
   have uh:=az.ZR vw (id:=id) (id2:=id2) (i:=J) (x:=yv) cY (bw _ _ _) (by rw[aw cY];exact c9) hJb (fun g0 en0 ahh Ot hh0=>by
    rw[hN.pl]at Ot;simp only[AT]at Ot;subst Ot;have:(w.heap.setIfInBounds g (Obj.map N9 qi))[g]?=some (.map N9 qi):=by simp[cd]
    rw[this]at hh0;simp only[AT,Obj.map.injEq]at hh0;obtain⟨rfl,_⟩:=hh0;exact⟨eJ,ad0,ahg⟩) hv
   rw[WE hJb hJ,Fm cY]at uh;refine⟨_,_,hr,uh,?_⟩;have DW:cu E.P μ φ (aq m id (.fv kt e (fg key .bad es))) f ρ:=hF.ni (fun _ _ h=>h) .set;refine((DW.forget id2).vA id).aa7 (by simp[kY]) (fun k hk=>by simp[hk]) fun k hk=>?_;show(aq (fo id (bq (bM id2 m) id2)) id _ k).isSome=true;by_cases e1:k=id
   ·subst e1;simp
   ·rw[aw e1];rw[pk]at hk⊢;by_cases e2:k=id2
    ·subst e2;simp at hk
    ·rw[fR e2]at hk⊢;simp only[bM,aw e1]at hk⊢;exact hk
  rcases H6 r2 with⟨rfl,hp⟩|⟨j,e0,rfl,Wy,hp⟩
  ·have ZL:=Go.MapKept.run_setObj_map (P:=E.P) (.map (en.push {key:=yk,val:=yv,born:=clock}) (clock+1)) hN.heap;refine fin es.length _ _ (.inr ⟨hp,rfl⟩) (by simp only[Instr.mapUpdate,Sem.run_bind,run_underlying hu,He,h1,r1,Result.andThen_ok];exact ZL) hN.born.push (by rw[nj,hp];simp[hN.size]) ⟨{key:=yk,val:=yv,born:=clock},?_,rfl,rfl⟩ fun i e0 hi h=>?_
   ·rw[←hN.size];simp
   ·rw[al7]at h;split at h
    ·rename_i h';rw[hN.size]at h';exact absurd h' hi
    ·exact h
  ·have ZS:en[j]?=some e0:=by simpa using Wy
   obtain⟨a,u,haj,hpq⟩:=El hp;obtain⟨hca,hva⟩:=mS (hN.key j a u haj) (hN.rep j a u e0 haj ZS).1;have vz:=Jq hc hca hpq;have hsb:Instr.sameBits 10000 e0.key yk=true:=by rw[hva,hkv,←vz];refine xd (n:=9999) hc (fun ha=>?_);rw[qY hc];exact(yJ T9).2.1 ha
   have ZL:=Go.MapKept.run_setObj_map (P:=E.P) (.map (en.modify j fun e=>{e with key:=yk,val:=yv}) clock) hN.heap;have Ca:j<en.size:=(adp.1 ZS).1;refine fin j _ _ (.inl hp) (by simp only[Instr.mapUpdate,Sem.run_bind,run_underlying hu,He,h1,r1,Result.andThen_ok];simp only[ako,ZS,ah5,akG,Instr.keyThatStays,hsb,aaV,Sem.run_pure,Result.andThen_ok];exact ZL) (hN.born.modify (fun e=>{e with key:=yk,val:=yv}) (fun _=>rfl) _) (by rw[nj,hp];simp[hN.size]) ⟨{e0 with key:=yk,val:=yv},by rw[ale,BK rfl,ZS];rfl,rfl,rfl⟩ fun i e1 hi h=>?_;rw[ale,IN (Ne.symm hi)]at h;exact h
end
section
variable {P:Program} {G:Nat→Option (List PV)} {w0:bI} {μ μ':Ro} {φ φ':Nat→aH} {m m':Mem} {w w':World}
structure lC(P:Program)(μ:Ro)(rows:Nat→Nat→Dd)(w:World)(s:Nat)(es:List PV)(xs:List Value):Prop where
 len:xs.length=es.length*s
 each:∀(i:Nat)e,es[i]?=some e→e.cells.length=s
 rep:∀(i:Nat)e(j:Nat)p x,es[i]?=some e→e.cells[j]?=some p→xs[i*s+j]?=some x→eB P μ (rows i j) w p x
 one:∀(i:Nat)(x:Value),xs[i]?=some x→x.oneCell'=true
variable{rows:Nat→Nat→Dd}{es:List PV}{xs:List Value}
theorem lC.append{Fq WG:Nat→Nat→Dd}{s:Nat}{es':List PV}{xs':List Value}(h:lC P μ rows w s es xs)(h':lC P μ Fq w s es' xs')(h1:∀i j,i<es.length→WG i j=rows i j)(h2:∀i j,es.length≤i→WG i j=Fq (i-es.length) j):lC P μ WG w s (es++es') (xs++xs'):=by
 refine⟨by simp[h.len,h'.len,ake],fun i e he=>?_,fun i e j p x he hp hx=>?_,fun i x hx=>?_⟩
 ·rw[ajZ]at he;split at he
  ·exact h.each i e he
  ·exact h'.each _ e he
 ·rw[ajZ]at he;split at he
  ·rename_i hi;rw[h1 i j hi];have hj:j<s:=by rw[←h.each i e he];grind
   rw[akC (by rw[h.len];exact E7 hi hj)]at hx;exact h.rep i e j p x he hp hx
  ·rename_i hi;rw[h2 i j (by omega)];have e1:i*s+j=es.length*s+((i-es.length)*s+j):=by
    have:i=es.length+(i-es.length):=by omega
    grind
   rw[aks (by rw[h.len,e1];omega),h.len,show i*s+j-es.length*s=(i-es.length)*s+j by omega]at hx;exact h'.rep _ e j p x he hp hx
 ·rw[ajZ]at hx;split at hx
  ·exact h.one i x hx
  ·exact h'.one _ x hx
theorem Cells.Jv{s:Nat}(h:Cells P μ s es xs):lC P μ rows w s es xs:=⟨h.len,h.each,fun i e j p x he hp hx=>.pure (h.rep i e j p x he hp hx),h.one⟩
theorem lC.cL{rows:Nat→Nat→Dd}{s:Nat}{es:List PV}{xs:List Value}(h:lC P μ rows w s es xs)(hw:∀i e j p g,es[i]?=some e→e.cells[j]?=some p→p.isRow=true→(rows i j).g=some g→w'.heap[g]?=w.heap[g]?):lC P μ rows w' s es xs:=⟨h.len,h.each,fun i e j p x he hp hx=>(h.rep i e j p x he hp hx).cL (fun _ _ h=>h) fun hr g hg=>hw i e j p g he hp hr hg,h.one⟩
theorem bd.Jv{id sz:Nat}{et:TypeId}(h:bd P μ φ w id sz et es){g:Nat}(hg:(φ id).g=some g):∃(c:Array Value)(T:TypeId),w.heap[g]?=some (.cells c T (0,0))∧(φ id).cap*sz≤c.size∧es.length≤(φ id).cap∧lC P μ (φ id).row w sz es (c.toList.take (es.length*sz)):=by obtain⟨a1,a2,a3,a4,a5,a6,a7⟩:=h;rw[hg]at a7;obtain⟨c,T,c1,c2,c3,c4,c5⟩:=a7;have hle:es.length*sz≤c.size:=ajP (adq _ c3) c2;refine⟨c,T,c1,c2,c3,by simp;omega,a5,fun i e j p x he hp hx=>c4 i e j p x he hp (by grind),fun i x hx=>?_⟩;grind
theorem lC.nest{id g sz:Nat}{et T:TypeId}{c:Array Value}(ZI:(φ id).toDd=⟨some g,(φ id).cap,es.length,sz⟩)(oh:sz=aV P et)(eF:0<sz)(qd:(φ id).cap≤maxLen)(hh:w.heap[g]?=some (.cells c T (0,0)))(hc:(φ id).cap*sz≤c.size)(hle:es.length≤(φ id).cap)(hC:lC P μ (φ id).row w sz es (c.toList.take (es.length*sz))):bd P μ φ w id sz et es:=by
 have e1:(φ id).g=some g:=by rw[ZI]
 refine⟨by rw[ZI],by rw[ZI],oh,eF,hC.each,qd,?_⟩;rw[e1];have Ca:∀(i:Nat)e(j:Nat)p,es[i]?=some e→e.cells[j]?=some p→i*sz+j<es.length*sz:=fun i e j p hi hj=>E7 (IS.1 hi).1 (by rw[←hC.each i e hi];grind);refine⟨c,T,hh,hc,hle,fun i e j p x hi hj hx=>?_,fun i x hi hx=>?_⟩
 ·exact hC.rep i e j p x hi hj (by grind)
 ·exact hC.one i x (by grind)
end
section
variable {R:Type} {E:Env}
def SD(src:Option Nat)(m:Mem):Mem:=match src with|some id2=>bq (bM id2 m) id2|none=>m
def kfS(src:Option Nat)(f:Fr):Fr:=match src with|some id2=>fi id2 f|none=>f
variable{src:Option Nat}
theorem WH{m:Mem}{j:Nat}{b:bR}(h:SD src m j=some b):src≠some j∧∃b',m j=some b'∧b.rowAt=b'.rowAt:=by
 cases src with
 |none=>exact⟨by simp,b,h,rfl⟩
 |some id2=>obtain⟨h1,b',h2,rfl⟩:=fN h;grind [vu]
theorem Um{t e ty:TypeId}{x:V}{id s:Nat}{es new:List PV}{rd:bG}{m:Mem}(hu:E.P.underlying t=some (.slice e))(hm:m id=some (.nest s e es))(hs:s=aV E.P e)(hz:(dq E e).isSome=true)(eF:0<aV E.P e)(hby:0<G6 E.P e)(e9:(es++new).length*G6 E.P e≤af)(zR:(∃id2,src=some id2∧id2≠id∧x=.os id2∧m id2=some (.nest s e new))∨(src=none∧eX m s x=some (new,rd))){G:Nat→Option (List PV)}{w0:bI}{μ:Ro}{φ:Nat→aH}{w:World}{f:Fr}{ρ:Nat→Value}{ys yx:Value}(hM:az E.P G w0 μ φ m w)(hF:cu E.P μ φ m f ρ)(ha:ah E.P μ φ (.os id) ys)(hx:ah E.P μ φ x yx):∃w' y φ',(Builtin.append_ #[t,t] ty #[ys,yx]).run E.P w=.ok y w'∧az E.P G w0 μ φ' (aq (bq (bM id (SD src m)) id) id (.nest s e (es++new))) w'∧cu E.P μ φ' (aq (bq (bM id (SD src m)) id) id (.nest s e (es++new))) (fi id (kfS src f)) ρ∧ah E.P μ φ' (.os id) y:=by
 obtain⟨zc,VK⟩:=ajR.1 hz;obtain⟨i,zv,hi,hzv,his,_,OA,_,_,_⟩:=eS VK;have hN:bd E.P μ φ w id s e es:=hM.dH id _ hm;have HX:(es++new).length=es.length+new.length:=by simp
 have ug:0<s:=by omega
 obtain⟨Fq,AL⟩:∃Fq:Nat→Nat→Dd,Fq=match src with|some id2=>(φ id2).row|none=>fun _ _=>default:=⟨_,rfl⟩
 obtain⟨os,hos,hC⟩:∃os,((ys=.slice none 0 0∧es.length=0∧os=[])∨∃(g cap:Nat)(c:Array Value)(T:TypeId),ys=.slice (some ⟨g,0,none⟩) es.length cap∧w.heap[g]?=some (.cells c T (0,0))∧cap*s≤c.size∧es.length≤cap∧cap≤maxLen∧os=c.toList.take (es.length*s))∧lC E.P μ (φ id).row w s es os:=by
  cases ha with
  |s9 hg=>have a7:=hN.2.2.2.2.2.2;rw[hg]at a7;rw[a7.1];exact⟨[],.inl ⟨rfl,rfl,rfl⟩,by simp,by simp,fun i e j p x he=>by simp at he,by simp⟩
  | @os _ g hg=>obtain⟨c,T,c1,c2,c3,c4⟩:=hN.Jv hg;exact⟨_,.inr ⟨g,(φ id).cap,c,T,by rw[hN.1],c1,c2,c3,hN.2.2.2.2.2.1,rfl⟩,c4⟩
 obtain⟨xs,HV,hCx⟩:∃xs,((yx=.slice none 0 0∧new.length=0∧xs=[])∨∃(a:Addr)(cx:Nat),yx=.slice (some a) new.length cx∧xs.length=new.length*s∧(∀(j:Nat)v,xs[j]?=some v→w.cell? (a.add j)=some v)∧(∀v∈xs,v.oneCell'=true)∧new.length≤cx∧cx≤maxLen)∧lC E.P μ Fq w s new xs:=by
  rcases zR with⟨id2,rfl,cY,rfl,c9⟩|⟨rfl,Ek⟩
  ·have hN2:bd E.P μ φ w id2 s e new:=hM.dH id2 _ c9;simp only at AL;subst AL;cases hx with
   |s9 hg=>have a7:=hN2.2.2.2.2.2.2;rw[hg]at a7;rw[a7.1];exact⟨[],.inl ⟨rfl,rfl,rfl⟩,by simp,by simp,fun i e j p x he=>by simp at he,by simp⟩
   | @os _ g hg=>
    obtain⟨c,_,c1,c2,c3,c4⟩:=hN2.Jv hg;refine⟨_,.inr ⟨⟨g,0,none⟩,(φ id2).cap,by rw[hN2.1],c4.len,fun j v hj=>?_,fun v hv=>?_,c3,hN2.2.2.2.2.2.1⟩,c4⟩
    ·grind [Addr.add_mid,dy,eZ]
    ·obtain⟨j,hj⟩:=ajX hv;exact c4.one j v hj
  ·obtain⟨_,_,hsr⟩:=oH Ek;have:=hsr _ _ _ _ _ _ _ hM hx;cases this with
   |none hn=>subst hn;exact⟨[],.inl ⟨rfl,rfl,rfl⟩,by simp,by simp,fun i e j p x he=>by simp at he,by simp⟩
   | @some a cx xs hC HV hcx Wq=>exact⟨xs,.inr ⟨a,cx,rfl,hC.len,HV,fun u hu=>by obtain⟨j,hj⟩:=ajX hu;exact hC.one j u hj,hcx,Wq⟩,hC.Jv⟩
 obtain⟨w',y,hr,Wr⟩:=E8 (ty:=ty) hu hi hzv (by omega) hs eF hby (by simp_all) hos HV;let qQ:Nat→Nat→Dd:=fun a b=>if a<es.length then(φ id).row a b else Fq (a-es.length) b;have hCC:lC E.P μ qQ w s (es++new) (os++xs):=hC.append hCx (fun a b h=>by grind) (fun a b h=>by grind);have lB:∀a b g,(bR.nest s e (es++new)).rowAt a b=true→(qQ a b).g=some g→(a<es.length∧(bR.nest s e es).rowAt a b=true∧((φ id).row a b).g=some g)∨(es.length≤a∧∃id2,src=some id2∧id2≠id∧m id2=some (.nest s e new)∧(bR.nest s e new).rowAt (a-es.length) b=true∧((φ id2).row (a-es.length) b).g=some g):=by
  intro a b g N3 hg;rcases kA N3 with⟨_,_,_,e',s',rs',iv,h',uy⟩|⟨_,_,_,_,_,_,iv,_⟩
  ·simp only[bR.nest.injEq]at iv;obtain⟨rfl,rfl,rfl⟩:=iv;by_cases cd:a<es.length
   ·rw[akC cd]at h';exact .inl ⟨cd,by rw[dE h' uy];rfl,by grind⟩
   ·rw[aks (by omega)]at h';simp only[qQ,cd,abG]at hg;rcases zR with⟨id2,rfl,cY,rfl,c9⟩|⟨rfl,Ek⟩
    ·simp only at AL;subst AL;exact .inr ⟨by omega,id2,rfl,cY,c9,by rw[dE h' uy];rfl,hg⟩
    ·exfalso;obtain⟨_,_,hsr⟩:=oH Ek;have h3:=hsr _ _ _ _ _ _ _ hM hx;cases h3 with
     |none hn=>subst hn;simp at h'
     | @some a2 cx xs2 hC2 ajh hcx Wq=>
      have hj:(a-es.length)*s+b<xs2.length:=by rw[hC2.len];exact E7 (IS.1 h').1 (by rw[←hC2.each _ _ h'];grind)
      exact absurd (hC2.rep _ _ _ _ _ h' uy (AI hj)).Ei (by simp[PV.isRow])
  ·cases iv
 have abZ:∀j,(bq (bM id (SD src m)) id j).isSome=true→j≠id:=fun j hj e=>by subst e;simp at hj
 have cg:∀j b',bq (bM id (SD src m)) id j=some b'→j≠id∧src≠some j∧∃b,m j=some b∧b'.rowAt=b.rowAt:=by intro j b' hj;obtain⟨h1,b1,h2,rfl⟩:=fN hj;grind [WH,vu]
 have OS:∀{j b' b g},b'.rowAt=b.rowAt→bR.ev b' (φ j) g→bR.ev b (φ j) g:=fun h ho=>by simp_all[bR.ev]
 have hM0:az E.P G w0 μ φ (SD src m) w:=by
  cases src with
  |none=>exact hM
  |some id2=>exact hM.forget id2
 have hF0:cu E.P μ φ (SD src m) (kfS src f) ρ:=by
  cases src with
  |none=>exact hF
  |some id2=>exact hF.forget id2
 have vw:=hM0.forget id;have DW:=hF0.forget id;have ZT:∀a b g,(bR.nest s e (es++new)).rowAt a b=true→(qQ a b).g=some g→w0.heap.size≤g∧μ g=none∧g<w.heap.size∧∀j b',bq (bM id (SD src m)) id j=some b'→¬b'.ev (φ j) g:=by
  intro a b g N3 hg;rcases lB a b g N3 hg with⟨_,h2,h3⟩|⟨_,id2,rfl,cY,c9,h2,h3⟩
  ·obtain⟨o1,o2⟩:=hM.own id _ g hm (.inr ⟨a,b,h2,h3⟩);refine⟨o1,o2 rfl,(hM.dH id _ hm).E1 (.inr ⟨a,b,h2,h3⟩),fun j b' hj ho=>?_⟩;obtain⟨k1,_,b2,k3,k4⟩:=cg j b' hj;exact k1 (hM.inj j id _ _ g k3 hm (OS k4 ho) (.inr ⟨a,b,h2,h3⟩))
  ·obtain⟨o1,o2⟩:=hM.own id2 _ g c9 (.inr ⟨_,b,h2,h3⟩);refine⟨o1,o2 rfl,(hM.dH id2 _ c9).E1 (.inr ⟨_,b,h2,h3⟩),fun j b' hj ho=>?_⟩;obtain⟨_,k1,b2,k3,k4⟩:=cg j b' hj;exact k1 (by rw[hM.inj j id2 _ _ g k3 c9 (OS k4 ho) (.inr ⟨_,b,h2,h3⟩)])
 have adE:∀a b a' b' g,(bR.nest s e (es++new)).rowAt a b=true→(qQ a b).g=some g→(bR.nest s e (es++new)).rowAt a' b'=true→(qQ a' b').g=some g→a'=a∧b'=b:=by
  intro a b a' b' g h1 h2 h3 h4;rcases lB a b g h1 h2 with⟨u1,u2,u3⟩|⟨u1,i2,u0,une,um,u2,u3⟩<;>rcases lB a' b' g h3 h4 with⟨v1,v2,v3⟩|⟨v1,i3,v0,vne,vm,v2,v3⟩
  ·exact(hM.apart id _ hm a b g u2 u3).2 a' b' v2 v3
  ·exact absurd (hM.inj i3 id _ _ g vm hm (.inr ⟨_,_,v2,v3⟩) (.inr ⟨_,_,u2,u3⟩)) vne
  ·exact absurd (hM.inj i2 id _ _ g um hm (.inr ⟨_,_,u2,u3⟩) (.inr ⟨_,_,v2,v3⟩)) une
  ·rw[u0]at v0;simp only[AT]at v0;subst v0;obtain⟨h5,h6⟩:=(hM.apart i2 _ um (a-es.length) b g u2 u3).2 (a'-es.length) b' v2 v3;omega
 have fin:∀(q:aH)(w1:World),q.row=qQ→lA w0.heap.size w w1→(∀k o,μ k=some o→w1.heap[k]?=some o)→(∀j b' g,bq (bM id (SD src m)) id j=some b'→b'.ev (φ j) g→w1.heap[g]?=w.heap[g]?)→(∀g,q.g=some g→w0.heap.size≤g∧μ g=none∧(∀j b',bq (bM id (SD src m)) id j=some b'→¬b'.ev (φ j) g)∧∀a b,(bR.nest s e (es++new)).rowAt a b=true→(qQ a b).g≠some g)→(bd E.P μ (fun k=>if k=id then q else φ k) w1 id s e (es++new))→az E.P G w0 μ (fun k=>if k=id then q else φ k) (aq (bq (bM id (SD src m)) id) id (.nest s e (es++new))) w1∧cu E.P μ (fun k=>if k=id then q else φ k) (aq (bq (bM id (SD src m)) id) id (.nest s e (es++new))) (fi id (kfS src f)) ρ:=by
  intro q w1 hq Ox vo hold wZ ku;refine⟨vw.put (by simp) Ox vo hold (fun g hg=>?_) (fun a b g N3 hg=>?_) ku (by simp[bR.names]) (fun st h=>by cases h),DW.mono (fun _ _ h=>h) fun j hj=>⟨by simp[abZ j hj],by grind [aw]⟩⟩
  ·rcases hg with hg|⟨a,b,N3,hg⟩
   ·grind
   grind
  grind
 rcases Wr with⟨rfl,rfl,h1,h2⟩|⟨g',DV,c',T',rfl,b1,b2,b3,b4,b5,b6⟩
 ·have h1:es=[]:=ajB h1;have h2:new=[]:=ajB h2;obtain⟨k1,k2⟩:=fin {g:=none,cap:=0,len:=0,sz:=s,row:=qQ} w' rfl (lA.refl _ _) hM.ro (fun _ _ _ _ _=>rfl) (fun g hg=>by cases hg) ⟨by simp[h1,h2],by simp,hs,ug,by simp[h1,h2],by simp[maxLen],by simp[h1,h2]⟩;exact⟨w',_,_,hr,k1,k2,.s9 (by simp)⟩
 ·have hq:∀(w1:World)(T:TypeId),w1.heap[g']?=some (.cells c' T (0,0))→lC E.P μ qQ w1 s (es++new) (os++xs)→bd E.P μ (fun k=>if k=id then({g:=some g',cap:=DV,len:=(es++new).length,sz:=s,row:=qQ}:aH)else φ k) w1 id s e (es++new):=fun w1 T hh hC1=>lC.nest (g:=g') (c:=c') (by simp) hs ug (by simpa using b4) hh (by simpa using b2) (by simpa[HX]using b3) (by grind);have ai6:ah E.P μ (fun k=>if k=id then({g:=some g',cap:=DV,len:=(es++new).length,sz:=s,row:=qQ}:aH)else φ k) (.os id) (.slice (some ⟨g',0,none⟩) (es.length+new.length) DV):=by have:=ah.os (P:=E.P) (μ:=μ) (φ:=fun k=>if k=id then({g:=some g',cap:=DV,len:=(es++new).length,sz:=s,row:=qQ}:aH)else φ k) (id:=id) (g:=g') (by simp);grind
  rcases b6 with⟨ZJ,hys,b6,b7⟩|⟨rfl,rfl⟩
  ·have cO:(φ id).g=some g':=by
    have key:∀z,ah E.P μ φ (.os id) z→z=.slice (some ⟨g',0,none⟩) es.length ZJ→(φ id).g=some g':=by
     intro z hz he;cases hz with
     |s9 _=>cases he
     |os hg=>grind
    exact key _ ha hys
   obtain⟨o1,o2⟩:=hM.own id _ g' hm (.inl cO);have N6:∀a b,(bR.nest s e (es++new)).rowAt a b=true→(qQ a b).g≠some g':=by
    intro a b N3 hg;rcases lB a b g' N3 hg with⟨u1,u2,u3⟩|⟨u1,i2,u0,une,um,u2,u3⟩
    ·exact(hM.apart id _ hm a b g' u2 u3).1 cO
    ·exact une (hM.inj i2 id _ _ g' um hm (.inr ⟨_,_,u2,u3⟩) (.inl cO))
   have Fo:∀j b',bq (bM id (SD src m)) id j=some b'→¬b'.ev (φ j) g':=fun j b' hj ho=>by obtain⟨k1,_,b2,k3,k4⟩:=cg j b' hj;exact k1 (hM.inj j id _ _ g' k3 hm (OS k4 ho) (.inl cO))
   obtain⟨k1,k2⟩:=fin {g:=some g',cap:=DV,len:=(es++new).length,sz:=s,row:=qQ} w' rfl (b6.mono o1) (fun k o hk=>by rw[b7 k (fun e=>by subst e;rw[o2 rfl]at hk;cases hk)];exact hM.ro k o hk) (fun j b' g hj ho=>b7 g fun e=>by grind) (fun g hg=>by
     simp only[AT]at hg;subst hg;exact⟨o1,o2 rfl,Fo,N6⟩)
    (hq w' _ b1 (hCC.cL fun a e1 b p1 g he hp N3 hg=>b7 g fun e=>by grind [dE]))
   grind
  ·have hold:∀k,k<w.heap.size→(w.drew.alloc (.cells c' e)).heap[k]?=w.heap[k]?:=fun k hk=>lA.heap_alloc w.drew _ k hk;obtain⟨k1,k2⟩:=fin {g:=some w.heap.size,cap:=DV,len:=(es++new).length,sz:=s,row:=qQ} (w.drew.alloc (.cells c' e)) rfl ((lA.refl _ w).drew.alloc hM.below.size _) (fun k o hk=>by
     have:=hM.ro k o hk;grind)
    (fun j b' g hj ho=>hold g ((vw.dH j b' hj).E1 ho)) (fun g hg=>by
     simp only[AT]at hg;subst hg;refine⟨hM.below.size,?_,fun j b' hj ho=>?_,fun a b N3 hg=>?_⟩
     ·cases hq:μ w.heap.size with
      |none=>rfl
      |some o'=>have:=hM.ro _ _ hq;simp at this
     ·have:=(vw.dH j b' hj).E1 ho;omega
     grind)
    (hq _ _ b1 (hCC.cL fun a e1 b p1 g he hp N3 hg=>hold g (ZT a b g (by rw[dE he hp];omega) hg).2.2.1))
   grind
theorem Fs{m:Mem}:∀{cs:List V}{j0:Nat}{ps:List PV},lN m j0 cs=some (ps,none)→∀m2:Mem,lN m2 j0 cs=some (ps,none)
 |[],j0,ps,h,m2=>h
 |v::r,j0,ps,h,m2=>by
  unfold lN at h;split at h
  ·rename_i heq;cases heq
  ·grind
  ·rename_i j v' r' cY heq;simp only[aku]at heq;obtain⟨rfl,rfl⟩:=heq;unfold lN;split
   ·rename_i heq;cases heq
   ·simp_all
   ·rename_i j v' r' cY heq;simp only[aku]at heq;obtain⟨rfl,rfl⟩:=heq;split at h
    ·rename_i p hp;split at h
     ·rename_i ps' t ht;simp only[AT,ado]at h;obtain⟨rfl,rfl⟩:=h;rw[Fs ht m2]
     ·cases h
    omega
theorem xf{m m2:Mem}{j id2:Nat}(hm:m2 id2=m id2):∀{cs:List V}{j0:Nat}{ps:List PV},lN m j0 cs=some (ps,some (j,id2))→lN m2 j0 cs=some (ps,some (j,id2))
 |[],j0,ps,h=>by simp[lN]at h
 |v::r,j0,ps,h=>by
  unfold lN at h;split at h
  ·rename_i heq;cases heq
  ·rename_i j id r' heq;simp only[aku]at heq;obtain⟨rfl,rfl⟩:=heq;split at h
   ·rename_i s et es Ze;split at h
    ·rename_i ps' ht;simp only[AT,ado]at h;obtain⟨rfl,rfl,rfl⟩:=h;grind [lN,Fs]
    ·cases h
   ·cases h
  ·rename_i j v' r' cY heq;simp only[aku]at heq;obtain⟨rfl,rfl⟩:=heq;unfold lN;split
   ·rename_i heq;cases heq
   ·simp_all
   ·rename_i j v' r' cY heq;simp only[aku]at heq;obtain⟨rfl,rfl⟩:=heq;split at h
    ·rename_i p hp;split at h
     ·rename_i ps' t ht;simp only[AT,ado]at h;obtain⟨rfl,rfl⟩:=h;rw[xf hm ht]
     ·cases h
    omega
theorem OT{site:Nat}{o:Oper}{f f2:Fr}{m m2:Mem}{sp:Sp}(h:zJ E site o f m=some sp)(hf:∀x∈o.op.operands,bL E f2 x=bL E f x)(hm:∀x∈(sp.info site).2,m2 x.2=m x.2):zJ E site o f2 m2=some sp:=by
 obtain⟨dst,op,type,pos,after,guard⟩:=o;unfold zJ at h⊢;cases op;case store t a x=>
  simp only at h⊢;rw[hf a (by simp[Op.operands]),hf x (by simp[Op.operands])];split at h
  ·rename_i id i off ha;split at h
   ·rename_i s et es Ze;split at h
    ·rename_i cs hc;split at h
     ·rename_i ps j id2 ht;split at h
      ·rename_i lq;simp only[AT]at h;subst h;have h1:m2 id=m id:=hm (true,id) (by simp[Sp.info]);have h2:m2 id2=m id2:=hm (true,id2) (by simp[Sp.info]);simp only[ha,h1,Ze,hc,xf h2 ht,lq,aaV]
      ·cases h
     ·cases h
    ·cases h
   ·cases h
  omega
 case buildSlice t len parts=>
  simp only at h⊢;have OR:(parts.toList.map fun(x:Nat×Operand)=>(x.1,bL E f2 x.2))=parts.toList.map fun(x:Nat×Operand)=>(x.1,bL E f x.2):=aj9 fun x hx=>by rw[hf x.2 (by simp only[Op.operands,alG,ajJ];exact⟨x,hx,rfl⟩)]
  rw[OR];split at h
  ·rename_i e v hu hp;split at h
   ·rename_i cs hc;split at h
    ·rename_i ps j id2 ht hs;split at h
     ·rename_i p Hi;split at h
      ·rename_i lq;simp only[AT]at h;subst h;have h1:m2 site=m site:=hm (true,site) (by simp[Sp.info]);have h2:m2 id2=m id2:=hm (true,id2) (by simp[Sp.info]);simp only[hu,hp,hc,xf h2 ht,h1,hs,Hi,lq,aaV]
      ·cases h
     ·cases h
    ·cases h
   ·cases h
  omega
 case call c=>
  obtain⟨callee,args,argTypes⟩:=c;simp only at h⊢;have rX:args.toList.map (bL E f2)=args.toList.map (bL E f):=aj9 fun x hx=>hf x (by simp_all[Op.operands,Call.operands]);rw[rX];split at h
  ·rename_i id x t t' ha Un;split at h
   ·rename_i e s et es hu Ze;split at h
    ·rename_i lq;have plain:∀{new:List PV}{rd:bG},eX m s x=some (new,rd)→x.has id=false→sp=.app id s et es new none rd→eX m2 s x=some (new,rd):=by grind [oH,Sp.info]
     split at h
     ·rename_i sZ;split at h
      ·rename_i s' GZ new Zf;split at h
       ·rename_i Wf;simp only[AT]at h;subst h;have h1:m2 id=m id:=hm (true,id) (by simp[Sp.info]);simp_all[Sp.info,aaV]
       ·cases h
      ·rename_i hnn;split at h
       ·rename_i new rd Ek;split at h
        ·cases h
        ·rename_i hxh;simp only[AT]at h;have WI:=plain Ek (by simpa using hxh) h.symm;subst h;have h1:m2 id=m id:=hm (true,id) (by simp[Sp.info]);simp only[ha,Un,hu,h1,Ze,lq,aaV,WI];split
         ·rename_i s' GZ aji c9;exfalso;simp only[eX,c9]at WI;cases WI
         ·rw[IN hxh]
       ·cases h
     ·rename_i ajj;split at h
      ·rename_i new rd Ek;split at h
       ·cases h
       ·rename_i hxh;simp only[AT]at h;have WI:=plain Ek (by simpa using hxh) h.symm;subst h;have h1:m2 id=m id:=hm (true,id) (by simp[Sp.info]);simp only[ha,Un,hu,h1,Ze,lq,aaV,WI];try rw[IN hxh]
      ·cases h
    ·cases h
   ·cases h
  ·cases h
 case mapUpdate t x key v=>
  simp only at h⊢;rw[hf x (by simp[Op.operands]),hf key (by simp[Op.operands]),hf v (by simp[Op.operands])];split at h
  ·rename_i kt et id id2 hu hx hv;split at h
   ·rename_i wL e es s e' rs kp h1 h2 hk;split at h
    ·rename_i lq;simp only[AT]at h;subst h;have h3:m2 id=m id:=hm (true,id) (by simp[Sp.info]);have h4:m2 id2=m id2:=hm (true,id2) (by simp[Sp.info]);simp only[hu,hx,hv,h3,h4,h1,h2,hk,lq,aaV]
    ·cases h
   ·cases h
  ·cases h
 all_goals (cases h)
end
end Go.Ab
