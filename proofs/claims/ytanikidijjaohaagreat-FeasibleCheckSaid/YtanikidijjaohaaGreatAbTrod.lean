import Derived.Test.YtanikidijjaohaaGreatAbSeat
import Derived.WalkKit
import Derived.ProofKit
import Derived.OpenShut
import Derived.ShutString
import Derived.ChangeOld
set_option linter.unusedVariables false
set_option linter.unusedSimpArgs false
namespace Go.Ab
open Go.RowKit (Below)
def Bu(agg:Bool)(qs:List PV):PV:=match agg with
 |true=>.agg qs
 |false=>qs.getD 0 .bad
def qo(P:Program)(ok:TypeId→Bool)(size:Nat):List Field→Nat→Bool
 |[],off=>Nat.beq off size
 |f::r,off=>Nat.beq f.offset off&&ok f.type&&qo P ok size r (off+aR P f.type)
def oF(P:Program):Nat→TypeId→Bool
 |0,_=>false
 |d+1,t=>match P.underlying t with
  |some .bool=>true
  |some (.int _)=>true
  |some .string=>true
  |some (.slice e)=>oF P d e&&Nat.blt 0 (aR P e)&&(ay P e||Nat.beq (aR P e) 1)
  |some (.struct fs)=>qo P (oF P d) (aR P t) fs.toList 0
  |some (.array n e)=>oF P d e&&Nat.beq (n*aR P e) (aR P t)
  |_=>false
def wU(P:Program)(shp:TypeId→List PV→Prop):List Field→List PV→Prop
 |[],ps=>ps=[]
 |f::r,ps=>∃a b,ps=a++b∧a.length=aR P f.type∧shp f.type a∧wU P shp r b
def ZY(shp:List PV→Prop)(c:Nat):Nat→List PV→Prop
 |0,ps=>ps=[]
 |n+1,ps=>∃a b,ps=a++b∧a.length=c∧shp a∧ZY shp c n b
mutual
def du{H:Type}:DataW H→Nat
 |.lit (.string b)=>b.length+1
 |.slice es _=>I4 es+1
 |.agg ps=>I4 ps+1
 |_=>1
def I4{H:Type}:List (DataW H)→Nat
 |[]=>0
 |d::r=>du d+I4 r
end
theorem WC{H:Type}(d:DataW H):1≤du d:=by
 cases d with
 |lit l=>cases l<;>simp[du]
 |_=>simp[du]
theorem zj{H:Type}:∀{l:List (DataW H)}{d:DataW H},d∈l→du d≤I4 l
 |x::r,d,h=>by
  simp only[I4];rcases afh.1 h with rfl|h
  ·omega
  ·have:=zj h;omega
theorem I5{H:Type}:∀(l:List (DataW H)),l.length≤I4 l
 |[]=>by simp[I4]
 |x::r=>by have:=I5 r;have:=WC x;simp only[I4,agU];omega
def gd(M:Nat)(P:Program):Nat→TypeId→List PV→Prop
 |0,_,_=>False
 |d+1,t,ps=>match P.underlying t with
  |some .bool=>∃b,ps=[.bool b]
  |some (.int k)=>∃n,ps=[.int k n]∧(Lit.int k n).wf=true
  |some .string=>∃s:Bytes,ps=[.str s]∧s.length≤M
  |some (.slice e)=>∃es,ps=[.rs (aR P e) es]∧es.length≤M∧∀x∈es,∃qs,x=Bu (ay P e) qs∧qs.length=aR P e∧gd M P d e qs
  |some (.struct fs)=>wU P (gd M P d) fs.toList ps
  |some (.array n e)=>ZY (gd M P d e) (aR P e) n ps
  |_=>False
abbrev Shp(P:Program):Nat→TypeId→List PV→Prop:=gd maxLen P
def Ap(P:Program)(w:World)(ps:List PV)(cs:List Value):Prop:=∀(i:Nat)p v,ps[i]?=some p→cs[i]?=some v→af P (jK w) p v∧v.oneCell'=true
variable{P:Program}
theorem Ap.one{w:World}{p:PV}{v:Value}(h:af P (jK w) p v)(h1:v.oneCell'=true):Ap P w [p] [v]:=by intro i q u hq hu;grind
theorem Ap.append{w:World}{a b:List PV}{cs:List Value}{n:Nat}(ha:Ap P w a (cs.take n))(hb:Ap P w b (cs.drop n))(hl:a.length=n):Ap P w (a++b) cs:=by
 intro i p v hp hv;rw[ag7]at hp;split at hp
 ·rename_i h;exact ha i p v hp (by simp_all)
 ·rename_i h;exact hb (i-a.length) p v hp (by simp_all)
theorem Rl{M d:Nat}{e:TypeId}{qs:List PV}(ha:ay P e=true∨aR P e=1)(h:gd M P d e qs)(hl:qs.length=aR P e):(Bu (ay P e) qs).cells=qs:=by
 cases I6:ay P e with
 |true=>rfl
 |false=>
  have h1:aR P e=1:=ha.resolve_left (by simp[I6]);cases d with
  |zero=>exact h.elim
  |succ d=>
   unfold gd at h;unfold ay at I6;split at h
   ·obtain⟨b,rfl⟩:=h;rfl
   ·obtain⟨n,rfl,_⟩:=h;rfl
   ·obtain⟨s,rfl,_⟩:=h;rfl
   ·obtain⟨es,rfl,_⟩:=h;rfl
   ·simp_all
   ·simp_all
   ·exact h.elim
section
variable {P:Program} {w:World} {H:Type} {enc:TypeId×Value→H} {spare:Nat→Bool} {held:Bool}
theorem Bv{ok:TypeId→Bool}{size:Nat}:∀{fs:List Field}{off:Nat},qo P ok size fs off=true→off≤size
 |[],off,h=>by simp_all[qo,IT]
 |f::r,off,h=>by simp only[qo,T2]at h;have:=Bv h.2;omega
theorem Rm{base:Nat}{a:Addr}{n:Nat}{cs:List Value}(h:w.cells? base a n=some cs):cs.length=n∧∀i v,cs[i]?=some v→w.cell? (a.add i)=some v:=by
 unfold World.cells? at h;split at h
 ·have key:∀(l:List Nat)(cs:List Value),l.mapM (fun i=>w.cell? (a.add i))=some cs→cs.length=l.length∧∀(i:Nat)(v:Value)(k:Nat),cs[i]?=some v→l[i]?=some k→w.cell? (a.add k)=some v:=by
   intro l;induction l with
   |nil=>simp
   |cons x l ih=>
    intro cs h;rw[ajf]at h;simp only[Option.pure_def,Option.bind_eq_bind,By]at h;obtain⟨v,hv,vs,hvs,h⟩:=h;simp only[AI]at h;subst h;obtain⟨h1,h2⟩:=ih vs hvs;refine⟨by simp[h1],fun i u k hi hk=>?_⟩;cases i with
    |zero=>simp at hi hk;subst hi;subst hk;exact hv
    |succ i=>exact h2 i u k (by simpa using hi) (by simpa using hk)
  obtain⟨h1,h2⟩:=key _ _ h;simp at h1;refine⟨h1,fun i v hi=>h2 i v i hi ?_⟩;exact ahS (by have:=(HO.1 hi).1;omega)
 ·cases h
variable{v:Value}
theorem BM{a:Addr}(h:w.cell? a=some v):cellAt (jK w) a.block a.off=some v:=by
 unfold World.cell? at h;unfold cellAt jK;split at h
 ·rename_i hb;split at h
  ·cases h
  ·rw[hb];exact h
 ·cases h
theorem TT{M:Nat}:∀(d:Nat)(t:TypeId)(cs:List Value)(fuel:Nat)(x:DataW H×List MemPlace),oF P d t=true→DataW.trod enc P w 0 spare held fuel t cs=some x→(M=maxLen∨du x.1≤M)→∃ps,ps.length=cs.length∧gd M P d t ps∧Ap P w ps cs:=by
 intro d;induction d with
 |zero=>intro t cs fuel x h;cases h
 |succ d ih=>
  intro t cs fuel x hp h hB;unfold oF at hp;split at hp
  ·rename_i hu;obtain⟨b,rfl,_⟩:=DataW.trod_bool hu h;exact⟨[.bool b],rfl,by unfold gd;rw[hu];exact⟨b,rfl⟩,.one .bool rfl⟩
  ·rename_i k hu;obtain⟨n,rfl,_,hw⟩:=DataW.trod_int hu h;exact⟨[.int k n],rfl,by unfold gd;rw[hu];exact⟨n,rfl,hw⟩,.one (.int hw) rfl⟩
  ·rename_i hu;obtain⟨s,rfl,hx,hw⟩:=DataW.trod_string hu h;have hlen:s.data.toList.length≤M:=by
    rcases hB with hB|hB
    ·subst hB;simpa using hw
    ·rw[hx]at hB;simp only[du]at hB;omega
   refine⟨[.str s.data.toList],rfl,by unfold gd;rw[hu];exact⟨_,rfl,hlen⟩,.one ?_ rfl⟩;exact af.str (P:=P) (μ:=jK w) (s:=s.data.toList) (by simpa using hw)
  ·rename_i e hu;simp only[T2,afk]at hp;obtain⟨⟨EI,er⟩,I6⟩:=hp;rw[ahC]at er;have I6:ay P e=true∨aR P e=1:=I6.imp id IT;rcases DataW.trod_slice hu h with⟨rfl,_⟩|⟨a,len,cap,elems,rest,n,_,rfl,hx,_,hlc,SU,B4,eH,_⟩
   ·exact⟨[.rs (aR P e) []],rfl,by unfold gd;rw[hu];exact⟨[],rfl,by simp,by simp⟩,.one .ko rfl⟩
   ·have each:∀i,i<len→∃qs ci,ci.length=aR P e∧(∀j v,ci[j]?=some v→w.cell? ((a.add (i*aR P e)).add j)=some v)∧qs.length=aR P e∧gd M P d e qs∧Ap P w qs ci:=by intro i hi;have h1:=eH i hi;rw[AS (by omega)]at h1;obtain⟨ci,hci,htr⟩:=By.1 h1;obtain⟨c1,c2⟩:=Rm hci;obtain⟨qs,q1,q2,q3⟩:=ih e ci n _ EI htr (hB.imp id fun hb=>by rw[hx]at hb;simp only[du]at hb;have:=zj (agZ.2 ⟨_,agQ (show i<elems.length by omega),rfl⟩:(elems[i]'(by omega)).1∈elems.map (·.1));omega);exact⟨qs,ci,c1,c2,by rw[q1,c1];rfl,q2,q3⟩
    have hch:∃f:Nat→List PV×List Value,∀i,i<len→(f i).2.length=aR P e∧(∀j v,(f i).2[j]?=some v→w.cell? ((a.add (i*aR P e)).add j)=some v)∧(f i).1.length=aR P e∧gd M P d e (f i).1∧Ap P w (f i).1 (f i).2:=by refine⟨fun i=>if h:i<len then((each i h).choose,(each i h).choose_spec.choose)else([],[]),fun i hi=>?_⟩;simp only[aj1 hi];exact(each i hi).choose_spec.choose_spec
    obtain⟨f,hf⟩:=hch;have Ft:∀i x,((List.range len).map fun i=>Bu (ay P e) (f i).1)[i]?=some x→i<len∧x=Bu (ay P e) (f i).1:=fun i x hx=>by
     rw[IS]at hx;obtain⟨k,hk,rfl⟩:=aaO.1 hx;have bS:i<len:=by have:=(HO.1 hk).1;simpa using this
     rw[ahS bS]at hk;simp at hk;subst hk;exact⟨bS,rfl⟩
    have hlen:((List.range len).map fun i=>Bu (ay P e) (f i).1).length=len:=by simp
    refine⟨[.rs (aR P e) ((List.range len).map fun i=>Bu (ay P e) (f i).1)],rfl,?_,.one ?_ rfl⟩
    ·unfold gd;rw[hu];refine⟨_,rfl,by
      rw[hlen];rcases hB with hB|hB
      ·omega
      ·rw[hx]at hB;simp only[du]at hB;have:=I5 (elems.map (·.1));rw[T0]at this;omega,fun x hx=>?_⟩
     obtain⟨i,hi⟩:=ag4 hx;obtain⟨bS,rfl⟩:=Ft i x hi;exact⟨_,rfl,(hf i bS).2.2.1,(hf i bS).2.2.2.1⟩
    ·by_cases h0:len=0
     ·subst h0;exact af.Ez (P:=P) (μ:=jK w) SU
     ·have Yn:a.spot=none:=by obtain⟨c1,c2,c3,_⟩:=hf 0 (by omega);have h1:(f 0).2[0]?=some ((f 0).2[0]'(by omega)):=AS (by omega);have:=World.cell?_spot (c2 0 _ h1);simpa[Addr.add]using this
      obtain⟨b,o,sp⟩:=a;simp only at Yn;subst Yn;have tA:∀i x,((List.range len).map fun i=>Bu (ay P e) (f i).1)[i]?=some x→i<len∧x.cells=(f i).1:=fun i x hx=>by obtain⟨bS,rfl⟩:=Ft i x hx;exact⟨bS,Rl I6 (hf i bS).2.2.2.1 (hf i bS).2.2.1⟩
      have hX:∀i x j p,((List.range len).map fun i=>Bu (ay P e) (f i).1)[i]?=some x→x.cells[j]?=some p→(f i).1[j]?=some p∧(f i).2[j]?=some ((f i).2.getD j undef):=fun i x j p hx hj=>by
       obtain⟨bS,hc⟩:=tA i x hx;rw[hc]at hj;refine⟨hj,?_⟩;obtain⟨c1,c2,c3,_⟩:=hf i bS;have:j<(f i).2.length:=by have:=(HO.1 hj).1;omega
       rw[AS this];simp[List.getD,this]
      have:=af.rs (P:=P) (μ:=jK w) (sz:=aR P e) (es:=(List.range len).map fun i=>Bu (ay P e) (f i).1) (b:=b) (o:=o) (cap:=cap) (fun i j=>(f i).2.getD j undef) (by rw[hlen];exact hlc) SU (fun i x hx=>by obtain⟨bS,hc⟩:=tA i x hx;rw[hc];exact(hf i bS).2.2.1) (fun i x j p hx hj=>by
        obtain⟨h1,h2⟩:=hX i x j p hx hj;have h3:=(hf i (tA i x hx).1).2.1 j _ h2;have h4:=BM h3;rw[Addr.add_mid,Addr.add_mid]at h4;exact h4)
       (fun i x j p hx hj=>by obtain⟨h1,h2⟩:=hX i x j p hx hj;exact((hf i (tA i x hx).1).2.2.2.2 j p _ h1 h2).1)
       (fun i x j p hx hj=>by obtain⟨h1,h2⟩:=hX i x j p hx hj;exact((hf i (tA i x hx).1).2.2.2.2 j p _ h1 h2).2)
      rw[hlen]at this;exact this
  ·rename_i fs hu;obtain⟨xs,n,_,hx,sC,Fj,ZF⟩:=DataW.trod_struct hu h;have sC:cs.length=aR P t:=sC;have key:∀(l:List Field)(off:Nat),(∀f∈l,∃y,DataW.trod enc P w 0 spare held n f.type ((cs.drop f.offset).take (aR P f.type))=some y∧(M=maxLen∨du y.1≤M))→qo P (oF P d) (aR P t) l off=true→∃ps,ps.length=cs.length-off∧wU P (gd M P d) l ps∧Ap P w ps (cs.drop off):=by
    intro l;induction l with
    |nil=>intro off _ Bm;have:=IT Bm;exact⟨[],by simp;omega,rfl,by intro i p v hp;simp at hp⟩
    |cons f l ihl=>
     intro off hf Bm;simp only[qo,T2]at Bm;obtain⟨⟨QB,hpf⟩,Bm⟩:=Bm;have QB:=IT QB;obtain⟨y,hy,hyB⟩:=hf f (by simp);rw[QB]at hy;have hle:=Bv Bm;obtain⟨a,a1,a2,a3⟩:=ih f.type _ n y hpf hy hyB;obtain⟨b,b1,b2,b3⟩:=ihl _ (fun g hg=>hf g (by simp[hg])) Bm;have GN:a.length=aR P f.type:=by rw[a1];simp;omega
     refine⟨a++b,by simp[GN,b1];omega,⟨a,b,rfl,GN,a2,b2⟩,Ap.append (n:=aR P f.type) a3 (by rw[ahz];exact b3) GN⟩
   obtain⟨ps,p1,p2,p3⟩:=key fs.toList 0 (fun f hf=>by
    obtain⟨i,hi⟩:=ag4 hf;have mT:fs[i]?=some f:=by rw[←agR];exact hi
    have h1:=ZF i f mT;have bS:i<xs.length:=by have:=(YH.1 mT).1;omega
    rw[AS bS]at h1;exact⟨_,h1,hB.imp id fun hb=>by rw[hx]at hb;simp only[du]at hb;have:=zj (agZ.2 ⟨_,agQ bS,rfl⟩:(xs[i]).1∈xs.map (·.1));omega⟩) hp
   exact⟨ps,by simpa using p1,by unfold gd;rw[hu];exact p2,by simpa using p3⟩
  ·rename_i n e hu;simp only[T2]at hp;obtain⟨EI,mP⟩:=hp;have mP:=IT mP;obtain⟨xs,m,_,hx,sC,Fj,ZF⟩:=DataW.trod_array hu h;have sC:cs.length=aR P t:=sC;have key:∀(k i:Nat),i+k=n→∃ps,ps.length=cs.length-i*aR P e∧ZY (gd M P d e) (aR P e) k ps∧Ap P w ps (cs.drop (i*aR P e)):=by
    intro k;induction k with
    |zero=>
     intro i hi;have:i=n:=by omega
     subst this;exact⟨[],by simp;omega,rfl,by intro i p v hp;simp at hp⟩
    |succ k Y9=>
     intro i hi;have h1:=ZF i (by omega);rw[AS (by omega)]at h1;obtain⟨a,a1,a2,a3⟩:=ih e _ m _ EI h1 (hB.imp id fun hb=>by rw[hx]at hb;simp only[du]at hb;have:=zj (agZ.2 ⟨_,agQ (show i<xs.length by omega),rfl⟩:(xs[i]'(by omega)).1∈xs.map (·.1));omega);obtain⟨b,b1,b2,b3⟩:=Y9 (i+1) (by omega);have KY:i*aR P e+aR P e≤cs.length:=by rw[sC,←mP];have:(i+1)*aR P e≤n*aR P e:=aaP _ (by omega);rw[ahj]at this;omega
     have GN:a.length=aR P e:=by rw[a1];show((cs.drop (i*aR P e)).take (aR P e)).length=aR P e;simp;omega
     refine⟨a++b,by simp[GN,b1,ahj];omega,⟨a,b,rfl,GN,a2,b2⟩,Ap.append (n:=aR P e) a3 ?_ GN⟩;rw[ahz];rw[ahj,Nat.one_mul]at b3;exact b3
   obtain⟨ps,p1,p2,p3⟩:=key n 0 (by omega);exact⟨ps,by simpa using p1,by unfold gd;rw[hu];exact p2,by simpa using p3⟩
  ·cases hp
variable{places:List MemPlace}
theorem TU{M d:Nat}{t:TypeId}{y:DataW H}{r:Reach}{b0:Nat}(hp:oF P (d+1) t=true)(Bm:Value.okWide P w r b0 t v)(h:DataW.Trod enc P w 0 spare held t v y places)(hB:M=maxLen∨du y≤M):∃ps,gd M P (d+1) t ps∧af P (jK w) (Bu (ay P t) ps) v:=by
 obtain⟨fuel,hf⟩:=h;obtain⟨ps,p1,p2,p3⟩:=TT (M:=M) (d+1) t _ fuel _ hp hf hB;refine⟨ps,p2,?_⟩;have agg:ay P t=true→(∃cs,v=.agg cs)→af P (jK w) (Bu (ay P t) ps) v:=by
  rintro ha ⟨cs,rfl⟩;rw[ha];simp only[Value.cells]at p1 p3;exact .agg (by simpa using p1) (fun i p x hi hx=>(p3 i p x hi (by rw[agR];exact hx)).1) fun i x hx=>by
   have bS:i<ps.length:=by have:=(YH.1 hx).1;simp at p1;omega
   exact(p3 i _ x (AS bS) (by rw[agR];exact hx)).2
 have one:ay P t=false→v.cells= #[v]→(∃p,ps=[p])→af P (jK w) (Bu (ay P t) ps) v:=by rintro ha hv ⟨p,rfl⟩;rw[ha];exact(p3 0 p v rfl (by rw[hv];rfl)).1
 unfold oF at hp;unfold gd at p2;split at hp
 ·rename_i hu;rw[hu]at p2;obtain⟨b,hb⟩:=WideShapes.okWide_bool hu Bm;subst hb;obtain⟨b',gX⟩:=p2;exact one (by simp[ay,hu]) rfl ⟨_,gX⟩
 ·rename_i k hu;rw[hu]at p2;obtain⟨b,hb⟩:=WideShapes.okWide_int hu Bm;subst hb;obtain⟨b',gX,_⟩:=p2;exact one (by simp[ay,hu]) rfl ⟨_,gX⟩
 ·rename_i hu;rw[hu]at p2;obtain⟨b,hb⟩:=WideShapes.okWide_string hu Bm;subst hb;obtain⟨b',gX,_⟩:=p2;exact one (by simp[ay,hu]) rfl ⟨_,gX⟩
 ·rename_i e hu;rw[hu]at p2;obtain⟨a,len,cap,hb⟩:=WideShapes.okWide_slice hu Bm;subst hb;obtain⟨b',gX,_⟩:=p2;exact one (by simp[ay,hu]) rfl ⟨_,gX⟩
 ·rename_i fs hu;refine agg (by simp[ay,hu]) ?_;simp only[Value.okWide,hu]at Bm;obtain⟨cs,Sf,_⟩:=Bm;exact⟨cs,Sf⟩
 ·rename_i n e hu;refine agg (by simp[ay,hu]) ?_;simp only[Value.okWide,hu]at Bm;obtain⟨cs,Sf,_⟩:=Bm;exact⟨cs,Sf⟩
 ·cases hp
theorem G4{d:Nat}{t:TypeId}{y:DataW H}{r:Reach}{b0:Nat}(hp:oF P (d+1) t=true)(Bm:Value.okWide P w r b0 t v)(h:DataW.Trod enc P w 0 spare held t v y places):∃ps,Shp P (d+1) t ps∧af P (jK w) (Bu (ay P t) ps) v:=TU hp Bm h (.inl rfl)
end
end Go.Ab
