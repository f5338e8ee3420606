import Derived.Test.YtmbihgjlollbeaaGreatAbSeat
import Derived.WalkKit
import Derived.ProofKit
import Derived.OpenShut
import Derived.ShutString
import Derived.ChangeOld
set_option linter.all false
namespace Go.Ab
open Go.RowKit (Below)
def CB(agg:Bool)(qs:List PV):PV:=match agg with
 |true=>.agg qs
 |false=>qs.getD 0 .bad
def wG(P:Program)(ok:TypeId→Bool)(size:Nat):List Field→Nat→Bool
 |[],off=>Nat.beq off size
 |f::r,off=>Nat.beq f.offset off&&ok f.type&&wG P ok size r (off+bj P f.type)
def wH(P:Program):Nat→TypeId→Bool
 |0,_=>false
 |d+1,t=>match P.underlying t with
  |some .bool=>true
  |some (.int _)=>true
  |some .string=>true
  |some (.slice e)=>wH P d e&&Nat.blt 0 (bj P e)&&(aN P e||Nat.beq (bj P e) 1)
  |some (.struct fs)=>wG P (wH P d) (bj P t) fs.toList 0
  |some (.array n e)=>wH P d e&&Nat.beq (n*bj P e) (bj P t)
  |_=>false
def pU(P:Program)(shp:TypeId→List PV→Prop):List Field→List PV→Prop
 |[],ps=>ps=[]
 |f::r,ps=>∃a b,ps=a++b∧a.length=bj P f.type∧shp f.type a∧pU P shp r b
def ac3(shp:List PV→Prop)(c:Nat):Nat→List PV→Prop
 |0,ps=>ps=[]
 |n+1,ps=>∃a b,ps=a++b∧a.length=c∧shp a∧ac3 shp c n b
mutual
def dX{H:Type}:DataW H→Nat
 |.lit (.string b)=>b.length+1
 |.slice es _=>RS es+1
 |.agg ps=>RS ps+1
 |_=>1
def RS{H:Type}:List (DataW H)→Nat
 |[]=>0
 |d::r=>dX d+RS r
end
theorem ahc{H:Type}(d:DataW H):1≤dX d:=by
 cases d with
 |lit l=>cases l<;>simp[dX]
 |_=>simp[dX]
theorem Hc{H:Type}:∀{l:List (DataW H)}{d:DataW H},d∈l→dX d≤RS l
 |x::r,d,h=>by
  simp only[RS];rcases asm.1 h with rfl|h
  ·omega
  ·have:=Hc h;omega
theorem RT{H:Type}:∀(l:List (DataW H)),l.length≤RS l
 |[]=>by simp[RS]
 |x::r=>by have:=RT r;have:=ahc x;simp only[RS,amo];omega
def eF(M:Nat)(P:Program):Nat→TypeId→List PV→Prop
 |0,_,_=>False
 |d+1,t,ps=>match P.underlying t with
  |some .bool=>∃b,ps=[.bool b]
  |some (.int k)=>∃n,ps=[.int k n]∧(Lit.int k n).wf=true
  |some .string=>∃s:Bytes,ps=[.str s]∧s.length≤M
  |some (.slice e)=>∃es,ps=[.rs (bj P e) es]∧es.length≤M∧∀x∈es,∃qs,x=CB (aN P e) qs∧qs.length=bj P e∧eF M P d e qs
  |some (.struct fs)=>pU P (eF M P d) fs.toList ps
  |some (.array n e)=>ac3 (eF M P d e) (bj P e) n ps
  |_=>False
abbrev Shp(P:Program):Nat→TypeId→List PV→Prop:=eF maxLen P
def Is(P:Program)(w:World)(ps:List PV)(cs:List Value):Prop:=∀(i:Nat)p v,ps[i]?=some p→cs[i]?=some v→av P (mc w) p v∧v.oneCell'=true
variable{P:Program}
theorem Is.one{w:World}{p:PV}{v:Value}(h:av P (mc w) p v)(h1:v.oneCell'=true):Is P w [p] [v]:=by intro i q u hq hu;grind
theorem Is.append{w:World}{a b:List PV}{cs:List Value}{n:Nat}(ha:Is P w a (cs.take n))(hb:Is P w b (cs.drop n))(hl:a.length=n):Is P w (a++b) cs:=by
 intro i p v hp hv;rw[asH]at hp;split at hp
 ·rename_i h;exact ha i p v hp (by simp_all)
 ·rename_i h;exact hb (i-a.length) p v hp (by simp_all)
theorem aaq{M d:Nat}{e:TypeId}{qs:List PV}(ha:aN P e=true∨bj P e=1)(h:eF M P d e qs)(hl:qs.length=bj P e):(CB (aN P e) qs).cells=qs:=by
 cases RU:aN P e with
 |true=>rfl
 |false=>
  have h1:bj P e=1:=ha.resolve_left (by simp[RU]);cases d with
  |zero=>exact h.elim
  |succ d=>
   unfold eF at h;unfold aN at RU;split at h
   ·obtain⟨b,rfl⟩:=h;rfl
   ·obtain⟨n,rfl,_⟩:=h;rfl
   ·obtain⟨s,rfl,_⟩:=h;rfl
   ·obtain⟨es,rfl,_⟩:=h;rfl
   ·simp_all
   ·simp_all
   ·exact h.elim
section
variable {P:Program} {w:World} {H:Type} {enc:TypeId×Value→H} {spare:Nat→Bool} {held:Bool}
theorem JD{ok:TypeId→Bool}{size:Nat}:∀{fs:List Field}{off:Nat},wG P ok size fs off=true→off≤size
 |[],off,h=>by simp_all[wG,Ka]
 |f::r,off,h=>by simp only[wG,amm]at h;have:=JD h.2;omega
theorem aar{base:Nat}{a:Addr}{n:Nat}{cs:List Value}(h:w.cells? base a n=some cs):cs.length=n∧∀i v,cs[i]?=some v→w.cell? (a.add i)=some v:=by
 unfold World.cells? at h;split at h
 ·have key:∀(l:List Nat)(cs:List Value),l.mapM (fun i=>w.cell? (a.add i))=some cs→cs.length=l.length∧∀(i:Nat)(v:Value)(k:Nat),cs[i]?=some v→l[i]?=some k→w.cell? (a.add k)=some v:=by
   intro l;induction l with
   |nil=>simp
   |cons x l ih=>
    intro cs h;rw[auQ]at h;simp only[Option.pure_def,Option.bind_eq_bind,By]at h;obtain⟨v,hv,vs,hvs,h⟩:=h;simp only[cO]at h;subst h;obtain⟨h1,h2⟩:=ih vs hvs;refine⟨by simp[h1],fun i u k hi hk=>?_⟩;cases i with
    |zero=>simp at hi hk;subst hi;subst hk;exact hv
    |succ i=>exact h2 i u k (by simpa using hi) (by simpa using hk)
  obtain⟨h1,h2⟩:=key _ _ h;simp at h1;refine⟨h1,fun i v hi=>h2 i v i hi ?_⟩;exact as8 (by have:=(OF.1 hi).1;omega)
 ·cases h
variable{v:Value}
theorem J3{a:Addr}(h:w.cell? a=some v):cellAt (mc w) a.block a.off=some v:=by
 unfold World.cell? at h;unfold cellAt mc;split at h
 ·rename_i hb;split at h
  ·cases h
  ·rw[hb];exact h
 ·cases h
theorem ac4{M:Nat}:∀(d:Nat)(t:TypeId)(cs:List Value)(fuel:Nat)(x:DataW H×List MemPlace),wH P d t=true→DataW.trod enc P w 0 spare held fuel t cs=some x→(M=maxLen∨dX x.1≤M)→∃ps,ps.length=cs.length∧eF M P d t ps∧Is P w ps cs:=by
 intro d;induction d with
 |zero=>intro t cs fuel x h;cases h
 |succ d ih=>
  intro t cs fuel x hp h hB;unfold wH at hp;split at hp
  ·rename_i hu;obtain⟨b,rfl,_⟩:=DataW.trod_bool hu h;exact⟨[.bool b],rfl,by unfold eF;rw[hu];exact⟨b,rfl⟩,.one .bool rfl⟩
  ·rename_i k hu;obtain⟨n,rfl,_,hw⟩:=DataW.trod_int hu h;exact⟨[.int k n],rfl,by unfold eF;rw[hu];exact⟨n,rfl,hw⟩,.one (.int hw) rfl⟩
  ·rename_i hu;obtain⟨s,rfl,hx,hw⟩:=DataW.trod_string hu h;have hlen:s.data.toList.length≤M:=by
    rcases hB with hB|hB
    ·subst hB;simpa using hw
    ·rw[hx]at hB;simp only[dX]at hB;omega
   refine⟨[.str s.data.toList],rfl,by unfold eF;rw[hu];exact⟨_,rfl,hlen⟩,.one ?_ rfl⟩;exact av.str (P:=P) (μ:=mc w) (s:=s.data.toList) (by simpa using hw)
  ·rename_i e hu;simp only[amm,asz]at hp;obtain⟨⟨PF,eS⟩,RU⟩:=hp;rw[atl]at eS;have RU:aN P e=true∨bj P e=1:=RU.imp id Ka;rcases DataW.trod_slice hu h with⟨rfl,_⟩|⟨a,len,cap,elems,rest,n,_,rfl,hx,_,hlc,hcm,N9,eR,_⟩
   ·exact⟨[.rs (bj P e) []],rfl,by unfold eF;rw[hu];exact⟨[],rfl,by simp,by simp⟩,.one .ny rfl⟩
   ·have each:∀i,i<len→∃qs ci,ci.length=bj P e∧(∀j v,ci[j]?=some v→w.cell? ((a.add (i*bj P e)).add j)=some v)∧qs.length=bj P e∧eF M P d e qs∧Is P w qs ci:=by intro i hi;have h1:=eR i hi;rw[cN (by omega)]at h1;obtain⟨ci,hci,htr⟩:=By.1 h1;obtain⟨c1,c2⟩:=aar hci;obtain⟨qs,q1,q2,q3⟩:=ih e ci n _ PF htr (hB.imp id fun hb=>by rw[hx]at hb;simp only[dX]at hb;have:=Hc (asC.2 ⟨_,aqW (show i<elems.length by omega),rfl⟩:(elems[i]'(by omega)).1∈elems.map (·.1));omega);exact⟨qs,ci,c1,c2,by rw[q1,c1];rfl,q2,q3⟩
    have hch:∃f:Nat→List PV×List Value,∀i,i<len→(f i).2.length=bj P e∧(∀j v,(f i).2[j]?=some v→w.cell? ((a.add (i*bj P e)).add j)=some v)∧(f i).1.length=bj P e∧eF M P d e (f i).1∧Is P w (f i).1 (f i).2:=by refine⟨fun i=>if h:i<len then((each i h).choose,(each i h).choose_spec.choose)else([],[]),fun i hi=>?_⟩;simp only[avz hi];exact(each i hi).choose_spec.choose_spec
    obtain⟨f,hf⟩:=hch;have QI:∀i x,((List.range len).map fun i=>CB (aN P e) (f i).1)[i]?=some x→i<len∧x=CB (aN P e) (f i).1:=fun i x hx=>by
     rw[AT]at hx;obtain⟨k,hk,rfl⟩:=aqX.1 hx;have cd:i<len:=by have:=(OF.1 hk).1;simpa using this
     rw[as8 cd]at hk;simp at hk;subst hk;exact⟨cd,rfl⟩
    have hlen:((List.range len).map fun i=>CB (aN P e) (f i).1).length=len:=by simp
    refine⟨[.rs (bj P e) ((List.range len).map fun i=>CB (aN P e) (f i).1)],rfl,?_,.one ?_ rfl⟩
    ·unfold eF;rw[hu];refine⟨_,rfl,by
      rw[hlen];rcases hB with hB|hB
      ·omega
      ·rw[hx]at hB;simp only[dX]at hB;have:=RT (elems.map (·.1));rw[AI]at this;omega,fun x hx=>?_⟩
     obtain⟨i,hi⟩:=asE hx;obtain⟨cd,rfl⟩:=QI i x hi;exact⟨_,rfl,(hf i cd).2.2.1,(hf i cd).2.2.2.1⟩
    ·by_cases h0:len=0
     ·subst h0;exact av.Ni (P:=P) (μ:=mc w) hcm
     ·have aiC:a.spot=none:=by obtain⟨c1,c2,c3,_⟩:=hf 0 (by omega);have h1:(f 0).2[0]?=some ((f 0).2[0]'(by omega)):=cN (by omega);have:=World.cell?_spot (c2 0 _ h1);simpa[Addr.add]using this
      obtain⟨b,o,sp⟩:=a;simp only at aiC;subst aiC;have Bh:∀i x,((List.range len).map fun i=>CB (aN P e) (f i).1)[i]?=some x→i<len∧x.cells=(f i).1:=fun i x hx=>by obtain⟨cd,rfl⟩:=QI i x hx;exact⟨cd,aaq RU (hf i cd).2.2.2.1 (hf i cd).2.2.1⟩
      have hX:∀i x j p,((List.range len).map fun i=>CB (aN P e) (f i).1)[i]?=some x→x.cells[j]?=some p→(f i).1[j]?=some p∧(f i).2[j]?=some ((f i).2.getD j undef):=fun i x j p hx hj=>by
       obtain⟨cd,hc⟩:=Bh i x hx;rw[hc]at hj;refine⟨hj,?_⟩;obtain⟨c1,c2,c3,_⟩:=hf i cd;have:j<(f i).2.length:=by have:=(OF.1 hj).1;omega
       rw[cN this];simp[List.getD,this]
      have:=av.rs (P:=P) (μ:=mc w) (sz:=bj P e) (es:=(List.range len).map fun i=>CB (aN P e) (f i).1) (b:=b) (o:=o) (cap:=cap) (fun i j=>(f i).2.getD j undef) (by rw[hlen];exact hlc) hcm (fun i x hx=>by obtain⟨cd,hc⟩:=Bh i x hx;rw[hc];exact(hf i cd).2.2.1) (fun i x j p hx hj=>by
        obtain⟨h1,h2⟩:=hX i x j p hx hj;have h3:=(hf i (Bh i x hx).1).2.1 j _ h2;have h4:=J3 h3;rw[Addr.add_mid,Addr.add_mid]at h4;exact h4)
       (fun i x j p hx hj=>by obtain⟨h1,h2⟩:=hX i x j p hx hj;exact((hf i (Bh i x hx).1).2.2.2.2 j p _ h1 h2).1)
       (fun i x j p hx hj=>by obtain⟨h1,h2⟩:=hX i x j p hx hj;exact((hf i (Bh i x hx).1).2.2.2.2 j p _ h1 h2).2)
      rw[hlen]at this;exact this
  ·rename_i fs hu;obtain⟨xs,n,_,hx,A2,Rm,hfs⟩:=DataW.trod_struct hu h;have A2:cs.length=bj P t:=A2;have key:∀(l:List Field)(off:Nat),(∀f∈l,∃y,DataW.trod enc P w 0 spare held n f.type ((cs.drop f.offset).take (bj P f.type))=some y∧(M=maxLen∨dX y.1≤M))→wG P (wH P d) (bj P t) l off=true→∃ps,ps.length=cs.length-off∧pU P (eF M P d) l ps∧Is P w ps (cs.drop off):=by
    intro l;induction l with
    |nil=>intro off _ sJ;have:=Ka sJ;exact⟨[],by simp;omega,rfl,by intro i p v hp;simp at hp⟩
    |cons f l ihl=>
     intro off hf sJ;simp only[wG,amm]at sJ;obtain⟨⟨ZO,hpf⟩,sJ⟩:=sJ;have ZO:=Ka ZO;obtain⟨y,hy,hyB⟩:=hf f (by simp);rw[ZO]at hy;have hle:=JD sJ;obtain⟨a,a1,a2,a3⟩:=ih f.type _ n y hpf hy hyB;obtain⟨b,b1,b2,b3⟩:=ihl _ (fun g hg=>hf g (by simp[hg])) sJ;have Oa:a.length=bj P f.type:=by rw[a1];simp;omega
     refine⟨a++b,by simp[Oa,b1];omega,⟨a,b,rfl,Oa,a2,b2⟩,Is.append (n:=bj P f.type) a3 (by rw[at2];exact b3) Oa⟩
   obtain⟨ps,p1,p2,p3⟩:=key fs.toList 0 (fun f hf=>by
    obtain⟨i,hi⟩:=asE hf;have uP:fs[i]?=some f:=by rw[←asX];exact hi
    have h1:=hfs i f uP;have cd:i<xs.length:=by have:=(apj.1 uP).1;omega
    rw[cN cd]at h1;exact⟨_,h1,hB.imp id fun hb=>by rw[hx]at hb;simp only[dX]at hb;have:=Hc (asC.2 ⟨_,aqW cd,rfl⟩:(xs[i]).1∈xs.map (·.1));omega⟩) hp
   exact⟨ps,by simpa using p1,by unfold eF;rw[hu];exact p2,by simpa using p3⟩
  ·rename_i n e hu;simp only[amm]at hp;obtain⟨PF,rW⟩:=hp;have rW:=Ka rW;obtain⟨xs,m,_,hx,A2,Rm,hfs⟩:=DataW.trod_array hu h;have A2:cs.length=bj P t:=A2;have key:∀(k i:Nat),i+k=n→∃ps,ps.length=cs.length-i*bj P e∧ac3 (eF M P d e) (bj P e) k ps∧Is P w ps (cs.drop (i*bj P e)):=by
    intro k;induction k with
    |zero=>
     intro i hi;have:i=n:=by omega
     subst this;exact⟨[],by simp;omega,rfl,by intro i p v hp;simp at hp⟩
    |succ k ihk=>
     intro i hi;have h1:=hfs i (by omega);rw[cN (by omega)]at h1;obtain⟨a,a1,a2,a3⟩:=ih e _ m _ PF h1 (hB.imp id fun hb=>by rw[hx]at hb;simp only[dX]at hb;have:=Hc (asC.2 ⟨_,aqW (show i<xs.length by omega),rfl⟩:(xs[i]'(by omega)).1∈xs.map (·.1));omega);obtain⟨b,b1,b2,b3⟩:=ihk (i+1) (by omega);have TK:i*bj P e+bj P e≤cs.length:=by rw[A2,←rW];have:(i+1)*bj P e≤n*bj P e:=asj _ (by omega);rw[as2]at this;omega
     have Oa:a.length=bj P e:=by rw[a1];show((cs.drop (i*bj P e)).take (bj P e)).length=bj P e;simp;omega
     refine⟨a++b,by simp[Oa,b1,as2];omega,⟨a,b,rfl,Oa,a2,b2⟩,Is.append (n:=bj P e) a3 ?_ Oa⟩;rw[at2];rw[as2,Nat.one_mul]at b3;exact b3
   obtain⟨ps,p1,p2,p3⟩:=key n 0 (by omega);exact⟨ps,by simpa using p1,by unfold eF;rw[hu];exact p2,by simpa using p3⟩
  ·cases hp
variable{places:List MemPlace}
theorem ac5{M d:Nat}{t:TypeId}{y:DataW H}{r:Reach}{b0:Nat}(hp:wH P (d+1) t=true)(sJ:Value.okWide P w r b0 t v)(h:DataW.Trod enc P w 0 spare held t v y places)(hB:M=maxLen∨dX y≤M):∃ps,eF M P (d+1) t ps∧av P (mc w) (CB (aN P t) ps) v:=by
 obtain⟨fuel,hf⟩:=h;obtain⟨ps,p1,p2,p3⟩:=ac4 (M:=M) (d+1) t _ fuel _ hp hf hB;refine⟨ps,p2,?_⟩;have agg:aN P t=true→(∃cs,v=.agg cs)→av P (mc w) (CB (aN P t) ps) v:=by
  rintro ha ⟨cs,rfl⟩;rw[ha];simp only[Value.cells]at p1 p3;exact .agg (by simpa using p1) (fun i p x hi hx=>(p3 i p x hi (by rw[asX];exact hx)).1) fun i x hx=>by
   have cd:i<ps.length:=by have:=(apj.1 hx).1;simp at p1;omega
   exact(p3 i _ x (cN cd) (by rw[asX];exact hx)).2
 have one:aN P t=false→v.cells= #[v]→(∃p,ps=[p])→av P (mc w) (CB (aN P t) ps) v:=by rintro ha hv ⟨p,rfl⟩;rw[ha];exact(p3 0 p v rfl (by rw[hv];rfl)).1
 unfold wH at hp;unfold eF at p2;split at hp
 ·rename_i hu;rw[hu]at p2;obtain⟨b,hb⟩:=WideShapes.okWide_bool hu sJ;subst hb;obtain⟨b',ke⟩:=p2;exact one (by simp[aN,hu]) rfl ⟨_,ke⟩
 ·rename_i k hu;rw[hu]at p2;obtain⟨b,hb⟩:=WideShapes.okWide_int hu sJ;subst hb;obtain⟨b',ke,_⟩:=p2;exact one (by simp[aN,hu]) rfl ⟨_,ke⟩
 ·rename_i hu;rw[hu]at p2;obtain⟨b,hb⟩:=WideShapes.okWide_string hu sJ;subst hb;obtain⟨b',ke,_⟩:=p2;exact one (by simp[aN,hu]) rfl ⟨_,ke⟩
 ·rename_i e hu;rw[hu]at p2;obtain⟨a,len,cap,hb⟩:=WideShapes.okWide_slice hu sJ;subst hb;obtain⟨b',ke,_⟩:=p2;exact one (by simp[aN,hu]) rfl ⟨_,ke⟩
 ·rename_i fs hu;refine agg (by simp[aN,hu]) ?_;simp only[Value.okWide,hu]at sJ;obtain⟨cs,Ur,_⟩:=sJ;exact⟨cs,Ur⟩
 ·rename_i n e hu;refine agg (by simp[aN,hu]) ?_;simp only[Value.okWide,hu]at sJ;obtain⟨cs,Ur,_⟩:=sJ;exact⟨cs,Ur⟩
 ·cases hp
theorem WQ{d:Nat}{t:TypeId}{y:DataW H}{r:Reach}{b0:Nat}(hp:wH P (d+1) t=true)(sJ:Value.okWide P w r b0 t v)(h:DataW.Trod enc P w 0 spare held t v y places):∃ps,Shp P (d+1) t ps∧av P (mc w) (CB (aN P t) ps) v:=ac5 hp sJ h (.inl rfl)
end
end Go.Ab
