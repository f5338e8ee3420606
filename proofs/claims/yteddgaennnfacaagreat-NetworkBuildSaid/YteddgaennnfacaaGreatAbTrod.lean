import Derived.Test.YteddgaennnfacaaGreatAbSeat
import Derived.WalkKit
import Derived.ProofKit
import Derived.OpenShut
import Derived.ShutString
import Derived.ChangeOld
set_option linter.all false
namespace Go.Ab
open Go.RowKit (Below)
def GB(agg:Bool)(qs:List PV):PV:=match agg with
 |true=>.agg qs
 |false=>qs.getD 0 .bad
def uk(P:Program)(ok:TypeId→Bool)(size:Nat):List Field→Nat→Bool
 |[],off=>Nat.beq off size
 |f::r,off=>Nat.beq f.offset off&&ok f.type&&uk P ok size r (off+aV P f.type)
def wH(P:Program):Nat→TypeId→Bool
 |0,_=>false
 |d+1,t=>match P.underlying t with
  |some .bool=>true
  |some (.int _)=>true
  |some .string=>true
  |some (.slice e)=>wH P d e&&Nat.blt 0 (aV P e)&&(aD P e||Nat.beq (aV P e) 1)
  |some (.struct fs)=>uk P (wH P d) (aV P t) fs.toList 0
  |some (.array n e)=>wH P d e&&Nat.beq (n*aV P e) (aV P t)
  |_=>false
def AA(P:Program)(shp:TypeId→List PV→Prop):List Field→List PV→Prop
 |[],ps=>ps=[]
 |f::r,ps=>∃a b,ps=a++b∧a.length=aV P f.type∧shp f.type a∧AA P shp r b
def Yj(shp:List PV→Prop)(c:Nat):Nat→List PV→Prop
 |0,ps=>ps=[]
 |n+1,ps=>∃a b,ps=a++b∧a.length=c∧shp a∧Yj shp c n b
mutual
def dJ{H:Type}:DataW H→Nat
 |.lit (.string b)=>b.length+1
 |.slice es _=>Oa es+1
 |.agg ps=>Oa ps+1
 |_=>1
def Oa{H:Type}:List (DataW H)→Nat
 |[]=>0
 |d::r=>dJ d+Oa r
end
theorem abR{H:Type}(d:DataW H):1≤dJ d:=by
 cases d with
 |lit l=>cases l<;>simp[dJ]
 |_=>simp[dJ]
theorem Ei{H:Type}:∀{l:List (DataW H)}{d:DataW H},d∈l→dJ d≤Oa l
 |x::r,d,h=>by
  simp only[Oa];rcases alq.1 h with rfl|h
  ·omega
  ·have:=Ei h;omega
theorem Ob{H:Type}:∀(l:List (DataW H)),l.length≤Oa l
 |[]=>by simp[Oa]
 |x::r=>by have:=Ob r;have:=abR x;simp only[Oa,aiK];omega
def fX(M:Nat)(P:Program):Nat→TypeId→List PV→Prop
 |0,_,_=>False
 |d+1,t,ps=>match P.underlying t with
  |some .bool=>∃b,ps=[.bool b]
  |some (.int k)=>∃n,ps=[.int k n]∧(Lit.int k n).wf=true
  |some .string=>∃s:Bytes,ps=[.str s]∧s.length≤M
  |some (.slice e)=>∃es,ps=[.rs (aV P e) es]∧es.length≤M∧∀x∈es,∃qs,x=GB (aD P e) qs∧qs.length=aV P e∧fX M P d e qs
  |some (.struct fs)=>AA P (fX M P d) fs.toList ps
  |some (.array n e)=>Yj (fX M P d e) (aV P e) n ps
  |_=>False
abbrev Shp(P:Program):Nat→TypeId→List PV→Prop:=fX maxLen P
def Fm(P:Program)(w:World)(ps:List PV)(cs:List Value):Prop:=∀(i:Nat)p v,ps[i]?=some p→cs[i]?=some v→ao P (jf w) p v∧v.oneCell'=true
variable{P:Program}
theorem Fm.one{w:World}{p:PV}{v:Value}(h:ao P (jf w) p v)(h1:v.oneCell'=true):Fm P w [p] [v]:=by intro i q u hq hu;grind
theorem Fm.append{w:World}{a b:List PV}{cs:List Value}{n:Nat}(ha:Fm P w a (cs.take n))(hb:Fm P w b (cs.drop n))(hl:a.length=n):Fm P w (a++b) cs:=by
 intro i p v hp hv;rw[alV]at hp;split at hp
 ·rename_i h;exact ha i p v hp (by simp_all)
 ·rename_i h;exact hb (i-a.length) p v hp (by simp_all)
theorem Ve{M d:Nat}{e:TypeId}{qs:List PV}(ha:aD P e=true∨aV P e=1)(h:fX M P d e qs)(hl:qs.length=aV P e):(GB (aD P e) qs).cells=qs:=by
 cases Oc:aD P e with
 |true=>rfl
 |false=>
  have h1:aV P e=1:=ha.resolve_left (by simp[Oc]);cases d with
  |zero=>exact h.elim
  |succ d=>
   unfold fX at h;unfold aD at Oc;split at h
   ·obtain⟨b,rfl⟩:=h;rfl
   ·obtain⟨n,rfl,_⟩:=h;rfl
   ·obtain⟨s,rfl,_⟩:=h;rfl
   ·obtain⟨es,rfl,_⟩:=h;rfl
   ·simp_all
   ·simp_all
   ·exact h.elim
section
variable {P:Program} {w:World} {H:Type} {enc:TypeId×Value→H} {spare:Nat→Bool} {held:Bool}
theorem GC{ok:TypeId→Bool}{size:Nat}:∀{fs:List Field}{off:Nat},uk P ok size fs off=true→off≤size
 |[],off,h=>by simp_all[uk,acA]
 |f::r,off,h=>by simp only[uk,ale]at h;have:=GC h.2;omega
theorem Vf{base:Nat}{a:Addr}{n:Nat}{cs:List Value}(h:w.cells? base a n=some cs):cs.length=n∧∀i v,cs[i]?=some v→w.cell? (a.add i)=some v:=by
 unfold World.cells? at h;split at h
 ·have key:∀(l:List Nat)(cs:List Value),l.mapM (fun i=>w.cell? (a.add i))=some cs→cs.length=l.length∧∀(i:Nat)(v:Value)(k:Nat),cs[i]?=some v→l[i]?=some k→w.cell? (a.add k)=some v:=by
   intro l;induction l with
   |nil=>simp
   |cons x l ih=>
    intro cs h;rw[anU]at h;simp only[Option.pure_def,Option.bind_eq_bind,M1]at h;obtain⟨v,hv,vs,hvs,h⟩:=h;simp only[By]at h;subst h;obtain⟨h1,h2⟩:=ih vs hvs;refine⟨by simp[h1],fun i u k hi hk=>?_⟩;cases i with
    |zero=>simp at hi hk;subst hi;subst hk;exact hv
    |succ i=>exact h2 i u k (by simpa using hi) (by simpa using hk)
  obtain⟨h1,h2⟩:=key _ _ h;simp at h1;refine⟨h1,fun i v hi=>h2 i v i hi ?_⟩;exact amN (by have:=(OF.1 hi).1;omega)
 ·cases h
variable{v:Value}
theorem G4{a:Addr}(h:w.cell? a=some v):cellAt (jf w) a.block a.off=some v:=by
 unfold World.cell? at h;unfold cellAt jf;split at h
 ·rename_i hb;split at h
  ·cases h
  ·rw[hb];exact h
 ·cases h
theorem Yk{M:Nat}:∀(d:Nat)(t:TypeId)(cs:List Value)(fuel:Nat)(x:DataW H×List MemPlace),wH P d t=true→DataW.trod enc P w 0 spare held fuel t cs=some x→(M=maxLen∨dJ x.1≤M)→∃ps,ps.length=cs.length∧fX M P d t ps∧Fm P w ps cs:=by
 intro d;induction d with
 |zero=>intro t cs fuel x h;cases h
 |succ d ih=>
  intro t cs fuel x hp h hB;unfold wH at hp;split at hp
  ·rename_i hu;obtain⟨b,rfl,_⟩:=DataW.trod_bool hu h;exact⟨[.bool b],rfl,by unfold fX;rw[hu];exact⟨b,rfl⟩,.one .bool rfl⟩
  ·rename_i k hu;obtain⟨n,rfl,_,hw⟩:=DataW.trod_int hu h;exact⟨[.int k n],rfl,by unfold fX;rw[hu];exact⟨n,rfl,hw⟩,.one (.int hw) rfl⟩
  ·rename_i hu;obtain⟨s,rfl,hx,hw⟩:=DataW.trod_string hu h;have hlen:s.data.toList.length≤M:=by
    rcases hB with hB|hB
    ·subst hB;simpa using hw
    ·rw[hx]at hB;simp only[dJ]at hB;omega
   refine⟨[.str s.data.toList],rfl,by unfold fX;rw[hu];exact⟨_,rfl,hlen⟩,.one ?_ rfl⟩;exact ao.str (P:=P) (μ:=jf w) (s:=s.data.toList) (by simpa using hw)
  ·rename_i e hu;simp only[ale,aly]at hp;obtain⟨⟨L9,ez⟩,Oc⟩:=hp;rw[amt]at ez;have Oc:aD P e=true∨aV P e=1:=Oc.imp id acA;rcases DataW.trod_slice hu h with⟨rfl,_⟩|⟨a,len,cap,elems,rest,n,_,rfl,hx,_,hlc,Qd,KI,fo,_⟩
   ·exact⟨[.rs (aV P e) []],rfl,by unfold fX;rw[hu];exact⟨[],rfl,by simp,by simp⟩,.one .lA rfl⟩
   ·have each:∀i,i<len→∃qs ci,ci.length=aV P e∧(∀j v,ci[j]?=some v→w.cell? ((a.add (i*aV P e)).add j)=some v)∧qs.length=aV P e∧fX M P d e qs∧Fm P w qs ci:=by intro i hi;have h1:=fo i hi;rw[AI (by omega)]at h1;obtain⟨ci,hci,htr⟩:=M1.1 h1;obtain⟨c1,c2⟩:=Vf hci;obtain⟨qs,q1,q2,q3⟩:=ih e ci n _ L9 htr (hB.imp id fun hb=>by rw[hx]at hb;simp only[dJ]at hb;have:=Ei (alC.2 ⟨_,alj (show i<elems.length by omega),rfl⟩:(elems[i]'(by omega)).1∈elems.map (·.1));omega);exact⟨qs,ci,c1,c2,by rw[q1,c1];rfl,q2,q3⟩
    have hch:∃f:Nat→List PV×List Value,∀i,i<len→(f i).2.length=aV P e∧(∀j v,(f i).2[j]?=some v→w.cell? ((a.add (i*aV P e)).add j)=some v)∧(f i).1.length=aV P e∧fX M P d e (f i).1∧Fm P w (f i).1 (f i).2:=by refine⟨fun i=>if h:i<len then((each i h).choose,(each i h).choose_spec.choose)else([],[]),fun i hi=>?_⟩;simp only[aoB hi];exact(each i hi).choose_spec.choose_spec
    obtain⟨f,hf⟩:=hch;have Nf:∀i x,((List.range len).map fun i=>GB (aD P e) (f i).1)[i]?=some x→i<len∧x=GB (aD P e) (f i).1:=fun i x hx=>by
     rw[IS]at hx;obtain⟨k,hk,rfl⟩:=alg.1 hx;have bQ:i<len:=by have:=(OF.1 hk).1;simpa using this
     rw[amN bQ]at hk;simp at hk;subst hk;exact⟨bQ,rfl⟩
    have hlen:((List.range len).map fun i=>GB (aD P e) (f i).1).length=len:=by simp
    refine⟨[.rs (aV P e) ((List.range len).map fun i=>GB (aD P e) (f i).1)],rfl,?_,.one ?_ rfl⟩
    ·unfold fX;rw[hu];refine⟨_,rfl,by
      rw[hlen];rcases hB with hB|hB
      ·omega
      ·rw[hx]at hB;simp only[dJ]at hB;have:=Ob (elems.map (·.1));rw[BY]at this;omega,fun x hx=>?_⟩
     obtain⟨i,hi⟩:=alR hx;obtain⟨bQ,rfl⟩:=Nf i x hi;exact⟨_,rfl,(hf i bQ).2.2.1,(hf i bQ).2.2.2.1⟩
    ·by_cases h0:len=0
     ·subst h0;exact ao.M9 (P:=P) (μ:=jf w) Qd
     ·have adi:a.spot=none:=by obtain⟨c1,c2,c3,_⟩:=hf 0 (by omega);have h1:(f 0).2[0]?=some ((f 0).2[0]'(by omega)):=AI (by omega);have:=World.cell?_spot (c2 0 _ h1);simpa[Addr.add]using this
      obtain⟨b,o,sp⟩:=a;simp only at adi;subst adi;have yB:∀i x,((List.range len).map fun i=>GB (aD P e) (f i).1)[i]?=some x→i<len∧x.cells=(f i).1:=fun i x hx=>by obtain⟨bQ,rfl⟩:=Nf i x hx;exact⟨bQ,Ve Oc (hf i bQ).2.2.2.1 (hf i bQ).2.2.1⟩
      have hX:∀i x j p,((List.range len).map fun i=>GB (aD P e) (f i).1)[i]?=some x→x.cells[j]?=some p→(f i).1[j]?=some p∧(f i).2[j]?=some ((f i).2.getD j undef):=fun i x j p hx hj=>by
       obtain⟨bQ,hc⟩:=yB i x hx;rw[hc]at hj;refine⟨hj,?_⟩;obtain⟨c1,c2,c3,_⟩:=hf i bQ;have:j<(f i).2.length:=by have:=(OF.1 hj).1;omega
       rw[AI this];simp[List.getD,this]
      have:=ao.rs (P:=P) (μ:=jf w) (sz:=aV P e) (es:=(List.range len).map fun i=>GB (aD P e) (f i).1) (b:=b) (o:=o) (cap:=cap) (fun i j=>(f i).2.getD j undef) (by rw[hlen];exact hlc) Qd (fun i x hx=>by obtain⟨bQ,hc⟩:=yB i x hx;rw[hc];exact(hf i bQ).2.2.1) (fun i x j p hx hj=>by
        obtain⟨h1,h2⟩:=hX i x j p hx hj;have h3:=(hf i (yB i x hx).1).2.1 j _ h2;have h4:=G4 h3;rw[Addr.add_mid,Addr.add_mid]at h4;exact h4)
       (fun i x j p hx hj=>by obtain⟨h1,h2⟩:=hX i x j p hx hj;exact((hf i (yB i x hx).1).2.2.2.2 j p _ h1 h2).1)
       (fun i x j p hx hj=>by obtain⟨h1,h2⟩:=hX i x j p hx hj;exact((hf i (yB i x hx).1).2.2.2.2 j p _ h1 h2).2)
      rw[hlen]at this;exact this
  ·rename_i fs hu;obtain⟨xs,n,_,hx,xJ,NH,hfs⟩:=DataW.trod_struct hu h;have xJ:cs.length=aV P t:=xJ;have key:∀(l:List Field)(off:Nat),(∀f∈l,∃y,DataW.trod enc P w 0 spare held n f.type ((cs.drop f.offset).take (aV P f.type))=some y∧(M=maxLen∨dJ y.1≤M))→uk P (wH P d) (aV P t) l off=true→∃ps,ps.length=cs.length-off∧AA P (fX M P d) l ps∧Fm P w ps (cs.drop off):=by
    intro l;induction l with
    |nil=>intro off _ gT;have:=acA gT;exact⟨[],by simp;omega,rfl,by intro i p v hp;simp at hp⟩
    |cons f l ihl=>
     intro off hf gT;simp only[uk,ale]at gT;obtain⟨⟨Uw,hpf⟩,gT⟩:=gT;have Uw:=acA Uw;obtain⟨y,hy,hyB⟩:=hf f (by simp);rw[Uw]at hy;have hle:=GC gT;obtain⟨a,a1,a2,a3⟩:=ih f.type _ n y hpf hy hyB;obtain⟨b,b1,b2,b3⟩:=ihl _ (fun g hg=>hf g (by simp[hg])) gT;have Sr:a.length=aV P f.type:=by rw[a1];simp;omega
     refine⟨a++b,by simp[Sr,b1];omega,⟨a,b,rfl,Sr,a2,b2⟩,Fm.append (n:=aV P f.type) a3 (by rw[anh];exact b3) Sr⟩
   obtain⟨ps,p1,p2,p3⟩:=key fs.toList 0 (fun f hf=>by
    obtain⟨i,hi⟩:=alR hf;have sI:fs[i]?=some f:=by rw[←al3];exact hi
    have h1:=hfs i f sI;have bQ:i<xs.length:=by have:=(alm.1 sI).1;omega
    rw[AI bQ]at h1;exact⟨_,h1,hB.imp id fun hb=>by rw[hx]at hb;simp only[dJ]at hb;have:=Ei (alC.2 ⟨_,alj bQ,rfl⟩:(xs[i]).1∈xs.map (·.1));omega⟩) hp
   exact⟨ps,by simpa using p1,by unfold fX;rw[hu];exact p2,by simpa using p3⟩
  ·rename_i n e hu;simp only[ale]at hp;obtain⟨L9,pT⟩:=hp;have pT:=acA pT;obtain⟨xs,m,_,hx,xJ,NH,hfs⟩:=DataW.trod_array hu h;have xJ:cs.length=aV P t:=xJ;have key:∀(k i:Nat),i+k=n→∃ps,ps.length=cs.length-i*aV P e∧Yj (fX M P d e) (aV P e) k ps∧Fm P w ps (cs.drop (i*aV P e)):=by
    intro k;induction k with
    |zero=>
     intro i hi;have:i=n:=by omega
     subst this;exact⟨[],by simp;omega,rfl,by intro i p v hp;simp at hp⟩
    |succ k ihk=>
     intro i hi;have h1:=hfs i (by omega);rw[AI (by omega)]at h1;obtain⟨a,a1,a2,a3⟩:=ih e _ m _ L9 h1 (hB.imp id fun hb=>by rw[hx]at hb;simp only[dJ]at hb;have:=Ei (alC.2 ⟨_,alj (show i<xs.length by omega),rfl⟩:(xs[i]'(by omega)).1∈xs.map (·.1));omega);obtain⟨b,b1,b2,b3⟩:=ihk (i+1) (by omega);have PN:i*aV P e+aV P e≤cs.length:=by rw[xJ,←pT];have:(i+1)*aV P e≤n*aV P e:=alo _ (by omega);rw[amb]at this;omega
     have Sr:a.length=aV P e:=by rw[a1];show((cs.drop (i*aV P e)).take (aV P e)).length=aV P e;simp;omega
     refine⟨a++b,by simp[Sr,b1,amb];omega,⟨a,b,rfl,Sr,a2,b2⟩,Fm.append (n:=aV P e) a3 ?_ Sr⟩;rw[anh];rw[amb,Nat.one_mul]at b3;exact b3
   obtain⟨ps,p1,p2,p3⟩:=key n 0 (by omega);exact⟨ps,by simpa using p1,by unfold fX;rw[hu];exact p2,by simpa using p3⟩
  ·cases hp
variable{places:List MemPlace}
theorem Yl{M d:Nat}{t:TypeId}{y:DataW H}{r:Reach}{b0:Nat}(hp:wH P (d+1) t=true)(gT:Value.okWide P w r b0 t v)(h:DataW.Trod enc P w 0 spare held t v y places)(hB:M=maxLen∨dJ y≤M):∃ps,fX M P (d+1) t ps∧ao P (jf w) (GB (aD P t) ps) v:=by
 obtain⟨fuel,hf⟩:=h;obtain⟨ps,p1,p2,p3⟩:=Yk (M:=M) (d+1) t _ fuel _ hp hf hB;refine⟨ps,p2,?_⟩;have agg:aD P t=true→(∃cs,v=.agg cs)→ao P (jf w) (GB (aD P t) ps) v:=by
  rintro ha ⟨cs,rfl⟩;rw[ha];simp only[Value.cells]at p1 p3;exact .agg (by simpa using p1) (fun i p x hi hx=>(p3 i p x hi (by rw[al3];exact hx)).1) fun i x hx=>by
   have bQ:i<ps.length:=by have:=(alm.1 hx).1;simp at p1;omega
   exact(p3 i _ x (AI bQ) (by rw[al3];exact hx)).2
 have one:aD P t=false→v.cells= #[v]→(∃p,ps=[p])→ao P (jf w) (GB (aD P t) ps) v:=by rintro ha hv ⟨p,rfl⟩;rw[ha];exact(p3 0 p v rfl (by rw[hv];rfl)).1
 unfold wH at hp;unfold fX at p2;split at hp
 ·rename_i hu;rw[hu]at p2;obtain⟨b,hb⟩:=WideShapes.okWide_bool hu gT;subst hb;obtain⟨b',je⟩:=p2;exact one (by simp[aD,hu]) rfl ⟨_,je⟩
 ·rename_i k hu;rw[hu]at p2;obtain⟨b,hb⟩:=WideShapes.okWide_int hu gT;subst hb;obtain⟨b',je,_⟩:=p2;exact one (by simp[aD,hu]) rfl ⟨_,je⟩
 ·rename_i hu;rw[hu]at p2;obtain⟨b,hb⟩:=WideShapes.okWide_string hu gT;subst hb;obtain⟨b',je,_⟩:=p2;exact one (by simp[aD,hu]) rfl ⟨_,je⟩
 ·rename_i e hu;rw[hu]at p2;obtain⟨a,len,cap,hb⟩:=WideShapes.okWide_slice hu gT;subst hb;obtain⟨b',je,_⟩:=p2;exact one (by simp[aD,hu]) rfl ⟨_,je⟩
 ·rename_i fs hu;refine agg (by simp[aD,hu]) ?_;simp only[Value.okWide,hu]at gT;obtain⟨cs,JZ,_⟩:=gT;exact⟨cs,JZ⟩
 ·rename_i n e hu;refine agg (by simp[aD,hu]) ?_;simp only[Value.okWide,hu]at gT;obtain⟨cs,JZ,_⟩:=gT;exact⟨cs,JZ⟩
 ·cases hp
theorem abS{d:Nat}{t:TypeId}{y:DataW H}{r:Reach}{b0:Nat}(hp:wH P (d+1) t=true)(gT:Value.okWide P w r b0 t v)(h:DataW.Trod enc P w 0 spare held t v y places):∃ps,Shp P (d+1) t ps∧ao P (jf w) (GB (aD P t) ps) v:=Yl hp gT h (.inl rfl)
end
end Go.Ab
