import Derived.Test.YtcmhmlnkhmefbaaGreatAbSeat
import Derived.WalkKit
import Derived.ProofKit
import Derived.OpenShut
import Derived.ShutString
import Derived.ChangeOld
set_option linter.unusedVariables false
namespace Go.Ab
open Go.RowKit (Below)
def Av(agg:Bool)(qs:List PV):PV:=match agg with
 |true=>.agg qs
 |false=>qs.getD 0 .bad
def oJ(P:Program)(ok:TypeId→Bool)(size:Nat):List Field→Nat→Bool
 |[],off=>Nat.beq off size
 |f::r,off=>Nat.beq f.offset off&&ok f.type&&oJ P ok size r (off+aS P f.type)
def oK(P:Program):Nat→TypeId→Bool
 |0,_=>false
 |d+1,t=>match P.underlying t with
  |some .bool=>true
  |some (.int _)=>true
  |some .string=>true
  |some (.slice e)=>oK P d e&&Nat.blt 0 (aS P e)&&(aD P e||Nat.beq (aS P e) 1)
  |some (.struct fs)=>oJ P (oK P d) (aS P t) fs.toList 0
  |some (.array n e)=>oK P d e&&Nat.beq (n*aS P e) (aS P t)
  |_=>false
def xf(P:Program)(shp:TypeId→List PV→Prop):List Field→List PV→Prop
 |[],ps=>ps=[]
 |f::r,ps=>∃a b,ps=a++b∧a.length=aS P f.type∧shp f.type a∧xf P shp r b
def XL(shp:List PV→Prop)(c:Nat):Nat→List PV→Prop
 |0,ps=>ps=[]
 |n+1,ps=>∃a b,ps=a++b∧a.length=c∧shp a∧XL shp c n b
mutual
def dI{H:Type}:DataW H→Nat
 |.lit (.string b)=>b.length+1
 |.slice es _=>G0 es+1
 |.agg ps=>G0 ps+1
 |_=>1
def G0{H:Type}:List (DataW H)→Nat
 |[]=>0
 |d::r=>dI d+G0 r
end
theorem UM{H:Type}(d:DataW H):1≤dI d:=by
 cases d with
 |lit l=>cases l<;>simp[dI]
 |_=>simp[dI]
theorem xg{H:Type}:∀{l:List (DataW H)}{d:DataW H},d∈l→dI d≤G0 l
 |x::r,d,h=>by
  simp only[G0];rcases List.mem_cons.1 h with rfl|h
  ·omega
  ·have:=xg h;omega
theorem G1{H:Type}:∀(l:List (DataW H)),l.length≤G0 l
 |[]=>by simp[G0]
 |x::r=>by have:=G1 r;have:=UM x;simp only[G0,List.length_cons];omega
def ga(M:Nat)(P:Program):Nat→TypeId→List PV→Prop
 |0,_,_=>False
 |d+1,t,ps=>match P.underlying t with
  |some .bool=>∃b,ps=[.bool b]
  |some (.int k)=>∃n,ps=[.int k n]∧(Lit.int k n).wf=true
  |some .string=>∃s:Bytes,ps=[.str s]∧s.length≤M
  |some (.slice e)=>∃es,ps=[.rs (aS P e) es]∧es.length≤M∧∀x∈es,∃qs,x=Av (aD P e) qs∧qs.length=aS P e∧ga M P d e qs
  |some (.struct fs)=>xf P (ga M P d) fs.toList ps
  |some (.array n e)=>XL (ga M P d e) (aS P e) n ps
  |_=>False
abbrev Shp(P:Program):Nat→TypeId→List PV→Prop:=ga maxLen P
def yy(P:Program)(w:World)(ps:List PV)(cs:List Value):Prop:=∀(i:Nat)p v,ps[i]?=some p→cs[i]?=some v→aj P (iL w) p v∧v.oneCell'=true
variable{P:Program}
theorem yy.one{w:World}{p:PV}{v:Value}(h:aj P (iL w) p v)(h1:v.oneCell'=true):yy P w [p] [v]:=by
 intro i q u hq hu;cases i with
 |zero=>simp at hq hu;subst hq;subst hu;exact⟨h,h1⟩
 |succ i=>simp at hq
theorem yy.append{w:World}{a b:List PV}{cs:List Value}{n:Nat}(ha:yy P w a (cs.take n))(hb:yy P w b (cs.drop n))(hl:a.length=n):yy P w (a++b) cs:=by
 intro i p v hp hv;rw[List.getElem?_append]at hp;split at hp
 ·rename_i h;exact ha i p v hp (by rw[List.getElem?_take_of_lt (by omega)];exact hv)
 ·rename_i h;exact hb (i-a.length) p v hp (by rw[List.getElem?_drop,hl];rw[←hv];congr 1;omega)
theorem OO{M d:Nat}{e:TypeId}{qs:List PV}(ha:aD P e=true∨aS P e=1)(h:ga M P d e qs)(hl:qs.length=aS P e):(Av (aD P e) qs).cells=qs:=by
 cases Ae:aD P e with
 |true=>rfl
 |false=>
  have h1:aS P e=1:=ha.resolve_left (by simp[Ae]);cases d with
  |zero=>exact h.elim
  |succ d=>
   unfold ga at h;unfold aD at Ae;split at h
   ·obtain⟨b,rfl⟩:=h;rfl
   ·obtain⟨n,rfl,_⟩:=h;rfl
   ·obtain⟨s,rfl,_⟩:=h;rfl
   ·obtain⟨es,rfl,_⟩:=h;rfl
   ·rename_i hu;rw[hu]at Ae;cases Ae
   ·rename_i hu;rw[hu]at Ae;cases Ae
   ·exact h.elim
section
variable {P:Program} {w:World} {H:Type} {enc:TypeId×Value→H} {spare:Nat→Bool} {held:Bool}
theorem zu{ok:TypeId→Bool}{size:Nat}:∀{fs:List Field}{off:Nat},oJ P ok size fs off=true→off≤size
 |[],off,h=>by simp only[oJ]at h;have:=Nat.eq_of_beq_eq_true h;omega
 |f::r,off,h=>by simp only[oJ,Bool.and_eq_true]at h;have:=zu h.2;omega
theorem OP{base:Nat}{a:Addr}{n:Nat}{cs:List Value}(h:w.cells? base a n=some cs):cs.length=n∧∀i v,cs[i]?=some v→w.cell? (a.add i)=some v:=by
 unfold World.cells? at h;split at h
 ·have key:∀(l:List Nat)(cs:List Value),l.mapM (fun i=>w.cell? (a.add i))=some cs→cs.length=l.length∧∀(i:Nat)(v:Value)(k:Nat),cs[i]?=some v→l[i]?=some k→w.cell? (a.add k)=some v:=by
   intro l;induction l with
   |nil=>intro cs h;simp at h;subst h;simp
   |cons x l ih=>
    intro cs h;rw[List.mapM_cons]at h;simp only[Option.pure_def,Option.bind_eq_bind,Option.bind_eq_some_iff]at h;obtain⟨v,hv,vs,hvs,h⟩:=h;simp only[Option.some.injEq]at h;subst h;obtain⟨h1,h2⟩:=ih vs hvs;refine⟨by simp[h1],fun i u k hi hk=>?_⟩;cases i with
    |zero=>simp at hi hk;subst hi;subst hk;exact hv
    |succ i=>exact h2 i u k (by simpa using hi) (by simpa using hk)
  obtain⟨h1,h2⟩:=key _ _ h;simp at h1;refine⟨h1,fun i v hi=>h2 i v i hi ?_⟩;exact List.getElem?_range (by have:=(List.getElem?_eq_some_iff.1 hi).1;omega)
 ·cases h
variable{v:Value}
theorem Af{a:Addr}(h:w.cell? a=some v):cellAt (iL w) a.block a.off=some v:=by
 unfold World.cell? at h;unfold cellAt iL;split at h
 ·rename_i hb;split at h
  ·cases h
  ·rw[hb];exact h
 ·cases h
theorem RF{M:Nat}:∀(d:Nat)(t:TypeId)(cs:List Value)(fuel:Nat)(x:DataW H×List MemPlace),oK P d t=true→DataW.trod enc P w 0 spare held fuel t cs=some x→(M=maxLen∨dI x.1≤M)→∃ps,ps.length=cs.length∧ga M P d t ps∧yy P w ps cs:=by
 intro d;induction d with
 |zero=>intro t cs fuel x h;cases h
 |succ d ih=>
  intro t cs fuel x hp h hB;unfold oK at hp;split at hp
  ·rename_i hu;obtain⟨b,rfl,_⟩:=DataW.trod_bool hu h;exact⟨[.bool b],rfl,by unfold ga;rw[hu];exact⟨b,rfl⟩,.one .bool rfl⟩
  ·rename_i k hu;obtain⟨n,rfl,_,hw⟩:=DataW.trod_int hu h;exact⟨[.int k n],rfl,by unfold ga;rw[hu];exact⟨n,rfl,hw⟩,.one (.int hw) rfl⟩
  ·rename_i hu;obtain⟨s,rfl,hx,hw⟩:=DataW.trod_string hu h;have hlen:s.data.toList.length≤M:=by
    rcases hB with hB|hB
    ·subst hB;simpa using hw
    ·rw[hx]at hB;simp only[dI]at hB;omega
   refine⟨[.str s.data.toList],rfl,by unfold ga;rw[hu];exact⟨_,rfl,hlen⟩,.one ?_ rfl⟩;exact aj.str (P:=P) (μ:=iL w) (s:=s.data.toList) (by simpa using hw)
  ·rename_i e hu;simp only[Bool.and_eq_true,Bool.or_eq_true]at hp;obtain⟨⟨CP,eo⟩,Ae⟩:=hp;rw[Nat.blt_eq]at eo;have Ae:aD P e=true∨aS P e=1:=Ae.imp id Nat.eq_of_beq_eq_true;rcases DataW.trod_slice hu h with⟨rfl,_⟩|⟨a,len,cap,elems,rest,n,_,rfl,hx,_,ZN,QF,yb,eI,_⟩
   ·exact⟨[.rs (aS P e) []],rfl,by unfold ga;rw[hu];exact⟨[],rfl,by simp,by simp⟩,.one .jl rfl⟩
   ·have each:∀i,i<len→∃qs ci,ci.length=aS P e∧(∀j v,ci[j]?=some v→w.cell? ((a.add (i*aS P e)).add j)=some v)∧qs.length=aS P e∧ga M P d e qs∧yy P w qs ci:=by intro i hi;have h1:=eI i hi;rw[List.getElem?_eq_getElem (by omega)]at h1;obtain⟨ci,hci,htr⟩:=Option.bind_eq_some_iff.1 h1;obtain⟨c1,c2⟩:=OP hci;obtain⟨qs,q1,q2,q3⟩:=ih e ci n _ CP htr (hB.imp id fun hb=>by rw[hx]at hb;simp only[dI]at hb;have:=xg (List.mem_map.2 ⟨_,List.getElem_mem (show i<elems.length by omega),rfl⟩:(elems[i]'(by omega)).1∈elems.map (·.1));omega);exact⟨qs,ci,c1,c2,by rw[q1,c1];rfl,q2,q3⟩
    have hch:∃f:Nat→List PV×List Value,∀i,i<len→(f i).2.length=aS P e∧(∀j v,(f i).2[j]?=some v→w.cell? ((a.add (i*aS P e)).add j)=some v)∧(f i).1.length=aS P e∧ga M P d e (f i).1∧yy P w (f i).1 (f i).2:=by refine⟨fun i=>if h:i<len then((each i h).choose,(each i h).choose_spec.choose)else([],[]),fun i hi=>?_⟩;simp only[dif_pos hi];exact(each i hi).choose_spec.choose_spec
    obtain⟨f,hf⟩:=hch;have CG:∀i x,((List.range len).map fun i=>Av (aD P e) (f i).1)[i]?=some x→i<len∧x=Av (aD P e) (f i).1:=fun i x hx=>by
     rw[List.getElem?_map]at hx;obtain⟨k,hk,rfl⟩:=Option.map_eq_some_iff.1 hx;have br:i<len:=by have:=(List.getElem?_eq_some_iff.1 hk).1;simpa using this
     rw[List.getElem?_range br]at hk;simp at hk;subst hk;exact⟨br,rfl⟩
    have hlen:((List.range len).map fun i=>Av (aD P e) (f i).1).length=len:=by simp
    refine⟨[.rs (aS P e) ((List.range len).map fun i=>Av (aD P e) (f i).1)],rfl,?_,.one ?_ rfl⟩
    ·unfold ga;rw[hu];refine⟨_,rfl,by
      rw[hlen];rcases hB with hB|hB
      ·omega
      ·rw[hx]at hB;simp only[dI]at hB;have:=G1 (elems.map (·.1));rw[List.length_map]at this;omega,fun x hx=>?_⟩
     obtain⟨i,hi⟩:=List.getElem?_of_mem hx;obtain⟨br,rfl⟩:=CG i x hi;exact⟨_,rfl,(hf i br).2.2.1,(hf i br).2.2.2.1⟩
    ·by_cases h0:len=0
     ·subst h0;exact aj.FX (P:=P) (μ:=iL w) QF
     ·have Wc:a.spot=none:=by obtain⟨c1,c2,c3,_⟩:=hf 0 (by omega);have h1:(f 0).2[0]?=some ((f 0).2[0]'(by omega)):=List.getElem?_eq_getElem (by omega);have:=World.cell?_spot (c2 0 _ h1);simpa[Addr.add]using this
      obtain⟨b,o,sp⟩:=a;simp only at Wc;subst Wc;have rY:∀i x,((List.range len).map fun i=>Av (aD P e) (f i).1)[i]?=some x→i<len∧x.cells=(f i).1:=fun i x hx=>by obtain⟨br,rfl⟩:=CG i x hx;exact⟨br,OO Ae (hf i br).2.2.2.1 (hf i br).2.2.1⟩
      have hX:∀i x j p,((List.range len).map fun i=>Av (aD P e) (f i).1)[i]?=some x→x.cells[j]?=some p→(f i).1[j]?=some p∧(f i).2[j]?=some ((f i).2.getD j undef):=fun i x j p hx hj=>by
       obtain⟨br,hc⟩:=rY i x hx;rw[hc]at hj;refine⟨hj,?_⟩;obtain⟨c1,c2,c3,_⟩:=hf i br;have:j<(f i).2.length:=by have:=(List.getElem?_eq_some_iff.1 hj).1;omega
       rw[List.getElem?_eq_getElem this];simp[List.getD,this]
      have:=aj.rs (P:=P) (μ:=iL w) (sz:=aS P e) (es:=(List.range len).map fun i=>Av (aD P e) (f i).1) (b:=b) (o:=o) (cap:=cap) (fun i j=>(f i).2.getD j undef) (by rw[hlen];exact ZN) QF (fun i x hx=>by obtain⟨br,hc⟩:=rY i x hx;rw[hc];exact(hf i br).2.2.1) (fun i x j p hx hj=>by
        obtain⟨h1,h2⟩:=hX i x j p hx hj;have h3:=(hf i (rY i x hx).1).2.1 j _ h2;have h4:=Af h3;rw[Addr.add_mid,Addr.add_mid]at h4;exact h4)
       (fun i x j p hx hj=>by obtain⟨h1,h2⟩:=hX i x j p hx hj;exact((hf i (rY i x hx).1).2.2.2.2 j p _ h1 h2).1)
       (fun i x j p hx hj=>by obtain⟨h1,h2⟩:=hX i x j p hx hj;exact((hf i (rY i x hx).1).2.2.2.2 j p _ h1 h2).2)
      rw[hlen]at this;exact this
  ·rename_i fs hu;obtain⟨xs,n,_,hx,sF,Dp,Xq⟩:=DataW.trod_struct hu h;have sF:cs.length=aS P t:=sF;have key:∀(l:List Field)(off:Nat),(∀f∈l,∃y,DataW.trod enc P w 0 spare held n f.type ((cs.drop f.offset).take (aS P f.type))=some y∧(M=maxLen∨dI y.1≤M))→oJ P (oK P d) (aS P t) l off=true→∃ps,ps.length=cs.length-off∧xf P (ga M P d) l ps∧yy P w ps (cs.drop off):=by
    intro l;induction l with
    |nil=>intro off _ wB;have:=Nat.eq_of_beq_eq_true wB;exact⟨[],by simp;omega,rfl,by intro i p v hp;simp at hp⟩
    |cons f l ihl=>
     intro off hf wB;simp only[oJ,Bool.and_eq_true]at wB;obtain⟨⟨N0,hpf⟩,wB⟩:=wB;have N0:=Nat.eq_of_beq_eq_true N0;obtain⟨y,hy,hyB⟩:=hf f (by simp);rw[N0]at hy;have hle:=zu wB;obtain⟨a,a1,a2,a3⟩:=ih f.type _ n y hpf hy hyB;obtain⟨b,b1,b2,b3⟩:=ihl _ (fun g hg=>hf g (by simp[hg])) wB;have Oa:a.length=aS P f.type:=by rw[a1];simp;omega
     refine⟨a++b,by simp[Oa,b1];omega,⟨a,b,rfl,Oa,a2,b2⟩,yy.append (n:=aS P f.type) a3 (by rw[List.drop_drop];exact b3) Oa⟩
   obtain⟨ps,p1,p2,p3⟩:=key fs.toList 0 (fun f hf=>by
    obtain⟨i,hi⟩:=List.getElem?_of_mem hf;have mW:fs[i]?=some f:=by rw[←Array.getElem?_toList];exact hi
    have h1:=Xq i f mW;have br:i<xs.length:=by have:=(Array.getElem?_eq_some_iff.1 mW).1;omega
    rw[List.getElem?_eq_getElem br]at h1;exact⟨_,h1,hB.imp id fun hb=>by rw[hx]at hb;simp only[dI]at hb;have:=xg (List.mem_map.2 ⟨_,List.getElem_mem br,rfl⟩:(xs[i]).1∈xs.map (·.1));omega⟩) hp
   exact⟨ps,by simpa using p1,by unfold ga;rw[hu];exact p2,by simpa using p3⟩
  ·rename_i n e hu;simp only[Bool.and_eq_true]at hp;obtain⟨CP,kM⟩:=hp;have kM:=Nat.eq_of_beq_eq_true kM;obtain⟨xs,m,_,hx,sF,Dp,Xq⟩:=DataW.trod_array hu h;have sF:cs.length=aS P t:=sF;have key:∀(k i:Nat),i+k=n→∃ps,ps.length=cs.length-i*aS P e∧XL (ga M P d e) (aS P e) k ps∧yy P w ps (cs.drop (i*aS P e)):=by
    intro k;induction k with
    |zero=>
     intro i hi;have:i=n:=by omega
     subst this;exact⟨[],by simp;omega,rfl,by intro i p v hp;simp at hp⟩
    |succ k W4=>
     intro i hi;have h1:=Xq i (by omega);rw[List.getElem?_eq_getElem (by omega)]at h1;obtain⟨a,a1,a2,a3⟩:=ih e _ m _ CP h1 (hB.imp id fun hb=>by rw[hx]at hb;simp only[dI]at hb;have:=xg (List.mem_map.2 ⟨_,List.getElem_mem (show i<xs.length by omega),rfl⟩:(xs[i]'(by omega)).1∈xs.map (·.1));omega);obtain⟨b,b1,b2,b3⟩:=W4 (i+1) (by omega);have Eu:i*aS P e+aS P e≤cs.length:=by rw[sF,←kM];have:(i+1)*aS P e≤n*aS P e:=Nat.mul_le_mul_right _ (by omega);rw[Nat.add_mul]at this;omega
     have Oa:a.length=aS P e:=by rw[a1];show((cs.drop (i*aS P e)).take (aS P e)).length=aS P e;simp;omega
     refine⟨a++b,by simp[Oa,b1,Nat.add_mul];omega,⟨a,b,rfl,Oa,a2,b2⟩,yy.append (n:=aS P e) a3 ?_ Oa⟩;rw[List.drop_drop];rw[Nat.add_mul,Nat.one_mul]at b3;exact b3
   obtain⟨ps,p1,p2,p3⟩:=key n 0 (by omega);exact⟨ps,by simpa using p1,by unfold ga;rw[hu];exact p2,by simpa using p3⟩
  ·cases hp
variable{places:List MemPlace}
theorem RG{M d:Nat}{t:TypeId}{y:DataW H}{r:Reach}{b0:Nat}(hp:oK P (d+1) t=true)(wB:Value.okWide P w r b0 t v)(h:DataW.Trod enc P w 0 spare held t v y places)(hB:M=maxLen∨dI y≤M):∃ps,ga M P (d+1) t ps∧aj P (iL w) (Av (aD P t) ps) v:=by
 obtain⟨fuel,hf⟩:=h;obtain⟨ps,p1,p2,p3⟩:=RF (M:=M) (d+1) t _ fuel _ hp hf hB;refine⟨ps,p2,?_⟩;have agg:aD P t=true→(∃cs,v=.agg cs)→aj P (iL w) (Av (aD P t) ps) v:=by
  rintro ha ⟨cs,rfl⟩;rw[ha];simp only[Value.cells]at p1 p3;exact .agg (by simpa using p1) (fun i p x hi hx=>(p3 i p x hi (by rw[Array.getElem?_toList];exact hx)).1) fun i x hx=>by
   have br:i<ps.length:=by have:=(Array.getElem?_eq_some_iff.1 hx).1;simp at p1;omega
   exact(p3 i _ x (List.getElem?_eq_getElem br) (by rw[Array.getElem?_toList];exact hx)).2
 have one:aD P t=false→v.cells= #[v]→(∃p,ps=[p])→aj P (iL w) (Av (aD P t) ps) v:=by rintro ha hv ⟨p,rfl⟩;rw[ha];exact(p3 0 p v rfl (by rw[hv];rfl)).1
 unfold oK at hp;unfold ga at p2;split at hp
 ·rename_i hu;rw[hu]at p2;obtain⟨b,hb⟩:=WideShapes.okWide_bool hu wB;subst hb;obtain⟨b',fQ⟩:=p2;exact one (by simp[aD,hu]) rfl ⟨_,fQ⟩
 ·rename_i k hu;rw[hu]at p2;obtain⟨b,hb⟩:=WideShapes.okWide_int hu wB;subst hb;obtain⟨b',fQ,_⟩:=p2;exact one (by simp[aD,hu]) rfl ⟨_,fQ⟩
 ·rename_i hu;rw[hu]at p2;obtain⟨b,hb⟩:=WideShapes.okWide_string hu wB;subst hb;obtain⟨b',fQ,_⟩:=p2;exact one (by simp[aD,hu]) rfl ⟨_,fQ⟩
 ·rename_i e hu;rw[hu]at p2;obtain⟨a,len,cap,hb⟩:=WideShapes.okWide_slice hu wB;subst hb;obtain⟨b',fQ,_⟩:=p2;exact one (by simp[aD,hu]) rfl ⟨_,fQ⟩
 ·rename_i fs hu;refine agg (by simp[aD,hu]) ?_;simp only[Value.okWide,hu]at wB;obtain⟨cs,IG,_⟩:=wB;exact⟨cs,IG⟩
 ·rename_i n e hu;refine agg (by simp[aD,hu]) ?_;simp only[Value.okWide,hu]at wB;obtain⟨cs,IG,_⟩:=wB;exact⟨cs,IG⟩
 ·cases hp
theorem EN{d:Nat}{t:TypeId}{y:DataW H}{r:Reach}{b0:Nat}(hp:oK P (d+1) t=true)(wB:Value.okWide P w r b0 t v)(h:DataW.Trod enc P w 0 spare held t v y places):∃ps,Shp P (d+1) t ps∧aj P (iL w) (Av (aD P t) ps) v:=RG hp wB h (.inl rfl)
end
end Go.Ab
