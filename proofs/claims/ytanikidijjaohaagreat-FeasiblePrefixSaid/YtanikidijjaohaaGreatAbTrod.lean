import Derived.Test.YtanikidijjaohaaGreatAbSeat
import Derived.WalkKit
import Derived.ProofKit
import Derived.OpenShut
import Derived.ShutString
import Derived.ChangeOld
set_option linter.unusedVariables false
namespace Go.Ab
open Go.RowKit (Below)
def AX(agg:Bool)(qs:List PV):PV:=match agg with
 |true=>.agg qs
 |false=>qs.getD 0 .bad
def qJ(P:Program)(ok:TypeId→Bool)(size:Nat):List Field→Nat→Bool
 |[],off=>Nat.beq off size
 |f::r,off=>Nat.beq f.offset off&&ok f.type&&qJ P ok size r (off+aP P f.type)
def fN(P:Program):Nat→TypeId→Bool
 |0,_=>false
 |d+1,t=>match P.underlying t with
  |some .bool=>true
  |some (.int _)=>true
  |some .string=>true
  |some (.slice e)=>fN P d e&&Nat.blt 0 (aP P e)&&(ao P e||Nat.beq (aP P e) 1)
  |some (.struct fs)=>qJ P (fN P d) (aP P t) fs.toList 0
  |some (.array n e)=>fN P d e&&Nat.beq (n*aP P e) (aP P t)
  |_=>false
def xh(P:Program)(shp:TypeId→List PV→Prop):List Field→List PV→Prop
 |[],ps=>ps=[]
 |f::r,ps=>∃a b,ps=a++b∧a.length=aP P f.type∧shp f.type a∧xh P shp r b
def aaF(shp:List PV→Prop)(c:Nat):Nat→List PV→Prop
 |0,ps=>ps=[]
 |n+1,ps=>∃a b,ps=a++b∧a.length=c∧shp a∧aaF shp c n b
mutual
def dy{H:Type}:DataW H→Nat
 |.lit (.string b)=>b.length+1
 |.slice es _=>JV es+1
 |.agg ps=>JV ps+1
 |_=>1
def JV{H:Type}:List (DataW H)→Nat
 |[]=>0
 |d::r=>dy d+JV r
end
theorem XJ{H:Type}(d:DataW H):1≤dy d:=by
 cases d with
 |lit l=>cases l<;>simp[dy]
 |_=>simp[dy]
theorem zG{H:Type}:∀{l:List (DataW H)}{d:DataW H},d∈l→dy d≤JV l
 |x::r,d,h=>by
  simp only[JV];rcases List.mem_cons.1 h with rfl|h
  ·omega
  ·have:=zG h;omega
theorem JW{H:Type}:∀(l:List (DataW H)),l.length≤JV l
 |[]=>by simp[JV]
 |x::r=>by have:=JW r;have:=XJ x;simp only[JV,List.length_cons];omega
def gd(M:Nat)(P:Program):Nat→TypeId→List PV→Prop
 |0,_,_=>False
 |d+1,t,ps=>match P.underlying t with
  |some .bool=>∃b,ps=[.bool b]
  |some (.int k)=>∃n,ps=[.int k n]∧(Lit.int k n).wf=true
  |some .string=>∃s:Bytes,ps=[.str s]∧s.length≤M
  |some (.slice e)=>∃es,ps=[.rs (aP P e) es]∧es.length≤M∧∀x∈es,∃qs,x=AX (ao P e) qs∧qs.length=aP P e∧gd M P d e qs
  |some (.struct fs)=>xh P (gd M P d) fs.toList ps
  |some (.array n e)=>aaF (gd M P d e) (aP P e) n ps
  |_=>False
abbrev Shp(P:Program):Nat→TypeId→List PV→Prop:=gd maxLen P
def AY(P:Program)(w:World)(ps:List PV)(cs:List Value):Prop:=∀(i:Nat)p v,ps[i]?=some p→cs[i]?=some v→af P (e9 w) p v∧v.oneCell'=true
variable{P:Program}
theorem AY.one{w:World}{p:PV}{v:Value}(h:af P (e9 w) p v)(h1:v.oneCell'=true):AY P w [p] [v]:=by
 intro i q u hq hu;cases i with
 |zero=>simp at hq hu;subst hq;subst hu;exact⟨h,h1⟩
 |succ i=>simp at hq
theorem AY.append{w:World}{a b:List PV}{cs:List Value}{n:Nat}(ha:AY P w a (cs.take n))(hb:AY P w b (cs.drop n))(hl:a.length=n):AY P w (a++b) cs:=by
 intro i p v hp hv;rw[List.getElem?_append]at hp;split at hp
 ·rename_i h;exact ha i p v hp (by rw[List.getElem?_take_of_lt (by omega)];exact hv)
 ·rename_i h;exact hb (i-a.length) p v hp (by rw[List.getElem?_drop,hl];rw[←hv];congr 1;omega)
theorem Sg{M d:Nat}{e:TypeId}{qs:List PV}(ha:ao P e=true∨aP P e=1)(h:gd M P d e qs)(hl:qs.length=aP P e):(AX (ao P e) qs).cells=qs:=by
 cases Cp:ao P e with
 |true=>rfl
 |false=>
  have h1:aP P e=1:=ha.resolve_left (by simp[Cp]);cases d with
  |zero=>exact h.elim
  |succ d=>
   unfold gd at h;unfold ao at Cp;split at h
   ·obtain⟨b,rfl⟩:=h;rfl
   ·obtain⟨n,rfl,_⟩:=h;rfl
   ·obtain⟨s,rfl,_⟩:=h;rfl
   ·obtain⟨es,rfl,_⟩:=h;rfl
   ·rename_i hu;rw[hu]at Cp;cases Cp
   ·rename_i hu;rw[hu]at Cp;cases Cp
   ·exact h.elim
section
variable {P:Program} {w:World} {H:Type} {enc:TypeId×Value→H} {spare:Nat→Bool} {held:Bool}
theorem B1{ok:TypeId→Bool}{size:Nat}:∀{fs:List Field}{off:Nat},qJ P ok size fs off=true→off≤size
 |[],off,h=>by simp only[qJ]at h;have:=Nat.eq_of_beq_eq_true h;omega
 |f::r,off,h=>by simp only[qJ,Bool.and_eq_true]at h;have:=B1 h.2;omega
theorem Si{base:Nat}{a:Addr}{n:Nat}{cs:List Value}(h:w.cells? base a n=some cs):cs.length=n∧∀i v,cs[i]?=some v→w.cell? (a.add i)=some v:=by
 unfold World.cells? at h;split at h
 ·have key:∀(l:List Nat)(cs:List Value),l.mapM (fun i=>w.cell? (a.add i))=some cs→cs.length=l.length∧∀(i:Nat)(v:Value)(k:Nat),cs[i]?=some v→l[i]?=some k→w.cell? (a.add k)=some v:=by
   intro l;induction l with
   |nil=>intro cs h;simp at h;subst h;simp
   |cons x l ih=>
    intro cs h;rw[List.mapM_cons]at h;simp only[Option.pure_def,Option.bind_eq_bind,Option.bind_eq_some_iff]at h;obtain⟨v,hv,vs,hvs,h⟩:=h;simp only[Option.some.injEq]at h;subst h;obtain⟨h1,h2⟩:=ih vs hvs;refine⟨by simp[h1],fun i u k hi hk=>?_⟩;cases i with
    |zero=>simp at hi hk;subst hi;subst hk;exact hv
    |succ i=>exact h2 i u k (by simpa using hi) (by simpa using hk)
  obtain⟨h1,h2⟩:=key _ _ h;simp at h1;refine⟨h1,fun i v hi=>h2 i v i hi ?_⟩;exact List.getElem?_range (by have:=(List.getElem?_eq_some_iff.1 hi).1;omega)
 ·cases h
variable{v:Value}
theorem Cq{a:Addr}(h:w.cell? a=some v):cellAt (e9 w) a.block a.off=some v:=by
 unfold World.cell? at h;unfold cellAt e9;split at h
 ·rename_i hb;split at h
  ·cases h
  ·rw[hb];exact h
 ·cases h
theorem U2{M:Nat}:∀(d:Nat)(t:TypeId)(cs:List Value)(fuel:Nat)(x:DataW H×List MemPlace),fN P d t=true→DataW.trod enc P w 0 spare held fuel t cs=some x→(M=maxLen∨dy x.1≤M)→∃ps,ps.length=cs.length∧gd M P d t ps∧AY P w ps cs:=by
 intro d;induction d with
 |zero=>intro t cs fuel x h;cases h
 |succ d ih=>
  intro t cs fuel x hp h hB;unfold fN at hp;split at hp
  ·rename_i hu;obtain⟨b,rfl,_⟩:=DataW.trod_bool hu h;exact⟨[.bool b],rfl,by unfold gd;rw[hu];exact⟨b,rfl⟩,.one .bool rfl⟩
  ·rename_i k hu;obtain⟨n,rfl,_,hw⟩:=DataW.trod_int hu h;exact⟨[.int k n],rfl,by unfold gd;rw[hu];exact⟨n,rfl,hw⟩,.one (.int hw) rfl⟩
  ·rename_i hu;obtain⟨s,rfl,hx,hw⟩:=DataW.trod_string hu h;have hlen:s.data.toList.length≤M:=by
    rcases hB with hB|hB
    ·subst hB;simpa using hw
    ·rw[hx]at hB;simp only[dy]at hB;omega
   refine⟨[.str s.data.toList],rfl,by unfold gd;rw[hu];exact⟨_,rfl,hlen⟩,.one ?_ rfl⟩;exact af.str (P:=P) (μ:=e9 w) (s:=s.data.toList) (by simpa using hw)
  ·rename_i e hu;simp only[Bool.and_eq_true,Bool.or_eq_true]at hp;obtain⟨⟨Fs,ec⟩,Cp⟩:=hp;rw[Nat.blt_eq]at ec;have Cp:ao P e=true∨aP P e=1:=Cp.imp id Nat.eq_of_beq_eq_true;rcases DataW.trod_slice hu h with⟨rfl,_⟩|⟨a,len,cap,elems,rest,n,_,rfl,hx,_,hlc,TX,AG,er,_⟩
   ·exact⟨[.rs (aP P e) []],rfl,by unfold gd;rw[hu];exact⟨[],rfl,by simp,by simp⟩,.one .kE rfl⟩
   ·have each:∀i,i<len→∃qs ci,ci.length=aP P e∧(∀j v,ci[j]?=some v→w.cell? ((a.add (i*aP P e)).add j)=some v)∧qs.length=aP P e∧gd M P d e qs∧AY P w qs ci:=by intro i hi;have h1:=er i hi;rw[List.getElem?_eq_getElem (by omega)]at h1;obtain⟨ci,hci,htr⟩:=Option.bind_eq_some_iff.1 h1;obtain⟨c1,c2⟩:=Si hci;obtain⟨qs,q1,q2,q3⟩:=ih e ci n _ Fs htr (hB.imp id fun hb=>by rw[hx]at hb;simp only[dy]at hb;have:=zG (List.mem_map.2 ⟨_,List.getElem_mem (show i<elems.length by omega),rfl⟩:(elems[i]'(by omega)).1∈elems.map (·.1));omega);exact⟨qs,ci,c1,c2,by rw[q1,c1];rfl,q2,q3⟩
    have hch:∃f:Nat→List PV×List Value,∀i,i<len→(f i).2.length=aP P e∧(∀j v,(f i).2[j]?=some v→w.cell? ((a.add (i*aP P e)).add j)=some v)∧(f i).1.length=aP P e∧gd M P d e (f i).1∧AY P w (f i).1 (f i).2:=by refine⟨fun i=>if h:i<len then((each i h).choose,(each i h).choose_spec.choose)else([],[]),fun i hi=>?_⟩;simp only[dif_pos hi];exact(each i hi).choose_spec.choose_spec
    obtain⟨f,hf⟩:=hch;have Ff:∀i x,((List.range len).map fun i=>AX (ao P e) (f i).1)[i]?=some x→i<len∧x=AX (ao P e) (f i).1:=fun i x hx=>by
     rw[List.getElem?_map]at hx;obtain⟨k,hk,rfl⟩:=Option.map_eq_some_iff.1 hx;have bm:i<len:=by have:=(List.getElem?_eq_some_iff.1 hk).1;simpa using this
     rw[List.getElem?_range bm]at hk;simp at hk;subst hk;exact⟨bm,rfl⟩
    have hlen:((List.range len).map fun i=>AX (ao P e) (f i).1).length=len:=by simp
    refine⟨[.rs (aP P e) ((List.range len).map fun i=>AX (ao P e) (f i).1)],rfl,?_,.one ?_ rfl⟩
    ·unfold gd;rw[hu];refine⟨_,rfl,by
      rw[hlen];rcases hB with hB|hB
      ·omega
      ·rw[hx]at hB;simp only[dy]at hB;have:=JW (elems.map (·.1));rw[List.length_map]at this;omega,fun x hx=>?_⟩
     obtain⟨i,hi⟩:=List.getElem?_of_mem hx;obtain⟨bm,rfl⟩:=Ff i x hi;exact⟨_,rfl,(hf i bm).2.2.1,(hf i bm).2.2.2.1⟩
    ·by_cases h0:len=0
     ·subst h0;exact af.Fk (P:=P) (μ:=e9 w) TX
     ·have Zq:a.spot=none:=by obtain⟨c1,c2,c3,_⟩:=hf 0 (by omega);have h1:(f 0).2[0]?=some ((f 0).2[0]'(by omega)):=List.getElem?_eq_getElem (by omega);have:=World.cell?_spot (c2 0 _ h1);simpa[Addr.add]using this
      obtain⟨b,o,sp⟩:=a;simp only at Zq;subst Zq;have ud:∀i x,((List.range len).map fun i=>AX (ao P e) (f i).1)[i]?=some x→i<len∧x.cells=(f i).1:=fun i x hx=>by obtain⟨bm,rfl⟩:=Ff i x hx;exact⟨bm,Sg Cp (hf i bm).2.2.2.1 (hf i bm).2.2.1⟩
      have hX:∀i x j p,((List.range len).map fun i=>AX (ao P e) (f i).1)[i]?=some x→x.cells[j]?=some p→(f i).1[j]?=some p∧(f i).2[j]?=some ((f i).2.getD j undef):=fun i x j p hx hj=>by
       obtain⟨bm,hc⟩:=ud i x hx;rw[hc]at hj;refine⟨hj,?_⟩;obtain⟨c1,c2,c3,_⟩:=hf i bm;have:j<(f i).2.length:=by have:=(List.getElem?_eq_some_iff.1 hj).1;omega
       rw[List.getElem?_eq_getElem this];simp[List.getD,this]
      have:=af.rs (P:=P) (μ:=e9 w) (sz:=aP P e) (es:=(List.range len).map fun i=>AX (ao P e) (f i).1) (b:=b) (o:=o) (cap:=cap) (fun i j=>(f i).2.getD j undef) (by rw[hlen];exact hlc) TX (fun i x hx=>by obtain⟨bm,hc⟩:=ud i x hx;rw[hc];exact(hf i bm).2.2.1) (fun i x j p hx hj=>by
        obtain⟨h1,h2⟩:=hX i x j p hx hj;have h3:=(hf i (ud i x hx).1).2.1 j _ h2;have h4:=Cq h3;rw[Addr.add_mid,Addr.add_mid]at h4;exact h4)
       (fun i x j p hx hj=>by obtain⟨h1,h2⟩:=hX i x j p hx hj;exact((hf i (ud i x hx).1).2.2.2.2 j p _ h1 h2).1)
       (fun i x j p hx hj=>by obtain⟨h1,h2⟩:=hX i x j p hx hj;exact((hf i (ud i x hx).1).2.2.2.2 j p _ h1 h2).2)
      rw[hlen]at this;exact this
  ·rename_i fs hu;obtain⟨xs,n,_,hx,sP,F9,hfs⟩:=DataW.trod_struct hu h;have sP:cs.length=aP P t:=sP;have key:∀(l:List Field)(off:Nat),(∀f∈l,∃y,DataW.trod enc P w 0 spare held n f.type ((cs.drop f.offset).take (aP P f.type))=some y∧(M=maxLen∨dy y.1≤M))→qJ P (fN P d) (aP P t) l off=true→∃ps,ps.length=cs.length-off∧xh P (gd M P d) l ps∧AY P w ps (cs.drop off):=by
    intro l;induction l with
    |nil=>intro off _ AP;have:=Nat.eq_of_beq_eq_true AP;exact⟨[],by simp;omega,rfl,by intro i p v hp;simp at hp⟩
    |cons f l ihl=>
     intro off hf AP;simp only[qJ,Bool.and_eq_true]at AP;obtain⟨⟨Rt,hpf⟩,AP⟩:=AP;have Rt:=Nat.eq_of_beq_eq_true Rt;obtain⟨y,hy,hyB⟩:=hf f (by simp);rw[Rt]at hy;have hle:=B1 AP;obtain⟨a,a1,a2,a3⟩:=ih f.type _ n y hpf hy hyB;obtain⟨b,b1,b2,b3⟩:=ihl _ (fun g hg=>hf g (by simp[hg])) AP;have Hx:a.length=aP P f.type:=by rw[a1];simp;omega
     refine⟨a++b,by simp[Hx,b1];omega,⟨a,b,rfl,Hx,a2,b2⟩,AY.append (n:=aP P f.type) a3 (by rw[List.drop_drop];exact b3) Hx⟩
   obtain⟨ps,p1,p2,p3⟩:=key fs.toList 0 (fun f hf=>by
    obtain⟨i,hi⟩:=List.getElem?_of_mem hf;have ny:fs[i]?=some f:=by rw[←Array.getElem?_toList];exact hi
    have h1:=hfs i f ny;have bm:i<xs.length:=by have:=(Array.getElem?_eq_some_iff.1 ny).1;omega
    rw[List.getElem?_eq_getElem bm]at h1;exact⟨_,h1,hB.imp id fun hb=>by rw[hx]at hb;simp only[dy]at hb;have:=zG (List.mem_map.2 ⟨_,List.getElem_mem bm,rfl⟩:(xs[i]).1∈xs.map (·.1));omega⟩) hp
   exact⟨ps,by simpa using p1,by unfold gd;rw[hu];exact p2,by simpa using p3⟩
  ·rename_i n e hu;simp only[Bool.and_eq_true]at hp;obtain⟨Fs,l0⟩:=hp;have l0:=Nat.eq_of_beq_eq_true l0;obtain⟨xs,m,_,hx,sP,F9,hfs⟩:=DataW.trod_array hu h;have sP:cs.length=aP P t:=sP;have key:∀(k i:Nat),i+k=n→∃ps,ps.length=cs.length-i*aP P e∧aaF (gd M P d e) (aP P e) k ps∧AY P w ps (cs.drop (i*aP P e)):=by
    intro k;induction k with
    |zero=>
     intro i hi;have:i=n:=by omega
     subst this;exact⟨[],by simp;omega,rfl,by intro i p v hp;simp at hp⟩
    |succ k ihk=>
     intro i hi;have h1:=hfs i (by omega);rw[List.getElem?_eq_getElem (by omega)]at h1;obtain⟨a,a1,a2,a3⟩:=ih e _ m _ Fs h1 (hB.imp id fun hb=>by rw[hx]at hb;simp only[dy]at hb;have:=zG (List.mem_map.2 ⟨_,List.getElem_mem (show i<xs.length by omega),rfl⟩:(xs[i]'(by omega)).1∈xs.map (·.1));omega);obtain⟨b,b1,b2,b3⟩:=ihk (i+1) (by omega);have Ht:i*aP P e+aP P e≤cs.length:=by rw[sP,←l0];have:(i+1)*aP P e≤n*aP P e:=Nat.mul_le_mul_right _ (by omega);rw[Nat.add_mul]at this;omega
     have Hx:a.length=aP P e:=by rw[a1];show((cs.drop (i*aP P e)).take (aP P e)).length=aP P e;simp;omega
     refine⟨a++b,by simp[Hx,b1,Nat.add_mul];omega,⟨a,b,rfl,Hx,a2,b2⟩,AY.append (n:=aP P e) a3 ?_ Hx⟩;rw[List.drop_drop];rw[Nat.add_mul,Nat.one_mul]at b3;exact b3
   obtain⟨ps,p1,p2,p3⟩:=key n 0 (by omega);exact⟨ps,by simpa using p1,by unfold gd;rw[hu];exact p2,by simpa using p3⟩
  ·cases hp
variable{places:List MemPlace}
theorem U3{M d:Nat}{t:TypeId}{y:DataW H}{r:Reach}{b0:Nat}(hp:fN P (d+1) t=true)(AP:Value.okWide P w r b0 t v)(h:DataW.Trod enc P w 0 spare held t v y places)(hB:M=maxLen∨dy y≤M):∃ps,gd M P (d+1) t ps∧af P (e9 w) (AX (ao P t) ps) v:=by
 obtain⟨fuel,hf⟩:=h;obtain⟨ps,p1,p2,p3⟩:=U2 (M:=M) (d+1) t _ fuel _ hp hf hB;refine⟨ps,p2,?_⟩;have agg:ao P t=true→(∃cs,v=.agg cs)→af P (e9 w) (AX (ao P t) ps) v:=by
  rintro ha ⟨cs,rfl⟩;rw[ha];simp only[Value.cells]at p1 p3;exact .agg (by simpa using p1) (fun i p x hi hx=>(p3 i p x hi (by rw[Array.getElem?_toList];exact hx)).1) fun i x hx=>by
   have bm:i<ps.length:=by have:=(Array.getElem?_eq_some_iff.1 hx).1;simp at p1;omega
   exact(p3 i _ x (List.getElem?_eq_getElem bm) (by rw[Array.getElem?_toList];exact hx)).2
 have one:ao P t=false→v.cells= #[v]→(∃p,ps=[p])→af P (e9 w) (AX (ao P t) ps) v:=by rintro ha hv ⟨p,rfl⟩;rw[ha];exact(p3 0 p v rfl (by rw[hv];rfl)).1
 unfold fN at hp;unfold gd at p2;split at hp
 ·rename_i hu;rw[hu]at p2;obtain⟨b,hb⟩:=WideShapes.okWide_bool hu AP;subst hb;obtain⟨b',gB⟩:=p2;exact one (by simp[ao,hu]) rfl ⟨_,gB⟩
 ·rename_i k hu;rw[hu]at p2;obtain⟨b,hb⟩:=WideShapes.okWide_int hu AP;subst hb;obtain⟨b',gB,_⟩:=p2;exact one (by simp[ao,hu]) rfl ⟨_,gB⟩
 ·rename_i hu;rw[hu]at p2;obtain⟨b,hb⟩:=WideShapes.okWide_string hu AP;subst hb;obtain⟨b',gB,_⟩:=p2;exact one (by simp[ao,hu]) rfl ⟨_,gB⟩
 ·rename_i e hu;rw[hu]at p2;obtain⟨a,len,cap,hb⟩:=WideShapes.okWide_slice hu AP;subst hb;obtain⟨b',gB,_⟩:=p2;exact one (by simp[ao,hu]) rfl ⟨_,gB⟩
 ·rename_i fs hu;refine agg (by simp[ao,hu]) ?_;simp only[Value.okWide,hu]at AP;obtain⟨cs,Qc,_⟩:=AP;exact⟨cs,Qc⟩
 ·rename_i n e hu;refine agg (by simp[ao,hu]) ?_;simp only[Value.okWide,hu]at AP;obtain⟨cs,Qc,_⟩:=AP;exact⟨cs,Qc⟩
 ·cases hp
theorem jI{d:Nat}{t:TypeId}{y:DataW H}{r:Reach}{b0:Nat}(hp:fN P (d+1) t=true)(AP:Value.okWide P w r b0 t v)(h:DataW.Trod enc P w 0 spare held t v y places):∃ps,Shp P (d+1) t ps∧af P (e9 w) (AX (ao P t) ps) v:=U3 hp AP h (.inl rfl)
end
end Go.Ab
