import Derived.Test.YtmbihgjlollbeaaGreatAbSeat
import Derived.WalkKit
import Derived.ProofKit
import Derived.OpenShut
import Derived.ShutString
import Derived.ChangeOld
set_option linter.all false
namespace Go.Ab
open Go.RowKit (Below)
def zg(agg:Bool)(qs:List PV):PV:=match agg with
 |true=>.agg qs
 |false=>qs.getD 0 .bad
def sy(P:Program)(ok:TypeId→Bool)(size:Nat):List Field→Nat→Bool
 |[],off=>Nat.beq off size
 |f::r,off=>Nat.beq f.offset off&&ok f.type&&sy P ok size r (off+aN P f.type)
def tY(P:Program):Nat→TypeId→Bool
 |0,_=>false
 |d+1,t=>match P.underlying t with
  |some .bool=>true
  |some (.int _)=>true
  |some .string=>true
  |some (.slice e)=>tY P d e&&Nat.blt 0 (aN P e)&&(ax P e||Nat.beq (aN P e) 1)
  |some (.struct fs)=>sy P (tY P d) (aN P t) fs.toList 0
  |some (.array n e)=>tY P d e&&Nat.beq (n*aN P e) (aN P t)
  |_=>false
def oH(P:Program)(shp:TypeId→List PV→Prop):List Field→List PV→Prop
 |[],ps=>ps=[]
 |f::r,ps=>∃a b,ps=a++b∧a.length=aN P f.type∧shp f.type a∧oH P shp r b
def V7(shp:List PV→Prop)(c:Nat):Nat→List PV→Prop
 |0,ps=>ps=[]
 |n+1,ps=>∃a b,ps=a++b∧a.length=c∧shp a∧V7 shp c n b
mutual
def dy{H:Type}:DataW H→Nat
 |.lit (.string b)=>b.length+1
 |.slice es _=>LF es+1
 |.agg ps=>LF ps+1
 |_=>1
def LF{H:Type}:List (DataW H)→Nat
 |[]=>0
 |d::r=>dy d+LF r
end
theorem aaj{H:Type}(d:DataW H):1≤dy d:=by
 cases d with
 |lit l=>cases l<;>simp[dy]
 |_=>simp[dy]
theorem Bq{H:Type}:∀{l:List (DataW H)}{d:DataW H},d∈l→dy d≤LF l
 |x::r,d,h=>by
  simp only[LF];rcases ake.1 h with rfl|h
  ·omega
  ·have:=Bq h;omega
theorem LG{H:Type}:∀(l:List (DataW H)),l.length≤LF l
 |[]=>by simp[LF]
 |x::r=>by have:=LG r;have:=aaj x;simp only[LF,akd];omega
def eo(M:Nat)(P:Program):Nat→TypeId→List PV→Prop
 |0,_,_=>False
 |d+1,t,ps=>match P.underlying t with
  |some .bool=>∃b,ps=[.bool b]
  |some (.int k)=>∃n,ps=[.int k n]∧(Lit.int k n).wf=true
  |some .string=>∃s:Bytes,ps=[.str s]∧s.length≤M
  |some (.slice e)=>∃es,ps=[.rs (aN P e) es]∧es.length≤M∧∀x∈es,∃qs,x=zg (ax P e) qs∧qs.length=aN P e∧eo M P d e qs
  |some (.struct fs)=>oH P (eo M P d) fs.toList ps
  |some (.array n e)=>V7 (eo M P d e) (aN P e) n ps
  |_=>False
abbrev Shp(P:Program):Nat→TypeId→List PV→Prop:=eo maxLen P
def Cy(P:Program)(w:World)(ps:List PV)(cs:List Value):Prop:=∀(i:Nat)p v,ps[i]?=some p→cs[i]?=some v→ah P (jd w) p v∧v.oneCell'=true
variable{P:Program}
theorem Cy.one{w:World}{p:PV}{v:Value}(h:ah P (jd w) p v)(h1:v.oneCell'=true):Cy P w [p] [v]:=by intro i q u hq hu;grind
theorem Cy.append{w:World}{a b:List PV}{cs:List Value}{n:Nat}(ha:Cy P w a (cs.take n))(hb:Cy P w b (cs.drop n))(hl:a.length=n):Cy P w (a++b) cs:=by
 intro i p v hp hv;rw[akA]at hp;split at hp
 ·rename_i h;exact ha i p v hp (by simp_all)
 ·rename_i h;exact hb (i-a.length) p v hp (by simp_all)
theorem S4{M d:Nat}{e:TypeId}{qs:List PV}(ha:ax P e=true∨aN P e=1)(h:eo M P d e qs)(hl:qs.length=aN P e):(zg (ax P e) qs).cells=qs:=by
 cases LH:ax P e with
 |true=>rfl
 |false=>
  have h1:aN P e=1:=ha.resolve_left (by simp[LH]);cases d with
  |zero=>exact h.elim
  |succ d=>
   unfold eo at h;unfold ax at LH;split at h
   ·obtain⟨b,rfl⟩:=h;rfl
   ·obtain⟨n,rfl,_⟩:=h;rfl
   ·obtain⟨s,rfl,_⟩:=h;rfl
   ·obtain⟨es,rfl,_⟩:=h;rfl
   ·simp_all
   ·simp_all
   ·exact h.elim
section
variable {P:Program} {w:World} {H:Type} {enc:TypeId×Value→H} {spare:Nat→Bool} {held:Bool}
theorem Dr{ok:TypeId→Bool}{size:Nat}:∀{fs:List Field}{off:Nat},sy P ok size fs off=true→off≤size
 |[],off,h=>by simp_all[sy,IN]
 |f::r,off,h=>by simp only[sy,No]at h;have:=Dr h.2;omega
theorem S5{base:Nat}{a:Addr}{n:Nat}{cs:List Value}(h:w.cells? base a n=some cs):cs.length=n∧∀i v,cs[i]?=some v→w.cell? (a.add i)=some v:=by
 unfold World.cells? at h;split at h
 ·have key:∀(l:List Nat)(cs:List Value),l.mapM (fun i=>w.cell? (a.add i))=some cs→cs.length=l.length∧∀(i:Nat)(v:Value)(k:Nat),cs[i]?=some v→l[i]?=some k→w.cell? (a.add k)=some v:=by
   intro l;induction l with
   |nil=>simp
   |cons x l ih=>
    intro cs h;rw[amB]at h;simp only[Option.pure_def,Option.bind_eq_bind,cT]at h;obtain⟨v,hv,vs,hvs,h⟩:=h;simp only[cO]at h;subst h;obtain⟨h1,h2⟩:=ih vs hvs;refine⟨by simp[h1],fun i u k hi hk=>?_⟩;cases i with
    |zero=>simp at hi hk;subst hi;subst hk;exact hv
    |succ i=>exact h2 i u k (by simpa using hi) (by simpa using hk)
  obtain⟨h1,h2⟩:=key _ _ h;simp at h1;refine⟨h1,fun i v hi=>h2 i v i hi ?_⟩;exact alq (by have:=(By.1 hi).1;omega)
 ·cases h
variable{v:Value}
theorem DV{a:Addr}(h:w.cell? a=some v):cellAt (jd w) a.block a.off=some v:=by
 unfold World.cell? at h;unfold cellAt jd;split at h
 ·rename_i hb;split at h
  ·cases h
  ·rw[hb];exact h
 ·cases h
theorem V8{M:Nat}:∀(d:Nat)(t:TypeId)(cs:List Value)(fuel:Nat)(x:DataW H×List MemPlace),tY P d t=true→DataW.trod enc P w 0 spare held fuel t cs=some x→(M=maxLen∨dy x.1≤M)→∃ps,ps.length=cs.length∧eo M P d t ps∧Cy P w ps cs:=by
 intro d;induction d with
 |zero=>intro t cs fuel x h;cases h
 |succ d ih=>
  intro t cs fuel x hp h hB;unfold tY at hp;split at hp
  ·rename_i hu;obtain⟨b,rfl,_⟩:=DataW.trod_bool hu h;exact⟨[.bool b],rfl,by unfold eo;rw[hu];exact⟨b,rfl⟩,.one .bool rfl⟩
  ·rename_i k hu;obtain⟨n,rfl,_,hw⟩:=DataW.trod_int hu h;exact⟨[.int k n],rfl,by unfold eo;rw[hu];exact⟨n,rfl,hw⟩,.one (.int hw) rfl⟩
  ·rename_i hu;obtain⟨s,rfl,hx,hw⟩:=DataW.trod_string hu h;have hlen:s.data.toList.length≤M:=by
    rcases hB with hB|hB
    ·subst hB;simpa using hw
    ·rw[hx]at hB;simp only[dy]at hB;omega
   refine⟨[.str s.data.toList],rfl,by unfold eo;rw[hu];exact⟨_,rfl,hlen⟩,.one ?_ rfl⟩;exact ah.str (P:=P) (μ:=jd w) (s:=s.data.toList) (by simpa using hw)
  ·rename_i e hu;simp only[No,akp]at hp;obtain⟨⟨Jn,fl⟩,LH⟩:=hp;rw[ak6]at fl;have LH:ax P e=true∨aN P e=1:=LH.imp id IN;rcases DataW.trod_slice hu h with⟨rfl,_⟩|⟨a,len,cap,elems,rest,n,_,rfl,hx,_,hlc,Vc,HQ,fe,_⟩
   ·exact⟨[.rs (aN P e) []],rfl,by unfold eo;rw[hu];exact⟨[],rfl,by simp,by simp⟩,.one .lG rfl⟩
   ·have each:∀i,i<len→∃qs ci,ci.length=aN P e∧(∀j v,ci[j]?=some v→w.cell? ((a.add (i*aN P e)).add j)=some v)∧qs.length=aN P e∧eo M P d e qs∧Cy P w qs ci:=by intro i hi;have h1:=fe i hi;rw[cN (by omega)]at h1;obtain⟨ci,hci,htr⟩:=cT.1 h1;obtain⟨c1,c2⟩:=S5 hci;obtain⟨qs,q1,q2,q3⟩:=ih e ci n _ Jn htr (hB.imp id fun hb=>by rw[hx]at hb;simp only[dy]at hb;have:=Bq (akt.2 ⟨_,aki (show i<elems.length by omega),rfl⟩:(elems[i]'(by omega)).1∈elems.map (·.1));omega);exact⟨qs,ci,c1,c2,by rw[q1,c1];rfl,q2,q3⟩
    have hch:∃f:Nat→List PV×List Value,∀i,i<len→(f i).2.length=aN P e∧(∀j v,(f i).2[j]?=some v→w.cell? ((a.add (i*aN P e)).add j)=some v)∧(f i).1.length=aN P e∧eo M P d e (f i).1∧Cy P w (f i).1 (f i).2:=by refine⟨fun i=>if h:i<len then((each i h).choose,(each i h).choose_spec.choose)else([],[]),fun i hi=>?_⟩;simp only[ank hi];exact(each i hi).choose_spec.choose_spec
    obtain⟨f,hf⟩:=hch;have Kx:∀i x,((List.range len).map fun i=>zg (ax P e) (f i).1)[i]?=some x→i<len∧x=zg (ax P e) (f i).1:=fun i x hx=>by
     rw[IT]at hx;obtain⟨k,hk,rfl⟩:=acG.1 hx;have bZ:i<len:=by have:=(By.1 hk).1;simpa using this
     rw[alq bZ]at hk;simp at hk;subst hk;exact⟨bZ,rfl⟩
    have hlen:((List.range len).map fun i=>zg (ax P e) (f i).1).length=len:=by simp
    refine⟨[.rs (aN P e) ((List.range len).map fun i=>zg (ax P e) (f i).1)],rfl,?_,.one ?_ rfl⟩
    ·unfold eo;rw[hu];refine⟨_,rfl,by
      rw[hlen];rcases hB with hB|hB
      ·omega
      ·rw[hx]at hB;simp only[dy]at hB;have:=LG (elems.map (·.1));rw[BY]at this;omega,fun x hx=>?_⟩
     obtain⟨i,hi⟩:=aky hx;obtain⟨bZ,rfl⟩:=Kx i x hi;exact⟨_,rfl,(hf i bZ).2.2.1,(hf i bZ).2.2.2.1⟩
    ·by_cases h0:len=0
     ·subst h0;exact ah.G2 (P:=P) (μ:=jd w) Vc
     ·have ab3:a.spot=none:=by obtain⟨c1,c2,c3,_⟩:=hf 0 (by omega);have h1:(f 0).2[0]?=some ((f 0).2[0]'(by omega)):=cN (by omega);have:=World.cell?_spot (c2 0 _ h1);simpa[Addr.add]using this
      obtain⟨b,o,sp⟩:=a;simp only at ab3;subst ab3;have vG:∀i x,((List.range len).map fun i=>zg (ax P e) (f i).1)[i]?=some x→i<len∧x.cells=(f i).1:=fun i x hx=>by obtain⟨bZ,rfl⟩:=Kx i x hx;exact⟨bZ,S4 LH (hf i bZ).2.2.2.1 (hf i bZ).2.2.1⟩
      have hX:∀i x j p,((List.range len).map fun i=>zg (ax P e) (f i).1)[i]?=some x→x.cells[j]?=some p→(f i).1[j]?=some p∧(f i).2[j]?=some ((f i).2.getD j undef):=fun i x j p hx hj=>by
       obtain⟨bZ,hc⟩:=vG i x hx;rw[hc]at hj;refine⟨hj,?_⟩;obtain⟨c1,c2,c3,_⟩:=hf i bZ;have:j<(f i).2.length:=by have:=(By.1 hj).1;omega
       rw[cN this];simp[List.getD,this]
      have:=ah.rs (P:=P) (μ:=jd w) (sz:=aN P e) (es:=(List.range len).map fun i=>zg (ax P e) (f i).1) (b:=b) (o:=o) (cap:=cap) (fun i j=>(f i).2.getD j undef) (by rw[hlen];exact hlc) Vc (fun i x hx=>by obtain⟨bZ,hc⟩:=vG i x hx;rw[hc];exact(hf i bZ).2.2.1) (fun i x j p hx hj=>by
        obtain⟨h1,h2⟩:=hX i x j p hx hj;have h3:=(hf i (vG i x hx).1).2.1 j _ h2;have h4:=DV h3;rw[Addr.add_mid,Addr.add_mid]at h4;exact h4)
       (fun i x j p hx hj=>by obtain⟨h1,h2⟩:=hX i x j p hx hj;exact((hf i (vG i x hx).1).2.2.2.2 j p _ h1 h2).1)
       (fun i x j p hx hj=>by obtain⟨h1,h2⟩:=hX i x j p hx hj;exact((hf i (vG i x hx).1).2.2.2.2 j p _ h1 h2).2)
      rw[hlen]at this;exact this
  ·rename_i fs hu;obtain⟨xs,n,_,hx,xl,K6,hfs⟩:=DataW.trod_struct hu h;have xl:cs.length=aN P t:=xl;have key:∀(l:List Field)(off:Nat),(∀f∈l,∃y,DataW.trod enc P w 0 spare held n f.type ((cs.drop f.offset).take (aN P f.type))=some y∧(M=maxLen∨dy y.1≤M))→sy P (tY P d) (aN P t) l off=true→∃ps,ps.length=cs.length-off∧oH P (eo M P d) l ps∧Cy P w ps (cs.drop off):=by
    intro l;induction l with
    |nil=>intro off _ tt;have:=IN tt;exact⟨[],by simp;omega,rfl,by intro i p v hp;simp at hp⟩
    |cons f l ihl=>
     intro off hf tt;simp only[sy,No]at tt;obtain⟨⟨Sf,hpf⟩,tt⟩:=tt;have Sf:=IN Sf;obtain⟨y,hy,hyB⟩:=hf f (by simp);rw[Sf]at hy;have hle:=Dr tt;obtain⟨a,a1,a2,a3⟩:=ih f.type _ n y hpf hy hyB;obtain⟨b,b1,b2,b3⟩:=ihl _ (fun g hg=>hf g (by simp[hg])) tt;have Nc:a.length=aN P f.type:=by rw[a1];simp;omega
     refine⟨a++b,by simp[Nc,b1];omega,⟨a,b,rfl,Nc,a2,b2⟩,Cy.append (n:=aN P f.type) a3 (by rw[alX];exact b3) Nc⟩
   obtain⟨ps,p1,p2,p3⟩:=key fs.toList 0 (fun f hf=>by
    obtain⟨i,hi⟩:=aky hf;have qV:fs[i]?=some f:=by rw[←akL];exact hi
    have h1:=hfs i f qV;have bZ:i<xs.length:=by have:=(abq.1 qV).1;omega
    rw[cN bZ]at h1;exact⟨_,h1,hB.imp id fun hb=>by rw[hx]at hb;simp only[dy]at hb;have:=Bq (akt.2 ⟨_,aki bZ,rfl⟩:(xs[i]).1∈xs.map (·.1));omega⟩) hp
   exact⟨ps,by simpa using p1,by unfold eo;rw[hu];exact p2,by simpa using p3⟩
  ·rename_i n e hu;simp only[No]at hp;obtain⟨Jn,oP⟩:=hp;have oP:=IN oP;obtain⟨xs,m,_,hx,xl,K6,hfs⟩:=DataW.trod_array hu h;have xl:cs.length=aN P t:=xl;have key:∀(k i:Nat),i+k=n→∃ps,ps.length=cs.length-i*aN P e∧V7 (eo M P d e) (aN P e) k ps∧Cy P w ps (cs.drop (i*aN P e)):=by
    intro k;induction k with
    |zero=>
     intro i hi;have:i=n:=by omega
     subst this;exact⟨[],by simp;omega,rfl,by intro i p v hp;simp at hp⟩
    |succ k ihk=>
     intro i hi;have h1:=hfs i (by omega);rw[cN (by omega)]at h1;obtain⟨a,a1,a2,a3⟩:=ih e _ m _ Jn h1 (hB.imp id fun hb=>by rw[hx]at hb;simp only[dy]at hb;have:=Bq (akt.2 ⟨_,aki (show i<xs.length by omega),rfl⟩:(xs[i]'(by omega)).1∈xs.map (·.1));omega);obtain⟨b,b1,b2,b3⟩:=ihk (i+1) (by omega);have Nb:i*aN P e+aN P e≤cs.length:=by rw[xl,←oP];have:(i+1)*aN P e≤n*aN P e:=ahw _ (by omega);rw[akR]at this;omega
     have Nc:a.length=aN P e:=by rw[a1];show((cs.drop (i*aN P e)).take (aN P e)).length=aN P e;simp;omega
     refine⟨a++b,by simp[Nc,b1,akR];omega,⟨a,b,rfl,Nc,a2,b2⟩,Cy.append (n:=aN P e) a3 ?_ Nc⟩;rw[alX];rw[akR,Nat.one_mul]at b3;exact b3
   obtain⟨ps,p1,p2,p3⟩:=key n 0 (by omega);exact⟨ps,by simpa using p1,by unfold eo;rw[hu];exact p2,by simpa using p3⟩
  ·cases hp
variable{places:List MemPlace}
theorem V9{M d:Nat}{t:TypeId}{y:DataW H}{r:Reach}{b0:Nat}(hp:tY P (d+1) t=true)(tt:Value.okWide P w r b0 t v)(h:DataW.Trod enc P w 0 spare held t v y places)(hB:M=maxLen∨dy y≤M):∃ps,eo M P (d+1) t ps∧ah P (jd w) (zg (ax P t) ps) v:=by
 obtain⟨fuel,hf⟩:=h;obtain⟨ps,p1,p2,p3⟩:=V8 (M:=M) (d+1) t _ fuel _ hp hf hB;refine⟨ps,p2,?_⟩;have agg:ax P t=true→(∃cs,v=.agg cs)→ah P (jd w) (zg (ax P t) ps) v:=by
  rintro ha ⟨cs,rfl⟩;rw[ha];simp only[Value.cells]at p1 p3;exact .agg (by simpa using p1) (fun i p x hi hx=>(p3 i p x hi (by rw[akL];exact hx)).1) fun i x hx=>by
   have bZ:i<ps.length:=by have:=(abq.1 hx).1;simp at p1;omega
   exact(p3 i _ x (cN bZ) (by rw[akL];exact hx)).2
 have one:ax P t=false→v.cells= #[v]→(∃p,ps=[p])→ah P (jd w) (zg (ax P t) ps) v:=by rintro ha hv ⟨p,rfl⟩;rw[ha];exact(p3 0 p v rfl (by rw[hv];rfl)).1
 unfold tY at hp;unfold eo at p2;split at hp
 ·rename_i hu;rw[hu]at p2;obtain⟨b,hb⟩:=WideShapes.okWide_bool hu tt;subst hb;obtain⟨b',jc⟩:=p2;exact one (by simp[ax,hu]) rfl ⟨_,jc⟩
 ·rename_i k hu;rw[hu]at p2;obtain⟨b,hb⟩:=WideShapes.okWide_int hu tt;subst hb;obtain⟨b',jc,_⟩:=p2;exact one (by simp[ax,hu]) rfl ⟨_,jc⟩
 ·rename_i hu;rw[hu]at p2;obtain⟨b,hb⟩:=WideShapes.okWide_string hu tt;subst hb;obtain⟨b',jc,_⟩:=p2;exact one (by simp[ax,hu]) rfl ⟨_,jc⟩
 ·rename_i e hu;rw[hu]at p2;obtain⟨a,len,cap,hb⟩:=WideShapes.okWide_slice hu tt;subst hb;obtain⟨b',jc,_⟩:=p2;exact one (by simp[ax,hu]) rfl ⟨_,jc⟩
 ·rename_i fs hu;refine agg (by simp[ax,hu]) ?_;simp only[Value.okWide,hu]at tt;obtain⟨cs,NT,_⟩:=tt;exact⟨cs,NT⟩
 ·rename_i n e hu;refine agg (by simp[ax,hu]) ?_;simp only[Value.okWide,hu]at tt;obtain⟨cs,NT,_⟩:=tt;exact⟨cs,NT⟩
 ·cases hp
theorem aak{d:Nat}{t:TypeId}{y:DataW H}{r:Reach}{b0:Nat}(hp:tY P (d+1) t=true)(tt:Value.okWide P w r b0 t v)(h:DataW.Trod enc P w 0 spare held t v y places):∃ps,Shp P (d+1) t ps∧ah P (jd w) (zg (ax P t) ps) v:=V9 hp tt h (.inl rfl)
end
end Go.Ab
