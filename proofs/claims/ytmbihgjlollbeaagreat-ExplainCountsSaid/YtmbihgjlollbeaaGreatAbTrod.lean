import Derived.Test.YtmbihgjlollbeaaGreatAbSeat
import Derived.WalkKit
import Derived.ProofKit
import Derived.OpenShut
import Derived.ShutString
import Derived.ChangeOld
set_option linter.unusedVariables false
set_option linter.unusedSimpArgs false
namespace Go.Ab
open Go.RowKit (Below)
def yJ(agg:Bool)(qs:List PV):PV:=match agg with
 |true=>.agg qs
 |false=>qs.getD 0 .bad
def rS(P:Program)(ok:TypeId→Bool)(size:Nat):List Field→Nat→Bool
 |[],off=>Nat.beq off size
 |f::r,off=>Nat.beq f.offset off&&ok f.type&&rS P ok size r (off+aO P f.type)
def tB(P:Program):Nat→TypeId→Bool
 |0,_=>false
 |d+1,t=>match P.underlying t with
  |some .bool=>true
  |some (.int _)=>true
  |some .string=>true
  |some (.slice e)=>tB P d e&&Nat.blt 0 (aO P e)&&(ax P e||Nat.beq (aO P e) 1)
  |some (.struct fs)=>rS P (tB P d) (aO P t) fs.toList 0
  |some (.array n e)=>tB P d e&&Nat.beq (n*aO P e) (aO P t)
  |_=>false
def ou(P:Program)(shp:TypeId→List PV→Prop):List Field→List PV→Prop
 |[],ps=>ps=[]
 |f::r,ps=>∃a b,ps=a++b∧a.length=aO P f.type∧shp f.type a∧ou P shp r b
def UZ(shp:List PV→Prop)(c:Nat):Nat→List PV→Prop
 |0,ps=>ps=[]
 |n+1,ps=>∃a b,ps=a++b∧a.length=c∧shp a∧UZ shp c n b
mutual
def dx{H:Type}:DataW H→Nat
 |.lit (.string b)=>b.length+1
 |.slice es _=>K0 es+1
 |.agg ps=>K0 ps+1
 |_=>1
def K0{H:Type}:List (DataW H)→Nat
 |[]=>0
 |d::r=>dx d+K0 r
end
theorem Zk{H:Type}(d:DataW H):1≤dx d:=by
 cases d with
 |lit l=>cases l<;>simp[dx]
 |_=>simp[dx]
theorem AX{H:Type}:∀{l:List (DataW H)}{d:DataW H},d∈l→dx d≤K0 l
 |x::r,d,h=>by
  simp only[K0];rcases aih.1 h with rfl|h
  ·omega
  ·have:=AX h;omega
theorem K1{H:Type}:∀(l:List (DataW H)),l.length≤K0 l
 |[]=>by simp[K0]
 |x::r=>by have:=K1 r;have:=Zk x;simp only[K0,ajj];omega
def eg(M:Nat)(P:Program):Nat→TypeId→List PV→Prop
 |0,_,_=>False
 |d+1,t,ps=>match P.underlying t with
  |some .bool=>∃b,ps=[.bool b]
  |some (.int k)=>∃n,ps=[.int k n]∧(Lit.int k n).wf=true
  |some .string=>∃s:Bytes,ps=[.str s]∧s.length≤M
  |some (.slice e)=>∃es,ps=[.rs (aO P e) es]∧es.length≤M∧∀x∈es,∃qs,x=yJ (ax P e) qs∧qs.length=aO P e∧eg M P d e qs
  |some (.struct fs)=>ou P (eg M P d) fs.toList ps
  |some (.array n e)=>UZ (eg M P d e) (aO P e) n ps
  |_=>False
abbrev Shp(P:Program):Nat→TypeId→List PV→Prop:=eg maxLen P
def Cj(P:Program)(w:World)(ps:List PV)(cs:List Value):Prop:=∀(i:Nat)p v,ps[i]?=some p→cs[i]?=some v→ai P (kg w) p v∧v.oneCell'=true
variable{P:Program}
theorem Cj.one{w:World}{p:PV}{v:Value}(h:ai P (kg w) p v)(h1:v.oneCell'=true):Cj P w [p] [v]:=by intro i q u hq hu;grind
theorem Cj.append{w:World}{a b:List PV}{cs:List Value}{n:Nat}(ha:Cj P w a (cs.take n))(hb:Cj P w b (cs.drop n))(hl:a.length=n):Cj P w (a++b) cs:=by
 intro i p v hp hv;rw[ajF]at hp;split at hp
 ·rename_i h;exact ha i p v hp (by simp_all)
 ·rename_i h;exact hb (i-a.length) p v hp (by simp_all)
theorem RW{M d:Nat}{e:TypeId}{qs:List PV}(ha:ax P e=true∨aO P e=1)(h:eg M P d e qs)(hl:qs.length=aO P e):(yJ (ax P e) qs).cells=qs:=by
 cases K2:ax P e with
 |true=>rfl
 |false=>
  have h1:aO P e=1:=ha.resolve_left (by simp[K2]);cases d with
  |zero=>exact h.elim
  |succ d=>
   unfold eg at h;unfold ax at K2;split at h
   ·obtain⟨b,rfl⟩:=h;rfl
   ·obtain⟨n,rfl,_⟩:=h;rfl
   ·obtain⟨s,rfl,_⟩:=h;rfl
   ·obtain⟨es,rfl,_⟩:=h;rfl
   ·simp_all
   ·simp_all
   ·exact h.elim
section
variable {P:Program} {w:World} {H:Type} {enc:TypeId×Value→H} {spare:Nat→Bool} {held:Bool}
theorem C9{ok:TypeId→Bool}{size:Nat}:∀{fs:List Field}{off:Nat},rS P ok size fs off=true→off≤size
 |[],off,h=>by simp_all[rS,AI]
 |f::r,off,h=>by simp only[rS,OF]at h;have:=C9 h.2;omega
theorem RX{base:Nat}{a:Addr}{n:Nat}{cs:List Value}(h:w.cells? base a n=some cs):cs.length=n∧∀i v,cs[i]?=some v→w.cell? (a.add i)=some v:=by
 unfold World.cells? at h;split at h
 ·have key:∀(l:List Nat)(cs:List Value),l.mapM (fun i=>w.cell? (a.add i))=some cs→cs.length=l.length∧∀(i:Nat)(v:Value)(k:Nat),cs[i]?=some v→l[i]?=some k→w.cell? (a.add k)=some v:=by
   intro l;induction l with
   |nil=>simp
   |cons x l ih=>
    intro cs h;rw[alF]at h;simp only[Option.pure_def,Option.bind_eq_bind,cT]at h;obtain⟨v,hv,vs,hvs,h⟩:=h;simp only[cN]at h;subst h;obtain⟨h1,h2⟩:=ih vs hvs;refine⟨by simp[h1],fun i u k hi hk=>?_⟩;cases i with
    |zero=>simp at hi hk;subst hi;subst hk;exact hv
    |succ i=>exact h2 i u k (by simpa using hi) (by simpa using hk)
  obtain⟨h1,h2⟩:=key _ _ h;simp at h1;refine⟨h1,fun i v hi=>h2 i v i hi ?_⟩;exact akA (by have:=(By.1 hi).1;omega)
 ·cases h
variable{v:Value}
theorem DC{a:Addr}(h:w.cell? a=some v):cellAt (kg w) a.block a.off=some v:=by
 unfold World.cell? at h;unfold cellAt kg;split at h
 ·rename_i hb;split at h
  ·cases h
  ·rw[hb];exact h
 ·cases h
theorem U0{M:Nat}:∀(d:Nat)(t:TypeId)(cs:List Value)(fuel:Nat)(x:DataW H×List MemPlace),tB P d t=true→DataW.trod enc P w 0 spare held fuel t cs=some x→(M=maxLen∨dx x.1≤M)→∃ps,ps.length=cs.length∧eg M P d t ps∧Cj P w ps cs:=by
 intro d;induction d with
 |zero=>intro t cs fuel x h;cases h
 |succ d ih=>
  intro t cs fuel x hp h hB;unfold tB at hp;split at hp
  ·rename_i hu;obtain⟨b,rfl,_⟩:=DataW.trod_bool hu h;exact⟨[.bool b],rfl,by unfold eg;rw[hu];exact⟨b,rfl⟩,.one .bool rfl⟩
  ·rename_i k hu;obtain⟨n,rfl,_,hw⟩:=DataW.trod_int hu h;exact⟨[.int k n],rfl,by unfold eg;rw[hu];exact⟨n,rfl,hw⟩,.one (.int hw) rfl⟩
  ·rename_i hu;obtain⟨s,rfl,hx,hw⟩:=DataW.trod_string hu h;have hlen:s.data.toList.length≤M:=by
    rcases hB with hB|hB
    ·subst hB;simpa using hw
    ·rw[hx]at hB;simp only[dx]at hB;omega
   refine⟨[.str s.data.toList],rfl,by unfold eg;rw[hu];exact⟨_,rfl,hlen⟩,.one ?_ rfl⟩;exact ai.str (P:=P) (μ:=kg w) (s:=s.data.toList) (by simpa using hw)
  ·rename_i e hu;simp only[OF,ajt]at hp;obtain⟨⟨IQ,ff⟩,K2⟩:=hp;rw[akb]at ff;have K2:ax P e=true∨aO P e=1:=K2.imp id AI;rcases DataW.trod_slice hu h with⟨rfl,_⟩|⟨a,len,cap,elems,rest,n,_,rfl,hx,_,hlc,T5,Ht,eX,_⟩
   ·exact⟨[.rs (aO P e) []],rfl,by unfold eg;rw[hu];exact⟨[],rfl,by simp,by simp⟩,.one .ly rfl⟩
   ·have each:∀i,i<len→∃qs ci,ci.length=aO P e∧(∀j v,ci[j]?=some v→w.cell? ((a.add (i*aO P e)).add j)=some v)∧qs.length=aO P e∧eg M P d e qs∧Cj P w qs ci:=by intro i hi;have h1:=eX i hi;rw[cO (by omega)]at h1;obtain⟨ci,hci,htr⟩:=cT.1 h1;obtain⟨c1,c2⟩:=RX hci;obtain⟨qs,q1,q2,q3⟩:=ih e ci n _ IQ htr (hB.imp id fun hb=>by rw[hx]at hb;simp only[dx]at hb;have:=AX (ajy.2 ⟨_,ajm (show i<elems.length by omega),rfl⟩:(elems[i]'(by omega)).1∈elems.map (·.1));omega);exact⟨qs,ci,c1,c2,by rw[q1,c1];rfl,q2,q3⟩
    have hch:∃f:Nat→List PV×List Value,∀i,i<len→(f i).2.length=aO P e∧(∀j v,(f i).2[j]?=some v→w.cell? ((a.add (i*aO P e)).add j)=some v)∧(f i).1.length=aO P e∧eg M P d e (f i).1∧Cj P w (f i).1 (f i).2:=by refine⟨fun i=>if h:i<len then((each i h).choose,(each i h).choose_spec.choose)else([],[]),fun i hi=>?_⟩;simp only[amj hi];exact(each i hi).choose_spec.choose_spec
    obtain⟨f,hf⟩:=hch;have JU:∀i x,((List.range len).map fun i=>yJ (ax P e) (f i).1)[i]?=some x→i<len∧x=yJ (ax P e) (f i).1:=fun i x hx=>by
     rw[IN]at hx;obtain⟨k,hk,rfl⟩:=adr.1 hx;have bT:i<len:=by have:=(By.1 hk).1;simpa using this
     rw[akA bT]at hk;simp at hk;subst hk;exact⟨bT,rfl⟩
    have hlen:((List.range len).map fun i=>yJ (ax P e) (f i).1).length=len:=by simp
    refine⟨[.rs (aO P e) ((List.range len).map fun i=>yJ (ax P e) (f i).1)],rfl,?_,.one ?_ rfl⟩
    ·unfold eg;rw[hu];refine⟨_,rfl,by
      rw[hlen];rcases hB with hB|hB
      ·omega
      ·rw[hx]at hB;simp only[dx]at hB;have:=K1 (elems.map (·.1));rw[BY]at this;omega,fun x hx=>?_⟩
     obtain⟨i,hi⟩:=ajB hx;obtain⟨bT,rfl⟩:=JU i x hi;exact⟨_,rfl,(hf i bT).2.2.1,(hf i bT).2.2.2.1⟩
    ·by_cases h0:len=0
     ·subst h0;exact ai.Gw (P:=P) (μ:=kg w) T5
     ·have aaM:a.spot=none:=by obtain⟨c1,c2,c3,_⟩:=hf 0 (by omega);have h1:(f 0).2[0]?=some ((f 0).2[0]'(by omega)):=cO (by omega);have:=World.cell?_spot (c2 0 _ h1);simpa[Addr.add]using this
      obtain⟨b,o,sp⟩:=a;simp only at aaM;subst aaM;have vi:∀i x,((List.range len).map fun i=>yJ (ax P e) (f i).1)[i]?=some x→i<len∧x.cells=(f i).1:=fun i x hx=>by obtain⟨bT,rfl⟩:=JU i x hx;exact⟨bT,RW K2 (hf i bT).2.2.2.1 (hf i bT).2.2.1⟩
      have hX:∀i x j p,((List.range len).map fun i=>yJ (ax P e) (f i).1)[i]?=some x→x.cells[j]?=some p→(f i).1[j]?=some p∧(f i).2[j]?=some ((f i).2.getD j undef):=fun i x j p hx hj=>by
       obtain⟨bT,hc⟩:=vi i x hx;rw[hc]at hj;refine⟨hj,?_⟩;obtain⟨c1,c2,c3,_⟩:=hf i bT;have:j<(f i).2.length:=by have:=(By.1 hj).1;omega
       rw[cO this];simp[List.getD,this]
      have:=ai.rs (P:=P) (μ:=kg w) (sz:=aO P e) (es:=(List.range len).map fun i=>yJ (ax P e) (f i).1) (b:=b) (o:=o) (cap:=cap) (fun i j=>(f i).2.getD j undef) (by rw[hlen];exact hlc) T5 (fun i x hx=>by obtain⟨bT,hc⟩:=vi i x hx;rw[hc];exact(hf i bT).2.2.1) (fun i x j p hx hj=>by
        obtain⟨h1,h2⟩:=hX i x j p hx hj;have h3:=(hf i (vi i x hx).1).2.1 j _ h2;have h4:=DC h3;rw[Addr.add_mid,Addr.add_mid]at h4;exact h4)
       (fun i x j p hx hj=>by obtain⟨h1,h2⟩:=hX i x j p hx hj;exact((hf i (vi i x hx).1).2.2.2.2 j p _ h1 h2).1)
       (fun i x j p hx hj=>by obtain⟨h1,h2⟩:=hX i x j p hx hj;exact((hf i (vi i x hx).1).2.2.2.2 j p _ h1 h2).2)
      rw[hlen]at this;exact this
  ·rename_i fs hu;obtain⟨xs,n,_,hx,wG,Ku,hfs⟩:=DataW.trod_struct hu h;have wG:cs.length=aO P t:=wG;have key:∀(l:List Field)(off:Nat),(∀f∈l,∃y,DataW.trod enc P w 0 spare held n f.type ((cs.drop f.offset).take (aO P f.type))=some y∧(M=maxLen∨dx y.1≤M))→rS P (tB P d) (aO P t) l off=true→∃ps,ps.length=cs.length-off∧ou P (eg M P d) l ps∧Cj P w ps (cs.drop off):=by
    intro l;induction l with
    |nil=>intro off _ wZ;have:=AI wZ;exact⟨[],by simp;omega,rfl,by intro i p v hp;simp at hp⟩
    |cons f l ihl=>
     intro off hf wZ;simp only[rS,OF]at wZ;obtain⟨⟨Ra,hpf⟩,wZ⟩:=wZ;have Ra:=AI Ra;obtain⟨y,hy,hyB⟩:=hf f (by simp);rw[Ra]at hy;have hle:=C9 wZ;obtain⟨a,a1,a2,a3⟩:=ih f.type _ n y hpf hy hyB;obtain⟨b,b1,b2,b3⟩:=ihl _ (fun g hg=>hf g (by simp[hg])) wZ;have MA:a.length=aO P f.type:=by rw[a1];simp;omega
     refine⟨a++b,by simp[MA,b1];omega,⟨a,b,rfl,MA,a2,b2⟩,Cj.append (n:=aO P f.type) a3 (by rw[ak1];exact b3) MA⟩
   obtain⟨ps,p1,p2,p3⟩:=key fs.toList 0 (fun f hf=>by
    obtain⟨i,hi⟩:=ajB hf;have qH:fs[i]?=some f:=by rw[←ajR];exact hi
    have h1:=hfs i f qH;have bT:i<xs.length:=by have:=(abi.1 qH).1;omega
    rw[cO bT]at h1;exact⟨_,h1,hB.imp id fun hb=>by rw[hx]at hb;simp only[dx]at hb;have:=AX (ajy.2 ⟨_,ajm bT,rfl⟩:(xs[i]).1∈xs.map (·.1));omega⟩) hp
   exact⟨ps,by simpa using p1,by unfold eg;rw[hu];exact p2,by simpa using p3⟩
  ·rename_i n e hu;simp only[OF]at hp;obtain⟨IQ,oD⟩:=hp;have oD:=AI oD;obtain⟨xs,m,_,hx,wG,Ku,hfs⟩:=DataW.trod_array hu h;have wG:cs.length=aO P t:=wG;have key:∀(k i:Nat),i+k=n→∃ps,ps.length=cs.length-i*aO P e∧UZ (eg M P d e) (aO P e) k ps∧Cj P w ps (cs.drop (i*aO P e)):=by
    intro k;induction k with
    |zero=>
     intro i hi;have:i=n:=by omega
     subst this;exact⟨[],by simp;omega,rfl,by intro i p v hp;simp at hp⟩
    |succ k ihk=>
     intro i hi;have h1:=hfs i (by omega);rw[cO (by omega)]at h1;obtain⟨a,a1,a2,a3⟩:=ih e _ m _ IQ h1 (hB.imp id fun hb=>by rw[hx]at hb;simp only[dx]at hb;have:=AX (ajy.2 ⟨_,ajm (show i<xs.length by omega),rfl⟩:(xs[i]'(by omega)).1∈xs.map (·.1));omega);obtain⟨b,b1,b2,b3⟩:=ihk (i+1) (by omega);have Mz:i*aO P e+aO P e≤cs.length:=by rw[wG,←oD];have:(i+1)*aO P e≤n*aO P e:=agw _ (by omega);rw[ajV]at this;omega
     have MA:a.length=aO P e:=by rw[a1];show((cs.drop (i*aO P e)).take (aO P e)).length=aO P e;simp;omega
     refine⟨a++b,by simp[MA,b1,ajV];omega,⟨a,b,rfl,MA,a2,b2⟩,Cj.append (n:=aO P e) a3 ?_ MA⟩;rw[ak1];rw[ajV,Nat.one_mul]at b3;exact b3
   obtain⟨ps,p1,p2,p3⟩:=key n 0 (by omega);exact⟨ps,by simpa using p1,by unfold eg;rw[hu];exact p2,by simpa using p3⟩
  ·cases hp
variable{places:List MemPlace}
theorem U1{M d:Nat}{t:TypeId}{y:DataW H}{r:Reach}{b0:Nat}(hp:tB P (d+1) t=true)(wZ:Value.okWide P w r b0 t v)(h:DataW.Trod enc P w 0 spare held t v y places)(hB:M=maxLen∨dx y≤M):∃ps,eg M P (d+1) t ps∧ai P (kg w) (yJ (ax P t) ps) v:=by
 obtain⟨fuel,hf⟩:=h;obtain⟨ps,p1,p2,p3⟩:=U0 (M:=M) (d+1) t _ fuel _ hp hf hB;refine⟨ps,p2,?_⟩;have agg:ax P t=true→(∃cs,v=.agg cs)→ai P (kg w) (yJ (ax P t) ps) v:=by
  rintro ha ⟨cs,rfl⟩;rw[ha];simp only[Value.cells]at p1 p3;exact .agg (by simpa using p1) (fun i p x hi hx=>(p3 i p x hi (by rw[ajR];exact hx)).1) fun i x hx=>by
   have bT:i<ps.length:=by have:=(abi.1 hx).1;simp at p1;omega
   exact(p3 i _ x (cO bT) (by rw[ajR];exact hx)).2
 have one:ax P t=false→v.cells= #[v]→(∃p,ps=[p])→ai P (kg w) (yJ (ax P t) ps) v:=by rintro ha hv ⟨p,rfl⟩;rw[ha];exact(p3 0 p v rfl (by rw[hv];rfl)).1
 unfold tB at hp;unfold eg at p2;split at hp
 ·rename_i hu;rw[hu]at p2;obtain⟨b,hb⟩:=WideShapes.okWide_bool hu wZ;subst hb;obtain⟨b',jG⟩:=p2;exact one (by simp[ax,hu]) rfl ⟨_,jG⟩
 ·rename_i k hu;rw[hu]at p2;obtain⟨b,hb⟩:=WideShapes.okWide_int hu wZ;subst hb;obtain⟨b',jG,_⟩:=p2;exact one (by simp[ax,hu]) rfl ⟨_,jG⟩
 ·rename_i hu;rw[hu]at p2;obtain⟨b,hb⟩:=WideShapes.okWide_string hu wZ;subst hb;obtain⟨b',jG,_⟩:=p2;exact one (by simp[ax,hu]) rfl ⟨_,jG⟩
 ·rename_i e hu;rw[hu]at p2;obtain⟨a,len,cap,hb⟩:=WideShapes.okWide_slice hu wZ;subst hb;obtain⟨b',jG,_⟩:=p2;exact one (by simp[ax,hu]) rfl ⟨_,jG⟩
 ·rename_i fs hu;refine agg (by simp[ax,hu]) ?_;simp only[Value.okWide,hu]at wZ;obtain⟨cs,Nb,_⟩:=wZ;exact⟨cs,Nb⟩
 ·rename_i n e hu;refine agg (by simp[ax,hu]) ?_;simp only[Value.okWide,hu]at wZ;obtain⟨cs,Nb,_⟩:=wZ;exact⟨cs,Nb⟩
 ·cases hp
theorem Zl{d:Nat}{t:TypeId}{y:DataW H}{r:Reach}{b0:Nat}(hp:tB P (d+1) t=true)(wZ:Value.okWide P w r b0 t v)(h:DataW.Trod enc P w 0 spare held t v y places):∃ps,Shp P (d+1) t ps∧ai P (kg w) (yJ (ax P t) ps) v:=U1 hp wZ h (.inl rfl)
end
end Go.Ab
