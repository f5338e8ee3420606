import Derived.Test.YtmbihgjlollbeaaGreatEkO
import Derived.Test.YtmbihgjlollbeaaGreatFbP1
namespace Go.Ab.Tt
set_option maxRecDepth 100000
set_option maxHeartbeats 4000000
set_option linter.unusedVariables false
set_option linter.unusedSimpArgs false
theorem bs{α β:Type}{o:Option α}{a:α}{f:α→Option β}(h:o=some a):o.bind f=f a:=by rw[h];rfl
def xN:ae:=⟨[⟨[97],0,false,0⟩,⟨[98],0,false,0⟩],[⟨[114],0,false⟩],[⟨0,0,0,[120],0,false,false,[⟨0,160,160,true,false⟩,⟨1,200,200,false,true⟩]⟩],[],[],[⟨Lg,150,1,1,0,255⟩],0,0,0⟩
def xQ:gm:=⟨0,1,100,false,1,0,false,false,0,false⟩
def xO:A7:=⟨[⟨true,0,0,1,0,1,160,200,false⟩],160,200,1,150,0,[⟨0,0,0,150⟩]⟩
def xT:ak:=⟨xN.stops,xN.ar,[⟨PM,true,true,true,true,true,true,true,0,100⟩],[],[⟨[120],0,0,false,[⟨0,100,100,true,false⟩,⟨1,140,140,false,true⟩]⟩],[],[],[],[],xN.ba,0,0,0⟩
theorem ahK:gv [xT.pv]=some (.aP [.int .i64 0,.int .i64 0,.int .i64 0]):=by rfl
theorem aez:xN.Ok where
 stops:=⟨(by decide:2≤maxLen),fun y hy=>by simp only[xN,aih,ajE,akF]at hy;rcases hy with rfl|rfl<;>exact⟨by decide,by rfl,by rfl⟩⟩
 ar:=⟨(by decide:1≤maxLen),fun y hy=>by simp only[xN,aih,ajE,akF]at hy;subst hy;exact⟨by decide,by rfl⟩⟩
 runs:=⟨(by decide:1≤maxLen),fun y hy=>by simp only[xN,aih,ajE,akF]at hy;subst hy;refine⟨by rfl,by rfl,by rfl,by decide,by rfl,by decide,fun z hz=>?_⟩;simp only[aih,ajE,akF]at hz;rcases hz with rfl|rfl<;>exact⟨by rfl,by rfl,by rfl⟩⟩
 bj:=⟨by decide,fun y hy=>by cases hy⟩
 paths:=⟨by decide,fun y hy=>by cases hy⟩
 ba:=⟨(by decide:1≤maxLen),fun y hy=>by simp only[xN,aih,ajE,akF]at hy;subst hy;exact⟨by decide,by rfl,by rfl,by rfl,by rfl,by rfl⟩⟩
 bY:=by rfl
 within:=by rfl
 cap:=by rfl
theorem Vv:eY [xN.pv]=some (xx (0,0,0)):=by rw[zZ xN aez (by decide),show vt xN=(0,0,0) by rfl]
theorem ahL:dg [xN.pv,xQ.pv]=some (.int .i64 0):=by
 unfold dg gQ;iterate 21 refine(bs rfl).trans ?_
 refine(bs Vv).trans ?_;rfl
theorem ahM:gn [xN.pv,PN xO.aL]=some (.aP [.rs 4 [.agg [.int .i64 160,.int .i64 200,.int .i64 1,.int .i64 1]],.int .i64 0]):=by
 unfold gn pk;iterate 12 refine(bs rfl).trans ?_
 refine(bs Vv).trans ?_;rfl
theorem aeA:eG [xN.pv,xQ.pv,PN xO.aL]=some (.aP [.agg [.int .i64 160,.int .i64 200,.int .i64 1,.int .i64 150,.int .i64 0],.rs 4 (xO.j9.map mW.pv),.int .i64 0]):=by
 unfold eG qO;iterate 23 refine(bs rfl).trans ?_
 refine(bs ahM).trans ?_;rfl
theorem ahN{S R:Type}{body:S→(S→Option R)→Option R}{s s1:S}{r:Option R}(h0:∀rec,body s rec=rec s1)(h1:∀rec,body s1 rec=r):bn.run body s=r:=by show cA body (18446744073709551614+1+1) s=r;rw[cA,h0,cA,h1]
theorem aeB:iC [xN.pv,xQ.pv,PN xO.aL]=some (.int .i64 0):=by
 unfold iC qP;iterate 24 refine(bs rfl).trans ?_
 refine ahN (fun rec=>rfl) (fun rec=>?_);unfold l0;refine(No (by decide)).trans ?_;refine(bs rfl).trans ?_;refine(No (by decide)).trans ?_;refine(bs rfl).trans ?_;refine(No (by simp)).trans ?_;refine(No (by decide)).trans ?_;refine(bs (show iD _=some (.int .i64 0) by rfl)).trans ?_;refine(bs rfl).trans ?_;refine(No (by decide)).trans ?_;refine(bs aeA).trans ?_;rfl
theorem ahO:fI [xN.pv,xQ.pv,PN xO.aL]=some (.aP [.int .i64 0,.int .i64 0]):=by
 unfold fI nu;iterate 23 refine(bs rfl).trans ?_
 refine(bs ahL).trans ?_;refine(bs rfl).trans ?_;refine(No (by simp)).trans ?_;refine(No (by decide)).trans ?_;refine(bs (a:=.aP [.int .i64 1,.int .i64 0]) (by rfl)).trans ?_;iterate 3 refine(bs rfl).trans ?_
 refine(No (by simp)).trans ?_;refine(bs aeB).trans ?_;rfl
def xTP:PV:=.agg [.rs 4 (xT.stops.map Stop.pv),.rs 3 (xT.ar.map aT.pv),.rs 10 (xT.eM.map pL.pv),.rs 0 [],.rs 5 (xT.ag.map bL.pv),.rs 0 [],.rs 0 [],.rs 0 [],.rs 0 [],.rs 6 (xT.ba.map aV.pv),.int .i64 0,.int .i64 0,.int .i64 0]
def xP:PV:=.agg [.rs 4 (xN.stops.map Stop.pv),.rs 3 (xN.ar.map aT.pv),.rs 8 (xN.runs.map ec.pv),.rs 0 [],.rs 0 [],.rs 6 (xN.ba.map aV.pv),.int .i64 0,.int .i64 0,.int .i64 0]
def xF:List Fact:=[⟨1,0,1,-1,0⟩,⟨2,0,160,200,60⟩,⟨3,0,0,0,0⟩,⟨4,0,1,1,0⟩,⟨8,0,0,150,0⟩]
theorem PO{p p1:PV}(h:p=xTP∧p1=xP∨p=xT.pv∧p1=xN.pv):dn [p,p1,xQ.pv,xO.pv]=some (.aP [.rs 5 (xF.map Fact.pv),.int .i64 0]):=by
 rcases h with⟨rfl,rfl⟩|⟨rfl,rfl⟩
 all_goals
  unfold dn pj;iterate 43 refine(bs rfl).trans ?_
  refine(bs ahK).trans ?_;iterate 4 refine(bs rfl).trans ?_
  refine(No (by simp)).trans ?_;refine(bs ahO).trans ?_;iterate 3 refine(bs rfl).trans ?_
  refine(No (by simp)).trans ?_;refine(bs aeA).trans ?_;rfl
theorem aaO:fJ [xTP,xP,xQ.pv,xO.pv,.rs 5 (xF.map Fact.pv)]=some (.bool true)∧fJ [xTP,xP,xQ.pv,xO.pv,.rs 5 ((xF.take 4).map Fact.pv)]=some (.bool false):=by
 constructor;all_goals
  unfold fJ sb;iterate 44 refine(bs rfl).trans ?_
  refine(bs (PO (.inr ⟨rfl,rfl⟩))).trans ?_;rfl
theorem NR:eH [xP,xO.pv,Fact.pv ⟨1,0,1,-1,0⟩]=some (.aP [.str jR,.int .i64 0])∧eH [xP,xO.pv,Fact.pv ⟨2,0,160,200,60⟩]=some (.aP [.str dH,.int .i64 0])∧eH [xP,xO.pv,Fact.pv ⟨9,0,0,0,0⟩]=some (.aP [.str [],.int .i64 1]):=by
 refine⟨?_,?_,?_⟩;all_goals
  unfold eH vu;iterate 24 refine(bs rfl).trans ?_
  refine(bs Vv).trans ?_;rfl
theorem Lf:bt []=some (.bool true):=by
 unfold bt my;refine(bs (a:=xTP) rfl).trans ?_;refine(bs rfl).trans ?_;refine(bs (a:=xP) rfl).trans ?_;refine(bs rfl).trans ?_;refine(bs (a:=xO.pv) rfl).trans ?_;refine(bs rfl).trans ?_;refine(bs (PO (.inl ⟨rfl,rfl⟩))).trans ?_;iterate 3 refine(bs rfl).trans ?_
 refine(bs (a:=false) (by rfl)).trans ?_;refine(bs (a:=false) (by rw[cond_false];refine(bs aaO.1).trans ?_;rfl)).trans ?_;refine(bs (a:=false) (by rw[cond_false];refine(bs aaO.2).trans ?_;rfl)).trans ?_;refine(No (by simp)).trans ?_;refine(bs NR.1).trans ?_;iterate 3 refine(bs rfl).trans ?_
 refine(bs NR.2.1).trans ?_;iterate 3 refine(bs rfl).trans ?_
 refine(bs NR.2.2).trans ?_;rfl
end Go.Ab.Tt
