import Derived.Test.YtmbihgjlollbeaaGreatEkO
import Derived.Test.YtmbihgjlollbeaaGreatFbP1
namespace Go.Ab.Tt
set_option maxRecDepth 100000
set_option maxHeartbeats 4000000
set_option linter.all false
theorem bs{α β:Type}{o:Option α}{a:α}{f:α→Option β}(h:o=some a):o.bind f=f a:=by rw[h];rfl
def xN:ab:=⟨[⟨[97],0,false,0⟩,⟨[98],0,false,0⟩],[⟨[114],0,false⟩],[⟨0,0,0,[120],0,false,false,[⟨0,160,160,true,false⟩,⟨1,200,200,false,true⟩]⟩],[],[],[⟨F9,150,1,1,0,255⟩],0,0,0⟩
def xQ:gy:=⟨0,1,100,false,1,0,false,false,0,false⟩
def xO:AW:=⟨[⟨true,0,0,1,0,1,160,200,false⟩],160,200,1,150,0,[⟨0,0,0,150⟩]⟩
def xT:ak:=⟨xN.stops,xN.au,[⟨JK,true,true,true,true,true,true,true,0,100⟩],[],[⟨[120],0,0,false,[⟨0,100,100,true,false⟩,⟨1,140,140,false,true⟩]⟩],[],[],[],[],xN.aP,0,0,0⟩
theorem aiG:gB [xT.pv]=some (.aO [.int .i64 0,.int .i64 0,.int .i64 0]):=by rfl
theorem afy:xN.Ok where
 stops:=⟨(by decide:2≤maxLen),fun y hy=>by simp only[xN,ake,alk,amL]at hy;rcases hy with rfl|rfl<;>exact⟨by decide,by rfl,by rfl⟩⟩
 au:=⟨(by decide:1≤maxLen),fun y hy=>by simp only[xN,ake,alk,amL]at hy;subst hy;exact⟨by decide,by rfl⟩⟩
 runs:=⟨(by decide:1≤maxLen),fun y hy=>by simp only[xN,ake,alk,amL]at hy;subst hy;refine⟨by rfl,by rfl,by rfl,by decide,by rfl,by decide,fun z hz=>?_⟩;simp only[ake,alk,amL]at hz;rcases hz with rfl|rfl<;>exact⟨by rfl,by rfl,by rfl⟩⟩
 bj:=⟨by decide,fun y hy=>by cases hy⟩
 paths:=⟨by decide,fun y hy=>by cases hy⟩
 aP:=⟨(by decide:1≤maxLen),fun y hy=>by simp only[xN,ake,alk,amL]at hy;subst hy;exact⟨by decide,by rfl,by rfl,by rfl,by rfl,by rfl⟩⟩
 bX:=by rfl
 within:=by rfl
 cap:=by rfl
theorem WC:ff [xN.pv]=some (wB (0,0,0)):=by rw[vR xN afy (by decide),show qp xN=(0,0,0) by rfl]
theorem aiH:dm [xN.pv,xQ.pv]=some (.int .i64 0):=by
 unfold dm gU;iterate 21 refine(bs rfl).trans ?_
 refine(bs WC).trans ?_;rfl
theorem aiI:gr [xN.pv,QS xO.cp]=some (.aO [.rs 4 [.agg [.int .i64 160,.int .i64 200,.int .i64 1,.int .i64 1]],.int .i64 0]):=by
 unfold gr pG;iterate 12 refine(bs rfl).trans ?_
 refine(bs WC).trans ?_;rfl
theorem afz:eL [xN.pv,xQ.pv,QS xO.cp]=some (.aO [.agg [.int .i64 160,.int .i64 200,.int .i64 1,.int .i64 150,.int .i64 0],.rs 4 (xO.oS.map oG.pv),.int .i64 0]):=by
 unfold eL rz;iterate 23 refine(bs rfl).trans ?_
 refine(bs aiI).trans ?_;rfl
theorem aiJ{S R:Type}{body:S→(S→Option R)→Option R}{s s1:S}{r:Option R}(h0:∀rec,body s rec=rec s1)(h1:∀rec,body s1 rec=r):bk.run body s=r:=by show cg body (18446744073709551614+1+1) s=r;rw[cg,h0,cg,h1]
theorem afA:iI [xN.pv,xQ.pv,QS xO.cp]=some (.int .i64 0):=by
 unfold iI rA;iterate 24 refine(bs rfl).trans ?_
 refine aiJ (fun rec=>rfl) (fun rec=>?_);unfold mj;refine(IS (by decide)).trans ?_;refine(bs rfl).trans ?_;refine(IS (by decide)).trans ?_;refine(bs rfl).trans ?_;refine(IS (by simp)).trans ?_;refine(IS (by decide)).trans ?_;refine(bs (show iJ _=some (.int .i64 0) by rfl)).trans ?_;refine(bs rfl).trans ?_;refine(IS (by decide)).trans ?_;refine(bs afz).trans ?_;rfl
theorem aiK:fP [xN.pv,xQ.pv,QS xO.cp]=some (.aO [.int .i64 0,.int .i64 0]):=by
 unfold fP nJ;iterate 23 refine(bs rfl).trans ?_
 refine(bs aiH).trans ?_;refine(bs rfl).trans ?_;refine(IS (by simp)).trans ?_;refine(IS (by decide)).trans ?_;refine(bs (a:=.aO [.int .i64 1,.int .i64 0]) (by rfl)).trans ?_;iterate 3 refine(bs rfl).trans ?_
 refine(IS (by simp)).trans ?_;refine(bs afA).trans ?_;rfl
def xTP:PV:=.agg [.rs 4 (xT.stops.map Stop.pv),.rs 3 (xT.au.map aV.pv),.rs 10 (xT.eR.map qd.pv),.rs 0 [],.rs 5 (xT.ag.map bK.pv),.rs 0 [],.rs 0 [],.rs 0 [],.rs 0 [],.rs 6 (xT.aP.map aR.pv),.int .i64 0,.int .i64 0,.int .i64 0]
def xP:PV:=.agg [.rs 4 (xN.stops.map Stop.pv),.rs 3 (xN.au.map aV.pv),.rs 8 (xN.runs.map dL.pv),.rs 0 [],.rs 0 [],.rs 6 (xN.aP.map aR.pv),.int .i64 0,.int .i64 0,.int .i64 0]
def xF:List Fact:=[⟨1,0,1,-1,0⟩,⟨2,0,160,200,60⟩,⟨3,0,0,0,0⟩,⟨4,0,1,1,0⟩,⟨8,0,0,150,0⟩]
theorem QT{p p1:PV}(h:p=xTP∧p1=xP∨p=xT.pv∧p1=xN.pv):dq [p,p1,xQ.pv,xO.pv]=some (.aO [.rs 5 (xF.map Fact.pv),.int .i64 0]):=by
 rcases h with⟨rfl,rfl⟩|⟨rfl,rfl⟩
 all_goals
  unfold dq pF;iterate 43 refine(bs rfl).trans ?_
  refine(bs aiG).trans ?_;iterate 4 refine(bs rfl).trans ?_
  refine(IS (by simp)).trans ?_;refine(bs aiK).trans ?_;iterate 3 refine(bs rfl).trans ?_
  refine(IS (by simp)).trans ?_;refine(bs afz).trans ?_;rfl
theorem ab9:bx [xTP,xP,xQ.pv,xO.pv,.rs 5 (xF.map Fact.pv)]=some (.bool true)∧bx [xTP,xP,xQ.pv,xO.pv,.rs 5 ((xF.take 4).map Fact.pv)]=some (.bool false):=by
 constructor;all_goals
  unfold bx nI;iterate 44 refine(bs rfl).trans ?_
  refine(bs (QT (.inr ⟨rfl,rfl⟩))).trans ?_;rfl
theorem OO:cF [xP,xO.pv,Fact.pv ⟨1,0,1,-1,0⟩]=some (.aO [.str j1,.int .i64 0])∧cF [xP,xO.pv,Fact.pv ⟨2,0,160,200,60⟩]=some (.aO [.str dI,.int .i64 0])∧cF [xP,xO.pv,Fact.pv ⟨9,0,0,0,0⟩]=some (.aO [.str [],.int .i64 1]):=by
 refine⟨?_,?_,?_⟩;all_goals
  unfold cF ry;iterate 24 refine(bs rfl).trans ?_
  refine(bs WC).trans ?_;rfl
theorem LR:bt []=some (.bool true):=by
 unfold bt mL;refine(bs (a:=xTP) rfl).trans ?_;refine(bs rfl).trans ?_;refine(bs (a:=xP) rfl).trans ?_;refine(bs rfl).trans ?_;refine(bs (a:=xO.pv) rfl).trans ?_;refine(bs rfl).trans ?_;refine(bs (QT (.inl ⟨rfl,rfl⟩))).trans ?_;iterate 3 refine(bs rfl).trans ?_
 refine(bs (a:=false) (by rfl)).trans ?_;refine(bs (a:=false) (by rw[cond_false];refine(bs ab9.1).trans ?_;rfl)).trans ?_;refine(bs (a:=false) (by rw[cond_false];refine(bs ab9.2).trans ?_;rfl)).trans ?_;refine(IS (by simp)).trans ?_;refine(bs OO.1).trans ?_;iterate 3 refine(bs rfl).trans ?_
 refine(bs OO.2.1).trans ?_;iterate 3 refine(bs rfl).trans ?_
 refine(bs OO.2.2).trans ?_;rfl
end Go.Ab.Tt
