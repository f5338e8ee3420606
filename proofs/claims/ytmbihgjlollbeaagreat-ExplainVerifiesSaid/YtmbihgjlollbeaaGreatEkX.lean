import Derived.Test.YtmbihgjlollbeaaGreatEkO
import Derived.Test.YtmbihgjlollbeaaGreatFbP1
namespace Go.Ab.Tt
set_option maxRecDepth 100000
set_option maxHeartbeats 4000000
set_option linter.all false
theorem bs{α β:Type}{o:Option α}{a:α}{f:α→Option β}(h:o=some a):o.bind f=f a:=by rw[h];rfl
def xN:an:=⟨[⟨[97],0,false,0⟩,⟨[98],0,false,0⟩],[⟨[114],0,false⟩],[⟨0,0,0,[120],0,false,false,[⟨0,160,160,true,false⟩,⟨1,200,200,false,true⟩]⟩],[],[],[⟨R8,150,1,1,0,255⟩],0,0,0⟩
def xQ:iI:=⟨0,1,100,false,1,0,false,false,0,false⟩
def xO:HV:=⟨[⟨true,0,0,1,0,1,160,200,false⟩],160,200,1,150,0,[⟨0,0,0,150⟩]⟩
def xT:ay:=⟨xN.stops,xN.aj,[⟨W7,true,true,true,true,true,true,true,0,100⟩],[],[⟨[120],0,0,false,[⟨0,100,100,true,false⟩,⟨1,140,140,false,true⟩]⟩],[],[],[],[],xN.aK,0,0,0⟩
theorem aqu:iu [xT.pv]=some (.aG [.int .i64 0,.int .i64 0,.int .i64 0]):=by rfl
theorem anh:xN.Ok where
 stops:=⟨(by decide:2≤maxLen),fun y hy=>by simp only[xN,asm,atF,avj]at hy;rcases hy with rfl|rfl<;>exact⟨by decide,by rfl,by rfl⟩⟩
 aj:=⟨(by decide:1≤maxLen),fun y hy=>by simp only[xN,asm,atF,avj]at hy;subst hy;exact⟨by decide,by rfl⟩⟩
 runs:=⟨(by decide:1≤maxLen),fun y hy=>by simp only[xN,asm,atF,avj]at hy;subst hy;refine⟨by rfl,by rfl,by rfl,by decide,by rfl,by decide,fun z hz=>?_⟩;simp only[asm,atF,avj]at hz;rcases hz with rfl|rfl<;>exact⟨by rfl,by rfl,by rfl⟩⟩
 aH:=⟨by decide,fun y hy=>by cases hy⟩
 paths:=⟨by decide,fun y hy=>by cases hy⟩
 aK:=⟨(by decide:1≤maxLen),fun y hy=>by simp only[xN,asm,atF,avj]at hy;subst hy;exact⟨by decide,by rfl,by rfl,by rfl,by rfl,by rfl⟩⟩
 bp:=by rfl
 within:=by rfl
 cap:=by rfl
theorem adF:fS [xN.pv]=some (iU (0,0,0)):=by rw[F6 xN anh (by decide),show ue xN=(0,0,0) by rfl]
theorem aqv:dK [xN.pv,xQ.pv]=some (.int .i64 0):=by
 unfold dK jd;iterate 21 refine(bs rfl).trans ?_
 refine(bs adF).trans ?_;rfl
theorem aqw:ig [xN.pv,Kr xO.bw]=some (.aG [.rs 4 [.agg [.int .i64 160,.int .i64 200,.int .i64 1,.int .i64 1]],.int .i64 0]):=by
 unfold ig sR;iterate 12 refine(bs rfl).trans ?_
 refine(bs adF).trans ?_;rfl
theorem ani:fu [xN.pv,xQ.pv,Kr xO.bw]=some (.aG [.agg [.int .i64 160,.int .i64 200,.int .i64 1,.int .i64 150,.int .i64 0],.rs 4 (xO.jb.map iY.pv),.int .i64 0]):=by
 unfold fu vn;iterate 23 refine(bs rfl).trans ?_
 refine(bs aqw).trans ?_;rfl
theorem aqx{S R:Type}{body:S→(S→Option R)→Option R}{s s1:S}{r:Option R}(h0:∀rec,body s rec=rec s1)(h1:∀rec,body s1 rec=r):bd.run body s=r:=by show cE body (18446744073709551614+1+1) s=r;rw[cE,h0,cE,h1]
theorem anj:jO [xN.pv,xQ.pv,Kr xO.bw]=some (.int .i64 0):=by
 unfold jO vo;iterate 24 refine(bs rfl).trans ?_
 refine aqx (fun rec=>rfl) (fun rec=>?_);unfold od;refine(IS (by decide)).trans ?_;refine(bs rfl).trans ?_;refine(IS (by decide)).trans ?_;refine(bs rfl).trans ?_;refine(IS (by simp)).trans ?_;refine(IS (by decide)).trans ?_;refine(bs (show jP _=some (.int .i64 0) by rfl)).trans ?_;refine(bs rfl).trans ?_;refine(IS (by decide)).trans ?_;refine(bs ani).trans ?_;rfl
theorem aqy:gu [xN.pv,xQ.pv,Kr xO.bw]=some (.aG [.int .i64 0,.int .i64 0]):=by
 unfold gu qg;iterate 23 refine(bs rfl).trans ?_
 refine(bs aqv).trans ?_;refine(bs rfl).trans ?_;refine(IS (by simp)).trans ?_;refine(IS (by decide)).trans ?_;refine(bs (a:=.aG [.int .i64 1,.int .i64 0]) (by rfl)).trans ?_;iterate 3 refine(bs rfl).trans ?_
 refine(IS (by simp)).trans ?_;refine(bs anj).trans ?_;rfl
def xTP:PV:=.agg [.rs 4 (xT.stops.map Stop.pv),.rs 3 (xT.aj.map ax.pv),.rs 10 (xT.dp.map mL.pv),.rs 0 [],.rs 5 (xT.ae.map br.pv),.rs 0 [],.rs 0 [],.rs 0 [],.rs 0 [],.rs 6 (xT.aK.map aM.pv),.int .i64 0,.int .i64 0,.int .i64 0]
def xP:PV:=.agg [.rs 4 (xN.stops.map Stop.pv),.rs 3 (xN.aj.map ax.pv),.rs 8 (xN.runs.map cy.pv),.rs 0 [],.rs 0 [],.rs 6 (xN.aK.map aM.pv),.int .i64 0,.int .i64 0,.int .i64 0]
def xF:List Fact:=[⟨1,0,1,-1,0⟩,⟨2,0,160,200,60⟩,⟨3,0,0,0,0⟩,⟨4,0,1,1,0⟩,⟨8,0,0,150,0⟩]
theorem W8{p p1:PV}(h:p=xTP∧p1=xP∨p=xT.pv∧p1=xN.pv):fR [p,p1,xQ.pv,xO.pv]=some (.aG [.rs 5 (xF.map Fact.pv),.int .i64 0]):=by
 rcases h with⟨rfl,rfl⟩|⟨rfl,rfl⟩
 all_goals
  unfold fR sO;iterate 43 refine(bs rfl).trans ?_
  refine(bs aqu).trans ?_;iterate 4 refine(bs rfl).trans ?_
  refine(IS (by simp)).trans ?_;refine(bs aqy).trans ?_;iterate 3 refine(bs rfl).trans ?_
  refine(IS (by simp)).trans ?_;refine(bs ani).trans ?_;rfl
theorem aiE:cM [xTP,xP,xQ.pv,xO.pv,.rs 5 (xF.map Fact.pv)]=some (.bool true)∧cM [xTP,xP,xQ.pv,xO.pv,.rs 5 ((xF.take 4).map Fact.pv)]=some (.bool false):=by
 constructor;all_goals
  unfold cM qf;iterate 44 refine(bs rfl).trans ?_
  refine(bs (W8 (.inr ⟨rfl,rfl⟩))).trans ?_;rfl
theorem U3:fv [xP,xO.pv,Fact.pv ⟨1,0,1,-1,0⟩]=some (.aG [.str lP,.int .i64 0])∧fv [xP,xO.pv,Fact.pv ⟨2,0,160,200,60⟩]=some (.aG [.str ef,.int .i64 0])∧fv [xP,xO.pv,Fact.pv ⟨9,0,0,0,0⟩]=some (.aG [.str [],.int .i64 1]):=by
 refine⟨?_,?_,?_⟩;all_goals
  unfold fv Bt;iterate 24 refine(bs rfl).trans ?_
  refine(bs adF).trans ?_;rfl
theorem adE:cC []=some (.bool true):=by
 unfold cC oO;refine(bs (a:=xTP) rfl).trans ?_;refine(bs rfl).trans ?_;refine(bs (a:=xP) rfl).trans ?_;refine(bs rfl).trans ?_;refine(bs (a:=xO.pv) rfl).trans ?_;refine(bs rfl).trans ?_;refine(bs (W8 (.inl ⟨rfl,rfl⟩))).trans ?_;iterate 3 refine(bs rfl).trans ?_
 refine(bs (a:=false) (by rfl)).trans ?_;refine(bs (a:=false) (by rw[cond_false];refine(bs aiE.1).trans ?_;rfl)).trans ?_;refine(bs (a:=false) (by rw[cond_false];refine(bs aiE.2).trans ?_;rfl)).trans ?_;refine(IS (by simp)).trans ?_;refine(bs U3.1).trans ?_;iterate 3 refine(bs rfl).trans ?_
 refine(bs U3.2.1).trans ?_;iterate 3 refine(bs rfl).trans ?_
 refine(bs U3.2.2).trans ?_;rfl
end Go.Ab.Tt
