import Derived.Test.YtmbihgjlollbeaaGreatSh4
set_option linter.unusedVariables false
set_option maxHeartbeats 4000000
namespace Go.Ab
noncomputable section
abbrev agK:=Int×List PV×List PV×List PV×List PV×List PV×List PV×List PV×List PV×List PV×List PV×Int×Int×Int×List PV×List PV×List PV×List PV×List PV×List PV×Int×Int×Int×List PV×Int×Int×Int×Int×Int×List PV×Unit
def tI:iM (List PV×Int×Int×Int×Unit):=fun(a,b,c,d,_)=>fun e=>if decide (d<(↑a.length:Int))=true then cm a d fun f=>iN pw [od f] fun f=>if f=true then cm a d fun f=>sC px [od f] fun f=>e (a,b,ay (c+f),ay (d+1),())else e (a,b,c,ay (d+1),())
else some (PV.bool (decide (c>b)))
def zY(L:bB)(p0 p1:PV):Option PV:=(aw 4 p0).bind fun a=>dy p1 fun b=>if decide ((↑a.length:Int)>100)=true then some (PV.bool true)else L.run tI (a,b,0,0,())
def qN:List PV→Option PV|[p0,p1]=>zY bn p0 p1|_=>none
def ku:iM (ail):=fun(a,b,c,d,e,f,g,h,i,j,_)=>fun k=>if decide (a<(↑d.length:Int))=true then cm d a fun l=>gN 5 l 7 fun l=>if decide ((↑l.length:Int)>40)=true then some (PV.bool true)else k (ay (a+1),b,c,d,e,f,g,h,i,j,())
else some (PV.bool false)
def rZ(L:bB):iM (agK):=fun(a,b,c,d,e,f,g,h,i,j,k,l,m,n,o,p,q,r,s,t,u,v,w,y,z,A,B,C,D,E,_)=>fun x=>if decide (a<(↑f.length:Int))=true then cm f a fun F=>gN 5 F 4 fun F=>if decide ((↑F.length:Int)>40)=true then some (PV.bool true)else x (ay (a+1),b,c,d,e,f,g,h,i,j,k,l,m,n,o,p,q,r,s,t,u,v,w,y,z,A,B,C,D,E,())
else dh (decide ((↑o.length:Int)>12)) (some (decide ((↑p.length:Int)>20))) fun F=>dh F (some (decide ((↑q.length:Int)>40))) fun F=>dh F (some (decide ((↑r.length:Int)>60))) fun F=>dh F (some (decide ((↑s.length:Int)>200))) fun F=>dh F (some (decide ((↑t.length:Int)>20))) fun F=>dh F (some (decide ((↑y.length:Int)>12))) fun F=>dh F (some (decide ((↑E.length:Int)>12))) fun F=>if F=true then some (PV.bool true)else L.run ku (0,o,p,q,r,s,t,u,v,w,())
def xv(L:bB)(p0 p1 p2:PV):Option PV:=S8 p0 fun a b c d e f g h i j k l m=>wC p1 fun n o p q r s t u v=>QY p2 fun w x y z A B C=>dh (decide ((↑a.length:Int)>70)) (some (decide ((↑b.length:Int)>70))) fun D=>dh D (some (decide ((↑c.length:Int)>70))) fun D=>dh D (some (decide ((↑d.length:Int)>40))) fun D=>dh D (some (decide ((↑e.length:Int)>12))) fun D=>dh D (some (decide ((↑g.length:Int)>40))) fun D=>dh D (some (decide ((↑h.length:Int)>40))) fun D=>dh D (some (decide ((↑i.length:Int)>60))) fun D=>dh D (some (decide ((↑j.length:Int)>20))) fun D=>dh D (iN qN [.rs 4 f,.int .i64 600] fun D=>some D) fun D=>if D=true then some (PV.bool true)else L.run (rZ L) (0,a,b,c,d,e,f,g,h,i,j,k,l,m,n,o,p,q,r,s,t,u,v,w,x,y,z,A,B,C,())
def lR:List PV→Option PV|[p0,p1,p2]=>xv bn p0 p1 p2|_=>none
end
end Go.Ab
