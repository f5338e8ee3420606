import Derived.Test.YtmbihgjlollbeaaGreatAbSeat
set_option linter.all false
namespace Go.Ab
def pcF:Nat→Nat→Nat
 |0,_=>0
 |f+1,n=>n%2+pcF f (n/2)
def pc(n:Nat):Nat:=pcF 64 n
def Lz:List PV→Option PV
 |[.int .u64 n]=>some (.int .i64 (pc n.toNat))
 |_=>none
theorem LA:∀f,pcF f 0=0
 |0=>rfl
 |f+1=>by simp[pcF,LA f]
theorem V4:∀f n,pcF f n≤f
 |0,_=>akk _
 |f+1,n=>by have:=V4 f (n/2);simp only[pcF];omega
theorem Qp:∀f m,0<m→m<2^f→pcF f (m&&&(m-1))+1=pcF f m
 |0,m,h,h2=>by simp at h2;omega
 |f+1,m,h,h2=>by
  simp only[pcF];have e1:(m&&&(m-1))/2=(m/2)&&&((m-1)/2):=by have:=Nat.and_div_two_pow (a:=m) (b:=m-1) (n:=1);simpa using this
  have e2:(m&&&(m-1))%2=(m%2)&&&((m-1)%2):=by have:=Nat.and_mod_two_pow (a:=m) (b:=m-1) (n:=1);simpa using this
  rw[e1,e2];rcases Nat.mod_two_eq_zero_or_one m with h3|h3
  ·have h4:(m-1)%2=1:=by omega
   have h5:(m-1)/2=m/2-1:=by omega
   rw[h3,h4,h5];have:=Qp f (m/2) (by omega) (by rw[ani]at h2;omega);simp only[Nat.zero_and,akV];omega
  ·have h4:(m-1)%2=0:=by omega
   have h5:(m-1)/2=m/2:=by omega
   rw[h3,h4,h5,Nat.and_self];simp only[Nat.and_zero,akV];omega
theorem adb{m:Nat}(h:0<m)(h2:m<2^64):pc (m&&&(m-1))+1=pc m:=Qp 64 m h h2
end Go.Ab
