import Derived.Test.YtanikidijjaohaaGreatAbSeat
set_option linter.unusedVariables false
namespace Go.Ab
def Se:Nat→Nat→Nat
 |0,_=>0
 |f+1,n=>n%2+Se f (n/2)
def pc(n:Nat):Nat:=Se 64 n
def Gv:List PV→Option PV
 |[.int .u64 n]=>some (.int .i64 (pc n.toNat))
 |_=>none
theorem Ei:∀f,Se f 0=0
 |0=>rfl
 |f+1=>by simp[Se,Ei f]
theorem UZ:∀f n,Se f n≤f
 |0,_=>Nat.le_refl _
 |f+1,n=>by have:=UZ f (n/2);simp only[Se];omega
theorem Qt:∀f m,0<m→m<2^f→Se f (m&&&(m-1))+1=Se f m
 |0,m,h,h2=>by simp at h2;omega
 |f+1,m,h,h2=>by
  simp only[Se];have e1:(m&&&(m-1))/2=(m/2)&&&((m-1)/2):=by have:=Nat.and_div_two_pow (a:=m) (b:=m-1) (n:=1);simpa using this
  have e2:(m&&&(m-1))%2=(m%2)&&&((m-1)%2):=by have:=Nat.and_mod_two_pow (a:=m) (b:=m-1) (n:=1);simpa using this
  rw[e1,e2];rcases Nat.mod_two_eq_zero_or_one m with h3|h3
  ·have h4:(m-1)%2=1:=by omega
   have h5:(m-1)/2=m/2-1:=by omega
   rw[h3,h4,h5];have:=Qt f (m/2) (by omega) (by rw[Nat.pow_succ]at h2;omega);simp only[Nat.zero_and,Nat.zero_add];omega
  ·have h4:(m-1)%2=0:=by omega
   have h5:(m-1)/2=m/2:=by omega
   rw[h3,h4,h5,Nat.and_self];simp only[Nat.and_zero,Nat.zero_add];omega
theorem aaD{m:Nat}(h:0<m)(h2:m<2^64):pc (m&&&(m-1))+1=pc m:=Qt 64 m h h2
end Go.Ab
