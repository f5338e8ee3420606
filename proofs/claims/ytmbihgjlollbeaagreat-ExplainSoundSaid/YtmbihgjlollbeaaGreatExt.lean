import Derived.Test.YtmbihgjlollbeaaGreatChecked
import Derived.Test.YtmbihgjlollbeaaGreatTab
import Derived.WalkKit
import Derived.ScopeJumps
namespace Go.Proofs.YtmbihgjlollbeaaGreat
open Go.Ab
theorem and_val{m:Nat}(h:0<m)(h2:m<18446744073709551616):bits .and .u64 (m:Int) (IntKind.u64.wrap ((m:Int)-1))=((m&&&(m-1):Nat):Int):=by
 have e1:IntKind.u64.wrap ((m:Int)-1)=((m-1:Nat):Int):=by simp only[IntKind.wrap,IntKind.signed,IntKind.bits];simp;omega
 rw[e1];have e2:(BitVec.ofInt 64 (m:Int)&&&BitVec.ofInt 64 ((m-1:Nat):Int)).toNat=m&&&(m-1):=by rw[BitVec.toNat_and];simp only[BitVec.ofInt_natCast,BitVec.toNat_ofNat];rw[alL (by omega),alL (by omega)]
 have:=amN (n:=m) (m:=m-1);show IntKind.u64.wrap (((BitVec.ofInt 64 (m:Int)&&&BitVec.ofInt 64 ((m-1:Nat):Int)).toNat:Nat):Int)=_;rw[e2];simp only[IntKind.wrap,IntKind.signed,IntKind.bits];simp;omega
def aca:Value→Nat|.int _ q=>q.toNat|_=>0
set_option maxRecDepth 1000000 in
theorem WD(pc:Nat→Nat)(h0:pc 0=0)(h1:∀m,0<m→m<18446744073709551616→pc (m&&&(m-1))+1=pc m)(n:Nat)(hle:pc n≤64)(hn:n<18446744073709551616)(w:World):Calls Tryz.prog 223 #[.int .u64 (n:Int)] w fun e w'=>e=.returned (.int .i64 ((pc n:Nat):Int))∧w'=w:=by
 go_enter Tryz.func223,Tryz.ntmps223
 refine wp_seq ?_;have key:∀(K:Act→World→Prop)(hK:K {tmps:= #[.int .u64 (n:Int),undef,.int .i64 0,undef,undef,undef,undef,undef,undef,undef,undef,undef,undef],defers:=[]} w)(Q:Exit→Act→World→Prop),Code.wp Tryz.prog (Code.region 0 #[{dst:=some 2,op:=Op.assign (Operand.const (Value.int IntKind.i64 0)),type:=3,pos:= "bitset.go:71",after:= #[],guard:=none}] false) (Exit.then K Q) {tmps:= #[.int .u64 (n:Int),undef,undef,undef,undef,undef,undef,undef,undef,undef,undef,undef,undef],defers:=[]} w:=by
  intro K hK Q
  go_wp2
  exact hK
 refine key _ ?_ _;refine wp_scope_jumps 0 (fun a' w'=>w'=w∧∃(m k:Nat)(u1 u2 u4 u5 u6 u7 u8 u9 u10 u11 u12:Value),a'={tmps:= #[.int .u64 (m:Int),u1,u2,.int .i64 (k:Int),u4,u5,u6,u7,u8,u9,u10,u11,u12],defers:=[]}∧pc m+k=pc n∧m<18446744073709551616) (fun a' _=>aca (a'.tmps.getD 0 undef)) rfl ?_ ?_
 ·go_wp2
  go_step3
  go_wp2
  ·rename_i he;simp only[Exit.jump]
   go_ret
   have hz:n=0:=by simpa using he
   rw[hz,h0];exact⟨rfl,rfl⟩
  ·rename_i he
   go_step3
   have hp:0<n:=by simp at he;omega
   rw[and_val hp hn];have:=h1 n hp hn;have:=amN (n:=n) (m:=n-1);exact⟨rfl,rfl,n&&&(n-1),1,_,_,_,_,_,_,_,_,_,_,_,rfl,by omega,by omega⟩
 ·rintro a' w' ⟨rfl,m,k,u1,u2,u4,u5,u6,u7,u8,u9,u10,u11,u12,rfl,hs,hm⟩
  go_wp2
  ·rename_i he;simp only[Exit.jump]
   go_ret
   have hz:m=0:=by simpa using he
   subst hz;rw[h0,akV]at hs;rw[hs];exact⟨rfl,rfl⟩
  ·rename_i he
   go_step3
   have hp:0<m:=by simp at he;omega
   rw[and_val hp hm];have:=h1 m hp hm;have:=amN (n:=m) (m:=m-1);refine⟨rfl,⟨rfl,m&&&(m-1),k+1,_,_,_,_,_,_,_,_,_,_,_,by rw[Int.natCast_add];rfl,by omega,by omega⟩,?_⟩;simp[aca];omega
theorem aaS:vA S0.P S0.aG 223 Lz:=by
 refine⟨⟨Tryz.f223,_,Tryz.func223,rfl,by kernel_rfl⟩,fun ps r h w μ xs _ _ hlen lL=>?_⟩;unfold Lz at h;split at h
 ·rename_i n;simp only[cO]at h;subst h;obtain⟨x,rfl⟩:∃x,xs= #[x]:=by
   obtain⟨l⟩:=xs;match l,hlen with
   |[x],_=>exact⟨x,rfl⟩
   |[],h=>simp at h
   |_::_::_,h=>simp at h
  have hr:=lL 0 _ x rfl rfl;cases hr with
  |int Eb=>
   rw[mc]at Eb;simp only[IntKind.min,IntKind.max,IntKind.signed,IntKind.bits]at Eb;simp at Eb;obtain⟨m,rfl⟩:∃m:Nat,n=m:=⟨n.toNat,by omega⟩;have hm:m<18446744073709551616:=by omega
   rw[akc];have hle:=V4 64 m;refine(WD pc (LA 64) (fun m h1 h2=>adb h1 h2) m hle hm w).mono ?_;rintro e w' ⟨rfl,rfl⟩;refine⟨_,rfl,lM.refl _ _,.int ?_⟩;rw[mc];have:pc m≤64:=hle;simp[IntKind.min,IntKind.max,IntKind.signed,IntKind.bits];omega
 ·cases h
end Go.Proofs.YtmbihgjlollbeaaGreat
