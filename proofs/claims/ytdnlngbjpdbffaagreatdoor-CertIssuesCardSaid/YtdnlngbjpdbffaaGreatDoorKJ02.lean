/- Lemmas of this proof. -/
import Derived.Test.YtdnlngbjpdbffaaGreatDoorKJ00
import Derived.WalkKit
set_option linter.all false
namespace Go.Wd
open Go
def n8(x:UInt8):Int:=(x.toNat:Int)
def n32(x:UInt32):Int:=(x.toNat:Int)
theorem n8_nonneg(x:UInt8):0<=n8 x:=BV _
theorem n8_lt(x:UInt8):n8 x<256:=by have:=x.toNat_lt;unfold n8;omega
theorem zQ(x:UInt32):0<=n32 x:=BV _
theorem zaR(x:UInt32):n32 x<4294967296:=by have:=x.toNat_lt;unfold n32;omega
theorem n8_inj{x y:UInt8}(h:n8 x=n8 y):x=y:=by unfold n8 at h;exact C4.1 (by exact_mod_cast h)
theorem zow(x:UInt8):((x.toNat:Nat):Int)=n8 x:=rfl
theorem wrap_u64(n:Int):IntKind.u64.wrap n=n%18446744073709551616:=by simp[IntKind.wrap,IntKind.bits,IntKind.signed]
theorem wrap_u8_nat(n:Nat):IntKind.u8.wrap (n:Int)=((n%256:Nat):Int):=by rw[IntKind.wrap_u8];rfl
theorem zez(n:Nat):IntKind.u32.wrap (n:Int)=((n%4294967296:Nat):Int):=by rw[IntKind.wrap_u32];rfl
theorem wrap_u64_nat(n:Nat):IntKind.u64.wrap (n:Int)=((n%18446744073709551616:Nat):Int):=by rw[wrap_u64];rfl
theorem n8_of_nat(n:Nat):n8 (UInt8.ofNat n)=((n%256:Nat):Int):=by unfold n8;simp
theorem zj6(n:Nat):n32 (UInt32.ofNat n)=((n%4294967296:Nat):Int):=by unfold n32;simp
theorem zel(x:UInt32):BitVec.ofInt 32 (n32 x)=x.toBitVec:=by
 unfold n32;rw[DA];apply Eg;simp
theorem znU(r:BitVec 32):IntKind.u32.wrap (r.toNat:Int)=n32 (UInt32.ofBitVec r):=by
 rw[zez];unfold n32;congr 1;exact A3 r.isLt
theorem zuc(x y:UInt32):bits .and .u32 (n32 x) (n32 y)=n32 (x &&& y):=by
 simp only[bits];rw[show IntKind.u32.bits=32 from rfl,zel,zel,znU];rfl
theorem ztO(x y:UInt32):bits .or .u32 (n32 x) (n32 y)=n32 (x ||| y):=by
 simp only[bits];rw[show IntKind.u32.bits=32 from rfl,zel,zel,znU];rfl
theorem zkw(x y:UInt32):bits .xor .u32 (n32 x) (n32 y)=n32 (x ^^^ y):=by
 simp only[bits];rw[show IntKind.u32.bits=32 from rfl,zel,zel,znU];rfl
theorem zt6(x:UInt32):bits .xor .u32 IntKind.u32.max (n32 x)=n32 (~~~x):=by
 have h:IntKind.u32.max=n32 0xffffffff:=rfl;rw[h,zkw];congr 1
theorem zi4(x y:UInt32):IntKind.u32.wrap (n32 x+n32 y)=n32 (x+y):=by
 unfold n32;rw[<-DT,zez];congr 1
theorem zr1(x y:UInt32):(n32 x+n32 y)%(4294967296:Int)=n32 (x+y):=by rw[<-IntKind.wrap_u32,zi4]
theorem zlE(x:UInt8):IntKind.u32.wrap (n8 x)=n32 x.toUInt32:=by
 unfold n8 n32;rw[zez];congr 1;have:=x.toNat_lt;simp
theorem zdz(x:UInt32):IntKind.u8.wrap (n32 x)=n8 x.toUInt8:=by
 unfold n8 n32;rw[wrap_u8_nat];congr 1
theorem zgI(x:UInt32)(n:Nat)(h:n<32):n32 x/(2^n:Nat)=n32 (x >>> UInt32.ofNat n):=by
 unfold n32;rw[<-DG];congr 1;rw[EQ,EH];congr 2;rw[Cn];omega
theorem zmc(x:UInt32)(n:Nat)(h:n<32):IntKind.u32.wrap (n32 x*(2^n:Nat))=n32 (x <<< UInt32.ofNat n):=by
 unfold n32;rw[<-BW,zez];congr 1;rw[Dd,C6];rw[Cn];rw[show n%2^32%32=n from by omega]
theorem zk6(x:UInt32)(k:IntKind)(n:Nat)(h:n<32):Op.shift .shr .u32 (n32 x) k (n:Int)=pure (.int .u32 (n32 (x >>> UInt32.ofNat n))):=by
 rw[shift_shr_any _ _ _ _ (BV _),<-zgI x n h];congr 2;rw[B6,show min n IntKind.u32.bits=n from BO (BH h)];simp
theorem zsQ(x:UInt32):IntKind.u32.wrap (n32 x*(16777216:Int))=n32 (x <<< 24):=zmc x 24 q_e
theorem zsB(x:UInt32):IntKind.u32.wrap (n32 x*(65536:Int))=n32 (x <<< 16):=zmc x 16 q_e
theorem zuQ(x:UInt32):IntKind.u32.wrap (n32 x*(256:Int))=n32 (x <<< 8):=zmc x 8 q_e
theorem zsx(x:UInt32):n32 x/(16777216:Int)=n32 (x >>> 24):=zgI x 24 q_e
theorem zsf(x:UInt32):n32 x/(65536:Int)=n32 (x >>> 16):=zgI x 16 q_e
theorem zuP(x:UInt32):n32 x/(256:Int)=n32 (x >>> 8):=zgI x 8 q_e
theorem zmA(x:UInt32):n32 x/(1024:Int)=n32 (x >>> 10):=zgI x 10 q_e
theorem zou(x:UInt32):n32 x/(8:Int)=n32 (x >>> 3):=zgI x 3 q_e
end Go.Wd
