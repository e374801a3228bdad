/- Lemmas. -/
import Derived.Test.YtdnlngbjpdbffaaGreatDoorZJ00
import Derived.WalkKit
set_option linter.all false
namespace Go.Wd
open Go
def n8(x:UInt8):Int:=(x.toNat:Int)
def n32(x:UInt32):Int:=(x.toNat:Int)
theorem n8_nonneg(x:UInt8):0<=n8 x:=Bq _
theorem n8_lt(x:UInt8):n8 x<256:=by have:=x.toNat_lt;unfold n8;omega
theorem n8_inj{x y:UInt8}(h:n8 x=n8 y):x=y:=by unfold n8 at h;exact Bf.1 (by exact_mod_cast h)
theorem zp3(x:UInt8):((x.toNat:Nat):Int)=n8 x:=rfl
theorem wrap_u64(n:Int):IntKind.u64.wrap n=n%18446744073709551616:=by simp[IntKind.wrap,IntKind.bits,IntKind.signed]
theorem wrap_u8_nat(n:Nat):IntKind.u8.wrap (n:Int)=((n%256:Nat):Int):=by rw[IntKind.wrap_u8];rfl
theorem zfa(n:Nat):IntKind.u32.wrap (n:Int)=((n%4294967296:Nat):Int):=by rw[IntKind.wrap_u32];rfl
theorem wrap_u64_nat(n:Nat):IntKind.u64.wrap (n:Int)=((n%18446744073709551616:Nat):Int):=by rw[wrap_u64];rfl
theorem n8_of_nat(n:Nat):n8 (UInt8.ofNat n)=((n%256:Nat):Int):=by unfold n8;simp
theorem ze0(x:UInt32):BitVec.ofInt 32 (n32 x)=x.toBitVec:=by
 unfold n32;rw[Cr];apply BitVec.eq_of_toNat_eq;simp
theorem zps(r:BitVec 32):IntKind.u32.wrap (r.toNat:Int)=n32 (UInt32.ofBitVec r):=by
 rw[zfa];unfold n32;congr 1;exact A9 r.isLt
theorem zwt(x y:UInt32):bits .and .u32 (n32 x) (n32 y)=n32 (x &&& y):=by
 simp only[bits];rw[show IntKind.u32.bits=32 from rfl,ze0,ze0,zps];rfl
theorem zv9(x y:UInt32):bits .or .u32 (n32 x) (n32 y)=n32 (x ||| y):=by
 simp only[bits];rw[show IntKind.u32.bits=32 from rfl,ze0,ze0,zps];rfl
theorem zlL(x y:UInt32):bits .xor .u32 (n32 x) (n32 y)=n32 (x ^^^ y):=by
 simp only[bits];rw[show IntKind.u32.bits=32 from rfl,ze0,ze0,zps];rfl
theorem zwu(x:UInt32):bits .xor .u32 IntKind.u32.max (n32 x)=n32 (~~~x):=by
 have h:IntKind.u32.max=n32 0xffffffff:=rfl;rw[h,zlL];congr 1
theorem zlJ(x y:UInt32):IntKind.u32.wrap (n32 x+n32 y)=n32 (x+y):=by
 unfold n32;rw[<-Di,zfa];congr 1
theorem zmZ(x:UInt8):IntKind.u32.wrap (n8 x)=n32 x.toUInt32:=by
 unfold n8 n32;rw[zfa];congr 1;have:=x.toNat_lt;simp
theorem ze4(x:UInt32):IntKind.u8.wrap (n32 x)=n8 x.toUInt8:=by
 unfold n8 n32;rw[wrap_u8_nat];congr 1
theorem ziI(x:UInt32)(n:Nat)(h:n<32):n32 x/(2^n:Nat)=n32 (x >>> UInt32.ofNat n):=by
 unfold n32;rw[<-E7];congr 1;rw[UInt32.toNat_shiftRight,Nat.shiftRight_eq_div_pow];congr 2;rw[Eg];omega
theorem znH(x:UInt32)(n:Nat)(h:n<32):IntKind.u32.wrap (n32 x*(2^n:Nat))=n32 (x <<< UInt32.ofNat n):=by
 unfold n32;rw[<-Bg,zfa];congr 1;rw[UInt32.toNat_shiftLeft,Nat.shiftLeft_eq];rw[Eg];rw[show n%2^32%32=n from by omega]
theorem zmp(x:UInt32)(k:IntKind)(n:Nat)(h:n<32):Op.shift .shr .u32 (n32 x) k (n:Int)=pure (.int .u32 (n32 (x >>> UInt32.ofNat n))):=by
 rw[shift_shr_any _ _ _ _ (Bq _),<-ziI x n h];congr 2;rw[Bn,show min n IntKind.u32.bits=n from BP (BT h)];simp
theorem zvq(x:UInt32):IntKind.u32.wrap (n32 x*(16777216:Int))=n32 (x <<< 24):=znH x 24 q_e
theorem zvr(x:UInt32):IntKind.u32.wrap (n32 x*(65536:Int))=n32 (x <<< 16):=znH x 16 q_e
theorem zxv(x:UInt32):IntKind.u32.wrap (n32 x*(256:Int))=n32 (x <<< 8):=znH x 8 q_e
theorem zuU(x:UInt32):n32 x/(16777216:Int)=n32 (x >>> 24):=ziI x 24 q_e
theorem zu9(x:UInt32):n32 x/(65536:Int)=n32 (x >>> 16):=ziI x 16 q_e
theorem zwY(x:UInt32):n32 x/(256:Int)=n32 (x >>> 8):=ziI x 8 q_e
theorem zoF(x:UInt32):n32 x/(1024:Int)=n32 (x >>> 10):=ziI x 10 q_e
theorem zqu(x:UInt32):n32 x/(8:Int)=n32 (x >>> 3):=ziI x 3 q_e
end Go.Wd
