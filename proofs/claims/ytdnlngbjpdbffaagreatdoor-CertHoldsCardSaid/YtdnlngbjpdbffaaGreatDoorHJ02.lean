/- Lemmas of this proof. -/
import Derived.Test.YtdnlngbjpdbffaaGreatDoorHJ00
import Derived.WalkKit
set_option linter.all false
namespace Go.Wd
open Go
def n8(x:UInt8):Int:=(x.toNat:Int)
def n32(x:UInt32):Int:=(x.toNat:Int)
theorem n8_nonneg(x:UInt8):0<=n8 x:=Be _
theorem n8_lt(x:UInt8):n8 x<256:=by have:=x.toNat_lt;unfold n8;omega
theorem n8_inj{x y:UInt8}(h:n8 x=n8 y):x=y:=by unfold n8 at h;exact CB.1 (by exact_mod_cast h)
theorem zo1(x:UInt8):((x.toNat:Nat):Int)=n8 x:=rfl
theorem wrap_u64(n:Int):IntKind.u64.wrap n=n%18446744073709551616:=by simp[IntKind.wrap,IntKind.bits,IntKind.signed]
theorem wrap_u8_nat(n:Nat):IntKind.u8.wrap (n:Int)=((n%256:Nat):Int):=by rw[IntKind.wrap_u8];rfl
theorem zeQ(n:Nat):IntKind.u32.wrap (n:Int)=((n%4294967296:Nat):Int):=by rw[IntKind.wrap_u32];rfl
theorem wrap_u64_nat(n:Nat):IntKind.u64.wrap (n:Int)=((n%18446744073709551616:Nat):Int):=by rw[wrap_u64];rfl
theorem n8_of_nat(n:Nat):n8 (UInt8.ofNat n)=((n%256:Nat):Int):=by unfold n8;simp
theorem zev(x:UInt32):BitVec.ofInt 32 (n32 x)=x.toBitVec:=by
 unfold n32;rw[Cn];apply BitVec.eq_of_toNat_eq;simp
theorem zoj(r:BitVec 32):IntKind.u32.wrap (r.toNat:Int)=n32 (UInt32.ofBitVec r):=by
 rw[zeQ];unfold n32;congr 1;exact AA r.isLt
theorem zuP(x y:UInt32):bits .and .u32 (n32 x) (n32 y)=n32 (x &&& y):=by
 simp only[bits];rw[show IntKind.u32.bits=32 from rfl,zev,zev,zoj];rfl
theorem zur(x y:UInt32):bits .or .u32 (n32 x) (n32 y)=n32 (x ||| y):=by
 simp only[bits];rw[show IntKind.u32.bits=32 from rfl,zev,zev,zoj];rfl
theorem zkL(x y:UInt32):bits .xor .u32 (n32 x) (n32 y)=n32 (x ^^^ y):=by
 simp only[bits];rw[show IntKind.u32.bits=32 from rfl,zev,zev,zoj];rfl
theorem zuS(x:UInt32):bits .xor .u32 IntKind.u32.max (n32 x)=n32 (~~~x):=by
 have h:IntKind.u32.max=n32 0xffffffff:=rfl;rw[h,zkL];congr 1
theorem zkI(x y:UInt32):IntKind.u32.wrap (n32 x+n32 y)=n32 (x+y):=by
 unfold n32;rw[<-De,zeQ];congr 1
theorem zlK(x:UInt8):IntKind.u32.wrap (n8 x)=n32 x.toUInt32:=by
 unfold n8 n32;rw[zeQ];congr 1;have:=x.toNat_lt;simp
theorem zer(x:UInt32):IntKind.u8.wrap (n32 x)=n8 x.toUInt8:=by
 unfold n8 n32;rw[wrap_u8_nat];congr 1
theorem zhP(x:UInt32)(n:Nat)(h:n<32):n32 x/(2^n:Nat)=n32 (x >>> UInt32.ofNat n):=by
 unfold n32;rw[<-E2];congr 1;rw[UInt32.toNat_shiftRight,Nat.shiftRight_eq_div_pow];congr 2;rw[EV];omega
theorem zmt(x:UInt32)(n:Nat)(h:n<32):IntKind.u32.wrap (n32 x*(2^n:Nat))=n32 (x <<< UInt32.ofNat n):=by
 unfold n32;rw[<-BW,zeQ];congr 1;rw[UInt32.toNat_shiftLeft,Nat.shiftLeft_eq];rw[EV];rw[show n%2^32%32=n from by omega]
theorem zlk(x:UInt32)(k:IntKind)(n:Nat)(h:n<32):Op.shift .shr .u32 (n32 x) k (n:Int)=pure (.int .u32 (n32 (x >>> UInt32.ofNat n))):=by
 rw[shift_shr_any _ _ _ _ (Be _),<-zhP x n h];congr 2;rw[Bc,show min n IntKind.u32.bits=n from BX (Bh h)];simp
theorem zt2(x:UInt32):IntKind.u32.wrap (n32 x*(16777216:Int))=n32 (x <<< 24):=zmt x 24 q_e
theorem ztc(x:UInt32):IntKind.u32.wrap (n32 x*(65536:Int))=n32 (x <<< 16):=zmt x 16 q_e
theorem zvJ(x:UInt32):IntKind.u32.wrap (n32 x*(256:Int))=n32 (x <<< 8):=zmt x 8 q_e
theorem ztq(x:UInt32):n32 x/(16777216:Int)=n32 (x >>> 24):=zhP x 24 q_e
theorem zsU(x:UInt32):n32 x/(65536:Int)=n32 (x >>> 16):=zhP x 16 q_e
theorem zvt(x:UInt32):n32 x/(256:Int)=n32 (x >>> 8):=zhP x 8 q_e
theorem znv(x:UInt32):n32 x/(1024:Int)=n32 (x >>> 10):=zhP x 10 q_e
theorem zpx(x:UInt32):n32 x/(8:Int)=n32 (x >>> 3):=zhP x 3 q_e
end Go.Wd
