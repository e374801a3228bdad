/- Words of 8, 32 and 64 bits as Go's model reckons with them, named so that the walk keeps them whole. -/
import Derived.Test.YtdnlngbjpdbffaaGreatDoorLJ00
import Derived.WalkKit
set_option linter.all false
section
namespace Go.Wd
open Go
def n8 (x:UInt8):Int:=(x.toNat:Int)
def n32 (x:UInt32):Int:=(x.toNat:Int)
theorem n8_nonneg (x:UInt8):0<=n8 x:=Int.natCast_nonneg _
theorem n8_lt (x:UInt8):n8 x < 256:=by have:=x.toNat_lt;unfold n8;omega
theorem zH (x:UInt32):0<=n32 x:=Int.natCast_nonneg _
theorem zar (x:UInt32):n32 x < 4294967296:=by have:=x.toNat_lt;unfold n32;omega
theorem n8_inj {x y:UInt8}(h:n8 x=n8 y):x=y:=by unfold n8 at h;exact UInt8.toNat_inj.1 (by exact_mod_cast h)
theorem zk2 (x:UInt8):((x.toNat:Nat):Int)=n8 x:=rfl
theorem wrap_u64 (n:Int):IntKind.u64.wrap n=n % 18446744073709551616:=by simp [IntKind.wrap,IntKind.bits,IntKind.signed]
theorem wrap_u8_nat (n:Nat):IntKind.u8.wrap (n:Int)=((n % 256:Nat):Int):=by rw [IntKind.wrap_u8];rfl
theorem zcM (n:Nat):IntKind.u32.wrap (n:Int)=((n % 4294967296:Nat):Int):=by rw [IntKind.wrap_u32];rfl
theorem wrap_u64_nat (n:Nat):IntKind.u64.wrap (n:Int)=((n % 18446744073709551616:Nat):Int):=by rw [wrap_u64];rfl
theorem n8_of_nat (n:Nat):n8 (UInt8.ofNat n)=((n % 256:Nat):Int):=by unfold n8;simp
theorem zgX (n:Nat):n32 (UInt32.ofNat n)=((n % 4294967296:Nat):Int):=by unfold n32;simp
section bitops
theorem zcB (x:UInt32):BitVec.ofInt 32 (n32 x)=x.toBitVec:=by
 unfold n32;rw [BitVec.ofInt_natCast];apply BitVec.eq_of_toNat_eq;simp
theorem back32 (r:BitVec 32):IntKind.u32.wrap (r.toNat:Int)=n32 (UInt32.ofBitVec r):=by
 rw [zcM];unfold n32;congr 1;exact Nat.mod_eq_of_lt r.isLt
theorem and32 (x y:UInt32):bits .and .u32 (n32 x) (n32 y)=n32 (x &&& y):=by
 simp only [bits];rw [show IntKind.u32.bits=32 from rfl,zcB,zcB,back32];rfl
theorem or32 (x y:UInt32):bits .or .u32 (n32 x) (n32 y)=n32 (x ||| y):=by
 simp only [bits];rw [show IntKind.u32.bits=32 from rfl,zcB,zcB,back32];rfl
theorem xor32 (x y:UInt32):bits .xor .u32 (n32 x) (n32 y)=n32 (x ^^^ y):=by
 simp only [bits];rw [show IntKind.u32.bits=32 from rfl,zcB,zcB,back32];rfl
theorem not32 (x:UInt32):bits .xor .u32 IntKind.u32.max (n32 x)=n32 (~~~x):=by
 have h:IntKind.u32.max=n32 0xffffffff:=rfl;rw [h,xor32];congr 1
end bitops
section arith
theorem add32 (x y:UInt32):IntKind.u32.wrap (n32 x+n32 y)=n32 (x+y):=by
 unfold n32;rw [<-Int.natCast_add,zcM];congr 1
theorem add32m (x y:UInt32):(n32 x+n32 y) % (4294967296:Int)=n32 (x+y):=by rw [<-IntKind.wrap_u32,add32]
theorem zid (x:UInt8):IntKind.u32.wrap (n8 x)=n32 x.toUInt32:=by
 unfold n8 n32;rw [zcM];congr 1;have:=x.toNat_lt;simp
theorem zb4 (x:UInt32):IntKind.u8.wrap (n32 x)=n8 x.toUInt8:=by
 unfold n8 n32;rw [wrap_u8_nat];congr 1
end arith
section shifts
theorem shr32 (x:UInt32) (n:Nat) (h:n < 32):n32 x / (2 ^ n:Nat)=n32 (x >>> UInt32.ofNat n):=by
 unfold n32;rw [<-Int.natCast_ediv];congr 1;rw [UInt32.toNat_shiftRight,Nat.shiftRight_eq_div_pow];congr 2;rw [UInt32.toNat_ofNat'];omega
theorem shl32 (x:UInt32) (n:Nat) (h:n < 32):IntKind.u32.wrap (n32 x*(2 ^ n:Nat))=n32 (x <<< UInt32.ofNat n):=by
 unfold n32;rw [<-Int.natCast_mul,zcM];congr 1;rw [UInt32.toNat_shiftLeft,Nat.shiftLeft_eq];rw [UInt32.toNat_ofNat'];rw [show n % 2 ^ 32 % 32=n from by omega]
theorem opshr32 (x:UInt32) (k:IntKind) (n:Nat) (h:n < 32):Op.shift .shr .u32 (n32 x) k (n:Int)=pure (.int .u32 (n32 (x >>> UInt32.ofNat n))):=by
 rw [shift_shr_any _ _ _ _ (Int.natCast_nonneg _),<-shr32 x n h];congr 2;rw [Int.toNat_natCast,show min n IntKind.u32.bits=n from Nat.min_eq_left (Nat.le_of_lt h)];simp
theorem zop (x:UInt32):IntKind.u32.wrap (n32 x*(16777216:Int))=n32 (x <<< 24):=shl32 x 24 q_e
theorem zok (x:UInt32):IntKind.u32.wrap (n32 x*(65536:Int))=n32 (x <<< 16):=shl32 x 16 q_e
theorem zqX (x:UInt32):IntKind.u32.wrap (n32 x*(256:Int))=n32 (x <<< 8):=shl32 x 8 q_e
theorem zoN (x:UInt32):n32 x / (16777216:Int)=n32 (x >>> 24):=shr32 x 24 q_e
theorem zo9 (x:UInt32):n32 x / (65536:Int)=n32 (x >>> 16):=shr32 x 16 q_e
theorem zp9 (x:UInt32):n32 x / (256:Int)=n32 (x >>> 8):=shr32 x 8 q_e
theorem zke (x:UInt32):n32 x / (1024:Int)=n32 (x >>> 10):=shr32 x 10 q_e
theorem zkP (x:UInt32):n32 x / (8:Int)=n32 (x >>> 3):=shr32 x 3 q_e
end shifts
end Go.Wd
end
