/- Lemmas of this proof. -/
import Derived.Test.YtdnlngbjpdbffaaGreatDoorKJ39
import Derived.Test.YtdnlngbjpdbffaaGreatDoorKJ40
set_option maxHeartbeats 4000000
set_option maxRecDepth 10000
set_option linter.all false
namespace Go.Proofs.YtdnlngbjpdbffaaGreatDoor
open Go Go.Sy Go.Nt Go.RowKit
attribute [local irreducible] Sy SyL SyX Sy.Fn callFunc zf z8 zG iC zap zab zaZ Sh.sum
theorem zmi{z:Int}{key j m s:List UInt8}(hs:zc4 z key j m=some s):s.length=2*gL z.toNat:=by
 unfold zc4 at hs;split at hs
 ·rename_i q;obtain⟨q,-,-,-⟩:=q;cases hs;unfold zcp at q;rw[AB,decide_eq_true_eq] at q;obtain⟨i,-,C,h0,r⟩:=zcs (zeT q.1).1;rw[C];have w:0<gQ i:=AG q_e (za3 i h0 r);have A:sE i (zaK z key).1 (zaJ z j).1 m<gQ i:=zfV h0 r _ _ _;have B:sS i (zaK z key).1 (zaJ z j).1 m<gQ i:=A7 _ w;rw[A2,zbZ _ _ (zfc h0 r A),zbZ _ _ (zfc h0 r B)];omega
 ·cases hs
theorem zwI(a b:Nat)(ha:a<256)(hb:0<b/\b<256):zaF 2 (a*256+b)= [UInt8.ofNat a,UInt8.ofNat b]:=by
 by_cases h0:a=0
 ·subst h0;have q:nd 256 (0*256+b)=1:=zch 256 _ 1 q_e q_o (λ_=>by omega);unfold zaF byt be cd;rw[q];simp[dg,A3 hb.2]
 ·have r:nd 256 (a*256+b)=2:=zch 256 _ 2 q_e q_o (λ_=>by omega);unfold zaF byt be cd;rw[r];have j:(a*256+b)%256=b:=q_o;have m:(a*256+b)/256%256=a:=q_o;simp[dg,j,m]
theorem zmm:zcp 1 [0,6]=true/\(zaK 1 [0,6]).1=6:=by
 have j:zaK 1 [0,6]=(6,0):=by decide +kernel
 unfold zcp;rw[j];exact⟨rfl,rfl⟩
theorem znt:zgZ 1 [0,6]=some [4,193]:=by
 unfold zgZ;rw[if_pos zmm.1,zmm.2];have h:4^6%gP (1:Int).toNat=4*256+193:=by decide +kernel
 rw[h];exact congrArg some (zwI 4 193 q_e q_e)
theorem zwW(m:List UInt8)(hm:m.length<=65536):∃s:List UInt8,zc4 1 [0,6] [7] m=some s/\s.length=4/\zdM 1 [4,193] m s=0/\zdM 1 [4,193] m (s.take 3)=10:=by
 have j:zaJ 1 [7]=(7,0):=by unfold zaJ;rw[if_pos q_e];decide +kernel
 have hs:=zgD (z:=1) (pl:=[0,6]) (nl:=[7]) (ml:=m) zmm.1 (by rw[j]) (by rw[j];decide) hm;have q:=zmi hs;refine⟨_,hs,q,zuk znt hs,zjD ?_ ?_⟩
 ·rintro(h|h)
  ·rw[ziS znt] at h;exact h rfl
  ·omega
 ·rw[AU,q];decide
end Go.Proofs.YtdnlngbjpdbffaaGreatDoor
namespace Go.Ct
section
open Go Go.Sy
def kP(s:List UInt8):Prin:=⟨[s],[82]⟩
def kC(s:List UInt8):Cert:=⟨1,kP [99,97],kP [97],10,100,false,1,[0,16],s⟩
def kD(s:List UInt8):Cert:=⟨2,kP [97],kP [98],10,100,false,1,[0,16],s⟩
def kA:Anch:=⟨kP [99,97],1,[4,193]⟩
def kR:Revo:=⟨kP [99,97],1⟩
theorem zpN:(kP [99,97]).ok=true:=by decide
theorem zsg:(kP [97]).ok=true:=by decide
theorem zw8:(kP [98]).ok=true:=by decide
theorem zxc:(kP [120]).ok=true:=by decide
theorem kI1:zbs (1:Int).toNat= [2,1,1]:=by
 unfold zbs;rw[zdH q_e];rfl
theorem kI2:zbs (2:Int).toNat= [2,1,2]:=by
 unfold zbs;rw[zdH q_e];rfl
theorem zk0(s:List UInt8):(kC s).body.length=76:=by
 have h:(kC s).body=zdl [zan 0 [2,1,1],zan 1 (kP [99,97]).der,zan 2 (kP [97]).der,zan 3 (zbA 10),zan 4 (zbA 100),zan 5 (zdf false),zan 6 [2,1,1],zan 7 (zbQ [0,16])]:=by
  show zdl [zan 0 (zbs (1:Int).toNat),_,_,_,_,_,zan 6 (zbs (1:Int).toNat),_]=_;rw[kI1];rfl
 rw[h];decide
theorem zu2(s:List UInt8):(kD s).body.length<=100:=by
 have h:(kD s).body=zdl [zan 0 [2,1,2],zan 1 (kP [97]).der,zan 2 (kP [98]).der,zan 3 (zbA 10),zan 4 (zbA 100),zan 5 (zdf false),zan 6 [2,1,1],zan 7 (zbQ [0,16])]:=by
  show zdl [zan 0 (zbs (2:Int).toNat),_,_,_,_,_,zan 6 (zbs (1:Int).toNat),_]=_;rw[kI1,kI2];rfl
 rw[h];decide
theorem zvW{s:List UInt8}(hs:s.length=4):(kC s).der.length=88:=by
 have j:=zk0 s;unfold Cert.der;generalize (kC s).body=b at*;have e:(kC s).sig=s:=rfl;rw[e];unfold zdl zan zbQ;simp only[Ck,DJ,AZ,tlv,Ac,A2,j,hs];have d4:(ze3 4).length=1:=rfl;have d76:(ze3 76).length=1:=rfl;have d6:(ze3 (4+1+1)).length=1:=rfl;rw[d4,d76];rfl
variable {sv:Int->List UInt8->Bool}{sf:Int->List UInt8->List UInt8->List UInt8->Bool}
theorem zl5{s:List UInt8}(hs:s.length<=192)(h:sv 1 [0,16]=true):(kC s).ok sv=true:=by
 show(decide (0<=(1:Int))&&decide ((1:Int)<=4611686018427387904)&&(kP [99,97]).ok&&(kP [97]).ok&&decide (0<=(10:Int))&&decide ((10:Int)<=100)&&decide ((100:Int)<=1099511627776)&&decide (s.length<=192)&&sv 1 [0,16])=true;rw[zpN,zsg,h,decide_eq_true hs];rfl
theorem zpD{s:List UInt8}(hs:s.length<=192)(h:sv 1 [0,16]=true):(kD s).ok sv=true:=by
 show(decide (0<=(2:Int))&&decide ((2:Int)<=4611686018427387904)&&(kP [97]).ok&&(kP [98]).ok&&decide (0<=(10:Int))&&decide ((10:Int)<=100)&&decide ((100:Int)<=1099511627776)&&decide (s.length<=192)&&sv 1 [0,16])=true;rw[zw8,zsg,h,decide_eq_true hs];rfl
variable {s t:List UInt8}(hs:s.length<=192)(ht:t.length<=192)(h16:sv 1 [0,16]=true)(hA:sv 1 [4,193]=true)(hf:sf 1 [4,193] (kC s).body s=true)
theorem ztW(hA:sv 1 [4,193]=true):Anch.ok sv kA=true:=by
 show((kP [99,97]).ok&&sv 1 [4,193])=true;rw[zpN,hA];rfl
end
section
open Go Go.Sy
variable {sv:Int->List UInt8->Bool}{sf:Int->List UInt8->List UInt8->List UInt8->Bool}{s t:List UInt8}(hs:s.length<=192)(ht:t.length<=192)(h16:sv 1 [0,16]=true)(hA:sv 1 [4,193]=true)(hf:sf 1 [4,193] (kC s).body s=true)
include hs h16 hA
theorem zqB(j:List Anch)(rs:List Revo)(now:Int)(ha:j= [kA]\/j= [])(hr:rs.length<=64)(h0:0<=now)(h1:now<=1099511627776):zeE sv [kC s] j rs now=true:=by
 have e:j.length<=64/\j.all (Anch.ok sv)=true:=by
  rcases ha with rfl|rfl
  ·exact⟨by decide,by rw[BP,ztW hA];rfl⟩
  ·exact⟨by decide,rfl⟩
 have m:zbo sv [kC s]=true:=by unfold zbo;rw[BP,zl5 hs h16];rfl
 unfold zeE;rw[m,e.2,decide_eq_true e.1,decide_eq_true hr,decide_eq_true h0,decide_eq_true h1];rfl
theorem zwc(now:Int)(h0:0<=now)(h1:now<=1099511627776):zcf sf sv [kC s] [] [] now=(0,220):=by
 unfold zcf;rw[if_pos (zqB hs h16 hA [] [] now (.inr rfl) q_e h0 h1)];rfl
end
section
open Go Go.Sy
variable {sv:Int->List UInt8->Bool}{sf:Int->List UInt8->List UInt8->List UInt8->Bool}{s t:List UInt8}(hs:s.length<=192)(ht:t.length<=192)(h16:sv 1 [0,16]=true)(hA:sv 1 [4,193]=true)(hf:sf 1 [4,193] (kC s).body s=true)
include hs h16 hA
include hf
theorem zps(rs:List Revo)(now:Int)(hr:rs.length<=64)(h0:0<=now)(h1:now<=1099511627776):zcf sf sv [kC s] [kA] rs now=(0,if now<10\/100<now then 222 else if zfI rs (kC s) then 223 else 0):=by
 unfold zcf;rw[if_pos (zqB hs h16 hA [kA] rs now (.inl rfl) hr h0 h1)];show zfq sf rs now [kC s] (zdn [kA] (kP [99,97]))=_;have m:zdn [kA] (kP [99,97])=kA:=by
  unfold zdn;have:([kA].find? λa=>a.name.same (kP [99,97]))=some kA:=by
   rw[Dh];show(kP [99,97]).same (kP [99,97])=true;exact FL.2 rfl
  rw[this];rfl
 rw[m];show(if zfb sf (kC s) kA rs now true=0 then (0,0) else (0,zfb sf (kC s) kA rs now true))=_;have q:zfb sf (kC s) kA rs now true=if now<10\/100<now then 222 else if zfI rs (kC s) then 223 else 0:=by
  unfold zfb;have h1:(kC s).issuer.same kA.name=true:=FL.2 rfl;have j:sf kA.group kA.pub (kC s).body (kC s).sig=true:=hf;rw[h1,j];show(if now<10\/100<now then 222 else if zfI rs (kC s) then 223 else if (!true && !false)=true then 224 else 0)=_;simp
 rw[q];generalize (if now<10\/100<now then (222:Int) else if zfI rs (kC s) then 223 else 0)=E;by_cases hE:E=0
 ·rw[if_pos hE,hE]
 ·rw[if_neg hE]
end
section
open Go Go.Sy
variable {sv:Int->List UInt8->Bool}{sf:Int->List UInt8->List UInt8->List UInt8->Bool}{s t:List UInt8}(hs:s.length<=192)(ht:t.length<=192)(h16:sv 1 [0,16]=true)(hA:sv 1 [4,193]=true)(hf:sf 1 [4,193] (kC s).body s=true)
include hs h16 hA
include hf
include ht
theorem zwQ:zcf sf sv [kD t,kC s] [kA] [] 50=(1,224):=by
 unfold zcf;have w:zbo sv [kD t,kC s]=true:=by unfold zbo;rw[BP,BP,zl5 hs h16,zpD ht h16];rfl
 have j:zeE sv [kD t,kC s] [kA] [] 50=true:=by
  unfold zeE;rw[w,BP,ztW hA];rfl
 rw[if_pos j];show zfq sf [] 50 [kC s,kD t] (zdn [kA] (kP [99,97]))=_;have r:zdn [kA] (kP [99,97])=kA:=by
  unfold zdn;have:([kA].find? λa=>a.name.same (kP [99,97]))=some kA:=by
   rw[Dh];show(kP [99,97]).same (kP [99,97])=true;exact FL.2 rfl
  rw[this];rfl
 rw[r];show(if zfb sf (kC s) kA [] 50 false=0 then zfq sf [] 50 [kD t] _ else (1,zfb sf (kC s) kA [] 50 false))=_;have j:zfb sf (kC s) kA [] 50 false=224:=by
  unfold zfb;have m:(kC s).issuer.same kA.name=true:=FL.2 rfl;have q:sf kA.group kA.pub (kC s).body (kC s).sig=true:=hf;rw[m,q];rfl
 rw[j];rfl
end
open Go Go.Sy
theorem zv8(s:List UInt8):zfI [kR] (kC s)=true:=by
 have h:(kP [99,97]).same (kP [99,97])=true:=FL.2 rfl;show((kP [99,97]).same (kP [99,97])&&decide ((1:Int)=1) || false)=true;rw[h];rfl
end Go.Ct
namespace Go.Proofs.YtdnlngbjpdbffaaGreatDoor
open Go Go.Sy Go.Ct Go.Nt Go.RowKit
theorem znP:zcp 1 [0,2]=true/\(zaK 1 [0,2]).1=2:=by
 have j:zaK 1 [0,2]=(2,0):=by decide +kernel
 unfold zcp;rw[j];exact⟨rfl,rfl⟩
theorem zvI:zgZ 1 [0,2]=some [0,16]:=by
 unfold zgZ;rw[if_pos znP.1,znP.2];have h:4^2%gP (1:Int).toNat=0*256+16:=by decide +kernel
 rw[h];exact congrArg some (zwI 0 16 q_e q_e)
theorem zdP:svK 1 [0,16]=true:=by unfold svK;rw[ziS zvI];rfl
theorem zg2:svK 1 [4,193]=true:=by unfold svK;rw[ziS znt];rfl
theorem zwi(m:List UInt8)(hm:m.length<=65536):∃s:List UInt8,zc4 1 [0,2] [7] m=some s/\s.length=4:=by
 have j:zaJ 1 [7]=(7,0):=by unfold zaJ;rw[if_pos q_e];decide +kernel
 have hs:=zgD (z:=1) (pl:=[0,2]) (nl:=[7]) (ml:=m) znP.1 (by rw[j]) (by rw[j];decide) hm;exact⟨_,hs,zmi hs⟩
attribute [local irreducible] Sy SyL SyX SyC SyF Sy.Fn callFunc
theorem zgf(e:Int)(w:World):q_G 14 [.int .i64 e] w (.int .i64 e):=by
 refine zo Tryz.func14 Tryz.ntmps14 ?_;repeat' (first|refine s_0 ?_|refine zK [0,1] ?_;refine zb ?_)
 exact q_r
def zp3(l:List UInt8)(v:Value)(R:List Res):Prop:=∃b,v= .agg #[.slice (some ⟨b,0,none⟩) 1 1,.string (str [82])]/\R= [.blk b 9 [.string (str l)]]
theorem zlp(l:List UInt8)(w:World):Sy.Fn Tryz.prog 30 [.string (str l)] w No (zp3 l):=by
 refine zo Tryz.func30 Tryz.ntmps30 ?_;repeat' (first|refine s_0 ?_|refine zg 0 ?_;refine zi ?_;intro _|refine q_k 1 ?_;(refine q_s zw ?_;rintro _ _ ⟨j,rfl,rfl⟩);refine zbj ?_;refine zS ?_)
 exact zaw rfl (zz (B:=[.slice (some ⟨j,0,none⟩) 1 1,.string (str [82])]) rfl (ty rfl) rfl F4 F0 rfl) q_h ⟨j,rfl,rfl⟩
theorem ztv(vs:List Value)(i e m A:Int)(now:Int)(w:World)(q r v3:Value)(hv:vs= [q,r,v3,.int .i64 now])(hc:∀j,Keep No w j->q_G 25 vs j (.tuple #[.int .i64 i,.int .i64 e])):
  q_G 38 [q,r,v3,.int .i64 now,.int .i64 m,.int .i64 A] w (.bool (decide (i=m)&&decide (e=A))):=by
 subst hv;refine zo Tryz.func38 Tryz.ntmps38 ?_;have B:=λj=>zgf e j;by_cases h:i=m
 ·rw[decide_eq_true h,Ax];repeat' (first|refine s_0 ?_|refine q_k 0 ?_|refine q_k 1 ?_;refine q_v (za (hc:=zq hc)) ?_;refine zb ?_|refine q_k 2 ?_;refine q_x (zaa (hr:=decide_eq_true h)) ?_;refine q_v (za (hc:=q_c B)) ?_;refine zb ?_;refine zaH ?_;refine zb ?_)
  exact q_r
 ·rw[decide_eq_false h,BX];repeat' (first|refine s_0 ?_|refine q_k 0 ?_|refine q_k 1 ?_;refine q_v (za (hc:=zq hc)) ?_;refine zb ?_|refine q_k 2 ?_;refine q_x (zaa (hr:=decide_eq_false h)) ?_)
  exact q_r
end Go.Proofs.YtdnlngbjpdbffaaGreatDoor
namespace Go.Sy
open Go
theorem Row.capmax{M:Nat->Prop}{q:Nat}{w:World}{E n c s:Nat}{a:Option Addr}{xs:List Value}{L:List Res}(hh:Holds q M L w)(hL:Has L (.row (.slice a n c) E s n xs)):c<=maxLen:=by
 have j:w.ownsRow 0 E s (.slice a n c) n xs:=hh.has hL;obtain⟨C,⟨m,F⟩|⟨b,B,r,m,_,G,H,A,I,J⟩⟩:=j
 ·cases m;exact AE _
 ·cases m;exact A
end Go.Sy
namespace Go.Ct
open Go Go.Sy
theorem znT{α β:Type}{cell:β->α->List Value}{j:World->β->α->Prop}{w:World} :LstAt cell j w none 0 [] []:=⟨rfl,A4 _,λ_=>rfl,.inl rfl,λi p x h=>by simp at h⟩
theorem zjR{α β:Type}{cell:β->α->List Value}{j:World->β->α->Prop}{w:World}{b:Nat}{p:β}{x:α}(h:w.rangeAt b 0 (cell p x))(hx:j w p x):LstAt cell j w (some ⟨b,0,none⟩) 1 [p] [x]:=
 ⟨rfl,A4 _,(λh=>by cases h),.inr ⟨b,0,rfl,by
  show w.rangeAt b 0 (cell p x++[]);rw[AZ];exact h⟩,λi r A m q=>by
  cases i with
  |zero=>cases m;cases q;exact hx
  |succ i=>simp at m⟩
theorem zxg{α β:Type}{cell:β->α->List Value}{r:World->β->α->Prop}{w:World}{b:Nat}{p q:β}{x y:α}(h:w.rangeAt b 0 (cell p x++cell q y))(hx:r w p x)(A:r w q y):LstAt cell r w (some ⟨b,0,none⟩) 2 [p,q] [x,y]:=
 ⟨rfl,A4 _,(λh=>by cases h),.inr ⟨b,0,rfl,by
  show w.rangeAt b 0 (cell p x++(cell q y++[]));rw[AZ];exact h⟩,λi B C j m=>by
  match i,j,m with
  |0,j,m=>cases j;cases m;exact hx
  |1,j,m=>cases j;cases m;exact A
  |i+2,j,m=>simp at j⟩
theorem zgr{w:World}{b:Nat}{s:List UInt8}(h:w.rangeAt b 0 [.string (str s)])(hs:s.length<=1000):PrinIn w (za7 (some ⟨b,0,none⟩) 1 (kP s)) (kP s):=
 ⟨⟨some ⟨b,0,none⟩,1,rfl,A4 _,by unfold maxLen;decide,.inr ⟨b,0,rfl,h⟩,λh=>by cases h⟩,by show 1<=maxLen;unfold maxLen;decide,λx j=>by
  rw[AF.1 j];unfold maxLen;omega⟩
theorem zfv{w:World}{b n:Nat}{l:List UInt8}(h:w.rangeAt b 0 (l.map v8))(j:l.length=n):(⟨some ⟨b,0,none⟩,n,n,l⟩:Bs).ok w:=⟨j,A4 _,.inr ⟨b,0,rfl,h⟩,λh=>by cases h⟩
theorem zrj{w:World} :(⟨none,0,0,[]⟩:Bs).ok w:=⟨rfl,A4 _,.inl rfl,λ_=>rfl⟩
def kG(n:Int)(x y s:List UInt8):Cert:=⟨n,kP x,kP y,10,100,false,1,[0,16],s⟩
def kPl(bI bS bU:Nat):Pl:=⟨some ⟨bI,0,none⟩,1,some ⟨bS,0,none⟩,1,some ⟨bU,0,none⟩,2,none,0⟩
theorem ztX{w:World}{j m q:Nat}{n:Int}{x y:List UInt8}(hn:(Lit.int .i64 n).wf=true)(h1:w.rangeAt j 0 [.string (str x)])(h2:w.rangeAt m 0 [.string (str y)])(r:w.rangeAt q 0 [.int .u8 0,.int .u8 16])(hx:x.length<=1000)(A:y.length<=1000):CertAt w (kPl j m q) (kG n x y []):=
 ⟨zgr h1 hx,zgr h2 A,zfv (l:=[0,16]) r rfl,zrj,hn,(by show(Lit.int .i64 10).wf=true;decide),(by show(Lit.int .i64 100).wf=true;decide),(by show(Lit.int .i64 1).wf=true;decide)⟩
theorem ziX(n:Int)(x y s:List UInt8)(hx:x.length<=1000)(m:y.length<=1000):(kG n x y s).fine:=
 ⟨⟨by show 1<1000000;decide,by show 1<1000000000;decide,λz j=>by rw[AF.1 j];omega⟩,⟨by show 1<1000000;decide,by show 1<1000000000;decide,λz j=>by rw[AF.1 j];omega⟩⟩
end Go.Ct
namespace Go.Proofs.YtdnlngbjpdbffaaGreatDoor
open Go Go.Sy Go.Ct Go.Nt Go.RowKit
attribute [local irreducible] Sy SyL SyX SyC SyF Sy.Fn callFunc
variable {ro:Option Nat}{N:Nat}{w0:World}{M:Nat->Prop}{ds:List Deferred}{g:Nat->Option Value}{L:List Res}{o:Oper}
theorem zkd{z0 A B z3 z4 E F:Operand}{n f u k:Int}{j r q w:Value}{a:Option Addr}{m c:Nat}(K:o.op= .build 45 #[(0,z0),(1,A),(2,B),(3,z3),(4,z4),(6,E),(7,F)]:=by exact rfl)(h0:ev g z0=some (.int .i64 n):=by exact rfl)(h1:ev g A=some (.agg #[j,r]):=by exact rfl)(h2:ev g B=some (.agg #[q,w]):=by exact rfl)(G:ev g z3=some (.int .i64 f):=by exact rfl)(H:ev g z4=some (.int .i64 u):=by exact rfl)(I:ev g E=some (.int .i64 k):=by exact rfl)(J:ev g F=some (.slice a m c):=by exact rfl):
  OpT Tryz.prog ro N w0 M ds o g L (Det (.agg ([.int .i64 n,j,r,q,w,.int .i64 f,.int .i64 u,.bool false,.int .i64 k,.slice a m c,.slice none 0 0]:List Value).toArray) L):=
 zfz (parts:=#[(0,z0),(1,A),(2,B),(3,z3),(4,z4),(6,E),(7,F)]) (vs:=[.int .i64 n,.agg #[j,r],.agg #[q,w],.int .i64 f,.int .i64 u,.int .i64 k,.slice a m c]) (C:=[.int .i64 n,j,r,q,w,.int .i64 f,.int .i64 u,.bool false,.int .i64 k,.slice a m c,.slice none 0 0]) (by exact(.cons (cs:=[.int .i64 n]) (off:=0) (n:=1) rfl rfl rfl (AO rfl) (.cons (cs:=[j,r]) (off:=1) (n:=2) rfl rfl rfl (AO rfl) (.cons (cs:=[q,w]) (off:=3) (n:=2) rfl rfl rfl (AO rfl) (.cons (cs:=[.int .i64 f]) (off:=5) (n:=1) rfl rfl rfl (AO rfl) (.cons (cs:=[.int .i64 u]) (off:=6) (n:=1) rfl rfl rfl (AO rfl) (.cons (cs:=[.int .i64 k]) (off:=8) (n:=1) rfl rfl rfl (AO rfl) (.cons (cs:=[.slice a m c]) (off:=9) (n:=1) rfl rfl rfl (AO rfl) .nil)))))))) K (by simp[evs,h0,h1,h2,G,H,I,J]) (ty rfl) rfl rfl (zc rfl)
theorem zpP{A B E F:Operand}{k:Int}{j r q w:Value}{a:Option Addr}{m c:Nat}(I:o.op= .build 45 #[(1,A),(2,B),(6,E),(7,F)]:=by exact rfl)(h1:ev g A=some (.agg #[j,r]):=by exact rfl)(h2:ev g B=some (.agg #[q,w]):=by exact rfl)(G:ev g E=some (.int .i64 k):=by exact rfl)(H:ev g F=some (.slice a m c):=by exact rfl):
  OpT Tryz.prog ro N w0 M ds o g L (Det (.agg ([.int .i64 0,j,r,q,w,.int .i64 0,.int .i64 0,.bool false,.int .i64 k,.slice a m c,.slice none 0 0]:List Value).toArray) L):=
 zfz (parts:=#[(1,A),(2,B),(6,E),(7,F)]) (vs:=[.agg #[j,r],.agg #[q,w],.int .i64 k,.slice a m c]) (C:=[.int .i64 0,j,r,q,w,.int .i64 0,.int .i64 0,.bool false,.int .i64 k,.slice a m c,.slice none 0 0]) (by exact(.cons (cs:=[j,r]) (off:=1) (n:=2) rfl rfl rfl (AO rfl) (.cons (cs:=[q,w]) (off:=3) (n:=2) rfl rfl rfl (AO rfl) (.cons (cs:=[.int .i64 k]) (off:=8) (n:=1) rfl rfl rfl (AO rfl) (.cons (cs:=[.slice a m c]) (off:=9) (n:=1) rfl rfl rfl (AO rfl) .nil))))) I (by simp[evs,h1,h2,G,H]) (ty rfl) rfl rfl (zc rfl)
theorem zkQ{w w0:World}{M:Nat->Prop}{L X:List Res}{q:Pl}{c:Cert}(hh:Holds w0.heap.size M (L++X) w)(hL:∀r∈zaB q c,r∈L)(E:c.issuer.parts.length<=maxLen)(j:((Lit.int .i64 c.serial).wf=true/\(Lit.int .i64 c.fr).wf=true/\(Lit.int .i64 c.til).wf=true/\(Lit.int .i64 c.group).wf=true))
  (h1:c.issuer.realm.length<=maxLen/\∀x∈c.issuer.parts,x.length<=maxLen)(h2:c.subject.realm.length<=maxLen/\∀x∈c.subject.parts,x.length<=maxLen):CertAt w q c:=by
 have m:Has (L++X) (.row (.slice q.a1 c.issuer.parts.length q.k1) 9 1 c.issuer.parts.length (c.issuer.parts.map zX)):=AX _ (hL _ (by simp[zaB]));have A:Has (L++X) (.row (.slice q.a2 c.subject.parts.length q.k2) 9 1 c.subject.parts.length (c.subject.parts.map zX)):=AX _ (hL _ (by simp[zaB]));have B:Has (L++X) (.row (.slice q.a3 c.pub.length q.k3) 5 1 c.pub.length (c.pub.map v8)):=AX _ (hL _ (by simp[zaB]));have C:Has (L++X) (.row (.slice q.a4 c.sig.length q.k4) 5 1 c.sig.length (c.sig.map v8)):=AX _ (hL _ (by simp[zaB]));exact⟨⟨⟨q.a1,q.k1,rfl,FR hh m,Row.capmax hh m,(Fu (Mi:=No) hh m (λ_ h=>h.elim)).sla,λh=>(Fv hh m h).1⟩,h1⟩,⟨⟨q.a2,q.k2,rfl,FR hh A,Row.capmax hh A,(Fu (Mi:=No) hh A (λ_ h=>h.elim)).sla,λh=>(Fv hh A h).1⟩,h2⟩,zaq hh rfl B,zaq hh rfl C,j⟩
theorem zoU{w w0:World}{M:Nat->Prop}{L X:List Res}{q:Pl}{n:Int}{x y s:List UInt8}(hn:(Lit.int .i64 n).wf=true)(hx:x.length<=1000)(m:y.length<=1000)(hh:Holds w0.heap.size M (L++X) w)(hL:∀r∈zaB q (kG n x y s),r∈L):CertAt w q (kG n x y s):=
 zkQ hh hL (by show 1<=maxLen;unfold maxLen;decide) ⟨hn,(by show(Lit.int .i64 10).wf=true;decide),(by show(Lit.int .i64 100).wf=true;decide),(by show(Lit.int .i64 1).wf=true;decide)⟩ ⟨by show 1<=maxLen;unfold maxLen;decide,λz j=>by rw[AF.1 j];unfold maxLen;omega⟩ ⟨by show 1<=maxLen;unfold maxLen;decide,λz j=>by rw[AF.1 j];unfold maxLen;omega⟩
theorem zhv(w:World)(hG:GT w)(hT:Tab w No)(hS:ST w):q_G 11 [] w (.bool true):=by
 refine zo Tryz.func11 Tryz.ntmps11 ?_;have hp:=λl j=>zlp l j;unfold zp3 at hp;have a7:=hp [99,97];have ha:=hp [97];have c2:=hp [98];obtain⟨s,c7,c8,c9,-⟩:=zwW (kG 1 [99,97] [97] []).body (by have:=zk0 [];rw[show(kG 1 [99,97] [97] []).body=(kC []).body from rfl];omega);obtain⟨t,d8,f8⟩:=zwi (kG 2 [97] [98] []).body (by have:=zu2 [];rw[show(kG 2 [97] [98] []).body=(kD []).body from rfl];omega);have K:∀j (_:Keep No w j) p (_:CertAt j p (kG 1 [99,97] [97] [])) (S no:Bs) (_:S.ok j) (_:no.ok j) (_:S.l= [0,6]) (_:no.l= [7]) (_:no.n<=1000),Sy.Fn Tryz.prog 20 [.agg (zx p (kG 1 [99,97] [97] [])).toArray,.int .i64 1,S.val,no.val] j No (zi8 (kG 1 [99,97] [97] s)):=λj E p h S no b0 a9 e1 e2 e3=>ziw p (kG 1 [99,97] [97] []) 1 S no s j (hG.to E) (hT.no E) h (ziX _ _ _ _ q_e q_e) b0 a9 e3 (zl5 (s:=[]) q_e zdP) (by rw[e1,e2];exact c7);have O:∀j (_:Keep No w j) p (_:CertAt j p (kG 2 [97] [98] [])) (S no:Bs) (_:S.ok j) (_:no.ok j) (_:S.l= [0,2]) (_:no.l= [7]) (_:no.n<=1000),Sy.Fn Tryz.prog 20 [.agg (zx p (kG 2 [97] [98] [])).toArray,.int .i64 1,S.val,no.val] j No (zi8 (kG 2 [97] [98] t)):=λj E p h S no b0 a9 e1 e2 e3=>ziw p (kG 2 [97] [98] []) 1 S no t j (hG.to E) (hT.no E) h (ziX _ _ _ _ q_e q_e) b0 a9 e3 (zpD (s:=[]) q_e zdP) (by rw[e1,e2];exact d8);unfold zi8 at K O;have P:s.length<=192:=q_o;have b9:t.length<=192:=q_o;have b5:(kG 1 [99,97] [97] s).ok svK=true:=zl5 P zdP;have e9:(kG 2 [97] [98] t).ok svK=true:=zpD b9 zdP;have J:=ziX 1 [99,97] [97] s q_e q_e;have a6:=ziX 2 [97] [98] t q_e q_e;have W:sfK 1 [4,193] (kG 1 [99,97] [97] s).body s=true:=by unfold sfK;exact decide_eq_true c9
 have f7:(kG 1 [99,97] [97] s).der.length=88:=zvW c8;have f6:(kG 1 [99,97] [97] s).body.length=76:=zk0 s;have d9:zcf sfK svK [kG 1 [99,97] [97] s] [kA] [] 10=(0,0):=zps P zdP zg2 W [] 10 q_e q_e q_e;have e0:zcf sfK svK [kG 1 [99,97] [97] s] [kA] [] 101=(0,222):=zps P zdP zg2 W [] 101 q_e q_e q_e;have e4:zcf sfK svK [kG 1 [99,97] [97] s] [kA] [kR] 50=(0,223):=by
  have:=zps P zdP zg2 W [kR] 50 q_e q_e q_e;rw[zv8] at this;exact this
 have e5:zcf sfK svK [kG 1 [99,97] [97] s] [] [] 50=(0,220):=zwc P zdP zg2 50 q_e q_e;have e6:zcf sfK svK [kG 2 [97] [98] t,kG 1 [99,97] [97] s] [kA] [] 50=(1,224):=zwQ P b9 zdP zg2 W;have V:∀x∈[kA],x.name.fine:=λx A=>by rw[AF.1 A];exact⟨by show 1<1000000;decide,by show 1<1000000000;decide,λz hz=>by rw[AF.1 hz];decide⟩
 have c6:∀x∈[kR],x.issuer.fine:=λx A=>by rw[AF.1 A];exact⟨by show 1<1000000;decide,by show 1<1000000000;decide,λz hz=>by rw[AF.1 hz];decide⟩
 -- what is asked of Verify
 have I:∀j (_:Keep No w j) (l:List Cert) (ps:List Pl) (an:List Anch) (b6:List Pa) (rs:List Revo) (b7:List (Option Addr×Nat)) (a aa ar:Option Addr) (n c na ca nr cr:Nat) (now i e wi we:Int),l.length=n->an.length=na->rs.length=nr->ze5 j a c ps l->ze6 j aa ca b6 an->ze8 j ar cr b7 rs->(∀x∈l,x.fine)->(∀x∈an,x.name.fine)->(∀x∈rs,x.issuer.fine)->n<1000->na<1000->nr<1000->zcf sfK svK l an rs now=(i,e)->i=wi->e=we->
   q_G 38 [.slice a n c,.slice aa na ca,.slice ar nr cr,.int .i64 now,.int .i64 wi,.int .i64 we] j (.bool true):=by
  intro j E l ps an b6 rs b7 a aa ar n c na ca nr cr now i e wi we h1 h2 h3 hc hA hR f1 f2 f3 b1 Y b3 hv hi he;subst hi;subst he;have:=ztv [.slice a n c,.slice aa na ca,.slice ar nr cr,.int .i64 now] i e i e now j _ _ _ rfl (λf5 F=>by
   have:=zj7 a aa ar n c na ca nr cr ps l b6 an b7 rs now f5 ((hG.to E).to F) ((hT.no E).no F) ((hS.to E).to F) h1 h2 h3 (hc.keep F (λp x A=>A.keep F)) (hA.keep F (λp x A=>A.keep F)) (hR.keep F (λp x A=>A.keep F)) f1 f2 f3 b1 Y b3;rw[hv] at this;exact this)
  rw[decide_eq_true rfl,decide_eq_true rfl] at this;exact this
 repeat' (first|refine s_0 ?_|refine q_k 0 ?_)
 repeat' (first|refine s_0 ?_|refine zg 1 ?_;(refine q_s (zh (hc:=λj X E m=>a7 j)) ?_;rintro _ _ ⟨R,rfl,G,rfl,rfl⟩);(refine q_s (zw (vs:=[.int .u8 4,.int .u8 193])) ?_;rintro _ _ ⟨H,rfl,rfl⟩);refine zbj ?_;(refine q_s (zbu (vs:=[.agg [.slice (some ⟨G,0,none⟩) 1 1,.string (str [82]),.int .i64 1,.slice (some ⟨H,0,none⟩) 2 2].toArray]) (zdB (s:=4) rfl rfl)) ?_;rintro _ _ ⟨Q,rfl,rfl⟩);refine zb ?_)
 repeat' (first|refine zg 2 ?_;(refine q_s (zh (hc:=λj X E m=>a7 j)) ?_;rintro _ _ ⟨R,rfl,Z,rfl,rfl⟩);(refine q_s (zh (hc:=λj X E m=>ha j)) ?_;rintro _ _ ⟨R,rfl,bS,rfl,rfl⟩);(refine q_s (zw (vs:=[.int .u8 0,.int .u8 16])) ?_;rintro _ _ ⟨bU,rfl,rfl⟩);refine q_v zkd ?_;(refine q_s (zw (vs:=[.int .u8 0,.int .u8 6])) ?_;rintro _ _ ⟨bK,rfl,rfl⟩);(refine q_s (zw (vs:=[.int .u8 7])) ?_;rintro _ _ ⟨bN,rfl,rfl⟩))
 refine q_s (zh (f:=20) (vs:=[.agg (zx (kPl Z bS bU) (kG 1 [99,97] [97] [])).toArray,.int .i64 1,.slice (some ⟨bK,0,none⟩) 2 2,.slice (some ⟨bN,0,none⟩) 1 1]) (hc:=λj X E m=>K j E (kPl Z bS bU) (ztX q_e (zp (m.has (r:=.blk Z 9 [.string (str [99,97])]) q_h) F0) (zp (m.has (r:=.blk bS 9 [.string (str [97])]) q_h) F0) (zp (m.has (r:=.blk bU 5 [.int .u8 0,.int .u8 16]) q_h) F0) q_e q_e)
  ⟨some ⟨bK,0,none⟩,2,2,[0,6]⟩ ⟨some ⟨bN,0,none⟩,1,1,[7]⟩ (zfv (l:=[0,6]) (zp (m.has (r:=.blk bK 5 [.int .u8 0,.int .u8 6]) q_h) F0) rfl) (zfv (l:=[7]) (zp (m.has (r:=.blk bN 5 [.int .u8 7]) q_h) F0) rfl) rfl rfl (by show 1<=1000;decide))) ?_
 rintro _ _ ⟨R,rfl,q,rfl,rfl⟩;repeat' (first|refine s_0 ?_|(refine zW ?_;first|refine q_n (zC (B:=zx q (kG 1 [99,97] [97] s)) (h1:=rfl) (hC:=by exact rfl)) ?_|refine zB ?_|refine zaX ?_|refine zaS ?_|refine zi ?_;intro _|fail)|fail)
 rename_i Y;refine FJ (fr':=[(0,.bool false),(1,.slice (some ⟨Q,0,none⟩) 1 1),(2,.pointer (some ⟨Y,0,none⟩)),(3,.int .i64 0)]) (L':=.blk Y 45 (zx q (kG 1 [99,97] [97] s))::(zaB q (kG 1 [99,97] [97] s)++[.blk Q 65 [.slice (some ⟨G,0,none⟩) 1 1,.string (str [82]),.int .i64 1,.slice (some ⟨H,0,none⟩) 2 2],.blk H 5 [.int .u8 4,.int .u8 193],.blk G 9 [.string (str [99,97])]])) ?_ q_h ?_;rotate_left
 ·unfold zaB;exact q_h
 repeat' (first|refine zg 3 ?_;(refine q_s (zh (hc:=λj X E m=>ha j)) ?_;rintro _ _ ⟨R,rfl,Z,rfl,rfl⟩);(refine q_s (zh (hc:=λj X E m=>c2 j)) ?_;rintro _ _ ⟨R,rfl,bS,rfl,rfl⟩);(refine q_s (zw (vs:=[.int .u8 0,.int .u8 16])) ?_;rintro _ _ ⟨bU,rfl,rfl⟩);refine q_v zkd ?_;(refine q_s (zw (vs:=[.int .u8 0,.int .u8 2])) ?_;rintro _ _ ⟨bK,rfl,rfl⟩);(refine q_s (zw (vs:=[.int .u8 7])) ?_;rintro _ _ ⟨bN,rfl,rfl⟩))
 refine q_s (zh (f:=20) (vs:=[.agg (zx (kPl Z bS bU) (kG 2 [97] [98] [])).toArray,.int .i64 1,.slice (some ⟨bK,0,none⟩) 2 2,.slice (some ⟨bN,0,none⟩) 1 1]) (hc:=λj X E m=>O j E (kPl Z bS bU) (ztX q_e (zp (m.has (r:=.blk Z 9 [.string (str [97])]) q_h) F0) (zp (m.has (r:=.blk bS 9 [.string (str [98])]) q_h) F0) (zp (m.has (r:=.blk bU 5 [.int .u8 0,.int .u8 16]) q_h) F0) q_e q_e)
  ⟨some ⟨bK,0,none⟩,2,2,[0,2]⟩ ⟨some ⟨bN,0,none⟩,1,1,[7]⟩ (zfv (l:=[0,2]) (zp (m.has (r:=.blk bK 5 [.int .u8 0,.int .u8 2]) q_h) F0) rfl) (zfv (l:=[7]) (zp (m.has (r:=.blk bN 5 [.int .u8 7]) q_h) F0) rfl) rfl rfl (by show 1<=1000;decide))) ?_
 rintro _ _ ⟨R,rfl,r,rfl,rfl⟩;repeat' (first|refine s_0 ?_|(refine zW ?_;first|refine q_n (zC (B:=zx r (kG 2 [97] [98] t)) (h1:=rfl) (hC:=by exact rfl)) ?_|refine zB ?_|refine zaX ?_|refine zaS ?_|refine zi ?_;intro _|fail)|fail)
 rename_i b4;refine FJ (fr':=[(0,.bool false),(1,.slice (some ⟨Q,0,none⟩) 1 1),(2,.pointer (some ⟨Y,0,none⟩)),(3,.int .i64 0),(4,.pointer (some ⟨b4,0,none⟩)),(5,.int .i64 0)]) (L':=.blk b4 45 (zx r (kG 2 [97] [98] t)):: .blk Y 45 (zx q (kG 1 [99,97] [97] s))::(zaB r (kG 2 [97] [98] t)++(zaB q (kG 1 [99,97] [97] s)++[.blk Q 65 [.slice (some ⟨G,0,none⟩) 1 1,.string (str [82]),.int .i64 1,.slice (some ⟨H,0,none⟩) 2 2],.blk H 5 [.int .u8 4,.int .u8 193],.blk G 9 [.string (str [99,97])]]))) ?_ q_h ?_;rotate_left
 ·unfold zaB;exact q_h
 clear K O;have T:∀ {j:World},j.rangeAt Q 0 [.slice (some ⟨G,0,none⟩) 1 1,.string (str [82]),.int .i64 1,.slice (some ⟨H,0,none⟩) 2 2]->j.rangeAt H 0 [.int .u8 4,.int .u8 193]->j.rangeAt G 0 [.string (str [99,97])]->ze6 j (some ⟨Q,0,none⟩) 1 [⟨some ⟨G,0,none⟩,1,some ⟨H,0,none⟩,2⟩] [kA]:=
  λr1 r2 r3=>zjR (cell:=zb5) r1 ⟨zgr r3 q_e,zfv (l:=[4,193]) r2 rfl,by show(Lit.int .i64 1).wf=true;decide⟩
 have c1:∀ {j:World}{bR bQ:Nat},j.rangeAt bR 0 [.slice (some ⟨bQ,0,none⟩) 1 1,.string (str [82]),.int .i64 1]->j.rangeAt bQ 0 [.string (str [99,97])]->ze8 j (some ⟨bR,0,none⟩) 1 [(some ⟨bQ,0,none⟩,1)] [kR]:=
  λr1 r2=>zjR (cell:=zdq) r1 ⟨zgr r2 q_e,by show(Lit.int .i64 1).wf=true;decide⟩
 have b8:=λj (E:Keep No w j) (h:CertAt j q (kG 1 [99,97] [97] s))=>zuO q (kG 1 [99,97] [97] s) j (hG.to E) h J b5;have c3:=λj (E:Keep No w j) (h:CertAt j q (kG 1 [99,97] [97] s))=>zhk q (kG 1 [99,97] [97] s) j h (FM zdE b5);have U:∀x∈[kG 1 [99,97] [97] s],x.fine:=λx A=>by rw[AF.1 A];exact J
 have c5:∀x∈[kG 2 [97] [98] t,kG 1 [99,97] [97] s],x.fine:=λx A=>by
  rcases Ag.1 A with rfl|A
  ·exact a6
  ·rw[AF.1 A];exact J
 have hq:∀ {j:World}{L X:List Res},Holds w.heap.size No (L++X) j->(∀x∈zaB q (kG 1 [99,97] [97] s),x∈L)->CertAt j q (kG 1 [99,97] [97] s):=λm hm=>zoU q_e q_e q_e m hm;have hr:∀ {j:World}{L X:List Res},Holds w.heap.size No (L++X) j->(∀x∈zaB r (kG 2 [97] [98] t),x∈L)->CertAt j r (kG 2 [97] [98] t):=λm hm=>zoU q_e q_e q_e m hm;have a8:=λj=>zgf 0 j;generalize c0:kG 2 [97] [98] t=C',hC:kG 1 [99,97] [97] s=C,c4:(kG 1 [99,97] [97] s).body=BD,(kG 1 [99,97] [97] s).der=D at*;clear c4 hC c0 b5 e9;have e8:decide ((D.length:Int)≠88)=false:=decide_eq_false (λh=>h q_o);have e7:decide ((BD.length:Int)≠76)=false:=decide_eq_false (λh=>h q_o);repeat' (first|refine zg 4 ?_;refine q_v (ze (B:=zx q C) (hz:=by exact rfl)) ?_)
 refine q_s (zh (hc:=λj X E m=>b8 j E (hq m (by intro x A;(repeat (first|exact AX _ A|apply Ar|apply A9)))))) ?_;rintro _ _ ⟨R,rfl,aE,kE,rfl,rfl⟩;repeat' (first|refine s_0 ?_|refine q_k 5 ?_;refine q_v (za (hc:=q_c a8)) ?_;refine zb ?_;refine q_v (za (hc:=q_c a8)) ?_;refine zaI ?_;refine zb ?_;refine q_v (za (hc:=q_c a8)) ?_;refine zaI ?_;refine zat ?_;refine zb ?_;refine q_x (zaC (hr:=e8)) ?_;refine q_v (ze (B:=zx q C) (hz:=by exact rfl)) ?_;(refine q_s (zh (hc:=λj X E m=>c3 j E (hq m (by intro x A;(repeat (first|exact AX _ A|apply Ar|apply A9)))))) ?_;rintro _ _ ⟨R,rfl,aB,kB,rfl,rfl⟩);refine zb ?_;refine q_x (zaC (hr:=e7)) ?_|(refine zW ?_;first|refine zB ?_|refine zaX ?_|refine zaS ?_|fail)|fail)
 refine FJ (fr':=[(0,.bool false),(1,.slice (some ⟨Q,0,none⟩) 1 1),(2,.pointer (some ⟨Y,0,none⟩)),(4,.pointer (some ⟨b4,0,none⟩))]) (L':=.blk b4 45 (zx r C'):: .blk Y 45 (zx q C)::(zaB r C'++(zaB q C++[.blk Q 65 [.slice (some ⟨G,0,none⟩) 1 1,.string (str [82]),.int .i64 1,.slice (some ⟨H,0,none⟩) 2 2],.blk H 5 [.int .u8 4,.int .u8 193],.blk G 9 [.string (str [99,97])]]))) ?_ q_h (FE (FE F8));repeat' (first|refine s_0 ?_|refine zg 7 ?_;refine q_v (ze (B:=zx q C) (hz:=by exact rfl)) ?_;(refine q_s (zbu (vs:=[.agg (zx q C).toArray]) (zdB (s:=11) rfl rfl)) ?_;rintro _ _ ⟨bL,rfl,rfl⟩);refine zb ?_)
 repeat' (first|refine s_0 ?_|refine q_k 8 ?_;refine q_v (za (hc:=λj X E m=>I j E [C] _ [kA] _ [] _ _ _ _ 1 _ 1 _ 0 _ 10 0 0 _ _ rfl rfl rfl (zjR (cell:=zx) (zp (m.has (r:=.blk bL 45 (zx q C)) q_h) F0) (hq m (by intro x A;(repeat (first|exact AX _ A|apply Ar|apply A9))))) (T (zp (m.has (r:=.blk Q 65 [.slice (some ⟨G,0,none⟩) 1 1,.string (str [82]),.int .i64 1,.slice (some ⟨H,0,none⟩) 2 2]) q_h) F0) (zp (m.has (r:=.blk H 5 [.int .u8 4,.int .u8 193]) q_h) F0) (zp (m.has (r:=.blk G 9 [.string (str [99,97])]) q_h) F0)) znT U V (λx A=>by cases A) q_e q_e q_e d9 rfl rfl)) ?_;refine zb ?_;refine q_v (za (hc:=λj X E m=>I j E [C] _ [kA] _ [] _ _ _ _ 1 _ 1 _ 0 _ 101 0 222 _ _ rfl rfl rfl (zjR (cell:=zx) (zp (m.has (r:=.blk bL 45 (zx q C)) q_h) F0) (hq m (by intro x A;(repeat (first|exact AX _ A|apply Ar|apply A9))))) (T (zp (m.has (r:=.blk Q 65 [.slice (some ⟨G,0,none⟩) 1 1,.string (str [82]),.int .i64 1,.slice (some ⟨H,0,none⟩) 2 2]) q_h) F0) (zp (m.has (r:=.blk H 5 [.int .u8 4,.int .u8 193]) q_h) F0) (zp (m.has (r:=.blk G 9 [.string (str [99,97])]) q_h) F0)) znT U V (λx A=>by cases A) q_e q_e q_e e0 rfl rfl)) ?_;refine zb ?_;(refine q_s (zh (hc:=λj X E m=>a7 j)) ?_;rintro _ _ ⟨R,rfl,bQ,rfl,rfl⟩);refine zbj ?_;(refine q_s (zbu (vs:=[.agg [.slice (some ⟨bQ,0,none⟩) 1 1,.string (str [82]),.int .i64 1].toArray]) (zdB (s:=3) rfl rfl)) ?_;rintro _ _ ⟨bR,rfl,rfl⟩);refine q_v (za (hc:=λj X E m=>I j E [C] _ [kA] _ [kR] _ _ _ _ 1 _ 1 _ 1 _ 50 0 223 _ _ rfl rfl rfl (zjR (cell:=zx) (zp (m.has (r:=.blk bL 45 (zx q C)) q_h) F0) (hq m (by intro x A;(repeat (first|exact AX _ A|apply Ar|apply A9))))) (T (zp (m.has (r:=.blk Q 65 [.slice (some ⟨G,0,none⟩) 1 1,.string (str [82]),.int .i64 1,.slice (some ⟨H,0,none⟩) 2 2]) q_h) F0) (zp (m.has (r:=.blk H 5 [.int .u8 4,.int .u8 193]) q_h) F0) (zp (m.has (r:=.blk G 9 [.string (str [99,97])]) q_h) F0)) (c1 (zp (m.has (r:=.blk bR 67 [.slice (some ⟨bQ,0,none⟩) 1 1,.string (str [82]),.int .i64 1]) q_h) F0) (zp (m.has (r:=.blk bQ 9 [.string (str [99,97])]) q_h) F0)) U V c6 q_e q_e q_e e4 rfl rfl)) ?_;refine zb ?_;refine q_v (za (hc:=λj X E m=>I j E [C] _ [] _ [] _ _ _ _ 1 _ 0 _ 0 _ 50 0 220 _ _ rfl rfl rfl (zjR (cell:=zx) (zp (m.has (r:=.blk bL 45 (zx q C)) q_h) F0) (hq m (by intro x A;(repeat (first|exact AX _ A|apply Ar|apply A9))))) znT znT U (λx A=>by cases A) (λx A=>by cases A) q_e q_e q_e e5 rfl rfl)) ?_;refine zb ?_;refine q_v (ze (B:=zx r C') (hz:=by exact rfl)) ?_;refine q_v (ze (B:=zx q C) (hz:=by exact rfl)) ?_;(refine q_s (zbu (vs:=[.agg (zx r C').toArray,.agg (zx q C).toArray]) (zta (s:=11) rfl rfl rfl)) ?_;rintro _ _ ⟨bM,rfl,rfl⟩);refine zb ?_;refine q_v (za (hc:=λj X E m=>I j E [C',C] _ [kA] _ [] _ _ _ _ 2 _ 1 _ 0 _ 50 1 224 _ _ rfl rfl rfl (zxg (cell:=zx) (zp (m.has (r:=.blk bM 45 (zx r C'++zx q C)) q_h) F0) (hr m (by intro x A;(repeat (first|exact AX _ A|apply Ar|apply A9)))) (hq m (by intro x A;(repeat (first|exact AX _ A|apply Ar|apply A9))))) (T (zp (m.has (r:=.blk Q 65 [.slice (some ⟨G,0,none⟩) 1 1,.string (str [82]),.int .i64 1,.slice (some ⟨H,0,none⟩) 2 2]) q_h) F0) (zp (m.has (r:=.blk H 5 [.int .u8 4,.int .u8 193]) q_h) F0) (zp (m.has (r:=.blk G 9 [.string (str [99,97])]) q_h) F0)) znT c5 V (λx A=>by cases A) q_e q_e q_e e6 rfl rfl)) ?_;refine zb ?_)
 exact q_r
end Go.Proofs.YtdnlngbjpdbffaaGreatDoor
