/- Lemmas. -/
import Derived.Test.YtdnlngbjpdbffaaGreatDoorZJ39
import Derived.Test.YtdnlngbjpdbffaaGreatDoorZJ40
set_option maxHeartbeats 4000000
set_option maxRecDepth 10000
set_option linter.all false
namespace Go.Ct
section
open Go Go.Sy
def kP(s:List UInt8):Prin:=⟨[s],[82]⟩
def kC(s:List UInt8):Cert:=⟨1,kP [99,97],kP [97],10,100,false,1,[0,16],s⟩
def kD(s:List UInt8):Cert:=⟨2,kP [97],kP [98],10,100,false,1,[0,16],s⟩
def kA:Anch:=⟨kP [99,97],1,[4,193]⟩
def kR:Revo:=⟨kP [99,97],1⟩
theorem zwi:(kP [99,97]).ok=true:=by decide
theorem zyM:(kP [97]).ok=true:=by decide
theorem zAp:(kP [98]).ok=true:=by decide
theorem kI1:zbk (1:Int).toNat= [2,1,1]:=by
 unfold zbk;rw[zdi q_e];rfl
theorem kI2:zbk (2:Int).toNat= [2,1,2]:=by
 unfold zbk;rw[zdi q_e];rfl
theorem zmi(s:List UInt8):(kC s).body.length=76:=by
 have h:(kC s).body=zdc [zax 0 [2,1,1],zax 1 (kP [99,97]).der,zax 2 (kP [97]).der,zax 3 (zbu 10),zax 4 (zbu 100),zax 5 (zcQ false),zax 6 [2,1,1],zax 7 (za9 [0,16])]:=by
  show zdc [zax 0 (zbk (1:Int).toNat),_,_,_,_,_,zax 6 (zbk (1:Int).toNat),_]=_;rw[kI1];rfl
 rw[h];decide
theorem zxm(s:List UInt8):(kD s).body.length<=100:=by
 have h:(kD s).body=zdc [zax 0 [2,1,2],zax 1 (kP [97]).der,zax 2 (kP [98]).der,zax 3 (zbu 10),zax 4 (zbu 100),zax 5 (zcQ false),zax 6 [2,1,1],zax 7 (za9 [0,16])]:=by
  show zdc [zax 0 (zbk (2:Int).toNat),_,_,_,_,_,zax 6 (zbk (1:Int).toNat),_]=_;rw[kI1,kI2];rfl
 rw[h];decide
theorem zy0{s:List UInt8}(hs:s.length=4):(kC s).der.length=88:=by
 have j:=zmi s;unfold Cert.der;generalize (kC s).body=b at*;have e:(kC s).sig=s:=rfl;rw[e];unfold zdc zax za9;simp only[BM,CA,AJ,tlv,AQ,A4,j,hs];have d4:(zb0 4).length=1:=rfl;have d76:(zb0 76).length=1:=rfl;have d6:(zb0 (4+1+1)).length=1:=rfl;rw[d4,d76];rfl
variable {sv:Int->List UInt8->Bool}{sf:Int->List UInt8->List UInt8->List UInt8->Bool}
theorem znB{s:List UInt8}(hs:s.length<=192)(h:sv 1 [0,16]=true):(kC s).ok sv=true:=by
 show(decide (0<=(1:Int))&&decide ((1:Int)<=4611686018427387904)&&(kP [99,97]).ok&&(kP [97]).ok&&decide (0<=(10:Int))&&decide ((10:Int)<=100)&&decide ((100:Int)<=1099511627776)&&decide (s.length<=192)&&sv 1 [0,16])=true;rw[zwi,zyM,h,decide_eq_true hs];rfl
theorem zrC{s:List UInt8}(hs:s.length<=192)(h:sv 1 [0,16]=true):(kD s).ok sv=true:=by
 show(decide (0<=(2:Int))&&decide ((2:Int)<=4611686018427387904)&&(kP [97]).ok&&(kP [98]).ok&&decide (0<=(10:Int))&&decide ((10:Int)<=100)&&decide ((100:Int)<=1099511627776)&&decide (s.length<=192)&&sv 1 [0,16])=true;rw[zAp,zyM,h,decide_eq_true hs];rfl
variable {s t:List UInt8}(hs:s.length<=192)(ht:t.length<=192)(h16:sv 1 [0,16]=true)(hA:sv 1 [4,193]=true)(hf:sf 1 [4,193] (kC s).body s=true)
theorem zwk(hA:sv 1 [4,193]=true):Anch.ok sv kA=true:=by
 show((kP [99,97]).ok&&sv 1 [4,193])=true;rw[zwi,hA];rfl
end
section
open Go Go.Sy
variable {sv:Int->List UInt8->Bool}{sf:Int->List UInt8->List UInt8->List UInt8->Bool}{s t:List UInt8}(hs:s.length<=192)(ht:t.length<=192)(h16:sv 1 [0,16]=true)(hA:sv 1 [4,193]=true)(hf:sf 1 [4,193] (kC s).body s=true)
include hs h16 hA
theorem ztV(j:List Anch)(rs:List Revo)(now:Int)(ha:j= [kA]\/j= [])(hr:rs.length<=64)(h0:0<=now)(h1:now<=1099511627776):ziM sv [kC s] j rs now=true:=by
 have e:j.length<=64/\j.all (Anch.ok sv)=true:=by
  rcases ha with rfl|rfl
  ·exact⟨by decide,by rw[BV,zwk hA];rfl⟩
  ·exact⟨by decide,rfl⟩
 have m:zay sv [kC s]=true:=by unfold zay;rw[BV,znB hs h16];rfl
 unfold ziM;rw[m,e.2,decide_eq_true e.1,decide_eq_true hr,decide_eq_true h0,decide_eq_true h1];rfl
theorem zzc(now:Int)(h0:0<=now)(h1:now<=1099511627776):verify sf sv [kC s] [] [] now=(0,220):=by
 unfold verify;rw[if_pos (ztV hs h16 hA [] [] now (.inr rfl) q_e h0 h1)];rfl
end
section
open Go Go.Sy
variable {sv:Int->List UInt8->Bool}{sf:Int->List UInt8->List UInt8->List UInt8->Bool}{s t:List UInt8}(hs:s.length<=192)(ht:t.length<=192)(h16:sv 1 [0,16]=true)(hA:sv 1 [4,193]=true)(hf:sf 1 [4,193] (kC s).body s=true)
include hs h16 hA
include hf
theorem zrE(rs:List Revo)(now:Int)(hr:rs.length<=64)(h0:0<=now)(h1:now<=1099511627776):verify sf sv [kC s] [kA] rs now=(0,if now<10\/100<now then 222 else if zgp rs (kC s) then 223 else 0):=by
 unfold verify;rw[if_pos (ztV hs h16 hA [kA] rs now (.inl rfl) hr h0 h1)];show zgx sf rs now [kC s] (zeU [kA] (kP [99,97]))=_;have m:zeU [kA] (kP [99,97])=kA:=by
  unfold zeU;have:([kA].find? λa=>a.name.same (kP [99,97]))=some kA:=by
   rw[DS];show(kP [99,97]).same (kP [99,97])=true;exact FI.2 rfl
  rw[this];rfl
 rw[m];show(if zfW sf (kC s) kA rs now true=0 then (0,0) else (0,zfW sf (kC s) kA rs now true))=_;have q:zfW sf (kC s) kA rs now true=if now<10\/100<now then 222 else if zgp rs (kC s) then 223 else 0:=by
  unfold zfW;have h1:(kC s).issuer.same kA.name=true:=FI.2 rfl;have j:sf kA.group kA.pub (kC s).body (kC s).sig=true:=hf;rw[h1,j];show(if now<10\/100<now then 222 else if zgp rs (kC s) then 223 else if (!true && !false)=true then 224 else 0)=_;simp
 rw[q];generalize (if now<10\/100<now then (222:Int) else if zgp rs (kC s) then 223 else 0)=E;by_cases hE:E=0
 ·rw[if_pos hE,hE]
 ·rw[if_neg hE]
end
section
open Go Go.Sy
variable {sv:Int->List UInt8->Bool}{sf:Int->List UInt8->List UInt8->List UInt8->Bool}{s t:List UInt8}(hs:s.length<=192)(ht:t.length<=192)(h16:sv 1 [0,16]=true)(hA:sv 1 [4,193]=true)(hf:sf 1 [4,193] (kC s).body s=true)
include hs h16 hA
include hf
include ht
theorem zzZ:verify sf sv [kD t,kC s] [kA] [] 50=(1,224):=by
 unfold verify;have w:zay sv [kD t,kC s]=true:=by unfold zay;rw[BV,BV,znB hs h16,zrC ht h16];rfl
 have j:ziM sv [kD t,kC s] [kA] [] 50=true:=by
  unfold ziM;rw[w,BV,zwk hA];rfl
 rw[if_pos j];show zgx sf [] 50 [kC s,kD t] (zeU [kA] (kP [99,97]))=_;have r:zeU [kA] (kP [99,97])=kA:=by
  unfold zeU;have:([kA].find? λa=>a.name.same (kP [99,97]))=some kA:=by
   rw[DS];show(kP [99,97]).same (kP [99,97])=true;exact FI.2 rfl
  rw[this];rfl
 rw[r];show(if zfW sf (kC s) kA [] 50 false=0 then zgx sf [] 50 [kD t] _ else (1,zfW sf (kC s) kA [] 50 false))=_;have j:zfW sf (kC s) kA [] 50 false=224:=by
  unfold zfW;have m:(kC s).issuer.same kA.name=true:=FI.2 rfl;have q:sf kA.group kA.pub (kC s).body (kC s).sig=true:=hf;rw[m,q];rfl
 rw[j];rfl
end
open Go Go.Sy
theorem zy5(s:List UInt8):zgp [kR] (kC s)=true:=by
 have h:(kP [99,97]).same (kP [99,97])=true:=FI.2 rfl;show((kP [99,97]).same (kP [99,97])&&decide ((1:Int)=1) || false)=true;rw[h];rfl
end Go.Ct
namespace Go.Proofs.YtdnlngbjpdbffaaGreatDoor
open Go Go.Sy Go.Ct Go.Nt Go.RowKit
theorem zoZ:zd1 1 [0,2]=true/\(za5 1 [0,2]).1=2:=by
 have j:za5 1 [0,2]=(2,0):=by decide +kernel
 unfold zd1;rw[j];exact⟨rfl,rfl⟩
theorem zy3:zhF 1 [0,2]=some [0,16]:=by
 unfold zhF;rw[if_pos zoZ.1,zoZ.2];have h:4^2%gP (1:Int).toNat=0*256+16:=by decide +kernel
 rw[h];exact congrArg some (zzT 0 16 q_e q_e)
theorem zfj:svK 1 [0,16]=true:=by unfold svK;rw[zjU zy3];rfl
theorem zhS:svK 1 [4,193]=true:=by unfold svK;rw[zjU zo9];rfl
theorem zyT(m:List UInt8)(hm:m.length<=65536):∃s:List UInt8,zhK 1 [0,2] [7] m=some s/\s.length=4:=by
 have j:zaW 1 [7]=(7,0):=by unfold zaW;rw[if_pos q_e];decide +kernel
 have hs:=zjp (z:=1) (pl:=[0,2]) (nl:=[7]) (ml:=m) zoZ.1 (by rw[j]) (by rw[j];decide) hm;exact⟨_,hs,zoB hs⟩
attribute [local irreducible] Sy SyL SyX SyC SyF Sy.Fn callFunc
theorem zkP(e:Int)(w:World):q_G 14 [.int .i64 e] w (.int .i64 e):=by
 refine zt Tryz.func14 Tryz.ntmps14 ?_;repeat' first|refine s_0 ?_|refine zA [0,1] ?_;refine zb ?_
 exact q_r
def zww(l:List UInt8)(v:Value)(R:List Res):Prop:=∃b,v= .agg #[.slice (some ⟨b,0,none⟩) 1 1,.string (str [82])]/\R= [.blk b 9 [.string (str l)]]
theorem zty(l:List UInt8)(w:World):Sy.Fn Tryz.prog 30 [.string (str l)] w No (zww l):=by
 refine zt Tryz.func30 Tryz.ntmps30 ?_;repeat' first|refine s_0 ?_|refine zf 0 ?_;refine zk λ_=>?_|refine q_k 1 ?_;(refine q_s zz ?_;rintro _ _ ⟨j,rfl,rfl⟩);refine zbt ?_;refine zP ?_
 exact zar rfl (zE (B:=[.slice (some ⟨j,0,none⟩) 1 1,.string (str [82])]) rfl (ty rfl) rfl Ey Ex rfl) q_h ⟨j,rfl,rfl⟩
theorem zuS(vs:List Value)(i e m A:Int)(now:Int)(w:World)(q r v3:Value)(hv:vs= [q,r,v3,.int .i64 now])(hc:∀j,Keep No w j->q_G 25 vs j (.tuple #[.int .i64 i,.int .i64 e])):
  q_G 38 [q,r,v3,.int .i64 now,.int .i64 m,.int .i64 A] w (.bool (decide (i=m)&&decide (e=A))):=by
 subst hv;refine zt Tryz.func38 Tryz.ntmps38 ?_;have B:=λj=>zkP e j;by_cases h:i=m
 ·rw[decide_eq_true h,B2];repeat' first|refine s_0 ?_|refine q_k 0 ?_|refine q_k 1 ?_;refine q_v (za (hc:=zr hc)) ?_;refine zb ?_|refine q_k 2 ?_;refine q_x (zS (hr:=decide_eq_true h)) ?_;refine q_v (za (hc:=q_c B)) ?_;refine zb ?_;refine zaH ?_;refine zb ?_
  exact q_r
 ·rw[decide_eq_false h,BX];repeat' first|refine s_0 ?_|refine q_k 0 ?_|refine q_k 1 ?_;refine q_v (za (hc:=zr hc)) ?_;refine zb ?_|refine q_k 2 ?_;refine q_x (zS (hr:=decide_eq_false h)) ?_
  exact q_r
end Go.Proofs.YtdnlngbjpdbffaaGreatDoor
namespace Go.Sy
open Go
theorem Row.capmax{M:Nat->Prop}{q:Nat}{w:World}{E n c s:Nat}{a:Option Addr}{xs:List Value}{L:List Res}(hh:Holds q M L w)(hL:Has L (.row (.slice a n c) E s n xs)):c<=maxLen:=by
 have j:w.ownsRow 0 E s (.slice a n c) n xs:=hh.has hL;obtain⟨F,⟨m,G⟩|⟨b,B,r,m,_,H,I,A,J,K⟩⟩:=j
 ·cases m;exact AA _
 ·cases m;exact A
def G8:=@Row.capmax
end Go.Sy
namespace Go.Ct
open Go Go.Sy
theorem zpq{α β:Type}{cell:β->α->List Value}{j:World->β->α->Prop}{w:World} :LstAt cell j w none 0 [] []:=⟨rfl,A7 _,λ_=>rfl,.inl rfl,λi p x h=>by simp at h⟩
theorem zmo{α β:Type}{cell:β->α->List Value}{j:World->β->α->Prop}{w:World}{b:Nat}{p:β}{x:α}(h:w.rangeAt b 0 (cell p x))(hx:j w p x):LstAt cell j w (some ⟨b,0,none⟩) 1 [p] [x]:=
 ⟨rfl,A7 _,(λh=>by cases h),.inr ⟨b,0,rfl,by
  show w.rangeAt b 0 (cell p x++[]);rw[AJ];exact h⟩,λi r A m q=>by
  cases i with
  |zero=>cases m;cases q;exact hx
  |succ i=>simp at m⟩
theorem zAv{α β:Type}{cell:β->α->List Value}{r:World->β->α->Prop}{w:World}{b:Nat}{p q:β}{x y:α}(h:w.rangeAt b 0 (cell p x++cell q y))(hx:r w p x)(A:r w q y):LstAt cell r w (some ⟨b,0,none⟩) 2 [p,q] [x,y]:=
 ⟨rfl,A7 _,(λh=>by cases h),.inr ⟨b,0,rfl,by
  show w.rangeAt b 0 (cell p x++(cell q y++[]));rw[AJ];exact h⟩,λi B E j m=>by
  match i,j,m with
  |0,j,m=>cases j;cases m;exact hx
  |1,j,m=>cases j;cases m;exact A
  |i+2,j,m=>simp at j⟩
theorem zny{w:World}{b:Nat}{s:List UInt8}(h:w.rangeAt b 0 [.string (str s)])(hs:s.length<=1000):PrinIn w (zbe (some ⟨b,0,none⟩) 1 (kP s)) (kP s):=
 ⟨⟨some ⟨b,0,none⟩,1,rfl,A7 _,by unfold maxLen;decide,.inr ⟨b,0,rfl,h⟩,λh=>by cases h⟩,by show 1<=maxLen;unfold maxLen;decide,λx j=>by
  rw[AD.1 j];unfold maxLen;omega⟩
theorem zh1{w:World}{b n:Nat}{l:List UInt8}(h:w.rangeAt b 0 (l.map v8))(j:l.length=n):(⟨some ⟨b,0,none⟩,n,n,l⟩:Bs).ok w:=⟨j,A7 _,.inr ⟨b,0,rfl,h⟩,λh=>by cases h⟩
theorem zzg{w:World} :(⟨none,0,0,[]⟩:Bs).ok w:=⟨rfl,A7 _,.inl rfl,λ_=>rfl⟩
def kG(n:Int)(x y s:List UInt8):Cert:=⟨n,kP x,kP y,10,100,false,1,[0,16],s⟩
def kPl(bI bS bU:Nat):Pl:=⟨some ⟨bI,0,none⟩,1,some ⟨bS,0,none⟩,1,some ⟨bU,0,none⟩,2,none,0⟩
theorem zwp{w:World}{j m q:Nat}{n:Int}{x y:List UInt8}(hn:(Lit.int .i64 n).wf=true)(h1:w.rangeAt j 0 [.string (str x)])(h2:w.rangeAt m 0 [.string (str y)])(r:w.rangeAt q 0 [.int .u8 0,.int .u8 16])(hx:x.length<=1000)(A:y.length<=1000):CertAt w (kPl j m q) (kG n x y []):=
 ⟨zny h1 hx,zny h2 A,zh1 (l:=[0,16]) r rfl,zzg,hn,(by show(Lit.int .i64 10).wf=true;decide),(by show(Lit.int .i64 100).wf=true;decide),(by show(Lit.int .i64 1).wf=true;decide)⟩
theorem zj0(n:Int)(x y s:List UInt8)(hx:x.length<=1000)(m:y.length<=1000):(kG n x y s).fine:=
 ⟨⟨by show 1<1000000;decide,by show 1<1000000000;decide,λz j=>by rw[AD.1 j];omega⟩,⟨by show 1<1000000;decide,by show 1<1000000000;decide,λz j=>by rw[AD.1 j];omega⟩⟩
end Go.Ct
namespace Go.Proofs.YtdnlngbjpdbffaaGreatDoor
open Go Go.Sy Go.Ct Go.Nt Go.RowKit
attribute [local irreducible] Sy SyL SyX SyC SyF Sy.Fn callFunc
variable {ro:Option Nat}{N:Nat}{w0:World}{M:Nat->Prop}{ds:List Deferred}{g:Nat->Option Value}{L:List Res}{o:Oper}
theorem zk0{z0 A B z3 z4 E F:Operand}{n f u k:Int}{j r q w:Value}{a:Option Addr}{m c:Nat}(K:o.op= .build 45 #[(0,z0),(1,A),(2,B),(3,z3),(4,z4),(6,E),(7,F)]:=by exact rfl)(h0:ev g z0=some (.int .i64 n):=by exact rfl)(h1:ev g A=some (.agg #[j,r]):=by exact rfl)(h2:ev g B=some (.agg #[q,w]):=by exact rfl)(G:ev g z3=some (.int .i64 f):=by exact rfl)(H:ev g z4=some (.int .i64 u):=by exact rfl)(I:ev g E=some (.int .i64 k):=by exact rfl)(J:ev g F=some (.slice a m c):=by exact rfl):
  OpT Tryz.prog ro N w0 M ds o g L (Det (.agg ([.int .i64 n,j,r,q,w,.int .i64 f,.int .i64 u,.bool false,.int .i64 k,.slice a m c,.slice none 0 0]:List Value).toArray) L):=
 zgg (parts:=#[(0,z0),(1,A),(2,B),(3,z3),(4,z4),(6,E),(7,F)]) (vs:=[.int .i64 n,.agg #[j,r],.agg #[q,w],.int .i64 f,.int .i64 u,.int .i64 k,.slice a m c]) (C:=[.int .i64 n,j,r,q,w,.int .i64 f,.int .i64 u,.bool false,.int .i64 k,.slice a m c,.slice none 0 0]) (by exact(.cons (cs:=[.int .i64 n]) (off:=0) (n:=1) rfl rfl rfl (A5 rfl) (.cons (cs:=[j,r]) (off:=1) (n:=2) rfl rfl rfl (A5 rfl) (.cons (cs:=[q,w]) (off:=3) (n:=2) rfl rfl rfl (A5 rfl) (.cons (cs:=[.int .i64 f]) (off:=5) (n:=1) rfl rfl rfl (A5 rfl) (.cons (cs:=[.int .i64 u]) (off:=6) (n:=1) rfl rfl rfl (A5 rfl) (.cons (cs:=[.int .i64 k]) (off:=8) (n:=1) rfl rfl rfl (A5 rfl) (.cons (cs:=[.slice a m c]) (off:=9) (n:=1) rfl rfl rfl (A5 rfl) .nil)))))))) K (by simp[evs,h0,h1,h2,G,H,I,J]) (ty rfl) rfl rfl (zc rfl)
theorem zma{w w0:World}{M:Nat->Prop}{L X:List Res}{q:Pl}{c:Cert}(hh:Holds w0.heap.size M (L++X) w)(hL:∀r∈zaD q c,r∈L)(F:c.issuer.parts.length<=maxLen)(j:((Lit.int .i64 c.serial).wf=true/\(Lit.int .i64 c.fr).wf=true/\(Lit.int .i64 c.til).wf=true/\(Lit.int .i64 c.group).wf=true))
  (h1:c.issuer.realm.length<=maxLen/\∀x∈c.issuer.parts,x.length<=maxLen)(h2:c.subject.realm.length<=maxLen/\∀x∈c.subject.parts,x.length<=maxLen):CertAt w q c:=by
 have m:Has (L++X) (.row (.slice q.a1 c.issuer.parts.length q.k1) 9 1 c.issuer.parts.length (c.issuer.parts.map zT)):=AH _ (hL _ (by simp[zaD]));have A:Has (L++X) (.row (.slice q.a2 c.subject.parts.length q.k2) 9 1 c.subject.parts.length (c.subject.parts.map zT)):=AH _ (hL _ (by simp[zaD]));have B:Has (L++X) (.row (.slice q.a3 c.pub.length q.k3) 5 1 c.pub.length (c.pub.map v8)):=AH _ (hL _ (by simp[zaD]));have E:Has (L++X) (.row (.slice q.a4 c.sig.length q.k4) 5 1 c.sig.length (c.sig.map v8)):=AH _ (hL _ (by simp[zaD]));exact⟨⟨⟨q.a1,q.k1,rfl,FF hh m,G8 hh m,(Fc (Mi:=No) hh m (λ_ h=>h.elim)).sla,λh=>(Fj hh m h).1⟩,h1⟩,⟨⟨q.a2,q.k2,rfl,FF hh A,G8 hh A,(Fc (Mi:=No) hh A (λ_ h=>h.elim)).sla,λh=>(Fj hh A h).1⟩,h2⟩,zaC hh rfl B,zaC hh rfl E,j⟩
theorem zqy{w w0:World}{M:Nat->Prop}{L X:List Res}{q:Pl}{n:Int}{x y s:List UInt8}(hn:(Lit.int .i64 n).wf=true)(hx:x.length<=1000)(m:y.length<=1000)(hh:Holds w0.heap.size M (L++X) w)(hL:∀r∈zaD q (kG n x y s),r∈L):CertAt w q (kG n x y s):=
 zma hh hL (by show 1<=maxLen;unfold maxLen;decide) ⟨hn,(by show(Lit.int .i64 10).wf=true;decide),(by show(Lit.int .i64 100).wf=true;decide),(by show(Lit.int .i64 1).wf=true;decide)⟩ ⟨by show 1<=maxLen;unfold maxLen;decide,λz j=>by rw[AD.1 j];unfold maxLen;omega⟩ ⟨by show 1<=maxLen;unfold maxLen;decide,λz j=>by rw[AD.1 j];unfold maxLen;omega⟩
theorem zrI(w:World)(hG:GT w)(hT:Tab w No)(hS:ST w):q_G 11 [] w (.bool true):=by
 refine zt Tryz.func11 Tryz.ntmps11 ?_;have hp:=λl j=>zty l j;unfold zww at hp;have a7:=hp [99,97];have ha:=hp [97];have c2:=hp [98];obtain⟨s,c7,c8,c9,-⟩:=zAa (kG 1 [99,97] [97] []).body (by have:=zmi [];rw[show(kG 1 [99,97] [97] []).body=(kC []).body from rfl];omega);obtain⟨t,d8,h5⟩:=zyT (kG 2 [97] [98] []).body (by have:=zxm [];rw[show(kG 2 [97] [98] []).body=(kD []).body from rfl];omega);have K:∀j (_:Keep No w j) p (_:CertAt j p (kG 1 [99,97] [97] [])) (pr no:Bs) (_:pr.ok j) (_:no.ok j) (_:pr.l= [0,6]) (_:no.l= [7]) (_:no.n<=1000),Sy.Fn Tryz.prog 20 [.agg (zF p (kG 1 [99,97] [97] [])).toArray,.int .i64 1,pr.val,no.val] j No (zlP (kG 1 [99,97] [97] s)):=λj E p h pr no b0 a9 e1 e2 e3=>zmw p (kG 1 [99,97] [97] []) 1 pr no s j (hG.to E) (hT.no E) h (zj0 _ _ _ _ q_e q_e) b0 a9 e3 (znB (s:=[]) q_e zfj) (by rw[e1,e2];exact c7);have O:∀j (_:Keep No w j) p (_:CertAt j p (kG 2 [97] [98] [])) (pr no:Bs) (_:pr.ok j) (_:no.ok j) (_:pr.l= [0,2]) (_:no.l= [7]) (_:no.n<=1000),Sy.Fn Tryz.prog 20 [.agg (zF p (kG 2 [97] [98] [])).toArray,.int .i64 1,pr.val,no.val] j No (zlP (kG 2 [97] [98] t)):=λj E p h pr no b0 a9 e1 e2 e3=>zmw p (kG 2 [97] [98] []) 1 pr no t j (hG.to E) (hT.no E) h (zj0 _ _ _ _ q_e q_e) b0 a9 e3 (zrC (s:=[]) q_e zfj) (by rw[e1,e2];exact d8);unfold zlP at K O;have P:s.length<=192:=q_o;have b9:t.length<=192:=q_o;have b5:(kG 1 [99,97] [97] s).ok svK=true:=znB P zfj;have e9:(kG 2 [97] [98] t).ok svK=true:=zrC b9 zfj;have J:=zj0 1 [99,97] [97] s q_e q_e;have a6:=zj0 2 [97] [98] t q_e q_e;have V:sfK 1 [4,193] (kG 1 [99,97] [97] s).body s=true:=by unfold sfK;exact decide_eq_true c9
 have h4:(kG 1 [99,97] [97] s).der.length=88:=zy0 c8;have f9:(kG 1 [99,97] [97] s).body.length=76:=zmi s;have d9:verify sfK svK [kG 1 [99,97] [97] s] [kA] [] 10=(0,0):=zrE P zfj zhS V [] 10 q_e q_e q_e;have e0:verify sfK svK [kG 1 [99,97] [97] s] [kA] [] 101=(0,222):=zrE P zfj zhS V [] 101 q_e q_e q_e;have e4:verify sfK svK [kG 1 [99,97] [97] s] [kA] [kR] 50=(0,223):=by
  have:=zrE P zfj zhS V [kR] 50 q_e q_e q_e;rw[zy5] at this;exact this
 have e5:verify sfK svK [kG 1 [99,97] [97] s] [] [] 50=(0,220):=zzc P zfj zhS 50 q_e q_e;have e6:verify sfK svK [kG 2 [97] [98] t,kG 1 [99,97] [97] s] [kA] [] 50=(1,224):=zzZ P b9 zfj zhS V;have U:∀x∈[kA],x.name.fine:=λx A=>by rw[AD.1 A];exact⟨by show 1<1000000;decide,by show 1<1000000000;decide,λz hz=>by rw[AD.1 hz];decide⟩
 have c6:∀x∈[kR],x.issuer.fine:=λx A=>by rw[AD.1 A];exact⟨by show 1<1000000;decide,by show 1<1000000000;decide,λz hz=>by rw[AD.1 hz];decide⟩
 -- what is asked of Verify
 have I:∀j (_:Keep No w j) (l:List Cert) (ps:List Pl) (an:List Anch) (b6:List Pa) (rs:List Revo) (b7:List (Option Addr×Nat)) (a aa ar:Option Addr) (n c na ca nr cr:Nat) (now i e wi we:Int),l.length=n->an.length=na->rs.length=nr->zbH j a c ps l->zh4 j aa ca b6 an->zh5 j ar cr b7 rs->(∀x∈l,x.fine)->(∀x∈an,x.name.fine)->(∀x∈rs,x.issuer.fine)->n<1000->na<1000->nr<1000->verify sfK svK l an rs now=(i,e)->i=wi->e=we->
   q_G 38 [.slice a n c,.slice aa na ca,.slice ar nr cr,.int .i64 now,.int .i64 wi,.int .i64 we] j (.bool true):=by
  intro j E l ps an b6 rs b7 a aa ar n c na ca nr cr now i e wi we h1 h2 h3 hc hA hR f1 f2 f3 b1 W b3 hv hi he;subst hi;subst he;have:=zuS [.slice a n c,.slice aa na ca,.slice ar nr cr,.int .i64 now] i e i e now j _ _ _ rfl (λf8 F=>by
   have:=zrc a aa ar n c na ca nr cr ps l b6 an b7 rs now f8 ((hG.to E).to F) ((hT.no E).no F) ((hS.to E).to F) h1 h2 h3 (hc.keep F (λp x A=>A.keep F)) (hA.keep F (λp x A=>A.keep F)) (hR.keep F (λp x A=>A.keep F)) f1 f2 f3 b1 W b3;rw[hv] at this;exact this)
  rw[decide_eq_true rfl,decide_eq_true rfl] at this;exact this
 repeat' first|refine s_0 ?_|refine q_k 0 ?_
 repeat' first|refine s_0 ?_|refine zf 1 ?_;(refine q_s (zi (hc:=λj X E m=>a7 j)) ?_;rintro _ _ ⟨R,rfl,G,rfl,rfl⟩);(refine q_s (zz (vs:=[.int .u8 4,.int .u8 193])) ?_;rintro _ _ ⟨H,rfl,rfl⟩);refine zbt ?_;(refine q_s (zb3 (vs:=[.agg [.slice (some ⟨G,0,none⟩) 1 1,.string (str [82]),.int .i64 1,.slice (some ⟨H,0,none⟩) 2 2].toArray]) (zeL (s:=4) rfl rfl)) ?_;rintro _ _ ⟨Q,rfl,rfl⟩);refine zb ?_
 repeat' first|refine zf 2 ?_;(refine q_s (zi (hc:=λj X E m=>a7 j)) ?_;rintro _ _ ⟨R,rfl,Y,rfl,rfl⟩);(refine q_s (zi (hc:=λj X E m=>ha j)) ?_;rintro _ _ ⟨R,rfl,bS,rfl,rfl⟩);(refine q_s (zz (vs:=[.int .u8 0,.int .u8 16])) ?_;rintro _ _ ⟨bU,rfl,rfl⟩);refine q_v zk0 ?_;(refine q_s (zz (vs:=[.int .u8 0,.int .u8 6])) ?_;rintro _ _ ⟨Z,rfl,rfl⟩);(refine q_s (zz (vs:=[.int .u8 7])) ?_;rintro _ _ ⟨bN,rfl,rfl⟩)
 refine q_s (zi (f:=20) (vs:=[.agg (zF (kPl Y bS bU) (kG 1 [99,97] [97] [])).toArray,.int .i64 1,.slice (some ⟨Z,0,none⟩) 2 2,.slice (some ⟨bN,0,none⟩) 1 1]) (hc:=λj X E m=>K j E (kPl Y bS bU) (zwp q_e (zp (m.has (r:=.blk Y 9 [.string (str [99,97])]) q_h) Ex) (zp (m.has (r:=.blk bS 9 [.string (str [97])]) q_h) Ex) (zp (m.has (r:=.blk bU 5 [.int .u8 0,.int .u8 16]) q_h) Ex) q_e q_e)
  ⟨some ⟨Z,0,none⟩,2,2,[0,6]⟩ ⟨some ⟨bN,0,none⟩,1,1,[7]⟩ (zh1 (l:=[0,6]) (zp (m.has (r:=.blk Z 5 [.int .u8 0,.int .u8 6]) q_h) Ex) rfl) (zh1 (l:=[7]) (zp (m.has (r:=.blk bN 5 [.int .u8 7]) q_h) Ex) rfl) rfl rfl (by show 1<=1000;decide))) ?_
 rintro _ _ ⟨R,rfl,q,rfl,rfl⟩;repeat' first|refine s_0 ?_|(refine zx ?_;first|refine q_n (zG (B:=zF q (kG 1 [99,97] [97] s)) (h1:=rfl) (hC:=by exact rfl)) ?_|refine zw ?_|refine zZ ?_|refine zaU ?_|refine zk λ_=>?_|fail)|fail
 rename_i W;refine FJ (fr':=[(0,.bool false),(1,.slice (some ⟨Q,0,none⟩) 1 1),(2,.pointer (some ⟨W,0,none⟩)),(3,.int .i64 0)]) (L':=.blk W 45 (zF q (kG 1 [99,97] [97] s))::(zaD q (kG 1 [99,97] [97] s)++[.blk Q 65 [.slice (some ⟨G,0,none⟩) 1 1,.string (str [82]),.int .i64 1,.slice (some ⟨H,0,none⟩) 2 2],.blk H 5 [.int .u8 4,.int .u8 193],.blk G 9 [.string (str [99,97])]])) ?_ q_h ?_;rotate_left
 ·unfold zaD;exact q_h
 repeat' first|refine zf 3 ?_;(refine q_s (zi (hc:=λj X E m=>ha j)) ?_;rintro _ _ ⟨R,rfl,Y,rfl,rfl⟩);(refine q_s (zi (hc:=λj X E m=>c2 j)) ?_;rintro _ _ ⟨R,rfl,bS,rfl,rfl⟩);(refine q_s (zz (vs:=[.int .u8 0,.int .u8 16])) ?_;rintro _ _ ⟨bU,rfl,rfl⟩);refine q_v zk0 ?_;(refine q_s (zz (vs:=[.int .u8 0,.int .u8 2])) ?_;rintro _ _ ⟨Z,rfl,rfl⟩);(refine q_s (zz (vs:=[.int .u8 7])) ?_;rintro _ _ ⟨bN,rfl,rfl⟩)
 refine q_s (zi (f:=20) (vs:=[.agg (zF (kPl Y bS bU) (kG 2 [97] [98] [])).toArray,.int .i64 1,.slice (some ⟨Z,0,none⟩) 2 2,.slice (some ⟨bN,0,none⟩) 1 1]) (hc:=λj X E m=>O j E (kPl Y bS bU) (zwp q_e (zp (m.has (r:=.blk Y 9 [.string (str [97])]) q_h) Ex) (zp (m.has (r:=.blk bS 9 [.string (str [98])]) q_h) Ex) (zp (m.has (r:=.blk bU 5 [.int .u8 0,.int .u8 16]) q_h) Ex) q_e q_e)
  ⟨some ⟨Z,0,none⟩,2,2,[0,2]⟩ ⟨some ⟨bN,0,none⟩,1,1,[7]⟩ (zh1 (l:=[0,2]) (zp (m.has (r:=.blk Z 5 [.int .u8 0,.int .u8 2]) q_h) Ex) rfl) (zh1 (l:=[7]) (zp (m.has (r:=.blk bN 5 [.int .u8 7]) q_h) Ex) rfl) rfl rfl (by show 1<=1000;decide))) ?_
 rintro _ _ ⟨R,rfl,r,rfl,rfl⟩;repeat' first|refine s_0 ?_|(refine zx ?_;first|refine q_n (zG (B:=zF r (kG 2 [97] [98] t)) (h1:=rfl) (hC:=by exact rfl)) ?_|refine zw ?_|refine zZ ?_|refine zaU ?_|refine zk λ_=>?_|fail)|fail
 rename_i b4;refine FJ (fr':=[(0,.bool false),(1,.slice (some ⟨Q,0,none⟩) 1 1),(2,.pointer (some ⟨W,0,none⟩)),(3,.int .i64 0),(4,.pointer (some ⟨b4,0,none⟩)),(5,.int .i64 0)]) (L':=.blk b4 45 (zF r (kG 2 [97] [98] t)):: .blk W 45 (zF q (kG 1 [99,97] [97] s))::(zaD r (kG 2 [97] [98] t)++(zaD q (kG 1 [99,97] [97] s)++[.blk Q 65 [.slice (some ⟨G,0,none⟩) 1 1,.string (str [82]),.int .i64 1,.slice (some ⟨H,0,none⟩) 2 2],.blk H 5 [.int .u8 4,.int .u8 193],.blk G 9 [.string (str [99,97])]]))) ?_ q_h ?_;rotate_left
 ·unfold zaD;exact q_h
 clear K O;have S:∀ {j:World},j.rangeAt Q 0 [.slice (some ⟨G,0,none⟩) 1 1,.string (str [82]),.int .i64 1,.slice (some ⟨H,0,none⟩) 2 2]->j.rangeAt H 0 [.int .u8 4,.int .u8 193]->j.rangeAt G 0 [.string (str [99,97])]->zh4 j (some ⟨Q,0,none⟩) 1 [⟨some ⟨G,0,none⟩,1,some ⟨H,0,none⟩,2⟩] [kA]:=
  λr1 r2 r3=>zmo (cell:=zcG) r1 ⟨zny r3 q_e,zh1 (l:=[4,193]) r2 rfl,by show(Lit.int .i64 1).wf=true;decide⟩
 have c1:∀ {j:World}{bR bQ:Nat},j.rangeAt bR 0 [.slice (some ⟨bQ,0,none⟩) 1 1,.string (str [82]),.int .i64 1]->j.rangeAt bQ 0 [.string (str [99,97])]->zh5 j (some ⟨bR,0,none⟩) 1 [(some ⟨bQ,0,none⟩,1)] [kR]:=
  λr1 r2=>zmo (cell:=zes) r1 ⟨zny r2 q_e,by show(Lit.int .i64 1).wf=true;decide⟩
 have b8:=λj (E:Keep No w j) (h:CertAt j q (kG 1 [99,97] [97] s))=>zyo q (kG 1 [99,97] [97] s) j (hG.to E) h J b5;have c3:=λj (E:Keep No w j) (h:CertAt j q (kG 1 [99,97] [97] s))=>znO q (kG 1 [99,97] [97] s) j h (FA zcC b5);have T:∀x∈[kG 1 [99,97] [97] s],x.fine:=λx A=>by rw[AD.1 A];exact J
 have c5:∀x∈[kG 2 [97] [98] t,kG 1 [99,97] [97] s],x.fine:=λx A=>by
  rcases AV.1 A with rfl|A
  ·exact a6
  ·rw[AD.1 A];exact J
 have hq:∀ {j:World}{L X:List Res},Holds w.heap.size No (L++X) j->(∀x∈zaD q (kG 1 [99,97] [97] s),x∈L)->CertAt j q (kG 1 [99,97] [97] s):=λm hm=>zqy q_e q_e q_e m hm;have hr:∀ {j:World}{L X:List Res},Holds w.heap.size No (L++X) j->(∀x∈zaD r (kG 2 [97] [98] t),x∈L)->CertAt j r (kG 2 [97] [98] t):=λm hm=>zqy q_e q_e q_e m hm;have a8:=λj=>zkP 0 j;generalize c0:kG 2 [97] [98] t=C',hC:kG 1 [99,97] [97] s=C,c4:(kG 1 [99,97] [97] s).body=BD,(kG 1 [99,97] [97] s).der=D at*;clear c4 hC c0 b5 e9;have e8:decide ((D.length:Int)≠88)=false:=decide_eq_false (λh=>h q_o);have e7:decide ((BD.length:Int)≠76)=false:=decide_eq_false (λh=>h q_o);repeat' first|refine zf 4 ?_;refine q_v (ze (B:=zF q C) (hz:=by exact rfl)) ?_
 refine q_s (zi (hc:=λj X E m=>b8 j E (hq m (by intro x A;(repeat (first|exact AH _ A|apply AY|apply A1)))))) ?_;rintro _ _ ⟨R,rfl,aE,kE,rfl,rfl⟩;repeat' first|refine s_0 ?_|refine q_k 5 ?_;refine q_v (za (hc:=q_c a8)) ?_;refine zb ?_;refine q_v (za (hc:=q_c a8)) ?_;refine zba ?_;refine zb ?_;refine q_v (za (hc:=q_c a8)) ?_;refine zba ?_;refine zaJ ?_;refine zb ?_;refine q_x (zad (hr:=e8)) ?_;refine q_v (ze (B:=zF q C) (hz:=by exact rfl)) ?_;(refine q_s (zi (hc:=λj X E m=>c3 j E (hq m (by intro x A;(repeat (first|exact AH _ A|apply AY|apply A1)))))) ?_;rintro _ _ ⟨R,rfl,aB,kB,rfl,rfl⟩);refine zb ?_;refine q_x (zad (hr:=e7)) ?_|(refine zx ?_;first|refine zw ?_|refine zZ ?_|refine zaU ?_|fail)|fail
 refine FJ (fr':=[(0,.bool false),(1,.slice (some ⟨Q,0,none⟩) 1 1),(2,.pointer (some ⟨W,0,none⟩)),(4,.pointer (some ⟨b4,0,none⟩))]) (L':=.blk b4 45 (zF r C'):: .blk W 45 (zF q C)::(zaD r C'++(zaD q C++[.blk Q 65 [.slice (some ⟨G,0,none⟩) 1 1,.string (str [82]),.int .i64 1,.slice (some ⟨H,0,none⟩) 2 2],.blk H 5 [.int .u8 4,.int .u8 193],.blk G 9 [.string (str [99,97])]]))) ?_ q_h (F7 (F7 Ez));repeat' first|refine s_0 ?_|refine zf 7 ?_;refine q_v (ze (B:=zF q C) (hz:=by exact rfl)) ?_;(refine q_s (zb3 (vs:=[.agg (zF q C).toArray]) (zeL (s:=11) rfl rfl)) ?_;rintro _ _ ⟨bL,rfl,rfl⟩);refine zb ?_
 repeat' first|refine s_0 ?_|refine q_k 8 ?_;refine q_v (za (hc:=λj X E m=>I j E [C] _ [kA] _ [] _ _ _ _ 1 _ 1 _ 0 _ 10 0 0 _ _ rfl rfl rfl (zmo (cell:=zF) (zp (m.has (r:=.blk bL 45 (zF q C)) q_h) Ex) (hq m (by intro x A;(repeat (first|exact AH _ A|apply AY|apply A1))))) (S (zp (m.has (r:=.blk Q 65 [.slice (some ⟨G,0,none⟩) 1 1,.string (str [82]),.int .i64 1,.slice (some ⟨H,0,none⟩) 2 2]) q_h) Ex) (zp (m.has (r:=.blk H 5 [.int .u8 4,.int .u8 193]) q_h) Ex) (zp (m.has (r:=.blk G 9 [.string (str [99,97])]) q_h) Ex)) zpq T U (λx A=>by cases A) q_e q_e q_e d9 rfl rfl)) ?_;refine zb ?_;refine q_v (za (hc:=λj X E m=>I j E [C] _ [kA] _ [] _ _ _ _ 1 _ 1 _ 0 _ 101 0 222 _ _ rfl rfl rfl (zmo (cell:=zF) (zp (m.has (r:=.blk bL 45 (zF q C)) q_h) Ex) (hq m (by intro x A;(repeat (first|exact AH _ A|apply AY|apply A1))))) (S (zp (m.has (r:=.blk Q 65 [.slice (some ⟨G,0,none⟩) 1 1,.string (str [82]),.int .i64 1,.slice (some ⟨H,0,none⟩) 2 2]) q_h) Ex) (zp (m.has (r:=.blk H 5 [.int .u8 4,.int .u8 193]) q_h) Ex) (zp (m.has (r:=.blk G 9 [.string (str [99,97])]) q_h) Ex)) zpq T U (λx A=>by cases A) q_e q_e q_e e0 rfl rfl)) ?_;refine zb ?_;(refine q_s (zi (hc:=λj X E m=>a7 j)) ?_;rintro _ _ ⟨R,rfl,bQ,rfl,rfl⟩);refine zbt ?_;(refine q_s (zb3 (vs:=[.agg [.slice (some ⟨bQ,0,none⟩) 1 1,.string (str [82]),.int .i64 1].toArray]) (zeL (s:=3) rfl rfl)) ?_;rintro _ _ ⟨bR,rfl,rfl⟩);refine q_v (za (hc:=λj X E m=>I j E [C] _ [kA] _ [kR] _ _ _ _ 1 _ 1 _ 1 _ 50 0 223 _ _ rfl rfl rfl (zmo (cell:=zF) (zp (m.has (r:=.blk bL 45 (zF q C)) q_h) Ex) (hq m (by intro x A;(repeat (first|exact AH _ A|apply AY|apply A1))))) (S (zp (m.has (r:=.blk Q 65 [.slice (some ⟨G,0,none⟩) 1 1,.string (str [82]),.int .i64 1,.slice (some ⟨H,0,none⟩) 2 2]) q_h) Ex) (zp (m.has (r:=.blk H 5 [.int .u8 4,.int .u8 193]) q_h) Ex) (zp (m.has (r:=.blk G 9 [.string (str [99,97])]) q_h) Ex)) (c1 (zp (m.has (r:=.blk bR 67 [.slice (some ⟨bQ,0,none⟩) 1 1,.string (str [82]),.int .i64 1]) q_h) Ex) (zp (m.has (r:=.blk bQ 9 [.string (str [99,97])]) q_h) Ex)) T U c6 q_e q_e q_e e4 rfl rfl)) ?_;refine zb ?_;refine q_v (za (hc:=λj X E m=>I j E [C] _ [] _ [] _ _ _ _ 1 _ 0 _ 0 _ 50 0 220 _ _ rfl rfl rfl (zmo (cell:=zF) (zp (m.has (r:=.blk bL 45 (zF q C)) q_h) Ex) (hq m (by intro x A;(repeat (first|exact AH _ A|apply AY|apply A1))))) zpq zpq T (λx A=>by cases A) (λx A=>by cases A) q_e q_e q_e e5 rfl rfl)) ?_;refine zb ?_;refine q_v (ze (B:=zF r C') (hz:=by exact rfl)) ?_;refine q_v (ze (B:=zF q C) (hz:=by exact rfl)) ?_;(refine q_s (zb3 (vs:=[.agg (zF r C').toArray,.agg (zF q C).toArray]) (zuJ (s:=11) rfl rfl rfl)) ?_;rintro _ _ ⟨bM,rfl,rfl⟩);refine zb ?_;refine q_v (za (hc:=λj X E m=>I j E [C',C] _ [kA] _ [] _ _ _ _ 2 _ 1 _ 0 _ 50 1 224 _ _ rfl rfl rfl (zAv (cell:=zF) (zp (m.has (r:=.blk bM 45 (zF r C'++zF q C)) q_h) Ex) (hr m (by intro x A;(repeat (first|exact AH _ A|apply AY|apply A1)))) (hq m (by intro x A;(repeat (first|exact AH _ A|apply AY|apply A1))))) (S (zp (m.has (r:=.blk Q 65 [.slice (some ⟨G,0,none⟩) 1 1,.string (str [82]),.int .i64 1,.slice (some ⟨H,0,none⟩) 2 2]) q_h) Ex) (zp (m.has (r:=.blk H 5 [.int .u8 4,.int .u8 193]) q_h) Ex) (zp (m.has (r:=.blk G 9 [.string (str [99,97])]) q_h) Ex)) zpq c5 U (λx A=>by cases A) q_e q_e q_e e6 rfl rfl)) ?_;refine zb ?_
 exact q_r
end Go.Proofs.YtdnlngbjpdbffaaGreatDoor
