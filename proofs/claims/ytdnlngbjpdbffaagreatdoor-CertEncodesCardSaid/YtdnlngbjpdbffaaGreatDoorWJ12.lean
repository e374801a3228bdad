/- Lemmas of this proof. -/
import Derived.Test.YtdnlngbjpdbffaaGreatDoorWJ10
import Derived.Scope
set_option maxHeartbeats 1000000
set_option maxRecDepth 10000
set_option linter.all false
namespace Go.Nt
open Go Go.Sy
def byt(x:Nat):List UInt8:=(be 256 x).map UInt8.ofNat
theorem zhy(x:Nat):(byt x).length=nd 256 x:=by unfold byt;rw[A0,zyR]
theorem zyE(b x:Nat)(hb:0<b):∀d∈be b x,d<b:=by
 intro d j;unfold be cd at j;exact zhe b hb _ _ d (Da.1 j)
theorem zyL(x:Nat):bn (byt x)=be 256 x:=by
 unfold bn byt;rw[D8];refine(List.map_congr_left λd j=>?_).trans (List.map_id _);have:=zyE 256 x q_e d j;show(UInt8.ofNat d).toNat=d;rw[UInt8.toNat_ofNat'];omega
theorem zqe(x:Nat):bev 256 (bn (byt x))=x:=by rw[zyL,zys 256 x q_e]
def hexT:List UInt8:=[48,49,50,51,52,53,54,55,56,57,97,98,99,100,101,102]
def zht(d:Nat):UInt8:=(hexT[d]?).getD 0
theorem zuQ(d:Nat)(h:d<16):hexT[d]?=some (zht d):=by
 unfold zht;rw[A1 (show d<hexT.length from h)];rfl
def zcG(u:UInt8):Option Nat:=if 48<=u.toNat/\u.toNat<=57 then some (u.toNat-48) else if 97<=u.toNat/\u.toNat<=102 then some (u.toNat-87) else none
theorem zh3{α:Type}(l:List α)(z u:α)(n i:Nat)(h:l[i]?=some u)(m:i<n)(q:l.length=n):
  (l.take i++List.replicate (n-i) z).set i u=l.take (i+1)++List.replicate (n-(i+1)) z:=by
 have j:(l.take i).length=i:=by rw[AR];omega
 rw[CS _ _ q_o,j,C5,show n-i=(n-(i+1))+1 by omega,DA,DE,CE,h];simp
theorem zpf(t k x p:Nat)(j:t*k=64)(hk:0<k):x/18446744073709551616^(p/k)%18446744073709551616/2^(p%k*t)%2^t=x/(2^t)^p%2^t:=by
 have h:=zkq (2^t) k x (p/k) (p%k) (AC _ hk);rw[Aa,<-BE 2 t k,j,<-BE 2 t (p%k),AK t (p%k)] at h;exact h
end Go.Nt
namespace Go.Proofs.YtdnlngbjpdbffaaGreatDoor
open Go Go.Sy Go.Nt Go.RowKit
attribute [local irreducible] Sy SyL SyX Sy.Fn callFunc zg
theorem zny(x:Nat)(w:World)(hx:x<18446744073709551616^16):
  Sy.Fn Tryz.prog 294 [zr x] w No (λv R=>∃b,v= .slice (some ⟨b,0,none⟩) (nd 256 x) (nd 256 x)/\R= [.blk b 5 ((byt x).map v8)]):=by
 refine zt Tryz.func294 Tryz.ntmps294 ?_;have T:=zd x;have K:=zbK x;have B:=zom 8 x q_e;rw[show(2:Nat)^8=256 from rfl] at B;have hm:nd 2 x<=1024:=ze2 hx;have A:=zhy x;have I:=ztj 256 x;have O:IntKind.i64.wrap (((nd 2 x:Nat):Int)+7)=((nd 2 x+7:Nat):Int):=q_w;have X:IntKind.i64.wrap ((((nd 2 x+7:Nat):Int)).tdiv 8)=((nd 256 x:Nat):Int):=by rw[B];exact zdn (k:=8) q_o
 have hn:nd 256 x<=128:=q_o;have r:=λw=>zcp x w hx;generalize nd 256 x=n,nd 2 x=m at*;repeat' (first|refine s_t ?_|refine zf 0 ?_;refine zW ?_;intro _|refine zf 1 ?_;refine zm ?_;refine q_v (za (hc:=q_c r)) ?_;refine q_v (zF (hr:=O)) ?_;refine q_v (zbv (hr:=X)) ?_|refine q_k 2 ?_|refine q_s zeD ?_;rintro _ _ ⟨j,rfl,rfl⟩|(refine zy ?_;first|refine zw ?_|fail)|fail)
 rename_i H;refine zN (γ:=Nat) (λi=>[(1,.pointer (some ⟨H,0,none⟩)),(3,.slice (some ⟨j,0,none⟩) n n),(11,.slice (some ⟨j,0,none⟩) n n),(12,.int .i64 n),(13,.int .i64 i)])
  (λi=>[.blk j 5 (((byt x).take i++List.replicate (n-i) 0).map v8),.blk H 133 (zg x)])
  (λi=>i<=n) (λi=>n-i) 0 (A9 _) ?_ ?_ ?_
 ·exact q_h
 ·show SubR [.blk j 5 (((byt x).take 0++List.replicate (n-0) 0).map v8),.blk H 133 (zg x)] _;rw[Bu,Af,BT,CD,<-zqj];exact q_h
 intro i hi;by_cases hlt:i<n
 ·obtain⟨p,V⟩:∃p,p=n-1-i:=⟨_,rfl⟩;have S:=K (p/8) q_o;have C:=zpf 8 8 x p rfl q_e;have q:=I i hlt;rw[<-V] at q;have hu:(byt x)[i]?=some (UInt8.ofNat (x/256^p%256)):=by
   unfold byt;rw[AY,q];rfl
  have E:=zh3 (byt x) 0 _ n i hu hlt A;have J:x/18446744073709551616^(p/8)%18446744073709551616<18446744073709551616:=AC _ q_e;generalize x/18446744073709551616^(p/8)%18446744073709551616=d at*;have U:(((byt x).take i++List.replicate (n-i) 0).map v8).length=n:=by rw[A0,A2,AR,AJ];omega
  have G:IntKind.i64.wrap ((n:Int)-1-(i:Int))=((p:Nat):Int):=q_w;have Y:IntKind.i64.wrap ((p:Int).tdiv 8)=((p/8:Nat):Int):=zdn (k:=8) q_o;have Z:(p:Int).tmod 8=((p%8:Nat):Int):=zeq p 8;have q3:IntKind.i64.wrap (((p%8:Nat):Int)*8)=((p%8*8:Nat):Int):=q_w;have q4:IntKind.u8.wrap ((d/2^(p%8*8):Nat):Int)=Wd.n8 (UInt8.ofNat (x/256^p%256)):=by
   rw[Wd.wrap_u8_nat,Wd.n8_of_nat];rw[show(2:Nat)^8=256 from rfl] at C;rw[C,En]
  have W:p/8<16:=q_o;generalize UInt8.ofNat (x/256^p%256)=u at*;repeat' (first|refine s_t ?_|refine zf 3 ?_;refine zag ?_|refine q_k 4 ?_|refine q_k 5 ?_;refine q_x zI ?_;refine q_x (zI (hr:=G)) ?_|refine q_k 6 ?_;refine q_x (zbv (hr:=Y)) ?_;refine zQ ?_;refine q_x (zL (hv:=S)) ?_;refine q_v (zbE (hr:=Z)) ?_;refine q_v (zaJ (hr:=q3)) ?_;refine q_v (zg2 (a:=d) (n:=p%8*8) J) ?_;refine q_v (zam (hr:=q4)) ?_;refine zQ ?_;refine zO ?_|refine zf 7 ?_;refine za4 ?_;refine zb ?_)
  refine zE (i+1) ?_ ?_ ?_ ?_
  ·show i+1<=n;omega
  ·show n-(i+1)<n-i;omega
  ·exact q_h
  ·show SubR [.blk j 5 (((byt x).take (i+1)++List.replicate (n-(i+1)) 0).map v8),.blk H 133 (zg x)] _;rw[<-E,Bq];exact q_h
 obtain rfl:i=n:=q_o;rw[C5,CZ,AG,<-A,Bw];repeat' (first|refine s_0 ?_|refine zf 3 ?_;refine zag ?_|refine q_k 8 ?_)
 exact zap rfl (zh rfl) q_h ⟨j,rfl,rfl⟩
theorem zng(u:UInt8)(w:World):
  q_G 282 [v8 u] w (.int .i64 (match zcG u with|some d=>((d:Nat):Int)|none=> -1)):=by
 refine zt Tryz.func282 Tryz.ntmps282 ?_;have hu:(Wd.n8 u)=((u.toNat:Nat):Int):=rfl;have q:=u.toNat_lt;unfold zcG;unfold v8;rw[hu];generalize u.toNat=d at*;by_cases h1:48<=d/\d<=57
 ·rw[if_pos h1];repeat' (first|refine s_t ?_|refine q_k 0 ?_|refine q_k 1 ?_;refine q_x zP ?_;refine q_x zaF ?_|refine q_k 2 ?_;refine q_v zI ?_;refine zbd ?_;refine zb ?_)
  exact zap rfl (zh rfl) Er ⟨congrArg (Value.int .i64) (show(d:Int)-48=((d-48:Nat):Int) by omega),rfl⟩
 ·rw[if_neg h1];by_cases h2:97<=d/\d<=102
  ·rw[if_pos h2];repeat' (first|refine s_t ?_|refine q_k 0 ?_|refine q_k 1 ?_;refine q_x zP ?_;refine q_x zaF ?_|refine q_k 3 ?_;refine q_x zP ?_;refine q_x zaF ?_|refine q_k 4 ?_;refine q_v zI ?_;refine zbd ?_;refine za4 ?_;refine zb ?_)
   exact zap rfl (zh rfl) Er ⟨congrArg (Value.int .i64) (show(d:Int)-97+10=((d-87:Nat):Int) by omega),rfl⟩
  ·rw[if_neg h2];rcases AF d 48 with j|j
   ·repeat' (first|refine s_t ?_|refine zD [0,5] ?_;refine zb ?_|refine q_k 1 ?_;refine q_x zP ?_|refine q_k 3 ?_;refine q_x zP ?_)
    exact q_r
   ·rcases AF d 97 with m|m
    ·repeat' (first|refine s_t ?_|refine zD [0,5] ?_;refine zb ?_|refine q_k 1 ?_;refine q_x zP ?_;refine q_x zaF ?_|refine q_k 3 ?_;refine q_x zP ?_)
     exact q_r
    ·repeat' (first|refine s_t ?_|refine zD [0,5] ?_;refine zb ?_|refine q_k 1 ?_;refine q_x zP ?_;refine q_x zaF ?_|refine q_k 3 ?_;refine q_x zP ?_;refine q_x zaF ?_)
     exact q_r
end Go.Proofs.YtdnlngbjpdbffaaGreatDoor
namespace Go.Nt
open Go Go.Sy
def zdm:List UInt8->Option (List Nat)
 | []=>some []
 |u::l=>match zcG u,zdm l with
  |some d,some r=>some (d::r)
  |_,_=>none
theorem zhD{u:UInt8}{d:Nat}(h:zcG u=some d):d<16:=by
 unfold zcG at h;split at h
 ·cases h;omega
 ·split at h
  ·cases h;omega
  ·cases h
theorem zh7:∀ {l:List UInt8}{r:List Nat},zdm l=some r->r.length=l.length
 | [],_,h=>by cases h;rfl
 |u::l,r,h=>by
  unfold zdm at h;split at h
  ·rename_i d q m j;cases h;rw[AQ,AQ,zh7 j]
  ·cases h
theorem zfC:∀ {l:List UInt8}{r:List Nat},zdm l=some r->∀(i:Nat) (u:UInt8),l[i]?=some u->∃d,zcG u=some d/\r[i]?=some d
 | [],_,_,i,u,hu=>by simp at hu
 |a::l,r,h,i,u,hu=>by
  unfold zdm at h;split at h
  ·rename_i d q j m;cases h;cases i with
   |zero=>
    simp only[C6,Bp] at hu;subst hu;exact⟨d,j,rfl⟩
   |succ i=>
    rw[B9] at hu ⊢;exact zfC m i u hu
  ·cases h
theorem ziY:∀ {l:List UInt8},zdm l=none->∃(i:Nat) (u:UInt8),l[i]?=some u/\zcG u=none/\∀j<i,∃v d,l[j]?=some v/\zcG v=some d
 | [],h=>by cases h
 |a::l,h=>by
  unfold zdm at h;cases ha:zcG a with
  |none=>exact⟨0,a,rfl,ha,λj m=>absurd m q_o⟩
  |some d=>
   cases hl:zdm l with
   |some r=>rw[ha,hl] at h;cases h
   |none=>
    obtain⟨i,u,q,A,B⟩:=ziY hl;refine⟨i+1,u,q,A,λj m=>?_⟩;cases j with
    |zero=>exact⟨a,d,rfl,ha⟩
    |succ j=>exact B j q_o
theorem zxO{l:List UInt8}{r:List Nat}(h:zdm l=some r):∀d∈r,d<16:=by
 intro d A;obtain⟨i,m⟩:=List.getElem?_of_mem A;have E:=zh7 h;have B:i<r.length:=by
  rcases AF i r.length with j|j
  ·exact j
  ·rw[BV j] at m;cases m
 obtain⟨C,j,q⟩:=zfC h i (l[i]'q_o) (A1 _);rw[m] at q;cases q;exact zhD j
def zdo(l:List UInt8):Bool:=match l with
 | []=>true
 |u::r=>decide (u=48)&&decide (0<r.length)
def parse(l:List UInt8):Option Nat:=if zdo l=true then none else (zdm l).map (bev 16)
theorem w16:18446744073709551616^16=16^256:=zhm 16 4 256 rfl rfl
theorem zs8{u:UInt8}(h:zcG u=some 0):u=48:=by
 unfold zcG at h;split at h
 ·have:=Am h;exact Bc.1 (show u.toNat=48 by omega)
 ·split at h
  ·have:=Am h;omega
  ·cases h
theorem zqP{l:List UInt8}{r:List Nat}(hb:zdo l=false)(h:zdm l=some r):l.length<=256↔bev 16 r<18446744073709551616^16:=by
 rw[w16];have A:=zh7 h;have j:=zxO h;have q:=ze6 16 r j;rw[<-A];cases l with
 |nil=>cases hb
 |cons u l=>
  obtain⟨d,E,C⟩:=zfC h 0 u rfl;cases r with
  |nil=>simp at A
  |cons e r=>
   simp only[C6,Bp] at C;subst C;constructor
   ·intro B;exact AI q (AB q_e B)
   ·intro m;rcases AD e with h0|h0
    ·subst h0;have hu:=zs8 E;simp only[zdo,hu,decide_true,B6,decide_eq_false_iff_not] at hb;simp only[AQ] at A ⊢;omega
    ·have G:=zsK 16 q_e e r h0 j;have:=zbc 16 _ 256 q_e m;rw[G] at this;exact this
theorem zix(b:Nat)(l:List Nat)(i d:Nat)(h:l[i]?=some d):bev b (l.take (i+1))=bev b (l.take i)*b+d:=by
 rw[CE,h];exact znK b _ _
end Go.Nt
namespace Go.Proofs.YtdnlngbjpdbffaaGreatDoor
open Go Go.Sy Go.Nt Go.RowKit
attribute [local irreducible] Sy SyL SyX Sy.Fn callFunc zg
theorem zua(l:List UInt8)(w:World)(hx:l.length<4611686018427387904):
  q_G 239 [.string (str l)] w (match parse l with
   |none=> .tuple #[zr 0,.int .i64 6]
   |some v=>if v<18446744073709551616^16 then .tuple #[zr v,.int .i64 0] else .tuple #[zr 0,.int .i64 7]):=by
 refine zt Tryz.func239 Tryz.ntmps239 ?_;repeat' (first|refine s_0 ?_|refine zf 0 ?_;refine zW ?_;intro _)
 rename_i H;refine zcn (γ:=Unit) (λ_=>[(0,.string (str l)),(2,.pointer (some ⟨H,0,none⟩)),(3,.int .i64 0),(19,.bool (zdo l))]) (λ_=>[.blk H 133 (List.replicate 16 (Value.int IntKind.u64 0))]) (λ_=>True) ?_ ?_
 ·cases l with
  |nil=>
   rw[show zdo []=true from rfl];repeat' (first|refine zaq ?_|refine zat ?_|refine q_k 1 ?_;refine q_x (zbD (a:=[]) (b:=[]) (r:=true) (hr:=rfl)) ?_)
   exact zak () trivial q_h q_h
  |cons u r=>
   have A:(str (u::r)).size=r.length+1:=rfl;have J:decide (u::r= [])=false:=decide_eq_false q_p;by_cases hu:u=48
   ·have C:decide (((u.toNat:Nat):Int)=48)=true:=decide_eq_true (by rw[hu];rfl);by_cases hr:0<r.length
    ·rw[show zdo (u::r)=true by simp only[zdo,hu,decide_true,hr,El]];have hg:decide (1<(((str (u::r)).size:Nat):Int))=true:=decide_eq_true (by rw[A];omega);repeat' (first|refine zaq ?_|refine zat ?_|refine q_k 1 ?_;refine q_x (zbD (a:=u::r) (b:=[]) (r:=false) (hr:=J)) ?_;refine q_v (zR (s:=str (u::r)) (u:=u) (hv:=rfl)) ?_;refine q_x (zS (hr:=C)) ?_;refine q_x (zH (hr:=hg)) ?_)
     exact zak () trivial q_h q_h
    ·rw[show zdo (u::r)=false by simp only[zdo,hr,decide_false,DN]];have hg:decide (1<(((str (u::r)).size:Nat):Int))=false:=decide_eq_false (by rw[A];omega);repeat' (first|refine zaq ?_|refine zat ?_|refine q_k 1 ?_;refine q_x (zbD (a:=u::r) (b:=[]) (r:=false) (hr:=J)) ?_;refine q_v (zR (s:=str (u::r)) (u:=u) (hv:=rfl)) ?_;refine q_x (zS (hr:=C)) ?_;refine q_x (zH (hr:=hg)) ?_)
     exact zak () trivial q_h q_h
   ·rw[show zdo (u::r)=false by simp only[zdo,hu,decide_false,BZ]];have C:decide (((u.toNat:Nat):Int)=48)=false:=decide_eq_false (λh=>hu (Bc.1 (show u.toNat=48 by omega)));repeat' (first|refine zaq ?_|refine zat ?_|refine q_k 1 ?_;refine q_x (zbD (a:=u::r) (b:=[]) (r:=false) (hr:=J)) ?_;refine q_v (zR (s:=str (u::r)) (u:=u) (hv:=rfl)) ?_;refine q_x (zS (hr:=C)) ?_)
    exact zak () trivial q_h q_h
 rintro - -;unfold parse;cases hb:zdo l with
 |true=>
  rw[if_pos rfl];repeat' (first|refine s_0 ?_|refine zf 2 ?_;refine zbb ?_;refine zO ?_;refine zb ?_)
  exact zU rfl (zB (B:=List.replicate 16 (Value.int IntKind.u64 0)) rfl (ty rfl) rfl Ev Et rfl) (zh rfl) Er ⟨by rw[<-zfh],rfl⟩
 |false=>
 rw[if_neg q_e];repeat' (first|refine s_t ?_|refine q_k 3 ?_)
 obtain⟨n,hn⟩:∃n,n=l.length:=⟨_,rfl⟩;have A:(str l).size=n:=by rw[hn];rfl
 rw[<-hn] at hx;refine zN (γ:=Nat) (λi=>[(0,.string (str l)),(2,.pointer (some ⟨H,0,none⟩)),(3,.int .i64 0),(22,.int .i64 n),(23,.int .i64 i)])
  (λ_=>[.blk H 133 (List.replicate 16 (Value.int IntKind.u64 0))])
  (λi=>i<=n/\∀j<i,∃v d,l[j]?=some v/\zcG v=some d) (λi=>n-i) 0 ⟨A9 _,λj hj=>absurd hj q_o⟩ ?_ ?_ ?_
 ·rw[A];exact q_h
 ·exact q_h
 rintro i ⟨hi,V⟩;by_cases hlt:i<n
 ·obtain⟨u,hu⟩:∃u,l[i]?=some u:=⟨l[i]'q_o,A1 _⟩;have E:(str l).data[i]?=some u:=by
   show l.toArray[i]?=_;rw[BH,hu]
  have hv:=λw=>zng u w;cases I:zcG u with
  |none=>
   simp only[I] at hv;have K:zdm l=none:=by
    cases hh:zdm l with
    |none=>rfl
    |some r=>
     obtain⟨d,R,_⟩:=zfC hh i u hu;rw[I] at R;cases R
   rw[K];repeat' (first|refine s_t ?_|refine zf 4 ?_;refine zag ?_|refine q_k 5 ?_|refine q_k 6 ?_;refine q_v (zR (s:=str l) (u:=u) (hv:=E)) ?_;refine q_v (za (hc:=q_c hv)) ?_;refine zag ?_|refine zf 7 ?_;refine zbb ?_;refine zO ?_;refine zb ?_)
   exact zU rfl (zB (B:=List.replicate 16 (Value.int IntKind.u64 0)) rfl (ty rfl) rfl Ev Et rfl) (zh rfl) Er ⟨by rw[<-zfh];rfl,rfl⟩
  |some d=>
   simp only[I] at hv;have b1:decide (((d:Nat):Int)<0)=false:=q_f;repeat' (first|refine s_t ?_|refine zf 4 ?_;refine zag ?_|refine q_k 5 ?_|refine q_k 6 ?_;refine q_v (zR (s:=str l) (u:=u) (hv:=E)) ?_;refine q_v (za (hc:=q_c hv)) ?_;refine zag ?_|refine zf 8 ?_;refine za4 ?_;refine zb ?_)
   refine zE (i+1) ⟨by show i+1<=n;omega,λj hj=>?_⟩ ?_ ?_ ?_
   ·rcases AF j i with h|h
    ·exact V j h
    ·obtain rfl:j=i:=q_o;exact⟨u,d,hu,I⟩
   ·show n-(i+1)<n-i;omega
   ·exact q_h
   ·exact q_h
 obtain rfl:i=n:=q_o;obtain⟨r,hr⟩:∃r,zdm l=some r:=by
  cases hh:zdm l with
  |some r=>exact⟨r,rfl⟩
  |none=>
   obtain⟨j,u,R,h2,_⟩:=ziY hh;have hj:j<l.length:=by
    rcases AF j l.length with h|h
    ·exact h
    ·rw[BV h] at R;cases R
   obtain⟨v,d,h3,h4⟩:=V j q_o;rw[R] at h3;cases h3;rw[h2] at h4;cases h4
 have G:=zqP hb hr;have W:=zh7 hr;rw[hr,CU];dsimp only;rw[<-hn] at G W;by_cases hbig:i<=256
 ·rw[if_pos (G.1 hbig)];repeat' (first|refine s_t ?_|refine zf 4 ?_;refine zag ?_|refine q_k 9 ?_;refine q_v zH ?_|refine zf 11 ?_;refine zj ?_;intro _|refine q_k 12 ?_)
  rename_i Z;refine zN (γ:=Nat) (λq=>[(0,.string (str l)),(2,.pointer (some ⟨H,0,none⟩)),(3,.int .i64 0),(5,.pointer (some ⟨Z,0,none⟩)),(38,.int .i64 i),(39,.int .i64 q)])
   (λq=>[.blk Z 133 (zg (bev 16 (r.take q)*16^(i-q))),.blk H 133 (List.replicate 16 (Value.int IntKind.u64 0))])
   (λq=>q<=i) (λq=>i-q) 0 (A9 _) ?_ ?_ ?_
  ·rw[A];exact q_h
  ·show SubR [.blk Z 133 (zg (bev 16 (r.take 0)*16^(i-0))),.blk H 133 (List.replicate 16 (Value.int IntKind.u64 0))] _;rw[show bev 16 (r.take 0)=0 from rfl,BF,<-natC0];exact q_h
  intro q hq;by_cases hlt:q<i
  ·obtain⟨u,hu⟩:∃u,l[q]?=some u:=⟨l[q]'q_o,A1 _⟩;obtain⟨d,I,a9⟩:=zfC hr q u hu;have E:(str l).data[q]?=some u:=by
    show l.toArray[q]?=_;rw[BH,hu]
   have hv:=λw=>zng u w;simp only[I] at hv;obtain⟨p,hp⟩:∃p,p=i-1-q:=⟨_,rfl⟩;have a8:i-q=p+1:=q_o;have Y:IntKind.i64.wrap ((((str l).size:Nat):Int)-1-(q:Int))=((p:Nat):Int):=by rw[A,IntWalk.i64_in _ q_o];omega
   have S:=zhD I;obtain⟨e1,e2,e3,e4,e5,e6⟩:=zks 4 16 (bev 16 (r.take q)) p d rfl q_e S;rw[show(2:Nat)^4=16 from rfl] at e1 e4 e5 e6;have U:=zd (bev 16 (r.take q)*16^(i-q));have T:=zbK (bev 16 (r.take q)*16^(i-q)) (p/16) q_o;have m:=zeF (bev 16 (r.take q)*16^(i-q)) (p/16) (d*2^(p%16*4));have b0:=zix 16 r q d a9;rw[a8] at T m U ⊢;rw[e6,<-b0] at m;have m:=m e5;rw[<-e4,<-e2] at m;have a7:i-(q+1)=p:=q_o;generalize bev 16 (r.take q)*16^(p+1)=X at*;generalize X/18446744073709551616^(p/16)%18446744073709551616=y at*;have q1:IntKind.i64.wrap ((p:Int).tdiv 16)=((p/16:Nat):Int):=zdn (k:=16) q_o;have q2:(p:Int).tmod 16=((p%16:Nat):Int):=zeq p 16;have q3:IntKind.i64.wrap (((p%16:Nat):Int)*4)=((p%16*4:Nat):Int):=q_w;have q4:IntKind.u64.wrap ((d:Nat):Int)=((d:Nat):Int):=IntWalk.u64_in _ q_o;have b3:p/16<16:=q_o;repeat' (first|refine s_t ?_|refine zf 13 ?_;refine zag ?_|refine q_k 14 ?_|refine q_k 15 ?_;refine q_x zI ?_;refine q_x (zI (hr:=Y)) ?_|refine zaj (id:=16) 16 [[],[0],[],[0,1,2],[0,1,2,3],[],[],[5,6],[5,6,7],[5,6,7,8],[],[10],[10,11],[5,6,7,8,9,10,11,12],[0,1,2,3,4,5,6,7,8,9,10,11,12,13],[],[0,1,2,3,4,5,6,7,8,9,10,11,12,13,14,15],[0,1,2,3,4,5,6,7,8,9,10,11,12,13,14,15,16]] mixed ?_ ?_;kernel_rfl;refine zA ?_;refine q_D (zbv (hr:=q1)) ?_;refine q_D zM ?_;refine zay ?_;refine q_D (zL (hv:=T)) ?_;refine zA ?_;refine zA ?_;refine q_D (zR (s:=str l) (u:=u) (hv:=E)) ?_;refine q_D (za (hc:=q_c hv)) ?_;refine q_D (zam (hr:=q4)) ?_;refine zA ?_;refine q_D (zbE (hr:=q2)) ?_;refine q_D (zaJ (hr:=q3)) ?_;refine q_D (zg6 (a:=d) (n:=p%16*4)) ?_;refine q_D (zi5 (a:=y) (b:=d*2^(p%16*4)%18446744073709551616) e1 (AC _ q_e)) ?_;refine q_D zM ?_;refine zaB ?_;refine zQ ?_;refine zO ?_|refine zf 17 ?_;refine za4 ?_;refine zb ?_)
   refine zE (q+1) ?_ ?_ ?_ ?_
   ·show q+1<=i;omega
   ·show i-(q+1)<p+1;omega
   ·exact q_h
   ·show SubR [.blk Z 133 (zg (bev 16 (r.take (q+1))*16^(i-(q+1)))),.blk H 133 (List.replicate 16 (Value.int IntKind.u64 0))] _;rw[a7,<-m];exact q_h
  obtain rfl:q=i:=q_o;have O:r.take q=r:=by rw[<-W];exact Bw
  rw[O,C5,An,Ak];have U:=zd (bev 16 r);have b4:=G.1 hbig;generalize bev 16 r=x at*;repeat' (first|refine s_0 ?_|refine zf 13 ?_;refine zag ?_|refine zf 18 ?_;refine q_v (ze (B:=zg x)) ?_;refine q_y (zl (n:=x)) ?_)
  exact zU rfl (zB (B:=zg x) rfl (ty rfl) rfl Ev Et (zd _).symm) (zh rfl) Er ⟨rfl,rfl⟩
 ·rw[if_neg (λh=>hbig (G.2 h))];have a6:decide (256<(((str l).size:Nat):Int))=true:=decide_eq_true (by rw[A];omega);repeat' (first|refine s_0 ?_|refine zf 4 ?_;refine zag ?_|refine q_k 9 ?_;refine q_v (zH (hr:=a6)) ?_|refine zf 10 ?_;refine zbb ?_;refine zO ?_;refine zb ?_)
  exact zU rfl (zB (B:=List.replicate 16 (Value.int IntKind.u64 0)) rfl (ty rfl) rfl Ev Et rfl) (zh rfl) Er ⟨by rw[<-zfh],rfl⟩
end Go.Proofs.YtdnlngbjpdbffaaGreatDoor
namespace Go
variable {F:Fence}{n:Nat}{P:Program}{Q:Exit->Act->World->Prop}{a:Act}{w:World}
theorem zbn{b:Frame}{k:List Item}{cs:List Frame}{c:Code} :step P (lone (b.atR a (.code (.scope c)::k)) cs w)= .next (lone (b.atR a (.code c:: .inScope c::k)) cs w):=
 step_lone_go (by simp[stepG,stepG.exec,Frame.atR])
theorem zfz{b:Frame}{k:List Item}{cs:List Frame}{c:Code} :step P (lone (b.atR a (.inScope c::k)) cs w)= .next (lone (b.atR a k) cs w):=
 step_lone_go (by simp[stepG,stepG.exec,Frame.atR])
theorem zh0{c:Code}(h:c.wpIn F n P (Exit.noGoto Q) a w):(Code.scope c).wpIn F n P Q a w:=by
 intro b k H G A C;have h0:(lone (b.atR a (.code (.scope c)::k)) H w).fenced P F:=fenced_calm A C rfl;obtain⟨e,q,r,m,j⟩:=h b (.inScope c::k) H G A C;cases e with
 |normal=>exact⟨.normal,q,r,m,.head h0 zbn (StepsIn.trans j (.one (fenced_calm A C rfl) zfz))⟩
 |exit id'=>
  have I:exitTo id' (.inScope c::k)=exitTo id' k:=by simp[exitTo]
  exact⟨.exit id',q,r,m,λO B=> .head h0 zbn (j.1 O (by rw[I];exact B)),
   λE B=>let ⟨R,J,K⟩:=j.2 E (by rw[I];exact B);⟨R,J,.head h0 zbn K⟩⟩
 |goto l=>exact m.elim
 |ret=>exact⟨_,q,r,m,.of_steps (.one h0 zbn) j⟩
 |panic ch=>exact⟨_,q,r,m,.of_steps (.one h0 zbn) j⟩
 |outgrown=>exact⟨_,q,r,m,.of_steps (.one h0 zbn) j⟩
end Go
namespace Go.Sy
open Go
variable {P:Program}{ro:Option Nat}{N:Nat}{w0:World}{M:Nat->Prop}{ds:List Deferred}{g:Nat->Option Value}{L:List Res}{o:Oper}{fr:Fr}{Q:Exit->Act->World->Prop}
theorem zdG{c:Code}(h:Sy P ro N w0 M ds c (Exit.noGoto Q) fr L):Sy P ro N w0 M ds (.scope c) Q fr L:=λa w j=>zh0 (h a w j)
theorem zou(h:SyX N w0 M ds (Q .normal) fr L):SyX N w0 M ds (Exit.noGoto Q .normal) fr L:=h
theorem zbT(h:SyX N w0 M ds (Q .ret) fr L):SyX N w0 M ds (Exit.noGoto Q .ret) fr L:=h
theorem zuV{U:Operand}{args:Array Operand}{T:Array TypeId}{f:Nat}{fst vs cap:List Value}{post:Value->List Res->Prop}
  (W:o.op= .call { callee:=.value U,args:=args,argTypes:=T } :=by exact rfl)(Z:ev g U=some (.func (.func f) fst.toArray cap.toArray):=by exact rfl)(ha:evs g args.toList=some vs:=by exact rfl)
  (he:∀args w,(callFunc f args).run P w= .ok (.enter f args) w:=by exact en rfl)
  (hc:∀w X,Keep M w0 w->Holds w0.heap.size M (L++X) w->Fn P f (fst++vs++cap) w No post):OpT P ro N w0 M ds o g L (λv Y=>∃R,Y=R++L/\post v R):=by
 intro a w X next Q j hn
 refine⟨λ_ _=>trivial,?_⟩;rw[Oper.semAt_plain (FW ro) _ _ (λc hc=>by rw[W] at hc;cases hc)];have m:args.map a.eval=vs.toArray:=BA.1 (by rw[Bg,j.agr.evals ha]);have C:(execOp a.eval o).run P w= .ok (.enter f (fst++vs++cap).toArray) w:=by
  simp only[execOp,W,resolve,j.agr.eval Z,Deferred.ofValue,m,Sem.run_bind,Sem.run_pure,Result.andThen_ok,invoke];rw[show(fst.toArray++vs.toArray++cap.toArray:Array Value)=(fst++vs++cap).toArray by simp];exact he _ w
 rw[C];refine⟨λh=>(by cases h),?_⟩;have q:=hc w X j.keep j.hold;have K:CallsIn (FW ro) (0-1) P f (fst++vs++cap).toArray w (λe E=>∃v R,e= .returned v/\post v R/\Keep No w E/\Holds w.heap.size No R E):=(callsIn_wide (n:=0-1)).2 q;refine CallsIn.mono K ?_;rintro e E ⟨v,R,rfl,hp,V,G⟩;have O:Keep M w0 E:=j.keep.trans V (λb A=>A.elim);refine hn v E (R++L) ⟨R,rfl,hp⟩ O ?_;have I:=j.hold.keep V (λ_ _ _ _ h=>h);rw[AH];refine⟨λr B=>?_,?_,λr B b A=>?_⟩
 ·rcases Ao.1 B with h|h
  ·exact G.all r h
  ·exact I.all r h
 ·refine Bl.2 ⟨G.apart,I.apart,λr B r' S b A J=>?_⟩;rcases G.mine r B b A with h|h
  ·have:=FA (j.hold.all r' S) J;omega
  ·exact h.elim
 ·rcases Ao.1 B with h|h
  ·rcases G.mine r h b A with H|H
   ·exact .inl (BG j.keep.size H)
   ·exact H.elim
  ·exact I.mine r h b A
theorem zeV{m:Operand}{args:Array Operand}{j:Array TypeId}{f:Nat}{fst vs cap:List Value}{v:Value}
  (hc:∀w X,Keep M w0 w->Holds w0.heap.size M (L++X) w->Fn P f (fst++vs++cap) w No (zij v))(A:o.op= .call { callee:=.value m,args:=args,argTypes:=j } :=by exact rfl)(r:ev g m=some (.func (.func f) fst.toArray cap.toArray):=by exact rfl)(ha:evs g args.toList=some vs:=by exact rfl)
  (he:∀args w,(callFunc f args).run P w= .ok (.enter f args) w:=by exact en rfl):OpT P ro N w0 M ds o g L (Det v L):=
 (zuV A r ha he hc).mono λE C ⟨R,e,B,q⟩=>by subst B;subst q;exact⟨rfl,e⟩
end Go.Sy
