/- Lemmas of this proof. -/
import Derived.Test.YtdnlngbjpdbffaaGreatDoorHJ11
import Derived.Scope
set_option maxHeartbeats 1000000
set_option maxRecDepth 10000
set_option linter.all false
namespace Go.Nt
open Go Go.Sy
def byt(x:Nat):List UInt8:=(be 256 x).map UInt8.ofNat
theorem zi1(x:Nat):(byt x).length=nd 256 x:=by unfold byt;rw[A1,zw5]
theorem zwK(b x:Nat)(hb:0<b):∀d∈be b x,d<b:=by
 intro d j;unfold be cd at j;exact zi3 b hb _ _ d (Cv.1 j)
theorem zwW(x:Nat):bn (byt x)=be 256 x:=by
 unfold bn byt;rw[DJ];refine(List.map_congr_left λd j=>?_).trans (List.map_id _);have:=zwK 256 x q_e d j;show(UInt8.ofNat d).toNat=d;rw[UInt8.toNat_ofNat'];omega
theorem zpF(x:Nat):bev 256 (bn (byt x))=x:=by rw[zwW,zwN 256 x q_e]
def zfm(u:UInt8):Option Nat:=if 48<=u.toNat/\u.toNat<=57 then some (u.toNat-48) else if 97<=u.toNat/\u.toNat<=102 then some (u.toNat-87) else none
theorem zhy{α:Type}(l:List α)(z u:α)(n i:Nat)(h:l[i]?=some u)(m:i<n)(q:l.length=n):
  (l.take i++List.replicate (n-i) z).set i u=l.take (i+1)++List.replicate (n-(i+1)) z:=by
 have j:(l.take i).length=i:=by rw[Ad];omega
 rw[CJ _ _ q_o,j,C5,show n-i=(n-(i+1))+1 by omega,Cx,DB,CA,h];simp
theorem zoy(t k x p:Nat)(j:t*k=64)(hk:0<k):x/18446744073709551616^(p/k)%18446744073709551616/2^(p%k*t)%2^t=x/(2^t)^p%2^t:=by
 have h:=ztg (2^t) k x (p/k) (p%k) (AG _ hk);rw[Ae,<-BO 2 t k,j,<-BO 2 t (p%k),AN t (p%k)] at h;exact h
end Go.Nt
namespace Go.Proofs.YtdnlngbjpdbffaaGreatDoor
open Go Go.Sy Go.Nt Go.RowKit
attribute [local irreducible] Sy SyL SyX Sy.Fn callFunc zg
theorem zmO(x:Nat)(w:World)(hx:x<18446744073709551616^16):
  Sy.Fn Tryz.prog 294 [zu x] w No (λv R=>∃b,v= .slice (some ⟨b,0,none⟩) (nd 256 x) (nd 256 x)/\R= [.blk b 5 ((byt x).map v8)]):=by
 refine zz Tryz.func294 Tryz.ntmps294 ?_;have U:=zb x;have O:=zbF x;have B:=zro 8 x q_e;rw[show(2:Nat)^8=256 from rfl] at B;have hm:nd 2 x<=1024:=zeM hx;have A:=zi1 x;have J:=zwP 256 x;have S:IntKind.i64.wrap (((nd 2 x:Nat):Int)+7)=((nd 2 x+7:Nat):Int):=q_w;have Y:IntKind.i64.wrap ((((nd 2 x+7:Nat):Int)).tdiv 8)=((nd 256 x:Nat):Int):=by rw[B];exact zfJ (k:=8) q_o
 have hn:nd 256 x<=128:=q_o;have r:=λw=>zca x w hx;generalize nd 256 x=n,nd 2 x=m at*;repeat' (first|refine s_t ?_|refine ze 0 ?_;refine z9 ?_;intro _|refine ze 1 ?_;refine zl ?_;refine q_v (za (hc:=q_c r)) ?_;refine q_v (zN (hr:=S)) ?_;refine q_v (zcp (hr:=Y)) ?_|refine q_k 2 ?_|refine q_s zhm ?_;rintro _ _ ⟨j,rfl,rfl⟩|(refine zx ?_;first|refine zo ?_|fail)|fail)
 rename_i I;refine zX (γ:=Nat) (λi=>[(1,.pointer (some ⟨I,0,none⟩)),(3,.slice (some ⟨j,0,none⟩) n n),(11,.slice (some ⟨j,0,none⟩) n n),(12,.int .i64 n),(13,.int .i64 i)])
  (λi=>[.blk j 5 (((byt x).take i++List.replicate (n-i) 0).map v8),.blk I 133 (zg x)])
  (λi=>i<=n) (λi=>n-i) 0 (AE _) ?_ ?_ ?_
 ·exact q_h
 ·show SubR [.blk j 5 (((byt x).take 0++List.replicate (n-0) 0).map v8),.blk I 133 (zg x)] _;rw[Bb,AY,BU,C0,<-zpq];exact q_h
 intro i hi;by_cases hlt:i<n
 ·obtain⟨p,W⟩:∃p,p=n-1-i:=⟨_,rfl⟩;have T:=O (p/8) q_o;have E:=zoy 8 8 x p rfl q_e;have q:=J i hlt;rw[<-W] at q;have hu:(byt x)[i]?=some (UInt8.ofNat (x/256^p%256)):=by
   unfold byt;rw[Ak,q];rfl
  have G:=zhy (byt x) 0 _ n i hu hlt A;have K:x/18446744073709551616^(p/8)%18446744073709551616<18446744073709551616:=AG _ q_e;generalize x/18446744073709551616^(p/8)%18446744073709551616=d at*;have V:(((byt x).take i++List.replicate (n-i) 0).map v8).length=n:=by rw[A1,A3,Ad,AJ];omega
  have H:IntKind.i64.wrap ((n:Int)-1-(i:Int))=((p:Nat):Int):=q_w;have Z:IntKind.i64.wrap ((p:Int).tdiv 8)=((p/8:Nat):Int):=zfJ (k:=8) q_o;have q2:(p:Int).tmod 8=((p%8:Nat):Int):=zjY p 8;have q3:IntKind.i64.wrap (((p%8:Nat):Int)*8)=((p%8*8:Nat):Int):=q_w;have q4:IntKind.u8.wrap ((d/2^(p%8*8):Nat):Int)=Wd.n8 (UInt8.ofNat (x/256^p%256)):=by
   rw[Wd.wrap_u8_nat,Wd.n8_of_nat];rw[show(2:Nat)^8=256 from rfl] at E;rw[E,Ef]
  have X:p/8<16:=q_o;generalize UInt8.ofNat (x/256^p%256)=u at*;repeat' (first|refine s_t ?_|refine ze 3 ?_;refine q_v zm ?_|refine q_k 4 ?_|refine q_k 5 ?_;refine q_x zab ?_;refine q_x (zab (hr:=H)) ?_|refine q_k 6 ?_;refine q_x (zcp (hr:=Z)) ?_;refine zR ?_;refine q_x (zM (hv:=T)) ?_;refine q_v (zcU (hr:=q2)) ?_;refine q_v (zaV (hr:=q3)) ?_;refine q_v (zgw (a:=d) (n:=p%8*8) K) ?_;refine q_v (zaw (hr:=q4)) ?_;refine zR ?_;refine zJ ?_|refine ze 7 ?_;refine za9 ?_;refine zf ?_)
  refine zQ (i+1) ?_ ?_ ?_ ?_
  ·show i+1<=n;omega
  ·show n-(i+1)<n-i;omega
  ·exact q_h
  ·show SubR [.blk j 5 (((byt x).take (i+1)++List.replicate (n-(i+1)) 0).map v8),.blk I 133 (zg x)] _;rw[<-G,Bw];exact q_h
 obtain rfl:i=n:=q_o;rw[C5,CV,AH,<-A,CG];repeat' (first|refine s_0 ?_|refine ze 3 ?_;refine q_v zm ?_|refine q_k 8 ?_)
 exact zaq rfl (zj rfl) q_h ⟨j,rfl,rfl⟩
theorem znW(u:UInt8)(w:World):
  q_G 282 [v8 u] w (.int .i64 (match zfm u with|some d=>((d:Nat):Int)|none=> -1)):=by
 refine zz Tryz.func282 Tryz.ntmps282 ?_;have hu:(Wd.n8 u)=((u.toNat:Nat):Int):=rfl;have q:=u.toNat_lt;unfold zfm;unfold v8;rw[hu];generalize u.toNat=d at*;by_cases h1:48<=d/\d<=57
 ·rw[if_pos h1];repeat' (first|refine s_t ?_|refine q_k 0 ?_|refine q_k 1 ?_;refine q_x zai ?_;refine q_x zaP ?_|refine q_k 2 ?_;refine q_v zab ?_;refine zbf ?_;refine zf ?_)
  exact zaq rfl (zj rfl) El ⟨congrArg (Value.int .i64) (show(d:Int)-48=((d-48:Nat):Int) by omega),rfl⟩
 ·rw[if_neg h1];by_cases h2:97<=d/\d<=102
  ·rw[if_pos h2];repeat' (first|refine s_t ?_|refine q_k 0 ?_|refine q_k 1 ?_;refine q_x zai ?_;refine q_x zaP ?_|refine q_k 3 ?_;refine q_x zai ?_;refine q_x zaP ?_|refine q_k 4 ?_;refine q_v zab ?_;refine zbf ?_;refine za9 ?_;refine zf ?_)
   exact zaq rfl (zj rfl) El ⟨congrArg (Value.int .i64) (show(d:Int)-97+10=((d-87:Nat):Int) by omega),rfl⟩
  ·rw[if_neg h2];rcases AK d 48 with j|j
   ·repeat' (first|refine s_t ?_|refine zL [0,5] ?_;refine zf ?_|refine q_k 1 ?_;refine q_x zai ?_|refine q_k 3 ?_;refine q_x zai ?_)
    exact q_r
   ·rcases AK d 97 with m|m
    ·repeat' (first|refine s_t ?_|refine zL [0,5] ?_;refine zf ?_|refine q_k 1 ?_;refine q_x zai ?_;refine q_x zaP ?_|refine q_k 3 ?_;refine q_x zai ?_)
     exact q_r
    ·repeat' (first|refine s_t ?_|refine zL [0,5] ?_;refine zf ?_|refine q_k 1 ?_;refine q_x zai ?_;refine q_x zaP ?_|refine q_k 3 ?_;refine q_x zai ?_;refine q_x zaP ?_)
     exact q_r
end Go.Proofs.YtdnlngbjpdbffaaGreatDoor
namespace Go.Nt
open Go Go.Sy
def zep:List UInt8->Option (List Nat)
 | []=>some []
 |u::l=>match zfm u,zep l with
  |some d,some r=>some (d::r)
  |_,_=>none
theorem zpi{u:UInt8}{d:Nat}(h:zfm u=some d):d<16:=by
 unfold zfm at h;split at h
 ·cases h;omega
 ·split at h
  ·cases h;omega
  ·cases h
theorem zho:∀ {l:List UInt8}{r:List Nat},zep l=some r->r.length=l.length
 | [],_,h=>by cases h;rfl
 |u::l,r,h=>by
  unfold zep at h;split at h
  ·rename_i d q m j;cases h;rw[AO,AO,zho j]
  ·cases h
theorem zgg:∀ {l:List UInt8}{r:List Nat},zep l=some r->∀(i:Nat) (u:UInt8),l[i]?=some u->∃d,zfm u=some d/\r[i]?=some d
 | [],_,_,i,u,hu=>by simp at hu
 |a::l,r,h,i,u,hu=>by
  unfold zep at h;split at h
  ·rename_i d q j m;cases h;cases i with
   |zero=>
    simp only[CW,Bt] at hu;subst hu;exact⟨d,j,rfl⟩
   |succ i=>
    rw[BS] at hu ⊢;exact zgg m i u hu
  ·cases h
theorem zlw:∀ {l:List UInt8},zep l=none->∃(i:Nat) (u:UInt8),l[i]?=some u/\zfm u=none/\∀j<i,∃v d,l[j]?=some v/\zfm v=some d
 | [],h=>by cases h
 |a::l,h=>by
  unfold zep at h;cases ha:zfm a with
  |none=>exact⟨0,a,rfl,ha,λj m=>absurd m q_o⟩
  |some d=>
   cases hl:zep l with
   |some r=>rw[ha,hl] at h;cases h
   |none=>
    obtain⟨i,u,q,A,B⟩:=zlw hl;refine⟨i+1,u,q,A,λj m=>?_⟩;cases j with
    |zero=>exact⟨a,d,rfl,ha⟩
    |succ j=>exact B j q_o
theorem zvG{l:List UInt8}{r:List Nat}(h:zep l=some r):∀d∈r,d<16:=by
 intro d A;obtain⟨i,m⟩:=List.getElem?_of_mem A;have G:=zho h;have B:i<r.length:=by
  rcases AK i r.length with j|j
  ·exact j
  ·rw[BJ j] at m;cases m
 obtain⟨E,j,q⟩:=zgg h i (l[i]'q_o) (A2 _);rw[m] at q;cases q;exact zpi j
def zfI(l:List UInt8):Bool:=match l with
 | []=>true
 |u::r=>decide (u=48)&&decide (0<r.length)
def parse(l:List UInt8):Option Nat:=if zfI l=true then none else (zep l).map (bev 16)
theorem w16:18446744073709551616^16=16^256:=zht 16 4 256 rfl rfl
theorem zrI{u:UInt8}(h:zfm u=some 0):u=48:=by
 unfold zfm at h;split at h
 ·have:=An h;exact CB.1 (show u.toNat=48 by omega)
 ·split at h
  ·have:=An h;omega
  ·cases h
theorem zqr{l:List UInt8}{r:List Nat}(hb:zfI l=false)(h:zep l=some r):l.length<=256↔bev 16 r<18446744073709551616^16:=by
 rw[w16];have A:=zho h;have j:=zvG h;have q:=zfA 16 r j;rw[<-A];cases l with
 |nil=>cases hb
 |cons u l=>
  obtain⟨d,G,E⟩:=zgg h 0 u rfl;cases r with
  |nil=>simp at A
  |cons e r=>
   simp only[CW,Bt] at E;subst E;constructor
   ·intro B;exact AZ q (AR q_e B)
   ·intro m;rcases AM e with h0|h0
    ·subst h0;have hu:=zrI G;simp only[zfI,hu,decide_true,B1,decide_eq_false_iff_not] at hb;simp only[AO] at A ⊢;omega
    ·have H:=zrN 16 q_e e r h0 j;have:=zcI 16 _ 256 q_e m;rw[H] at this;exact this
theorem zmc(b:Nat)(l:List Nat)(i d:Nat)(h:l[i]?=some d):bev b (l.take (i+1))=bev b (l.take i)*b+d:=by
 rw[CA,h];exact zny b _ _
end Go.Nt
namespace Go.Proofs.YtdnlngbjpdbffaaGreatDoor
open Go Go.Sy Go.Nt Go.RowKit
attribute [local irreducible] Sy SyL SyX Sy.Fn callFunc zg
theorem zta(l:List UInt8)(w:World)(hx:l.length<4611686018427387904):
  q_G 239 [.string (str l)] w (match parse l with
   |none=> .tuple #[zu 0,.int .i64 6]
   |some v=>if v<18446744073709551616^16 then .tuple #[zu v,.int .i64 0] else .tuple #[zu 0,.int .i64 7]):=by
 refine zz Tryz.func239 Tryz.ntmps239 ?_;repeat' (first|refine s_0 ?_|refine ze 0 ?_;refine z9 ?_;intro _)
 rename_i I;refine zda (γ:=Unit) (λ_=>[(0,.string (str l)),(2,.pointer (some ⟨I,0,none⟩)),(3,.int .i64 0),(19,.bool (zfI l))]) (λ_=>[.blk I 133 (List.replicate 16 (Value.int IntKind.u64 0))]) (λ_=>True) ?_ ?_
 ·cases l with
  |nil=>
   rw[show zfI []=true from rfl];repeat' (first|refine zaC ?_|refine zaD ?_|refine q_k 1 ?_;refine q_x (zbb (a:=[]) (b:=[]) (r:=true) (hr:=rfl)) ?_)
   exact zam () trivial q_h q_h
  |cons u r=>
   have A:(str (u::r)).size=r.length+1:=rfl;have K:decide (u::r= [])=false:=decide_eq_false q_p;by_cases hu:u=48
   ·have E:decide (((u.toNat:Nat):Int)=48)=true:=decide_eq_true (by rw[hu];rfl);by_cases hr:0<r.length
    ·rw[show zfI (u::r)=true by simp only[zfI,hu,decide_true,hr,Bool.and_self]];have hg:decide (1<(((str (u::r)).size:Nat):Int))=true:=decide_eq_true (by rw[A];omega);repeat' (first|refine zaC ?_|refine zaD ?_|refine q_k 1 ?_;refine q_x (zbb (a:=u::r) (b:=[]) (r:=false) (hr:=K)) ?_;refine q_v (zas (s:=str (u::r)) (u:=u) (hv:=rfl)) ?_;refine q_x (zY (hr:=E)) ?_;refine q_x (zF (hr:=hg)) ?_)
     exact zam () trivial q_h q_h
    ·rw[show zfI (u::r)=false by simp only[zfI,hr,decide_false,Bool.and_false]];have hg:decide (1<(((str (u::r)).size:Nat):Int))=false:=decide_eq_false (by rw[A];omega);repeat' (first|refine zaC ?_|refine zaD ?_|refine q_k 1 ?_;refine q_x (zbb (a:=u::r) (b:=[]) (r:=false) (hr:=K)) ?_;refine q_v (zas (s:=str (u::r)) (u:=u) (hv:=rfl)) ?_;refine q_x (zY (hr:=E)) ?_;refine q_x (zF (hr:=hg)) ?_)
     exact zam () trivial q_h q_h
   ·rw[show zfI (u::r)=false by simp only[zfI,hu,decide_false,BC]];have E:decide (((u.toNat:Nat):Int)=48)=false:=decide_eq_false (λh=>hu (CB.1 (show u.toNat=48 by omega)));repeat' (first|refine zaC ?_|refine zaD ?_|refine q_k 1 ?_;refine q_x (zbb (a:=u::r) (b:=[]) (r:=false) (hr:=K)) ?_;refine q_v (zas (s:=str (u::r)) (u:=u) (hv:=rfl)) ?_;refine q_x (zY (hr:=E)) ?_)
    exact zam () trivial q_h q_h
 rintro - -;unfold parse;cases hb:zfI l with
 |true=>
  rw[if_pos rfl];repeat' (first|refine s_0 ?_|refine ze 2 ?_;refine za4 ?_;refine zJ ?_;refine zf ?_)
  exact zT rfl (zB (B:=List.replicate 16 (Value.int IntKind.u64 0)) rfl (ty rfl) rfl En Em rfl) (zj rfl) El ⟨by rw[<-zeY],rfl⟩
 |false=>
 rw[if_neg q_e];repeat' (first|refine s_t ?_|refine q_k 3 ?_)
 obtain⟨n,hn⟩:∃n,n=l.length:=⟨_,rfl⟩;have A:(str l).size=n:=by rw[hn];rfl
 rw[<-hn] at hx;refine zX (γ:=Nat) (λi=>[(0,.string (str l)),(2,.pointer (some ⟨I,0,none⟩)),(3,.int .i64 0),(22,.int .i64 n),(23,.int .i64 i)])
  (λ_=>[.blk I 133 (List.replicate 16 (Value.int IntKind.u64 0))])
  (λi=>i<=n/\∀j<i,∃v d,l[j]?=some v/\zfm v=some d) (λi=>n-i) 0 ⟨AE _,λj hj=>absurd hj q_o⟩ ?_ ?_ ?_
 ·rw[A];exact q_h
 ·exact q_h
 rintro i ⟨hi,W⟩;by_cases hlt:i<n
 ·obtain⟨u,hu⟩:∃u,l[i]?=some u:=⟨l[i]'q_o,A2 _⟩;have G:(str l).data[i]?=some u:=by
   show l.toArray[i]?=_;rw[Bv,hu]
  have hv:=λw=>znW u w;cases J:zfm u with
  |none=>
   simp only[J] at hv;have O:zep l=none:=by
    cases hh:zep l with
    |none=>rfl
    |some r=>
     obtain⟨d,S,_⟩:=zgg hh i u hu;rw[J] at S;cases S
   rw[O];repeat' (first|refine s_t ?_|refine ze 4 ?_;refine q_v zm ?_|refine q_k 5 ?_|refine q_k 6 ?_;refine q_v (zas (s:=str l) (u:=u) (hv:=G)) ?_;refine q_v (za (hc:=q_c hv)) ?_;refine q_v zm ?_|refine ze 7 ?_;refine za4 ?_;refine zJ ?_;refine zf ?_)
   exact zT rfl (zB (B:=List.replicate 16 (Value.int IntKind.u64 0)) rfl (ty rfl) rfl En Em rfl) (zj rfl) El ⟨by rw[<-zeY];rfl,rfl⟩
  |some d=>
   simp only[J] at hv;have b1:decide (((d:Nat):Int)<0)=false:=q_f;repeat' (first|refine s_t ?_|refine ze 4 ?_;refine q_v zm ?_|refine q_k 5 ?_|refine q_k 6 ?_;refine q_v (zas (s:=str l) (u:=u) (hv:=G)) ?_;refine q_v (za (hc:=q_c hv)) ?_;refine q_v zm ?_|refine ze 8 ?_;refine za9 ?_;refine zf ?_)
   refine zQ (i+1) ⟨by show i+1<=n;omega,λj hj=>?_⟩ ?_ ?_ ?_
   ·rcases AK j i with h|h
    ·exact W j h
    ·obtain rfl:j=i:=q_o;exact⟨u,d,hu,J⟩
   ·show n-(i+1)<n-i;omega
   ·exact q_h
   ·exact q_h
 obtain rfl:i=n:=q_o;obtain⟨r,hr⟩:∃r,zep l=some r:=by
  cases hh:zep l with
  |some r=>exact⟨r,rfl⟩
  |none=>
   obtain⟨j,u,S,h2,_⟩:=zlw hh;have hj:j<l.length:=by
    rcases AK j l.length with h|h
    ·exact h
    ·rw[BJ h] at S;cases S
   obtain⟨v,d,h3,h4⟩:=W j q_o;rw[S] at h3;cases h3;rw[h2] at h4;cases h4
 have H:=zqr hb hr;have Y:=zho hr;rw[hr,CP];dsimp only;rw[<-hn] at H Y;by_cases hbig:i<=256
 ·rw[if_pos (H.1 hbig)];repeat' (first|refine s_t ?_|refine ze 4 ?_;refine q_v zm ?_|refine q_k 9 ?_;refine q_v zF ?_|refine ze 11 ?_;refine zi ?_;intro _|refine q_k 12 ?_)
  rename_i b5;refine zX (γ:=Nat) (λq=>[(0,.string (str l)),(2,.pointer (some ⟨I,0,none⟩)),(3,.int .i64 0),(5,.pointer (some ⟨b5,0,none⟩)),(38,.int .i64 i),(39,.int .i64 q)])
   (λq=>[.blk b5 133 (zg (bev 16 (r.take q)*16^(i-q))),.blk I 133 (List.replicate 16 (Value.int IntKind.u64 0))])
   (λq=>q<=i) (λq=>i-q) 0 (AE _) ?_ ?_ ?_
  ·rw[A];exact q_h
  ·show SubR [.blk b5 133 (zg (bev 16 (r.take 0)*16^(i-0))),.blk I 133 (List.replicate 16 (Value.int IntKind.u64 0))] _;rw[show bev 16 (r.take 0)=0 from rfl,BA,<-natC0];exact q_h
  intro q hq;by_cases hlt:q<i
  ·obtain⟨u,hu⟩:∃u,l[q]?=some u:=⟨l[q]'q_o,A2 _⟩;obtain⟨d,J,a9⟩:=zgg hr q u hu;have G:(str l).data[q]?=some u:=by
    show l.toArray[q]?=_;rw[Bv,hu]
   have hv:=λw=>znW u w;simp only[J] at hv;obtain⟨p,hp⟩:∃p,p=i-1-q:=⟨_,rfl⟩;have a8:i-q=p+1:=q_o;have Z:IntKind.i64.wrap ((((str l).size:Nat):Int)-1-(q:Int))=((p:Nat):Int):=by rw[A,IntWalk.i64_in _ q_o];omega
   have T:=zpi J;obtain⟨e1,e2,e3,e4,e5,e6⟩:=zjQ 4 16 (bev 16 (r.take q)) p d rfl q_e T;rw[show(2:Nat)^4=16 from rfl] at e1 e4 e5 e6;have V:=zb (bev 16 (r.take q)*16^(i-q));have U:=zbF (bev 16 (r.take q)*16^(i-q)) (p/16) q_o;have m:=zei (bev 16 (r.take q)*16^(i-q)) (p/16) (d*2^(p%16*4));have b0:=zmc 16 r q d a9;rw[a8] at U m V ⊢;rw[e6,<-b0] at m;have m:=m e5;rw[<-e4,<-e2] at m;have a7:i-(q+1)=p:=q_o;generalize bev 16 (r.take q)*16^(p+1)=X at*;generalize X/18446744073709551616^(p/16)%18446744073709551616=y at*;have q1:IntKind.i64.wrap ((p:Int).tdiv 16)=((p/16:Nat):Int):=zfJ (k:=16) q_o;have q2:(p:Int).tmod 16=((p%16:Nat):Int):=zjY p 16;have q3:IntKind.i64.wrap (((p%16:Nat):Int)*4)=((p%16*4:Nat):Int):=q_w;have q4:IntKind.u64.wrap ((d:Nat):Int)=((d:Nat):Int):=IntWalk.u64_in _ q_o;have b3:p/16<16:=q_o;repeat' (first|refine s_t ?_|refine ze 13 ?_;refine q_v zm ?_|refine q_k 14 ?_|refine q_k 15 ?_;refine q_x zab ?_;refine q_x (zab (hr:=Z)) ?_|refine zal (id:=16) 16 [[],[0],[],[0,1,2],[0,1,2,3],[],[],[5,6],[5,6,7],[5,6,7,8],[],[10],[10,11],[5,6,7,8,9,10,11,12],[0,1,2,3,4,5,6,7,8,9,10,11,12,13],[],[0,1,2,3,4,5,6,7,8,9,10,11,12,13,14,15],[0,1,2,3,4,5,6,7,8,9,10,11,12,13,14,15,16]] mixed ?_ ?_;kernel_rfl;refine zO ?_;refine q_D (zcp (hr:=q1)) ?_;refine q_D zP ?_;refine zaA ?_;refine q_D (zM (hv:=U)) ?_;refine zO ?_;refine zO ?_;refine q_D (zas (s:=str l) (u:=u) (hv:=G)) ?_;refine q_D (za (hc:=q_c hv)) ?_;refine q_D (zaw (hr:=q4)) ?_;refine zO ?_;refine q_D (zcU (hr:=q2)) ?_;refine q_D (zaV (hr:=q3)) ?_;refine q_D (zgL (a:=d) (n:=p%16*4)) ?_;refine q_D (ziD (a:=y) (b:=d*2^(p%16*4)%18446744073709551616) e1 (AG _ q_e)) ?_;refine q_D zP ?_;refine zaG ?_;refine zR ?_;refine zJ ?_|refine ze 17 ?_;refine za9 ?_;refine zf ?_)
   refine zQ (q+1) ?_ ?_ ?_ ?_
   ·show q+1<=i;omega
   ·show i-(q+1)<p+1;omega
   ·exact q_h
   ·show SubR [.blk b5 133 (zg (bev 16 (r.take (q+1))*16^(i-(q+1)))),.blk I 133 (List.replicate 16 (Value.int IntKind.u64 0))] _;rw[a7,<-m];exact q_h
  obtain rfl:q=i:=q_o;have R:r.take q=r:=by rw[<-Y];exact CG
  rw[R,C5,Ax,Al];have V:=zb (bev 16 r);have b4:=H.1 hbig;generalize bev 16 r=x at*;repeat' (first|refine s_0 ?_|refine ze 13 ?_;refine q_v zm ?_|refine ze 18 ?_;refine q_v (zd (B:=zg x)) ?_;refine q_y (zk (n:=x)) ?_)
  exact zT rfl (zB (B:=zg x) rfl (ty rfl) rfl En Em (zb _).symm) (zj rfl) El ⟨rfl,rfl⟩
 ·rw[if_neg (λh=>hbig (H.2 h))];have a6:decide (256<(((str l).size:Nat):Int))=true:=decide_eq_true (by rw[A];omega);repeat' (first|refine s_0 ?_|refine ze 4 ?_;refine q_v zm ?_|refine q_k 9 ?_;refine q_v (zF (hr:=a6)) ?_|refine ze 10 ?_;refine za4 ?_;refine zJ ?_;refine zf ?_)
  exact zT rfl (zB (B:=List.replicate 16 (Value.int IntKind.u64 0)) rfl (ty rfl) rfl En Em rfl) (zj rfl) El ⟨by rw[<-zeY],rfl⟩
end Go.Proofs.YtdnlngbjpdbffaaGreatDoor
namespace Go
variable {F:Fence}{n:Nat}{P:Program}{Q:Exit->Act->World->Prop}{a:Act}{w:World}
theorem zbj{b:Frame}{k:List Item}{cs:List Frame}{c:Code} :step P (lone (b.atR a (.code (.scope c)::k)) cs w)= .next (lone (b.atR a (.code c:: .inScope c::k)) cs w):=
 step_lone_go (by simp[stepG,stepG.exec,Frame.atR])
theorem ze7{b:Frame}{k:List Item}{cs:List Frame}{c:Code} :step P (lone (b.atR a (.inScope c::k)) cs w)= .next (lone (b.atR a k) cs w):=
 step_lone_go (by simp[stepG,stepG.exec,Frame.atR])
theorem zhv{c:Code}(h:c.wpIn F n P (Exit.noGoto Q) a w):(Code.scope c).wpIn F n P Q a w:=by
 intro b k I H A E;have h0:(lone (b.atR a (.code (.scope c)::k)) I w).fenced P F:=fenced_calm A E rfl;obtain⟨e,q,r,m,j⟩:=h b (.inScope c::k) I H A E;cases e with
 |normal=>exact⟨.normal,q,r,m,.head h0 zbj (StepsIn.trans j (.one (fenced_calm A E rfl) ze7))⟩
 |exit id'=>
  have J:exitTo id' (.inScope c::k)=exitTo id' k:=by simp[exitTo]
  exact⟨.exit id',q,r,m,λR B=> .head h0 zbj (j.1 R (by rw[J];exact B)),
   λG B=>let ⟨S,K,O⟩:=j.2 G (by rw[J];exact B);⟨S,K,.head h0 zbj O⟩⟩
 |goto l=>exact m.elim
 |ret=>exact⟨_,q,r,m,.of_steps (.one h0 zbj) j⟩
 |panic ch=>exact⟨_,q,r,m,.of_steps (.one h0 zbj) j⟩
 |outgrown=>exact⟨_,q,r,m,.of_steps (.one h0 zbj) j⟩
end Go
namespace Go.Sy
open Go
variable {P:Program}{ro:Option Nat}{N:Nat}{w0:World}{M:Nat->Prop}{ds:List Deferred}{g:Nat->Option Value}{L:List Res}{o:Oper}{fr:Fr}{Q:Exit->Act->World->Prop}
theorem zdk{c:Code}(h:Sy P ro N w0 M ds c (Exit.noGoto Q) fr L):Sy P ro N w0 M ds (.scope c) Q fr L:=λa w j=>zhv (h a w j)
theorem zmV(h:SyX N w0 M ds (Q .normal) fr L):SyX N w0 M ds (Exit.noGoto Q .normal) fr L:=h
theorem zbO(h:SyX N w0 M ds (Q .ret) fr L):SyX N w0 M ds (Exit.noGoto Q .ret) fr L:=h
theorem zuk{V:Operand}{args:Array Operand}{U:Array TypeId}{f:Nat}{fst vs cap:List Value}{post:Value->List Res->Prop}
  (Y:o.op= .call { callee:=.value V,args:=args,argTypes:=U } :=by exact rfl)(hf:ev g V=some (.func (.func f) fst.toArray cap.toArray):=by exact rfl)(ha:evs g args.toList=some vs:=by exact rfl)
  (he:∀args w,(callFunc f args).run P w= .ok (.enter f args) w:=by exact en rfl)
  (hc:∀w X,Keep M w0 w->Holds w0.heap.size M (L++X) w->Fn P f (fst++vs++cap) w No post):OpT P ro N w0 M ds o g L (λv Z=>∃R,Z=R++L/\post v R):=by
 intro a w X next Q j hn
 refine⟨λ_ _=>trivial,?_⟩;rw[Oper.semAt_plain (FW ro) _ _ (λc hc=>by rw[Y] at hc;cases hc)];have m:args.map a.eval=vs.toArray:=B5.1 (by rw[BZ,j.agr.evals ha]);have E:(execOp a.eval o).run P w= .ok (.enter f (fst++vs++cap).toArray) w:=by
  simp only[execOp,Y,resolve,j.agr.eval hf,Deferred.ofValue,m,Sem.run_bind,Sem.run_pure,Result.andThen_ok,invoke];rw[show(fst.toArray++vs.toArray++cap.toArray:Array Value)=(fst++vs++cap).toArray by simp];exact he _ w
 rw[E];refine⟨λh=>(by cases h),?_⟩;have q:=hc w X j.keep j.hold;have O:CallsIn (FW ro) (0-1) P f (fst++vs++cap).toArray w (λe G=>∃v R,e= .returned v/\post v R/\Keep No w G/\Holds w.heap.size No R G):=(callsIn_wide (n:=0-1)).2 q;refine CallsIn.mono O ?_;rintro e G ⟨v,R,rfl,hp,W,H⟩;have S:Keep M w0 G:=j.keep.trans W (λb A=>A.elim);refine hn v G (R++L) ⟨R,rfl,hp⟩ S ?_;have J:=j.hold.keep W (λ_ _ _ _ h=>h);rw[AF];refine⟨λr B=>?_,?_,λr B b A=>?_⟩
 ·rcases Am.1 B with h|h
  ·exact H.all r h
  ·exact J.all r h
 ·refine Bd.2 ⟨H.apart,J.apart,λr B r' T b A K=>?_⟩;rcases H.mine r B b A with h|h
  ·have:=F2 (j.hold.all r' T) K;omega
  ·exact h.elim
 ·rcases Am.1 B with h|h
  ·rcases H.mine r h b A with I|I
   ·exact .inl (BM j.keep.size I)
   ·exact I.elim
  ·exact J.mine r h b A
theorem zeu{m:Operand}{args:Array Operand}{j:Array TypeId}{f:Nat}{fst vs cap:List Value}{v:Value}
  (hc:∀w X,Keep M w0 w->Holds w0.heap.size M (L++X) w->Fn P f (fst++vs++cap) w No (zi9 v))(A:o.op= .call { callee:=.value m,args:=args,argTypes:=j } :=by exact rfl)(r:ev g m=some (.func (.func f) fst.toArray cap.toArray):=by exact rfl)(ha:evs g args.toList=some vs:=by exact rfl)
  (he:∀args w,(callFunc f args).run P w= .ok (.enter f args) w:=by exact en rfl):OpT P ro N w0 M ds o g L (Det v L):=
 (zuk A r ha he hc).mono λG E ⟨R,e,B,q⟩=>by subst B;subst q;exact⟨rfl,e⟩
end Go.Sy
