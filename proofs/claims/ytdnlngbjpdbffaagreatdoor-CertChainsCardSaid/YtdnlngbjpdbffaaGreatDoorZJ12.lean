/- Lemmas. -/
import Derived.Test.YtdnlngbjpdbffaaGreatDoorZJ10
import Derived.Scope
set_option maxHeartbeats 1000000
set_option maxRecDepth 10000
set_option linter.all false
namespace Go.Nt
open Go Go.Sy
def byt(x:Nat):List UInt8:=(be 256 x).map UInt8.ofNat
theorem zhR(x:Nat):(byt x).length=nd 256 x:=by unfold byt;rw[A0,zzq]
theorem zyG(b x:Nat)(hb:0<b):∀d∈be b x,d<b:=by
 intro d j;unfold be cd at j;exact zhi b hb _ _ d (CQ.1 j)
theorem zza(x:Nat):bn (byt x)=be 256 x:=by
 unfold bn byt;rw[CY];refine(Ej λd j=>?_).trans (List.map_id _);have:=zyG 256 x q_e d j;show(UInt8.ofNat d).toNat=d;rw[UInt8.toNat_ofNat'];omega
theorem zql(x:Nat):bev 256 (bn (byt x))=x:=by rw[zza,zy9 256 x q_e]
def hexT:List UInt8:=[48,49,50,51,52,53,54,55,56,57,97,98,99,100,101,102]
def zhH(d:Nat):UInt8:=(hexT[d]?).getD 0
theorem zuP(d:Nat)(h:d<16):hexT[d]?=some (zhH d):=by
 unfold zhH;rw[A2 (show d<hexT.length from h)];rfl
def zcO(u:UInt8):Option Nat:=if 48<=u.toNat/\u.toNat<=57 then some (u.toNat-48) else if 97<=u.toNat/\u.toNat<=102 then some (u.toNat-87) else none
theorem zif{α:Type}(l:List α)(z u:α)(n i:Nat)(h:l[i]?=some u)(m:i<n)(q:l.length=n):
  (l.take i++List.replicate (n-i) z).set i u=l.take (i+1)++List.replicate (n-(i+1)) z:=by
 have j:(l.take i).length=i:=by rw[AS];omega
 rw[CV _ _ q_o,j,C7,show n-i=(n-(i+1))+1 by omega,DA,DI,CE,h];simp
theorem zpP(t k x p:Nat)(j:t*k=64)(hk:0<k):x/18446744073709551616^(p/k)%18446744073709551616/2^(p%k*t)%2^t=x/(2^t)^p%2^t:=by
 have h:=zkz (2^t) k x (p/k) (p%k) (AC _ hk);rw[Ad,<-BG 2 t k,j,<-BG 2 t (p%k),AM t (p%k)] at h;exact h
end Go.Nt
namespace Go.Proofs.YtdnlngbjpdbffaaGreatDoor
open Go Go.Sy Go.Nt Go.RowKit
attribute [local irreducible] Sy SyL SyX Sy.Fn callFunc zg
theorem zoR(x:Nat)(w:World)(hx:x<18446744073709551616^16):
  Sy.Fn Tryz.prog 294 [zu x] w No (λv R=>∃b,v= .slice (some ⟨b,0,none⟩) (nd 256 x) (nd 256 x)/\R= [.blk b 5 ((byt x).map v8)]):=by
 refine zt Tryz.func294 Tryz.ntmps294 ?_;have U:=zd x;have O:=zbO x;have B:=znS 8 x q_e;rw[show(2:Nat)^8=256 from rfl] at B;have hm:nd 2 x<=1024:=zfh hx;have A:=zhR x;have J:=ztD 256 x;have S:IntKind.i64.wrap (((nd 2 x:Nat):Int)+7)=((nd 2 x+7:Nat):Int):=q_w;have Y:IntKind.i64.wrap ((((nd 2 x+7:Nat):Int)).tdiv 8)=((nd 256 x:Nat):Int):=by rw[B];exact zdw (k:=8) q_o
 have hn:nd 256 x<=128:=q_o;have r:=λw=>zcv x w hx;generalize nd 256 x=n,nd 2 x=m at*;repeat' (first|refine s_t ?_|refine zf 0 ?_;refine z9 ?_;intro _|refine zf 1 ?_;refine zm ?_;refine q_v (za (hc:=q_c r)) ?_;refine q_v (zD (hr:=S)) ?_;refine q_v (zbz (hr:=Y)) ?_|refine q_k 2 ?_|refine q_s zeP ?_;rintro _ _ ⟨j,rfl,rfl⟩|(refine zx ?_;first|refine zw ?_|fail)|fail)
 rename_i I;refine zL (γ:=Nat) (λi=>[(1,.pointer (some ⟨I,0,none⟩)),(3,.slice (some ⟨j,0,none⟩) n n),(11,.slice (some ⟨j,0,none⟩) n n),(12,.int .i64 n),(13,.int .i64 i)])
  (λi=>[.blk j 5 (((byt x).take i++List.replicate (n-i) 0).map v8),.blk I 133 (zg x)])
  (λi=>i<=n) (λi=>n-i) 0 (AA _) ?_ ?_ ?_
 ·exact q_h
 ·show SubR [.blk j 5 (((byt x).take 0++List.replicate (n-0) 0).map v8),.blk I 133 (zg x)] _;rw[By,Ag,BY,CD,<-zqz];exact q_h
 intro i hi;by_cases hlt:i<n
 ·obtain⟨p,W⟩:∃p,p=n-1-i:=⟨_,rfl⟩;have T:=O (p/8) q_o;have E:=zpP 8 8 x p rfl q_e;have q:=J i hlt;rw[<-W] at q;have hu:(byt x)[i]?=some (UInt8.ofNat (x/256^p%256)):=by
   unfold byt;rw[AW,q];rfl
  have G:=zif (byt x) 0 _ n i hu hlt A;have K:x/18446744073709551616^(p/8)%18446744073709551616<18446744073709551616:=AC _ q_e;generalize x/18446744073709551616^(p/8)%18446744073709551616=d at*;have V:(((byt x).take i++List.replicate (n-i) 0).map v8).length=n:=by rw[A0,A4,AS,AL];omega
  have H:IntKind.i64.wrap ((n:Int)-1-(i:Int))=((p:Nat):Int):=q_w;have Z:IntKind.i64.wrap ((p:Int).tdiv 8)=((p/8:Nat):Int):=zdw (k:=8) q_o;have q2:(p:Int).tmod 8=((p%8:Nat):Int):=zex p 8;have q3:IntKind.i64.wrap (((p%8:Nat):Int)*8)=((p%8*8:Nat):Int):=q_w;have q4:IntKind.u8.wrap ((d/2^(p%8*8):Nat):Int)=Wd.n8 (UInt8.ofNat (x/256^p%256)):=by
   rw[Wd.wrap_u8_nat,Wd.n8_of_nat];rw[show(2:Nat)^8=256 from rfl] at E;rw[E,Er]
  have X:p/8<16:=q_o;generalize UInt8.ofNat (x/256^p%256)=u at*;repeat' (first|refine s_t ?_|refine zf 3 ?_;refine zaf ?_|refine q_k 4 ?_|refine q_k 5 ?_;refine q_x zK ?_;refine q_x (zK (hr:=H)) ?_|refine q_k 6 ?_;refine q_x (zbz (hr:=Z)) ?_;refine zQ ?_;refine q_x (zM (hv:=T)) ?_;refine q_v (zbI (hr:=q2)) ?_;refine q_v (zaM (hr:=q3)) ?_;refine q_v (zhp (a:=d) (n:=p%8*8) K) ?_;refine q_v (zam (hr:=q4)) ?_;refine zQ ?_;refine zP ?_|refine zf 7 ?_;refine zba ?_;refine zb ?_)
  refine zC (i+1) ?_ ?_ ?_ ?_
  ·show i+1<=n;omega
  ·show n-(i+1)<n-i;omega
  ·exact q_h
  ·show SubR [.blk j 5 (((byt x).take (i+1)++List.replicate (n-(i+1)) 0).map v8),.blk I 133 (zg x)] _;rw[<-G,Bw];exact q_h
 obtain rfl:i=n:=q_o;rw[C7,Cf,AJ,<-A,C3];repeat' (first|refine s_0 ?_|refine zf 3 ?_;refine zaf ?_|refine q_k 8 ?_)
 exact zar rfl (zh rfl) q_h ⟨j,rfl,rfl⟩
theorem zpd(u:UInt8)(w:World):
  q_G 282 [v8 u] w (.int .i64 (match zcO u with|some d=>((d:Nat):Int)|none=> -1)):=by
 refine zt Tryz.func282 Tryz.ntmps282 ?_;have hu:(Wd.n8 u)=((u.toNat:Nat):Int):=rfl;have q:=u.toNat_lt;unfold zcO;unfold v8;rw[hu];generalize u.toNat=d at*;by_cases h1:48<=d/\d<=57
 ·rw[if_pos h1];repeat' (first|refine s_t ?_|refine q_k 0 ?_|refine q_k 1 ?_;refine q_x zO ?_;refine q_x zaA ?_|refine q_k 2 ?_;refine q_v zK ?_;refine zbh ?_;refine zb ?_)
  exact zar rfl (zh rfl) Ev ⟨congrArg (Value.int .i64) (show(d:Int)-48=((d-48:Nat):Int) by omega),rfl⟩
 ·rw[if_neg h1];by_cases h2:97<=d/\d<=102
  ·rw[if_pos h2];repeat' (first|refine s_t ?_|refine q_k 0 ?_|refine q_k 1 ?_;refine q_x zO ?_;refine q_x zaA ?_|refine q_k 3 ?_;refine q_x zO ?_;refine q_x zaA ?_|refine q_k 4 ?_;refine q_v zK ?_;refine zbh ?_;refine zba ?_;refine zb ?_)
   exact zar rfl (zh rfl) Ev ⟨congrArg (Value.int .i64) (show(d:Int)-97+10=((d-87:Nat):Int) by omega),rfl⟩
  ·rw[if_neg h2];rcases AG d 48 with j|j
   ·repeat' (first|refine s_t ?_|refine zA [0,5] ?_;refine zb ?_|refine q_k 1 ?_;refine q_x zO ?_|refine q_k 3 ?_;refine q_x zO ?_)
    exact q_r
   ·rcases AG d 97 with m|m
    ·repeat' (first|refine s_t ?_|refine zA [0,5] ?_;refine zb ?_|refine q_k 1 ?_;refine q_x zO ?_;refine q_x zaA ?_|refine q_k 3 ?_;refine q_x zO ?_)
     exact q_r
    ·repeat' (first|refine s_t ?_|refine zA [0,5] ?_;refine zb ?_|refine q_k 1 ?_;refine q_x zO ?_;refine q_x zaA ?_|refine q_k 3 ?_;refine q_x zO ?_;refine q_x zaA ?_)
     exact q_r
end Go.Proofs.YtdnlngbjpdbffaaGreatDoor
namespace Go.Nt
open Go Go.Sy
def zdv:List UInt8->Option (List Nat)
 | []=>some []
 |u::l=>match zcO u,zdv l with
  |some d,some r=>some (d::r)
  |_,_=>none
theorem zh0{u:UInt8}{d:Nat}(h:zcO u=some d):d<16:=by
 unfold zcO at h;split at h
 ·cases h;omega
 ·split at h
  ·cases h;omega
  ·cases h
theorem ziv:∀ {l:List UInt8}{r:List Nat},zdv l=some r->r.length=l.length
 | [],_,h=>by cases h;rfl
 |u::l,r,h=>by
  unfold zdv at h;split at h
  ·rename_i d q m j;cases h;rw[AQ,AQ,ziv j]
  ·cases h
theorem zfN:∀ {l:List UInt8}{r:List Nat},zdv l=some r->∀(i:Nat) (u:UInt8),l[i]?=some u->∃d,zcO u=some d/\r[i]?=some d
 | [],_,_,i,u,hu=>by simp at hu
 |a::l,r,h,i,u,hu=>by
  unfold zdv at h;split at h
  ·rename_i d q j m;cases h;cases i with
   |zero=>
    simp only[C8,Bm] at hu;subst hu;exact⟨d,j,rfl⟩
   |succ i=>
    rw[BA] at hu ⊢;exact zfN m i u hu
  ·cases h
theorem zi6:∀ {l:List UInt8},zdv l=none->∃(i:Nat) (u:UInt8),l[i]?=some u/\zcO u=none/\∀j<i,∃v d,l[j]?=some v/\zcO v=some d
 | [],h=>by cases h
 |a::l,h=>by
  unfold zdv at h;cases ha:zcO a with
  |none=>exact⟨0,a,rfl,ha,λj m=>absurd m q_o⟩
  |some d=>
   cases hl:zdv l with
   |some r=>rw[ha,hl] at h;cases h
   |none=>
    obtain⟨i,u,q,A,B⟩:=zi6 hl;refine⟨i+1,u,q,A,λj m=>?_⟩;cases j with
    |zero=>exact⟨a,d,rfl,ha⟩
    |succ j=>exact B j q_o
theorem zx8{l:List UInt8}{r:List Nat}(h:zdv l=some r):∀d∈r,d<16:=by
 intro d A;obtain⟨i,m⟩:=List.getElem?_of_mem A;have G:=ziv h;have B:i<r.length:=by
  rcases AG i r.length with j|j
  ·exact j
  ·rw[BI j] at m;cases m
 obtain⟨E,j,q⟩:=zfN h i (l[i]'q_o) (A2 _);rw[m] at q;cases q;exact zh0 j
def zdu(l:List UInt8):Bool:=match l with
 | []=>true
 |u::r=>decide (u=48)&&decide (0<r.length)
def parse(l:List UInt8):Option Nat:=if zdu l=true then none else (zdv l).map (bev 16)
theorem w16:18446744073709551616^16=16^256:=zhC 16 4 256 rfl rfl
theorem zsj{u:UInt8}(h:zcO u=some 0):u=48:=by
 unfold zcO at h;split at h
 ·have:=Am h;exact Bf.1 (show u.toNat=48 by omega)
 ·split at h
  ·have:=Am h;omega
  ·cases h
theorem zrF{l:List UInt8}{r:List Nat}(hb:zdu l=false)(h:zdv l=some r):l.length<=256↔bev 16 r<18446744073709551616^16:=by
 rw[w16];have A:=ziv h;have j:=zx8 h;have q:=zfn 16 r j;rw[<-A];cases l with
 |nil=>cases hb
 |cons u l=>
  obtain⟨d,G,E⟩:=zfN h 0 u rfl;cases r with
  |nil=>simp at A
  |cons e r=>
   simp only[C8,Bm] at E;subst E;constructor
   ·intro B;exact AK q (AB q_e B)
   ·intro m;rcases AE e with h0|h0
    ·subst h0;have hu:=zsj G;simp only[zdu,hu,decide_true,B2,decide_eq_false_iff_not] at hb;simp only[AQ] at A ⊢;omega
    ·have H:=zsw 16 q_e e r h0 j;have:=zbj 16 _ 256 q_e m;rw[H] at this;exact this
theorem ziS(b:Nat)(l:List Nat)(i d:Nat)(h:l[i]?=some d):bev b (l.take (i+1))=bev b (l.take i)*b+d:=by
 rw[CE,h];exact zor b _ _
end Go.Nt
namespace Go.Proofs.YtdnlngbjpdbffaaGreatDoor
open Go Go.Sy Go.Nt Go.RowKit
attribute [local irreducible] Sy SyL SyX Sy.Fn callFunc zg
theorem zvE(l:List UInt8)(w:World)(hx:l.length<4611686018427387904):
  q_G 239 [.string (str l)] w (match parse l with
   |none=> .tuple #[zu 0,.int .i64 6]
   |some v=>if v<18446744073709551616^16 then .tuple #[zu v,.int .i64 0] else .tuple #[zu 0,.int .i64 7]):=by
 refine zt Tryz.func239 Tryz.ntmps239 ?_;repeat' (first|refine s_0 ?_|refine zf 0 ?_;refine z9 ?_;intro _)
 rename_i I;refine zcu (γ:=Unit) (λ_=>[(0,.string (str l)),(2,.pointer (some ⟨I,0,none⟩)),(3,.int .i64 0),(19,.bool (zdu l))]) (λ_=>[.blk I 133 (List.replicate 16 (Value.int IntKind.u64 0))]) (λ_=>True) ?_ ?_
 ·cases l with
  |nil=>
   rw[show zdu []=true from rfl];repeat' (first|refine zap ?_|refine zao ?_|refine q_k 1 ?_;refine q_x (zbJ (a:=[]) (b:=[]) (r:=true) (hr:=rfl)) ?_)
   exact zaj () trivial q_h q_h
  |cons u r=>
   have A:(str (u::r)).size=r.length+1:=rfl;have K:decide (u::r= [])=false:=decide_eq_false q_p;by_cases hu:u=48
   ·have E:decide (((u.toNat:Nat):Int)=48)=true:=decide_eq_true (by rw[hu];rfl);by_cases hr:0<r.length
    ·rw[show zdu (u::r)=true by simp only[zdu,hu,decide_true,hr,En]];have hg:decide (1<(((str (u::r)).size:Nat):Int))=true:=decide_eq_true (by rw[A];omega);repeat' (first|refine zap ?_|refine zao ?_|refine q_k 1 ?_;refine q_x (zbJ (a:=u::r) (b:=[]) (r:=false) (hr:=K)) ?_;refine q_v (zR (s:=str (u::r)) (u:=u) (hv:=rfl)) ?_;refine q_x (zS (hr:=E)) ?_;refine q_x (zH (hr:=hg)) ?_)
     exact zaj () trivial q_h q_h
    ·rw[show zdu (u::r)=false by simp only[zdu,hr,decide_false,Cy]];have hg:decide (1<(((str (u::r)).size:Nat):Int))=false:=decide_eq_false (by rw[A];omega);repeat' (first|refine zap ?_|refine zao ?_|refine q_k 1 ?_;refine q_x (zbJ (a:=u::r) (b:=[]) (r:=false) (hr:=K)) ?_;refine q_v (zR (s:=str (u::r)) (u:=u) (hv:=rfl)) ?_;refine q_x (zS (hr:=E)) ?_;refine q_x (zH (hr:=hg)) ?_)
     exact zaj () trivial q_h q_h
   ·rw[show zdu (u::r)=false by simp only[zdu,hu,decide_false,BX]];have E:decide (((u.toNat:Nat):Int)=48)=false:=decide_eq_false (λh=>hu (Bf.1 (show u.toNat=48 by omega)));repeat' (first|refine zap ?_|refine zao ?_|refine q_k 1 ?_;refine q_x (zbJ (a:=u::r) (b:=[]) (r:=false) (hr:=K)) ?_;refine q_v (zR (s:=str (u::r)) (u:=u) (hv:=rfl)) ?_;refine q_x (zS (hr:=E)) ?_)
    exact zaj () trivial q_h q_h
 rintro - -;unfold parse;cases hb:zdu l with
 |true=>
  rw[if_pos rfl];repeat' (first|refine s_0 ?_|refine zf 2 ?_;refine zbt ?_;refine zP ?_;refine zb ?_)
  exact zU rfl (zE (B:=List.replicate 16 (Value.int IntKind.u64 0)) rfl (ty rfl) rfl Ey Ex rfl) (zh rfl) Ev ⟨by rw[<-zfw],rfl⟩
 |false=>
 rw[if_neg q_e];repeat' (first|refine s_t ?_|refine q_k 3 ?_)
 obtain⟨n,hn⟩:∃n,n=l.length:=⟨_,rfl⟩;have A:(str l).size=n:=by rw[hn];rfl
 rw[<-hn] at hx;refine zL (γ:=Nat) (λi=>[(0,.string (str l)),(2,.pointer (some ⟨I,0,none⟩)),(3,.int .i64 0),(22,.int .i64 n),(23,.int .i64 i)])
  (λ_=>[.blk I 133 (List.replicate 16 (Value.int IntKind.u64 0))])
  (λi=>i<=n/\∀j<i,∃v d,l[j]?=some v/\zcO v=some d) (λi=>n-i) 0 ⟨AA _,λj hj=>absurd hj q_o⟩ ?_ ?_ ?_
 ·rw[A];exact q_h
 ·exact q_h
 rintro i ⟨hi,W⟩;by_cases hlt:i<n
 ·obtain⟨u,hu⟩:∃u,l[i]?=some u:=⟨l[i]'q_o,A2 _⟩;have G:(str l).data[i]?=some u:=by
   show l.toArray[i]?=_;rw[BJ,hu]
  have hv:=λw=>zpd u w;cases J:zcO u with
  |none=>
   simp only[J] at hv;have O:zdv l=none:=by
    cases hh:zdv l with
    |none=>rfl
    |some r=>
     obtain⟨d,S,_⟩:=zfN hh i u hu;rw[J] at S;cases S
   rw[O];repeat' (first|refine s_t ?_|refine zf 4 ?_;refine zaf ?_|refine q_k 5 ?_|refine q_k 6 ?_;refine q_v (zR (s:=str l) (u:=u) (hv:=G)) ?_;refine q_v (za (hc:=q_c hv)) ?_;refine zaf ?_|refine zf 7 ?_;refine zbt ?_;refine zP ?_;refine zb ?_)
   exact zU rfl (zE (B:=List.replicate 16 (Value.int IntKind.u64 0)) rfl (ty rfl) rfl Ey Ex rfl) (zh rfl) Ev ⟨by rw[<-zfw];rfl,rfl⟩
  |some d=>
   simp only[J] at hv;have b1:decide (((d:Nat):Int)<0)=false:=q_f;repeat' (first|refine s_t ?_|refine zf 4 ?_;refine zaf ?_|refine q_k 5 ?_|refine q_k 6 ?_;refine q_v (zR (s:=str l) (u:=u) (hv:=G)) ?_;refine q_v (za (hc:=q_c hv)) ?_;refine zaf ?_|refine zf 8 ?_;refine zba ?_;refine zb ?_)
   refine zC (i+1) ⟨by show i+1<=n;omega,λj hj=>?_⟩ ?_ ?_ ?_
   ·rcases AG j i with h|h
    ·exact W j h
    ·obtain rfl:j=i:=q_o;exact⟨u,d,hu,J⟩
   ·show n-(i+1)<n-i;omega
   ·exact q_h
   ·exact q_h
 obtain rfl:i=n:=q_o;obtain⟨r,hr⟩:∃r,zdv l=some r:=by
  cases hh:zdv l with
  |some r=>exact⟨r,rfl⟩
  |none=>
   obtain⟨j,u,S,h2,_⟩:=zi6 hh;have hj:j<l.length:=by
    rcases AG j l.length with h|h
    ·exact h
    ·rw[BI h] at S;cases S
   obtain⟨v,d,h3,h4⟩:=W j q_o;rw[S] at h3;cases h3;rw[h2] at h4;cases h4
 have H:=zrF hb hr;have Y:=ziv hr;rw[hr,CG];dsimp only;rw[<-hn] at H Y;by_cases hbig:i<=256
 ·rw[if_pos (H.1 hbig)];repeat' (first|refine s_t ?_|refine zf 4 ?_;refine zaf ?_|refine q_k 9 ?_;refine q_v zH ?_|refine zf 11 ?_;refine zk ?_;intro _|refine q_k 12 ?_)
  rename_i b5;refine zL (γ:=Nat) (λq=>[(0,.string (str l)),(2,.pointer (some ⟨I,0,none⟩)),(3,.int .i64 0),(5,.pointer (some ⟨b5,0,none⟩)),(38,.int .i64 i),(39,.int .i64 q)])
   (λq=>[.blk b5 133 (zg (bev 16 (r.take q)*16^(i-q))),.blk I 133 (List.replicate 16 (Value.int IntKind.u64 0))])
   (λq=>q<=i) (λq=>i-q) 0 (AA _) ?_ ?_ ?_
  ·rw[A];exact q_h
  ·show SubR [.blk b5 133 (zg (bev 16 (r.take 0)*16^(i-0))),.blk I 133 (List.replicate 16 (Value.int IntKind.u64 0))] _;rw[show bev 16 (r.take 0)=0 from rfl,BF,<-natC0];exact q_h
  intro q hq;by_cases hlt:q<i
  ·obtain⟨u,hu⟩:∃u,l[q]?=some u:=⟨l[q]'q_o,A2 _⟩;obtain⟨d,J,a9⟩:=zfN hr q u hu;have G:(str l).data[q]?=some u:=by
    show l.toArray[q]?=_;rw[BJ,hu]
   have hv:=λw=>zpd u w;simp only[J] at hv;obtain⟨p,hp⟩:∃p,p=i-1-q:=⟨_,rfl⟩;have a8:i-q=p+1:=q_o;have Z:IntKind.i64.wrap ((((str l).size:Nat):Int)-1-(q:Int))=((p:Nat):Int):=by rw[A,IntWalk.i64_in _ q_o];omega
   have T:=zh0 J;obtain⟨e1,e2,e3,e4,e5,e6⟩:=zkD 4 16 (bev 16 (r.take q)) p d rfl q_e T;rw[show(2:Nat)^4=16 from rfl] at e1 e4 e5 e6;have V:=zd (bev 16 (r.take q)*16^(i-q));have U:=zbO (bev 16 (r.take q)*16^(i-q)) (p/16) q_o;have m:=zeQ (bev 16 (r.take q)*16^(i-q)) (p/16) (d*2^(p%16*4));have b0:=ziS 16 r q d a9;rw[a8] at U m V ⊢;rw[e6,<-b0] at m;have m:=m e5;rw[<-e4,<-e2] at m;have a7:i-(q+1)=p:=q_o;generalize bev 16 (r.take q)*16^(p+1)=X at*;generalize X/18446744073709551616^(p/16)%18446744073709551616=y at*;have q1:IntKind.i64.wrap ((p:Int).tdiv 16)=((p/16:Nat):Int):=zdw (k:=16) q_o;have q2:(p:Int).tmod 16=((p%16:Nat):Int):=zex p 16;have q3:IntKind.i64.wrap (((p%16:Nat):Int)*4)=((p%16*4:Nat):Int):=q_w;have q4:IntKind.u64.wrap ((d:Nat):Int)=((d:Nat):Int):=IntWalk.u64_in _ q_o;have b3:p/16<16:=q_o;repeat' (first|refine s_t ?_|refine zf 13 ?_;refine zaf ?_|refine q_k 14 ?_|refine q_k 15 ?_;refine q_x zK ?_;refine q_x (zK (hr:=Z)) ?_|refine zai (id:=16) 16 [[],[0],[],[0,1,2],[0,1,2,3],[],[],[5,6],[5,6,7],[5,6,7,8],[],[10],[10,11],[5,6,7,8,9,10,11,12],[0,1,2,3,4,5,6,7,8,9,10,11,12,13],[],[0,1,2,3,4,5,6,7,8,9,10,11,12,13,14,15],[0,1,2,3,4,5,6,7,8,9,10,11,12,13,14,15,16]] mixed ?_ ?_;kernel_rfl;refine zB ?_;refine q_D (zbz (hr:=q1)) ?_;refine q_D zN ?_;refine zaB ?_;refine q_D (zM (hv:=U)) ?_;refine zB ?_;refine zB ?_;refine q_D (zR (s:=str l) (u:=u) (hv:=G)) ?_;refine q_D (za (hc:=q_c hv)) ?_;refine q_D (zam (hr:=q4)) ?_;refine zB ?_;refine q_D (zbI (hr:=q2)) ?_;refine q_D (zaM (hr:=q3)) ?_;refine q_D (zhs (a:=d) (n:=p%16*4)) ?_;refine q_D (zjk (a:=y) (b:=d*2^(p%16*4)%18446744073709551616) e1 (AC _ q_e)) ?_;refine q_D zN ?_;refine zaF ?_;refine zQ ?_;refine zP ?_|refine zf 17 ?_;refine zba ?_;refine zb ?_)
   refine zC (q+1) ?_ ?_ ?_ ?_
   ·show q+1<=i;omega
   ·show i-(q+1)<p+1;omega
   ·exact q_h
   ·show SubR [.blk b5 133 (zg (bev 16 (r.take (q+1))*16^(i-(q+1)))),.blk I 133 (List.replicate 16 (Value.int IntKind.u64 0))] _;rw[a7,<-m];exact q_h
  obtain rfl:q=i:=q_o;have R:r.take q=r:=by rw[<-Y];exact C3
  rw[R,C7,Ao,Al];have V:=zd (bev 16 r);have b4:=H.1 hbig;generalize bev 16 r=x at*;repeat' (first|refine s_0 ?_|refine zf 13 ?_;refine zaf ?_|refine zf 18 ?_;refine q_v (ze (B:=zg x)) ?_;refine q_y (zl (n:=x)) ?_)
  exact zU rfl (zE (B:=zg x) rfl (ty rfl) rfl Ey Ex (zd _).symm) (zh rfl) Ev ⟨rfl,rfl⟩
 ·rw[if_neg (λh=>hbig (H.2 h))];have a6:decide (256<(((str l).size:Nat):Int))=true:=decide_eq_true (by rw[A];omega);repeat' (first|refine s_0 ?_|refine zf 4 ?_;refine zaf ?_|refine q_k 9 ?_;refine q_v (zH (hr:=a6)) ?_|refine zf 10 ?_;refine zbt ?_;refine zP ?_;refine zb ?_)
  exact zU rfl (zE (B:=List.replicate 16 (Value.int IntKind.u64 0)) rfl (ty rfl) rfl Ey Ex rfl) (zh rfl) Ev ⟨by rw[<-zfw],rfl⟩
end Go.Proofs.YtdnlngbjpdbffaaGreatDoor
namespace Go
variable {F:Fence}{n:Nat}{P:Program}{Q:Exit->Act->World->Prop}{a:Act}{w:World}
theorem zbq{b:Frame}{k:List Item}{cs:List Frame}{c:Code} :step P (lone (b.atR a (.code (.scope c)::k)) cs w)= .next (lone (b.atR a (.code c:: .inScope c::k)) cs w):=
 step_lone_go (by simp[stepG,stepG.exec,Frame.atR])
theorem zfD{b:Frame}{k:List Item}{cs:List Frame}{c:Code} :step P (lone (b.atR a (.inScope c::k)) cs w)= .next (lone (b.atR a k) cs w):=
 step_lone_go (by simp[stepG,stepG.exec,Frame.atR])
theorem ziB{c:Code}(h:c.wpIn F n P (Exit.noGoto Q) a w):(Code.scope c).wpIn F n P Q a w:=by
 intro b k I H A E;have h0:(lone (b.atR a (.code (.scope c)::k)) I w).fenced P F:=fenced_calm A E rfl;obtain⟨e,q,r,m,j⟩:=h b (.inScope c::k) I H A E;cases e with
 |normal=>exact⟨.normal,q,r,m,.head h0 zbq (StepsIn.trans j (.one (fenced_calm A E rfl) zfD))⟩
 |exit id'=>
  have J:exitTo id' (.inScope c::k)=exitTo id' k:=by simp[exitTo]
  exact⟨.exit id',q,r,m,λR B=> .head h0 zbq (j.1 R (by rw[J];exact B)),
   λG B=>let ⟨S,K,O⟩:=j.2 G (by rw[J];exact B);⟨S,K,.head h0 zbq O⟩⟩
 |goto l=>exact m.elim
 |ret=>exact⟨_,q,r,m,.of_steps (.one h0 zbq) j⟩
 |panic ch=>exact⟨_,q,r,m,.of_steps (.one h0 zbq) j⟩
 |outgrown=>exact⟨_,q,r,m,.of_steps (.one h0 zbq) j⟩
end Go
namespace Go.Sy
open Go
variable {P:Program}{ro:Option Nat}{N:Nat}{w0:World}{M:Nat->Prop}{ds:List Deferred}{g:Nat->Option Value}{L:List Res}{o:Oper}{fr:Fr}{Q:Exit->Act->World->Prop}
theorem zdO{c:Code}(h:Sy P ro N w0 M ds c (Exit.noGoto Q) fr L):Sy P ro N w0 M ds (.scope c) Q fr L:=λa w j=>ziB (h a w j)
theorem zoj(h:SyX N w0 M ds (Q .normal) fr L):SyX N w0 M ds (Exit.noGoto Q .normal) fr L:=h
theorem zbY(h:SyX N w0 M ds (Q .ret) fr L):SyX N w0 M ds (Exit.noGoto Q .ret) fr L:=h
theorem zu4{V:Operand}{args:Array Operand}{U:Array TypeId}{f:Nat}{fst vs cap:List Value}{post:Value->List Res->Prop}
  (Y:o.op= .call { callee:=.value V,args:=args,argTypes:=U } :=by exact rfl)(hf:ev g V=some (.func (.func f) fst.toArray cap.toArray):=by exact rfl)(ha:evs g args.toList=some vs:=by exact rfl)
  (he:∀args w,(callFunc f args).run P w= .ok (.enter f args) w:=by exact en rfl)
  (hc:∀w X,Keep M w0 w->Holds w0.heap.size M (L++X) w->Fn P f (fst++vs++cap) w No post):OpT P ro N w0 M ds o g L (λv Z=>∃R,Z=R++L/\post v R):=by
 intro a w X next Q j hn
 refine⟨λ_ _=>trivial,?_⟩;rw[Oper.semAt_plain (FW ro) _ _ (λc hc=>by rw[Y] at hc;cases hc)];have m:args.map a.eval=vs.toArray:=B9.1 (by rw[Bj,j.agr.evals ha]);have E:(execOp a.eval o).run P w= .ok (.enter f (fst++vs++cap).toArray) w:=by
  simp only[execOp,Y,resolve,j.agr.eval hf,Deferred.ofValue,m,Sem.run_bind,Sem.run_pure,Result.andThen_ok,invoke];rw[show(fst.toArray++vs.toArray++cap.toArray:Array Value)=(fst++vs++cap).toArray by simp];exact he _ w
 rw[E];refine⟨λh=>(by cases h),?_⟩;have q:=hc w X j.keep j.hold;have O:CallsIn (FW ro) (0-1) P f (fst++vs++cap).toArray w (λe G=>∃v R,e= .returned v/\post v R/\Keep No w G/\Holds w.heap.size No R G):=(callsIn_wide (n:=0-1)).2 q;refine CallsIn.mono O ?_;rintro e G ⟨v,R,rfl,hp,W,H⟩;have S:Keep M w0 G:=j.keep.trans W (λb A=>A.elim);refine hn v G (R++L) ⟨R,rfl,hp⟩ S ?_;have J:=j.hold.keep W (λ_ _ _ _ h=>h);rw[AI];refine⟨λr B=>?_,?_,λr B b A=>?_⟩
 ·rcases Ap.1 B with h|h
  ·exact H.all r h
  ·exact J.all r h
 ·refine Bo.2 ⟨H.apart,J.apart,λr B r' T b A K=>?_⟩;rcases H.mine r B b A with h|h
  ·have:=FD (j.hold.all r' T) K;omega
  ·exact h.elim
 ·rcases Ap.1 B with h|h
  ·rcases H.mine r h b A with I|I
   ·exact .inl (BE j.keep.size I)
   ·exact I.elim
  ·exact J.mine r h b A
theorem zeZ{m:Operand}{args:Array Operand}{j:Array TypeId}{f:Nat}{fst vs cap:List Value}{v:Value}
  (hc:∀w X,Keep M w0 w->Holds w0.heap.size M (L++X) w->Fn P f (fst++vs++cap) w No (ziD v))(A:o.op= .call { callee:=.value m,args:=args,argTypes:=j } :=by exact rfl)(r:ev g m=some (.func (.func f) fst.toArray cap.toArray):=by exact rfl)(ha:evs g args.toList=some vs:=by exact rfl)
  (he:∀args w,(callFunc f args).run P w= .ok (.enter f args) w:=by exact en rfl):OpT P ro N w0 M ds o g L (Det v L):=
 (zu4 A r ha he hc).mono λG E ⟨R,e,B,q⟩=>by subst B;subst q;exact⟨rfl,e⟩
end Go.Sy
