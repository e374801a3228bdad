/- Lemmas of this proof. -/
import Derived.Test.YtdnlngbjpdbffaaGreatDoorKJ11
import Derived.Scope
set_option maxHeartbeats 1000000
set_option maxRecDepth 10000
set_option linter.all false
namespace Go.Nt
open Go Go.Sy
def byt(x:Nat):List UInt8:=(be 256 x).map UInt8.ofNat
theorem zf0(x:Nat):(byt x).length=nd 256 x:=by unfold byt;rw[A0,zvY]
theorem zv4(b x:Nat)(hb:0<b):∀d∈be b x,d<b:=by
 intro d j;unfold be cd at j;exact zgF b hb _ _ d (Dl.1 j)
theorem zvR(x:Nat):bn (byt x)=be 256 x:=by
 unfold bn byt;rw[Ch];refine(List.map_congr_left λd j=>?_).trans (List.map_id _);have:=zv4 256 x q_e d j;show(UInt8.ofNat d).toNat=d;rw[UInt8.toNat_ofNat'];omega
theorem zo6(x:Nat):bev 256 (bn (byt x))=x:=by rw[zvR,zwg 256 x q_e]
def hexT:List UInt8:=[48,49,50,51,52,53,54,55,56,57,97,98,99,100,101,102]
def zgW(d:Nat):UInt8:=(hexT[d]?).getD 0
theorem zsw(d:Nat)(h:d<16):hexT[d]?=some (zgW d):=by
 unfold zgW;rw[A1 (show d<hexT.length from h)];rfl
def zcx(u:UInt8):Option Nat:=if 48<=u.toNat/\u.toNat<=57 then some (u.toNat-48) else if 97<=u.toNat/\u.toNat<=102 then some (u.toNat-87) else none
theorem zhF{α:Type}(l:List α)(z u:α)(n i:Nat)(h:l[i]?=some u)(m:i<n)(q:l.length=n):
  (l.take i++List.replicate (n-i) z).set i u=l.take (i+1)++List.replicate (n-(i+1)) z:=by
 have j:(l.take i).length=i:=by rw[AU];omega
 rw[Ce _ _ q_o,j,C5,show n-i=(n-(i+1))+1 by omega,CT,DW,CB,h];simp
theorem zn5(t k x p:Nat)(j:t*k=64)(hk:0<k):x/18446744073709551616^(p/k)%18446744073709551616/2^(p%k*t)%2^t=x/(2^t)^p%2^t:=by
 have h:=zjN (2^t) k x (p/k) (p%k) (A7 _ hk);rw[AV,<-B8 2 t k,j,<-B8 2 t (p%k),A8 t (p%k)] at h;exact h
end Go.Nt
namespace Go.Proofs.YtdnlngbjpdbffaaGreatDoor
open Go Go.Sy Go.Nt Go.RowKit
attribute [local irreducible] Sy SyL SyX Sy.Fn callFunc zf
theorem zmK(x:Nat)(w:World)(hx:x<18446744073709551616^16):
  Sy.Fn Tryz.prog 294 [zm x] w No (λv R=>∃b,v= .slice (some ⟨b,0,none⟩) (nd 256 x) (nd 256 x)/\R= [.blk b 5 ((byt x).map v8)]):=by
 refine zo Tryz.func294 Tryz.ntmps294 ?_;have S:=zd x;have J:=zbz x;have A:=zm1 8 x q_e;rw[show(2:Nat)^8=256 from rfl] at A;have hm:nd 2 x<=1024:=zew hx;have t:=zf0 x;have H:=zqI 256 x;have K:IntKind.i64.wrap (((nd 2 x:Nat):Int)+7)=((nd 2 x+7:Nat):Int):=q_w;have W:IntKind.i64.wrap ((((nd 2 x+7:Nat):Int)).tdiv 8)=((nd 256 x:Nat):Int):=by rw[A];exact zcV (k:=8) q_o
 have hn:nd 256 x<=128:=q_o;have r:=λw=>zca x w hx;generalize nd 256 x=n,nd 2 x=m at*;repeat' (first|refine s_t ?_|refine zg 0 ?_;refine zV ?_;intro _|refine zg 1 ?_;refine zk ?_;refine q_v (za (hc:=q_c r)) ?_;refine q_v (zA (hr:=K)) ?_;refine q_v (zbb (hr:=W)) ?_|refine q_k 2 ?_|refine q_s zd1 ?_;rintro _ _ ⟨j,rfl,rfl⟩|(refine zW ?_;first|refine zB ?_|fail)|fail)
 rename_i G;refine zE (γ:=Nat) (λi=>[(1,.pointer (some ⟨G,0,none⟩)),(3,.slice (some ⟨j,0,none⟩) n n),(11,.slice (some ⟨j,0,none⟩) n n),(12,.int .i64 n),(13,.int .i64 i)])
  (λi=>[.blk j 5 (((byt x).take i++List.replicate (n-i) 0).map v8),.blk G 133 (zf x)])
  (λi=>i<=n) (λi=>n-i) 0 (AE _) ?_ ?_ ?_
 ·exact q_h
 ·show SubR [.blk j 5 (((byt x).take 0++List.replicate (n-0) 0).map v8),.blk G 133 (zf x)] _;rw[CO,B3,Ba,CM,<-zpm];exact q_h
 intro i hi;by_cases hlt:i<n
 ·obtain⟨p,U⟩:∃p,p=n-1-i:=⟨_,rfl⟩;have O:=J (p/8) q_o;have B:=zn5 8 8 x p rfl q_e;have q:=H i hlt;rw[<-U] at q;have hu:(byt x)[i]?=some (UInt8.ofNat (x/256^p%256)):=by
   unfold byt;rw[AY,q];rfl
  have C:=zhF (byt x) 0 _ n i hu hlt t;have I:x/18446744073709551616^(p/8)%18446744073709551616<18446744073709551616:=A7 _ q_e;generalize x/18446744073709551616^(p/8)%18446744073709551616=d at*;have T:(((byt x).take i++List.replicate (n-i) 0).map v8).length=n:=by rw[A0,A2,AU,AK];omega
  have E:IntKind.i64.wrap ((n:Int)-1-(i:Int))=((p:Nat):Int):=q_w;have X:IntKind.i64.wrap ((p:Int).tdiv 8)=((p/8:Nat):Int):=zcV (k:=8) q_o;have Y:(p:Int).tmod 8=((p%8:Nat):Int):=zdL p 8;have Z:IntKind.i64.wrap (((p%8:Nat):Int)*8)=((p%8*8:Nat):Int):=q_w;have q4:IntKind.u8.wrap ((d/2^(p%8*8):Nat):Int)=Wd.n8 (UInt8.ofNat (x/256^p%256)):=by
   rw[Wd.wrap_u8_nat,Wd.n8_of_nat];rw[show(2:Nat)^8=256 from rfl] at B;rw[B,EM]
  have V:p/8<16:=q_o;generalize UInt8.ofNat (x/256^p%256)=u at*;repeat' (first|refine s_t ?_|refine zg 3 ?_;refine zR ?_|refine q_k 4 ?_|refine q_k 5 ?_;refine q_x zH ?_;refine q_x (zH (hr:=E)) ?_|refine q_k 6 ?_;refine q_x (zbb (hr:=X)) ?_;refine zD ?_;refine q_x (zM (hv:=O)) ?_;refine q_v (zaN (hr:=Y)) ?_;refine q_v (zas (hr:=Z)) ?_;refine q_v (zgG (a:=d) (n:=p%8*8) I) ?_;refine q_v (zal (hr:=q4)) ?_;refine zD ?_;refine zS ?_|refine zg 7 ?_;refine zaI ?_;refine zb ?_)
  refine zy (i+1) ?_ ?_ ?_ ?_
  ·show i+1<=n;omega
  ·show n-(i+1)<n-i;omega
  ·exact q_h
  ·show SubR [.blk j 5 (((byt x).take (i+1)++List.replicate (n-(i+1)) 0).map v8),.blk G 133 (zf x)] _;rw[<-C,BS];exact q_h
 obtain rfl:i=n:=q_o;rw[C5,Cp,AZ,<-t,CZ];repeat' (first|refine s_0 ?_|refine zg 3 ?_;refine zR ?_|refine q_k 8 ?_)
 exact zaw rfl (zr rfl) q_h ⟨j,rfl,rfl⟩
theorem zmT(u:UInt8)(w:World):
  q_G 282 [v8 u] w (.int .i64 (match zcx u with|some d=>((d:Nat):Int)|none=> -1)):=by
 refine zo Tryz.func282 Tryz.ntmps282 ?_;have hu:(Wd.n8 u)=((u.toNat:Nat):Int):=rfl;have q:=u.toNat_lt;unfold zcx;unfold v8;rw[hu];generalize u.toNat=d at*;by_cases h1:48<=d/\d<=57
 ·rw[if_pos h1];repeat' (first|refine s_t ?_|refine q_k 0 ?_|refine q_k 1 ?_;refine q_x zP ?_;refine q_x zax ?_|refine q_k 2 ?_;refine q_v zH ?_;refine q_x (by first|exact op_convSame|exact op_toStrD|exact zal) ?_)
  exact zaw rfl (zr rfl) F2 ⟨congrArg (Value.int .i64) (show(d:Int)-48=((d-48:Nat):Int) by omega),rfl⟩
 ·rw[if_neg h1];by_cases h2:97<=d/\d<=102
  ·rw[if_pos h2];repeat' (first|refine s_t ?_|refine q_k 0 ?_|refine q_k 1 ?_;refine q_x zP ?_;refine q_x zax ?_|refine q_k 3 ?_;refine q_x zP ?_;refine q_x zax ?_|refine q_k 4 ?_;refine q_v zH ?_;refine q_v (by first|exact op_convSame|exact op_toStrD|exact zal) ?_;refine zaI ?_;refine zb ?_)
   exact zaw rfl (zr rfl) F2 ⟨congrArg (Value.int .i64) (show(d:Int)-97+10=((d-87:Nat):Int) by omega),rfl⟩
  ·rw[if_neg h2];rcases AH d 48 with j|j
   ·repeat' (first|refine s_t ?_|refine zK [0,5] ?_;refine zb ?_|refine q_k 1 ?_;refine q_x zP ?_|refine q_k 3 ?_;refine q_x zP ?_)
    exact q_r
   ·rcases AH d 97 with m|m
    ·repeat' (first|refine s_t ?_|refine zK [0,5] ?_;refine zb ?_|refine q_k 1 ?_;refine q_x zP ?_;refine q_x zax ?_|refine q_k 3 ?_;refine q_x zP ?_)
     exact q_r
    ·repeat' (first|refine s_t ?_|refine zK [0,5] ?_;refine zb ?_|refine q_k 1 ?_;refine q_x zP ?_;refine q_x zax ?_|refine q_k 3 ?_;refine q_x zP ?_;refine q_x zax ?_)
     exact q_r
end Go.Proofs.YtdnlngbjpdbffaaGreatDoor
namespace Go.Nt
open Go Go.Sy
def zcS:List UInt8->Option (List Nat)
 | []=>some []
 |u::l=>match zcx u,zcS l with
  |some d,some r=>some (d::r)
  |_,_=>none
theorem zhf{u:UInt8}{d:Nat}(h:zcx u=some d):d<16:=by
 unfold zcx at h;split at h
 ·cases h;omega
 ·split at h
  ·cases h;omega
  ·cases h
theorem zhE:∀ {l:List UInt8}{r:List Nat},zcS l=some r->r.length=l.length
 | [],_,h=>by cases h;rfl
 |u::l,r,h=>by
  unfold zcS at h;split at h
  ·rename_i d q m j;cases h;rw[Ac,Ac,zhE j]
  ·cases h
theorem zeV:∀ {l:List UInt8}{r:List Nat},zcS l=some r->∀(i:Nat) (u:UInt8),l[i]?=some u->∃d,zcx u=some d/\r[i]?=some d
 | [],_,_,i,u,hu=>by simp at hu
 |a::l,r,h,i,u,hu=>by
  unfold zcS at h;split at h
  ·rename_i d q j m;cases h;cases i with
   |zero=>
    simp only[C8,Bo] at hu;subst hu;exact⟨d,j,rfl⟩
   |succ i=>
    rw[Bq] at hu ⊢;exact zeV m i u hu
  ·cases h
theorem zin:∀ {l:List UInt8},zcS l=none->∃(i:Nat) (u:UInt8),l[i]?=some u/\zcx u=none/\∀j<i,∃v d,l[j]?=some v/\zcx v=some d
 | [],h=>by cases h
 |a::l,h=>by
  unfold zcS at h;cases ha:zcx a with
  |none=>exact⟨0,a,rfl,ha,λj m=>absurd m q_o⟩
  |some d=>
   cases hl:zcS l with
   |some r=>rw[ha,hl] at h;cases h
   |none=>
    obtain⟨i,u,q,t,A⟩:=zin hl;refine⟨i+1,u,q,t,λj m=>?_⟩;cases j with
    |zero=>exact⟨a,d,rfl,ha⟩
    |succ j=>exact A j q_o
theorem zuJ{l:List UInt8}{r:List Nat}(h:zcS l=some r):∀d∈r,d<16:=by
 intro d t;obtain⟨i,m⟩:=List.getElem?_of_mem t;have C:=zhE h;have A:i<r.length:=by
  rcases AH i r.length with j|j
  ·exact j
  ·rw[BL j] at m;cases m
 obtain⟨B,j,q⟩:=zeV h i (l[i]'q_o) (A1 _);rw[m] at q;cases q;exact zhf j
def zcU(l:List UInt8):Bool:=match l with
 | []=>true
 |u::r=>decide (u=48)&&decide (0<r.length)
def zi7(l:List UInt8):Option Nat:=if zcU l=true then none else (zcS l).map (bev 16)
theorem w16:18446744073709551616^16=16^256:=zgU 16 4 256 rfl rfl
theorem zrm{u:UInt8}(h:zcx u=some 0):u=48:=by
 unfold zcx at h;split at h
 ·have:=Ap h;exact C4.1 (show u.toNat=48 by omega)
 ·split at h
  ·have:=Ap h;omega
  ·cases h
theorem zpv{l:List UInt8}{r:List Nat}(hb:zcU l=false)(h:zcS l=some r):l.length<=256↔bev 16 r<18446744073709551616^16:=by
 rw[w16];have t:=zhE h;have j:=zuJ h;have q:=zdR 16 r j;rw[<-t];cases l with
 |nil=>cases hb
 |cons u l=>
  obtain⟨d,C,B⟩:=zeV h 0 u rfl;cases r with
  |nil=>simp at t
  |cons e r=>
   simp only[C8,Bo] at B;subst B;constructor
   ·intro A;exact AG q (AA q_e A)
   ·intro m;rcases AD e with h0|h0
    ·subst h0;have hu:=zrm C;simp only[zcU,hu,decide_true,Ax,decide_eq_false_iff_not] at hb;simp only[Ac] at t ⊢;omega
    ·have E:=zqD 16 q_e e r h0 j;have:=zaQ 16 _ 256 q_e m;rw[E] at this;exact this
theorem zhP(b:Nat)(l:List Nat)(i d:Nat)(h:l[i]?=some d):bev b (l.take (i+1))=bev b (l.take i)*b+d:=by
 rw[CB,h];exact zmV b _ _
end Go.Nt
namespace Go.Proofs.YtdnlngbjpdbffaaGreatDoor
open Go Go.Sy Go.Nt Go.RowKit
attribute [local irreducible] Sy SyL SyX Sy.Fn callFunc zf
theorem zto(l:List UInt8)(w:World)(hx:l.length<4611686018427387904):
  q_G 239 [.string (str l)] w (match zi7 l with
   |none=> .tuple #[zm 0,.int .i64 6]
   |some v=>if v<18446744073709551616^16 then .tuple #[zm v,.int .i64 0] else .tuple #[zm 0,.int .i64 7]):=by
 refine zo Tryz.func239 Tryz.ntmps239 ?_;repeat' (first|refine s_0 ?_|refine zg 0 ?_;refine zV ?_;intro _)
 rename_i G;refine zb9 (γ:=Unit) (λ_=>[(0,.string (str l)),(2,.pointer (some ⟨G,0,none⟩)),(3,.int .i64 0),(19,.bool (zcU l))]) (λ_=>[.blk G 133 (List.replicate 16 (Value.int IntKind.u64 0))]) (λ_=>True) ?_ ?_
 ·cases l with
  |nil=>
   rw[show zcU []=true from rfl];repeat' (first|refine zav ?_|refine zai ?_|refine q_k 1 ?_;refine q_x (zbf (a:=[]) (b:=[]) (r:=true) (hr:=rfl)) ?_)
   exact zZ () trivial q_h q_h
  |cons u r=>
   have t:(str (u::r)).size=r.length+1:=rfl;have I:decide (u::r= [])=false:=decide_eq_false q_p;by_cases hu:u=48
   ·have A:decide (((u.toNat:Nat):Int)=48)=true:=decide_eq_true (by rw[hu];rfl);by_cases hr:0<r.length
    ·rw[show zcU (u::r)=true by simp only[zcU,hu,decide_true,hr,Ev]];have Z:decide (1<(((str (u::r)).size:Nat):Int))=true:=decide_eq_true (by rw[t];omega);repeat' (first|refine zav ?_|refine zai ?_|refine q_k 1 ?_;refine q_x (zbf (a:=u::r) (b:=[]) (r:=false) (hr:=I)) ?_;refine q_v (zN (s:=str (u::r)) (u:=u) (hv:=rfl)) ?_;refine q_x (zaa (hr:=A)) ?_;refine q_x (zF (hr:=Z)) ?_)
     exact zZ () trivial q_h q_h
    ·rw[show zcU (u::r)=false by simp only[zcU,hr,decide_false,De]];have Z:decide (1<(((str (u::r)).size:Nat):Int))=false:=decide_eq_false (by rw[t];omega);repeat' (first|refine zav ?_|refine zai ?_|refine q_k 1 ?_;refine q_x (zbf (a:=u::r) (b:=[]) (r:=false) (hr:=I)) ?_;refine q_v (zN (s:=str (u::r)) (u:=u) (hv:=rfl)) ?_;refine q_x (zaa (hr:=A)) ?_;refine q_x (zF (hr:=Z)) ?_)
     exact zZ () trivial q_h q_h
   ·rw[show zcU (u::r)=false by simp only[zcU,hu,decide_false,BX]];have A:decide (((u.toNat:Nat):Int)=48)=false:=decide_eq_false (λh=>hu (C4.1 (show u.toNat=48 by omega)));repeat' (first|refine zav ?_|refine zai ?_|refine q_k 1 ?_;refine q_x (zbf (a:=u::r) (b:=[]) (r:=false) (hr:=I)) ?_;refine q_v (zN (s:=str (u::r)) (u:=u) (hv:=rfl)) ?_;refine q_x (zaa (hr:=A)) ?_)
    exact zZ () trivial q_h q_h
 rintro - -;unfold zi7;cases hb:zcU l with
 |true=>
  rw[if_pos rfl];repeat' (first|refine s_0 ?_|refine zg 2 ?_;refine zbj ?_;refine zS ?_;refine zb ?_)
  exact zad rfl (zz (B:=List.replicate 16 (Value.int IntKind.u64 0)) rfl (ty rfl) rfl F4 F0 rfl) (zr rfl) F2 ⟨by rw[<-zeF],rfl⟩
 |false=>
 rw[if_neg q_e];repeat' (first|refine s_t ?_|refine q_k 3 ?_)
 obtain⟨n,hn⟩:∃n,n=l.length:=⟨_,rfl⟩;have t:(str l).size=n:=by rw[hn];rfl
 rw[<-hn] at hx;refine zE (γ:=Nat) (λi=>[(0,.string (str l)),(2,.pointer (some ⟨G,0,none⟩)),(3,.int .i64 0),(22,.int .i64 n),(23,.int .i64 i)])
  (λ_=>[.blk G 133 (List.replicate 16 (Value.int IntKind.u64 0))])
  (λi=>i<=n/\∀j<i,∃v d,l[j]?=some v/\zcx v=some d) (λi=>n-i) 0 ⟨AE _,λj hj=>absurd hj q_o⟩ ?_ ?_ ?_
 ·rw[t];exact q_h
 ·exact q_h
 rintro i ⟨hi,U⟩;by_cases hlt:i<n
 ·obtain⟨u,hu⟩:∃u,l[i]?=some u:=⟨l[i]'q_o,A1 _⟩;have C:(str l).data[i]?=some u:=by
   show l.toArray[i]?=_;rw[BM,hu]
  have hv:=λw=>zmT u w;cases H:zcx u with
  |none=>
   simp only[H] at hv;have J:zcS l=none:=by
    cases hh:zcS l with
    |none=>rfl
    |some r=>
     obtain⟨d,O,_⟩:=zeV hh i u hu;rw[H] at O;cases O
   rw[J];repeat' (first|refine s_t ?_|refine zg 4 ?_;refine zR ?_|refine q_k 5 ?_|refine q_k 6 ?_;refine q_v (zN (s:=str l) (u:=u) (hv:=C)) ?_;refine q_v (za (hc:=q_c hv)) ?_;refine zR ?_|refine zg 7 ?_;refine zbj ?_;refine zS ?_;refine zb ?_)
   exact zad rfl (zz (B:=List.replicate 16 (Value.int IntKind.u64 0)) rfl (ty rfl) rfl F4 F0 rfl) (zr rfl) F2 ⟨by rw[<-zeF];rfl,rfl⟩
  |some d=>
   simp only[H] at hv;have b1:decide (((d:Nat):Int)<0)=false:=q_f;repeat' (first|refine s_t ?_|refine zg 4 ?_;refine zR ?_|refine q_k 5 ?_|refine q_k 6 ?_;refine q_v (zN (s:=str l) (u:=u) (hv:=C)) ?_;refine q_v (za (hc:=q_c hv)) ?_;refine zR ?_|refine zg 8 ?_;refine zaI ?_;refine zb ?_)
   refine zy (i+1) ⟨by show i+1<=n;omega,λj hj=>?_⟩ ?_ ?_ ?_
   ·rcases AH j i with h|h
    ·exact U j h
    ·obtain rfl:j=i:=q_o;exact⟨u,d,hu,H⟩
   ·show n-(i+1)<n-i;omega
   ·exact q_h
   ·exact q_h
 obtain rfl:i=n:=q_o;obtain⟨r,hr⟩:∃r,zcS l=some r:=by
  cases hh:zcS l with
  |some r=>exact⟨r,rfl⟩
  |none=>
   obtain⟨j,u,O,h2,_⟩:=zin hh;have hj:j<l.length:=by
    rcases AH j l.length with h|h
    ·exact h
    ·rw[BL h] at O;cases O
   obtain⟨v,d,h3,h4⟩:=U j q_o;rw[O] at h3;cases h3;rw[h2] at h4;cases h4
 have E:=zpv hb hr;have V:=zhE hr;rw[hr,C3];dsimp only;rw[<-hn] at E V;by_cases hbig:i<=256
 ·rw[if_pos (E.1 hbig)];repeat' (first|refine s_t ?_|refine zg 4 ?_;refine zR ?_|refine q_k 9 ?_;refine q_v zF ?_|refine zg 11 ?_;refine zi ?_;intro _|refine q_k 12 ?_)
  rename_i Y;refine zE (γ:=Nat) (λq=>[(0,.string (str l)),(2,.pointer (some ⟨G,0,none⟩)),(3,.int .i64 0),(5,.pointer (some ⟨Y,0,none⟩)),(38,.int .i64 i),(39,.int .i64 q)])
   (λq=>[.blk Y 133 (zf (bev 16 (r.take q)*16^(i-q))),.blk G 133 (List.replicate 16 (Value.int IntKind.u64 0))])
   (λq=>q<=i) (λq=>i-q) 0 (AE _) ?_ ?_ ?_
  ·rw[t];exact q_h
  ·show SubR [.blk Y 133 (zf (bev 16 (r.take 0)*16^(i-0))),.blk G 133 (List.replicate 16 (Value.int IntKind.u64 0))] _;rw[show bev 16 (r.take 0)=0 from rfl,BJ,<-natC0];exact q_h
  intro q hq;by_cases hlt:q<i
  ·obtain⟨u,hu⟩:∃u,l[q]?=some u:=⟨l[q]'q_o,A1 _⟩;obtain⟨d,H,a9⟩:=zeV hr q u hu;have C:(str l).data[q]?=some u:=by
    show l.toArray[q]?=_;rw[BM,hu]
   have hv:=λw=>zmT u w;simp only[H] at hv;obtain⟨p,hp⟩:∃p,p=i-1-q:=⟨_,rfl⟩;have a8:i-q=p+1:=q_o;have W:IntKind.i64.wrap ((((str l).size:Nat):Int)-1-(q:Int))=((p:Nat):Int):=by rw[t,IntWalk.i64_in _ q_o];omega
   have R:=zhf H;obtain⟨e1,e2,e3,e4,e5,e6⟩:=zjI 4 16 (bev 16 (r.take q)) p d rfl q_e R;rw[show(2:Nat)^4=16 from rfl] at e1 e4 e5 e6;have T:=zd (bev 16 (r.take q)*16^(i-q));have S:=zbz (bev 16 (r.take q)*16^(i-q)) (p/16) q_o;have m:=zd5 (bev 16 (r.take q)*16^(i-q)) (p/16) (d*2^(p%16*4));have b0:=zhP 16 r q d a9;rw[a8] at S m T ⊢;rw[e6,<-b0] at m;have m:=m e5;rw[<-e4,<-e2] at m;have a7:i-(q+1)=p:=q_o;generalize bev 16 (r.take q)*16^(p+1)=X at*;generalize X/18446744073709551616^(p/16)%18446744073709551616=y at*;have q1:IntKind.i64.wrap ((p:Int).tdiv 16)=((p/16:Nat):Int):=zcV (k:=16) q_o;have q2:(p:Int).tmod 16=((p%16:Nat):Int):=zdL p 16;have q3:IntKind.i64.wrap (((p%16:Nat):Int)*4)=((p%16*4:Nat):Int):=q_w;have q4:IntKind.u64.wrap ((d:Nat):Int)=((d:Nat):Int):=IntWalk.u64_in _ q_o;have b3:p/16<16:=q_o;repeat' (first|refine s_t ?_|refine zg 13 ?_;refine zR ?_|refine q_k 14 ?_|refine q_k 15 ?_;refine q_x zH ?_;refine q_x (zH (hr:=W)) ?_|refine z5 (id:=16) 16 [[],[0],[],[0,1,2],[0,1,2,3],[],[],[5,6],[5,6,7],[5,6,7,8],[],[10],[10,11],[5,6,7,8,9,10,11,12],[0,1,2,3,4,5,6,7,8,9,10,11,12,13],[],[0,1,2,3,4,5,6,7,8,9,10,11,12,13,14,15],[0,1,2,3,4,5,6,7,8,9,10,11,12,13,14,15,16]] mixed ?_ ?_;kernel_rfl;refine zt ?_;refine q_D (zbb (hr:=q1)) ?_;refine q_D zO ?_;refine zT ?_;refine q_D (zM (hv:=S)) ?_;refine zt ?_;refine zt ?_;refine q_D (zN (s:=str l) (u:=u) (hv:=C)) ?_;refine q_D (za (hc:=q_c hv)) ?_;refine q_D (zal (hr:=q4)) ?_;refine zt ?_;refine q_D (zaN (hr:=q2)) ?_;refine q_D (zas (hr:=q3)) ?_;refine q_D (zgu (a:=d) (n:=p%16*4)) ?_;refine q_D (zil (a:=y) (b:=d*2^(p%16*4)%18446744073709551616) e1 (A7 _ q_e)) ?_;refine q_D zO ?_;refine zam ?_;refine zD ?_;refine zS ?_|refine zg 17 ?_;refine zaI ?_;refine zb ?_)
   refine zy (q+1) ?_ ?_ ?_ ?_
   ·show q+1<=i;omega
   ·show i-(q+1)<p+1;omega
   ·exact q_h
   ·show SubR [.blk Y 133 (zf (bev 16 (r.take (q+1))*16^(i-(q+1)))),.blk G 133 (List.replicate 16 (Value.int IntKind.u64 0))] _;rw[a7,<-m];exact q_h
  obtain rfl:q=i:=q_o;have K:r.take q=r:=by rw[<-V];exact CZ
  rw[K,C5,Ad,Af];have T:=zd (bev 16 r);have b4:=E.1 hbig;generalize bev 16 r=x at*;repeat' (first|refine s_0 ?_|refine zg 13 ?_;refine zR ?_|refine zg 18 ?_;refine q_v (ze (B:=zf x)) ?_;refine q_y (zj (n:=x)) ?_)
  exact zad rfl (zz (B:=zf x) rfl (ty rfl) rfl F4 F0 (zd _).symm) (zr rfl) F2 ⟨rfl,rfl⟩
 ·rw[if_neg (λh=>hbig (E.2 h))];have a6:decide (256<(((str l).size:Nat):Int))=true:=decide_eq_true (by rw[t];omega);repeat' (first|refine s_0 ?_|refine zg 4 ?_;refine zR ?_|refine q_k 9 ?_;refine q_v (zF (hr:=a6)) ?_|refine zg 10 ?_;refine zbj ?_;refine zS ?_;refine zb ?_)
  exact zad rfl (zz (B:=List.replicate 16 (Value.int IntKind.u64 0)) rfl (ty rfl) rfl F4 F0 rfl) (zr rfl) F2 ⟨by rw[<-zeF],rfl⟩
end Go.Proofs.YtdnlngbjpdbffaaGreatDoor
namespace Go
variable {F:Fence}{n:Nat}{P:Program}{Q:Exit->Act->World->Prop}{a:Act}{w:World}
theorem za9{b:Frame}{k:List Item}{cs:List Frame}{c:Code} :step P (lone (b.atR a (.code (.scope c)::k)) cs w)= .next (lone (b.atR a (.code c:: .inScope c::k)) cs w):=
 step_lone_go (by simp[stepG,stepG.exec,Frame.atR])
theorem zeO{b:Frame}{k:List Item}{cs:List Frame}{c:Code} :step P (lone (b.atR a (.inScope c::k)) cs w)= .next (lone (b.atR a k) cs w):=
 step_lone_go (by simp[stepG,stepG.exec,Frame.atR])
theorem zhA{c:Code}(h:c.wpIn F n P (Exit.noGoto Q) a w):(Code.scope c).wpIn F n P Q a w:=by
 intro b k G E t B;have h0:(lone (b.atR a (.code (.scope c)::k)) G w).fenced P F:=fenced_calm t B rfl;obtain⟨e,q,r,m,j⟩:=h b (.inScope c::k) G E t B;cases e with
 |normal=>exact⟨.normal,q,r,m,.head h0 za9 (StepsIn.trans j (.one (fenced_calm t B rfl) zeO))⟩
 |exit id'=>
  have H:exitTo id' (.inScope c::k)=exitTo id' k:=by simp[exitTo]
  exact⟨.exit id',q,r,m,λK A=> .head h0 za9 (j.1 K (by rw[H];exact A)),
   λC A=>let ⟨O,I,J⟩:=j.2 C (by rw[H];exact A);⟨O,I,.head h0 za9 J⟩⟩
 |goto l=>exact m.elim
 |ret=>exact⟨_,q,r,m,.of_steps (.one h0 za9) j⟩
 |panic ch=>exact⟨_,q,r,m,.of_steps (.one h0 za9) j⟩
 |outgrown=>exact⟨_,q,r,m,.of_steps (.one h0 za9) j⟩
end Go
namespace Go.Sy
open Go
variable {P:Program}{ro:Option Nat}{N:Nat}{w0:World}{M:Nat->Prop}{ds:List Deferred}{g:Nat->Option Value}{L:List Res}{o:Oper}{fr:Fr}{Q:Exit->Act->World->Prop}
theorem zdd{c:Code}(h:Sy P ro N w0 M ds c (Exit.noGoto Q) fr L):Sy P ro N w0 M ds (.scope c) Q fr L:=λa w j=>zhA (h a w j)
theorem zml(h:SyX N w0 M ds (Q .normal) fr L):SyX N w0 M ds (Exit.noGoto Q .normal) fr L:=h
theorem zbL(h:SyX N w0 M ds (Q .ret) fr L):SyX N w0 M ds (Exit.noGoto Q .ret) fr L:=h
theorem zs0{T:Operand}{args:Array Operand}{S:Array TypeId}{f:Nat}{fst vs cap:List Value}{post:Value->List Res->Prop}
  (V:o.op= .call { callee:=.value T,args:=args,argTypes:=S } :=by exact rfl)(Y:ev g T=some (.func (.func f) fst.toArray cap.toArray):=by exact rfl)(ha:evs g args.toList=some vs:=by exact rfl)
  (he:∀args w,(callFunc f args).run P w= .ok (.enter f args) w:=by exact en rfl)
  (hc:∀w X,Keep M w0 w->Holds w0.heap.size M (L++X) w->Fn P f (fst++vs++cap) w No post):OpT P ro N w0 M ds o g L (λv W=>∃R,W=R++L/\post v R):=by
 intro a w X next Q j Z
 refine⟨λ_ _=>trivial,?_⟩;rw[Oper.semAt_plain (FW ro) _ _ (λc hc=>by rw[V] at hc;cases hc)];have m:args.map a.eval=vs.toArray:=BC.1 (by rw[Bn,j.agr.evals ha]);have B:(execOp a.eval o).run P w= .ok (.enter f (fst++vs++cap).toArray) w:=by
  simp only[execOp,V,resolve,j.agr.eval Y,Deferred.ofValue,m,Sem.run_bind,Sem.run_pure,Result.andThen_ok,invoke];rw[show(fst.toArray++vs.toArray++cap.toArray:Array Value)=(fst++vs++cap).toArray by simp];exact he _ w
 rw[B];refine⟨λh=>(by cases h),?_⟩;have q:=hc w X j.keep j.hold;have J:CallsIn (FW ro) (0-1) P f (fst++vs++cap).toArray w (λe C=>∃v R,e= .returned v/\post v R/\Keep No w C/\Holds w.heap.size No R C):=(callsIn_wide (n:=0-1)).2 q;refine CallsIn.mono J ?_;rintro e C ⟨v,R,rfl,hp,U,E⟩;have K:Keep M w0 C:=j.keep.trans U (λb t=>t.elim);refine Z v C (R++L) ⟨R,rfl,hp⟩ K ?_;have H:=j.hold.keep U (λ_ _ _ _ h=>h);rw[AL];refine⟨λr A=>?_,?_,λr A b t=>?_⟩
 ·rcases BE.1 A with h|h
  ·exact E.all r h
  ·exact H.all r h
 ·refine Cf.2 ⟨E.apart,H.apart,λr A r' O b t I=>?_⟩;rcases E.mine r A b t with h|h
  ·have:=FN (j.hold.all r' O) I;omega
  ·exact h.elim
 ·rcases BE.1 A with h|h
  ·rcases E.mine r h b t with G|G
   ·exact .inl (BG j.keep.size G)
   ·exact G.elim
  ·exact H.mine r h b t
theorem zem{m:Operand}{args:Array Operand}{j:Array TypeId}{f:Nat}{fst vs cap:List Value}{v:Value}
  (hc:∀w X,Keep M w0 w->Holds w0.heap.size M (L++X) w->Fn P f (fst++vs++cap) w No (zmb v))(t:o.op= .call { callee:=.value m,args:=args,argTypes:=j } :=by exact rfl)(r:ev g m=some (.func (.func f) fst.toArray cap.toArray):=by exact rfl)(ha:evs g args.toList=some vs:=by exact rfl)
  (he:∀args w,(callFunc f args).run P w= .ok (.enter f args) w:=by exact en rfl):OpT P ro N w0 M ds o g L (Det v L):=
 (zs0 t r ha he hc).mono λC B ⟨R,e,A,q⟩=>by subst A;subst q;exact⟨rfl,e⟩
end Go.Sy
