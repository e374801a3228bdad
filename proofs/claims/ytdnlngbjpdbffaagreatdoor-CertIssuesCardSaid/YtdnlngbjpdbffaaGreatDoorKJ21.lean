/- Lemmas of this proof. -/
import Derived.Test.YtdnlngbjpdbffaaGreatDoorKJ20
set_option maxHeartbeats 1000000
set_option maxRecDepth 10000
set_option linter.all false
namespace Go.Nt
open Go Go.Sy
theorem zfN{i x:Nat}(h0:1<=i)(j:i<=4)(h:x<gP i):nd 256 x<=gL i:=by
 rw[<-zkr i h0 j];exact zaQ 256 x _ q_e (AS h (zaE 256 (gP i) q_e))
theorem zbE{p q x:Nat}(h:zap p q x=true):x<p:=by
 unfold zap at h;exact(of_decide_eq_true h).2.1
theorem zv1(i:Nat):gQ i<=gP i:=Bv _ _
theorem zrb(q X R d:Nat):(X%q*R%q+d)%q=(X*R+d)%q:=by
 rw[Dz,Nat.mod_add_mod]
end Go.Nt
namespace Go.Proofs.YtdnlngbjpdbffaaGreatDoor
section
open Go Go.Sy Go.Nt Go.RowKit
attribute [local irreducible] Sy SyL SyX Sy.Fn callFunc zf z8 zab gP gQ gL gS zdD zap
def ziG(i x:Nat)(v:Value)(R:List Res):Prop:=∃a c,v= .tuple #[.slice a (gL i) c,.int .i64 0]/\R= [.row (.slice a (gL i) c) 5 1 (gL i) ((zaF (gL i) x).map v8)]
theorem zlh(i x f:Nat)(cond:Nat->Bool)(w:World)(h0:1<=i)(m:i<=4)(L:GT w)(hx:x<18446744073709551616^16)(A:∀args w,(callFunc f args).run Tryz.prog w= .ok (.enter f args) w)(N:∀j,q_G f [zcu (gP i) (gQ i) (gL i),zm x] j (.bool (cond x)))(hc:cond x=true)(G:x<gP i):Sy.Fn Tryz.prog 187 [.int .i64 (i:Int),zm x,.func (.func f) #[] #[]] w No (ziG i x):=by
 refine zo Tryz.func187 Tryz.ntmps187 ?_;have lx:=zd x;have H:=zfN h0 m G;have K:=(zdp i h0 m).2;unfold ziG;have Y:=zbw i h0 m;have M:=zba i h0 m;have O:=zbh i h0 m;have P:=za3 i h0 m;have C:=λj (E:Keep No w j)=>zcD i j h0 m (L.to E);generalize gL i=l,gQ i=q,gP i=p at*;have Z:=zY p q l;have lp:=zd p;have lq:=zd q;have lz:=zd 0;have S:=zb8 p q l;have T:=zb6 p q l;have Q:=zcG p q l;have r:=λj I (h:j.rangeAt I 0 (z8 [x]))=>zi5 p q l f x I cond j A N h;simp only[hc,if_true] at r;have t:=λj=>ztl p q l x j hx H q_o;unfold zcK at t;generalize zaF l x=F at*;repeat' (first|refine s_0 ?_|refine zg 0 ?_;refine zV ?_;intro _|refine q_k 1 ?_;refine q_v (za (hc:=zq C)) ?_;refine zb ?_;refine zi ?_;intro _;refine q_y (zC (B:=zab p q l) (hv:=zaU p q l) (h1:=(zY p q l).symm)) ?_|refine q_k 2 ?_;refine zat ?_|refine zg 4 ?_;refine q_x (ze (B:=zab p q l)) ?_;refine q_v (ze (B:=zf x)) ?_|refine q_k 5 ?_;refine zat ?_|refine zg 7 ?_;refine q_v (ze (B:=zab p q l)) ?_;refine q_v (ze (B:=zf x)) ?_;(refine q_s (zh (hc:=λj X E J=>t j)) ?_;rintro _ _ ⟨R,rfl,U,W,rfl,rfl⟩);refine zb ?_|refine q_s (zbR (x:=x)) ?_;rintro _ _ ⟨V,rfl,rfl⟩|(refine zW ?_;first|refine q_v (za (hc:=λj X E J=>r j _ (zp (J.has (by exact F5 F6)) F0))) ?_|refine zB ?_|fail)|fail)
 exact zad rfl (zr rfl) (zr rfl) q_h ⟨_,_,rfl,rfl⟩
theorem zlw(i x:Nat)(w:World)(h0:1<=i)(j:i<=4)(r:GT w)(hx:x<18446744073709551616^16)(hc:zap (gP i) (gQ i) x=true):Sy.Fn Tryz.prog 104 [.int .i64 (i:Int),zm x] w No (ziG i x):=by
 refine zo Tryz.func104 Tryz.ntmps104 ?_;have F:=zd x;have A:=λq (t:Keep No w q)=>zlh i x 188 (zap (gP i) (gQ i)) q h0 j (r.to t) hx (en rfl) (λm=>zev _ _ _ x m (zbw i h0 j) (zba i h0 j) (by have:=zbh i h0 j;omega) hx) hc (zbE hc);unfold ziG at*;repeat' (first|refine s_0 ?_|refine zg 0 ?_;refine zV ?_;intro _|refine q_k 1 ?_;refine q_v (ze (B:=zf x)) ?_;(refine q_s (zh (hc:=zq A)) ?_;rintro _ _ ⟨R,rfl,C,E,rfl,rfl⟩);refine zb ?_)
 exact zad rfl (zr rfl) (zr rfl) q_h ⟨_,_,rfl,rfl⟩
theorem zj4(i x:Nat)(w:World)(h0:1<=i)(m:i<=4)(r:GT w)(hx:x<18446744073709551616^16)(hc:decide (x<gQ i)=true):Sy.Fn Tryz.prog 109 [.int .i64 (i:Int),zm x] w No (ziG i x):=by
 refine zo Tryz.func109 Tryz.ntmps109 ?_;have F:=zd x;have A:=λq (t:Keep No w q)=>zlh i x 190 (λy=>decide (y<gQ i)) q h0 m (r.to t) hx (en rfl) (λj=>zds _ _ _ x j (zba i h0 m) hx) hc (AG (of_decide_eq_true hc) (zv1 i));unfold ziG at*;repeat' (first|refine s_0 ?_|refine zg 0 ?_;refine zV ?_;intro _|refine q_k 1 ?_;refine q_v (ze (B:=zf x)) ?_;(refine q_s (zh (hc:=zq A)) ?_;rintro _ _ ⟨R,rfl,C,E,rfl,rfl⟩);refine zb ?_)
 exact zad rfl (zr rfl) (zr rfl) q_h ⟨_,_,rfl,rfl⟩
theorem zls(z:Int)(f:Nat)(a:Option Addr)(n c:Nat)(w:World)(hz:¬(1<=z/\z<=4)):q_G 210 [.int .i64 z,.slice a n c,.func (.func f) #[] #[]] w (.tuple #[zm 0,.int .i64 2]):=by
 refine zo Tryz.func210 Tryz.ntmps210 ?_;have j:=zY 0 0 0;have m:=zd 0;repeat' (first|refine s_t ?_|refine zg 0 ?_;refine zV ?_;intro _|refine q_k 1 ?_;refine q_v (za (hc:=λ_ _ _ _=>(zhn z _ hz))) ?_;refine zb ?_;refine zi ?_;intro _;refine q_y (zC (B:=zab 0 0 0) (hv:=zaU 0 0 0) (h1:=(zY 0 0 0).symm)) ?_|refine q_k 2 ?_;refine zat ?_;refine zb ?_|refine zg 3 ?_;refine q_x zcP ?_;refine q_y (zj (n:=0)) ?_)
 exact zad rfl (zz (B:=zf 0) rfl (ty rfl) rfl F4 F0 (zd _).symm) (zr rfl) F2 ⟨rfl,rfl⟩
theorem zjf(i f:Nat)(a:Option Addr)(n c:Nat)(w:World)(h0:1<=i)(j:i<=4)(A:GT w)(hn:n<gL i):q_G 210 [.int .i64 (i:Int),.slice a n c,.func (.func f) #[] #[]] w (.tuple #[zm 0,.int .i64 4]):=by
 refine zo Tryz.func210 Tryz.ntmps210 ?_;have J:=zbw i h0 j;have C:=zba i h0 j;have F:=zbh i h0 j;have G:=za3 i h0 j;have m:=λt (E:Keep No w t)=>zcD i t h0 j (A.to E);generalize gL i=l,gQ i=q,gP i=p at*;have K:=zY p q l;have L:=zd p;have M:=zd q;have N:=zd 0;have H:=zb8 p q l;have I:=zb6 p q l;have r:=zcG p q l;have g1:decide ((n:Int)<(l:Int))=true:=q_d;repeat' (first|refine s_t ?_|refine zg 0 ?_;refine zV ?_;intro _|refine q_k 1 ?_;refine q_v (za (hc:=zq m)) ?_;refine zb ?_;refine zi ?_;intro _;refine q_y (zC (B:=zab p q l) (hv:=zaU p q l) (h1:=(zY p q l).symm)) ?_|refine q_k 2 ?_;refine zat ?_;refine zb ?_|refine q_k 4 ?_;refine q_v (zM (hv:=r)) ?_;refine q_x (zl (hr:=g1)) ?_|refine zg 5 ?_;refine q_v zcP ?_;refine q_y (zj (n:=0)) ?_)
 exact zad rfl (zz (B:=zf 0) rfl (ty rfl) rfl F4 F0 (zd _).symm) (zr rfl) F2 ⟨rfl,rfl⟩
theorem zkm(i f:Nat)(a:Option Addr)(n c:Nat)(w:World)(h0:1<=i)(j:i<=4)(A:GT w)(hn:gL i<n):q_G 210 [.int .i64 (i:Int),.slice a n c,.func (.func f) #[] #[]] w (.tuple #[zm 0,.int .i64 5]):=by
 refine zo Tryz.func210 Tryz.ntmps210 ?_;have J:=zbw i h0 j;have C:=zba i h0 j;have F:=zbh i h0 j;have G:=za3 i h0 j;have r:=λt (E:Keep No w t)=>zcD i t h0 j (A.to E);generalize gL i=l,gQ i=q,gP i=p at*;have K:=zY p q l;have L:=zd p;have M:=zd q;have N:=zd 0;have H:=zb8 p q l;have I:=zb6 p q l;have m:=zcG p q l;have g1:decide ((n:Int)<(l:Int))=false:=q_f;have g2:decide ((n:Int)>(l:Int))=true:=q_d;repeat' (first|refine s_t ?_|refine zg 0 ?_;refine zV ?_;intro _|refine q_k 1 ?_;refine q_v (za (hc:=zq r)) ?_;refine zb ?_;refine zi ?_;intro _;refine q_y (zC (B:=zab p q l) (hv:=zaU p q l) (h1:=(zY p q l).symm)) ?_|refine q_k 2 ?_;refine zat ?_;refine zb ?_|refine q_k 4 ?_;refine q_v (zM (hv:=m)) ?_;refine q_x (zl (hr:=g1)) ?_|refine q_k 6 ?_;refine q_v (zM (hv:=m)) ?_;refine q_x (zF (hr:=g2)) ?_|refine zg 7 ?_;refine q_v zcP ?_;refine q_y (zj (n:=0)) ?_)
 exact zad rfl (zz (B:=zf 0) rfl (ty rfl) rfl F4 F0 (zd _).symm) (zr rfl) F2 ⟨rfl,rfl⟩
theorem zmq(i f:Nat)(cond:Nat->Bool)(a:Option Addr)(n c:Nat)(m:List UInt8)(w:World)(h0:1<=i)(r:i<=4)(M:GT w)(hn:n=gL i)(P:m.length=n)(A:n<=c)(hb:SlA w a (m.map v8))(H:∀args w,(callFunc f args).run Tryz.prog w= .ok (.enter f args) w)(I:∀x,x<18446744073709551616^16->∀j,q_G f [zcu (gP i) (gQ i) (gL i),zm x] j (.bool (cond x)))(hc:cond (bev 256 (bn m))=false):
  q_G 210 [.int .i64 (i:Int),.slice a n c,.func (.func f) #[] #[]] w (.tuple #[zm 0,.int .i64 3]):=by
 refine zo Tryz.func210 Tryz.ntmps210 ?_;have L:=(zdp i h0 r).2;have V:=zbw i h0 r;have N:=zba i h0 r;have Q:=zbh i h0 r;have R:=za3 i h0 r;have J:=λj (G:Keep No w j)=>zcD i j h0 r (M.to G);generalize gL i=l,gQ i=q,gP i=p at*;have W:=zY p q l;have Y:=zd p;have Z:=zd q;have lz:=zd 0;have S:=zb8 p q l;have T:=zb6 p q l;have E:=zcG p q l;have F:bev 256 (bn m)<18446744073709551616^16:=by
  rw[zgU 256 8 128 rfl rfl];refine AG (zdR 256 (bn m) (zgC m)) ?_;rw[show(bn m).length=m.length from A0 _];exact AA q_e q_o
 have C:=λj (G:Keep No w j)=>zb7 a n c m j P A (hb.to G (λ_ h=> .inr h)).sla q_o;rw[if_pos F] at C;have I:=I _ F;have g1:decide ((n:Int)<(l:Int))=false:=q_f;have g2:decide ((n:Int)>(l:Int))=false:=q_f;generalize bev 256 (bn m)=x at*;have lx:=zd x;have t:=λj K (h:j.rangeAt K 0 (z8 [x]))=>zi5 p q l f x K cond j H I h;simp only[hc,EB,if_false] at t;repeat' (first|refine s_t ?_|refine zg 0 ?_;refine zV ?_;intro _|refine q_k 1 ?_;refine q_v (za (hc:=zq J)) ?_;refine zb ?_;refine zi ?_;intro _;refine q_y (zC (B:=zab p q l) (hv:=zaU p q l) (h1:=(zY p q l).symm)) ?_|refine q_k 2 ?_;refine zat ?_;refine zb ?_|refine q_k 4 ?_;refine q_v (zM (hv:=E)) ?_;refine q_x (zl (hr:=g1)) ?_|refine q_k 6 ?_;refine q_v (zM (hv:=E)) ?_;refine q_x (zF (hr:=g2)) ?_|refine q_k 8 ?_;refine q_v (za (hc:=zq C)) ?_;refine zb ?_;refine zi ?_;intro _;refine q_y (zj (n:=x)) ?_|refine zg 9 ?_;refine q_x (ze (B:=zab p q l)) ?_;refine q_v (ze (B:=zf x)) ?_|refine q_k 10 ?_;refine zat ?_|refine zg 11 ?_;refine q_x zcP ?_;refine q_y (zj (n:=0)) ?_|refine q_s (zbR (x:=x)) ?_;rintro _ _ ⟨U,rfl,rfl⟩|(refine zW ?_;first|refine q_v (za (hc:=λj X G O=>t j _ (zp (O.has (by exact F5 F6)) F0))) ?_|refine zB ?_|fail)|fail)
 exact zad rfl (zz (B:=zf 0) rfl (ty rfl) rfl F4 F0 (zd _).symm) (zr rfl) F2 ⟨rfl,rfl⟩
theorem znM(i f:Nat)(cond:Nat->Bool)(a:Option Addr)(n c:Nat)(m:List UInt8)(w:World)(h0:1<=i)(r:i<=4)(M:GT w)(hn:n=gL i)(P:m.length=n)(A:n<=c)(hb:SlA w a (m.map v8))(H:∀args w,(callFunc f args).run Tryz.prog w= .ok (.enter f args) w)(I:∀x,x<18446744073709551616^16->∀j,q_G f [zcu (gP i) (gQ i) (gL i),zm x] j (.bool (cond x)))(hc:cond (bev 256 (bn m))=true):
  q_G 210 [.int .i64 (i:Int),.slice a n c,.func (.func f) #[] #[]] w (.tuple #[zm (bev 256 (bn m)),.int .i64 0]):=by
 refine zo Tryz.func210 Tryz.ntmps210 ?_;have L:=(zdp i h0 r).2;have V:=zbw i h0 r;have N:=zba i h0 r;have Q:=zbh i h0 r;have R:=za3 i h0 r;have J:=λj (G:Keep No w j)=>zcD i j h0 r (M.to G);generalize gL i=l,gQ i=q,gP i=p at*;have W:=zY p q l;have Y:=zd p;have Z:=zd q;have lz:=zd 0;have S:=zb8 p q l;have T:=zb6 p q l;have E:=zcG p q l;have F:bev 256 (bn m)<18446744073709551616^16:=by
  rw[zgU 256 8 128 rfl rfl];refine AG (zdR 256 (bn m) (zgC m)) ?_;rw[show(bn m).length=m.length from A0 _];exact AA q_e q_o
 have C:=λj (G:Keep No w j)=>zb7 a n c m j P A (hb.to G (λ_ h=> .inr h)).sla q_o;rw[if_pos F] at C;have I:=I _ F;have g1:decide ((n:Int)<(l:Int))=false:=q_f;have g2:decide ((n:Int)>(l:Int))=false:=q_f;generalize bev 256 (bn m)=x at*;have lx:=zd x;have t:=λj K (h:j.rangeAt K 0 (z8 [x]))=>zi5 p q l f x K cond j H I h;simp only[hc,if_true] at t;repeat' (first|refine s_t ?_|refine zg 0 ?_;refine zV ?_;intro _|refine q_k 1 ?_;refine q_v (za (hc:=zq J)) ?_;refine zb ?_;refine zi ?_;intro _;refine q_y (zC (B:=zab p q l) (hv:=zaU p q l) (h1:=(zY p q l).symm)) ?_|refine q_k 2 ?_;refine zat ?_;refine zb ?_|refine q_k 4 ?_;refine q_v (zM (hv:=E)) ?_;refine q_x (zl (hr:=g1)) ?_|refine q_k 6 ?_;refine q_v (zM (hv:=E)) ?_;refine q_x (zF (hr:=g2)) ?_|refine q_k 8 ?_;refine q_v (za (hc:=zq C)) ?_;refine zb ?_;refine zi ?_;intro _;refine q_y (zj (n:=x)) ?_|refine zg 9 ?_;refine q_x (ze (B:=zab p q l)) ?_;refine q_v (ze (B:=zf x)) ?_|refine q_k 10 ?_;refine zat ?_|refine zg 12 ?_;refine q_v (ze (B:=zf x)) ?_;refine q_y (zj (n:=x)) ?_|refine q_s (zbR (x:=x)) ?_;rintro _ _ ⟨U,rfl,rfl⟩|(refine zW ?_;first|refine q_v (za (hc:=λj X G O=>t j _ (zp (O.has (by exact F5 F6)) F0))) ?_|refine zB ?_|fail)|fail)
 exact zad rfl (zz (B:=zf x) rfl (ty rfl) rfl F4 F0 (zd _).symm) (zr rfl) F2 ⟨rfl,rfl⟩
theorem zmL(z:Int)(a:Option Addr)(n c:Nat)(w:World)(hz:¬(1<=z/\z<=4)):q_G 128 [.int .i64 z,.slice a n c] w (.tuple #[zm 0,.int .i64 2]):=by
 refine zo Tryz.func128 Tryz.ntmps128 ?_;have m:=λj (_:Keep No w j)=>zls z 188 a n c j hz;have q:=zd 0;repeat' (first|refine s_0 ?_|refine zg 0 ?_;refine zV ?_;intro _|refine q_k 1 ?_;refine q_v (za (hc:=zq m)) ?_;refine zb ?_;refine q_y (zj (n:=0)) ?_)
 exact zad rfl (zz (B:=zf 0) rfl (ty rfl) rfl F4 F0 (zd _).symm) (zr rfl) F2 ⟨rfl,rfl⟩
theorem zkR(i:Nat)(a:Option Addr)(n c:Nat)(w:World)(h0:1<=i)(m:i<=4)(q:GT w)(hn:n<gL i):q_G 128 [.int .i64 (i:Int),.slice a n c] w (.tuple #[zm 0,.int .i64 4]):=by
 refine zo Tryz.func128 Tryz.ntmps128 ?_;have t:=λj (r:Keep No w j)=>zjf i 188 a n c j h0 m (q.to r) hn;have A:=zd 0;repeat' (first|refine s_0 ?_|refine zg 0 ?_;refine zV ?_;intro _|refine q_k 1 ?_;refine q_v (za (hc:=zq t)) ?_;refine zb ?_;refine q_y (zj (n:=0)) ?_)
 exact zad rfl (zz (B:=zf 0) rfl (ty rfl) rfl F4 F0 (zd _).symm) (zr rfl) F2 ⟨rfl,rfl⟩
theorem zl4(i:Nat)(a:Option Addr)(n c:Nat)(w:World)(h0:1<=i)(m:i<=4)(q:GT w)(hn:gL i<n):q_G 128 [.int .i64 (i:Int),.slice a n c] w (.tuple #[zm 0,.int .i64 5]):=by
 refine zo Tryz.func128 Tryz.ntmps128 ?_;have t:=λj (r:Keep No w j)=>zkm i 188 a n c j h0 m (q.to r) hn;have A:=zd 0;repeat' (first|refine s_0 ?_|refine zg 0 ?_;refine zV ?_;intro _|refine q_k 1 ?_;refine q_v (za (hc:=zq t)) ?_;refine zb ?_;refine q_y (zj (n:=0)) ?_)
 exact zad rfl (zz (B:=zf 0) rfl (ty rfl) rfl F4 F0 (zd _).symm) (zr rfl) F2 ⟨rfl,rfl⟩
theorem zos(i:Nat)(a:Option Addr)(n c:Nat)(m:List UInt8)(w:World)(h0:1<=i)(q:i<=4)(C:GT w)(hn:n=gL i)(E:m.length=n)(j:n<=c)(hb:SlA w a (m.map v8))(hc:zap (gP i) (gQ i) (bev 256 (bn m))=false):q_G 128 [.int .i64 (i:Int),.slice a n c] w (.tuple #[zm 0,.int .i64 3]):=by
 refine zo Tryz.func128 Tryz.ntmps128 ?_;have F:=λA (t:Keep No w A)=>zmq i 188 (zap (gP i) (gQ i)) a n c m A h0 q (C.to t) hn E j (hb.to t (λ_ h=> .inr h)).sla (en rfl) (λx G r=>zev _ _ _ x r (zbw i h0 q) (zba i h0 q) (by have:=zbh i h0 q;omega) G) hc;have H:=zd 0;repeat' (first|refine s_0 ?_|refine zg 0 ?_;refine zV ?_;intro _|refine q_k 1 ?_;refine q_v (za (hc:=zq F)) ?_;refine zb ?_;refine q_y (zj (n:=0)) ?_)
 exact zad rfl (zz (B:=zf 0) rfl (ty rfl) rfl F4 F0 (zd _).symm) (zr rfl) F2 ⟨rfl,rfl⟩
theorem zor(i:Nat)(a:Option Addr)(n c:Nat)(j:List UInt8)(w:World)(h0:1<=i)(q:i<=4)(C:GT w)(hn:n=gL i)(E:j.length=n)(m:n<=c)(hb:SlA w a (j.map v8))(hc:zap (gP i) (gQ i) (bev 256 (bn j))=true):q_G 128 [.int .i64 (i:Int),.slice a n c] w (.tuple #[zm (bev 256 (bn j)),.int .i64 0]):=by
 refine zo Tryz.func128 Tryz.ntmps128 ?_;have F:=λA (t:Keep No w A)=>znM i 188 (zap (gP i) (gQ i)) a n c j A h0 q (C.to t) hn E m (hb.to t (λ_ h=> .inr h)).sla (en rfl) (λx G r=>zev _ _ _ x r (zbw i h0 q) (zba i h0 q) (by have:=zbh i h0 q;omega) G) hc;have H:=zd (bev 256 (bn j));generalize bev 256 (bn j)=x at*;repeat' (first|refine s_0 ?_|refine zg 0 ?_;refine zV ?_;intro _|refine q_k 1 ?_;refine q_v (za (hc:=zq F)) ?_;refine zb ?_;refine q_y (zj (n:=x)) ?_)
 exact zad rfl (zz (B:=zf x) rfl (ty rfl) rfl F4 F0 (zd _).symm) (zr rfl) F2 ⟨rfl,rfl⟩
theorem zn4(z:Int)(a:Option Addr)(n c:Nat)(w:World)(hz:¬(1<=z/\z<=4)):q_G 179 [.int .i64 z,.slice a n c] w (.tuple #[zm 0,.int .i64 2]):=by
 refine zo Tryz.func179 Tryz.ntmps179 ?_;have m:=λj (_:Keep No w j)=>zls z 190 a n c j hz;have q:=zd 0;repeat' (first|refine s_0 ?_|refine zg 0 ?_;refine zV ?_;intro _|refine q_k 1 ?_;refine q_v (za (hc:=zq m)) ?_;refine zb ?_;refine q_y (zj (n:=0)) ?_)
 exact zad rfl (zz (B:=zf 0) rfl (ty rfl) rfl F4 F0 (zd _).symm) (zr rfl) F2 ⟨rfl,rfl⟩
theorem zlS(i:Nat)(a:Option Addr)(n c:Nat)(w:World)(h0:1<=i)(m:i<=4)(q:GT w)(hn:n<gL i):q_G 179 [.int .i64 (i:Int),.slice a n c] w (.tuple #[zm 0,.int .i64 4]):=by
 refine zo Tryz.func179 Tryz.ntmps179 ?_;have t:=λj (r:Keep No w j)=>zjf i 190 a n c j h0 m (q.to r) hn;have A:=zd 0;repeat' (first|refine s_0 ?_|refine zg 0 ?_;refine zV ?_;intro _|refine q_k 1 ?_;refine q_v (za (hc:=zq t)) ?_;refine zb ?_;refine q_y (zj (n:=0)) ?_)
 exact zad rfl (zz (B:=zf 0) rfl (ty rfl) rfl F4 F0 (zd _).symm) (zr rfl) F2 ⟨rfl,rfl⟩
theorem znp(i:Nat)(a:Option Addr)(n c:Nat)(w:World)(h0:1<=i)(m:i<=4)(q:GT w)(hn:gL i<n):q_G 179 [.int .i64 (i:Int),.slice a n c] w (.tuple #[zm 0,.int .i64 5]):=by
 refine zo Tryz.func179 Tryz.ntmps179 ?_;have t:=λj (r:Keep No w j)=>zkm i 190 a n c j h0 m (q.to r) hn;have A:=zd 0;repeat' (first|refine s_0 ?_|refine zg 0 ?_;refine zV ?_;intro _|refine q_k 1 ?_;refine q_v (za (hc:=zq t)) ?_;refine zb ?_;refine q_y (zj (n:=0)) ?_)
 exact zad rfl (zz (B:=zf 0) rfl (ty rfl) rfl F4 F0 (zd _).symm) (zr rfl) F2 ⟨rfl,rfl⟩
theorem zpC(i:Nat)(a:Option Addr)(n c:Nat)(m:List UInt8)(w:World)(h0:1<=i)(r:i<=4)(C:GT w)(hn:n=gL i)(E:m.length=n)(j:n<=c)(hb:SlA w a (m.map v8))(hc:decide (bev 256 (bn m)<gQ i)=false):q_G 179 [.int .i64 (i:Int),.slice a n c] w (.tuple #[zm 0,.int .i64 3]):=by
 refine zo Tryz.func179 Tryz.ntmps179 ?_;have F:=λA (t:Keep No w A)=>zmq i 190 (λy=>decide (y<gQ i)) a n c m A h0 r (C.to t) hn E j (hb.to t (λ_ h=> .inr h)).sla (en rfl) (λx G q=>zds _ _ _ x q (zba i h0 r) G) hc;have H:=zd 0;repeat' (first|refine s_0 ?_|refine zg 0 ?_;refine zV ?_;intro _|refine q_k 1 ?_;refine q_v (za (hc:=zq F)) ?_;refine zb ?_;refine q_y (zj (n:=0)) ?_)
 exact zad rfl (zz (B:=zf 0) rfl (ty rfl) rfl F4 F0 (zd _).symm) (zr rfl) F2 ⟨rfl,rfl⟩
theorem zp0(i:Nat)(a:Option Addr)(n c:Nat)(j:List UInt8)(w:World)(h0:1<=i)(r:i<=4)(C:GT w)(hn:n=gL i)(E:j.length=n)(m:n<=c)(hb:SlA w a (j.map v8))(hc:decide (bev 256 (bn j)<gQ i)=true):q_G 179 [.int .i64 (i:Int),.slice a n c] w (.tuple #[zm (bev 256 (bn j)),.int .i64 0]):=by
 refine zo Tryz.func179 Tryz.ntmps179 ?_;have F:=λA (t:Keep No w A)=>znM i 190 (λy=>decide (y<gQ i)) a n c j A h0 r (C.to t) hn E m (hb.to t (λ_ h=> .inr h)).sla (en rfl) (λx G q=>zds _ _ _ x q (zba i h0 r) G) hc;have H:=zd (bev 256 (bn j));generalize bev 256 (bn j)=x at*;repeat' (first|refine s_0 ?_|refine zg 0 ?_;refine zV ?_;intro _|refine q_k 1 ?_;refine q_v (za (hc:=zq F)) ?_;refine zb ?_;refine q_y (zj (n:=x)) ?_)
 exact zad rfl (zz (B:=zf x) rfl (ty rfl) rfl F4 F0 (zd _).symm) (zr rfl) F2 ⟨rfl,rfl⟩
theorem zon(z:Int)(a:Option Addr)(n c:Nat)(w:World)(hz:¬(1<=z/\z<=4)):q_G 100 [.int .i64 z,.slice a n c] w (.tuple #[zm 0,.int .i64 2]):=by
 refine zo Tryz.func100 Tryz.ntmps100 ?_;have r:=zd 0;have q:=zY 0 0 0;have j:=zb8 0 0 0;have m:=zb6 0 0 0;repeat' (first|refine s_0 ?_|refine zg 0 ?_;refine zV ?_;intro _|refine q_k 1 ?_;refine q_v (za (hc:=λ_ _ _ _=>(zhn z _ hz))) ?_;refine zb ?_;refine zi ?_;intro _;refine q_y (zC (B:=zab 0 0 0) (hv:=zaU 0 0 0) (h1:=(zY 0 0 0).symm)) ?_|refine q_k 2 ?_;refine zat ?_|refine zg 3 ?_;refine q_x zcP ?_;refine q_y (zj (n:=0)) ?_)
 exact zad rfl (zz (B:=zf 0) rfl (ty rfl) rfl F4 F0 (zd _).symm) (zr rfl) F2 ⟨rfl,rfl⟩
theorem zkh(i:Nat)(a:Option Addr)(n c:Nat)(r:List UInt8)(w:World)(h0:1<=i)(Y:i<=4)(hG:GT w)(hl:r.length=n)(c4:n<=c)(c6:n<1000000)(hb:SlA w a (r.map v8)):
  q_G 100 [.int .i64 (i:Int),.slice a n c] w (.tuple #[zm (bev 256 (bn r)%gQ i),.int .i64 0]):=by
 refine zo Tryz.func100 Tryz.ntmps100 ?_;have hW:=zbw i h0 Y;have F:=zba i h0 Y;have c8:=zbh i h0 Y;have c9:=za3 i h0 Y;have a9:=λC (X:Keep No w C)=>zcD i C h0 Y (hG.to X);generalize gL i=l,gQ i=q,gP i=p at*;have lS:=zY p q l;have lp:=zd p;have lq:=zd q;have lz:=zd 0;have d9:=zb8 p q l;have S:=zb6 p q l;have d8:=zcG p q l;have L:0<q:=q_o;have a6:256^32<18446744073709551616^16:=by
  rw[zgU 256 8 128 rfl rfl];exact Nat.pow_lt_pow_right q_e q_e
 have H:=λC aR cR (h:SlA C aR ((1::List.replicate 32 0:List UInt8).map v8)) (hc:32+1<=cR)=>zb7 aR (32+1) cR (1::List.replicate 32 0) C q_p hc h q_o;rw[zlH,if_pos a6] at H;have hys: [Value.int IntKind.u8 1]++List.replicate 32 (Value.int IntKind.u8 0)=(1::List.replicate 32 0:List UInt8).map v8:=by
  rw[Ay,Ba];rfl
 have lr:=zd (256^32);generalize c1:256^32=t at*;obtain⟨f,hf⟩:∃f,f=n%32:=⟨_,rfl⟩;have c5:f<32:=by rw[hf];exact A7 _ q_e
 have c7:f<=n:=by rw[hf];exact EZ _ _
 obtain⟨k,X⟩:∃k,n=f+32*k:=⟨n/32,by rw[hf];have:=AV n 32;omega⟩;have b1:(n:Int).tmod 32=((f:Nat):Int):=by rw[hf];exact zdL n 32
 have A:∀D:List UInt8,D.length<=32->bev 256 (bn D)<18446744073709551616^16:=λD hD=>by
  rw[zgU 256 8 128 rfl rfl];refine AG (zdR 256 (bn D) (zgC D)) ?_;rw[show(bn D).length=D.length from A0 _];exact AA q_e q_o
 have O:=λC (X:Keep No w C)=>zb7 a f f (r.take f) C (by rw[AU];omega) (A4 _) (by rw[CN];exact((hb.to X (λ_ h=> .inr h)).sla).take _) q_o;rw[if_pos (A (r.take f) (by rw[AU];omega))] at O;have K:=A (r.take f) (by rw[AU];omega);have E:=λC=>zqW (bev 256 (bn (r.take f))) q C K F;unfold zco at E;simp only[if_neg (show ¬q=0 by omega)] at E;have c2:=zd (bev 256 (bn (r.take f)));have c3:=zd (bev 256 (bn (r.take f))%q);clear hf;repeat' (first|refine s_0 ?_|refine zg 0 ?_;refine zV ?_;intro _|refine q_k 1 ?_;refine q_v (za (hc:=zq a9)) ?_;refine zb ?_;refine zi ?_;intro _;refine q_y (zC (B:=zab p q l) (hv:=zaU p q l) (h1:=(zY p q l).symm)) ?_|refine q_k 2 ?_;refine zat ?_|refine zg 4 ?_;(refine q_s zw ?_;rintro _ _ ⟨_,rfl,rfl⟩);(refine q_s (Fh (zdx (n:=1) (s:=1) (by repeat (first|exact F1|apply F3)) rfl (by unfold maxLen;omega)) (zkc (k:=1) (m:=32) (km:=32+1) (hm:=rfl) (hL:=F1) (hkm:=rfl) (hys:=hys))) ?_;rintro _ _ ⟨rfl,aR,cR,rfl⟩);refine q_v (za (hc:=λC _ _ hh=>H C _ _ (zI hh q_h) (FR (n:=32+1) hh q_h))) ?_;refine zb ?_;refine zi ?_;intro _;refine q_y (zj (n:=t)) ?_|refine q_k 5 ?_;refine q_x (zaN (hr:=b1)) ?_)
 rename_i U V wx W;refine FJ (fr':=[(1,.slice a n c),(4,.pointer (some ⟨U,0,none⟩)),(6,.pointer (some ⟨V,0,none⟩)),(8,.pointer (some ⟨W,0,none⟩)),(10,.int .i64 f)]) (L':=[.blk W 133 (zf t),.blk V 194 (zab p q l),.blk U 133 (List.replicate 16 (Value.int IntKind.u64 0))]) ?_ q_h q_h;clear H hys a9;generalize b2:bev 256 (bn (r.take f))=d0 at*;generalize b9:d0%q=r0 at*;repeat' (first|refine s_t ?_|refine q_k 6 ?_;refine q_v (zbN (l:=0) (h:=f) (m:=f) (n':=f) (c':=f)) ?_;refine q_v (za (hc:=zq O)) ?_;refine zb ?_;refine zi ?_;intro _;refine q_y (zj (n:=d0)) ?_|refine zg 7 ?_;refine q_x (ze (B:=zf d0)) ?_;refine q_v (ze (B:=zf q) (hv:=S)) ?_;refine q_v (za (hc:=q_c E)) ?_;refine zb ?_;refine q_n (zj (n:=r0)) ?_|refine q_k 8 ?_)
 rename_i I;refine zE (γ:=Nat) (λj=>[(1,.slice a n c),(4,.pointer (some ⟨U,0,none⟩)),(6,.pointer (some ⟨V,0,none⟩)),(8,.pointer (some ⟨W,0,none⟩)),(11,.pointer (some ⟨I,0,none⟩)),(13,.int .i64 ((f+32*j:Nat):Int))])
  (λj=>[.blk I 133 (zf (bev 256 (bn (r.take (f+32*j)))%q)),.blk W 133 (zf t),.blk V 194 (zab p q l),.blk U 133 (List.replicate 16 (Value.int IntKind.u64 0))])
  (λj=>j<=k) (λj=>k-j) 0 (AE _) ?_ ?_ ?_
 ·exact q_h
 ·show SubR [.blk I 133 (zf (bev 256 (bn (r.take f))%q)),.blk W 133 (zf t),.blk V 194 (zab p q l),.blk U 133 (List.replicate 16 (Value.int IntKind.u64 0))] _;rw[b2,b9];exact q_h
 clear O E c2 c3 K;intro j hj;rcases AH j k with h|h
 ·have Q:decide (((f+32*j:Nat):Int)<(n:Int))=true:=q_d;have G:IntKind.i64.wrap (((f+32*j:Nat):Int)+32)=((f+32*j+32:Nat):Int):=q_w;have N:=zlc r (f+32*j) 32 q_o;rw[c1] at N;have b3:((r.take (f+32*j+32)).drop (f+32*j)).length=32:=by rw[B5,AU];omega
  have a7:=A ((r.take (f+32*j+32)).drop (f+32*j)) q_o;have a8:=λC (X:Keep No w C)=>zb7 (zb4 a (f+32*j) (f+32*j+32) 1) 32 32 ((r.take (f+32*j+32)).drop (f+32*j)) C b3 (A4 _) (by
   rw[Cm,CN];exact(((hb.to X (λ_ h=> .inr h)).sla).take _).mov (by rw[AU];omega)) q_o
  rw[if_pos a7] at a8;have T:=zrb q (bev 256 (bn (r.take (f+32*j)))) t (bev 256 (bn ((r.take (f+32*j+32)).drop (f+32*j))));rw[<-N] at T;have c0:=AS (A7 (bev 256 (bn (r.take (f+32*j)))) L) F;generalize bev 256 (bn (r.take (f+32*j)))%q=M,bev 256 (bn ((r.take (f+32*j+32)).drop (f+32*j)))=d at*;have hM:=λC=>zkT M t q C c0 a6 F;have b7:=AS (A7 (M*t) L) F;have Z:=λC=>zpj (M*t%q) d q C b7 a7 F;unfold zco at hM Z;simp only[if_neg (show ¬q=0 by omega)] at hM Z;rw[T] at Z;have l1:=zd M;have l2:=zd d;have l3:=zd (M*t%q);have J:bev 256 (bn (r.take (f+32*(j+1))))%q=bev 256 (bn (r.take (f+32*j+32)))%q:=by rw[show f+32*(j+1)=f+32*j+32 by omega]
  have b5:((f+32*(j+1):Nat):Int)=((f+32*j+32:Nat):Int):=q_o;rw[<-J] at Z;have l4:=zd (bev 256 (bn (r.take (f+32*(j+1))))%q);clear T N J;generalize M*t%q=P,b0:bev 256 (bn (r.take (f+32*(j+1))))%q=R1 at*;repeat' (first|refine s_t ?_|refine q_k 9 ?_;refine q_v (zl (hr:=Q)) ?_|refine q_k 11 ?_;refine q_x (zA (hr:=G)) ?_;refine q_v (zA (hr:=G)) ?_;refine q_v (zbN (l:=f+32*j) (h:=f+32*j+32) (m:=f+32*j+32) (n':=32) (c':=32) (hn':=by omega) (hc':=by omega)) ?_;refine q_v (za (hc:=zq a8)) ?_;refine zb ?_;refine zi ?_;intro _;refine q_y (zj (n:=d)) ?_|refine zg 12 ?_;refine q_v (ze (B:=zf M)) ?_;refine q_x (ze (B:=zf t)) ?_;refine q_v (ze (B:=zf q) (hv:=S)) ?_;refine q_v (za (hc:=q_c hM)) ?_;refine zb ?_;refine q_n (zj (n:=P)) ?_|refine zg 13 ?_;refine q_v (ze (B:=zf P)) ?_;refine q_x (ze (B:=zf d)) ?_;refine q_v (ze (B:=zf q) (hv:=S)) ?_;refine q_v (za (hc:=q_c Z)) ?_;refine zb ?_;refine q_n (zj (n:=R1)) ?_|refine q_k 10 ?_;refine q_x (zA (hr:=G)) ?_)
  refine zy (j+1) ?_ ?_ ?_ ?_
  ·show j+1<=k;omega
  ·show k-(j+1)<k-j;omega
  ·rw[b5];exact q_h
  ·show SubR [.blk I 133 (zf (bev 256 (bn (r.take (f+32*(j+1))))%q)),.blk W 133 (zf t),.blk V 194 (zab p q l),.blk U 133 (List.replicate 16 (Value.int IntKind.u64 0))] _;rw[b0];exact q_h
 ·obtain rfl:j=k:=q_o;have Q:decide (((f+32*j:Nat):Int)<(n:Int))=false:=q_f;rw[A6 q_o];have lR:=zd (bev 256 (bn r)%q);generalize bev 256 (bn r)%q=R at*;repeat' (first|refine s_0 ?_|refine q_k 9 ?_;refine q_v (zl (hr:=Q)) ?_|refine zg 14 ?_;refine q_v (ze (B:=zf R)) ?_;refine q_y (zj (n:=R)) ?_)
  exact zad rfl (zz (B:=zf R) rfl (ty rfl) rfl F4 F0 (zd _).symm) (zr rfl) F2 ⟨rfl,rfl⟩
end
open Go Go.Sy Go.Nt Go.RowKit
attribute [local irreducible] Sy SyL SyX Sy.Fn callFunc zf z8 zG iC gP gQ gL zap zab zaF
def zaK(z:Int)(l:List UInt8):Nat×Int:=
 if 1<=z/\z<=4 then if l.length<gL z.toNat then (0,4) else if gL z.toNat<l.length then (0,5) else if bev 256 (bn l)<gQ z.toNat then (bev 256 (bn l),0) else (0,3) else (0,2)
def gel(z:Int)(l:List UInt8):Nat×Int:=
 if 1<=z/\z<=4 then if l.length<gL z.toNat then (0,4) else if gL z.toNat<l.length then (0,5) else if zap (gP z.toNat) (gQ z.toNat) (bev 256 (bn l)) then (bev 256 (bn l),0) else (0,3) else (0,2)
def zaJ(z:Int)(l:List UInt8):Nat×Int:=if 1<=z/\z<=4 then (bev 256 (bn l)%gQ z.toNat,0) else (0,2)
def zgX(z:Int):Nat×Int:=if 1<=z/\z<=4 then (gQ z.toNat,0) else (0,2)
def zaY(z:Int):Nat:=if 1<=z/\z<=4 then gL z.toNat else 0
theorem zcs{z:Int}(hz:1<=z/\z<=4):∃i:Nat,z=(i:Int)/\z.toNat=i/\1<=i/\i<=4:=⟨z.toNat,by omega,rfl,by omega,by omega⟩
theorem zuW(z:Int)(l:List UInt8):(zaJ z l).1<18446744073709551616^16:=by
 unfold zaJ;by_cases hz:1<=z/\z<=4
 ·rw[if_pos hz];obtain⟨i,-,m,h0,j⟩:=zcs hz;rw[m];exact AS (A7 _ (AG q_e (za3 i h0 j))) (zba i h0 j)
 ·rw[if_neg hz];exact AP q_e
theorem zeT{z:Int}{l:List UInt8}(h:(zaK z l).2=0):(1<=z/\z<=4)/\l.length=gL z.toNat/\bev 256 (bn l)<gQ z.toNat/\(zaK z l).1=bev 256 (bn l):=by
 unfold zaK at h ⊢;by_cases hz:1<=z/\z<=4
 ·rw[if_pos hz] at h ⊢;by_cases h1:l.length<gL z.toNat
  ·rw[if_pos h1] at h;cases h
  rw[if_neg h1] at h ⊢;by_cases h2:gL z.toNat<l.length
  ·rw[if_pos h2] at h;cases h
  rw[if_neg h2] at h ⊢;by_cases h3:bev 256 (bn l)<gQ z.toNat
  ·rw[if_pos h3];exact⟨hz,by omega,h3,rfl⟩
  ·rw[if_neg h3] at h;cases h
 ·rw[if_neg hz] at h;cases h
theorem zg1{z:Int}{l:List UInt8}(h:(gel z l).2=0):(1<=z/\z<=4)/\l.length=gL z.toNat/\zap (gP z.toNat) (gQ z.toNat) (bev 256 (bn l))=true/\(gel z l).1=bev 256 (bn l):=by
 unfold gel at h ⊢;by_cases hz:1<=z/\z<=4
 ·rw[if_pos hz] at h ⊢;by_cases h1:l.length<gL z.toNat
  ·rw[if_pos h1] at h;cases h
  rw[if_neg h1] at h ⊢;by_cases h2:gL z.toNat<l.length
  ·rw[if_pos h2] at h;cases h
  rw[if_neg h2] at h ⊢;by_cases h3:zap (gP z.toNat) (gQ z.toNat) (bev 256 (bn l))=true
  ·rw[if_pos h3];exact⟨hz,by omega,h3,rfl⟩
  ·rw[if_neg h3] at h;cases h
 ·rw[if_neg hz] at h;cases h
theorem zoT(z:Int)(l:List UInt8):(zaK z l).1<18446744073709551616^16:=by
 by_cases h:(zaK z l).2=0
 ·obtain⟨m,-,j,t⟩:=zeT h;obtain⟨i,-,A,h0,w⟩:=zcs m;rw[t];rw[A] at j;exact AS j (zba i h0 w)
 ·have:(zaK z l).1=0:=by
   unfold zaK at h ⊢;split
   ·rename_i m;rw[if_pos m] at h;split
    ·rfl
    ·rename_i q;rw[if_neg q] at h;split
     ·rfl
     ·rename_i r;rw[if_neg r] at h;split
      ·rename_i j;rw[if_pos j] at h;exact absurd rfl h
      ·rfl
   ·rfl
  rw[this];exact AP q_e
theorem zwa(z:Int)(l:List UInt8):(gel z l).1<18446744073709551616^16:=by
 by_cases h:(gel z l).2=0
 ·obtain⟨m,-,j,t⟩:=zg1 h;obtain⟨i,-,A,h0,w⟩:=zcs m;rw[t];rw[A] at j;exact AS (zbE j) (zbw i h0 w)
 ·have:(gel z l).1=0:=by
   unfold gel at h ⊢;split
   ·rename_i m;rw[if_pos m] at h;split
    ·rfl
    ·rename_i q;rw[if_neg q] at h;split
     ·rfl
     ·rename_i r;rw[if_neg r] at h;split
      ·rename_i j;rw[if_pos j] at h;exact absurd rfl h
      ·rfl
   ·rfl
  rw[this];exact AP q_e
theorem zu0(z:Int)(a:Option Addr)(n c:Nat)(j:List UInt8)(w:World)(q:GT w)(r:j.length=n)(hc:n<=c)(hb:SlA w a (j.map v8)):
  q_G 179 [.int .i64 z,.slice a n c] w (.tuple #[zm (zaK z j).1,.int .i64 (zaK z j).2]):=by
 unfold zaK;by_cases hz:1<=z/\z<=4
 ·rw[if_pos hz];obtain⟨i,rfl,t,h0,m⟩:=zcs hz;rw[t,r];by_cases h1:n<gL i
  ·rw[if_pos h1];exact zlS i a n c w h0 m q h1
  rw[if_neg h1];by_cases h2:gL i<n
  ·rw[if_pos h2];exact znp i a n c w h0 m q h2
  rw[if_neg h2];by_cases h3:bev 256 (bn j)<gQ i
  ·rw[if_pos h3];exact zp0 i a n c j w h0 m q q_o r hc hb (decide_eq_true h3)
  ·rw[if_neg h3];exact zpC i a n c j w h0 m q q_o r hc hb (decide_eq_false h3)
 ·rw[if_neg hz];exact zn4 z a n c w hz
theorem zrE(z:Int)(a:Option Addr)(n c:Nat)(j:List UInt8)(w:World)(q:GT w)(r:j.length=n)(hc:n<=c)(hb:SlA w a (j.map v8)):
  q_G 128 [.int .i64 z,.slice a n c] w (.tuple #[zm (gel z j).1,.int .i64 (gel z j).2]):=by
 unfold gel;by_cases hz:1<=z/\z<=4
 ·rw[if_pos hz];obtain⟨i,rfl,t,h0,m⟩:=zcs hz;rw[t,r];by_cases h1:n<gL i
  ·rw[if_pos h1];exact zkR i a n c w h0 m q h1
  rw[if_neg h1];by_cases h2:gL i<n
  ·rw[if_pos h2];exact zl4 i a n c w h0 m q h2
  rw[if_neg h2];by_cases h3:zap (gP i) (gQ i) (bev 256 (bn j))=true
  ·rw[if_pos h3];exact zor i a n c j w h0 m q q_o r hc hb h3
  ·rw[if_neg h3];exact zos i a n c j w h0 m q q_o r hc hb (by simpa using h3)
 ·rw[if_neg hz];exact zmL z a n c w hz
theorem zvp(z:Int)(a:Option Addr)(n c:Nat)(j:List UInt8)(w:World)(q:GT w)(t:j.length=n)(hc:n<=c)(hn:n<1000000)(hb:SlA w a (j.map v8)):
  q_G 100 [.int .i64 z,.slice a n c] w (.tuple #[zm (zaJ z j).1,.int .i64 (zaJ z j).2]):=by
 unfold zaJ;by_cases hz:1<=z/\z<=4
 ·rw[if_pos hz];obtain⟨i,rfl,r,h0,m⟩:=zcs hz;rw[r];exact zkh i a n c j w h0 m q t hc hn hb
 ·rw[if_neg hz];exact zon z a n c w hz
theorem zvi(z:Int)(w:World)(m:GT w):q_G 129 [.int .i64 z] w (.tuple #[zm (zgX z).1,.int .i64 (zgX z).2]):=by
 unfold zgX;by_cases hz:1<=z/\z<=4
 ·rw[if_pos hz];obtain⟨i,rfl,q,h0,j⟩:=zcs hz;rw[q];exact zrc i w h0 j m
 ·rw[if_neg hz];exact zpz z w hz
theorem zm7(z:Int)(w:World)(m:GT w):q_G 270 [.int .i64 z] w (.int .i64 ((zaY z:Nat):Int)):=by
 unfold zaY;by_cases hz:1<=z/\z<=4
 ·rw[if_pos hz];obtain⟨i,rfl,q,h0,j⟩:=zcs hz;rw[q];exact zuR i w h0 j m
 ·rw[if_neg hz];exact zsP z w hz
end Go.Proofs.YtdnlngbjpdbffaaGreatDoor
