/- Lemmas of this proof. -/
import Derived.Test.YtdnlngbjpdbffaaGreatDoorWJ19
set_option maxHeartbeats 1000000
set_option maxRecDepth 10000
set_option linter.all false
namespace Go.Nt
open Go Go.Sy
theorem zkV{i x:Nat}(h0:1<=i)(j:i<=4)(h:x<gP i):nd 256 x<=gL i:=by
 rw[<-zkE i h0 j];exact zbc 256 x _ q_e (Ai h (zaS 256 (gP i) q_e))
theorem zej{p q x:Nat}(h:zaH p q x=true):x<p:=by
 unfold zaH at h;exact(of_decide_eq_true h).2.1
theorem zyq(i:Nat):gQ i<=gP i:=Bv _ _
theorem zsx(q X R d:Nat):(X%q*R%q+d)%q=(X*R+d)%q:=by
 rw[ES,Nat.mod_add_mod]
end Go.Nt
namespace Go.Proofs.YtdnlngbjpdbffaaGreatDoor
section
open Go Go.Sy Go.Nt Go.RowKit
attribute [local irreducible] Sy SyL SyX Sy.Fn callFunc zg zae zai gP gQ gL gS zed zaH
def zjo(i x:Nat)(v:Value)(R:List Res):Prop:=∃a c,v= .tuple #[.slice a (gL i) c,.int .i64 0]/\R= [.row (.slice a (gL i) c) 5 1 (gL i) ((za7 (gL i) x).map v8)]
theorem zmF(i x f:Nat)(cond:Nat->Bool)(w:World)(h0:1<=i)(m:i<=4)(M:GT w)(hx:x<18446744073709551616^16)(C:∀args w,(callFunc f args).run Tryz.prog w= .ok (.enter f args) w)(O:∀j,q_G f [zcE (gP i) (gQ i) (gL i),zr x] j (.bool (cond x)))(hc:cond x=true)(H:x<gP i):Sy.Fn Tryz.prog 187 [.int .i64 (i:Int),zr x,.func (.func f) #[] #[]] w No (zjo i x):=by
 refine zt Tryz.func187 Tryz.ntmps187 ?_;have lx:=zd x;have I:=zkV h0 m H;have L:=(zfY i h0 m).2;unfold zjo;have Z:=zcg i h0 m;have N:=zcb i h0 m;have P:=zbR i h0 m;have Q:=zbH i h0 m;have E:=λj (G:Keep No w j)=>zcO i j h0 m (M.to G);generalize gL i=l,gQ i=q,gP i=p at*;have lS:=z9 p q l;have lp:=zd p;have lq:=zd q;have lz:=zd 0;have T:=zck p q l;have U:=zcl p q l;have S:=zcS p q l;have r:=λj J (h:j.rangeAt J 0 (zae [x]))=>zjO p q l f x J cond j C O h;simp only[hc,if_true] at r;have A:=λj=>zvo p q l x j hx I q_o;unfold zbG at A;generalize za7 l x=F at*;repeat' (first|refine s_0 ?_|refine zf 0 ?_;refine zW ?_;intro _|refine q_k 1 ?_;refine q_v (za (hc:=zu E)) ?_;refine zb ?_;refine zj ?_;intro _;refine q_y (zC (B:=zai p q l) (hv:=za5 p q l) (h1:=(z9 p q l).symm)) ?_|refine q_k 2 ?_;refine zaA ?_|refine zf 4 ?_;refine q_x (ze (B:=zai p q l)) ?_;refine q_v (ze (B:=zg x)) ?_|refine q_k 5 ?_;refine zaA ?_|refine zf 7 ?_;refine q_v (ze (B:=zai p q l)) ?_;refine q_v (ze (B:=zg x)) ?_;(refine q_s (zi (hc:=λj X G K=>A j)) ?_;rintro _ _ ⟨R,rfl,V,Y,rfl,rfl⟩);refine zb ?_|refine q_s (zb3 (x:=x)) ?_;rintro _ _ ⟨W,rfl,rfl⟩|(refine zy ?_;first|refine q_v (za (hc:=λj X G K=>r j _ (zp (K.has (by exact Ey F1)) Et))) ?_|refine zw ?_|fail)|fail)
 exact zU rfl (zh rfl) (zh rfl) q_h ⟨_,_,rfl,rfl⟩
theorem zmb(i x:Nat)(w:World)(h0:1<=i)(j:i<=4)(r:GT w)(hx:x<18446744073709551616^16)(hc:zaH (gP i) (gQ i) x=true):Sy.Fn Tryz.prog 104 [.int .i64 (i:Int),zr x] w No (zjo i x):=by
 refine zt Tryz.func104 Tryz.ntmps104 ?_;have G:=zd x;have C:=λq (A:Keep No w q)=>zmF i x 188 (zaH (gP i) (gQ i)) q h0 j (r.to A) hx (en rfl) (λm=>zfb _ _ _ x m (zcg i h0 j) (zcb i h0 j) (by have:=zbR i h0 j;omega) hx) hc (zej hc);unfold zjo at*;repeat' (first|refine s_0 ?_|refine zf 0 ?_;refine zW ?_;intro _|refine q_k 1 ?_;refine q_v (ze (B:=zg x)) ?_;(refine q_s (zi (hc:=zu C)) ?_;rintro _ _ ⟨R,rfl,E,F,rfl,rfl⟩);refine zb ?_)
 exact zU rfl (zh rfl) (zh rfl) q_h ⟨_,_,rfl,rfl⟩
theorem zli(i x:Nat)(w:World)(h0:1<=i)(m:i<=4)(r:GT w)(hx:x<18446744073709551616^16)(hc:decide (x<gQ i)=true):Sy.Fn Tryz.prog 109 [.int .i64 (i:Int),zr x] w No (zjo i x):=by
 refine zt Tryz.func109 Tryz.ntmps109 ?_;have G:=zd x;have C:=λq (A:Keep No w q)=>zmF i x 190 (λy=>decide (y<gQ i)) q h0 m (r.to A) hx (en rfl) (λj=>zea _ _ _ x j (zcb i h0 m) hx) hc (AI (of_decide_eq_true hc) (zyq i));unfold zjo at*;repeat' (first|refine s_0 ?_|refine zf 0 ?_;refine zW ?_;intro _|refine q_k 1 ?_;refine q_v (ze (B:=zg x)) ?_;(refine q_s (zi (hc:=zu C)) ?_;rintro _ _ ⟨R,rfl,E,F,rfl,rfl⟩);refine zb ?_)
 exact zU rfl (zh rfl) (zh rfl) q_h ⟨_,_,rfl,rfl⟩
theorem zmJ(z:Int)(f:Nat)(a:Option Addr)(n c:Nat)(w:World)(hz:¬(1<=z/\z<=4)):q_G 210 [.int .i64 z,.slice a n c,.func (.func f) #[] #[]] w (.tuple #[zr 0,.int .i64 2]):=by
 refine zt Tryz.func210 Tryz.ntmps210 ?_;have j:=z9 0 0 0;have m:=zd 0;repeat' (first|refine s_t ?_|refine zf 0 ?_;refine zW ?_;intro _|refine q_k 1 ?_;refine q_v (za (hc:=λ_ _ _ _=>(zh9 z _ hz))) ?_;refine zb ?_;refine zj ?_;intro _;refine q_y (zC (B:=zai 0 0 0) (hv:=za5 0 0 0) (h1:=(z9 0 0 0).symm)) ?_|refine q_k 2 ?_;refine zaA ?_;refine zb ?_|refine zf 3 ?_;refine q_x zdk ?_;refine q_y (zl (n:=0)) ?_)
 exact zU rfl (zB (B:=zg 0) rfl (ty rfl) rfl Ev Et (zd _).symm) (zh rfl) Er ⟨rfl,rfl⟩
theorem zjY(i f:Nat)(a:Option Addr)(n c:Nat)(w:World)(h0:1<=i)(j:i<=4)(C:GT w)(hn:n<gL i):q_G 210 [.int .i64 (i:Int),.slice a n c,.func (.func f) #[] #[]] w (.tuple #[zr 0,.int .i64 4]):=by
 refine zt Tryz.func210 Tryz.ntmps210 ?_;have K:=zcg i h0 j;have E:=zcb i h0 j;have G:=zbR i h0 j;have H:=zbH i h0 j;have m:=λA (F:Keep No w A)=>zcO i A h0 j (C.to F);generalize gL i=l,gQ i=q,gP i=p at*;have L:=z9 p q l;have M:=zd p;have N:=zd q;have O:=zd 0;have I:=zck p q l;have J:=zcl p q l;have r:=zcS p q l;have g1:decide ((n:Int)<(l:Int))=true:=q_d;repeat' (first|refine s_t ?_|refine zf 0 ?_;refine zW ?_;intro _|refine q_k 1 ?_;refine q_v (za (hc:=zu m)) ?_;refine zb ?_;refine zj ?_;intro _;refine q_y (zC (B:=zai p q l) (hv:=za5 p q l) (h1:=(z9 p q l).symm)) ?_|refine q_k 2 ?_;refine zaA ?_;refine zb ?_|refine q_k 4 ?_;refine q_v (zL (hv:=r)) ?_;refine q_x (zo (hr:=g1)) ?_|refine zf 5 ?_;refine q_v zdk ?_;refine q_y (zl (n:=0)) ?_)
 exact zU rfl (zB (B:=zg 0) rfl (ty rfl) rfl Ev Et (zd _).symm) (zh rfl) Er ⟨rfl,rfl⟩
theorem zkO(i f:Nat)(a:Option Addr)(n c:Nat)(w:World)(h0:1<=i)(j:i<=4)(C:GT w)(hn:gL i<n):q_G 210 [.int .i64 (i:Int),.slice a n c,.func (.func f) #[] #[]] w (.tuple #[zr 0,.int .i64 5]):=by
 refine zt Tryz.func210 Tryz.ntmps210 ?_;have K:=zcg i h0 j;have E:=zcb i h0 j;have G:=zbR i h0 j;have H:=zbH i h0 j;have r:=λA (F:Keep No w A)=>zcO i A h0 j (C.to F);generalize gL i=l,gQ i=q,gP i=p at*;have L:=z9 p q l;have M:=zd p;have N:=zd q;have O:=zd 0;have I:=zck p q l;have J:=zcl p q l;have m:=zcS p q l;have g1:decide ((n:Int)<(l:Int))=false:=q_f;have g2:decide ((n:Int)>(l:Int))=true:=q_d;repeat' (first|refine s_t ?_|refine zf 0 ?_;refine zW ?_;intro _|refine q_k 1 ?_;refine q_v (za (hc:=zu r)) ?_;refine zb ?_;refine zj ?_;intro _;refine q_y (zC (B:=zai p q l) (hv:=za5 p q l) (h1:=(z9 p q l).symm)) ?_|refine q_k 2 ?_;refine zaA ?_;refine zb ?_|refine q_k 4 ?_;refine q_v (zL (hv:=m)) ?_;refine q_x (zo (hr:=g1)) ?_|refine q_k 6 ?_;refine q_v (zL (hv:=m)) ?_;refine q_x (zH (hr:=g2)) ?_|refine zf 7 ?_;refine q_v zdk ?_;refine q_y (zl (n:=0)) ?_)
 exact zU rfl (zB (B:=zg 0) rfl (ty rfl) rfl Ev Et (zd _).symm) (zh rfl) Er ⟨rfl,rfl⟩
theorem zns(i f:Nat)(cond:Nat->Bool)(a:Option Addr)(n c:Nat)(m:List UInt8)(w:World)(h0:1<=i)(r:i<=4)(N:GT w)(hn:n=gL i)(Q:m.length=n)(C:n<=c)(hb:SlA w a (m.map v8))(I:∀args w,(callFunc f args).run Tryz.prog w= .ok (.enter f args) w)(J:∀x,x<18446744073709551616^16->∀j,q_G f [zcE (gP i) (gQ i) (gL i),zr x] j (.bool (cond x)))(hc:cond (bev 256 (bn m))=false):
  q_G 210 [.int .i64 (i:Int),.slice a n c,.func (.func f) #[] #[]] w (.tuple #[zr 0,.int .i64 3]):=by
 refine zt Tryz.func210 Tryz.ntmps210 ?_;have M:=(zfY i h0 r).2;have W:=zcg i h0 r;have O:=zcb i h0 r;have R:=zbR i h0 r;have S:=zbH i h0 r;have K:=λj (H:Keep No w j)=>zcO i j h0 r (N.to H);generalize gL i=l,gQ i=q,gP i=p at*;have Y:=z9 p q l;have Z:=zd p;have lq:=zd q;have lz:=zd 0;have T:=zck p q l;have U:=zcl p q l;have F:=zcS p q l;have G:bev 256 (bn m)<18446744073709551616^16:=by
  rw[zhm 256 8 128 rfl rfl];refine AI (ze6 256 (bn m) (zhY m)) ?_;rw[show(bn m).length=m.length from A0 _];exact AB q_e q_o
 have E:=λj (H:Keep No w j)=>zcq a n c m j Q C (hb.to H (λ_ h=> .inr h)).sla q_o;rw[if_pos G] at E;have J:=J _ G;have g1:decide ((n:Int)<(l:Int))=false:=q_f;have g2:decide ((n:Int)>(l:Int))=false:=q_f;generalize bev 256 (bn m)=x at*;have lx:=zd x;have A:=λj L (h:j.rangeAt L 0 (zae [x]))=>zjO p q l f x L cond j I J h;simp only[hc,Dx,if_false] at A;repeat' (first|refine s_t ?_|refine zf 0 ?_;refine zW ?_;intro _|refine q_k 1 ?_;refine q_v (za (hc:=zu K)) ?_;refine zb ?_;refine zj ?_;intro _;refine q_y (zC (B:=zai p q l) (hv:=za5 p q l) (h1:=(z9 p q l).symm)) ?_|refine q_k 2 ?_;refine zaA ?_;refine zb ?_|refine q_k 4 ?_;refine q_v (zL (hv:=F)) ?_;refine q_x (zo (hr:=g1)) ?_|refine q_k 6 ?_;refine q_v (zL (hv:=F)) ?_;refine q_x (zH (hr:=g2)) ?_|refine q_k 8 ?_;refine q_v (za (hc:=zu E)) ?_;refine zb ?_;refine zj ?_;intro _;refine q_y (zl (n:=x)) ?_|refine zf 9 ?_;refine q_x (ze (B:=zai p q l)) ?_;refine q_v (ze (B:=zg x)) ?_|refine q_k 10 ?_;refine zaA ?_|refine zf 11 ?_;refine q_x zdk ?_;refine q_y (zl (n:=0)) ?_|refine q_s (zb3 (x:=x)) ?_;rintro _ _ ⟨V,rfl,rfl⟩|(refine zy ?_;first|refine q_v (za (hc:=λj X H P=>A j _ (zp (P.has (by exact Ey F1)) Et))) ?_|refine zw ?_|fail)|fail)
 exact zU rfl (zB (B:=zg 0) rfl (ty rfl) rfl Ev Et (zd _).symm) (zh rfl) Er ⟨rfl,rfl⟩
theorem znW(i f:Nat)(cond:Nat->Bool)(a:Option Addr)(n c:Nat)(m:List UInt8)(w:World)(h0:1<=i)(r:i<=4)(N:GT w)(hn:n=gL i)(Q:m.length=n)(C:n<=c)(hb:SlA w a (m.map v8))(I:∀args w,(callFunc f args).run Tryz.prog w= .ok (.enter f args) w)(J:∀x,x<18446744073709551616^16->∀j,q_G f [zcE (gP i) (gQ i) (gL i),zr x] j (.bool (cond x)))(hc:cond (bev 256 (bn m))=true):
  q_G 210 [.int .i64 (i:Int),.slice a n c,.func (.func f) #[] #[]] w (.tuple #[zr (bev 256 (bn m)),.int .i64 0]):=by
 refine zt Tryz.func210 Tryz.ntmps210 ?_;have M:=(zfY i h0 r).2;have W:=zcg i h0 r;have O:=zcb i h0 r;have R:=zbR i h0 r;have S:=zbH i h0 r;have K:=λj (H:Keep No w j)=>zcO i j h0 r (N.to H);generalize gL i=l,gQ i=q,gP i=p at*;have Y:=z9 p q l;have Z:=zd p;have lq:=zd q;have lz:=zd 0;have T:=zck p q l;have U:=zcl p q l;have F:=zcS p q l;have G:bev 256 (bn m)<18446744073709551616^16:=by
  rw[zhm 256 8 128 rfl rfl];refine AI (ze6 256 (bn m) (zhY m)) ?_;rw[show(bn m).length=m.length from A0 _];exact AB q_e q_o
 have E:=λj (H:Keep No w j)=>zcq a n c m j Q C (hb.to H (λ_ h=> .inr h)).sla q_o;rw[if_pos G] at E;have J:=J _ G;have g1:decide ((n:Int)<(l:Int))=false:=q_f;have g2:decide ((n:Int)>(l:Int))=false:=q_f;generalize bev 256 (bn m)=x at*;have lx:=zd x;have A:=λj L (h:j.rangeAt L 0 (zae [x]))=>zjO p q l f x L cond j I J h;simp only[hc,if_true] at A;repeat' (first|refine s_t ?_|refine zf 0 ?_;refine zW ?_;intro _|refine q_k 1 ?_;refine q_v (za (hc:=zu K)) ?_;refine zb ?_;refine zj ?_;intro _;refine q_y (zC (B:=zai p q l) (hv:=za5 p q l) (h1:=(z9 p q l).symm)) ?_|refine q_k 2 ?_;refine zaA ?_;refine zb ?_|refine q_k 4 ?_;refine q_v (zL (hv:=F)) ?_;refine q_x (zo (hr:=g1)) ?_|refine q_k 6 ?_;refine q_v (zL (hv:=F)) ?_;refine q_x (zH (hr:=g2)) ?_|refine q_k 8 ?_;refine q_v (za (hc:=zu E)) ?_;refine zb ?_;refine zj ?_;intro _;refine q_y (zl (n:=x)) ?_|refine zf 9 ?_;refine q_x (ze (B:=zai p q l)) ?_;refine q_v (ze (B:=zg x)) ?_|refine q_k 10 ?_;refine zaA ?_|refine zf 12 ?_;refine q_v (ze (B:=zg x)) ?_;refine q_y (zl (n:=x)) ?_|refine q_s (zb3 (x:=x)) ?_;rintro _ _ ⟨V,rfl,rfl⟩|(refine zy ?_;first|refine q_v (za (hc:=λj X H P=>A j _ (zp (P.has (by exact Ey F1)) Et))) ?_|refine zw ?_|fail)|fail)
 exact zU rfl (zB (B:=zg x) rfl (ty rfl) rfl Ev Et (zd _).symm) (zh rfl) Er ⟨rfl,rfl⟩
theorem zn1(z:Int)(a:Option Addr)(n c:Nat)(w:World)(hz:¬(1<=z/\z<=4)):q_G 128 [.int .i64 z,.slice a n c] w (.tuple #[zr 0,.int .i64 2]):=by
 refine zt Tryz.func128 Tryz.ntmps128 ?_;have m:=λj (_:Keep No w j)=>zmJ z 188 a n c j hz;have q:=zd 0;repeat' (first|refine s_0 ?_|refine zf 0 ?_;refine zW ?_;intro _|refine q_k 1 ?_;refine q_v (za (hc:=zu m)) ?_;refine zb ?_;refine q_y (zl (n:=0)) ?_)
 exact zU rfl (zB (B:=zg 0) rfl (ty rfl) rfl Ev Et (zd _).symm) (zh rfl) Er ⟨rfl,rfl⟩
theorem zlE(i:Nat)(a:Option Addr)(n c:Nat)(w:World)(h0:1<=i)(m:i<=4)(q:GT w)(hn:n<gL i):q_G 128 [.int .i64 (i:Int),.slice a n c] w (.tuple #[zr 0,.int .i64 4]):=by
 refine zt Tryz.func128 Tryz.ntmps128 ?_;have A:=λj (r:Keep No w j)=>zjY i 188 a n c j h0 m (q.to r) hn;have C:=zd 0;repeat' (first|refine s_0 ?_|refine zf 0 ?_;refine zW ?_;intro _|refine q_k 1 ?_;refine q_v (za (hc:=zu A)) ?_;refine zb ?_;refine q_y (zl (n:=0)) ?_)
 exact zU rfl (zB (B:=zg 0) rfl (ty rfl) rfl Ev Et (zd _).symm) (zh rfl) Er ⟨rfl,rfl⟩
theorem zmW(i:Nat)(a:Option Addr)(n c:Nat)(w:World)(h0:1<=i)(m:i<=4)(q:GT w)(hn:gL i<n):q_G 128 [.int .i64 (i:Int),.slice a n c] w (.tuple #[zr 0,.int .i64 5]):=by
 refine zt Tryz.func128 Tryz.ntmps128 ?_;have A:=λj (r:Keep No w j)=>zkO i 188 a n c j h0 m (q.to r) hn;have C:=zd 0;repeat' (first|refine s_0 ?_|refine zf 0 ?_;refine zW ?_;intro _|refine q_k 1 ?_;refine q_v (za (hc:=zu A)) ?_;refine zb ?_;refine q_y (zl (n:=0)) ?_)
 exact zU rfl (zB (B:=zg 0) rfl (ty rfl) rfl Ev Et (zd _).symm) (zh rfl) Er ⟨rfl,rfl⟩
theorem zpw(i:Nat)(a:Option Addr)(n c:Nat)(m:List UInt8)(w:World)(h0:1<=i)(q:i<=4)(E:GT w)(hn:n=gL i)(F:m.length=n)(j:n<=c)(hb:SlA w a (m.map v8))(hc:zaH (gP i) (gQ i) (bev 256 (bn m))=false):q_G 128 [.int .i64 (i:Int),.slice a n c] w (.tuple #[zr 0,.int .i64 3]):=by
 refine zt Tryz.func128 Tryz.ntmps128 ?_;have G:=λC (A:Keep No w C)=>zns i 188 (zaH (gP i) (gQ i)) a n c m C h0 q (E.to A) hn F j (hb.to A (λ_ h=> .inr h)).sla (en rfl) (λx H r=>zfb _ _ _ x r (zcg i h0 q) (zcb i h0 q) (by have:=zbR i h0 q;omega) H) hc;have I:=zd 0;repeat' (first|refine s_0 ?_|refine zf 0 ?_;refine zW ?_;intro _|refine q_k 1 ?_;refine q_v (za (hc:=zu G)) ?_;refine zb ?_;refine q_y (zl (n:=0)) ?_)
 exact zU rfl (zB (B:=zg 0) rfl (ty rfl) rfl Ev Et (zd _).symm) (zh rfl) Er ⟨rfl,rfl⟩
theorem zpg(i:Nat)(a:Option Addr)(n c:Nat)(j:List UInt8)(w:World)(h0:1<=i)(q:i<=4)(E:GT w)(hn:n=gL i)(F:j.length=n)(m:n<=c)(hb:SlA w a (j.map v8))(hc:zaH (gP i) (gQ i) (bev 256 (bn j))=true):q_G 128 [.int .i64 (i:Int),.slice a n c] w (.tuple #[zr (bev 256 (bn j)),.int .i64 0]):=by
 refine zt Tryz.func128 Tryz.ntmps128 ?_;have G:=λC (A:Keep No w C)=>znW i 188 (zaH (gP i) (gQ i)) a n c j C h0 q (E.to A) hn F m (hb.to A (λ_ h=> .inr h)).sla (en rfl) (λx H r=>zfb _ _ _ x r (zcg i h0 q) (zcb i h0 q) (by have:=zbR i h0 q;omega) H) hc;have I:=zd (bev 256 (bn j));generalize bev 256 (bn j)=x at*;repeat' (first|refine s_0 ?_|refine zf 0 ?_;refine zW ?_;intro _|refine q_k 1 ?_;refine q_v (za (hc:=zu G)) ?_;refine zb ?_;refine q_y (zl (n:=x)) ?_)
 exact zU rfl (zB (B:=zg x) rfl (ty rfl) rfl Ev Et (zd _).symm) (zh rfl) Er ⟨rfl,rfl⟩
theorem zpa(z:Int)(a:Option Addr)(n c:Nat)(w:World)(hz:¬(1<=z/\z<=4)):q_G 179 [.int .i64 z,.slice a n c] w (.tuple #[zr 0,.int .i64 2]):=by
 refine zt Tryz.func179 Tryz.ntmps179 ?_;have m:=λj (_:Keep No w j)=>zmJ z 190 a n c j hz;have q:=zd 0;repeat' (first|refine s_0 ?_|refine zf 0 ?_;refine zW ?_;intro _|refine q_k 1 ?_;refine q_v (za (hc:=zu m)) ?_;refine zb ?_;refine q_y (zl (n:=0)) ?_)
 exact zU rfl (zB (B:=zg 0) rfl (ty rfl) rfl Ev Et (zd _).symm) (zh rfl) Er ⟨rfl,rfl⟩
theorem zmV(i:Nat)(a:Option Addr)(n c:Nat)(w:World)(h0:1<=i)(m:i<=4)(q:GT w)(hn:n<gL i):q_G 179 [.int .i64 (i:Int),.slice a n c] w (.tuple #[zr 0,.int .i64 4]):=by
 refine zt Tryz.func179 Tryz.ntmps179 ?_;have A:=λj (r:Keep No w j)=>zjY i 190 a n c j h0 m (q.to r) hn;have C:=zd 0;repeat' (first|refine s_0 ?_|refine zf 0 ?_;refine zW ?_;intro _|refine q_k 1 ?_;refine q_v (za (hc:=zu A)) ?_;refine zb ?_;refine q_y (zl (n:=0)) ?_)
 exact zU rfl (zB (B:=zg 0) rfl (ty rfl) rfl Ev Et (zd _).symm) (zh rfl) Er ⟨rfl,rfl⟩
theorem znw(i:Nat)(a:Option Addr)(n c:Nat)(w:World)(h0:1<=i)(m:i<=4)(q:GT w)(hn:gL i<n):q_G 179 [.int .i64 (i:Int),.slice a n c] w (.tuple #[zr 0,.int .i64 5]):=by
 refine zt Tryz.func179 Tryz.ntmps179 ?_;have A:=λj (r:Keep No w j)=>zkO i 190 a n c j h0 m (q.to r) hn;have C:=zd 0;repeat' (first|refine s_0 ?_|refine zf 0 ?_;refine zW ?_;intro _|refine q_k 1 ?_;refine q_v (za (hc:=zu A)) ?_;refine zb ?_;refine q_y (zl (n:=0)) ?_)
 exact zU rfl (zB (B:=zg 0) rfl (ty rfl) rfl Ev Et (zd _).symm) (zh rfl) Er ⟨rfl,rfl⟩
theorem zq4(i:Nat)(a:Option Addr)(n c:Nat)(m:List UInt8)(w:World)(h0:1<=i)(r:i<=4)(E:GT w)(hn:n=gL i)(F:m.length=n)(j:n<=c)(hb:SlA w a (m.map v8))(hc:decide (bev 256 (bn m)<gQ i)=false):q_G 179 [.int .i64 (i:Int),.slice a n c] w (.tuple #[zr 0,.int .i64 3]):=by
 refine zt Tryz.func179 Tryz.ntmps179 ?_;have G:=λC (A:Keep No w C)=>zns i 190 (λy=>decide (y<gQ i)) a n c m C h0 r (E.to A) hn F j (hb.to A (λ_ h=> .inr h)).sla (en rfl) (λx H q=>zea _ _ _ x q (zcb i h0 r) H) hc;have I:=zd 0;repeat' (first|refine s_0 ?_|refine zf 0 ?_;refine zW ?_;intro _|refine q_k 1 ?_;refine q_v (za (hc:=zu G)) ?_;refine zb ?_;refine q_y (zl (n:=0)) ?_)
 exact zU rfl (zB (B:=zg 0) rfl (ty rfl) rfl Ev Et (zd _).symm) (zh rfl) Er ⟨rfl,rfl⟩
theorem zqG(i:Nat)(a:Option Addr)(n c:Nat)(j:List UInt8)(w:World)(h0:1<=i)(r:i<=4)(E:GT w)(hn:n=gL i)(F:j.length=n)(m:n<=c)(hb:SlA w a (j.map v8))(hc:decide (bev 256 (bn j)<gQ i)=true):q_G 179 [.int .i64 (i:Int),.slice a n c] w (.tuple #[zr (bev 256 (bn j)),.int .i64 0]):=by
 refine zt Tryz.func179 Tryz.ntmps179 ?_;have G:=λC (A:Keep No w C)=>znW i 190 (λy=>decide (y<gQ i)) a n c j C h0 r (E.to A) hn F m (hb.to A (λ_ h=> .inr h)).sla (en rfl) (λx H q=>zea _ _ _ x q (zcb i h0 r) H) hc;have I:=zd (bev 256 (bn j));generalize bev 256 (bn j)=x at*;repeat' (first|refine s_0 ?_|refine zf 0 ?_;refine zW ?_;intro _|refine q_k 1 ?_;refine q_v (za (hc:=zu G)) ?_;refine zb ?_;refine q_y (zl (n:=x)) ?_)
 exact zU rfl (zB (B:=zg x) rfl (ty rfl) rfl Ev Et (zd _).symm) (zh rfl) Er ⟨rfl,rfl⟩
theorem zpp(z:Int)(a:Option Addr)(n c:Nat)(w:World)(hz:¬(1<=z/\z<=4)):q_G 100 [.int .i64 z,.slice a n c] w (.tuple #[zr 0,.int .i64 2]):=by
 refine zt Tryz.func100 Tryz.ntmps100 ?_;have r:=zd 0;have q:=z9 0 0 0;have j:=zck 0 0 0;have m:=zcl 0 0 0;repeat' (first|refine s_0 ?_|refine zf 0 ?_;refine zW ?_;intro _|refine q_k 1 ?_;refine q_v (za (hc:=λ_ _ _ _=>(zh9 z _ hz))) ?_;refine zb ?_;refine zj ?_;intro _;refine q_y (zC (B:=zai 0 0 0) (hv:=za5 0 0 0) (h1:=(z9 0 0 0).symm)) ?_|refine q_k 2 ?_;refine zaA ?_|refine zf 3 ?_;refine q_x zdk ?_;refine q_y (zl (n:=0)) ?_)
 exact zU rfl (zB (B:=zg 0) rfl (ty rfl) rfl Ev Et (zd _).symm) (zh rfl) Er ⟨rfl,rfl⟩
theorem zk7(i:Nat)(a:Option Addr)(n c:Nat)(r:List UInt8)(w:World)(h0:1<=i)(Z:i<=4)(hG:GT w)(hl:r.length=n)(c4:n<=c)(c6:n<1000000)(hb:SlA w a (r.map v8)):
  q_G 100 [.int .i64 (i:Int),.slice a n c] w (.tuple #[zr (bev 256 (bn r)%gQ i),.int .i64 0]):=by
 refine zt Tryz.func100 Tryz.ntmps100 ?_;have hW:=zcg i h0 Z;have G:=zcb i h0 Z;have c8:=zbR i h0 Z;have c9:=zbH i h0 Z;have a9:=λE (Y:Keep No w E)=>zcO i E h0 Z (hG.to Y);generalize gL i=l,gQ i=q,gP i=p at*;have lS:=z9 p q l;have lp:=zd p;have lq:=zd q;have lz:=zd 0;have d9:=zck p q l;have T:=zcl p q l;have d8:=zcS p q l;have M:0<q:=q_o;have a6:256^32<18446744073709551616^16:=by
  rw[zhm 256 8 128 rfl rfl];exact Nat.pow_lt_pow_right q_e q_e
 have I:=λE aR cR (h:SlA E aR ((1::List.replicate 32 0:List UInt8).map v8)) (hc:32+1<=cR)=>zcq aR (32+1) cR (1::List.replicate 32 0) E q_p hc h q_o;rw[zl9,if_pos a6] at I;have hys: [Value.int IntKind.u8 1]++List.replicate 32 (Value.int IntKind.u8 0)=(1::List.replicate 32 0:List UInt8).map v8:=by
  rw[Aw,BT];rfl
 have lr:=zd (256^32);generalize c1:256^32=A at*;obtain⟨f,hf⟩:∃f,f=n%32:=⟨_,rfl⟩;have c5:f<32:=by rw[hf];exact AC _ q_e
 have c7:f<=n:=by rw[hf];exact EH _ _
 obtain⟨k,Y⟩:∃k,n=f+32*k:=⟨n/32,by rw[hf];have:=Aa n 32;omega⟩;have b1:(n:Int).tmod 32=((f:Nat):Int):=by rw[hf];exact zeq n 32
 have C:∀D:List UInt8,D.length<=32->bev 256 (bn D)<18446744073709551616^16:=λD hD=>by
  rw[zhm 256 8 128 rfl rfl];refine AI (ze6 256 (bn D) (zhY D)) ?_;rw[show(bn D).length=D.length from A0 _];exact AB q_e q_o
 have Q:=λE (Y:Keep No w E)=>zcq a f f (r.take f) E (by rw[AR];omega) (A6 _) (by rw[C9];exact((hb.to Y (λ_ h=> .inr h)).sla).take _) q_o;rw[if_pos (C (r.take f) (by rw[AR];omega))] at Q;have L:=C (r.take f) (by rw[AR];omega);have F:=λE=>ztv (bev 256 (bn (r.take f))) q E L G;unfold zcC at F;simp only[if_neg (show ¬q=0 by omega)] at F;have c2:=zd (bev 256 (bn (r.take f)));have c3:=zd (bev 256 (bn (r.take f))%q);clear hf;repeat' (first|refine s_0 ?_|refine zf 0 ?_;refine zW ?_;intro _|refine q_k 1 ?_;refine q_v (za (hc:=zu a9)) ?_;refine zb ?_;refine zj ?_;intro _;refine q_y (zC (B:=zai p q l) (hv:=za5 p q l) (h1:=(z9 p q l).symm)) ?_|refine q_k 2 ?_;refine zaA ?_|refine zf 4 ?_;(refine q_s zz ?_;rintro _ _ ⟨_,rfl,rfl⟩);(refine q_s (Fp (zeb (n:=1) (s:=1) (by repeat (first|exact Es|apply Eu)) rfl (by unfold maxLen;omega)) (zle (k:=1) (m:=32) (km:=32+1) (hm:=rfl) (hL:=Es) (hkm:=rfl) (hys:=hys))) ?_;rintro _ _ ⟨rfl,aR,cR,rfl⟩);refine q_v (za (hc:=λE _ _ hh=>I E _ _ (zas hh q_h) (FJ (n:=32+1) hh q_h))) ?_;refine zb ?_;refine zj ?_;intro _;refine q_y (zl (n:=A)) ?_|refine q_k 5 ?_;refine q_x (zbE (hr:=b1)) ?_)
 rename_i V W wx X;refine FE (fr':=[(1,.slice a n c),(4,.pointer (some ⟨V,0,none⟩)),(6,.pointer (some ⟨W,0,none⟩)),(8,.pointer (some ⟨X,0,none⟩)),(10,.int .i64 f)]) (L':=[.blk X 133 (zg A),.blk W 194 (zai p q l),.blk V 133 (List.replicate 16 (Value.int IntKind.u64 0))]) ?_ q_h q_h;clear I hys a9;generalize b2:bev 256 (bn (r.take f))=d0 at*;generalize b9:d0%q=r0 at*;repeat' (first|refine s_t ?_|refine q_k 6 ?_;refine q_v (zb8 (l:=0) (h:=f) (m:=f) (n':=f) (c':=f)) ?_;refine q_v (za (hc:=zu Q)) ?_;refine zb ?_;refine zj ?_;intro _;refine q_y (zl (n:=d0)) ?_|refine zf 7 ?_;refine q_x (ze (B:=zg d0)) ?_;refine q_v (ze (B:=zg q) (hv:=T)) ?_;refine q_v (za (hc:=q_c F)) ?_;refine zb ?_;refine q_n (zl (n:=r0)) ?_|refine q_k 8 ?_)
 rename_i J;refine zN (γ:=Nat) (λj=>[(1,.slice a n c),(4,.pointer (some ⟨V,0,none⟩)),(6,.pointer (some ⟨W,0,none⟩)),(8,.pointer (some ⟨X,0,none⟩)),(11,.pointer (some ⟨J,0,none⟩)),(13,.int .i64 ((f+32*j:Nat):Int))])
  (λj=>[.blk J 133 (zg (bev 256 (bn (r.take (f+32*j)))%q)),.blk X 133 (zg A),.blk W 194 (zai p q l),.blk V 133 (List.replicate 16 (Value.int IntKind.u64 0))])
  (λj=>j<=k) (λj=>k-j) 0 (A9 _) ?_ ?_ ?_
 ·exact q_h
 ·show SubR [.blk J 133 (zg (bev 256 (bn (r.take f))%q)),.blk X 133 (zg A),.blk W 194 (zai p q l),.blk V 133 (List.replicate 16 (Value.int IntKind.u64 0))] _;rw[b2,b9];exact q_h
 clear Q F c2 c3 L;intro j hj;rcases AF j k with h|h
 ·have S:decide (((f+32*j:Nat):Int)<(n:Int))=true:=q_d;have H:IntKind.i64.wrap (((f+32*j:Nat):Int)+32)=((f+32*j+32:Nat):Int):=q_w;have O:=zmA r (f+32*j) 32 q_o;rw[c1] at O;have b3:((r.take (f+32*j+32)).drop (f+32*j)).length=32:=by rw[Ar,AR];omega
  have a7:=C ((r.take (f+32*j+32)).drop (f+32*j)) q_o;have a8:=λE (Y:Keep No w E)=>zcq (zbw a (f+32*j) (f+32*j+32) 1) 32 32 ((r.take (f+32*j+32)).drop (f+32*j)) E b3 (A6 _) (by
   rw[CX,C9];exact(((hb.to Y (λ_ h=> .inr h)).sla).take _).mov (by rw[AR];omega)) q_o
  rw[if_pos a7] at a8;have U:=zsx q (bev 256 (bn (r.take (f+32*j)))) A (bev 256 (bn ((r.take (f+32*j+32)).drop (f+32*j))));rw[<-O] at U;have c0:=Ai (AC (bev 256 (bn (r.take (f+32*j)))) M) G;generalize bev 256 (bn (r.take (f+32*j)))%q=N,bev 256 (bn ((r.take (f+32*j+32)).drop (f+32*j)))=d at*;have hM:=λE=>zlH N A q E c0 a6 G;have b7:=Ai (AC (N*A) M) G;have hA:=λE=>zqf (N*A%q) d q E b7 a7 G;unfold zcC at hM hA;simp only[if_neg (show ¬q=0 by omega)] at hM hA;rw[U] at hA;have l1:=zd N;have l2:=zd d;have l3:=zd (N*A%q);have K:bev 256 (bn (r.take (f+32*(j+1))))%q=bev 256 (bn (r.take (f+32*j+32)))%q:=by rw[show f+32*(j+1)=f+32*j+32 by omega]
  have b5:((f+32*(j+1):Nat):Int)=((f+32*j+32:Nat):Int):=q_o;rw[<-K] at hA;have l4:=zd (bev 256 (bn (r.take (f+32*(j+1))))%q);clear U O K;generalize N*A%q=P,b0:bev 256 (bn (r.take (f+32*(j+1))))%q=R1 at*;repeat' (first|refine s_t ?_|refine q_k 9 ?_;refine q_v (zo (hr:=S)) ?_|refine q_k 11 ?_;refine q_x (zF (hr:=H)) ?_;refine q_v (zF (hr:=H)) ?_;refine q_v (zb8 (l:=f+32*j) (h:=f+32*j+32) (m:=f+32*j+32) (n':=32) (c':=32) (hn':=by omega) (hc':=by omega)) ?_;refine q_v (za (hc:=zu a8)) ?_;refine zb ?_;refine zj ?_;intro _;refine q_y (zl (n:=d)) ?_|refine zf 12 ?_;refine q_v (ze (B:=zg N)) ?_;refine q_x (ze (B:=zg A)) ?_;refine q_v (ze (B:=zg q) (hv:=T)) ?_;refine q_v (za (hc:=q_c hM)) ?_;refine zb ?_;refine q_n (zl (n:=P)) ?_|refine zf 13 ?_;refine q_v (ze (B:=zg P)) ?_;refine q_x (ze (B:=zg d)) ?_;refine q_v (ze (B:=zg q) (hv:=T)) ?_;refine q_v (za (hc:=q_c hA)) ?_;refine zb ?_;refine q_n (zl (n:=R1)) ?_|refine q_k 10 ?_;refine q_x (zF (hr:=H)) ?_)
  refine zE (j+1) ?_ ?_ ?_ ?_
  ·show j+1<=k;omega
  ·show k-(j+1)<k-j;omega
  ·rw[b5];exact q_h
  ·show SubR [.blk J 133 (zg (bev 256 (bn (r.take (f+32*(j+1))))%q)),.blk X 133 (zg A),.blk W 194 (zai p q l),.blk V 133 (List.replicate 16 (Value.int IntKind.u64 0))] _;rw[b0];exact q_h
 ·obtain rfl:j=k:=q_o;have S:decide (((f+32*j:Nat):Int)<(n:Int))=false:=q_f;rw[A8 q_o];have lR:=zd (bev 256 (bn r)%q);generalize bev 256 (bn r)%q=R at*;repeat' (first|refine s_0 ?_|refine q_k 9 ?_;refine q_v (zo (hr:=S)) ?_|refine zf 14 ?_;refine q_v (ze (B:=zg R)) ?_;refine q_y (zl (n:=R)) ?_)
  exact zU rfl (zB (B:=zg R) rfl (ty rfl) rfl Ev Et (zd _).symm) (zh rfl) Er ⟨rfl,rfl⟩
end
open Go Go.Sy Go.Nt Go.RowKit
attribute [local irreducible] Sy SyL SyX Sy.Fn callFunc zg zae zac iC gP gQ gL zaH zai za7
def za1(z:Int)(l:List UInt8):Nat×Int:=
 if 1<=z/\z<=4 then if l.length<gL z.toNat then (0,4) else if gL z.toNat<l.length then (0,5) else if bev 256 (bn l)<gQ z.toNat then (bev 256 (bn l),0) else (0,3) else (0,2)
def gel(z:Int)(l:List UInt8):Nat×Int:=
 if 1<=z/\z<=4 then if l.length<gL z.toNat then (0,4) else if gL z.toNat<l.length then (0,5) else if zaH (gP z.toNat) (gQ z.toNat) (bev 256 (bn l)) then (bev 256 (bn l),0) else (0,3) else (0,2)
def zaU(z:Int)(l:List UInt8):Nat×Int:=if 1<=z/\z<=4 then (bev 256 (bn l)%gQ z.toNat,0) else (0,2)
def zhq(z:Int):Nat×Int:=if 1<=z/\z<=4 then (gQ z.toNat,0) else (0,2)
def zbh(z:Int):Nat:=if 1<=z/\z<=4 then gL z.toNat else 0
theorem zdf{z:Int}(hz:1<=z/\z<=4):∃i:Nat,z=(i:Int)/\z.toNat=i/\1<=i/\i<=4:=⟨z.toNat,by omega,rfl,by omega,by omega⟩
theorem zw0(z:Int)(l:List UInt8):(zaU z l).1<18446744073709551616^16:=by
 unfold zaU;by_cases hz:1<=z/\z<=4
 ·rw[if_pos hz];obtain⟨i,-,m,h0,j⟩:=zdf hz;rw[m];exact Ai (AC _ (AI q_e (zbH i h0 j))) (zcb i h0 j)
 ·rw[if_neg hz];exact AV q_e
theorem zgt{z:Int}{l:List UInt8}(h:(za1 z l).2=0):(1<=z/\z<=4)/\l.length=gL z.toNat/\bev 256 (bn l)<gQ z.toNat/\(za1 z l).1=bev 256 (bn l):=by
 unfold za1 at h ⊢;by_cases hz:1<=z/\z<=4
 ·rw[if_pos hz] at h ⊢;by_cases h1:l.length<gL z.toNat
  ·rw[if_pos h1] at h;cases h
  rw[if_neg h1] at h ⊢;by_cases h2:gL z.toNat<l.length
  ·rw[if_pos h2] at h;cases h
  rw[if_neg h2] at h ⊢;by_cases h3:bev 256 (bn l)<gQ z.toNat
  ·rw[if_pos h3];exact⟨hz,by omega,h3,rfl⟩
  ·rw[if_neg h3] at h;cases h
 ·rw[if_neg hz] at h;cases h
theorem zkT{z:Int}{l:List UInt8}(h:(gel z l).2=0):(1<=z/\z<=4)/\l.length=gL z.toNat/\zaH (gP z.toNat) (gQ z.toNat) (bev 256 (bn l))=true/\(gel z l).1=bev 256 (bn l):=by
 unfold gel at h ⊢;by_cases hz:1<=z/\z<=4
 ·rw[if_pos hz] at h ⊢;by_cases h1:l.length<gL z.toNat
  ·rw[if_pos h1] at h;cases h
  rw[if_neg h1] at h ⊢;by_cases h2:gL z.toNat<l.length
  ·rw[if_pos h2] at h;cases h
  rw[if_neg h2] at h ⊢;by_cases h3:zaH (gP z.toNat) (gQ z.toNat) (bev 256 (bn l))=true
  ·rw[if_pos h3];exact⟨hz,by omega,h3,rfl⟩
  ·rw[if_neg h3] at h;cases h
 ·rw[if_neg hz] at h;cases h
theorem zpS(z:Int)(l:List UInt8):(za1 z l).1<18446744073709551616^16:=by
 by_cases h:(za1 z l).2=0
 ·obtain⟨m,-,j,w⟩:=zgt h;obtain⟨i,-,B,h0,A⟩:=zdf m;rw[w];rw[B] at j;exact Ai j (zcb i h0 A)
 ·have:(za1 z l).1=0:=by
   unfold za1 at h ⊢;split
   ·rename_i m;rw[if_pos m] at h;split
    ·rfl
    ·rename_i q;rw[if_neg q] at h;split
     ·rfl
     ·rename_i r;rw[if_neg r] at h;split
      ·rename_i j;rw[if_pos j] at h;exact absurd rfl h
      ·rfl
   ·rfl
  rw[this];exact AV q_e
theorem zyx(z:Int)(l:List UInt8):(gel z l).1<18446744073709551616^16:=by
 by_cases h:(gel z l).2=0
 ·obtain⟨m,-,j,w⟩:=zkT h;obtain⟨i,-,B,h0,A⟩:=zdf m;rw[w];rw[B] at j;exact Ai (zej j) (zcg i h0 A)
 ·have:(gel z l).1=0:=by
   unfold gel at h ⊢;split
   ·rename_i m;rw[if_pos m] at h;split
    ·rfl
    ·rename_i q;rw[if_neg q] at h;split
     ·rfl
     ·rename_i r;rw[if_neg r] at h;split
      ·rename_i j;rw[if_pos j] at h;exact absurd rfl h
      ·rfl
   ·rfl
  rw[this];exact AV q_e
theorem zxp(z:Int)(a:Option Addr)(n c:Nat)(j:List UInt8)(w:World)(q:GT w)(r:j.length=n)(hc:n<=c)(hb:SlA w a (j.map v8)):
  q_G 179 [.int .i64 z,.slice a n c] w (.tuple #[zr (za1 z j).1,.int .i64 (za1 z j).2]):=by
 unfold za1;by_cases hz:1<=z/\z<=4
 ·rw[if_pos hz];obtain⟨i,rfl,A,h0,m⟩:=zdf hz;rw[A,r];by_cases h1:n<gL i
  ·rw[if_pos h1];exact zmV i a n c w h0 m q h1
  rw[if_neg h1];by_cases h2:gL i<n
  ·rw[if_pos h2];exact znw i a n c w h0 m q h2
  rw[if_neg h2];by_cases h3:bev 256 (bn j)<gQ i
  ·rw[if_pos h3];exact zqG i a n c j w h0 m q q_o r hc hb (decide_eq_true h3)
  ·rw[if_neg h3];exact zq4 i a n c j w h0 m q q_o r hc hb (decide_eq_false h3)
 ·rw[if_neg hz];exact zpa z a n c w hz
theorem zsO(z:Int)(a:Option Addr)(n c:Nat)(j:List UInt8)(w:World)(q:GT w)(r:j.length=n)(hc:n<=c)(hb:SlA w a (j.map v8)):
  q_G 128 [.int .i64 z,.slice a n c] w (.tuple #[zr (gel z j).1,.int .i64 (gel z j).2]):=by
 unfold gel;by_cases hz:1<=z/\z<=4
 ·rw[if_pos hz];obtain⟨i,rfl,A,h0,m⟩:=zdf hz;rw[A,r];by_cases h1:n<gL i
  ·rw[if_pos h1];exact zlE i a n c w h0 m q h1
  rw[if_neg h1];by_cases h2:gL i<n
  ·rw[if_pos h2];exact zmW i a n c w h0 m q h2
  rw[if_neg h2];by_cases h3:zaH (gP i) (gQ i) (bev 256 (bn j))=true
  ·rw[if_pos h3];exact zpg i a n c j w h0 m q q_o r hc hb h3
  ·rw[if_neg h3];exact zpw i a n c j w h0 m q q_o r hc hb (by simpa using h3)
 ·rw[if_neg hz];exact zn1 z a n c w hz
theorem zwM(z:Int)(a:Option Addr)(n c:Nat)(j:List UInt8)(w:World)(q:GT w)(A:j.length=n)(hc:n<=c)(hn:n<1000000)(hb:SlA w a (j.map v8)):
  q_G 100 [.int .i64 z,.slice a n c] w (.tuple #[zr (zaU z j).1,.int .i64 (zaU z j).2]):=by
 unfold zaU;by_cases hz:1<=z/\z<=4
 ·rw[if_pos hz];obtain⟨i,rfl,r,h0,m⟩:=zdf hz;rw[r];exact zk7 i a n c j w h0 m q A hc hn hb
 ·rw[if_neg hz];exact zpp z a n c w hz
theorem zv9(z:Int)(w:World)(m:GT w):q_G 129 [.int .i64 z] w (.tuple #[zr (zhq z).1,.int .i64 (zhq z).2]):=by
 unfold zhq;by_cases hz:1<=z/\z<=4
 ·rw[if_pos hz];obtain⟨i,rfl,q,h0,j⟩:=zdf hz;rw[q];exact zs0 i w h0 j m
 ·rw[if_neg hz];exact zre z w hz
theorem zok(z:Int)(w:World)(m:GT w):q_G 270 [.int .i64 z] w (.int .i64 ((zbh z:Nat):Int)):=by
 unfold zbh;by_cases hz:1<=z/\z<=4
 ·rw[if_pos hz];obtain⟨i,rfl,q,h0,j⟩:=zdf hz;rw[q];exact zwR i w h0 j m
 ·rw[if_neg hz];exact zu9 z w hz
end Go.Proofs.YtdnlngbjpdbffaaGreatDoor
