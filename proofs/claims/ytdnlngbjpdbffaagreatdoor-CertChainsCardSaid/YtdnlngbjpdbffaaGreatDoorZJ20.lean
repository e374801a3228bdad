/- Lemmas. -/
import Derived.Test.YtdnlngbjpdbffaaGreatDoorZJ19
set_option maxHeartbeats 1000000
set_option maxRecDepth 10000
set_option linter.all false
namespace Go.Nt
open Go Go.Sy
theorem zk5{i x:Nat}(h0:1<=i)(j:i<=4)(h:x<gP i):nd 256 x<=gL i:=by
 rw[<-zlE i h0 j];exact zbj 256 x _ q_e (Ai h (zaV 256 (gP i) q_e))
theorem zeo{p q x:Nat}(h:zaL p q x=true):x<p:=by
 unfold zaL at h;exact(of_decide_eq_true h).2.1
theorem zyS(i:Nat):gQ i<=gP i:=Bz _ _
theorem ztf(q X R d:Nat):(X%q*R%q+d)%q=(X*R+d)%q:=by
 rw[ET,Nat.mod_add_mod]
end Go.Nt
namespace Go.Proofs.YtdnlngbjpdbffaaGreatDoor
section
open Go Go.Sy Go.Nt Go.RowKit
attribute [local irreducible] Sy SyL SyX Sy.Fn callFunc zg zae zag gP gQ gL gS zek zaL
def zjI(i x:Nat)(v:Value)(R:List Res):Prop:=∃a c,v= .tuple #[.slice a (gL i) c,.int .i64 0]/\R= [.row (.slice a (gL i) c) 5 1 (gL i) ((zbc (gL i) x).map v8)]
theorem zmJ(i x f:Nat)(cond:Nat->Bool)(w:World)(h0:1<=i)(m:i<=4)(N:GT w)(hx:x<18446744073709551616^16)(E:∀args w,(callFunc f args).run Tryz.prog w= .ok (.enter f args) w)(P:∀j,q_G f [zcP (gP i) (gQ i) (gL i),zu x] j (.bool (cond x)))(hc:cond x=true)(I:x<gP i):Sy.Fn Tryz.prog 187 [.int .i64 (i:Int),zu x,.func (.func f) #[] #[]] w No (zjI i x):=by
 refine zt Tryz.func187 Tryz.ntmps187 ?_;have lx:=zd x;have J:=zk5 h0 m I;have M:=(zf5 i h0 m).2;unfold zjI;have hW:=zcq i h0 m;have O:=zci i h0 m;have Q:=zbS i h0 m;have S:=zbL i h0 m;have G:=λj (H:Keep No w j)=>zcU i j h0 m (N.to H);generalize gL i=l,gQ i=q,gP i=p at*;have lS:=zaa p q l;have lp:=zd p;have lq:=zd q;have lz:=zd 0;have U:=zct p q l;have V:=zcx p q l;have T:=zc5 p q l;have r:=λj K (h:j.rangeAt K 0 (zae [x]))=>zj4 p q l f x K cond j E P h;simp only[hc,if_true] at r;have A:=λj=>zvl p q l x j hx J q_o;unfold zbK at A;generalize zbc l x=F at*;repeat' (first|refine s_0 ?_|refine zf 0 ?_;refine z9 ?_;intro _|refine q_k 1 ?_;refine q_v (za (hc:=zr G)) ?_;refine zb ?_;refine zk ?_;intro _;refine q_y (zG (B:=zag p q l) (hv:=zbb p q l) (h1:=(zaa p q l).symm)) ?_|refine q_k 2 ?_;refine zaJ ?_|refine zf 4 ?_;refine q_x (ze (B:=zag p q l)) ?_;refine q_v (ze (B:=zg x)) ?_|refine q_k 5 ?_;refine zaJ ?_|refine zf 7 ?_;refine q_v (ze (B:=zag p q l)) ?_;refine q_v (ze (B:=zg x)) ?_;(refine q_s (zi (hc:=λj X H L=>A j)) ?_;rintro _ _ ⟨R,rfl,W,Z,rfl,rfl⟩);refine zb ?_|refine q_s (zcb (x:=x)) ?_;rintro _ _ ⟨Y,rfl,rfl⟩|(refine zx ?_;first|refine q_v (za (hc:=λj X H L=>r j _ (zp (L.has (by exact F1 F5)) Ex))) ?_|refine zw ?_|fail)|fail)
 exact zU rfl (zh rfl) (zh rfl) q_h ⟨_,_,rfl,rfl⟩
theorem zmE(i x:Nat)(w:World)(h0:1<=i)(j:i<=4)(r:GT w)(hx:x<18446744073709551616^16)(hc:zaL (gP i) (gQ i) x=true):Sy.Fn Tryz.prog 104 [.int .i64 (i:Int),zu x] w No (zjI i x):=by
 refine zt Tryz.func104 Tryz.ntmps104 ?_;have H:=zd x;have E:=λq (A:Keep No w q)=>zmJ i x 188 (zaL (gP i) (gQ i)) q h0 j (r.to A) hx (en rfl) (λm=>zfe _ _ _ x m (zcq i h0 j) (zci i h0 j) (by have:=zbS i h0 j;omega) hx) hc (zeo hc);unfold zjI at*;repeat' (first|refine s_0 ?_|refine zf 0 ?_;refine z9 ?_;intro _|refine q_k 1 ?_;refine q_v (ze (B:=zg x)) ?_;(refine q_s (zi (hc:=zr E)) ?_;rintro _ _ ⟨R,rfl,F,G,rfl,rfl⟩);refine zb ?_)
 exact zU rfl (zh rfl) (zh rfl) q_h ⟨_,_,rfl,rfl⟩
theorem zlm(i x:Nat)(w:World)(h0:1<=i)(m:i<=4)(r:GT w)(hx:x<18446744073709551616^16)(hc:decide (x<gQ i)=true):Sy.Fn Tryz.prog 109 [.int .i64 (i:Int),zu x] w No (zjI i x):=by
 refine zt Tryz.func109 Tryz.ntmps109 ?_;have H:=zd x;have E:=λq (A:Keep No w q)=>zmJ i x 190 (λy=>decide (y<gQ i)) q h0 m (r.to A) hx (en rfl) (λj=>zeg _ _ _ x j (zci i h0 m) hx) hc (AK (of_decide_eq_true hc) (zyS i));unfold zjI at*;repeat' (first|refine s_0 ?_|refine zf 0 ?_;refine z9 ?_;intro _|refine q_k 1 ?_;refine q_v (ze (B:=zg x)) ?_;(refine q_s (zi (hc:=zr E)) ?_;rintro _ _ ⟨R,rfl,F,G,rfl,rfl⟩);refine zb ?_)
 exact zU rfl (zh rfl) (zh rfl) q_h ⟨_,_,rfl,rfl⟩
theorem znh(z:Int)(f:Nat)(a:Option Addr)(n c:Nat)(w:World)(hz:¬(1<=z/\z<=4)):q_G 210 [.int .i64 z,.slice a n c,.func (.func f) #[] #[]] w (.tuple #[zu 0,.int .i64 2]):=by
 refine zt Tryz.func210 Tryz.ntmps210 ?_;have j:=zaa 0 0 0;have m:=zd 0;repeat' (first|refine s_t ?_|refine zf 0 ?_;refine z9 ?_;intro _|refine q_k 1 ?_;refine q_v (za (hc:=λ_ _ _ _=>(ziu z _ hz))) ?_;refine zb ?_;refine zk ?_;intro _;refine q_y (zG (B:=zag 0 0 0) (hv:=zbb 0 0 0) (h1:=(zaa 0 0 0).symm)) ?_|refine q_k 2 ?_;refine zaJ ?_;refine zb ?_|refine zf 3 ?_;refine q_x zdt ?_;refine q_y (zl (n:=0)) ?_)
 exact zU rfl (zE (B:=zg 0) rfl (ty rfl) rfl Ey Ex (zd _).symm) (zh rfl) Ev ⟨rfl,rfl⟩
theorem zke(i f:Nat)(a:Option Addr)(n c:Nat)(w:World)(h0:1<=i)(j:i<=4)(E:GT w)(hn:n<gL i):q_G 210 [.int .i64 (i:Int),.slice a n c,.func (.func f) #[] #[]] w (.tuple #[zu 0,.int .i64 4]):=by
 refine zt Tryz.func210 Tryz.ntmps210 ?_;have L:=zcq i h0 j;have F:=zci i h0 j;have H:=zbS i h0 j;have I:=zbL i h0 j;have m:=λA (G:Keep No w A)=>zcU i A h0 j (E.to G);generalize gL i=l,gQ i=q,gP i=p at*;have M:=zaa p q l;have N:=zd p;have O:=zd q;have P:=zd 0;have J:=zct p q l;have K:=zcx p q l;have r:=zc5 p q l;have g1:decide ((n:Int)<(l:Int))=true:=q_d;repeat' (first|refine s_t ?_|refine zf 0 ?_;refine z9 ?_;intro _|refine q_k 1 ?_;refine q_v (za (hc:=zr m)) ?_;refine zb ?_;refine zk ?_;intro _;refine q_y (zG (B:=zag p q l) (hv:=zbb p q l) (h1:=(zaa p q l).symm)) ?_|refine q_k 2 ?_;refine zaJ ?_;refine zb ?_|refine q_k 4 ?_;refine q_v (zM (hv:=r)) ?_;refine q_x (zn (hr:=g1)) ?_|refine zf 5 ?_;refine q_v zdt ?_;refine q_y (zl (n:=0)) ?_)
 exact zU rfl (zE (B:=zg 0) rfl (ty rfl) rfl Ey Ex (zd _).symm) (zh rfl) Ev ⟨rfl,rfl⟩
theorem zlq(i f:Nat)(a:Option Addr)(n c:Nat)(w:World)(h0:1<=i)(j:i<=4)(E:GT w)(hn:gL i<n):q_G 210 [.int .i64 (i:Int),.slice a n c,.func (.func f) #[] #[]] w (.tuple #[zu 0,.int .i64 5]):=by
 refine zt Tryz.func210 Tryz.ntmps210 ?_;have L:=zcq i h0 j;have F:=zci i h0 j;have H:=zbS i h0 j;have I:=zbL i h0 j;have r:=λA (G:Keep No w A)=>zcU i A h0 j (E.to G);generalize gL i=l,gQ i=q,gP i=p at*;have M:=zaa p q l;have N:=zd p;have O:=zd q;have P:=zd 0;have J:=zct p q l;have K:=zcx p q l;have m:=zc5 p q l;have g1:decide ((n:Int)<(l:Int))=false:=q_f;have g2:decide ((n:Int)>(l:Int))=true:=q_d;repeat' (first|refine s_t ?_|refine zf 0 ?_;refine z9 ?_;intro _|refine q_k 1 ?_;refine q_v (za (hc:=zr r)) ?_;refine zb ?_;refine zk ?_;intro _;refine q_y (zG (B:=zag p q l) (hv:=zbb p q l) (h1:=(zaa p q l).symm)) ?_|refine q_k 2 ?_;refine zaJ ?_;refine zb ?_|refine q_k 4 ?_;refine q_v (zM (hv:=m)) ?_;refine q_x (zn (hr:=g1)) ?_|refine q_k 6 ?_;refine q_v (zM (hv:=m)) ?_;refine q_x (zH (hr:=g2)) ?_|refine zf 7 ?_;refine q_v zdt ?_;refine q_y (zl (n:=0)) ?_)
 exact zU rfl (zE (B:=zg 0) rfl (ty rfl) rfl Ey Ex (zd _).symm) (zh rfl) Ev ⟨rfl,rfl⟩
theorem zn5(i f:Nat)(cond:Nat->Bool)(a:Option Addr)(n c:Nat)(m:List UInt8)(w:World)(h0:1<=i)(r:i<=4)(O:GT w)(hn:n=gL i)(R:m.length=n)(E:n<=c)(hb:SlA w a (m.map v8))(J:∀args w,(callFunc f args).run Tryz.prog w= .ok (.enter f args) w)(K:∀x,x<18446744073709551616^16->∀j,q_G f [zcP (gP i) (gQ i) (gL i),zu x] j (.bool (cond x)))(hc:cond (bev 256 (bn m))=false):
  q_G 210 [.int .i64 (i:Int),.slice a n c,.func (.func f) #[] #[]] w (.tuple #[zu 0,.int .i64 3]):=by
 refine zt Tryz.func210 Tryz.ntmps210 ?_;have N:=(zf5 i h0 r).2;have Y:=zcq i h0 r;have P:=zci i h0 r;have S:=zbS i h0 r;have T:=zbL i h0 r;have L:=λj (I:Keep No w j)=>zcU i j h0 r (O.to I);generalize gL i=l,gQ i=q,gP i=p at*;have Z:=zaa p q l;have lp:=zd p;have lq:=zd q;have lz:=zd 0;have U:=zct p q l;have V:=zcx p q l;have G:=zc5 p q l;have H:bev 256 (bn m)<18446744073709551616^16:=by
  rw[zhC 256 8 128 rfl rfl];refine AK (zfn 256 (bn m) (zih m)) ?_;rw[show(bn m).length=m.length from A0 _];exact AB q_e q_o
 have F:=λj (I:Keep No w j)=>zcs a n c m j R E (hb.to I (λ_ h=> .inr h)).sla q_o;rw[if_pos H] at F;have K:=K _ H;have g1:decide ((n:Int)<(l:Int))=false:=q_f;have g2:decide ((n:Int)>(l:Int))=false:=q_f;generalize bev 256 (bn m)=x at*;have lx:=zd x;have A:=λj M (h:j.rangeAt M 0 (zae [x]))=>zj4 p q l f x M cond j J K h;simp only[hc,Dw,if_false] at A;repeat' (first|refine s_t ?_|refine zf 0 ?_;refine z9 ?_;intro _|refine q_k 1 ?_;refine q_v (za (hc:=zr L)) ?_;refine zb ?_;refine zk ?_;intro _;refine q_y (zG (B:=zag p q l) (hv:=zbb p q l) (h1:=(zaa p q l).symm)) ?_|refine q_k 2 ?_;refine zaJ ?_;refine zb ?_|refine q_k 4 ?_;refine q_v (zM (hv:=G)) ?_;refine q_x (zn (hr:=g1)) ?_|refine q_k 6 ?_;refine q_v (zM (hv:=G)) ?_;refine q_x (zH (hr:=g2)) ?_|refine q_k 8 ?_;refine q_v (za (hc:=zr F)) ?_;refine zb ?_;refine zk ?_;intro _;refine q_y (zl (n:=x)) ?_|refine zf 9 ?_;refine q_x (ze (B:=zag p q l)) ?_;refine q_v (ze (B:=zg x)) ?_|refine q_k 10 ?_;refine zaJ ?_|refine zf 11 ?_;refine q_x zdt ?_;refine q_y (zl (n:=0)) ?_|refine q_s (zcb (x:=x)) ?_;rintro _ _ ⟨W,rfl,rfl⟩|(refine zx ?_;first|refine q_v (za (hc:=λj X I Q=>A j _ (zp (Q.has (by exact F1 F5)) Ex))) ?_|refine zw ?_|fail)|fail)
 exact zU rfl (zE (B:=zg 0) rfl (ty rfl) rfl Ey Ex (zd _).symm) (zh rfl) Ev ⟨rfl,rfl⟩
theorem zpf(i f:Nat)(cond:Nat->Bool)(a:Option Addr)(n c:Nat)(m:List UInt8)(w:World)(h0:1<=i)(r:i<=4)(O:GT w)(hn:n=gL i)(R:m.length=n)(E:n<=c)(hb:SlA w a (m.map v8))(J:∀args w,(callFunc f args).run Tryz.prog w= .ok (.enter f args) w)(K:∀x,x<18446744073709551616^16->∀j,q_G f [zcP (gP i) (gQ i) (gL i),zu x] j (.bool (cond x)))(hc:cond (bev 256 (bn m))=true):
  q_G 210 [.int .i64 (i:Int),.slice a n c,.func (.func f) #[] #[]] w (.tuple #[zu (bev 256 (bn m)),.int .i64 0]):=by
 refine zt Tryz.func210 Tryz.ntmps210 ?_;have N:=(zf5 i h0 r).2;have Y:=zcq i h0 r;have P:=zci i h0 r;have S:=zbS i h0 r;have T:=zbL i h0 r;have L:=λj (I:Keep No w j)=>zcU i j h0 r (O.to I);generalize gL i=l,gQ i=q,gP i=p at*;have Z:=zaa p q l;have lp:=zd p;have lq:=zd q;have lz:=zd 0;have U:=zct p q l;have V:=zcx p q l;have G:=zc5 p q l;have H:bev 256 (bn m)<18446744073709551616^16:=by
  rw[zhC 256 8 128 rfl rfl];refine AK (zfn 256 (bn m) (zih m)) ?_;rw[show(bn m).length=m.length from A0 _];exact AB q_e q_o
 have F:=λj (I:Keep No w j)=>zcs a n c m j R E (hb.to I (λ_ h=> .inr h)).sla q_o;rw[if_pos H] at F;have K:=K _ H;have g1:decide ((n:Int)<(l:Int))=false:=q_f;have g2:decide ((n:Int)>(l:Int))=false:=q_f;generalize bev 256 (bn m)=x at*;have lx:=zd x;have A:=λj M (h:j.rangeAt M 0 (zae [x]))=>zj4 p q l f x M cond j J K h;simp only[hc,if_true] at A;repeat' (first|refine s_t ?_|refine zf 0 ?_;refine z9 ?_;intro _|refine q_k 1 ?_;refine q_v (za (hc:=zr L)) ?_;refine zb ?_;refine zk ?_;intro _;refine q_y (zG (B:=zag p q l) (hv:=zbb p q l) (h1:=(zaa p q l).symm)) ?_|refine q_k 2 ?_;refine zaJ ?_;refine zb ?_|refine q_k 4 ?_;refine q_v (zM (hv:=G)) ?_;refine q_x (zn (hr:=g1)) ?_|refine q_k 6 ?_;refine q_v (zM (hv:=G)) ?_;refine q_x (zH (hr:=g2)) ?_|refine q_k 8 ?_;refine q_v (za (hc:=zr F)) ?_;refine zb ?_;refine zk ?_;intro _;refine q_y (zl (n:=x)) ?_|refine zf 9 ?_;refine q_x (ze (B:=zag p q l)) ?_;refine q_v (ze (B:=zg x)) ?_|refine q_k 10 ?_;refine zaJ ?_|refine zf 12 ?_;refine q_v (ze (B:=zg x)) ?_;refine q_y (zl (n:=x)) ?_|refine q_s (zcb (x:=x)) ?_;rintro _ _ ⟨W,rfl,rfl⟩|(refine zx ?_;first|refine q_v (za (hc:=λj X I Q=>A j _ (zp (Q.has (by exact F1 F5)) Ex))) ?_|refine zw ?_|fail)|fail)
 exact zU rfl (zE (B:=zg x) rfl (ty rfl) rfl Ey Ex (zd _).symm) (zh rfl) Ev ⟨rfl,rfl⟩
theorem zoX(z:Int)(a:Option Addr)(n c:Nat)(w:World)(hz:¬(1<=z/\z<=4)):q_G 128 [.int .i64 z,.slice a n c] w (.tuple #[zu 0,.int .i64 2]):=by
 refine zt Tryz.func128 Tryz.ntmps128 ?_;have m:=λj (_:Keep No w j)=>znh z 188 a n c j hz;have q:=zd 0;repeat' (first|refine s_0 ?_|refine zf 0 ?_;refine z9 ?_;intro _|refine q_k 1 ?_;refine q_v (za (hc:=zr m)) ?_;refine zb ?_;refine q_y (zl (n:=0)) ?_)
 exact zU rfl (zE (B:=zg 0) rfl (ty rfl) rfl Ey Ex (zd _).symm) (zh rfl) Ev ⟨rfl,rfl⟩
theorem zmm(i:Nat)(a:Option Addr)(n c:Nat)(w:World)(h0:1<=i)(m:i<=4)(q:GT w)(hn:n<gL i):q_G 128 [.int .i64 (i:Int),.slice a n c] w (.tuple #[zu 0,.int .i64 4]):=by
 refine zt Tryz.func128 Tryz.ntmps128 ?_;have A:=λj (r:Keep No w j)=>zke i 188 a n c j h0 m (q.to r) hn;have E:=zd 0;repeat' (first|refine s_0 ?_|refine zf 0 ?_;refine z9 ?_;intro _|refine q_k 1 ?_;refine q_v (za (hc:=zr A)) ?_;refine zb ?_;refine q_y (zl (n:=0)) ?_)
 exact zU rfl (zE (B:=zg 0) rfl (ty rfl) rfl Ey Ex (zd _).symm) (zh rfl) Ev ⟨rfl,rfl⟩
theorem znk(i:Nat)(a:Option Addr)(n c:Nat)(w:World)(h0:1<=i)(m:i<=4)(q:GT w)(hn:gL i<n):q_G 128 [.int .i64 (i:Int),.slice a n c] w (.tuple #[zu 0,.int .i64 5]):=by
 refine zt Tryz.func128 Tryz.ntmps128 ?_;have A:=λj (r:Keep No w j)=>zlq i 188 a n c j h0 m (q.to r) hn;have E:=zd 0;repeat' (first|refine s_0 ?_|refine zf 0 ?_;refine z9 ?_;intro _|refine q_k 1 ?_;refine q_v (za (hc:=zr A)) ?_;refine zb ?_;refine q_y (zl (n:=0)) ?_)
 exact zU rfl (zE (B:=zg 0) rfl (ty rfl) rfl Ey Ex (zd _).symm) (zh rfl) Ev ⟨rfl,rfl⟩
theorem zpF(i:Nat)(a:Option Addr)(n c:Nat)(m:List UInt8)(w:World)(h0:1<=i)(q:i<=4)(F:GT w)(hn:n=gL i)(G:m.length=n)(j:n<=c)(hb:SlA w a (m.map v8))(hc:zaL (gP i) (gQ i) (bev 256 (bn m))=false):q_G 128 [.int .i64 (i:Int),.slice a n c] w (.tuple #[zu 0,.int .i64 3]):=by
 refine zt Tryz.func128 Tryz.ntmps128 ?_;have H:=λE (A:Keep No w E)=>zn5 i 188 (zaL (gP i) (gQ i)) a n c m E h0 q (F.to A) hn G j (hb.to A (λ_ h=> .inr h)).sla (en rfl) (λx I r=>zfe _ _ _ x r (zcq i h0 q) (zci i h0 q) (by have:=zbS i h0 q;omega) I) hc;have J:=zd 0;repeat' (first|refine s_0 ?_|refine zf 0 ?_;refine z9 ?_;intro _|refine q_k 1 ?_;refine q_v (za (hc:=zr H)) ?_;refine zb ?_;refine q_y (zl (n:=0)) ?_)
 exact zU rfl (zE (B:=zg 0) rfl (ty rfl) rfl Ey Ex (zd _).symm) (zh rfl) Ev ⟨rfl,rfl⟩
theorem zpM(i:Nat)(a:Option Addr)(n c:Nat)(j:List UInt8)(w:World)(h0:1<=i)(q:i<=4)(F:GT w)(hn:n=gL i)(G:j.length=n)(m:n<=c)(hb:SlA w a (j.map v8))(hc:zaL (gP i) (gQ i) (bev 256 (bn j))=true):q_G 128 [.int .i64 (i:Int),.slice a n c] w (.tuple #[zu (bev 256 (bn j)),.int .i64 0]):=by
 refine zt Tryz.func128 Tryz.ntmps128 ?_;have H:=λE (A:Keep No w E)=>zpf i 188 (zaL (gP i) (gQ i)) a n c j E h0 q (F.to A) hn G m (hb.to A (λ_ h=> .inr h)).sla (en rfl) (λx I r=>zfe _ _ _ x r (zcq i h0 q) (zci i h0 q) (by have:=zbS i h0 q;omega) I) hc;have J:=zd (bev 256 (bn j));generalize bev 256 (bn j)=x at*;repeat' (first|refine s_0 ?_|refine zf 0 ?_;refine z9 ?_;intro _|refine q_k 1 ?_;refine q_v (za (hc:=zr H)) ?_;refine zb ?_;refine q_y (zl (n:=x)) ?_)
 exact zU rfl (zE (B:=zg x) rfl (ty rfl) rfl Ey Ex (zd _).symm) (zh rfl) Ev ⟨rfl,rfl⟩
theorem zpA(z:Int)(a:Option Addr)(n c:Nat)(w:World)(hz:¬(1<=z/\z<=4)):q_G 179 [.int .i64 z,.slice a n c] w (.tuple #[zu 0,.int .i64 2]):=by
 refine zt Tryz.func179 Tryz.ntmps179 ?_;have m:=λj (_:Keep No w j)=>znh z 190 a n c j hz;have q:=zd 0;repeat' (first|refine s_0 ?_|refine zf 0 ?_;refine z9 ?_;intro _|refine q_k 1 ?_;refine q_v (za (hc:=zr m)) ?_;refine zb ?_;refine q_y (zl (n:=0)) ?_)
 exact zU rfl (zE (B:=zg 0) rfl (ty rfl) rfl Ey Ex (zd _).symm) (zh rfl) Ev ⟨rfl,rfl⟩
theorem znw(i:Nat)(a:Option Addr)(n c:Nat)(w:World)(h0:1<=i)(m:i<=4)(q:GT w)(hn:n<gL i):q_G 179 [.int .i64 (i:Int),.slice a n c] w (.tuple #[zu 0,.int .i64 4]):=by
 refine zt Tryz.func179 Tryz.ntmps179 ?_;have A:=λj (r:Keep No w j)=>zke i 190 a n c j h0 m (q.to r) hn;have E:=zd 0;repeat' (first|refine s_0 ?_|refine zf 0 ?_;refine z9 ?_;intro _|refine q_k 1 ?_;refine q_v (za (hc:=zr A)) ?_;refine zb ?_;refine q_y (zl (n:=0)) ?_)
 exact zU rfl (zE (B:=zg 0) rfl (ty rfl) rfl Ey Ex (zd _).symm) (zh rfl) Ev ⟨rfl,rfl⟩
theorem znY(i:Nat)(a:Option Addr)(n c:Nat)(w:World)(h0:1<=i)(m:i<=4)(q:GT w)(hn:gL i<n):q_G 179 [.int .i64 (i:Int),.slice a n c] w (.tuple #[zu 0,.int .i64 5]):=by
 refine zt Tryz.func179 Tryz.ntmps179 ?_;have A:=λj (r:Keep No w j)=>zlq i 190 a n c j h0 m (q.to r) hn;have E:=zd 0;repeat' (first|refine s_0 ?_|refine zf 0 ?_;refine z9 ?_;intro _|refine q_k 1 ?_;refine q_v (za (hc:=zr A)) ?_;refine zb ?_;refine q_y (zl (n:=0)) ?_)
 exact zU rfl (zE (B:=zg 0) rfl (ty rfl) rfl Ey Ex (zd _).symm) (zh rfl) Ev ⟨rfl,rfl⟩
theorem zq8(i:Nat)(a:Option Addr)(n c:Nat)(m:List UInt8)(w:World)(h0:1<=i)(r:i<=4)(F:GT w)(hn:n=gL i)(G:m.length=n)(j:n<=c)(hb:SlA w a (m.map v8))(hc:decide (bev 256 (bn m)<gQ i)=false):q_G 179 [.int .i64 (i:Int),.slice a n c] w (.tuple #[zu 0,.int .i64 3]):=by
 refine zt Tryz.func179 Tryz.ntmps179 ?_;have H:=λE (A:Keep No w E)=>zn5 i 190 (λy=>decide (y<gQ i)) a n c m E h0 r (F.to A) hn G j (hb.to A (λ_ h=> .inr h)).sla (en rfl) (λx I q=>zeg _ _ _ x q (zci i h0 r) I) hc;have J:=zd 0;repeat' (first|refine s_0 ?_|refine zf 0 ?_;refine z9 ?_;intro _|refine q_k 1 ?_;refine q_v (za (hc:=zr H)) ?_;refine zb ?_;refine q_y (zl (n:=0)) ?_)
 exact zU rfl (zE (B:=zg 0) rfl (ty rfl) rfl Ey Ex (zd _).symm) (zh rfl) Ev ⟨rfl,rfl⟩
theorem zq4(i:Nat)(a:Option Addr)(n c:Nat)(j:List UInt8)(w:World)(h0:1<=i)(r:i<=4)(F:GT w)(hn:n=gL i)(G:j.length=n)(m:n<=c)(hb:SlA w a (j.map v8))(hc:decide (bev 256 (bn j)<gQ i)=true):q_G 179 [.int .i64 (i:Int),.slice a n c] w (.tuple #[zu (bev 256 (bn j)),.int .i64 0]):=by
 refine zt Tryz.func179 Tryz.ntmps179 ?_;have H:=λE (A:Keep No w E)=>zpf i 190 (λy=>decide (y<gQ i)) a n c j E h0 r (F.to A) hn G m (hb.to A (λ_ h=> .inr h)).sla (en rfl) (λx I q=>zeg _ _ _ x q (zci i h0 r) I) hc;have J:=zd (bev 256 (bn j));generalize bev 256 (bn j)=x at*;repeat' (first|refine s_0 ?_|refine zf 0 ?_;refine z9 ?_;intro _|refine q_k 1 ?_;refine q_v (za (hc:=zr H)) ?_;refine zb ?_;refine q_y (zl (n:=x)) ?_)
 exact zU rfl (zE (B:=zg x) rfl (ty rfl) rfl Ey Ex (zd _).symm) (zh rfl) Ev ⟨rfl,rfl⟩
theorem zpD(z:Int)(a:Option Addr)(n c:Nat)(w:World)(hz:¬(1<=z/\z<=4)):q_G 100 [.int .i64 z,.slice a n c] w (.tuple #[zu 0,.int .i64 2]):=by
 refine zt Tryz.func100 Tryz.ntmps100 ?_;have r:=zd 0;have q:=zaa 0 0 0;have j:=zct 0 0 0;have m:=zcx 0 0 0;repeat' (first|refine s_0 ?_|refine zf 0 ?_;refine z9 ?_;intro _|refine q_k 1 ?_;refine q_v (za (hc:=λ_ _ _ _=>(ziu z _ hz))) ?_;refine zb ?_;refine zk ?_;intro _;refine q_y (zG (B:=zag 0 0 0) (hv:=zbb 0 0 0) (h1:=(zaa 0 0 0).symm)) ?_|refine q_k 2 ?_;refine zaJ ?_|refine zf 3 ?_;refine q_x zdt ?_;refine q_y (zl (n:=0)) ?_)
 exact zU rfl (zE (B:=zg 0) rfl (ty rfl) rfl Ey Ex (zd _).symm) (zh rfl) Ev ⟨rfl,rfl⟩
theorem zlo(i:Nat)(a:Option Addr)(n c:Nat)(r:List UInt8)(w:World)(h0:1<=i)(h5:i<=4)(hG:GT w)(hl:r.length=n)(c4:n<=c)(c6:n<1000000)(hb:SlA w a (r.map v8)):
  q_G 100 [.int .i64 (i:Int),.slice a n c] w (.tuple #[zu (bev 256 (bn r)%gQ i),.int .i64 0]):=by
 refine zt Tryz.func100 Tryz.ntmps100 ?_;have hW:=zcq i h0 h5;have H:=zci i h0 h5;have c8:=zbS i h0 h5;have c9:=zbL i h0 h5;have a9:=λF (Z:Keep No w F)=>zcU i F h0 h5 (hG.to Z);generalize gL i=l,gQ i=q,gP i=p at*;have lS:=zaa p q l;have lp:=zd p;have lq:=zd q;have lz:=zd 0;have d9:=zct p q l;have U:=zcx p q l;have d8:=zc5 p q l;have N:0<q:=q_o;have a6:256^32<18446744073709551616^16:=by
  rw[zhC 256 8 128 rfl rfl];exact Nat.pow_lt_pow_right q_e q_e
 have J:=λF aR cR (h:SlA F aR ((1::List.replicate 32 0:List UInt8).map v8)) (hc:32+1<=cR)=>zcs aR (32+1) cR (1::List.replicate 32 0) F q_p hc h q_o;rw[znb,if_pos a6] at J;have hys: [Value.int IntKind.u8 1]++List.replicate 32 (Value.int IntKind.u8 0)=(1::List.replicate 32 0:List UInt8).map v8:=by
  rw[Au,BY];rfl
 have lr:=zd (256^32);generalize c1:256^32=A at*;obtain⟨f,hf⟩:∃f,f=n%32:=⟨_,rfl⟩;have c5:f<32:=by rw[hf];exact AC _ q_e
 have c7:f<=n:=by rw[hf];exact EI _ _
 obtain⟨k,Z⟩:∃k,n=f+32*k:=⟨n/32,by rw[hf];have:=Ad n 32;omega⟩;have b1:(n:Int).tmod 32=((f:Nat):Int):=by rw[hf];exact zex n 32
 have E:∀D:List UInt8,D.length<=32->bev 256 (bn D)<18446744073709551616^16:=λD hD=>by
  rw[zhC 256 8 128 rfl rfl];refine AK (zfn 256 (bn D) (zih D)) ?_;rw[show(bn D).length=D.length from A0 _];exact AB q_e q_o
 have S:=λF (Z:Keep No w F)=>zcs a f f (r.take f) F (by rw[AS];omega) (A7 _) (by rw[C0];exact((hb.to Z (λ_ h=> .inr h)).sla).take _) q_o;rw[if_pos (E (r.take f) (by rw[AS];omega))] at S;have M:=E (r.take f) (by rw[AS];omega);have G:=λF=>ztG (bev 256 (bn (r.take f))) q F M H;unfold zcM at G;simp only[if_neg (show ¬q=0 by omega)] at G;have c2:=zd (bev 256 (bn (r.take f)));have c3:=zd (bev 256 (bn (r.take f))%q);clear hf;repeat' (first|refine s_0 ?_|refine zf 0 ?_;refine z9 ?_;intro _|refine q_k 1 ?_;refine q_v (za (hc:=zr a9)) ?_;refine zb ?_;refine zk ?_;intro _;refine q_y (zG (B:=zag p q l) (hv:=zbb p q l) (h1:=(zaa p q l).symm)) ?_|refine q_k 2 ?_;refine zaJ ?_|refine zf 4 ?_;(refine q_s zz ?_;rintro _ _ ⟨_,rfl,rfl⟩);(refine q_s (Fw (zee (n:=1) (s:=1) (by repeat (first|exact Eu|apply Ew)) rfl (by unfold maxLen;omega)) (zla (k:=1) (m:=32) (km:=32+1) (hm:=rfl) (hL:=Eu) (hkm:=rfl) (hys:=hys))) ?_;rintro _ _ ⟨rfl,aR,cR,rfl⟩);refine q_v (za (hc:=λF _ _ hh=>J F _ _ (zat hh q_h) (FF (n:=32+1) hh q_h))) ?_;refine zb ?_;refine zk ?_;intro _;refine q_y (zl (n:=A)) ?_|refine q_k 5 ?_;refine q_x (zbI (hr:=b1)) ?_)
 rename_i W X wx Y;refine FJ (fr':=[(1,.slice a n c),(4,.pointer (some ⟨W,0,none⟩)),(6,.pointer (some ⟨X,0,none⟩)),(8,.pointer (some ⟨Y,0,none⟩)),(10,.int .i64 f)]) (L':=[.blk Y 133 (zg A),.blk X 194 (zag p q l),.blk W 133 (List.replicate 16 (Value.int IntKind.u64 0))]) ?_ q_h q_h;clear J hys a9;generalize b2:bev 256 (bn (r.take f))=d0 at*;generalize b9:d0%q=r0 at*;repeat' (first|refine s_t ?_|refine q_k 6 ?_;refine q_v (zce (l:=0) (h:=f) (m:=f) (n':=f) (c':=f)) ?_;refine q_v (za (hc:=zr S)) ?_;refine zb ?_;refine zk ?_;intro _;refine q_y (zl (n:=d0)) ?_|refine zf 7 ?_;refine q_x (ze (B:=zg d0)) ?_;refine q_v (ze (B:=zg q) (hv:=U)) ?_;refine q_v (za (hc:=q_c G)) ?_;refine zb ?_;refine q_n (zl (n:=r0)) ?_|refine q_k 8 ?_)
 rename_i K;refine zL (γ:=Nat) (λj=>[(1,.slice a n c),(4,.pointer (some ⟨W,0,none⟩)),(6,.pointer (some ⟨X,0,none⟩)),(8,.pointer (some ⟨Y,0,none⟩)),(11,.pointer (some ⟨K,0,none⟩)),(13,.int .i64 ((f+32*j:Nat):Int))])
  (λj=>[.blk K 133 (zg (bev 256 (bn (r.take (f+32*j)))%q)),.blk Y 133 (zg A),.blk X 194 (zag p q l),.blk W 133 (List.replicate 16 (Value.int IntKind.u64 0))])
  (λj=>j<=k) (λj=>k-j) 0 (AA _) ?_ ?_ ?_
 ·exact q_h
 ·show SubR [.blk K 133 (zg (bev 256 (bn (r.take f))%q)),.blk Y 133 (zg A),.blk X 194 (zag p q l),.blk W 133 (List.replicate 16 (Value.int IntKind.u64 0))] _;rw[b2,b9];exact q_h
 clear S G c2 c3 M;intro j hj;rcases AG j k with h|h
 ·have T:decide (((f+32*j:Nat):Int)<(n:Int))=true:=q_d;have I:IntKind.i64.wrap (((f+32*j:Nat):Int)+32)=((f+32*j+32:Nat):Int):=q_w;have Q:=zmX r (f+32*j) 32 q_o;rw[c1] at Q;have b3:((r.take (f+32*j+32)).drop (f+32*j)).length=32:=by rw[As,AS];omega
  have a7:=E ((r.take (f+32*j+32)).drop (f+32*j)) q_o;have a8:=λF (Z:Keep No w F)=>zcs (zbB a (f+32*j) (f+32*j+32) 1) 32 32 ((r.take (f+32*j+32)).drop (f+32*j)) F b3 (A7 _) (by
   rw[Cd,C0];exact(((hb.to Z (λ_ h=> .inr h)).sla).take _).mov (by rw[AS];omega)) q_o
  rw[if_pos a7] at a8;have V:=ztf q (bev 256 (bn (r.take (f+32*j)))) A (bev 256 (bn ((r.take (f+32*j+32)).drop (f+32*j))));rw[<-Q] at V;have c0:=Ai (AC (bev 256 (bn (r.take (f+32*j)))) N) H;generalize bev 256 (bn (r.take (f+32*j)))%q=O,bev 256 (bn ((r.take (f+32*j+32)).drop (f+32*j)))=d at*;have hM:=λF=>zmj O A q F c0 a6 H;have b7:=Ai (AC (O*A) N) H;have hA:=λF=>zqx (O*A%q) d q F b7 a7 H;unfold zcM at hM hA;simp only[if_neg (show ¬q=0 by omega)] at hM hA;rw[V] at hA;have l1:=zd O;have l2:=zd d;have l3:=zd (O*A%q);have L:bev 256 (bn (r.take (f+32*(j+1))))%q=bev 256 (bn (r.take (f+32*j+32)))%q:=by rw[show f+32*(j+1)=f+32*j+32 by omega]
  have b5:((f+32*(j+1):Nat):Int)=((f+32*j+32:Nat):Int):=q_o;rw[<-L] at hA;have l4:=zd (bev 256 (bn (r.take (f+32*(j+1))))%q);clear V Q L;generalize O*A%q=P,b0:bev 256 (bn (r.take (f+32*(j+1))))%q=R1 at*;repeat' (first|refine s_t ?_|refine q_k 9 ?_;refine q_v (zn (hr:=T)) ?_|refine q_k 11 ?_;refine q_x (zD (hr:=I)) ?_;refine q_v (zD (hr:=I)) ?_;refine q_v (zce (l:=f+32*j) (h:=f+32*j+32) (m:=f+32*j+32) (n':=32) (c':=32) (hn':=by omega) (hc':=by omega)) ?_;refine q_v (za (hc:=zr a8)) ?_;refine zb ?_;refine zk ?_;intro _;refine q_y (zl (n:=d)) ?_|refine zf 12 ?_;refine q_v (ze (B:=zg O)) ?_;refine q_x (ze (B:=zg A)) ?_;refine q_v (ze (B:=zg q) (hv:=U)) ?_;refine q_v (za (hc:=q_c hM)) ?_;refine zb ?_;refine q_n (zl (n:=P)) ?_|refine zf 13 ?_;refine q_v (ze (B:=zg P)) ?_;refine q_x (ze (B:=zg d)) ?_;refine q_v (ze (B:=zg q) (hv:=U)) ?_;refine q_v (za (hc:=q_c hA)) ?_;refine zb ?_;refine q_n (zl (n:=R1)) ?_|refine q_k 10 ?_;refine q_x (zD (hr:=I)) ?_)
  refine zC (j+1) ?_ ?_ ?_ ?_
  ·show j+1<=k;omega
  ·show k-(j+1)<k-j;omega
  ·rw[b5];exact q_h
  ·show SubR [.blk K 133 (zg (bev 256 (bn (r.take (f+32*(j+1))))%q)),.blk Y 133 (zg A),.blk X 194 (zag p q l),.blk W 133 (List.replicate 16 (Value.int IntKind.u64 0))] _;rw[b0];exact q_h
 ·obtain rfl:j=k:=q_o;have T:decide (((f+32*j:Nat):Int)<(n:Int))=false:=q_f;rw[A6 q_o];have lR:=zd (bev 256 (bn r)%q);generalize bev 256 (bn r)%q=R at*;repeat' (first|refine s_0 ?_|refine q_k 9 ?_;refine q_v (zn (hr:=T)) ?_|refine zf 14 ?_;refine q_v (ze (B:=zg R)) ?_;refine q_y (zl (n:=R)) ?_)
  exact zU rfl (zE (B:=zg R) rfl (ty rfl) rfl Ey Ex (zd _).symm) (zh rfl) Ev ⟨rfl,rfl⟩
end
open Go Go.Sy Go.Nt Go.RowKit
attribute [local irreducible] Sy SyL SyX Sy.Fn callFunc zg zae zac iC gP gQ gL zaL zag zbc
def za5(z:Int)(l:List UInt8):Nat×Int:=
 if 1<=z/\z<=4 then if l.length<gL z.toNat then (0,4) else if gL z.toNat<l.length then (0,5) else if bev 256 (bn l)<gQ z.toNat then (bev 256 (bn l),0) else (0,3) else (0,2)
def gel(z:Int)(l:List UInt8):Nat×Int:=
 if 1<=z/\z<=4 then if l.length<gL z.toNat then (0,4) else if gL z.toNat<l.length then (0,5) else if zaL (gP z.toNat) (gQ z.toNat) (bev 256 (bn l)) then (bev 256 (bn l),0) else (0,3) else (0,2)
def zaW(z:Int)(l:List UInt8):Nat×Int:=if 1<=z/\z<=4 then (bev 256 (bn l)%gQ z.toNat,0) else (0,2)
def zhL(z:Int):Nat×Int:=if 1<=z/\z<=4 then (gQ z.toNat,0) else (0,2)
def zbm(z:Int):Nat:=if 1<=z/\z<=4 then gL z.toNat else 0
theorem zdj{z:Int}(hz:1<=z/\z<=4):∃i:Nat,z=(i:Int)/\z.toNat=i/\1<=i/\i<=4:=⟨z.toNat,by omega,rfl,by omega,by omega⟩
theorem zx1(z:Int)(l:List UInt8):(zaW z l).1<18446744073709551616^16:=by
 unfold zaW;by_cases hz:1<=z/\z<=4
 ·rw[if_pos hz];obtain⟨i,-,m,h0,j⟩:=zdj hz;rw[m];exact Ai (AC _ (AK q_e (zbL i h0 j))) (zci i h0 j)
 ·rw[if_neg hz];exact AU q_e
theorem zgG{z:Int}{l:List UInt8}(h:(za5 z l).2=0):(1<=z/\z<=4)/\l.length=gL z.toNat/\bev 256 (bn l)<gQ z.toNat/\(za5 z l).1=bev 256 (bn l):=by
 unfold za5 at h ⊢;by_cases hz:1<=z/\z<=4
 ·rw[if_pos hz] at h ⊢;by_cases h1:l.length<gL z.toNat
  ·rw[if_pos h1] at h;cases h
  rw[if_neg h1] at h ⊢;by_cases h2:gL z.toNat<l.length
  ·rw[if_pos h2] at h;cases h
  rw[if_neg h2] at h ⊢;by_cases h3:bev 256 (bn l)<gQ z.toNat
  ·rw[if_pos h3];exact⟨hz,by omega,h3,rfl⟩
  ·rw[if_neg h3] at h;cases h
 ·rw[if_neg hz] at h;cases h
theorem zk3{z:Int}{l:List UInt8}(h:(gel z l).2=0):(1<=z/\z<=4)/\l.length=gL z.toNat/\zaL (gP z.toNat) (gQ z.toNat) (bev 256 (bn l))=true/\(gel z l).1=bev 256 (bn l):=by
 unfold gel at h ⊢;by_cases hz:1<=z/\z<=4
 ·rw[if_pos hz] at h ⊢;by_cases h1:l.length<gL z.toNat
  ·rw[if_pos h1] at h;cases h
  rw[if_neg h1] at h ⊢;by_cases h2:gL z.toNat<l.length
  ·rw[if_pos h2] at h;cases h
  rw[if_neg h2] at h ⊢;by_cases h3:zaL (gP z.toNat) (gQ z.toNat) (bev 256 (bn l))=true
  ·rw[if_pos h3];exact⟨hz,by omega,h3,rfl⟩
  ·rw[if_neg h3] at h;cases h
 ·rw[if_neg hz] at h;cases h
theorem zp4(z:Int)(l:List UInt8):(za5 z l).1<18446744073709551616^16:=by
 by_cases h:(za5 z l).2=0
 ·obtain⟨m,-,j,w⟩:=zgG h;obtain⟨i,-,B,h0,A⟩:=zdj m;rw[w];rw[B] at j;exact Ai j (zci i h0 A)
 ·have:(za5 z l).1=0:=by
   unfold za5 at h ⊢;split
   ·rename_i m;rw[if_pos m] at h;split
    ·rfl
    ·rename_i q;rw[if_neg q] at h;split
     ·rfl
     ·rename_i r;rw[if_neg r] at h;split
      ·rename_i j;rw[if_pos j] at h;exact absurd rfl h
      ·rfl
   ·rfl
  rw[this];exact AU q_e
theorem zyZ(z:Int)(l:List UInt8):(gel z l).1<18446744073709551616^16:=by
 by_cases h:(gel z l).2=0
 ·obtain⟨m,-,j,w⟩:=zk3 h;obtain⟨i,-,B,h0,A⟩:=zdj m;rw[w];rw[B] at j;exact Ai (zeo j) (zcq i h0 A)
 ·have:(gel z l).1=0:=by
   unfold gel at h ⊢;split
   ·rename_i m;rw[if_pos m] at h;split
    ·rfl
    ·rename_i q;rw[if_neg q] at h;split
     ·rfl
     ·rename_i r;rw[if_neg r] at h;split
      ·rename_i j;rw[if_pos j] at h;exact absurd rfl h
      ·rfl
   ·rfl
  rw[this];exact AU q_e
theorem zw3(z:Int)(a:Option Addr)(n c:Nat)(j:List UInt8)(w:World)(q:GT w)(r:j.length=n)(hc:n<=c)(hb:SlA w a (j.map v8)):
  q_G 179 [.int .i64 z,.slice a n c] w (.tuple #[zu (za5 z j).1,.int .i64 (za5 z j).2]):=by
 unfold za5;by_cases hz:1<=z/\z<=4
 ·rw[if_pos hz];obtain⟨i,rfl,A,h0,m⟩:=zdj hz;rw[A,r];by_cases h1:n<gL i
  ·rw[if_pos h1];exact znw i a n c w h0 m q h1
  rw[if_neg h1];by_cases h2:gL i<n
  ·rw[if_pos h2];exact znY i a n c w h0 m q h2
  rw[if_neg h2];by_cases h3:bev 256 (bn j)<gQ i
  ·rw[if_pos h3];exact zq4 i a n c j w h0 m q q_o r hc hb (decide_eq_true h3)
  ·rw[if_neg h3];exact zq8 i a n c j w h0 m q q_o r hc hb (decide_eq_false h3)
 ·rw[if_neg hz];exact zpA z a n c w hz
theorem ztS(z:Int)(a:Option Addr)(n c:Nat)(j:List UInt8)(w:World)(q:GT w)(r:j.length=n)(hc:n<=c)(hb:SlA w a (j.map v8)):
  q_G 128 [.int .i64 z,.slice a n c] w (.tuple #[zu (gel z j).1,.int .i64 (gel z j).2]):=by
 unfold gel;by_cases hz:1<=z/\z<=4
 ·rw[if_pos hz];obtain⟨i,rfl,A,h0,m⟩:=zdj hz;rw[A,r];by_cases h1:n<gL i
  ·rw[if_pos h1];exact zmm i a n c w h0 m q h1
  rw[if_neg h1];by_cases h2:gL i<n
  ·rw[if_pos h2];exact znk i a n c w h0 m q h2
  rw[if_neg h2];by_cases h3:zaL (gP i) (gQ i) (bev 256 (bn j))=true
  ·rw[if_pos h3];exact zpM i a n c j w h0 m q q_o r hc hb h3
  ·rw[if_neg h3];exact zpF i a n c j w h0 m q q_o r hc hb (by simpa using h3)
 ·rw[if_neg hz];exact zoX z a n c w hz
theorem zxn(z:Int)(a:Option Addr)(n c:Nat)(j:List UInt8)(w:World)(q:GT w)(A:j.length=n)(hc:n<=c)(hn:n<1000000)(hb:SlA w a (j.map v8)):
  q_G 100 [.int .i64 z,.slice a n c] w (.tuple #[zu (zaW z j).1,.int .i64 (zaW z j).2]):=by
 unfold zaW;by_cases hz:1<=z/\z<=4
 ·rw[if_pos hz];obtain⟨i,rfl,r,h0,m⟩:=zdj hz;rw[r];exact zlo i a n c j w h0 m q A hc hn hb
 ·rw[if_neg hz];exact zpD z a n c w hz
theorem zyf(z:Int)(w:World)(m:GT w):q_G 129 [.int .i64 z] w (.tuple #[zu (zhL z).1,.int .i64 (zhL z).2]):=by
 unfold zhL;by_cases hz:1<=z/\z<=4
 ·rw[if_pos hz];obtain⟨i,rfl,q,h0,j⟩:=zdj hz;rw[q];exact zsy i w h0 j m
 ·rw[if_neg hz];exact zrg z w hz
theorem zn3(z:Int)(w:World)(m:GT w):q_G 270 [.int .i64 z] w (.int .i64 ((zbm z:Nat):Int)):=by
 unfold zbm;by_cases hz:1<=z/\z<=4
 ·rw[if_pos hz];obtain⟨i,rfl,q,h0,j⟩:=zdj hz;rw[q];exact zxh i w h0 j m
 ·rw[if_neg hz];exact zuH z w hz
end Go.Proofs.YtdnlngbjpdbffaaGreatDoor
