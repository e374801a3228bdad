/- Lemmas. -/
import Derived.Test.YtdnlngbjpdbffaaGreatDoorZJ18
set_option maxRecDepth 10000
set_option linter.all false
namespace Go.Proofs.YtdnlngbjpdbffaaGreatDoor
open Go Go.Sy Go.Nt Go.RowKit
attribute [local irreducible] Sy SyL SyX Sy.Fn callFunc zg zae zag gP gQ gL gS zek zaL
theorem zj4(p q l f x b:Nat)(cond:Nat->Bool)(w:World)(j:∀args w,(callFunc f args).run Tryz.prog w= .ok (.enter f args) w)(r:∀m,q_G f [zcP p q l,zu x] m (.bool (cond x)))(h:w.rangeAt b 0 (zae [x])):
  q_G 189 [zcP p q l,.func (.func f) #[] #[],.slice (some ⟨b,0,none⟩) 1 1] w (.int .i64 (if cond x=true then 0 else 3)):=by
 have:=zs9 p q l f 1 1 b 0 [x] cond w rfl q_e j (λy A m=>by rw[AD.1 A];exact r m) h;rw[BV,Dt,DF] at this;exact this
theorem zr2(p q l f x y b:Nat)(cond:Nat->Bool)(w:World)(m:∀args w,(callFunc f args).run Tryz.prog w= .ok (.enter f args) w)(A:∀j,(j=x\/j=y)->∀r,q_G f [zcP p q l,zu j] r (.bool (cond j)))(h:w.rangeAt b 0 (zae [x,y])):
  q_G 189 [zcP p q l,.func (.func f) #[] #[],.slice (some ⟨b,0,none⟩) 2 2] w (.int .i64 (if (cond x&&cond y)=true then 0 else 3)):=by
 have:=zs9 p q l f 2 2 b 0 [x,y] cond w rfl q_e m (λz B r=>A z (by simpa using B) r) h;rw[BV,BV,Dt,DF] at this;exact this
theorem zrg(z:Int)(w:World)(hz:¬(1<=z/\z<=4)):q_G 129 [.int .i64 z] w (.tuple #[zu 0,.int .i64 2]):=by
 refine zt Tryz.func129 Tryz.ntmps129 ?_;have r:=zd 0;have q:=zaa 0 0 0;have m:=zct 0 0 0;have j:=zcx 0 0 0;repeat' (first|refine s_0 ?_|refine zf 0 ?_;refine z9 ?_;intro _|refine q_k 1 ?_;refine q_v (za (hc:=λ_ _ _ _=>(ziu z _ hz))) ?_;refine zb ?_;refine zk ?_;intro _;refine q_y (zG (B:=zag 0 0 0) (hv:=zbb 0 0 0) (h1:=(zaa 0 0 0).symm)) ?_|refine q_k 2 ?_;refine q_x (ze (B:=zg 0) (hv:=j)) ?_;refine q_y (zl (n:=0)) ?_)
 exact zU rfl (zE (B:=zg 0) rfl (ty rfl) rfl Ey Ex (zd _).symm) (zh rfl) Ev ⟨rfl,rfl⟩
theorem zsy(i:Nat)(w:World)(h0:1<=i)(j:i<=4)(E:GT w):
  q_G 129 [.int .i64 (i:Int)] w (.tuple #[zu (gQ i),.int .i64 0]):=by
 refine zt Tryz.func129 Tryz.ntmps129 ?_;have L:=zcq i h0 j;have F:=zci i h0 j;have H:=zbS i h0 j;have I:=zbL i h0 j;have m:=λA (G:Keep No w A)=>zcU i A h0 j (E.to G);generalize gL i=l,gQ i=q,gP i=p at*;have M:=zaa p q l;have N:=zd p;have O:=zd q;have P:=zd 0;have K:=zct p q l;have r:=zcx p q l;have J:=zc5 p q l;repeat' (first|refine s_0 ?_|refine zf 0 ?_;refine z9 ?_;intro _|refine q_k 1 ?_;refine q_v (za (hc:=zr m)) ?_;refine zb ?_;refine zk ?_;intro _;refine q_y (zG (B:=zag p q l) (hv:=zbb p q l) (h1:=(zaa p q l).symm)) ?_|refine q_k 2 ?_;refine q_x (ze (B:=zg q) (hv:=r)) ?_;refine q_y (zl (n:=q)) ?_)
 exact zU rfl (zE (B:=zg q) rfl (ty rfl) rfl Ey Ex (zd _).symm) (zh rfl) Ev ⟨rfl,rfl⟩
theorem zuH(z:Int)(w:World)(hz:¬(1<=z/\z<=4)):q_G 270 [.int .i64 z] w (.int .i64 0):=by
 refine zt Tryz.func270 Tryz.ntmps270 ?_;have m:=zaa 0 0 0;have j:=zc5 0 0 0;repeat' (first|refine s_0 ?_|refine q_k 0 ?_|refine q_k 1 ?_;refine q_v (za (hc:=λ_ _ _ _=>(ziu z _ hz))) ?_;refine zb ?_;refine zk ?_;intro _;refine q_y (zG (B:=zag 0 0 0) (hv:=zbb 0 0 0) (h1:=(zaa 0 0 0).symm)) ?_|refine q_k 2 ?_;refine q_x (zM (hv:=j)) ?_)
 exact q_r
theorem zxh(i:Nat)(w:World)(h0:1<=i)(j:i<=4)(E:GT w):
  q_G 270 [.int .i64 (i:Int)] w (.int .i64 ((gL i:Nat):Int)):=by
 refine zt Tryz.func270 Tryz.ntmps270 ?_;have L:=zcq i h0 j;have F:=zci i h0 j;have H:=zbS i h0 j;have I:=zbL i h0 j;have m:=λA (G:Keep No w A)=>zcU i A h0 j (E.to G);generalize gL i=l,gQ i=q,gP i=p at*;have M:=zaa p q l;have N:=zd p;have O:=zd q;have P:=zd 0;have J:=zct p q l;have K:=zcx p q l;have r:=zc5 p q l;repeat' (first|refine s_0 ?_|refine q_k 0 ?_|refine q_k 1 ?_;refine q_v (za (hc:=zr m)) ?_;refine zb ?_;refine zk ?_;intro _;refine q_y (zG (B:=zag p q l) (hv:=zbb p q l) (h1:=(zaa p q l).symm)) ?_|refine q_k 2 ?_;refine q_x (zM (hv:=r)) ?_)
 exact q_r
theorem zi0(i:Nat)(e:Nat)(w:World)(h0:1<=i)(A:i<=4)(K:GT w)(he:e<18446744073709551616^16)(hc:e<gQ i):
  q_G 106 [.int .i64 (i:Int),zu e] w (.tuple #[zu (4^e%gP i),.int .i64 0]):=by
 refine zt Tryz.func106 Tryz.ntmps106 ?_;have le:=zd e;have L:=zcq i h0 A;have E:=zci i h0 A;have N:=zbS i h0 A;have O:=zbL i h0 A;have F:=λj (J:Keep No w j)=>zcU i j h0 A (K.to J);generalize gL i=l,gQ i=q,gP i=p at*;have U:=zaa p q l;have V:=zd p;have W:=zd q;have Z:=zd 0;have Q:=zct p q l;have R:=zcx p q l;have P:=zc5 p q l;have m:=λj I (h:j.rangeAt I 0 (zae [e]))=>zj4 p q l 190 e I (λy=>decide (y<q)) j (en rfl) (λH=>zeg p q l e H E he) h;simp only[decide_eq_true hc,if_true] at m;have T:=zd 4;have f4:=λj=>zit 4 j q_e;have G:=λj=>zkx p q l 4 e j L q_o q_e he;have Y:=zd (4^e%p);generalize 4^e%p=r at*;repeat' (first|refine s_0 ?_|refine zf 0 ?_;refine zk ?_;intro _;refine z9 ?_;intro _|refine q_k 1 ?_;refine q_v (za (hc:=zr F)) ?_;refine zb ?_;refine zk ?_;intro _;refine q_y (zG (B:=zag p q l) (hv:=zbb p q l) (h1:=(zaa p q l).symm)) ?_|refine q_k 2 ?_;refine zaJ ?_|refine zf 4 ?_;refine q_v (ze (B:=zag p q l)) ?_;refine q_v (ze (B:=zg e)) ?_|refine q_k 5 ?_;refine zaJ ?_|refine zf 7 ?_;refine q_v (za (hc:=q_c f4)) ?_;refine zb ?_;refine zk ?_;intro _;refine q_y (zl (n:=4)) ?_|refine zf 8 ?_;refine q_v (ze (B:=zag p q l)) ?_;refine q_v (ze (B:=zg 4)) ?_;refine q_v (ze (B:=zg e)) ?_;refine q_v (za (hc:=q_c G)) ?_;refine q_y (zl (n:=r)) ?_|refine q_s (zcb (x:=e)) ?_;rintro _ _ ⟨S,rfl,rfl⟩|(refine zx ?_;first|refine q_v (za (hc:=λj X J M=>m j _ (zp (M.has (by exact F1 F5)) Ex))) ?_|refine zw ?_|fail)|fail)
 exact zU rfl (zE (B:=zg r) rfl (ty rfl) rfl Ey Ex (zd _).symm) (zh rfl) Ev ⟨rfl,rfl⟩
theorem zyt(i:Nat)(x:Nat)(e:Nat)(w:World)(h0:1<=i)(G:i<=4)(O:GT w)(hx:x<18446744073709551616^16)(he:e<18446744073709551616^16)(hc:zaL (gP i) (gQ i) x=true)(P:e<gQ i):
  q_G 137 [.int .i64 (i:Int),zu x,zu e] w (.tuple #[zu (x^e%gP i),.int .i64 0]):=by
 refine zt Tryz.func137 Tryz.ntmps137 ?_;have lx:=zd x;have le:=zd e;have M:=zcq i h0 G;have H:=zci i h0 G;have Q:=zbS i h0 G;have R:=zbL i h0 G;have I:=λj (K:Keep No w j)=>zcU i j h0 G (O.to K);generalize gL i=l,gQ i=q,gP i=p at*;have V:=zaa p q l;have W:=zd p;have Y:=zd q;have lz:=zd 0;have T:=zct p q l;have U:=zcx p q l;have S:=zc5 p q l;have A:=λj F (h:j.rangeAt F 0 (zae [x]))=>zj4 p q l 188 x F (zaL p q) j (en rfl) (λE=>zfe p q l x E M H q_o hx) h;simp only[hc,if_true] at A;have m:=λj F (h:j.rangeAt F 0 (zae [e]))=>zj4 p q l 190 e F (λy=>decide (y<q)) j (en rfl) (λE=>zeg p q l e E H he) h;simp only[decide_eq_true P,if_true] at m;have L:=λj=>zkx p q l x e j M q_o hx he;have Z:=zd (x^e%p);generalize x^e%p=r at*;repeat' (first|refine s_0 ?_|refine zf 0 ?_;refine zk ?_;intro _;refine zk ?_;intro _;refine z9 ?_;intro _|refine q_k 1 ?_;refine q_v (za (hc:=zr I)) ?_;refine zb ?_;refine zk ?_;intro _;refine q_y (zG (B:=zag p q l) (hv:=zbb p q l) (h1:=(zaa p q l).symm)) ?_|refine q_k 2 ?_;refine zaJ ?_|refine zf 4 ?_;refine q_v (ze (B:=zag p q l)) ?_;refine q_v (ze (B:=zg x)) ?_|refine q_k 5 ?_;refine zaJ ?_|refine zf 7 ?_;refine q_v (ze (B:=zag p q l)) ?_;refine q_v (ze (B:=zg e)) ?_|refine q_k 8 ?_;refine zaJ ?_|refine zf 10 ?_;refine q_v (ze (B:=zag p q l)) ?_;refine q_v (ze (B:=zg x)) ?_;refine q_v (ze (B:=zg e)) ?_;refine q_v (za (hc:=q_c L)) ?_;refine q_y (zl (n:=r)) ?_|refine q_s (zcb (x:=x)) ?_;rintro _ _ ⟨N,rfl,rfl⟩|refine q_s (zcb (x:=e)) ?_;rintro _ _ ⟨N,rfl,rfl⟩|(refine zx ?_;first|refine q_v (za (hc:=λj X K J=>A j _ (zp (J.has (by exact F1 F5)) Ex))) ?_|refine q_v (za (hc:=λj X K J=>m j _ (zp (J.has (by exact F1 F5)) Ex))) ?_|refine zw ?_|fail)|fail)
 exact zU rfl (zE (B:=zg r) rfl (ty rfl) rfl Ey Ex (zd _).symm) (zh rfl) Ev ⟨rfl,rfl⟩
theorem zxk(i:Nat)(x:Nat)(y:Nat)(w:World)(h0:1<=i)(m:i<=4)(P:GT w)(hx:x<18446744073709551616^16)(O:y<18446744073709551616^16)(hc:(zaL (gP i) (gQ i) x&&zaL (gP i) (gQ i) y)=true):
  q_G 139 [.int .i64 (i:Int),zu x,zu y] w (.tuple #[zu (x*y%gP i),.int .i64 0]):=by
 refine zt Tryz.func139 Tryz.ntmps139 ?_;have lx:=zd x;have ly:=zd y;have M:=zcq i h0 m;have F:=zci i h0 m;have R:=zbS i h0 m;have S:=zbL i h0 m;have G:=λj (N:Keep No w j)=>zcU i j h0 m (P.to N);generalize gL i=l,gQ i=q,gP i=p at*;have W:=zaa p q l;have Y:=zd p;have Z:=zd q;have lz:=zd 0;have I:=zct p q l;have U:=zcx p q l;have T:=zc5 p q l;have A:=λj L (h:j.rangeAt L 0 (zae [x,y]))=>zr2 p q l 188 x y L (zaL p q) j (en rfl) (λx' J K=>by
  have E:x'<18446744073709551616^16:=by
   rcases J with rfl|rfl
   ·exact hx
   ·exact O
  exact zfe p q l x' K M F q_o E) h
 simp only[hc,if_true] at A;have H:=λj=>zmj x y p j hx O M;unfold zcM at H;simp only[if_neg (show ¬p=0 by omega)] at H;have lr:=zd (x*y%p);generalize x*y%p=r at*;repeat' (first|refine s_0 ?_|refine zf 0 ?_;refine zk ?_;intro _;refine zk ?_;intro _;refine z9 ?_;intro _|refine q_k 1 ?_;refine q_v (za (hc:=zr G)) ?_;refine zb ?_;refine zk ?_;intro _;refine q_y (zG (B:=zag p q l) (hv:=zbb p q l) (h1:=(zaa p q l).symm)) ?_|refine q_k 2 ?_;refine zaJ ?_|refine zf 4 ?_;refine q_v (ze (B:=zag p q l)) ?_;refine q_v (ze (B:=zg x)) ?_;refine q_v (ze (B:=zg y)) ?_|refine q_k 5 ?_;refine zaJ ?_|refine zf 7 ?_;refine q_v (ze (B:=zg x)) ?_;refine q_x (ze (B:=zg y)) ?_;refine q_v (ze (B:=zg p) (hv:=I)) ?_;refine q_v (za (hc:=q_c H)) ?_;refine zb ?_;refine q_y (zl (n:=r)) ?_|refine q_s (zff (x:=x) (x':=y)) ?_;rintro _ _ ⟨V,rfl,rfl⟩|(refine zx ?_;first|refine q_v (za (hc:=λj X N Q=>A j _ (zp (Q.has (by exact F1 F5)) Ex))) ?_|refine zw ?_|fail)|fail)
 exact zU rfl (zE (B:=zg r) rfl (ty rfl) rfl Ey Ex (zd _).symm) (zh rfl) Ev ⟨rfl,rfl⟩
theorem zuA(i:Nat)(x:Nat)(y:Nat)(w:World)(h0:1<=i)(m:i<=4)(O:GT w)(hx:x<18446744073709551616^16)(N:y<18446744073709551616^16)(hc:(decide (x<gQ i)&&decide (y<gQ i))=true):
  q_G 107 [.int .i64 (i:Int),zu x,zu y] w (.tuple #[zu ((x+y)%gQ i),.int .i64 0]):=by
 refine zt Tryz.func107 Tryz.ntmps107 ?_;have lx:=zd x;have ly:=zd y;have V:=zcq i h0 m;have A:=zci i h0 m;have Q:=zbS i h0 m;have R:=zbL i h0 m;have G:=λj (M:Keep No w j)=>zcU i j h0 m (O.to M);generalize gL i=l,gQ i=q,gP i=p at*;have W:=zaa p q l;have Y:=zd p;have Z:=zd q;have lz:=zd 0;have T:=zct p q l;have I:=zcx p q l;have S:=zc5 p q l;have E:=λj L (h:j.rangeAt L 0 (zae [x,y]))=>zr2 p q l 190 x y L (λy=>decide (y<q)) j (en rfl) (λx' J K=>by
  have F:x'<18446744073709551616^16:=by
   rcases J with rfl|rfl
   ·exact hx
   ·exact N
  exact zeg p q l x' K A F) h
 simp only[hc,if_true] at E;have H:=λj=>zqx x y q j hx N A;unfold zcM at H;simp only[if_neg (show ¬q=0 by omega)] at H;have lr:=zd ((x+y)%q);generalize (x+y)%q=r at*;repeat' (first|refine s_0 ?_|refine zf 0 ?_;refine zk ?_;intro _;refine zk ?_;intro _;refine z9 ?_;intro _|refine q_k 1 ?_;refine q_v (za (hc:=zr G)) ?_;refine zb ?_;refine zk ?_;intro _;refine q_y (zG (B:=zag p q l) (hv:=zbb p q l) (h1:=(zaa p q l).symm)) ?_|refine q_k 2 ?_;refine zaJ ?_|refine zf 4 ?_;refine q_v (ze (B:=zag p q l)) ?_;refine q_v (ze (B:=zg x)) ?_;refine q_v (ze (B:=zg y)) ?_|refine q_k 5 ?_;refine zaJ ?_|refine zf 7 ?_;refine q_v (ze (B:=zg x)) ?_;refine q_x (ze (B:=zg y)) ?_;refine q_v (ze (B:=zg q) (hv:=I)) ?_;refine q_v (za (hc:=q_c H)) ?_;refine zb ?_;refine q_y (zl (n:=r)) ?_|refine q_s (zff (x:=x) (x':=y)) ?_;rintro _ _ ⟨U,rfl,rfl⟩|(refine zx ?_;first|refine q_v (za (hc:=λj X M P=>E j _ (zp (P.has (by exact F1 F5)) Ex))) ?_|refine zw ?_|fail)|fail)
 exact zU rfl (zE (B:=zg r) rfl (ty rfl) rfl Ey Ex (zd _).symm) (zh rfl) Ev ⟨rfl,rfl⟩
theorem zun(i:Nat)(x:Nat)(y:Nat)(w:World)(h0:1<=i)(m:i<=4)(O:GT w)(hx:x<18446744073709551616^16)(N:y<18446744073709551616^16)(hc:(decide (x<gQ i)&&decide (y<gQ i))=true):
  q_G 108 [.int .i64 (i:Int),zu x,zu y] w (.tuple #[zu (x*y%gQ i),.int .i64 0]):=by
 refine zt Tryz.func108 Tryz.ntmps108 ?_;have lx:=zd x;have ly:=zd y;have V:=zcq i h0 m;have A:=zci i h0 m;have Q:=zbS i h0 m;have R:=zbL i h0 m;have G:=λj (M:Keep No w j)=>zcU i j h0 m (O.to M);generalize gL i=l,gQ i=q,gP i=p at*;have W:=zaa p q l;have Y:=zd p;have Z:=zd q;have lz:=zd 0;have T:=zct p q l;have I:=zcx p q l;have S:=zc5 p q l;have E:=λj L (h:j.rangeAt L 0 (zae [x,y]))=>zr2 p q l 190 x y L (λy=>decide (y<q)) j (en rfl) (λx' J K=>by
  have F:x'<18446744073709551616^16:=by
   rcases J with rfl|rfl
   ·exact hx
   ·exact N
  exact zeg p q l x' K A F) h
 simp only[hc,if_true] at E;have H:=λj=>zmj x y q j hx N A;unfold zcM at H;simp only[if_neg (show ¬q=0 by omega)] at H;have lr:=zd (x*y%q);generalize x*y%q=r at*;repeat' (first|refine s_0 ?_|refine zf 0 ?_;refine zk ?_;intro _;refine zk ?_;intro _;refine z9 ?_;intro _|refine q_k 1 ?_;refine q_v (za (hc:=zr G)) ?_;refine zb ?_;refine zk ?_;intro _;refine q_y (zG (B:=zag p q l) (hv:=zbb p q l) (h1:=(zaa p q l).symm)) ?_|refine q_k 2 ?_;refine zaJ ?_|refine zf 4 ?_;refine q_v (ze (B:=zag p q l)) ?_;refine q_v (ze (B:=zg x)) ?_;refine q_v (ze (B:=zg y)) ?_|refine q_k 5 ?_;refine zaJ ?_|refine zf 7 ?_;refine q_v (ze (B:=zg x)) ?_;refine q_x (ze (B:=zg y)) ?_;refine q_v (ze (B:=zg q) (hv:=I)) ?_;refine q_v (za (hc:=q_c H)) ?_;refine zb ?_;refine q_y (zl (n:=r)) ?_|refine q_s (zff (x:=x) (x':=y)) ?_;rintro _ _ ⟨U,rfl,rfl⟩|(refine zx ?_;first|refine q_v (za (hc:=λj X M P=>E j _ (zp (P.has (by exact F1 F5)) Ex))) ?_|refine zw ?_|fail)|fail)
 exact zU rfl (zE (B:=zg r) rfl (ty rfl) rfl Ey Ex (zd _).symm) (zh rfl) Ev ⟨rfl,rfl⟩
theorem zdJ{i x:Nat} :zaL (gP i) (gQ i) x=true↔mem i x:=by
 unfold zaL mem;exact decide_eq_true_iff
end Go.Proofs.YtdnlngbjpdbffaaGreatDoor
