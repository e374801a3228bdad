/- Lemmas of this proof. -/
import Derived.Test.YtdnlngbjpdbffaaGreatDoorWJ18
set_option maxRecDepth 10000
set_option linter.all false
namespace Go.Proofs.YtdnlngbjpdbffaaGreatDoor
open Go Go.Sy Go.Nt Go.RowKit
attribute [local irreducible] Sy SyL SyX Sy.Fn callFunc zg zae zai gP gQ gL gS zed zaH
theorem zjO(p q l f x b:Nat)(cond:Nat->Bool)(w:World)(j:∀args w,(callFunc f args).run Tryz.prog w= .ok (.enter f args) w)(r:∀m,q_G f [zcE p q l,zr x] m (.bool (cond x)))(h:w.rangeAt b 0 (zae [x])):
  q_G 189 [zcE p q l,.func (.func f) #[] #[],.slice (some ⟨b,0,none⟩) 1 1] w (.int .i64 (if cond x=true then 0 else 3)):=by
 have:=zr2 p q l f 1 1 b 0 [x] cond w rfl q_e j (λy A m=>by rw[AE.1 A];exact r m) h;rw[BS,Du,Dd] at this;exact this
theorem zro(p q l f x y b:Nat)(cond:Nat->Bool)(w:World)(m:∀args w,(callFunc f args).run Tryz.prog w= .ok (.enter f args) w)(A:∀j,(j=x\/j=y)->∀r,q_G f [zcE p q l,zr j] r (.bool (cond j)))(h:w.rangeAt b 0 (zae [x,y])):
  q_G 189 [zcE p q l,.func (.func f) #[] #[],.slice (some ⟨b,0,none⟩) 2 2] w (.int .i64 (if (cond x&&cond y)=true then 0 else 3)):=by
 have:=zr2 p q l f 2 2 b 0 [x,y] cond w rfl q_e m (λz B r=>A z (by simpa using B) r) h;rw[BS,BS,Du,Dd] at this;exact this
theorem zre(z:Int)(w:World)(hz:¬(1<=z/\z<=4)):q_G 129 [.int .i64 z] w (.tuple #[zr 0,.int .i64 2]):=by
 refine zt Tryz.func129 Tryz.ntmps129 ?_;have r:=zd 0;have q:=z9 0 0 0;have m:=zck 0 0 0;have j:=zcl 0 0 0;repeat' (first|refine s_0 ?_|refine zf 0 ?_;refine zW ?_;intro _|refine q_k 1 ?_;refine q_v (za (hc:=λ_ _ _ _=>(zh9 z _ hz))) ?_;refine zb ?_;refine zj ?_;intro _;refine q_y (zC (B:=zai 0 0 0) (hv:=za5 0 0 0) (h1:=(z9 0 0 0).symm)) ?_|refine q_k 2 ?_;refine q_x (ze (B:=zg 0) (hv:=j)) ?_;refine q_y (zl (n:=0)) ?_)
 exact zU rfl (zB (B:=zg 0) rfl (ty rfl) rfl Ev Et (zd _).symm) (zh rfl) Er ⟨rfl,rfl⟩
theorem zs0(i:Nat)(w:World)(h0:1<=i)(j:i<=4)(C:GT w):
  q_G 129 [.int .i64 (i:Int)] w (.tuple #[zr (gQ i),.int .i64 0]):=by
 refine zt Tryz.func129 Tryz.ntmps129 ?_;have K:=zcg i h0 j;have E:=zcb i h0 j;have G:=zbR i h0 j;have H:=zbH i h0 j;have m:=λA (F:Keep No w A)=>zcO i A h0 j (C.to F);generalize gL i=l,gQ i=q,gP i=p at*;have L:=z9 p q l;have M:=zd p;have N:=zd q;have O:=zd 0;have J:=zck p q l;have r:=zcl p q l;have I:=zcS p q l;repeat' (first|refine s_0 ?_|refine zf 0 ?_;refine zW ?_;intro _|refine q_k 1 ?_;refine q_v (za (hc:=zu m)) ?_;refine zb ?_;refine zj ?_;intro _;refine q_y (zC (B:=zai p q l) (hv:=za5 p q l) (h1:=(z9 p q l).symm)) ?_|refine q_k 2 ?_;refine q_x (ze (B:=zg q) (hv:=r)) ?_;refine q_y (zl (n:=q)) ?_)
 exact zU rfl (zB (B:=zg q) rfl (ty rfl) rfl Ev Et (zd _).symm) (zh rfl) Er ⟨rfl,rfl⟩
theorem zu9(z:Int)(w:World)(hz:¬(1<=z/\z<=4)):q_G 270 [.int .i64 z] w (.int .i64 0):=by
 refine zt Tryz.func270 Tryz.ntmps270 ?_;have m:=z9 0 0 0;have j:=zcS 0 0 0;repeat' (first|refine s_0 ?_|refine q_k 0 ?_|refine q_k 1 ?_;refine q_v (za (hc:=λ_ _ _ _=>(zh9 z _ hz))) ?_;refine zb ?_;refine zj ?_;intro _;refine q_y (zC (B:=zai 0 0 0) (hv:=za5 0 0 0) (h1:=(z9 0 0 0).symm)) ?_|refine q_k 2 ?_;refine q_x (zL (hv:=j)) ?_)
 exact q_r
theorem zwR(i:Nat)(w:World)(h0:1<=i)(j:i<=4)(C:GT w):
  q_G 270 [.int .i64 (i:Int)] w (.int .i64 ((gL i:Nat):Int)):=by
 refine zt Tryz.func270 Tryz.ntmps270 ?_;have K:=zcg i h0 j;have E:=zcb i h0 j;have G:=zbR i h0 j;have H:=zbH i h0 j;have m:=λA (F:Keep No w A)=>zcO i A h0 j (C.to F);generalize gL i=l,gQ i=q,gP i=p at*;have L:=z9 p q l;have M:=zd p;have N:=zd q;have O:=zd 0;have I:=zck p q l;have J:=zcl p q l;have r:=zcS p q l;repeat' (first|refine s_0 ?_|refine q_k 0 ?_|refine q_k 1 ?_;refine q_v (za (hc:=zu m)) ?_;refine zb ?_;refine zj ?_;intro _;refine q_y (zC (B:=zai p q l) (hv:=za5 p q l) (h1:=(z9 p q l).symm)) ?_|refine q_k 2 ?_;refine q_x (zL (hv:=r)) ?_)
 exact q_r
theorem zjg(i:Nat)(e:Nat)(w:World)(h0:1<=i)(A:i<=4)(J:GT w)(he:e<18446744073709551616^16)(hc:e<gQ i):
  q_G 106 [.int .i64 (i:Int),zr e] w (.tuple #[zr (4^e%gP i),.int .i64 0]):=by
 refine zt Tryz.func106 Tryz.ntmps106 ?_;have le:=zd e;have K:=zcg i h0 A;have C:=zcb i h0 A;have M:=zbR i h0 A;have N:=zbH i h0 A;have E:=λj (I:Keep No w j)=>zcO i j h0 A (J.to I);generalize gL i=l,gQ i=q,gP i=p at*;have T:=z9 p q l;have U:=zd p;have V:=zd q;have Y:=zd 0;have P:=zck p q l;have Q:=zcl p q l;have O:=zcS p q l;have m:=λj H (h:j.rangeAt H 0 (zae [e]))=>zjO p q l 190 e H (λy=>decide (y<q)) j (en rfl) (λG=>zea p q l e G C he) h;simp only[decide_eq_true hc,if_true] at m;have S:=zd 4;have f4:=λj=>zh5 4 j q_e;have F:=λj=>zj9 p q l 4 e j K q_o q_e he;have W:=zd (4^e%p);generalize 4^e%p=r at*;repeat' (first|refine s_0 ?_|refine zf 0 ?_;refine zj ?_;intro _;refine zW ?_;intro _|refine q_k 1 ?_;refine q_v (za (hc:=zu E)) ?_;refine zb ?_;refine zj ?_;intro _;refine q_y (zC (B:=zai p q l) (hv:=za5 p q l) (h1:=(z9 p q l).symm)) ?_|refine q_k 2 ?_;refine zaA ?_|refine zf 4 ?_;refine q_v (ze (B:=zai p q l)) ?_;refine q_v (ze (B:=zg e)) ?_|refine q_k 5 ?_;refine zaA ?_|refine zf 7 ?_;refine q_v (za (hc:=q_c f4)) ?_;refine zb ?_;refine zj ?_;intro _;refine q_y (zl (n:=4)) ?_|refine zf 8 ?_;refine q_v (ze (B:=zai p q l)) ?_;refine q_v (ze (B:=zg 4)) ?_;refine q_v (ze (B:=zg e)) ?_;refine q_v (za (hc:=q_c F)) ?_;refine q_y (zl (n:=r)) ?_|refine q_s (zb3 (x:=e)) ?_;rintro _ _ ⟨R,rfl,rfl⟩|(refine zy ?_;first|refine q_v (za (hc:=λj X I L=>m j _ (zp (L.has (by exact Ey F1)) Et))) ?_|refine zw ?_|fail)|fail)
 exact zU rfl (zB (B:=zg r) rfl (ty rfl) rfl Ev Et (zd _).symm) (zh rfl) Er ⟨rfl,rfl⟩
theorem zxD(i:Nat)(x:Nat)(e:Nat)(w:World)(h0:1<=i)(F:i<=4)(N:GT w)(hx:x<18446744073709551616^16)(he:e<18446744073709551616^16)(hc:zaH (gP i) (gQ i) x=true)(O:e<gQ i):
  q_G 137 [.int .i64 (i:Int),zr x,zr e] w (.tuple #[zr (x^e%gP i),.int .i64 0]):=by
 refine zt Tryz.func137 Tryz.ntmps137 ?_;have Z:=zd x;have le:=zd e;have L:=zcg i h0 F;have G:=zcb i h0 F;have P:=zbR i h0 F;have Q:=zbH i h0 F;have H:=λj (J:Keep No w j)=>zcO i j h0 F (N.to J);generalize gL i=l,gQ i=q,gP i=p at*;have U:=z9 p q l;have V:=zd p;have W:=zd q;have lz:=zd 0;have S:=zck p q l;have T:=zcl p q l;have R:=zcS p q l;have A:=λj E (h:j.rangeAt E 0 (zae [x]))=>zjO p q l 188 x E (zaH p q) j (en rfl) (λC=>zfb p q l x C L G q_o hx) h;simp only[hc,if_true] at A;have m:=λj E (h:j.rangeAt E 0 (zae [e]))=>zjO p q l 190 e E (λy=>decide (y<q)) j (en rfl) (λC=>zea p q l e C G he) h;simp only[decide_eq_true O,if_true] at m;have K:=λj=>zj9 p q l x e j L q_o hx he;have Y:=zd (x^e%p);generalize x^e%p=r at*;repeat' (first|refine s_0 ?_|refine zf 0 ?_;refine zj ?_;intro _;refine zj ?_;intro _;refine zW ?_;intro _|refine q_k 1 ?_;refine q_v (za (hc:=zu H)) ?_;refine zb ?_;refine zj ?_;intro _;refine q_y (zC (B:=zai p q l) (hv:=za5 p q l) (h1:=(z9 p q l).symm)) ?_|refine q_k 2 ?_;refine zaA ?_|refine zf 4 ?_;refine q_v (ze (B:=zai p q l)) ?_;refine q_v (ze (B:=zg x)) ?_|refine q_k 5 ?_;refine zaA ?_|refine zf 7 ?_;refine q_v (ze (B:=zai p q l)) ?_;refine q_v (ze (B:=zg e)) ?_|refine q_k 8 ?_;refine zaA ?_|refine zf 10 ?_;refine q_v (ze (B:=zai p q l)) ?_;refine q_v (ze (B:=zg x)) ?_;refine q_v (ze (B:=zg e)) ?_;refine q_v (za (hc:=q_c K)) ?_;refine q_y (zl (n:=r)) ?_|refine q_s (zb3 (x:=x)) ?_;rintro _ _ ⟨M,rfl,rfl⟩|refine q_s (zb3 (x:=e)) ?_;rintro _ _ ⟨M,rfl,rfl⟩|(refine zy ?_;first|refine q_v (za (hc:=λj X J I=>A j _ (zp (I.has (by exact Ey F1)) Et))) ?_|refine q_v (za (hc:=λj X J I=>m j _ (zp (I.has (by exact Ey F1)) Et))) ?_|refine zw ?_|fail)|fail)
 exact zU rfl (zB (B:=zg r) rfl (ty rfl) rfl Ev Et (zd _).symm) (zh rfl) Er ⟨rfl,rfl⟩
theorem zxf(i:Nat)(x:Nat)(y:Nat)(w:World)(h0:1<=i)(m:i<=4)(O:GT w)(hx:x<18446744073709551616^16)(N:y<18446744073709551616^16)(hc:(zaH (gP i) (gQ i) x&&zaH (gP i) (gQ i) y)=true):
  q_G 139 [.int .i64 (i:Int),zr x,zr y] w (.tuple #[zr (x*y%gP i),.int .i64 0]):=by
 refine zt Tryz.func139 Tryz.ntmps139 ?_;have lx:=zd x;have ly:=zd y;have L:=zcg i h0 m;have E:=zcb i h0 m;have Q:=zbR i h0 m;have R:=zbH i h0 m;have F:=λj (M:Keep No w j)=>zcO i j h0 m (O.to M);generalize gL i=l,gQ i=q,gP i=p at*;have V:=z9 p q l;have W:=zd p;have Y:=zd q;have lz:=zd 0;have H:=zck p q l;have T:=zcl p q l;have S:=zcS p q l;have A:=λj K (h:j.rangeAt K 0 (zae [x,y]))=>zro p q l 188 x y K (zaH p q) j (en rfl) (λx' I J=>by
  have C:x'<18446744073709551616^16:=by
   rcases I with rfl|rfl
   ·exact hx
   ·exact N
  exact zfb p q l x' J L E q_o C) h
 simp only[hc,if_true] at A;have G:=λj=>zlH x y p j hx N L;unfold zcC at G;simp only[if_neg (show ¬p=0 by omega)] at G;have Z:=zd (x*y%p);generalize x*y%p=r at*;repeat' (first|refine s_0 ?_|refine zf 0 ?_;refine zj ?_;intro _;refine zj ?_;intro _;refine zW ?_;intro _|refine q_k 1 ?_;refine q_v (za (hc:=zu F)) ?_;refine zb ?_;refine zj ?_;intro _;refine q_y (zC (B:=zai p q l) (hv:=za5 p q l) (h1:=(z9 p q l).symm)) ?_|refine q_k 2 ?_;refine zaA ?_|refine zf 4 ?_;refine q_v (ze (B:=zai p q l)) ?_;refine q_v (ze (B:=zg x)) ?_;refine q_v (ze (B:=zg y)) ?_|refine q_k 5 ?_;refine zaA ?_|refine zf 7 ?_;refine q_v (ze (B:=zg x)) ?_;refine q_x (ze (B:=zg y)) ?_;refine q_v (ze (B:=zg p) (hv:=H)) ?_;refine q_v (za (hc:=q_c G)) ?_;refine zb ?_;refine q_y (zl (n:=r)) ?_|refine q_s (zff (x:=x) (x':=y)) ?_;rintro _ _ ⟨U,rfl,rfl⟩|(refine zy ?_;first|refine q_v (za (hc:=λj X M P=>A j _ (zp (P.has (by exact Ey F1)) Et))) ?_|refine zw ?_|fail)|fail)
 exact zU rfl (zB (B:=zg r) rfl (ty rfl) rfl Ev Et (zd _).symm) (zh rfl) Er ⟨rfl,rfl⟩
theorem zvg(i:Nat)(x:Nat)(y:Nat)(w:World)(h0:1<=i)(m:i<=4)(N:GT w)(hx:x<18446744073709551616^16)(M:y<18446744073709551616^16)(hc:(decide (x<gQ i)&&decide (y<gQ i))=true):
  q_G 107 [.int .i64 (i:Int),zr x,zr y] w (.tuple #[zr ((x+y)%gQ i),.int .i64 0]):=by
 refine zt Tryz.func107 Tryz.ntmps107 ?_;have lx:=zd x;have ly:=zd y;have U:=zcg i h0 m;have A:=zcb i h0 m;have P:=zbR i h0 m;have Q:=zbH i h0 m;have F:=λj (L:Keep No w j)=>zcO i j h0 m (N.to L);generalize gL i=l,gQ i=q,gP i=p at*;have V:=z9 p q l;have W:=zd p;have Y:=zd q;have lz:=zd 0;have S:=zck p q l;have H:=zcl p q l;have R:=zcS p q l;have C:=λj K (h:j.rangeAt K 0 (zae [x,y]))=>zro p q l 190 x y K (λy=>decide (y<q)) j (en rfl) (λx' I J=>by
  have E:x'<18446744073709551616^16:=by
   rcases I with rfl|rfl
   ·exact hx
   ·exact M
  exact zea p q l x' J A E) h
 simp only[hc,if_true] at C;have G:=λj=>zqf x y q j hx M A;unfold zcC at G;simp only[if_neg (show ¬q=0 by omega)] at G;have Z:=zd ((x+y)%q);generalize (x+y)%q=r at*;repeat' (first|refine s_0 ?_|refine zf 0 ?_;refine zj ?_;intro _;refine zj ?_;intro _;refine zW ?_;intro _|refine q_k 1 ?_;refine q_v (za (hc:=zu F)) ?_;refine zb ?_;refine zj ?_;intro _;refine q_y (zC (B:=zai p q l) (hv:=za5 p q l) (h1:=(z9 p q l).symm)) ?_|refine q_k 2 ?_;refine zaA ?_|refine zf 4 ?_;refine q_v (ze (B:=zai p q l)) ?_;refine q_v (ze (B:=zg x)) ?_;refine q_v (ze (B:=zg y)) ?_|refine q_k 5 ?_;refine zaA ?_|refine zf 7 ?_;refine q_v (ze (B:=zg x)) ?_;refine q_x (ze (B:=zg y)) ?_;refine q_v (ze (B:=zg q) (hv:=H)) ?_;refine q_v (za (hc:=q_c G)) ?_;refine zb ?_;refine q_y (zl (n:=r)) ?_|refine q_s (zff (x:=x) (x':=y)) ?_;rintro _ _ ⟨T,rfl,rfl⟩|(refine zy ?_;first|refine q_v (za (hc:=λj X L O=>C j _ (zp (O.has (by exact Ey F1)) Et))) ?_|refine zw ?_|fail)|fail)
 exact zU rfl (zB (B:=zg r) rfl (ty rfl) rfl Ev Et (zd _).symm) (zh rfl) Er ⟨rfl,rfl⟩
theorem zuP(i:Nat)(x:Nat)(y:Nat)(w:World)(h0:1<=i)(m:i<=4)(N:GT w)(hx:x<18446744073709551616^16)(M:y<18446744073709551616^16)(hc:(decide (x<gQ i)&&decide (y<gQ i))=true):
  q_G 108 [.int .i64 (i:Int),zr x,zr y] w (.tuple #[zr (x*y%gQ i),.int .i64 0]):=by
 refine zt Tryz.func108 Tryz.ntmps108 ?_;have lx:=zd x;have ly:=zd y;have U:=zcg i h0 m;have A:=zcb i h0 m;have P:=zbR i h0 m;have Q:=zbH i h0 m;have F:=λj (L:Keep No w j)=>zcO i j h0 m (N.to L);generalize gL i=l,gQ i=q,gP i=p at*;have V:=z9 p q l;have W:=zd p;have Y:=zd q;have lz:=zd 0;have S:=zck p q l;have H:=zcl p q l;have R:=zcS p q l;have C:=λj K (h:j.rangeAt K 0 (zae [x,y]))=>zro p q l 190 x y K (λy=>decide (y<q)) j (en rfl) (λx' I J=>by
  have E:x'<18446744073709551616^16:=by
   rcases I with rfl|rfl
   ·exact hx
   ·exact M
  exact zea p q l x' J A E) h
 simp only[hc,if_true] at C;have G:=λj=>zlH x y q j hx M A;unfold zcC at G;simp only[if_neg (show ¬q=0 by omega)] at G;have Z:=zd (x*y%q);generalize x*y%q=r at*;repeat' (first|refine s_0 ?_|refine zf 0 ?_;refine zj ?_;intro _;refine zj ?_;intro _;refine zW ?_;intro _|refine q_k 1 ?_;refine q_v (za (hc:=zu F)) ?_;refine zb ?_;refine zj ?_;intro _;refine q_y (zC (B:=zai p q l) (hv:=za5 p q l) (h1:=(z9 p q l).symm)) ?_|refine q_k 2 ?_;refine zaA ?_|refine zf 4 ?_;refine q_v (ze (B:=zai p q l)) ?_;refine q_v (ze (B:=zg x)) ?_;refine q_v (ze (B:=zg y)) ?_|refine q_k 5 ?_;refine zaA ?_|refine zf 7 ?_;refine q_v (ze (B:=zg x)) ?_;refine q_x (ze (B:=zg y)) ?_;refine q_v (ze (B:=zg q) (hv:=H)) ?_;refine q_v (za (hc:=q_c G)) ?_;refine zb ?_;refine q_y (zl (n:=r)) ?_|refine q_s (zff (x:=x) (x':=y)) ?_;rintro _ _ ⟨T,rfl,rfl⟩|(refine zy ?_;first|refine q_v (za (hc:=λj X L O=>C j _ (zp (O.has (by exact Ey F1)) Et))) ?_|refine zw ?_|fail)|fail)
 exact zU rfl (zB (B:=zg r) rfl (ty rfl) rfl Ev Et (zd _).symm) (zh rfl) Er ⟨rfl,rfl⟩
theorem zdE{i x:Nat} :zaH (gP i) (gQ i) x=true↔mem i x:=by
 unfold zaH mem;exact decide_eq_true_iff
end Go.Proofs.YtdnlngbjpdbffaaGreatDoor
