/- Lemmas of this proof. -/
import Derived.Test.YtdnlngbjpdbffaaGreatDoorHJ18
set_option maxRecDepth 10000
set_option linter.all false
namespace Go.Nt
open Go Go.Sy
def zaR(p q x:Nat):Bool:=decide (0<x/\x<p/\x^q%p=1)
def za7(l x:Nat):List UInt8:=List.replicate (l-nd 256 x) 0++byt x
theorem zdr(l x:Nat)(h:nd 256 x<=l):(za7 l x).length=l:=by
 unfold za7;rw[A3,AJ,zi1];omega
end Go.Nt
namespace Go.Proofs.YtdnlngbjpdbffaaGreatDoor
open Go Go.Sy Go.Nt Go.RowKit
attribute [local irreducible] Sy SyL SyX Sy.Fn callFunc zg zad zaf gP gQ gL gS ze4 zaR
theorem zjL(p q l x e:Nat)(w:World)(hp:p<18446744073709551616^16)(h0:0<p)(hx:x<18446744073709551616^16)(he:e<18446744073709551616^16):
  q_G 192 [zcu p q l,zu x,zu e] w (zu (x^e%p)):=by
 refine zz Tryz.func192 Tryz.ntmps192 ?_;have A:=zaa p q l;have E:=zb p;have G:=zb x;have le:=zb e;have j:=zb8 p q l;have hex:=λm=>zwI x e p m hx he hp;unfold zco at hex;simp only[if_neg (show ¬p=0 by omega)] at hex;have F:=zb (x^e%p);generalize x^e%p=r at*;repeat' (first|refine s_0 ?_|refine ze 0 ?_;refine zi ?_;intro _;refine zi ?_;intro _;refine zi ?_;intro _;refine zi ?_;intro _|refine ze 1 ?_;refine q_v (zd (B:=zg x)) ?_;refine q_x (zd (B:=zg e)) ?_;refine q_v (zd (B:=zg p) (hv:=j)) ?_;refine q_v (za (hc:=q_c hex)) ?_;refine zf ?_;refine zi ?_;intro _;refine q_y (zk (n:=r)) ?_|refine ze 2 ?_;refine q_v (zd (B:=zg r)) ?_;refine q_n (zk (n:=r)) ?_)
 exact zaq rfl (zB (B:=zg r) rfl (ty rfl) rfl En Em (zb _).symm) El ⟨rfl,rfl⟩
theorem zdU(p q l x:Nat)(w:World)(m:q<18446744073709551616^16)(hx:x<18446744073709551616^16):
  q_G 190 [zcu p q l,zu x] w (.bool (decide (x<q))):=by
 refine zz Tryz.func190 Tryz.ntmps190 ?_;have A:=zaa p q l;have E:=zb q;have F:=zb x;have j:=zcb p q l;have hc:=λr=>zdn x q r hx m;have hr:decide (zcc x q<0)=decide (x<q):=decide_eq_decide.2 (by
  unfold zcc;by_cases h:x<q
  ·rw[if_pos h];exact⟨λ_=>h,λ_=>by decide⟩
  ·rw[if_neg h];split <;> omega)
 repeat' (first|refine s_0 ?_|refine ze 0 ?_;refine zi ?_;intro _;refine z9 ?_;intro _|refine ze 1 ?_;refine q_x (zd (B:=zg x)) ?_;refine q_v (zd (B:=zg q) (hv:=j)) ?_;refine q_v (za (hc:=q_c hc)) ?_;refine q_x (zm (hr:=hr)) ?_)
 exact q_r
theorem zs1{x y:Nat}(h:x<=y):zcc x y<=0:=by
 unfold zcc;by_cases h1:x<y
 ·rw[if_pos h1];decide
 ·rw[if_neg h1];split <;> omega
theorem zeT(p q l x:Nat)(w:World)(hp:p<18446744073709551616^16)(J:q<18446744073709551616^16)(h0:0<p)(hx:x<18446744073709551616^16):
  q_G 188 [zcu p q l,zu x] w (.bool (zaR p q x)):=by
 refine zz Tryz.func188 Tryz.ntmps188 ?_;have L:=zaa p q l;have M:=zb p;have N:=zb q;have O:=zb x;have K:=zb 1;have m:=zb8 p q l;have H:=zcb p q l;have A:=λj=>zdg x j hx;have hc:=λj=>zdn p x j hp hx;rcases AM x with h|h
 ·subst h;have E:zaR p q 0=false:=by unfold zaR;exact decide_eq_false (λh=>absurd h.1 q_o)
  rw[E];repeat' (first|refine s_0 ?_|refine ze 0 ?_;refine zi ?_;intro _;refine z9 ?_;intro _|refine ze 1 ?_;refine q_v (zd (B:=zg 0)) ?_;refine q_v (za (hc:=q_c A)) ?_;refine zf ?_|refine q_k 2 ?_)
  exact q_r
 simp only[decide_eq_false (show ¬x=0 by omega)] at A;by_cases hxp:x<p
 ·have g1:decide (zcc p x<=0)=false:=by rw[zpk hxp];rfl
  have F:=λj=>zjL p q l x q j hp h0 hx J;have f1:=λj=>zhB 1 j q_e;have G:=Ah (AG (x^q) h0) hp;have hr:decide (x^q%p=1)=zaR p q x:=by
   unfold zaR;exact decide_eq_decide.2 ⟨λe=>⟨h,hxp,e⟩,λe=>e.2.2⟩
  generalize zcc p x=I,x^q%p=r,zaR p q x=b at*;repeat' (first|refine s_0 ?_|refine ze 0 ?_;refine zi ?_;intro _;refine z9 ?_;intro _|refine ze 1 ?_;refine q_v (zd (B:=zg x)) ?_;refine q_v (za (hc:=q_c A)) ?_;refine zf ?_;refine q_v (zd (B:=zg p) (hv:=m)) ?_;refine q_v (zd (B:=zg x)) ?_;refine q_v (za (hc:=q_c hc)) ?_;refine q_x (zaP (hr:=g1)) ?_|refine ze 3 ?_;refine q_v (za (hc:=q_c f1)) ?_;refine zf ?_;refine zi ?_;intro _;refine q_y (zk (n:=1)) ?_|refine zal (id:=4) 6 [[],[],[],[2],[0,1,2,3],[],[0,1,2,3,4,5],[0,1,2,3,4,5,6]] mixed ?_ ?_;kernel_rfl;refine q_D (zd (B:=zaf p q l)) ?_;refine q_D (zd (B:=zg x)) ?_;refine q_D zP ?_;refine q_D (zd (B:=zg q) (hv:=H)) ?_;refine q_D (za (hc:=q_c F)) ?_;refine q_D (zd (B:=zg 1)) ?_;refine zaG ?_;refine q_v (znZ (a:=r) (b:=1) (r:=b) zuH G q_e hr) ?_;refine zo ?_|fail)
  exact q_r
 ·have g1:decide (zcc p x<=0)=true:=decide_eq_true (zs1 q_o);have E:zaR p q x=false:=by unfold zaR;exact decide_eq_false (λh=>hxp h.2.1)
  rw[E];generalize zcc p x=I at*;repeat' (first|refine s_0 ?_|refine ze 0 ?_;refine zi ?_;intro _;refine z9 ?_;intro _|refine ze 1 ?_;refine q_v (zd (B:=zg x)) ?_;refine q_v (za (hc:=q_c A)) ?_;refine zf ?_;refine q_v (zd (B:=zg p) (hv:=m)) ?_;refine q_v (zd (B:=zg x)) ?_;refine q_v (za (hc:=q_c hc)) ?_;refine q_x (zaP (hr:=g1)) ?_|refine q_k 2 ?_)
  exact q_r
theorem zpG(p q l x bc r f:Nat)(b:Bool)(w:World)(j:∀args w,(callFunc f args).run Tryz.prog w= .ok (.enter f args) w)(A:∀m,q_G f [zcu p q l,zu x] m (.bool b))
  (hc:w.cell? ⟨bc,0,none⟩=some (.func (.func f) #[] #[]))(E:w.rangeAt r 0 (zaf p q l)):
  q_G 251 [zu x,.pointer (some ⟨bc,0,none⟩),.pointer (some ⟨r,0,none⟩)] w (.bool b):=by
 refine zz Tryz.func251 Tryz.ntmps251 ?_;have H:=zaa p q l;have I:=zb x;repeat' (first|refine s_0 ?_|refine ze 0 ?_;refine z9 ?_;intro _|refine ze 1 ?_;refine q_v (zp (hv:=hc)) ?_;refine q_v (zK (B:=zaf p q l) (hv:=E)) ?_;refine q_v (zd (B:=zg x)) ?_;refine q_v (zeu (he:=j) (fst:=[]) (cap:=[]) (hc:=λm X G F=>A m)) ?_;refine zf ?_)
 exact q_r
theorem zrO(p q l f n c L M:Nat)(xs:List Nat)(cond:Nat->Bool)(w:World)(hn:xs.length=n)(T:n<=1000)(I:∀args w,(callFunc f args).run Tryz.prog w= .ok (.enter f args) w)
  (R:∀x∈xs,∀K,q_G f [zcu p q l,zu x] K (.bool (cond x)))(U:w.rangeAt L M (zad xs)):
  q_G 189 [zcu p q l,.func (.func f) #[] #[],.slice (some ⟨L,M,none⟩) n c] w (.int .i64 (if xs.all cond then 0 else 3)):=by
 refine zz Tryz.func189 Tryz.ntmps189 ?_;have V:=zaa p q l;repeat' (first|refine s_t ?_|refine ze 0 ?_;refine zi ?_;intro _;refine z9 ?_;intro _|refine ze 1 ?_;refine q_x zZ ?_|refine q_k 2 ?_)
 rename_i F G;refine zX (γ:=Nat) (λk=>[(7,.func (.func 251) #[] #[.pointer (some ⟨G,0,none⟩),.pointer (some ⟨F,0,none⟩)]),(11,.slice (some ⟨L,M,none⟩) n c),(12,.int .i64 n),(13,.int .i64 k)])
  (λ_=>[.blk G 203 [.func (.func f) #[] #[]],.blk F 194 (zaf p q l)])
  (λk=>k<=n/\(xs.take k).all cond=true) (λk=>n-k) 0 ⟨AE _,rfl⟩ ?_ ?_ ?_
 ·exact q_h
 ·exact q_h
 rintro k ⟨Q,m⟩;rcases AK k n with h|h
 ·obtain⟨x,N⟩:∃x,xs[k]?=some x:=⟨_,A2 q_o⟩;have H:w.rangeAt L (M+k*16) (zg x):=λj v S=>by
   have:=U (k*16+j) v (zdN N j v S);rwa[<-BH] at this
  have A:=R x (BE N);have W:=zb x;have E:decide ((k:Int)<(n:Int))=true:=q_d;have P:xs.take (k+1)=xs.take k++[x]:=by
   rw[CA,N];rfl
  cases hcx:cond x with
  |true=>
   rw[hcx] at A;repeat' (first|refine s_t ?_|refine ze 3 ?_;refine q_v (zm (hr:=E)) ?_|refine ze 4 ?_;refine q_v (zbk (j:=k)) ?_;refine q_v (zK (B:=zg x) (hv:=H)) ?_;refine zi ?_;intro _;refine q_n (zk (n:=x)) ?_|refine q_k 5 ?_;refine q_v (zd (B:=zg x)) ?_;refine q_v (zeu (fst:=[]) (cap:=[.pointer (some ⟨G,0,none⟩),.pointer (some ⟨F,0,none⟩)]) (hc:=λK X Q J=>zpG p q l x G F f true K I A (zq (J.has (r:=.blk G 203 [.func (.func f) #[] #[]]) q_h) Em 0 _ rfl) (zq (J.has (r:=.blk F 194 (zaf p q l)) q_h) Em))) ?_;refine zI ?_|refine ze 7 ?_;refine za9 ?_;refine zf ?_)
   refine zQ (k+1) ⟨h,by rw[P,BK,m,BI,hcx];rfl⟩ ?_ ?_ ?_
   ·show n-(k+1)<n-k;omega
   ·exact q_h
   ·exact q_h
  |false=>
   rw[hcx] at A;have O:xs.all cond=false:=by
    rw[BT];exact⟨x,BE N,by rw[hcx];decide⟩
   rw[O];repeat' (first|refine s_t ?_|refine ze 3 ?_;refine q_v (zm (hr:=E)) ?_|refine ze 4 ?_;refine q_v (zbk (j:=k)) ?_;refine q_v (zK (B:=zg x) (hv:=H)) ?_;refine zi ?_;intro _;refine q_n (zk (n:=x)) ?_|refine q_k 5 ?_;refine q_v (zd (B:=zg x)) ?_;refine q_v (zeu (fst:=[]) (cap:=[.pointer (some ⟨G,0,none⟩),.pointer (some ⟨F,0,none⟩)]) (hc:=λK X Q J=>zpG p q l x G F f false K I A (zq (J.has (r:=.blk G 203 [.func (.func f) #[] #[]]) q_h) Em 0 _ rfl) (zq (J.has (r:=.blk F 194 (zaf p q l)) q_h) Em))) ?_;refine zI ?_|refine q_k 6 ?_)
   exact q_r
 ·obtain rfl:k=n:=q_o;rw[A9 q_o] at m;have E:decide ((k:Int)<(k:Int))=false:=q_f;rw[m];repeat' (first|refine s_0 ?_|refine ze 3 ?_;refine q_v (zm (hr:=E)) ?_|refine q_k 8 ?_)
  exact q_r
theorem ztG(p q l x:Nat)(w:World)(hx:x<18446744073709551616^16)(P:nd 256 x<=l)(I:l<=1000):
  Sy.Fn Tryz.prog 250 [zcu p q l,zu x] w No (zbT 5 l ((za7 l x).map v8)):=by
 refine zz Tryz.func250 Tryz.ntmps250 ?_;have Q:=zaa p q l;have S:=zb x;have r:=zcF p q l;have G:=λH=>zmO x H hx;have E:=zi1 x;have hys:List.replicate (l-nd 256 x) (Value.int IntKind.u8 0)++(byt x).map v8=(za7 l x).map v8:=by
  unfold za7;rw[B2,BU];rfl
 generalize nd 256 x=n,byt x=D,za7 l x=F at*;have A:IntKind.i64.wrap ((l:Int)-(n:Int))=((l-n:Nat):Int):=q_w;have j:List.replicate l (Value.int IntKind.u8 0)=List.replicate (l-n) (Value.int IntKind.u8 0)++List.replicate n (Value.int IntKind.u8 0):=by
  rw[DR];congr 1;omega
 unfold zbT;repeat' (first|refine s_0 ?_|refine ze 0 ?_;refine zi ?_;intro _;refine z9 ?_;intro _|refine ze 1 ?_;refine q_v (zd (B:=zg x)) ?_;(refine q_s (zn (hc:=λH X O N=>G H)) ?_;rintro _ _ ⟨R,rfl,K,rfl,rfl⟩);refine zf ?_|refine q_k 2 ?_;refine q_x (zM (hv:=r)) ?_;refine q_x (zab (hr:=A)) ?_;refine q_v (zM (hv:=r)) ?_)
 refine q_s (zkl (n:=l-n) (c':=l) (Ec _ _)) ?_;rintro _ _ ⟨L,rfl,rfl⟩;rw[j];repeat' (first|refine s_0 ?_|(refine zx ?_;first|refine q_s (Fh (zj6 (n:=l-n) (c:=l) (s:=1) Ej (by rw[A3,AJ,AJ];omega) (Ec _ _) (by unfold maxLen;omega) (by rw[AJ,Al])) (zaB (k:=l-n) (m:=n) (km:=l) (hL:=Ej) (hr:=Rd.of (FP (C:=D.map v8) (T:=5) En Em)) (hn:=by rw[A1,E,Al]) (hkm:=by omega) (hys:=hys))) ?_;rintro _ _ ⟨rfl,J,M,rfl⟩|refine zo ?_|refine zw ?_|fail)|fail)
 exact q_r
theorem zi5(p q l f x b:Nat)(cond:Nat->Bool)(w:World)(j:∀args w,(callFunc f args).run Tryz.prog w= .ok (.enter f args) w)(r:∀m,q_G f [zcu p q l,zu x] m (.bool (cond x)))(h:w.rangeAt b 0 (zad [x])):
  q_G 189 [zcu p q l,.func (.func f) #[] #[],.slice (some ⟨b,0,none⟩) 1 1] w (.int .i64 (if cond x=true then 0 else 3)):=by
 have:=zrO p q l f 1 1 b 0 [x] cond w rfl q_e j (λy A m=>by rw[AC.1 A];exact r m) h;rw[BI,DN,E0] at this;exact this
theorem zqE(p q l f x y b:Nat)(cond:Nat->Bool)(w:World)(m:∀args w,(callFunc f args).run Tryz.prog w= .ok (.enter f args) w)(A:∀j,(j=x\/j=y)->∀r,q_G f [zcu p q l,zu j] r (.bool (cond j)))(h:w.rangeAt b 0 (zad [x,y])):
  q_G 189 [zcu p q l,.func (.func f) #[] #[],.slice (some ⟨b,0,none⟩) 2 2] w (.int .i64 (if (cond x&&cond y)=true then 0 else 3)):=by
 have:=zrO p q l f 2 2 b 0 [x,y] cond w rfl q_e m (λz B r=>A z (by simpa using B) r) h;rw[BI,BI,DN,E0] at this;exact this
theorem zpO(z:Int)(w:World)(hz:¬(1<=z/\z<=4)):q_G 129 [.int .i64 z] w (.tuple #[zu 0,.int .i64 2]):=by
 refine zz Tryz.func129 Tryz.ntmps129 ?_;have r:=zb 0;have q:=zaa 0 0 0;have m:=zb8 0 0 0;have j:=zcb 0 0 0;repeat' (first|refine s_0 ?_|refine ze 0 ?_;refine z9 ?_;intro _|refine q_k 1 ?_;refine q_v (za (hc:=λ_ _ _ _=>(zhi z _ hz))) ?_;refine zf ?_;refine zi ?_;intro _;refine q_y (zA (B:=zaf 0 0 0) (hv:=za6 0 0 0) (h1:=(zaa 0 0 0).symm)) ?_|refine q_k 2 ?_;refine q_x (zd (B:=zg 0) (hv:=j)) ?_;refine q_y (zk (n:=0)) ?_)
 exact zT rfl (zB (B:=zg 0) rfl (ty rfl) rfl En Em (zb _).symm) (zj rfl) El ⟨rfl,rfl⟩
theorem zrW(i:Nat)(w:World)(h0:1<=i)(j:i<=4)(E:GT w):
  q_G 129 [.int .i64 (i:Int)] w (.tuple #[zu (gQ i),.int .i64 0]):=by
 refine zz Tryz.func129 Tryz.ntmps129 ?_;have L:=zcr i h0 j;have F:=zb7 i h0 j;have H:=zbW i h0 j;have I:=zbD i h0 j;have m:=λA (G:Keep No w A)=>zcy i A h0 j (E.to G);generalize gL i=l,gQ i=q,gP i=p at*;have M:=zaa p q l;have N:=zb p;have O:=zb q;have P:=zb 0;have K:=zb8 p q l;have r:=zcb p q l;have J:=zcF p q l;repeat' (first|refine s_0 ?_|refine ze 0 ?_;refine z9 ?_;intro _|refine q_k 1 ?_;refine q_v (za (hc:=zr m)) ?_;refine zf ?_;refine zi ?_;intro _;refine q_y (zA (B:=zaf p q l) (hv:=za6 p q l) (h1:=(zaa p q l).symm)) ?_|refine q_k 2 ?_;refine q_x (zd (B:=zg q) (hv:=r)) ?_;refine q_y (zk (n:=q)) ?_)
 exact zT rfl (zB (B:=zg q) rfl (ty rfl) rfl En Em (zb _).symm) (zj rfl) El ⟨rfl,rfl⟩
theorem zs4(z:Int)(w:World)(hz:¬(1<=z/\z<=4)):q_G 270 [.int .i64 z] w (.int .i64 0):=by
 refine zz Tryz.func270 Tryz.ntmps270 ?_;have m:=zaa 0 0 0;have j:=zcF 0 0 0;repeat' (first|refine s_0 ?_|refine q_k 0 ?_|refine q_k 1 ?_;refine q_v (za (hc:=λ_ _ _ _=>(zhi z _ hz))) ?_;refine zf ?_;refine zi ?_;intro _;refine q_y (zA (B:=zaf 0 0 0) (hv:=za6 0 0 0) (h1:=(zaa 0 0 0).symm)) ?_|refine q_k 2 ?_;refine q_x (zM (hv:=j)) ?_)
 exact q_r
theorem zvU(i:Nat)(w:World)(h0:1<=i)(j:i<=4)(E:GT w):
  q_G 270 [.int .i64 (i:Int)] w (.int .i64 ((gL i:Nat):Int)):=by
 refine zz Tryz.func270 Tryz.ntmps270 ?_;have L:=zcr i h0 j;have F:=zb7 i h0 j;have H:=zbW i h0 j;have I:=zbD i h0 j;have m:=λA (G:Keep No w A)=>zcy i A h0 j (E.to G);generalize gL i=l,gQ i=q,gP i=p at*;have M:=zaa p q l;have N:=zb p;have O:=zb q;have P:=zb 0;have J:=zb8 p q l;have K:=zcb p q l;have r:=zcF p q l;repeat' (first|refine s_0 ?_|refine q_k 0 ?_|refine q_k 1 ?_;refine q_v (za (hc:=zr m)) ?_;refine zf ?_;refine zi ?_;intro _;refine q_y (zA (B:=zaf p q l) (hv:=za6 p q l) (h1:=(zaa p q l).symm)) ?_|refine q_k 2 ?_;refine q_x (zM (hv:=r)) ?_)
 exact q_r
theorem zh5(i:Nat)(e:Nat)(w:World)(h0:1<=i)(A:i<=4)(K:GT w)(he:e<18446744073709551616^16)(hc:e<gQ i):
  q_G 106 [.int .i64 (i:Int),zu e] w (.tuple #[zu (4^e%gP i),.int .i64 0]):=by
 refine zz Tryz.func106 Tryz.ntmps106 ?_;have le:=zb e;have L:=zcr i h0 A;have E:=zb7 i h0 A;have N:=zbW i h0 A;have O:=zbD i h0 A;have F:=λj (J:Keep No w j)=>zcy i j h0 A (K.to J);generalize gL i=l,gQ i=q,gP i=p at*;have U:=zaa p q l;have V:=zb p;have W:=zb q;have Z:=zb 0;have Q:=zb8 p q l;have R:=zcb p q l;have P:=zcF p q l;have m:=λj I (h:j.rangeAt I 0 (zad [e]))=>zi5 p q l 190 e I (λy=>decide (y<q)) j (en rfl) (λH=>zdU p q l e H E he) h;simp only[decide_eq_true hc,if_true] at m;have T:=zb 4;have f4:=λj=>zhB 4 j q_e;have G:=λj=>zjL p q l 4 e j L q_o q_e he;have Y:=zb (4^e%p);generalize 4^e%p=r at*;repeat' (first|refine s_0 ?_|refine ze 0 ?_;refine zi ?_;intro _;refine z9 ?_;intro _|refine q_k 1 ?_;refine q_v (za (hc:=zr F)) ?_;refine zf ?_;refine zi ?_;intro _;refine q_y (zA (B:=zaf p q l) (hv:=za6 p q l) (h1:=(zaa p q l).symm)) ?_|refine q_k 2 ?_;refine zat ?_|refine ze 4 ?_;refine q_v (zd (B:=zaf p q l)) ?_;refine q_v (zd (B:=zg e)) ?_|refine q_k 5 ?_;refine zat ?_|refine ze 7 ?_;refine q_v (za (hc:=q_c f4)) ?_;refine zf ?_;refine zi ?_;intro _;refine q_y (zk (n:=4)) ?_|refine ze 8 ?_;refine q_v (zd (B:=zaf p q l)) ?_;refine q_v (zd (B:=zg 4)) ?_;refine q_v (zd (B:=zg e)) ?_;refine q_v (za (hc:=q_c G)) ?_;refine q_y (zk (n:=r)) ?_|refine q_s (zbX (x:=e)) ?_;rintro _ _ ⟨S,rfl,rfl⟩|(refine zx ?_;first|refine q_v (za (hc:=λj X J M=>m j _ (zq (M.has (by exact Et Ev)) Em))) ?_|refine zo ?_|fail)|fail)
 exact zT rfl (zB (B:=zg r) rfl (ty rfl) rfl En Em (zb _).symm) (zj rfl) El ⟨rfl,rfl⟩
theorem zvp(i:Nat)(x:Nat)(e:Nat)(w:World)(h0:1<=i)(G:i<=4)(O:GT w)(hx:x<18446744073709551616^16)(he:e<18446744073709551616^16)(hc:zaR (gP i) (gQ i) x=true)(P:e<gQ i):
  q_G 137 [.int .i64 (i:Int),zu x,zu e] w (.tuple #[zu (x^e%gP i),.int .i64 0]):=by
 refine zz Tryz.func137 Tryz.ntmps137 ?_;have lx:=zb x;have le:=zb e;have M:=zcr i h0 G;have H:=zb7 i h0 G;have Q:=zbW i h0 G;have R:=zbD i h0 G;have I:=λj (K:Keep No w j)=>zcy i j h0 G (O.to K);generalize gL i=l,gQ i=q,gP i=p at*;have V:=zaa p q l;have W:=zb p;have Y:=zb q;have lz:=zb 0;have T:=zb8 p q l;have U:=zcb p q l;have S:=zcF p q l;have A:=λj F (h:j.rangeAt F 0 (zad [x]))=>zi5 p q l 188 x F (zaR p q) j (en rfl) (λE=>zeT p q l x E M H q_o hx) h;simp only[hc,if_true] at A;have m:=λj F (h:j.rangeAt F 0 (zad [e]))=>zi5 p q l 190 e F (λy=>decide (y<q)) j (en rfl) (λE=>zdU p q l e E H he) h;simp only[decide_eq_true P,if_true] at m;have L:=λj=>zjL p q l x e j M q_o hx he;have Z:=zb (x^e%p);generalize x^e%p=r at*;repeat' (first|refine s_0 ?_|refine ze 0 ?_;refine zi ?_;intro _;refine zi ?_;intro _;refine z9 ?_;intro _|refine q_k 1 ?_;refine q_v (za (hc:=zr I)) ?_;refine zf ?_;refine zi ?_;intro _;refine q_y (zA (B:=zaf p q l) (hv:=za6 p q l) (h1:=(zaa p q l).symm)) ?_|refine q_k 2 ?_;refine zat ?_|refine ze 4 ?_;refine q_v (zd (B:=zaf p q l)) ?_;refine q_v (zd (B:=zg x)) ?_|refine q_k 5 ?_;refine zat ?_|refine ze 7 ?_;refine q_v (zd (B:=zaf p q l)) ?_;refine q_v (zd (B:=zg e)) ?_|refine q_k 8 ?_;refine zat ?_|refine ze 10 ?_;refine q_v (zd (B:=zaf p q l)) ?_;refine q_v (zd (B:=zg x)) ?_;refine q_v (zd (B:=zg e)) ?_;refine q_v (za (hc:=q_c L)) ?_;refine q_y (zk (n:=r)) ?_|refine q_s (zbX (x:=x)) ?_;rintro _ _ ⟨N,rfl,rfl⟩|refine q_s (zbX (x:=e)) ?_;rintro _ _ ⟨N,rfl,rfl⟩|(refine zx ?_;first|refine q_v (za (hc:=λj X K J=>A j _ (zq (J.has (by exact Et Ev)) Em))) ?_|refine q_v (za (hc:=λj X K J=>m j _ (zq (J.has (by exact Et Ev)) Em))) ?_|refine zo ?_|fail)|fail)
 exact zT rfl (zB (B:=zg r) rfl (ty rfl) rfl En Em (zb _).symm) (zj rfl) El ⟨rfl,rfl⟩
theorem zv1(i:Nat)(x:Nat)(y:Nat)(w:World)(h0:1<=i)(m:i<=4)(P:GT w)(hx:x<18446744073709551616^16)(O:y<18446744073709551616^16)(hc:(zaR (gP i) (gQ i) x&&zaR (gP i) (gQ i) y)=true):
  q_G 139 [.int .i64 (i:Int),zu x,zu y] w (.tuple #[zu (x*y%gP i),.int .i64 0]):=by
 refine zz Tryz.func139 Tryz.ntmps139 ?_;have lx:=zb x;have ly:=zb y;have M:=zcr i h0 m;have F:=zb7 i h0 m;have R:=zbW i h0 m;have S:=zbD i h0 m;have G:=λj (N:Keep No w j)=>zcy i j h0 m (P.to N);generalize gL i=l,gQ i=q,gP i=p at*;have W:=zaa p q l;have Y:=zb p;have Z:=zb q;have lz:=zb 0;have I:=zb8 p q l;have U:=zcb p q l;have T:=zcF p q l;have A:=λj L (h:j.rangeAt L 0 (zad [x,y]))=>zqE p q l 188 x y L (zaR p q) j (en rfl) (λx' J K=>by
  have E:x'<18446744073709551616^16:=by
   rcases J with rfl|rfl
   ·exact hx
   ·exact O
  exact zeT p q l x' K M F q_o E) h
 simp only[hc,if_true] at A;have H:=λj=>zlb x y p j hx O M;unfold zco at H;simp only[if_neg (show ¬p=0 by omega)] at H;have lr:=zb (x*y%p);generalize x*y%p=r at*;repeat' (first|refine s_0 ?_|refine ze 0 ?_;refine zi ?_;intro _;refine zi ?_;intro _;refine z9 ?_;intro _|refine q_k 1 ?_;refine q_v (za (hc:=zr G)) ?_;refine zf ?_;refine zi ?_;intro _;refine q_y (zA (B:=zaf p q l) (hv:=za6 p q l) (h1:=(zaa p q l).symm)) ?_|refine q_k 2 ?_;refine zat ?_|refine ze 4 ?_;refine q_v (zd (B:=zaf p q l)) ?_;refine q_v (zd (B:=zg x)) ?_;refine q_v (zd (B:=zg y)) ?_|refine q_k 5 ?_;refine zat ?_|refine ze 7 ?_;refine q_v (zd (B:=zg x)) ?_;refine q_x (zd (B:=zg y)) ?_;refine q_v (zd (B:=zg p) (hv:=I)) ?_;refine q_v (za (hc:=q_c H)) ?_;refine zf ?_;refine q_y (zk (n:=r)) ?_|refine q_s (zeO (x:=x) (x':=y)) ?_;rintro _ _ ⟨V,rfl,rfl⟩|(refine zx ?_;first|refine q_v (za (hc:=λj X N Q=>A j _ (zq (Q.has (by exact Et Ev)) Em))) ?_|refine zo ?_|fail)|fail)
 exact zT rfl (zB (B:=zg r) rfl (ty rfl) rfl En Em (zb _).symm) (zj rfl) El ⟨rfl,rfl⟩
theorem zsS(i:Nat)(x:Nat)(y:Nat)(w:World)(h0:1<=i)(m:i<=4)(O:GT w)(hx:x<18446744073709551616^16)(N:y<18446744073709551616^16)(hc:(decide (x<gQ i)&&decide (y<gQ i))=true):
  q_G 107 [.int .i64 (i:Int),zu x,zu y] w (.tuple #[zu ((x+y)%gQ i),.int .i64 0]):=by
 refine zz Tryz.func107 Tryz.ntmps107 ?_;have lx:=zb x;have ly:=zb y;have V:=zcr i h0 m;have A:=zb7 i h0 m;have Q:=zbW i h0 m;have R:=zbD i h0 m;have G:=λj (M:Keep No w j)=>zcy i j h0 m (O.to M);generalize gL i=l,gQ i=q,gP i=p at*;have W:=zaa p q l;have Y:=zb p;have Z:=zb q;have lz:=zb 0;have T:=zb8 p q l;have I:=zcb p q l;have S:=zcF p q l;have E:=λj L (h:j.rangeAt L 0 (zad [x,y]))=>zqE p q l 190 x y L (λy=>decide (y<q)) j (en rfl) (λx' J K=>by
  have F:x'<18446744073709551616^16:=by
   rcases J with rfl|rfl
   ·exact hx
   ·exact N
  exact zdU p q l x' K A F) h
 simp only[hc,if_true] at E;have H:=λj=>zpC x y q j hx N A;unfold zco at H;simp only[if_neg (show ¬q=0 by omega)] at H;have lr:=zb ((x+y)%q);generalize (x+y)%q=r at*;repeat' (first|refine s_0 ?_|refine ze 0 ?_;refine zi ?_;intro _;refine zi ?_;intro _;refine z9 ?_;intro _|refine q_k 1 ?_;refine q_v (za (hc:=zr G)) ?_;refine zf ?_;refine zi ?_;intro _;refine q_y (zA (B:=zaf p q l) (hv:=za6 p q l) (h1:=(zaa p q l).symm)) ?_|refine q_k 2 ?_;refine zat ?_|refine ze 4 ?_;refine q_v (zd (B:=zaf p q l)) ?_;refine q_v (zd (B:=zg x)) ?_;refine q_v (zd (B:=zg y)) ?_|refine q_k 5 ?_;refine zat ?_|refine ze 7 ?_;refine q_v (zd (B:=zg x)) ?_;refine q_x (zd (B:=zg y)) ?_;refine q_v (zd (B:=zg q) (hv:=I)) ?_;refine q_v (za (hc:=q_c H)) ?_;refine zf ?_;refine q_y (zk (n:=r)) ?_|refine q_s (zeO (x:=x) (x':=y)) ?_;rintro _ _ ⟨U,rfl,rfl⟩|(refine zx ?_;first|refine q_v (za (hc:=λj X M P=>E j _ (zq (P.has (by exact Et Ev)) Em))) ?_|refine zo ?_|fail)|fail)
 exact zT rfl (zB (B:=zg r) rfl (ty rfl) rfl En Em (zb _).symm) (zj rfl) El ⟨rfl,rfl⟩
theorem ztw(i:Nat)(x:Nat)(y:Nat)(w:World)(h0:1<=i)(m:i<=4)(O:GT w)(hx:x<18446744073709551616^16)(N:y<18446744073709551616^16)(hc:(decide (x<gQ i)&&decide (y<gQ i))=true):
  q_G 108 [.int .i64 (i:Int),zu x,zu y] w (.tuple #[zu (x*y%gQ i),.int .i64 0]):=by
 refine zz Tryz.func108 Tryz.ntmps108 ?_;have lx:=zb x;have ly:=zb y;have V:=zcr i h0 m;have A:=zb7 i h0 m;have Q:=zbW i h0 m;have R:=zbD i h0 m;have G:=λj (M:Keep No w j)=>zcy i j h0 m (O.to M);generalize gL i=l,gQ i=q,gP i=p at*;have W:=zaa p q l;have Y:=zb p;have Z:=zb q;have lz:=zb 0;have T:=zb8 p q l;have I:=zcb p q l;have S:=zcF p q l;have E:=λj L (h:j.rangeAt L 0 (zad [x,y]))=>zqE p q l 190 x y L (λy=>decide (y<q)) j (en rfl) (λx' J K=>by
  have F:x'<18446744073709551616^16:=by
   rcases J with rfl|rfl
   ·exact hx
   ·exact N
  exact zdU p q l x' K A F) h
 simp only[hc,if_true] at E;have H:=λj=>zlb x y q j hx N A;unfold zco at H;simp only[if_neg (show ¬q=0 by omega)] at H;have lr:=zb (x*y%q);generalize x*y%q=r at*;repeat' (first|refine s_0 ?_|refine ze 0 ?_;refine zi ?_;intro _;refine zi ?_;intro _;refine z9 ?_;intro _|refine q_k 1 ?_;refine q_v (za (hc:=zr G)) ?_;refine zf ?_;refine zi ?_;intro _;refine q_y (zA (B:=zaf p q l) (hv:=za6 p q l) (h1:=(zaa p q l).symm)) ?_|refine q_k 2 ?_;refine zat ?_|refine ze 4 ?_;refine q_v (zd (B:=zaf p q l)) ?_;refine q_v (zd (B:=zg x)) ?_;refine q_v (zd (B:=zg y)) ?_|refine q_k 5 ?_;refine zat ?_|refine ze 7 ?_;refine q_v (zd (B:=zg x)) ?_;refine q_x (zd (B:=zg y)) ?_;refine q_v (zd (B:=zg q) (hv:=I)) ?_;refine q_v (za (hc:=q_c H)) ?_;refine zf ?_;refine q_y (zk (n:=r)) ?_|refine q_s (zeO (x:=x) (x':=y)) ?_;rintro _ _ ⟨U,rfl,rfl⟩|(refine zx ?_;first|refine q_v (za (hc:=λj X M P=>E j _ (zq (P.has (by exact Et Ev)) Em))) ?_|refine zo ?_|fail)|fail)
 exact zT rfl (zB (B:=zg r) rfl (ty rfl) rfl En Em (zb _).symm) (zj rfl) El ⟨rfl,rfl⟩
theorem zdm{i x:Nat} :zaR (gP i) (gQ i) x=true↔mem i x:=by
 unfold zaR mem;exact decide_eq_true_iff
end Go.Proofs.YtdnlngbjpdbffaaGreatDoor
