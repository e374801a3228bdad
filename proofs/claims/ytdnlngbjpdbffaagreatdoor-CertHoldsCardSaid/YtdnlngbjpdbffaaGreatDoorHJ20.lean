/- Lemmas of this proof. -/
import Derived.Test.YtdnlngbjpdbffaaGreatDoorHJ19
set_option maxHeartbeats 1000000
set_option maxRecDepth 10000
set_option linter.all false
namespace Go.Nt
open Go Go.Sy
theorem zkv{i x:Nat}(h0:1<=i)(j:i<=4)(h:x<gP i):nd 256 x<=gL i:=by
 rw[<-zn5 i h0 j];exact zcI 256 x _ q_e (Ah h (zcg 256 (gP i) q_e))
theorem zd2{p q x:Nat}(h:zaR p q x=true):x<p:=by
 unfold zaR at h;exact(of_decide_eq_true h).2.1
theorem zxd(i:Nat):gQ i<=gP i:=C6 _ _
theorem zsh(q X R d:Nat):(X%q*R%q+d)%q=(X*R+d)%q:=by
 rw[Nat.mod_mul_mod,Nat.mod_add_mod]
end Go.Nt
namespace Go.Proofs.YtdnlngbjpdbffaaGreatDoor
section
open Go Go.Sy Go.Nt Go.RowKit
attribute [local irreducible] Sy SyL SyX Sy.Fn callFunc zg zad zaf gP gQ gL gS ze4 zaR
def ziJ(i x:Nat)(v:Value)(R:List Res):Prop:=∃a c,v= .tuple #[.slice a (gL i) c,.int .i64 0]/\R= [.row (.slice a (gL i) c) 5 1 (gL i) ((za7 (gL i) x).map v8)]
theorem zl0(i x f:Nat)(cond:Nat->Bool)(w:World)(h0:1<=i)(m:i<=4)(N:GT w)(hx:x<18446744073709551616^16)(E:∀args w,(callFunc f args).run Tryz.prog w= .ok (.enter f args) w)(P:∀j,q_G f [zcu (gP i) (gQ i) (gL i),zu x] j (.bool (cond x)))(hc:cond x=true)(I:x<gP i):Sy.Fn Tryz.prog 187 [.int .i64 (i:Int),zu x,.func (.func f) #[] #[]] w No (ziJ i x):=by
 refine zz Tryz.func187 Tryz.ntmps187 ?_;have lx:=zb x;have J:=zkv h0 m I;have M:=(zgM i h0 m).2;unfold ziJ;have hW:=zcr i h0 m;have O:=zb7 i h0 m;have Q:=zbW i h0 m;have S:=zbD i h0 m;have G:=λj (H:Keep No w j)=>zcy i j h0 m (N.to H);generalize gL i=l,gQ i=q,gP i=p at*;have lS:=zaa p q l;have lp:=zb p;have lq:=zb q;have lz:=zb 0;have U:=zb8 p q l;have V:=zcb p q l;have T:=zcF p q l;have r:=λj K (h:j.rangeAt K 0 (zad [x]))=>zi5 p q l f x K cond j E P h;simp only[hc,if_true] at r;have A:=λj=>ztG p q l x j hx J q_o;unfold zbT at A;generalize za7 l x=F at*;repeat' (first|refine s_0 ?_|refine ze 0 ?_;refine z9 ?_;intro _|refine q_k 1 ?_;refine q_v (za (hc:=zr G)) ?_;refine zf ?_;refine zi ?_;intro _;refine q_y (zA (B:=zaf p q l) (hv:=za6 p q l) (h1:=(zaa p q l).symm)) ?_|refine q_k 2 ?_;refine zat ?_|refine ze 4 ?_;refine q_x (zd (B:=zaf p q l)) ?_;refine q_v (zd (B:=zg x)) ?_|refine q_k 5 ?_;refine zat ?_|refine ze 7 ?_;refine q_v (zd (B:=zaf p q l)) ?_;refine q_v (zd (B:=zg x)) ?_;(refine q_s (zn (hc:=λj X H L=>A j)) ?_;rintro _ _ ⟨R,rfl,W,Z,rfl,rfl⟩);refine zf ?_|refine q_s (zbX (x:=x)) ?_;rintro _ _ ⟨Y,rfl,rfl⟩|(refine zx ?_;first|refine q_v (za (hc:=λj X H L=>r j _ (zq (L.has (by exact Et Ev)) Em))) ?_|refine zo ?_|fail)|fail)
 exact zT rfl (zj rfl) (zj rfl) q_h ⟨_,_,rfl,rfl⟩
theorem zlC(i x:Nat)(w:World)(h0:1<=i)(j:i<=4)(r:GT w)(hx:x<18446744073709551616^16)(hc:zaR (gP i) (gQ i) x=true):Sy.Fn Tryz.prog 104 [.int .i64 (i:Int),zu x] w No (ziJ i x):=by
 refine zz Tryz.func104 Tryz.ntmps104 ?_;have H:=zb x;have E:=λq (A:Keep No w q)=>zl0 i x 188 (zaR (gP i) (gQ i)) q h0 j (r.to A) hx (en rfl) (λm=>zeT _ _ _ x m (zcr i h0 j) (zb7 i h0 j) (by have:=zbW i h0 j;omega) hx) hc (zd2 hc);unfold ziJ at*;repeat' (first|refine s_0 ?_|refine ze 0 ?_;refine z9 ?_;intro _|refine q_k 1 ?_;refine q_v (zd (B:=zg x)) ?_;(refine q_s (zn (hc:=zr E)) ?_;rintro _ _ ⟨R,rfl,F,G,rfl,rfl⟩);refine zf ?_)
 exact zT rfl (zj rfl) (zj rfl) q_h ⟨_,_,rfl,rfl⟩
theorem zkn(i x:Nat)(w:World)(h0:1<=i)(m:i<=4)(r:GT w)(hx:x<18446744073709551616^16)(hc:decide (x<gQ i)=true):Sy.Fn Tryz.prog 109 [.int .i64 (i:Int),zu x] w No (ziJ i x):=by
 refine zz Tryz.func109 Tryz.ntmps109 ?_;have H:=zb x;have E:=λq (A:Keep No w q)=>zl0 i x 190 (λy=>decide (y<gQ i)) q h0 m (r.to A) hx (en rfl) (λj=>zdU _ _ _ x j (zb7 i h0 m) hx) hc (AZ (of_decide_eq_true hc) (zxd i));unfold ziJ at*;repeat' (first|refine s_0 ?_|refine ze 0 ?_;refine z9 ?_;intro _|refine q_k 1 ?_;refine q_v (zd (B:=zg x)) ?_;(refine q_s (zn (hc:=zr E)) ?_;rintro _ _ ⟨R,rfl,F,G,rfl,rfl⟩);refine zf ?_)
 exact zT rfl (zj rfl) (zj rfl) q_h ⟨_,_,rfl,rfl⟩
theorem zlO(z:Int)(f:Nat)(a:Option Addr)(n c:Nat)(w:World)(hz:¬(1<=z/\z<=4)):q_G 210 [.int .i64 z,.slice a n c,.func (.func f) #[] #[]] w (.tuple #[zu 0,.int .i64 2]):=by
 refine zz Tryz.func210 Tryz.ntmps210 ?_;have j:=zaa 0 0 0;have m:=zb 0;repeat' (first|refine s_t ?_|refine ze 0 ?_;refine z9 ?_;intro _|refine q_k 1 ?_;refine q_v (za (hc:=λ_ _ _ _=>(zhi z _ hz))) ?_;refine zf ?_;refine zi ?_;intro _;refine q_y (zA (B:=zaf 0 0 0) (hv:=za6 0 0 0) (h1:=(zaa 0 0 0).symm)) ?_|refine q_k 2 ?_;refine zat ?_;refine zf ?_|refine ze 3 ?_;refine q_x zc0 ?_;refine q_y (zk (n:=0)) ?_)
 exact zT rfl (zB (B:=zg 0) rfl (ty rfl) rfl En Em (zb _).symm) (zj rfl) El ⟨rfl,rfl⟩
theorem zjo(i f:Nat)(a:Option Addr)(n c:Nat)(w:World)(h0:1<=i)(j:i<=4)(E:GT w)(hn:n<gL i):q_G 210 [.int .i64 (i:Int),.slice a n c,.func (.func f) #[] #[]] w (.tuple #[zu 0,.int .i64 4]):=by
 refine zz Tryz.func210 Tryz.ntmps210 ?_;have L:=zcr i h0 j;have F:=zb7 i h0 j;have H:=zbW i h0 j;have I:=zbD i h0 j;have m:=λA (G:Keep No w A)=>zcy i A h0 j (E.to G);generalize gL i=l,gQ i=q,gP i=p at*;have M:=zaa p q l;have N:=zb p;have O:=zb q;have P:=zb 0;have J:=zb8 p q l;have K:=zcb p q l;have r:=zcF p q l;have g1:decide ((n:Int)<(l:Int))=true:=q_d;repeat' (first|refine s_t ?_|refine ze 0 ?_;refine z9 ?_;intro _|refine q_k 1 ?_;refine q_v (za (hc:=zr m)) ?_;refine zf ?_;refine zi ?_;intro _;refine q_y (zA (B:=zaf p q l) (hv:=za6 p q l) (h1:=(zaa p q l).symm)) ?_|refine q_k 2 ?_;refine zat ?_;refine zf ?_|refine q_k 4 ?_;refine q_v (zM (hv:=r)) ?_;refine q_x (zm (hr:=g1)) ?_|refine ze 5 ?_;refine q_v zc0 ?_;refine q_y (zk (n:=0)) ?_)
 exact zT rfl (zB (B:=zg 0) rfl (ty rfl) rfl En Em (zb _).symm) (zj rfl) El ⟨rfl,rfl⟩
theorem zj7(i f:Nat)(a:Option Addr)(n c:Nat)(w:World)(h0:1<=i)(j:i<=4)(E:GT w)(hn:gL i<n):q_G 210 [.int .i64 (i:Int),.slice a n c,.func (.func f) #[] #[]] w (.tuple #[zu 0,.int .i64 5]):=by
 refine zz Tryz.func210 Tryz.ntmps210 ?_;have L:=zcr i h0 j;have F:=zb7 i h0 j;have H:=zbW i h0 j;have I:=zbD i h0 j;have r:=λA (G:Keep No w A)=>zcy i A h0 j (E.to G);generalize gL i=l,gQ i=q,gP i=p at*;have M:=zaa p q l;have N:=zb p;have O:=zb q;have P:=zb 0;have J:=zb8 p q l;have K:=zcb p q l;have m:=zcF p q l;have g1:decide ((n:Int)<(l:Int))=false:=q_f;have g2:decide ((n:Int)>(l:Int))=true:=q_d;repeat' (first|refine s_t ?_|refine ze 0 ?_;refine z9 ?_;intro _|refine q_k 1 ?_;refine q_v (za (hc:=zr r)) ?_;refine zf ?_;refine zi ?_;intro _;refine q_y (zA (B:=zaf p q l) (hv:=za6 p q l) (h1:=(zaa p q l).symm)) ?_|refine q_k 2 ?_;refine zat ?_;refine zf ?_|refine q_k 4 ?_;refine q_v (zM (hv:=m)) ?_;refine q_x (zm (hr:=g1)) ?_|refine q_k 6 ?_;refine q_v (zM (hv:=m)) ?_;refine q_x (zF (hr:=g2)) ?_|refine ze 7 ?_;refine q_v zc0 ?_;refine q_y (zk (n:=0)) ?_)
 exact zT rfl (zB (B:=zg 0) rfl (ty rfl) rfl En Em (zb _).symm) (zj rfl) El ⟨rfl,rfl⟩
theorem zmT(i f:Nat)(cond:Nat->Bool)(a:Option Addr)(n c:Nat)(m:List UInt8)(w:World)(h0:1<=i)(r:i<=4)(O:GT w)(hn:n=gL i)(R:m.length=n)(E:n<=c)(hb:SlA w a (m.map v8))(J:∀args w,(callFunc f args).run Tryz.prog w= .ok (.enter f args) w)(K:∀x,x<18446744073709551616^16->∀j,q_G f [zcu (gP i) (gQ i) (gL i),zu x] j (.bool (cond x)))(hc:cond (bev 256 (bn m))=false):
  q_G 210 [.int .i64 (i:Int),.slice a n c,.func (.func f) #[] #[]] w (.tuple #[zu 0,.int .i64 3]):=by
 refine zz Tryz.func210 Tryz.ntmps210 ?_;have N:=(zgM i h0 r).2;have Y:=zcr i h0 r;have P:=zb7 i h0 r;have S:=zbW i h0 r;have T:=zbD i h0 r;have L:=λj (I:Keep No w j)=>zcy i j h0 r (O.to I);generalize gL i=l,gQ i=q,gP i=p at*;have Z:=zaa p q l;have lp:=zb p;have lq:=zb q;have lz:=zb 0;have U:=zb8 p q l;have V:=zcb p q l;have G:=zcF p q l;have H:bev 256 (bn m)<18446744073709551616^16:=by
  rw[zht 256 8 128 rfl rfl];refine AZ (zfA 256 (bn m) (zhr m)) ?_;rw[show(bn m).length=m.length from A1 _];exact AR q_e q_o
 have F:=λj (I:Keep No w j)=>zb9 a n c m j R E (hb.to I (λ_ h=> .inr h)).sla q_o;rw[if_pos H] at F;have K:=K _ H;have g1:decide ((n:Int)<(l:Int))=false:=q_f;have g2:decide ((n:Int)>(l:Int))=false:=q_f;generalize bev 256 (bn m)=x at*;have lx:=zb x;have A:=λj M (h:j.rangeAt M 0 (zad [x]))=>zi5 p q l f x M cond j J K h;simp only[hc,Dp,if_false] at A;repeat' (first|refine s_t ?_|refine ze 0 ?_;refine z9 ?_;intro _|refine q_k 1 ?_;refine q_v (za (hc:=zr L)) ?_;refine zf ?_;refine zi ?_;intro _;refine q_y (zA (B:=zaf p q l) (hv:=za6 p q l) (h1:=(zaa p q l).symm)) ?_|refine q_k 2 ?_;refine zat ?_;refine zf ?_|refine q_k 4 ?_;refine q_v (zM (hv:=G)) ?_;refine q_x (zm (hr:=g1)) ?_|refine q_k 6 ?_;refine q_v (zM (hv:=G)) ?_;refine q_x (zF (hr:=g2)) ?_|refine q_k 8 ?_;refine q_v (za (hc:=zr F)) ?_;refine zf ?_;refine zi ?_;intro _;refine q_y (zk (n:=x)) ?_|refine ze 9 ?_;refine q_x (zd (B:=zaf p q l)) ?_;refine q_v (zd (B:=zg x)) ?_|refine q_k 10 ?_;refine zat ?_|refine ze 11 ?_;refine q_x zc0 ?_;refine q_y (zk (n:=0)) ?_|refine q_s (zbX (x:=x)) ?_;rintro _ _ ⟨W,rfl,rfl⟩|(refine zx ?_;first|refine q_v (za (hc:=λj X I Q=>A j _ (zq (Q.has (by exact Et Ev)) Em))) ?_|refine zo ?_|fail)|fail)
 exact zT rfl (zB (B:=zg 0) rfl (ty rfl) rfl En Em (zb _).symm) (zj rfl) El ⟨rfl,rfl⟩
theorem znB(i f:Nat)(cond:Nat->Bool)(a:Option Addr)(n c:Nat)(m:List UInt8)(w:World)(h0:1<=i)(r:i<=4)(O:GT w)(hn:n=gL i)(R:m.length=n)(E:n<=c)(hb:SlA w a (m.map v8))(J:∀args w,(callFunc f args).run Tryz.prog w= .ok (.enter f args) w)(K:∀x,x<18446744073709551616^16->∀j,q_G f [zcu (gP i) (gQ i) (gL i),zu x] j (.bool (cond x)))(hc:cond (bev 256 (bn m))=true):
  q_G 210 [.int .i64 (i:Int),.slice a n c,.func (.func f) #[] #[]] w (.tuple #[zu (bev 256 (bn m)),.int .i64 0]):=by
 refine zz Tryz.func210 Tryz.ntmps210 ?_;have N:=(zgM i h0 r).2;have Y:=zcr i h0 r;have P:=zb7 i h0 r;have S:=zbW i h0 r;have T:=zbD i h0 r;have L:=λj (I:Keep No w j)=>zcy i j h0 r (O.to I);generalize gL i=l,gQ i=q,gP i=p at*;have Z:=zaa p q l;have lp:=zb p;have lq:=zb q;have lz:=zb 0;have U:=zb8 p q l;have V:=zcb p q l;have G:=zcF p q l;have H:bev 256 (bn m)<18446744073709551616^16:=by
  rw[zht 256 8 128 rfl rfl];refine AZ (zfA 256 (bn m) (zhr m)) ?_;rw[show(bn m).length=m.length from A1 _];exact AR q_e q_o
 have F:=λj (I:Keep No w j)=>zb9 a n c m j R E (hb.to I (λ_ h=> .inr h)).sla q_o;rw[if_pos H] at F;have K:=K _ H;have g1:decide ((n:Int)<(l:Int))=false:=q_f;have g2:decide ((n:Int)>(l:Int))=false:=q_f;generalize bev 256 (bn m)=x at*;have lx:=zb x;have A:=λj M (h:j.rangeAt M 0 (zad [x]))=>zi5 p q l f x M cond j J K h;simp only[hc,if_true] at A;repeat' (first|refine s_t ?_|refine ze 0 ?_;refine z9 ?_;intro _|refine q_k 1 ?_;refine q_v (za (hc:=zr L)) ?_;refine zf ?_;refine zi ?_;intro _;refine q_y (zA (B:=zaf p q l) (hv:=za6 p q l) (h1:=(zaa p q l).symm)) ?_|refine q_k 2 ?_;refine zat ?_;refine zf ?_|refine q_k 4 ?_;refine q_v (zM (hv:=G)) ?_;refine q_x (zm (hr:=g1)) ?_|refine q_k 6 ?_;refine q_v (zM (hv:=G)) ?_;refine q_x (zF (hr:=g2)) ?_|refine q_k 8 ?_;refine q_v (za (hc:=zr F)) ?_;refine zf ?_;refine zi ?_;intro _;refine q_y (zk (n:=x)) ?_|refine ze 9 ?_;refine q_x (zd (B:=zaf p q l)) ?_;refine q_v (zd (B:=zg x)) ?_|refine q_k 10 ?_;refine zat ?_|refine ze 12 ?_;refine q_v (zd (B:=zg x)) ?_;refine q_y (zk (n:=x)) ?_|refine q_s (zbX (x:=x)) ?_;rintro _ _ ⟨W,rfl,rfl⟩|(refine zx ?_;first|refine q_v (za (hc:=λj X I Q=>A j _ (zq (Q.has (by exact Et Ev)) Em))) ?_|refine zo ?_|fail)|fail)
 exact zT rfl (zB (B:=zg x) rfl (ty rfl) rfl En Em (zb _).symm) (zj rfl) El ⟨rfl,rfl⟩
theorem zmx(z:Int)(a:Option Addr)(n c:Nat)(w:World)(hz:¬(1<=z/\z<=4)):q_G 128 [.int .i64 z,.slice a n c] w (.tuple #[zu 0,.int .i64 2]):=by
 refine zz Tryz.func128 Tryz.ntmps128 ?_;have m:=λj (_:Keep No w j)=>zlO z 188 a n c j hz;have q:=zb 0;repeat' (first|refine s_0 ?_|refine ze 0 ?_;refine z9 ?_;intro _|refine q_k 1 ?_;refine q_v (za (hc:=zr m)) ?_;refine zf ?_;refine q_y (zk (n:=0)) ?_)
 exact zT rfl (zB (B:=zg 0) rfl (ty rfl) rfl En Em (zb _).symm) (zj rfl) El ⟨rfl,rfl⟩
theorem zk5(i:Nat)(a:Option Addr)(n c:Nat)(w:World)(h0:1<=i)(m:i<=4)(q:GT w)(hn:n<gL i):q_G 128 [.int .i64 (i:Int),.slice a n c] w (.tuple #[zu 0,.int .i64 4]):=by
 refine zz Tryz.func128 Tryz.ntmps128 ?_;have A:=λj (r:Keep No w j)=>zjo i 188 a n c j h0 m (q.to r) hn;have E:=zb 0;repeat' (first|refine s_0 ?_|refine ze 0 ?_;refine z9 ?_;intro _|refine q_k 1 ?_;refine q_v (za (hc:=zr A)) ?_;refine zf ?_;refine q_y (zk (n:=0)) ?_)
 exact zT rfl (zB (B:=zg 0) rfl (ty rfl) rfl En Em (zb _).symm) (zj rfl) El ⟨rfl,rfl⟩
theorem zmn(i:Nat)(a:Option Addr)(n c:Nat)(w:World)(h0:1<=i)(m:i<=4)(q:GT w)(hn:gL i<n):q_G 128 [.int .i64 (i:Int),.slice a n c] w (.tuple #[zu 0,.int .i64 5]):=by
 refine zz Tryz.func128 Tryz.ntmps128 ?_;have A:=λj (r:Keep No w j)=>zj7 i 188 a n c j h0 m (q.to r) hn;have E:=zb 0;repeat' (first|refine s_0 ?_|refine ze 0 ?_;refine z9 ?_;intro _|refine q_k 1 ?_;refine q_v (za (hc:=zr A)) ?_;refine zf ?_;refine q_y (zk (n:=0)) ?_)
 exact zT rfl (zB (B:=zg 0) rfl (ty rfl) rfl En Em (zb _).symm) (zj rfl) El ⟨rfl,rfl⟩
theorem zok(i:Nat)(a:Option Addr)(n c:Nat)(m:List UInt8)(w:World)(h0:1<=i)(q:i<=4)(F:GT w)(hn:n=gL i)(G:m.length=n)(j:n<=c)(hb:SlA w a (m.map v8))(hc:zaR (gP i) (gQ i) (bev 256 (bn m))=false):q_G 128 [.int .i64 (i:Int),.slice a n c] w (.tuple #[zu 0,.int .i64 3]):=by
 refine zz Tryz.func128 Tryz.ntmps128 ?_;have H:=λE (A:Keep No w E)=>zmT i 188 (zaR (gP i) (gQ i)) a n c m E h0 q (F.to A) hn G j (hb.to A (λ_ h=> .inr h)).sla (en rfl) (λx I r=>zeT _ _ _ x r (zcr i h0 q) (zb7 i h0 q) (by have:=zbW i h0 q;omega) I) hc;have J:=zb 0;repeat' (first|refine s_0 ?_|refine ze 0 ?_;refine z9 ?_;intro _|refine q_k 1 ?_;refine q_v (za (hc:=zr H)) ?_;refine zf ?_;refine q_y (zk (n:=0)) ?_)
 exact zT rfl (zB (B:=zg 0) rfl (ty rfl) rfl En Em (zb _).symm) (zj rfl) El ⟨rfl,rfl⟩
theorem zoK(i:Nat)(a:Option Addr)(n c:Nat)(j:List UInt8)(w:World)(h0:1<=i)(q:i<=4)(F:GT w)(hn:n=gL i)(G:j.length=n)(m:n<=c)(hb:SlA w a (j.map v8))(hc:zaR (gP i) (gQ i) (bev 256 (bn j))=true):q_G 128 [.int .i64 (i:Int),.slice a n c] w (.tuple #[zu (bev 256 (bn j)),.int .i64 0]):=by
 refine zz Tryz.func128 Tryz.ntmps128 ?_;have H:=λE (A:Keep No w E)=>znB i 188 (zaR (gP i) (gQ i)) a n c j E h0 q (F.to A) hn G m (hb.to A (λ_ h=> .inr h)).sla (en rfl) (λx I r=>zeT _ _ _ x r (zcr i h0 q) (zb7 i h0 q) (by have:=zbW i h0 q;omega) I) hc;have J:=zb (bev 256 (bn j));generalize bev 256 (bn j)=x at*;repeat' (first|refine s_0 ?_|refine ze 0 ?_;refine z9 ?_;intro _|refine q_k 1 ?_;refine q_v (za (hc:=zr H)) ?_;refine zf ?_;refine q_y (zk (n:=x)) ?_)
 exact zT rfl (zB (B:=zg x) rfl (ty rfl) rfl En Em (zb _).symm) (zj rfl) El ⟨rfl,rfl⟩
theorem zoL(z:Int)(a:Option Addr)(n c:Nat)(w:World)(hz:¬(1<=z/\z<=4)):q_G 179 [.int .i64 z,.slice a n c] w (.tuple #[zu 0,.int .i64 2]):=by
 refine zz Tryz.func179 Tryz.ntmps179 ?_;have m:=λj (_:Keep No w j)=>zlO z 190 a n c j hz;have q:=zb 0;repeat' (first|refine s_0 ?_|refine ze 0 ?_;refine z9 ?_;intro _|refine q_k 1 ?_;refine q_v (za (hc:=zr m)) ?_;refine zf ?_;refine q_y (zk (n:=0)) ?_)
 exact zT rfl (zB (B:=zg 0) rfl (ty rfl) rfl En Em (zb _).symm) (zj rfl) El ⟨rfl,rfl⟩
theorem zmo(i:Nat)(a:Option Addr)(n c:Nat)(w:World)(h0:1<=i)(m:i<=4)(q:GT w)(hn:n<gL i):q_G 179 [.int .i64 (i:Int),.slice a n c] w (.tuple #[zu 0,.int .i64 4]):=by
 refine zz Tryz.func179 Tryz.ntmps179 ?_;have A:=λj (r:Keep No w j)=>zjo i 190 a n c j h0 m (q.to r) hn;have E:=zb 0;repeat' (first|refine s_0 ?_|refine ze 0 ?_;refine z9 ?_;intro _|refine q_k 1 ?_;refine q_v (za (hc:=zr A)) ?_;refine zf ?_;refine q_y (zk (n:=0)) ?_)
 exact zT rfl (zB (B:=zg 0) rfl (ty rfl) rfl En Em (zb _).symm) (zj rfl) El ⟨rfl,rfl⟩
theorem znV(i:Nat)(a:Option Addr)(n c:Nat)(w:World)(h0:1<=i)(m:i<=4)(q:GT w)(hn:gL i<n):q_G 179 [.int .i64 (i:Int),.slice a n c] w (.tuple #[zu 0,.int .i64 5]):=by
 refine zz Tryz.func179 Tryz.ntmps179 ?_;have A:=λj (r:Keep No w j)=>zj7 i 190 a n c j h0 m (q.to r) hn;have E:=zb 0;repeat' (first|refine s_0 ?_|refine ze 0 ?_;refine z9 ?_;intro _|refine q_k 1 ?_;refine q_v (za (hc:=zr A)) ?_;refine zf ?_;refine q_y (zk (n:=0)) ?_)
 exact zT rfl (zB (B:=zg 0) rfl (ty rfl) rfl En Em (zb _).symm) (zj rfl) El ⟨rfl,rfl⟩
theorem zqi(i:Nat)(a:Option Addr)(n c:Nat)(m:List UInt8)(w:World)(h0:1<=i)(r:i<=4)(F:GT w)(hn:n=gL i)(G:m.length=n)(j:n<=c)(hb:SlA w a (m.map v8))(hc:decide (bev 256 (bn m)<gQ i)=false):q_G 179 [.int .i64 (i:Int),.slice a n c] w (.tuple #[zu 0,.int .i64 3]):=by
 refine zz Tryz.func179 Tryz.ntmps179 ?_;have H:=λE (A:Keep No w E)=>zmT i 190 (λy=>decide (y<gQ i)) a n c m E h0 r (F.to A) hn G j (hb.to A (λ_ h=> .inr h)).sla (en rfl) (λx I q=>zdU _ _ _ x q (zb7 i h0 r) I) hc;have J:=zb 0;repeat' (first|refine s_0 ?_|refine ze 0 ?_;refine z9 ?_;intro _|refine q_k 1 ?_;refine q_v (za (hc:=zr H)) ?_;refine zf ?_;refine q_y (zk (n:=0)) ?_)
 exact zT rfl (zB (B:=zg 0) rfl (ty rfl) rfl En Em (zb _).symm) (zj rfl) El ⟨rfl,rfl⟩
theorem zpX(i:Nat)(a:Option Addr)(n c:Nat)(j:List UInt8)(w:World)(h0:1<=i)(r:i<=4)(F:GT w)(hn:n=gL i)(G:j.length=n)(m:n<=c)(hb:SlA w a (j.map v8))(hc:decide (bev 256 (bn j)<gQ i)=true):q_G 179 [.int .i64 (i:Int),.slice a n c] w (.tuple #[zu (bev 256 (bn j)),.int .i64 0]):=by
 refine zz Tryz.func179 Tryz.ntmps179 ?_;have H:=λE (A:Keep No w E)=>znB i 190 (λy=>decide (y<gQ i)) a n c j E h0 r (F.to A) hn G m (hb.to A (λ_ h=> .inr h)).sla (en rfl) (λx I q=>zdU _ _ _ x q (zb7 i h0 r) I) hc;have J:=zb (bev 256 (bn j));generalize bev 256 (bn j)=x at*;repeat' (first|refine s_0 ?_|refine ze 0 ?_;refine z9 ?_;intro _|refine q_k 1 ?_;refine q_v (za (hc:=zr H)) ?_;refine zf ?_;refine q_y (zk (n:=x)) ?_)
 exact zT rfl (zB (B:=zg x) rfl (ty rfl) rfl En Em (zb _).symm) (zj rfl) El ⟨rfl,rfl⟩
theorem zoz(z:Int)(a:Option Addr)(n c:Nat)(w:World)(hz:¬(1<=z/\z<=4)):q_G 100 [.int .i64 z,.slice a n c] w (.tuple #[zu 0,.int .i64 2]):=by
 refine zz Tryz.func100 Tryz.ntmps100 ?_;have r:=zb 0;have q:=zaa 0 0 0;have j:=zb8 0 0 0;have m:=zcb 0 0 0;repeat' (first|refine s_0 ?_|refine ze 0 ?_;refine z9 ?_;intro _|refine q_k 1 ?_;refine q_v (za (hc:=λ_ _ _ _=>(zhi z _ hz))) ?_;refine zf ?_;refine zi ?_;intro _;refine q_y (zA (B:=zaf 0 0 0) (hv:=za6 0 0 0) (h1:=(zaa 0 0 0).symm)) ?_|refine q_k 2 ?_;refine zat ?_|refine ze 3 ?_;refine q_x zc0 ?_;refine q_y (zk (n:=0)) ?_)
 exact zT rfl (zB (B:=zg 0) rfl (ty rfl) rfl En Em (zb _).symm) (zj rfl) El ⟨rfl,rfl⟩
theorem zj9(i:Nat)(a:Option Addr)(n c:Nat)(r:List UInt8)(w:World)(h0:1<=i)(h5:i<=4)(hG:GT w)(hl:r.length=n)(c4:n<=c)(c6:n<1000000)(hb:SlA w a (r.map v8)):
  q_G 100 [.int .i64 (i:Int),.slice a n c] w (.tuple #[zu (bev 256 (bn r)%gQ i),.int .i64 0]):=by
 refine zz Tryz.func100 Tryz.ntmps100 ?_;have hW:=zcr i h0 h5;have H:=zb7 i h0 h5;have c8:=zbW i h0 h5;have c9:=zbD i h0 h5;have a9:=λF (Z:Keep No w F)=>zcy i F h0 h5 (hG.to Z);generalize gL i=l,gQ i=q,gP i=p at*;have lS:=zaa p q l;have lp:=zb p;have lq:=zb q;have lz:=zb 0;have d9:=zb8 p q l;have U:=zcb p q l;have d8:=zcF p q l;have N:0<q:=q_o;have a6:256^32<18446744073709551616^16:=by
  rw[zht 256 8 128 rfl rfl];exact Nat.pow_lt_pow_right q_e q_e
 have J:=λF aR cR (h:SlA F aR ((1::List.replicate 32 0:List UInt8).map v8)) (hc:32+1<=cR)=>zb9 aR (32+1) cR (1::List.replicate 32 0) F q_p hc h q_o;rw[zls,if_pos a6] at J;have hys: [Value.int IntKind.u8 1]++List.replicate 32 (Value.int IntKind.u8 0)=(1::List.replicate 32 0:List UInt8).map v8:=by
  rw[As,BU];rfl
 have lr:=zb (256^32);generalize c1:256^32=A at*;obtain⟨f,hf⟩:∃f,f=n%32:=⟨_,rfl⟩;have c5:f<32:=by rw[hf];exact AG _ q_e
 have c7:f<=n:=by rw[hf];exact Nat.mod_le _ _
 obtain⟨k,Z⟩:∃k,n=f+32*k:=⟨n/32,by rw[hf];have:=Ae n 32;omega⟩;have b1:(n:Int).tmod 32=((f:Nat):Int):=by rw[hf];exact zjY n 32
 have E:∀D:List UInt8,D.length<=32->bev 256 (bn D)<18446744073709551616^16:=λD hD=>by
  rw[zht 256 8 128 rfl rfl];refine AZ (zfA 256 (bn D) (zhr D)) ?_;rw[show(bn D).length=D.length from A1 _];exact AR q_e q_o
 have S:=λF (Z:Keep No w F)=>zb9 a f f (r.take f) F (by rw[Ad];omega) (A8 _) (by rw[CS];exact((hb.to Z (λ_ h=> .inr h)).sla).take _) q_o;rw[if_pos (E (r.take f) (by rw[Ad];omega))] at S;have M:=E (r.take f) (by rw[Ad];omega);have G:=λF=>zsq (bev 256 (bn (r.take f))) q F M H;unfold zco at G;simp only[if_neg (show ¬q=0 by omega)] at G;have c2:=zb (bev 256 (bn (r.take f)));have c3:=zb (bev 256 (bn (r.take f))%q);clear hf;repeat' (first|refine s_0 ?_|refine ze 0 ?_;refine z9 ?_;intro _|refine q_k 1 ?_;refine q_v (za (hc:=zr a9)) ?_;refine zf ?_;refine zi ?_;intro _;refine q_y (zA (B:=zaf p q l) (hv:=za6 p q l) (h1:=(zaa p q l).symm)) ?_|refine q_k 2 ?_;refine zat ?_|refine ze 4 ?_;(refine q_s zD ?_;rintro _ _ ⟨_,rfl,rfl⟩);(refine q_s (Fh (zgv (n:=1) (s:=1) (by repeat (first|exact Ej|apply Ek)) rfl (by unfold maxLen;omega)) (zkq (k:=1) (m:=32) (km:=32+1) (hm:=rfl) (hL:=Ej) (hkm:=rfl) (hys:=hys))) ?_;rintro _ _ ⟨rfl,aR,cR,rfl⟩);refine q_v (za (hc:=λF _ _ hh=>J F _ _ (zc9 hh q_h) (FD (n:=32+1) hh q_h))) ?_;refine zf ?_;refine zi ?_;intro _;refine q_y (zk (n:=A)) ?_|refine q_k 5 ?_;refine q_x (zcU (hr:=b1)) ?_)
 rename_i W X wx Y;refine F8 (fr':=[(1,.slice a n c),(4,.pointer (some ⟨W,0,none⟩)),(6,.pointer (some ⟨X,0,none⟩)),(8,.pointer (some ⟨Y,0,none⟩)),(10,.int .i64 f)]) (L':=[.blk Y 133 (zg A),.blk X 194 (zaf p q l),.blk W 133 (List.replicate 16 (Value.int IntKind.u64 0))]) ?_ q_h q_h;clear J hys a9;generalize b2:bev 256 (bn (r.take f))=d0 at*;generalize b9:d0%q=r0 at*;repeat' (first|refine s_t ?_|refine q_k 6 ?_;refine q_v (zdd (l:=0) (h:=f) (m:=f) (n':=f) (c':=f)) ?_;refine q_v (za (hc:=zr S)) ?_;refine zf ?_;refine zi ?_;intro _;refine q_y (zk (n:=d0)) ?_|refine ze 7 ?_;refine q_x (zd (B:=zg d0)) ?_;refine q_v (zd (B:=zg q) (hv:=U)) ?_;refine q_v (za (hc:=q_c G)) ?_;refine zf ?_;refine q_n (zk (n:=r0)) ?_|refine q_k 8 ?_)
 rename_i K;refine zX (γ:=Nat) (λj=>[(1,.slice a n c),(4,.pointer (some ⟨W,0,none⟩)),(6,.pointer (some ⟨X,0,none⟩)),(8,.pointer (some ⟨Y,0,none⟩)),(11,.pointer (some ⟨K,0,none⟩)),(13,.int .i64 ((f+32*j:Nat):Int))])
  (λj=>[.blk K 133 (zg (bev 256 (bn (r.take (f+32*j)))%q)),.blk Y 133 (zg A),.blk X 194 (zaf p q l),.blk W 133 (List.replicate 16 (Value.int IntKind.u64 0))])
  (λj=>j<=k) (λj=>k-j) 0 (AE _) ?_ ?_ ?_
 ·exact q_h
 ·show SubR [.blk K 133 (zg (bev 256 (bn (r.take f))%q)),.blk Y 133 (zg A),.blk X 194 (zaf p q l),.blk W 133 (List.replicate 16 (Value.int IntKind.u64 0))] _;rw[b2,b9];exact q_h
 clear S G c2 c3 M;intro j hj;rcases AK j k with h|h
 ·have T:decide (((f+32*j:Nat):Int)<(n:Int))=true:=q_d;have I:IntKind.i64.wrap (((f+32*j:Nat):Int)+32)=((f+32*j+32:Nat):Int):=q_w;have Q:=zlW r (f+32*j) 32 q_o;rw[c1] at Q;have b3:((r.take (f+32*j+32)).drop (f+32*j)).length=32:=by rw[Az,Ad];omega
  have a7:=E ((r.take (f+32*j+32)).drop (f+32*j)) q_o;have a8:=λF (Z:Keep No w F)=>zb9 (zbB a (f+32*j) (f+32*j+32) 1) 32 32 ((r.take (f+32*j+32)).drop (f+32*j)) F b3 (A8 _) (by
   rw[Cf,CS];exact(((hb.to Z (λ_ h=> .inr h)).sla).take _).mov (by rw[Ad];omega)) q_o
  rw[if_pos a7] at a8;have V:=zsh q (bev 256 (bn (r.take (f+32*j)))) A (bev 256 (bn ((r.take (f+32*j+32)).drop (f+32*j))));rw[<-Q] at V;have c0:=Ah (AG (bev 256 (bn (r.take (f+32*j)))) N) H;generalize bev 256 (bn (r.take (f+32*j)))%q=O,bev 256 (bn ((r.take (f+32*j+32)).drop (f+32*j)))=d at*;have hM:=λF=>zlb O A q F c0 a6 H;have b7:=Ah (AG (O*A) N) H;have hA:=λF=>zpC (O*A%q) d q F b7 a7 H;unfold zco at hM hA;simp only[if_neg (show ¬q=0 by omega)] at hM hA;rw[V] at hA;have l1:=zb O;have l2:=zb d;have l3:=zb (O*A%q);have L:bev 256 (bn (r.take (f+32*(j+1))))%q=bev 256 (bn (r.take (f+32*j+32)))%q:=by rw[show f+32*(j+1)=f+32*j+32 by omega]
  have b5:((f+32*(j+1):Nat):Int)=((f+32*j+32:Nat):Int):=q_o;rw[<-L] at hA;have l4:=zb (bev 256 (bn (r.take (f+32*(j+1))))%q);clear V Q L;generalize O*A%q=P,b0:bev 256 (bn (r.take (f+32*(j+1))))%q=R1 at*;repeat' (first|refine s_t ?_|refine q_k 9 ?_;refine q_v (zm (hr:=T)) ?_|refine q_k 11 ?_;refine q_x (zN (hr:=I)) ?_;refine q_v (zN (hr:=I)) ?_;refine q_v (zdd (l:=f+32*j) (h:=f+32*j+32) (m:=f+32*j+32) (n':=32) (c':=32) (hn':=by omega) (hc':=by omega)) ?_;refine q_v (za (hc:=zr a8)) ?_;refine zf ?_;refine zi ?_;intro _;refine q_y (zk (n:=d)) ?_|refine ze 12 ?_;refine q_v (zd (B:=zg O)) ?_;refine q_x (zd (B:=zg A)) ?_;refine q_v (zd (B:=zg q) (hv:=U)) ?_;refine q_v (za (hc:=q_c hM)) ?_;refine zf ?_;refine q_n (zk (n:=P)) ?_|refine ze 13 ?_;refine q_v (zd (B:=zg P)) ?_;refine q_x (zd (B:=zg d)) ?_;refine q_v (zd (B:=zg q) (hv:=U)) ?_;refine q_v (za (hc:=q_c hA)) ?_;refine zf ?_;refine q_n (zk (n:=R1)) ?_|refine q_k 10 ?_;refine q_x (zN (hr:=I)) ?_)
  refine zQ (j+1) ?_ ?_ ?_ ?_
  ·show j+1<=k;omega
  ·show k-(j+1)<k-j;omega
  ·rw[b5];exact q_h
  ·show SubR [.blk K 133 (zg (bev 256 (bn (r.take (f+32*(j+1))))%q)),.blk Y 133 (zg A),.blk X 194 (zaf p q l),.blk W 133 (List.replicate 16 (Value.int IntKind.u64 0))] _;rw[b0];exact q_h
 ·obtain rfl:j=k:=q_o;have T:decide (((f+32*j:Nat):Int)<(n:Int))=false:=q_f;rw[A9 q_o];have lR:=zb (bev 256 (bn r)%q);generalize bev 256 (bn r)%q=R at*;repeat' (first|refine s_0 ?_|refine q_k 9 ?_;refine q_v (zm (hr:=T)) ?_|refine ze 14 ?_;refine q_v (zd (B:=zg R)) ?_;refine q_y (zk (n:=R)) ?_)
  exact zT rfl (zB (B:=zg R) rfl (ty rfl) rfl En Em (zb _).symm) (zj rfl) El ⟨rfl,rfl⟩
end
open Go Go.Sy Go.Nt Go.RowKit
attribute [local irreducible] Sy SyL SyX Sy.Fn callFunc zg zad gP gQ gL zaR zaf za7
def za2(z:Int)(l:List UInt8):Nat×Int:=
 if 1<=z/\z<=4 then if l.length<gL z.toNat then (0,4) else if gL z.toNat<l.length then (0,5) else if bev 256 (bn l)<gQ z.toNat then (bev 256 (bn l),0) else (0,3) else (0,2)
def gel(z:Int)(l:List UInt8):Nat×Int:=
 if 1<=z/\z<=4 then if l.length<gL z.toNat then (0,4) else if gL z.toNat<l.length then (0,5) else if zaR (gP z.toNat) (gQ z.toNat) (bev 256 (bn l)) then (bev 256 (bn l),0) else (0,3) else (0,2)
def zaQ(z:Int)(l:List UInt8):Nat×Int:=if 1<=z/\z<=4 then (bev 256 (bn l)%gQ z.toNat,0) else (0,2)
def zg3(z:Int):Nat×Int:=if 1<=z/\z<=4 then (gQ z.toNat,0) else (0,2)
def zbd(z:Int):Nat:=if 1<=z/\z<=4 then gL z.toNat else 0
theorem zdo{z:Int}(hz:1<=z/\z<=4):∃i:Nat,z=(i:Int)/\z.toNat=i/\1<=i/\i<=4:=⟨z.toNat,by omega,rfl,by omega,by omega⟩
theorem zwh(z:Int)(l:List UInt8):(zaQ z l).1<18446744073709551616^16:=by
 unfold zaQ;by_cases hz:1<=z/\z<=4
 ·rw[if_pos hz];obtain⟨i,-,m,h0,j⟩:=zdo hz;rw[m];exact Ah (AG _ (AZ q_e (zbD i h0 j))) (zb7 i h0 j)
 ·rw[if_neg hz];exact Ab q_e
theorem zfU{z:Int}{l:List UInt8}(h:(za2 z l).2=0):(1<=z/\z<=4)/\l.length=gL z.toNat/\bev 256 (bn l)<gQ z.toNat/\(za2 z l).1=bev 256 (bn l):=by
 unfold za2 at h ⊢;by_cases hz:1<=z/\z<=4
 ·rw[if_pos hz] at h ⊢;by_cases h1:l.length<gL z.toNat
  ·rw[if_pos h1] at h;cases h
  rw[if_neg h1] at h ⊢;by_cases h2:gL z.toNat<l.length
  ·rw[if_pos h2] at h;cases h
  rw[if_neg h2] at h ⊢;by_cases h3:bev 256 (bn l)<gQ z.toNat
  ·rw[if_pos h3];exact⟨hz,by omega,h3,rfl⟩
  ·rw[if_neg h3] at h;cases h
 ·rw[if_neg hz] at h;cases h
theorem zj2{z:Int}{l:List UInt8}(h:(gel z l).2=0):(1<=z/\z<=4)/\l.length=gL z.toNat/\zaR (gP z.toNat) (gQ z.toNat) (bev 256 (bn l))=true/\(gel z l).1=bev 256 (bn l):=by
 unfold gel at h ⊢;by_cases hz:1<=z/\z<=4
 ·rw[if_pos hz] at h ⊢;by_cases h1:l.length<gL z.toNat
  ·rw[if_pos h1] at h;cases h
  rw[if_neg h1] at h ⊢;by_cases h2:gL z.toNat<l.length
  ·rw[if_pos h2] at h;cases h
  rw[if_neg h2] at h ⊢;by_cases h3:zaR (gP z.toNat) (gQ z.toNat) (bev 256 (bn l))=true
  ·rw[if_pos h3];exact⟨hz,by omega,h3,rfl⟩
  ·rw[if_neg h3] at h;cases h
 ·rw[if_neg hz] at h;cases h
theorem zpd(z:Int)(l:List UInt8):(za2 z l).1<18446744073709551616^16:=by
 by_cases h:(za2 z l).2=0
 ·obtain⟨m,-,j,w⟩:=zfU h;obtain⟨i,-,B,h0,A⟩:=zdo m;rw[w];rw[B] at j;exact Ah j (zb7 i h0 A)
 ·have:(za2 z l).1=0:=by
   unfold za2 at h ⊢;split
   ·rename_i m;rw[if_pos m] at h;split
    ·rfl
    ·rename_i q;rw[if_neg q] at h;split
     ·rfl
     ·rename_i r;rw[if_neg r] at h;split
      ·rename_i j;rw[if_pos j] at h;exact absurd rfl h
      ·rfl
   ·rfl
  rw[this];exact Ab q_e
theorem zw2(z:Int)(l:List UInt8):(gel z l).1<18446744073709551616^16:=by
 by_cases h:(gel z l).2=0
 ·obtain⟨m,-,j,w⟩:=zj2 h;obtain⟨i,-,B,h0,A⟩:=zdo m;rw[w];rw[B] at j;exact Ah (zd2 j) (zcr i h0 A)
 ·have:(gel z l).1=0:=by
   unfold gel at h ⊢;split
   ·rename_i m;rw[if_pos m] at h;split
    ·rfl
    ·rename_i q;rw[if_neg q] at h;split
     ·rfl
     ·rename_i r;rw[if_neg r] at h;split
      ·rename_i j;rw[if_pos j] at h;exact absurd rfl h
      ·rfl
   ·rfl
  rw[this];exact Ab q_e
theorem zuZ(z:Int)(a:Option Addr)(n c:Nat)(j:List UInt8)(w:World)(q:GT w)(r:j.length=n)(hc:n<=c)(hb:SlA w a (j.map v8)):
  q_G 179 [.int .i64 z,.slice a n c] w (.tuple #[zu (za2 z j).1,.int .i64 (za2 z j).2]):=by
 unfold za2;by_cases hz:1<=z/\z<=4
 ·rw[if_pos hz];obtain⟨i,rfl,A,h0,m⟩:=zdo hz;rw[A,r];by_cases h1:n<gL i
  ·rw[if_pos h1];exact zmo i a n c w h0 m q h1
  rw[if_neg h1];by_cases h2:gL i<n
  ·rw[if_pos h2];exact znV i a n c w h0 m q h2
  rw[if_neg h2];by_cases h3:bev 256 (bn j)<gQ i
  ·rw[if_pos h3];exact zpX i a n c j w h0 m q q_o r hc hb (decide_eq_true h3)
  ·rw[if_neg h3];exact zqi i a n c j w h0 m q q_o r hc hb (decide_eq_false h3)
 ·rw[if_neg hz];exact zoL z a n c w hz
theorem zsl(z:Int)(a:Option Addr)(n c:Nat)(j:List UInt8)(w:World)(q:GT w)(r:j.length=n)(hc:n<=c)(hb:SlA w a (j.map v8)):
  q_G 128 [.int .i64 z,.slice a n c] w (.tuple #[zu (gel z j).1,.int .i64 (gel z j).2]):=by
 unfold gel;by_cases hz:1<=z/\z<=4
 ·rw[if_pos hz];obtain⟨i,rfl,A,h0,m⟩:=zdo hz;rw[A,r];by_cases h1:n<gL i
  ·rw[if_pos h1];exact zk5 i a n c w h0 m q h1
  rw[if_neg h1];by_cases h2:gL i<n
  ·rw[if_pos h2];exact zmn i a n c w h0 m q h2
  rw[if_neg h2];by_cases h3:zaR (gP i) (gQ i) (bev 256 (bn j))=true
  ·rw[if_pos h3];exact zoK i a n c j w h0 m q q_o r hc hb h3
  ·rw[if_neg h3];exact zok i a n c j w h0 m q q_o r hc hb (by simpa using h3)
 ·rw[if_neg hz];exact zmx z a n c w hz
theorem zvC(z:Int)(a:Option Addr)(n c:Nat)(j:List UInt8)(w:World)(q:GT w)(A:j.length=n)(hc:n<=c)(hn:n<1000000)(hb:SlA w a (j.map v8)):
  q_G 100 [.int .i64 z,.slice a n c] w (.tuple #[zu (zaQ z j).1,.int .i64 (zaQ z j).2]):=by
 unfold zaQ;by_cases hz:1<=z/\z<=4
 ·rw[if_pos hz];obtain⟨i,rfl,r,h0,m⟩:=zdo hz;rw[r];exact zj9 i a n c j w h0 m q A hc hn hb
 ·rw[if_neg hz];exact zoz z a n c w hz
theorem zvK(z:Int)(w:World)(m:GT w):q_G 129 [.int .i64 z] w (.tuple #[zu (zg3 z).1,.int .i64 (zg3 z).2]):=by
 unfold zg3;by_cases hz:1<=z/\z<=4
 ·rw[if_pos hz];obtain⟨i,rfl,q,h0,j⟩:=zdo hz;rw[q];exact zrW i w h0 j m
 ·rw[if_neg hz];exact zpO z w hz
theorem zn2(z:Int)(w:World)(m:GT w):q_G 270 [.int .i64 z] w (.int .i64 ((zbd z:Nat):Int)):=by
 unfold zbd;by_cases hz:1<=z/\z<=4
 ·rw[if_pos hz];obtain⟨i,rfl,q,h0,j⟩:=zdo hz;rw[q];exact zvU i w h0 j m
 ·rw[if_neg hz];exact zs4 z w hz
end Go.Proofs.YtdnlngbjpdbffaaGreatDoor
