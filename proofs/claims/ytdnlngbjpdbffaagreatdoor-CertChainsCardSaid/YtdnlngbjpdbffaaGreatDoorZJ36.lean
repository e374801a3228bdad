/- Lemmas. -/
import Derived.Test.YtdnlngbjpdbffaaGreatDoorZJ35
set_option maxRecDepth 10000
set_option linter.all false
namespace Go.Proofs.YtdnlngbjpdbffaaGreatDoor
open Sy Ct RowKit
attribute [local irreducible] Sy SyL SyX SyC SyF Sy.Fn Sy.FnP callFunc
theorem zgj(l:List UInt8)(i:Nat)(j:i<l.length):zaw (l.take (i+1))=zaw (l.take i)*256+l[i].toNat:=by
 rw[zaE j];unfold zaw;rw[E3];rfl
theorem zpa(s:Bs)(w:World):Sy.Fn Tryz.prog 173 [s.val] w No (λv R=>∃b,v= .pointer (some ⟨b,0,none⟩)/\R= [zj b s 0]):=by
 refine zt Tryz.func173 Tryz.ntmps173 ?_;obtain⟨a,n,c,l⟩:=s;show Sy _ _ _ _ _ _ _ _ (zd6 0 [.slice a n c]) _;repeat' first|refine s_0 ?_|refine q_k 0 ?_|refine q_k 1 ?_;refine zbt ?_;refine zbt ?_;refine z9 λ_=>?_
 exact zar rfl (zh rfl) Ez ⟨_,rfl,rfl⟩
theorem ziY(m:Nat):zfv 238 (λ_=>true) (λs v R=>∃b,v= .pointer (some ⟨b,0,none⟩)/\R= [zj b s 0]) m:=by
 intro s w F E;refine zt Tryz.func238 Tryz.ntmps238 ?_;have q:=λj=>zpa s j;have r:s.val= .slice s.a s.n s.c:=rfl;rw[r] at q ⊢;repeat' first|refine s_0 ?_|refine q_k 0 ?_|refine q_k 1 ?_;(refine q_s (zi (hc:=λj X B A=>q j)) ?_;rintro _ _ ⟨R,rfl,b,rfl,rfl⟩);refine zb ?_
 exact zU rfl (zh rfl) (zh rfl) Ez ⟨_,true,rfl,rfl,λ_=>⟨b,rfl,rfl⟩,λh=>by cases h⟩
theorem zrs(m:Nat):zfv 302 (λ_=>true) (λs v R=>v=zT s.l/\R= []) m:=by
 intro s w q A;refine zt Tryz.func302 Tryz.ntmps302 ?_;have r:s.val= .slice s.a s.n s.c:=rfl;rw[r];have j:=q.sla;have hn:=q.len;repeat' first|refine s_0 ?_|refine q_k 0 ?_|refine q_k 1 ?_;refine q_x (zcn (l:=s.l) (hr:=FQ j (λ_ _ h=>h)) (hn:=hn)) ?_
 exact zU rfl (zh rfl) (zh rfl) Ez ⟨_,true,rfl,rfl,λ_=>⟨rfl,rfl⟩,λh=>by cases h⟩
theorem zpN(s:Bs)(w:World)(B:s.ok w)(hb:s.n<=7):q_G 265 [s.val] w (.int .i64 ((zaw s.l:Nat):Int)):=by
 refine zt Tryz.func265 Tryz.ntmps265 ?_;obtain⟨a,n,c,l⟩:=s;have N:l.length=n:=B.len;have K:n<=c:=B.cap;have E:SlA w a (l.map v8):=B.sla;show Sy _ _ _ _ _ _ _ _ (zd6 0 [.slice a n c]) _;dsimp only at hb ⊢;have I:∀i,i<7->zaw (l.take i)<281474976710656:=λi L=>by
  have G:=zfP (l.take i);have H:(l.take i).length<=6:=by rw[List.length_take];omega
  have M:=AB (show 0<256 by decide) H;omega
 repeat' first|refine s_t ?_|refine zA [0,1] ?_;refine zb ?_
 refine zL (γ:=Nat) (λi=>[(7,.int .i64 (i:Int)),(6,.int .i64 (n:Int)),(5,.slice a n c),(2,.int .i64 ((zaw (l.take i):Nat):Int))]) (λ_=>[]) (λi=>i<=n) (λi=>n-i) 0 (AA _) ?_ ?_ ?_
 ·exact q_h
 ·exact q_h
 intro i L;by_cases hlt:i<n
 ·have g8:decide ((i:Int)<(n:Int))=true:=q_d;obtain⟨b,o,rfl,m⟩:=zca E (i:=i) (by rw[A0];omega);have r:w.cell? ⟨b,o+i,none⟩=some (.int .u8 ((l[i]'q_o).toNat:Int)):=m i _ (zcX v8 q_o);have G:=I i q_o;have F:=zgj l i q_o;have J:=(l[i]'q_o).toNat_lt;generalize (l[i]'q_o).toNat=x at*;have g9:=zv3 ((zaw (l.take i):Nat):Int) .u64 q_o q_o;have q:=zk6 ((zaw (l.take i):Nat):Int) x q_o q_o q_o;have A:IntKind.i64.wrap ((i:Int)+1)=((i+1:Nat):Int):=q_w;rw[show((zaw (l.take i):Nat):Int)*256+(x:Int)=((zaw (l.take (i+1)):Nat):Int) by rw[F];omega] at q;repeat' first|refine s_t ?_|refine zf 2 ?_;refine q_v (zn (hr:=g8)) ?_|refine zf 3 ?_;refine q_v (zq (j:=i)) ?_;refine q_x (zo (hv:=r)) ?_|refine q_k 4 ?_;refine q_x (zeD (hr:=g9)) ?_;refine zbh ?_;refine q_x (zj3 (hr:=q)) ?_|refine zf 5 ?_;refine q_x (zD (hr:=A)) ?_
  refine zC (i+1) hlt ?_ ?_ ?_
  ·show n-(i+1)<n-i;omega
  ·exact q_h
  ·exact q_h
 obtain rfl:i=n:=q_o;have g8:decide ((i:Int)<(i:Int))=false:=q_f;rw[A6 q_o];repeat' first|refine s_0 ?_|refine zf 2 ?_;refine q_v (zn (hr:=g8)) ?_|refine q_k 6 ?_
 exact q_r
theorem zvQ(m:Nat):zfv 264 (λl=>(rdT l).isSome) (λs v R=>∃t,rdT s.l=some t/\v= .int .i64 t/\R= []) m:=by
 intro s w A G;refine zt Tryz.func264 Tryz.ntmps264 ?_;have E:=A.len;have hu:=λj (q:Keep No w j) (h:s.n<=7)=>zpN s j (A.keep q) h;have F:s.val= .slice s.a s.n s.c:=rfl;rw[F] at hu ⊢;by_cases h6:s.n=6
 ·have g1:decide ((s.n:Int)≠6)=false:=q_f;have r:=λj q=>hu j q q_o;obtain⟨y,g2⟩:∃y,decide (((zaw s.l:Nat):Int)<=1099511627776)=y:=⟨_,rfl⟩;have hr:rdT s.l=if y then some ((zaw s.l:Nat):Int) else none:=by
   unfold rdT;rw[E,h6,<-g2];by_cases h:zaw s.l<=1099511627776
   ·rw[if_pos ⟨rfl,h⟩,decide_eq_true q_o,if_pos rfl]
   ·rw[if_neg (λB=>h B.2),decide_eq_false q_o,if_neg q_e]
  generalize zaw s.l=V at*;repeat' first|refine s_0 ?_|refine q_k 0 ?_|refine q_k 1 ?_;refine q_v (zad (hr:=g1)) ?_|refine q_k 3 ?_;refine q_v (za (hc:=zr r)) ?_;refine zb ?_|refine q_k 4 ?_;refine q_x (zaA (hr:=g2)) ?_
  refine zU rfl (zh rfl) (zh rfl) Ez ⟨_,y,rfl,?_,λh=>⟨_,?_,rfl,rfl⟩,λ_=>rfl⟩
  ·show y=(rdT s.l).isSome;rw[hr];cases y <;> rfl
  ·rw[hr,h];rfl
 ·have g1:decide ((s.n:Int)≠6)=true:=q_d;have hr:rdT s.l=none:=by unfold rdT;rw[if_neg (λh=>h6 q_o)]
  repeat' first|refine s_0 ?_|refine zA [0,2] ?_;refine zb ?_|refine q_k 1 ?_;refine q_v (zad (hr:=g1)) ?_
  exact zU rfl (zh rfl) (zh rfl) Ez ⟨_,false,rfl,by show false=(rdT s.l).isSome;rw[hr];rfl,λh=>(by cases h),λ_=>rfl⟩
theorem zvH(m:Nat):zfv 206 (λl=>(Ct.rdB l).isSome) (λs v R=>∃t,Ct.rdB s.l=some t/\v= .bool t/\R= []) m:=by
 intro s w B N;refine zt Tryz.func206 Tryz.ntmps206 ?_;obtain⟨a,n,c,l⟩:=s;have A:l.length=n:=B.len;have J:n<=c:=B.cap;have E:SlA w a (l.map v8):=B.sla;show Sy _ _ _ _ _ _ _ _ (zd6 0 [.slice a n c]) _;by_cases h1:¬n=1
 ·have hr:Ct.rdB l=none:=by
   match l,A with
   | [],_=>rfl
   | [_],A=>exact(h1 (by simp at A;omega)).elim
   |_::_::_,_=>rfl
  have g1:decide ((n:Int)≠1)=true:=q_d;repeat' first|refine s_0 ?_|refine zA [0,2] ?_;refine zb ?_|refine q_k 1 ?_;refine q_v (zad (hr:=g1)) ?_
  exact zU rfl (zh rfl) (zh rfl) Ez ⟨_,false,rfl,by show false=(Ct.rdB l).isSome;rw[hr];rfl,λh=>(by cases h),λ_=>rfl⟩
 obtain rfl:n=1:=E5.1 h1;obtain⟨x,rfl⟩:∃x,l= [x]:=List.length_eq_one_iff.1 A;have g1:decide (((1:Nat):Int)≠1)=false:=rfl;obtain⟨b,o,rfl,r⟩:=zca E (i:=0) q_p;have q:w.cell? ⟨b,o+0,none⟩=some (.int .u8 (x.toNat:Int)):=r 0 _ rfl;have K:=x.toNat_lt;have hr:Ct.rdB [x]=if x.toNat=255 then some true else if x.toNat=0 then some false else none:=by
  show(if x=255 then some true else if x=0 then some false else none)=_;have H:x=255↔x.toNat=255:=⟨λh=>by rw[h];rfl,λh=>Bf.1 h⟩;have I:x=0↔x.toNat=0:=⟨λh=>by rw[h];rfl,λh=>Bf.1 h⟩;simp only[H,I]
 generalize x.toNat=X at*;obtain⟨L,g2⟩:∃y,decide ((X:Int)=255)=y:=⟨_,rfl⟩;obtain⟨M,g3⟩:∃y,decide ((X:Int)=0)=y:=⟨_,rfl⟩;cases L
 ·have F:X≠255:=λh=>of_decide_eq_false g2 q_o;rw[if_neg F] at hr;cases M
  ·have G:X≠0:=λh=>of_decide_eq_false g3 q_o;rw[if_neg G] at hr;repeat' first|refine s_0 ?_|refine q_k 0 ?_|refine q_k 1 ?_;refine q_v (zad (hr:=g1)) ?_|refine zai (id:=3) 15 [[],[0],[0,1],[0,1,2],[],[4],[4,5],[4,5,6],[4,5,6,7],[4,5,6,7,8],[4,5,6,7,8,9],[4,5,6,7,8,9,10],[4,5,6,7,8,9,10,11],[4,5,6,7,8,9,10,11,12],[0,1,2,3,4,5,6,7,8],[0,1,2,3,4,5,6,7,8,9,10,11,12,13,14]] mixed ?_ ?_;kernel_rfl;refine zB ?_;refine q_D (zq (j:=0)) ?_;refine q_D (zo (hv:=q)) ?_;refine q_D (zS (hr:=g2)) ?_;refine zB ?_;refine q_D (zq (j:=0)) ?_;refine q_D (zo (hv:=q)) ?_;refine q_D (zS (hr:=g2)) ?_;refine zB ?_;refine zB ?_;refine q_D (zq (j:=0)) ?_;refine q_D (zo (hv:=q)) ?_;refine q_D (zS (hr:=g3)) ?_;refine q_D zcz ?_;refine q_D za6 ?_;refine zaF ?_;refine zw ?_|fail
   exact zU rfl (zh rfl) (zh rfl) Ez ⟨_,false,rfl,by show false=(Ct.rdB [x]).isSome;rw[hr];rfl,λh=>(by cases h),λ_=>rfl⟩
  ·have G:X=0:=by have:=of_decide_eq_true g3;omega
   rw[if_pos G] at hr;repeat' first|refine s_0 ?_|refine q_k 0 ?_|refine q_k 1 ?_;refine q_v (zad (hr:=g1)) ?_|refine zai (id:=3) 15 [[],[0],[0,1],[0,1,2],[],[4],[4,5],[4,5,6],[4,5,6,7],[4,5,6,7,8],[4,5,6,7,8,9],[4,5,6,7,8,9,10],[4,5,6,7,8,9,10,11],[4,5,6,7,8,9,10,11,12],[0,1,2,3,4,5,6,7,8],[0,1,2,3,4,5,6,7,8,9,10,11,12,13,14]] mixed ?_ ?_;kernel_rfl;refine zB ?_;refine q_D (zq (j:=0)) ?_;refine q_D (zo (hv:=q)) ?_;refine q_D (zS (hr:=g2)) ?_;refine zB ?_;refine q_D (zq (j:=0)) ?_;refine q_D (zo (hv:=q)) ?_;refine q_D (zS (hr:=g2)) ?_;refine zB ?_;refine zB ?_;refine q_D (zq (j:=0)) ?_;refine q_D (zo (hv:=q)) ?_;refine q_D (zS (hr:=g3)) ?_;refine q_D zcz ?_;refine q_D za6 ?_;refine zaF ?_;refine zw ?_|fail
   exact zU rfl (zh rfl) (zh rfl) Ez ⟨_,true,rfl,by show true=(Ct.rdB [x]).isSome;rw[hr];rfl,λ_=>⟨false,hr,rfl,rfl⟩,λh=>(by cases h)⟩
 ·have F:X=255:=by have:=of_decide_eq_true g2;omega
  rw[if_pos F] at hr;repeat' first|refine s_0 ?_|refine q_k 0 ?_|refine q_k 1 ?_;refine q_v (zad (hr:=g1)) ?_|refine zai (id:=3) 15 [[],[0],[0,1],[0,1,2],[],[4],[4,5],[4,5,6],[4,5,6,7],[4,5,6,7,8],[4,5,6,7,8,9],[4,5,6,7,8,9,10],[4,5,6,7,8,9,10,11],[4,5,6,7,8,9,10,11,12],[0,1,2,3,4,5,6,7,8],[0,1,2,3,4,5,6,7,8,9,10,11,12,13,14]] mixed ?_ ?_;kernel_rfl;refine zB ?_;refine q_D (zq (j:=0)) ?_;refine q_D (zo (hv:=q)) ?_;refine q_D (zS (hr:=g2)) ?_;refine zB ?_;refine q_D (zq (j:=0)) ?_;refine q_D (zo (hv:=q)) ?_;refine q_D (zS (hr:=g2)) ?_;refine zB ?_;refine zcW (λ_=>rfl) rfl ?_;refine zcW (λ_=>rfl) rfl ?_;refine zcW (λ_=>rfl) rfl ?_;refine zcW (λ_=>rfl) rfl ?_;refine q_D zcz ?_;refine q_D za6 ?_;refine zaF ?_;refine zw ?_|fail
  exact zU rfl (zh rfl) (zh rfl) Ez ⟨_,true,rfl,by show true=(Ct.rdB [x]).isSome;rw[hr];rfl,λ_=>⟨true,hr,rfl,rfl⟩,λh=>(by cases h)⟩
end Go.Proofs.YtdnlngbjpdbffaaGreatDoor
namespace Go.Ct
open Sy
def _root_.Go.Sy.Bs.sub(s:Bs)(x y:Nat):Bs:=⟨zbB s.a x s.c 1,y-x,s.c-x,(s.l.take y).drop x⟩
def Rsub(s s':Bs):Prop:=∀w:World,s.ok w->s'.ok w
theorem Rsub.trans{s j s2:Bs}(h:Rsub s j)(m:Rsub j s2):Rsub s s2:=λw q=>m w (h w q)
theorem Rsub.refl{s:Bs} :Rsub s s:=λ_ h=>h
theorem Rsub.sub(s:Bs){x y:Nat}(hx:x<=y)(B:y<=s.n):Rsub s (s.sub x y):=λw h=>by
 have r:(s.l.take y).length=y:=by rw[AS,h.len,BP B]
 have E:=h.cap;refine⟨?_,?_,?_,λA=>?_⟩
 ·show((s.l.take y).drop x).length=y-x;rw[As,r]
 ·show y-x<=s.c-x;omega
 ·have j:=(Fi h.sla).take y;rw[<-C0] at j;have q:=j.mov (l:=x) (m:=s.c) (by rw[A0,r];omega);rw[<-Cd] at q;exact q.sla
 ·have j:=zm9.1 (show zbB s.a x s.c 1=none from A);have q:=h.nil j;show s.c-x=0;omega
def zrV:Bs:=⟨none,0,0,[]⟩
theorem Rsub.none(s:Bs):Rsub s zrV:=λ_ _=>⟨rfl,A7 _,.inl rfl,λ_=>rfl⟩
end Go.Ct
namespace Go.Proofs.YtdnlngbjpdbffaaGreatDoor
open Sy Ct RowKit
attribute [local irreducible] Sy SyL SyX SyC SyF Sy.Fn Sy.FnP callFunc
theorem zmN(s:Bs)(w:World)(M:s.ok w)(hb:s.n<1000000000):Sy.Fn Tryz.prog 93 [s.val] w No (λv R=>R= []/\((zfq s.l=none/\v= .tuple #[.int .i64 0,.slice none 0 0,.int .i64 0])\/∃x y:Nat,∃t:Int,zfq s.l=some (x,y)/\v= .tuple #[.int .i64 t,(s.sub x y).val,.int .i64 (y:Int)])):=by
 refine zt Tryz.func93 Tryz.ntmps93 ?_;obtain⟨a,n,c,l⟩:=s;have E:l.length=n:=M.len;have W:n<=c:=M.cap;have N:SlA w a (l.map v8):=M.sla;show Sy _ _ _ _ _ _ _ _ (zd6 0 [.slice a n c]) _;dsimp only at hb ⊢;rcases AG n 2 with K|K
 ·have e:zfq l=none:=by
   match l,E with
   | [],_=>rfl
   | [_],_=>rfl
   |_::_::_,E=>simp at E;omega
  have g:decide ((n:Int)<2)=true:=q_d;repeat' first|refine s_0 ?_|refine zA [0,2] ?_;refine zb ?_|refine q_k 1 ?_;refine q_v (zn (hr:=g)) ?_
  exact zdd rfl (zh rfl) (zh rfl) (zh rfl) Ev ⟨rfl,.inl ⟨e,rfl⟩⟩
 obtain⟨t,z,r,rfl⟩:∃t z r,l=t::z::r:=by
  match l,E with
  | [],E=>simp at E;omega
  | [_],E=>simp at E;omega
  |t::z::r,_=>exact⟨t,z,r,rfl⟩
 have a6:r.length=n-2:=by simp only[AQ] at E;omega
 obtain⟨b,o,rfl,m⟩:=zca N (i:=1) q_p;have F:w.cell? ⟨b,o+0,none⟩=some (.int .u8 (t.toNat:Int)):=m 0 _ rfl;have q:w.cell? ⟨b,o+1,none⟩=some (.int .u8 (z.toNat:Int)):=m 1 _ rfl;have a7:=z.toNat_lt;have L:∀i (H:i<r.length),w.cell? ⟨b,o+(2+i),none⟩=some (.int .u8 (r[i].toNat:Int)):=λi H=>m (2+i) (v8 r[i]) (by
   rw[AW,show 2+i=i+1+1 by omega,BA,BA,A2 H];rfl)
 have g1:decide ((n:Int)<2)=false:=q_f;have X:zfq (t::z::r)=if z.toNat<128 then (if z.toNat<=r.length then some (2,2+z.toNat) else none)
  else if z.toNat-128<1\/3<z.toNat-128 then none
  else if r.length<z.toNat-128 then none
  else if r.length-(z.toNat-128)<zaw (r.take (z.toNat-128)) then none
  else some (2+(z.toNat-128),2+(z.toNat-128)+zaw (r.take (z.toNat-128))):=rfl
 rw[X];generalize hT:t.toNat=T,z.toNat=Z at*;rcases AG Z 128 with S|S
 ·rw[if_pos S];have g2:decide ((Z:Int)>=128)=false:=q_f;have g3:IntKind.i64.wrap ((n:Int)-2)=((n-2:Nat):Int):=q_w;have g5:IntKind.i64.wrap (2+(Z:Int))=((2+Z:Nat):Int):=q_w;by_cases hfit:Z<=r.length
  ·rw[if_pos hfit];have g4:decide ((Z:Int)>((n-2:Nat):Int))=false:=q_f;repeat' first|refine s_0 ?_|refine q_k 0 ?_|refine q_k 1 ?_;refine q_v (zn (hr:=g1)) ?_|refine q_k 3 ?_;refine q_v (zq (j:=1)) ?_;refine q_v (zo (hv:=q)) ?_;refine zbh ?_;refine zb ?_|refine q_k 4 ?_;refine q_v (zO (hr:=g2)) ?_|refine q_k 14 ?_;refine q_v (zK (hr:=g3)) ?_;refine q_v (zH (hr:=g4)) ?_|refine zai (id:=16) 15 [[],[0],[0,1],[0,1,2],[],[],[],[],[6,7],[4,5,6,7,8],[],[],[10,11],[0,1,2,3],[0,1,2,3,4,5,6,7,8,9,13],[0,1,2,3,4,5,6,7,8,9,10,11,12,13,14]] mixed ?_ ?_;kernel_rfl;refine zB ?_;refine q_D (zq (j:=0)) ?_;refine q_D (zo (hv:=F)) ?_;refine dc (by intro _ _;first|exact op_convSame|exact op_toStrD|exact zam) (k:=?_);refine zB ?_;refine zB ?_;refine zB ?_;refine zB ?_;refine q_D (zD (hr:=g5)) ?_;refine dc (by intro _ _;first|exact zce|exact zc4|exact zeA) (k:=?_);refine zB ?_;refine zB ?_;refine q_D (zD (hr:=g5)) ?_;refine q_D za6 ?_;refine q_D za6 ?_;refine zaF ?_;refine zw ?_|fail
   exact zdd rfl (zh rfl) (zh rfl) (zh rfl) Ev ⟨rfl,.inr ⟨2,2+Z,_,rfl,by show _=Value.tuple #[_,.slice (zbB (some ⟨b,o,none⟩) 2 c 1) (2+Z-2) (c-2),_];rw[Bk]⟩⟩
  ·rw[if_neg hfit];have g4:decide ((Z:Int)>((n-2:Nat):Int))=true:=q_d;repeat' first|refine s_0 ?_|refine zA [0,15] ?_;refine zb ?_|refine q_k 1 ?_;refine q_v (zn (hr:=g1)) ?_|refine q_k 3 ?_;refine q_v (zq (j:=1)) ?_;refine q_v (zo (hv:=q)) ?_;refine zbh ?_;refine zb ?_|refine q_k 4 ?_;refine q_v (zO (hr:=g2)) ?_|refine q_k 14 ?_;refine q_v (zK (hr:=g3)) ?_;refine q_v (zH (hr:=g4)) ?_
   exact zdd rfl (zh rfl) (zh rfl) (zh rfl) Ev ⟨rfl,.inl ⟨rfl,rfl⟩⟩
 rw[if_neg q_o];have g2:decide ((Z:Int)>=128)=true:=q_d;obtain⟨k,Y⟩:∃k,k=Z-128:=⟨_,rfl⟩;rw[<-Y];have g3:IntKind.i64.wrap ((Z:Int)-128)=(k:Int):=q_w;by_cases hk1:k<1\/3<k
 ·rw[if_pos hk1];rcases(show k<1\/(1<=k/\3<k) by omega) with h|⟨h,h'⟩
  ·have g4:decide ((k:Int)<1)=true:=q_d;repeat' first|refine s_0 ?_|refine zA [0,7] ?_;refine zb ?_|refine q_k 1 ?_;refine q_v (zn (hr:=g1)) ?_|refine q_k 3 ?_;refine q_v (zq (j:=1)) ?_;refine q_v (zo (hv:=q)) ?_;refine zbh ?_;refine zb ?_|refine q_k 4 ?_;refine q_v (zO (hr:=g2)) ?_|refine q_k 5 ?_;refine q_x (zK (hr:=g3)) ?_|refine q_k 6 ?_;refine q_x (zn (hr:=g4)) ?_
   exact zdd rfl (zh rfl) (zh rfl) (zh rfl) Ev ⟨rfl,.inl ⟨rfl,rfl⟩⟩
  ·have g4:decide ((k:Int)<1)=false:=q_f;have g5:decide ((k:Int)>3)=true:=q_d;repeat' first|refine s_0 ?_|refine zA [0,7] ?_;refine zb ?_|refine q_k 1 ?_;refine q_v (zn (hr:=g1)) ?_|refine q_k 3 ?_;refine q_v (zq (j:=1)) ?_;refine q_v (zo (hv:=q)) ?_;refine zbh ?_;refine zb ?_|refine q_k 4 ?_;refine q_v (zO (hr:=g2)) ?_|refine q_k 5 ?_;refine q_x (zK (hr:=g3)) ?_|refine q_k 6 ?_;refine q_x (zn (hr:=g4)) ?_;refine q_x (zH (hr:=g5)) ?_
   exact zdd rfl (zh rfl) (zh rfl) (zh rfl) Ev ⟨rfl,.inl ⟨rfl,rfl⟩⟩
 rw[if_neg hk1];have g4:decide ((k:Int)<1)=false:=q_f;have g5:decide ((k:Int)>3)=false:=q_f;have g6:IntKind.i64.wrap (2+(k:Int))=((2+k:Nat):Int):=q_w;by_cases hk2:r.length<k
 ·rw[if_pos hk2];have g7:decide ((n:Int)<((2+k:Nat):Int))=true:=q_d;repeat' first|refine s_0 ?_|refine zA [0,7] ?_;refine zb ?_|refine q_k 1 ?_;refine q_v (zn (hr:=g1)) ?_|refine q_k 3 ?_;refine q_v (zq (j:=1)) ?_;refine q_v (zo (hv:=q)) ?_;refine zbh ?_;refine zb ?_|refine q_k 4 ?_;refine q_v (zO (hr:=g2)) ?_|refine q_k 5 ?_;refine q_x (zK (hr:=g3)) ?_|refine q_k 6 ?_;refine q_x (zn (hr:=g4)) ?_;refine q_x (zH (hr:=g5)) ?_;refine q_v (zD (hr:=g6)) ?_;refine q_x (zn (hr:=g7)) ?_
  exact zdd rfl (zh rfl) (zh rfl) (zh rfl) Ev ⟨rfl,.inl ⟨rfl,rfl⟩⟩
 rw[if_neg hk2];have g7:decide ((n:Int)<((2+k:Nat):Int))=false:=q_f;have Q:∀i,i<=3->zaw (r.take i)<16777216:=λi H=>by
  have P:=zfP (r.take i);have K:(r.take i).length<=3:=by rw[AS];omega
  have h3:=AB (show 0<256 by decide) K;omega
 repeat' first|refine s_t ?_|refine zA [0,8,9] ?_;refine zb ?_|refine q_k 1 ?_;refine q_v (zn (hr:=g1)) ?_|refine q_k 3 ?_;refine q_v (zq (j:=1)) ?_;refine q_v (zo (hv:=q)) ?_;refine zbh ?_;refine zb ?_|refine q_k 4 ?_;refine q_v (zO (hr:=g2)) ?_|refine q_k 5 ?_;refine q_x (zK (hr:=g3)) ?_|refine q_k 6 ?_;refine q_x (zn (hr:=g4)) ?_;refine q_x (zH (hr:=g5)) ?_;refine q_v (zD (hr:=g6)) ?_;refine q_x (zn (hr:=g7)) ?_
 refine zL (γ:=Nat) (λi=>[(0,.slice (some ⟨b,o,none⟩) n c),(5,.int .i64 ((zaw (r.take i):Nat):Int)),(6,.int .i64 2),(7,.int .i64 (k:Int)),(8,.int .i64 (i:Int))]) (λ_=>[]) (λi=>i<=k) (λi=>k-i) 0 (AA _) ?_ ?_ ?_
 ·exact q_h
 ·exact q_h
 intro i H;by_cases hlt:i<k
 ·have g8:decide ((i:Int)<(k:Int))=true:=q_d;have G:=L i q_o;have P:=Q i q_o;have O:=zgj r i q_o;have U:=(r[i]'q_o).toNat_lt;generalize (r[i]'q_o).toNat=x at*;have g9:IntKind.i64.wrap (256*((zaw (r.take i):Nat):Int))=256*((zaw (r.take i):Nat):Int):=IntWalk.i64_in _ q_o;have A:IntKind.i64.wrap (2+(i:Int))=((2+i:Nat):Int):=q_w;have B:IntKind.i64.wrap (x:Int)=(x:Int):=IntWalk.i64_in _ q_o;have I:IntKind.i64.wrap (256*((zaw (r.take i):Nat):Int)+(x:Int))=((zaw (r.take (i+1)):Nat):Int):=by rw[IntWalk.i64_in _ q_o,O];omega
  have J:IntKind.i64.wrap ((i:Int)+1)=((i+1:Nat):Int):=q_w;repeat' first|refine s_t ?_|refine q_k 10 ?_;refine q_v (zn (hr:=g8)) ?_|refine q_k 12 ?_;refine q_x (zaM (hr:=g9)) ?_;refine q_v (zD (hr:=A)) ?_;refine q_v (zq (j:=2+i)) ?_;refine q_v (zo (hv:=G)) ?_;refine q_v (zam (hr:=B)) ?_;refine q_x (zD (hr:=I)) ?_|refine q_k 11 ?_;refine q_x (zD (hr:=J)) ?_
  refine zC (i+1) hlt ?_ ?_ ?_
  ·show k-(i+1)<k-i;omega
  ·exact q_h
  ·exact q_h
 obtain rfl:i=k:=q_o;have g8:decide ((i:Int)<(i:Int))=false:=q_f;have P:=Q i q_o;generalize zaw (r.take i)=V at*;have g9:IntKind.i64.wrap ((n:Int)-((2+i:Nat):Int))=((r.length-i:Nat):Int):=q_w;by_cases hf2:r.length-i<V
 ·rw[if_pos hf2];have A:decide ((V:Int)>((r.length-i:Nat):Int))=true:=q_d;repeat' first|refine s_0 ?_|refine q_k 10 ?_;refine q_v (zn (hr:=g8)) ?_|refine q_k 13 ?_;refine q_x (zD (hr:=g6)) ?_|refine q_k 14 ?_;refine q_v (zK (hr:=g9)) ?_;refine q_v (zH (hr:=A)) ?_|refine q_k 15 ?_
  exact zdd rfl (zh rfl) (zh rfl) (zh rfl) Ev ⟨rfl,.inl ⟨rfl,rfl⟩⟩
 rw[if_neg hf2];have A:decide ((V:Int)>((r.length-i:Nat):Int))=false:=q_f;have B:IntKind.i64.wrap (((2+i:Nat):Int)+(V:Int))=((2+i+V:Nat):Int):=q_w;repeat' first|refine s_0 ?_|refine q_k 10 ?_;refine q_v (zn (hr:=g8)) ?_|refine q_k 13 ?_;refine q_x (zD (hr:=g6)) ?_|refine q_k 14 ?_;refine q_v (zK (hr:=g9)) ?_;refine q_v (zH (hr:=A)) ?_|refine zai (id:=16) 15 [[],[0],[0,1],[0,1,2],[],[],[],[],[6,7],[4,5,6,7,8],[],[],[10,11],[0,1,2,3],[0,1,2,3,4,5,6,7,8,9,13],[0,1,2,3,4,5,6,7,8,9,10,11,12,13,14]] mixed ?_ ?_;kernel_rfl;refine zB ?_;refine q_D (zq (j:=0)) ?_;refine q_D (zo (hv:=F)) ?_;refine dc (by intro _ _;first|exact op_convSame|exact op_toStrD|exact zam) (k:=?_);refine zB ?_;refine zB ?_;refine zB ?_;refine zB ?_;refine q_D (zD (hr:=B)) ?_;refine dc (by intro _ _;first|exact zce|exact zc4|exact zeA) (k:=?_);refine zB ?_;refine zB ?_;refine q_D (zD (hr:=B)) ?_;refine q_D za6 ?_;refine q_D za6 ?_;refine zaF ?_;refine zw ?_|fail
 exact zdd rfl (zh rfl) (zh rfl) (zh rfl) Ev ⟨rfl,.inr ⟨2+i,2+i+V,_,rfl,by show _=Value.tuple #[_,.slice (zbB (some ⟨b,o,none⟩) (2+i) c 1) (2+i+V-(2+i)) (c-(2+i)),_];rw[Bk]⟩⟩
def zdS(s:Bs)(l:List UInt8)(v:Value)(R:List Res):Prop:=∃s':Bs,v=s'.val/\s'.l=l/\Rsub s s'/\s'.n<=s.n/\R= []
theorem zds(s:Bs)(w:World)(r:s.ok w)(hb:s.n<1000000000):Sy.Fn Tryz.prog 46 [s.val] w No (zdS s (zaN s.l)):=by
 refine zt Tryz.func46 Tryz.ntmps46 ?_;have q:=λA (B:Keep No w A)=>zmN s A (r.keep B) hb;have E:s.val= .slice s.a s.n s.c:=rfl;rw[E] at q ⊢;repeat' first|refine s_0 ?_|refine zA [0,2] ?_;refine zb ?_|refine q_k 1 ?_;(refine q_s (zi (hc:=zr q)) ?_;rintro _ _ ⟨R,rfl,rfl,(⟨j,rfl⟩|⟨x,y,t,j,rfl⟩)⟩);refine zb ?_|(refine zx ?_;first|refine zw ?_|refine zZ ?_|refine zaU ?_|fail)|fail
 ·exact zar rfl (zh rfl) Ev ⟨zrV,rfl,by unfold zaN;rw[j];rfl,Rsub.none s,AA _,rfl⟩
 ·have m:=zjR j;have F:=r.len;exact zar rfl (zh rfl) Ev ⟨s.sub x y,rfl,by unfold zaN;rw[j];rfl,Rsub.sub s m.2.1 q_o,by show y-x<=s.n;omega,rfl⟩
end Go.Proofs.YtdnlngbjpdbffaaGreatDoor
