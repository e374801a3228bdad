/- Lemmas. -/
import Derived.Test.YtdnlngbjpdbffaaGreatDoorZJ34
set_option maxRecDepth 10000
set_option linter.all false
namespace Go.Ct
open Go Go.Sy Go.RowKit
theorem zk6(v:Int)(c:Nat)(hc:c<256)(h1: -9223372036854775808<=v*256+c)(h2:v*256+c<9223372036854775808):bits .or .i64 (v*256) (c:Int)=v*256+c:=by
 have j:(BitVec.ofInt 64 (v*256)).toNat=(v%72057594037927936).toNat*2^8:=by
  rw[BitVec.toNat_ofInt];omega
 have m:(BitVec.ofInt 64 (c:Int)).toNat=c:=by
  rw[Cr,Dy];exact A9 q_o
 show IntKind.i64.wrap ((BitVec.ofInt 64 (v*256) ||| BitVec.ofInt 64 (c:Int)).toNat:Int)=_;rw[BitVec.toNat_or,j,m,Nt.or_add _ _ _ (by omega:c<2^8)];simp only[IntKind.wrap,IntKind.bits,IntKind.signed];have q:(v%72057594037927936).toNat*2^8+c<18446744073709551616:=q_o;simp;omega
theorem zv3(v:Int)(j:IntKind)(h1: -9223372036854775808<=v*256)(h2:v*256<9223372036854775808):Op.shift .shl .i64 v j 8=pure (.int .i64 (v*256)):=by
 simp[Op.shift,IntKind.bits];rw[IntWalk.i64_in (v*256) q_o]
def _root_.Go.Sy.Bs.cut(s:Bs)(b e:Nat):Bs:=⟨zbB s.a b e 1,e-b,e-b,(s.l.take e).drop b⟩
structure BsF(w:World)(M:Nat->Prop)(s:Bs):Prop where
 len:s.l.length=s.n
 cap:s.n<=s.c
 slf:SlF w M s.a (s.l.map v8)
 nil:s.a=none->s.c=0
theorem BsF.ok{w:World}{M:Nat->Prop}{s:Bs}(h:BsF w M s):s.ok w:=⟨h.len,h.cap,h.slf.sla,h.nil⟩
theorem BsF.to{w0 w:World}{M Mi:Nat->Prop}{s:Bs}(h:BsF w0 M s)(hk:Keep M w0 w)(hm:∀b,Mi b->w0.heap.size<=b\/M b):BsF w Mi s:=⟨h.len,h.cap,h.slf.to hk hm,h.nil⟩
theorem BsF.no{w0 w:World}{M:Nat->Prop}{s:Bs}(h:BsF w0 M s)(hk:Keep M w0 w):s.ok w:=(h.to (Mi:=No) hk (λ_ h=>h.elim)).ok
theorem BsF.cut{w:World}{M:Nat->Prop}{s:Bs}(h:BsF w M s){b e:Nat}(hb:b<=e)(he:e<=s.n):BsF w M (s.cut b e):=by
 have r:((s.l.take e).map v8).length<=e:=by rw[A0,AS];omega
 refine⟨?_,A7 _,?_,λA=>?_⟩
 ·show((s.l.take e).drop b).length=e-b;rw[As,AS,h.len,BP he]
 ·have j:=(h.slf.take e);rw[<-C0] at j;have q:=j.mov (l:=b) (m:=e) r;rw[<-Cd] at q;exact q
 ·have j:=zm9.1 (show zbB s.a b e 1=none from A);have q:=h.nil j;have:=h.cap;show e-b=0;omega
theorem _root_.Go.Sy.Bs.cut_l(s:Bs)(b e:Nat):(s.cut b e).l=(s.l.take e).drop b:=rfl
theorem _root_.Go.Sy.Bs.cut_n(s:Bs)(b e:Nat):(s.cut b e).n=e-b:=rfl
def Bsub(s s':Bs):Prop:=∀(w:World) (M:Nat->Prop),BsF w M s->BsF w M s'
theorem Bsub.trans{s j s2:Bs}(h:Bsub s j)(m:Bsub j s2):Bsub s s2:=λw M q=>m w M (h w M q)
theorem Bsub.cut(s:Bs){b e:Nat}(hb:b<=e)(he:e<=s.n):Bsub s (s.cut b e):=λ_ _ h=>h.cut hb he
end Go.Ct
namespace Go.Proofs.YtdnlngbjpdbffaaGreatDoor
open Go Go.Sy Go.Ct Go.RowKit
attribute [local irreducible] Sy SyL SyX SyC SyF Sy.Fn Sy.FnP callFunc
def rdC(s:Bs)(i:Nat):List Value:=[s.val,.int .i64 (i:Int),.bool true]
theorem zrK(s:Bs)(w:World)(O:s.ok w)(hb:s.n<1000000000):Sy.Fn Tryz.prog 303 [s.val] w No (λv R=>R= []/\((∃x y:Nat,zew s.l=some (x,y)/\v= .tuple #[.int .i64 (x:Int),.int .i64 (y:Int),.int .i64 0])\/(zew s.l=none/\∃e:Int,e≠0/\v= .tuple #[.int .i64 0,.int .i64 0,.int .i64 e]))):=by
 refine zt Tryz.func303 Tryz.ntmps303 ?_;obtain⟨a,n,c,l⟩:=s;have G:l.length=n:=O.len;have a7:n<=c:=O.cap;have K:SlA w a (l.map v8):=O.sla;show Sy _ _ _ _ _ _ _ _ (zd6 0 [.slice a n c]) _;dsimp only at hb ⊢;rcases AG n 2 with T|T
 ·have e:zew l=none:=by
   match l,G with
   | [],_=>rfl
   | [_],_=>rfl
   |_::_::_,G=>simp at G;omega
  have g:decide ((n:Int)<2)=true:=q_d;repeat' first|refine s_0 ?_|refine zA [0,2] ?_;refine zb ?_|refine q_k 1 ?_;refine q_v (zn (hr:=g)) ?_
  exact zdd rfl (zh rfl) (zh rfl) (zh rfl) Ev ⟨rfl,.inr ⟨e,4,by decide,rfl⟩⟩
 obtain⟨t,z,r,rfl⟩:∃t z r,l=t::z::r:=by
  match l,G with
  | [],G=>simp at G;omega
  | [_],G=>simp at G;omega
  |t::z::r,_=>exact⟨t,z,r,rfl⟩
 have a8:r.length=n-2:=by simp only[AQ] at G;omega
 obtain⟨b,o,rfl,q⟩:=zca K (i:=1) q_p;have A:w.cell? ⟨b,o+1,none⟩=some (.int .u8 (z.toNat:Int)):=q 1 _ rfl;have a9:=z.toNat_lt;have U:∀i (H:i<r.length),w.cell? ⟨b,o+2+i,none⟩=some (.int .u8 (r[i].toNat:Int)):=λi H=>by
  have:=q (2+i) (v8 r[i]) (by
   rw[AW,show 2+i=i+1+1 by omega,BA,BA,A2 H];rfl)
  rwa[show o+(2+i)=o+2+i by omega] at this
 have g1:decide ((n:Int)<2)=false:=q_f;have F:zew (t::z::r)=if z.toNat<128 then (if z.toNat<=r.length then some (2,2+z.toNat) else none)
  else if z.toNat-128<1\/3<z.toNat-128 then none
  else if r.length<z.toNat-128 then none
  else if zaw (r.take (z.toNat-128))<zgn (z.toNat-128) then none
  else if r.length-(z.toNat-128)<zaw (r.take (z.toNat-128)) then none
  else some (2+(z.toNat-128),2+(z.toNat-128)+zaw (r.take (z.toNat-128))):=rfl
 rw[F];generalize z.toNat=Z at*;clear F q K O;rcases AG Z 128 with hz|hz
 ·rw[if_pos hz];have g2:decide ((Z:Int)>=128)=false:=q_f;by_cases hf:Z<=r.length
  ·rw[if_pos hf];have g3:decide (((n:Int)-2)<(Z:Int))=false:=q_f;repeat' first|refine s_0 ?_|refine q_k 0 ?_|refine q_k 1 ?_;refine q_v (zn (hr:=g1)) ?_|refine q_k 3 ?_;refine q_v (zq (j:=1)) ?_;refine q_v (zo (hv:=A)) ?_;refine zbh ?_;refine zb ?_|refine q_k 4 ?_;refine q_v (zO (hr:=g2)) ?_|refine q_k 19 ?_;refine q_x zK ?_;refine q_v (zn (hr:=g3)) ?_|refine q_k 21 ?_;refine zba ?_;refine zb ?_
   exact zdd rfl (zh rfl) (zh rfl) (zh rfl) Ev ⟨rfl,.inl ⟨2,2+Z,rfl,by simp⟩⟩
  ·rw[if_neg hf];have g3:decide (((n:Int)-2)<(Z:Int))=true:=q_d;repeat' first|refine s_0 ?_|refine zA [0,20] ?_;refine zb ?_|refine q_k 1 ?_;refine q_v (zn (hr:=g1)) ?_|refine q_k 3 ?_;refine q_v (zq (j:=1)) ?_;refine q_v (zo (hv:=A)) ?_;refine zbh ?_;refine zb ?_|refine q_k 4 ?_;refine q_v (zO (hr:=g2)) ?_|refine q_k 19 ?_;refine q_x zK ?_;refine q_v (zn (hr:=g3)) ?_
   exact zdd rfl (zh rfl) (zh rfl) (zh rfl) Ev ⟨rfl,.inr ⟨rfl,4,by decide,rfl⟩⟩
 rw[if_neg q_o];have g2:decide ((Z:Int)>=128)=true:=q_d;obtain⟨k,hk⟩:∃k,k=Z-128:=⟨_,rfl⟩;rw[<-hk];have g3:IntKind.i64.wrap ((Z:Int)-128)=(k:Int):=q_w;by_cases hk1:k<1\/3<k
 ·rw[if_pos hk1];rcases(show k<1\/(1<=k/\3<k) by omega) with h|⟨h,h'⟩
  ·have g4:decide ((k:Int)<1)=true:=q_d;repeat' first|refine s_0 ?_|refine zA [0,7] ?_;refine zb ?_|refine q_k 1 ?_;refine q_v (zn (hr:=g1)) ?_|refine q_k 3 ?_;refine q_v (zq (j:=1)) ?_;refine q_v (zo (hv:=A)) ?_;refine zbh ?_;refine zb ?_|refine q_k 4 ?_;refine q_v (zO (hr:=g2)) ?_|refine q_k 5 ?_;refine q_x (zK (hr:=g3)) ?_|refine q_k 6 ?_;refine q_x (zn (hr:=g4)) ?_
   exact zdd rfl (zh rfl) (zh rfl) (zh rfl) Ev ⟨rfl,.inr ⟨rfl,6,by decide,rfl⟩⟩
  ·have g4:decide ((k:Int)<1)=false:=q_f;have g5:decide ((k:Int)>3)=true:=q_d;repeat' first|refine s_0 ?_|refine zA [0,7] ?_;refine zb ?_|refine q_k 1 ?_;refine q_v (zn (hr:=g1)) ?_|refine q_k 3 ?_;refine q_v (zq (j:=1)) ?_;refine q_v (zo (hv:=A)) ?_;refine zbh ?_;refine zb ?_|refine q_k 4 ?_;refine q_v (zO (hr:=g2)) ?_|refine q_k 5 ?_;refine q_x (zK (hr:=g3)) ?_|refine q_k 6 ?_;refine q_x (zn (hr:=g4)) ?_;refine q_x (zH (hr:=g5)) ?_
   exact zdd rfl (zh rfl) (zh rfl) (zh rfl) Ev ⟨rfl,.inr ⟨rfl,6,by decide,rfl⟩⟩
 rw[if_neg hk1];have g4:decide ((k:Int)<1)=false:=q_f;have g5:decide ((k:Int)>3)=false:=q_f;have g6:IntKind.i64.wrap (2+(k:Int))=((2+k:Nat):Int):=q_w;by_cases hk2:r.length<k
 ·rw[if_pos hk2];have g7:decide ((n:Int)<((2+k:Nat):Int))=true:=q_d;repeat' first|refine s_0 ?_|refine zA [0,9] ?_;refine zb ?_|refine q_k 1 ?_;refine q_v (zn (hr:=g1)) ?_|refine q_k 3 ?_;refine q_v (zq (j:=1)) ?_;refine q_v (zo (hv:=A)) ?_;refine zbh ?_;refine zb ?_|refine q_k 4 ?_;refine q_v (zO (hr:=g2)) ?_|refine q_k 5 ?_;refine q_x (zK (hr:=g3)) ?_|refine q_k 6 ?_;refine q_x (zn (hr:=g4)) ?_;refine q_x (zH (hr:=g5)) ?_|refine q_k 8 ?_;refine q_v (zD (hr:=g6)) ?_;refine q_v (zn (hr:=g7)) ?_
  exact zdd rfl (zh rfl) (zh rfl) (zh rfl) Ev ⟨rfl,.inr ⟨rfl,4,by decide,rfl⟩⟩
 rw[if_neg hk2];have g7:decide ((n:Int)<((2+k:Nat):Int))=false:=q_f;repeat' first|refine s_t ?_|refine q_k 0 ?_|refine q_k 1 ?_;refine q_v (zn (hr:=g1)) ?_|refine q_k 3 ?_;refine q_v (zq (j:=1)) ?_;refine q_v (zo (hv:=A)) ?_;refine zbh ?_;refine zb ?_|refine q_k 4 ?_;refine q_v (zO (hr:=g2)) ?_|refine q_k 5 ?_;refine q_x (zK (hr:=g3)) ?_|refine q_k 6 ?_;refine q_x (zn (hr:=g4)) ?_;refine q_x (zH (hr:=g5)) ?_|refine q_k 8 ?_;refine q_v (zD (hr:=g6)) ?_;refine q_v (zn (hr:=g7)) ?_|refine q_k 10 ?_;refine q_x (zD (hr:=g6)) ?_|refine q_k 11 ?_;refine zbR ?_;refine zb ?_
 have Y:∀i,i<=3->zaw (r.take i)<16777216:=λi H=>by
  have X:=zfP (r.take i);have T:(r.take i).length<=3:=by rw[AS];omega
  have h3:=AB (show 0<256 by decide) T;omega
 have I:∀i (H:i<r.length),zaw (r.take (i+1))=zaw (r.take i)*256+r[i].toNat:=λi H=>by
  rw[zaE H];unfold zaw;rw[E3];rfl
 refine zL (γ:=Nat) (λi=>[(39,.int .i64 (i:Int)),(38,.int .i64 (k:Int)),(37,.slice (some ⟨b,o+2,none⟩) k k),(0,.slice (some ⟨b,o,none⟩) n c),(2,.int .i64 ((2+k:Nat):Int)),(5,.int .i64 ((zaw (r.take i):Nat):Int)),(6,.int .i64 (k:Int))]) (λ_=>[]) (λi=>i<=k) (λi=>k-i) 0 (AA _) ?_ ?_ ?_
 ·have e:zbB (some ⟨b,o,none⟩) 2 (2+k) 1=some ⟨b,o+2,none⟩:=zfC q_o;rw[e];exact q_h
 ·exact q_h
 intro i H;by_cases hlt:i<k
 ·have g8:decide ((i:Int)<(k:Int))=true:=q_d;have J:=U i q_o;have X:=Y i q_o;have W:=I i q_o;have a6:=(r[i]'q_o).toNat_lt;generalize (r[i]'q_o).toNat=x at*;have g9:=zv3 ((zaw (r.take i):Nat):Int) .u64 q_o q_o;have B:=zk6 ((zaw (r.take i):Nat):Int) x q_o q_o q_o;have E:IntKind.i64.wrap ((i:Int)+1)=((i+1:Nat):Int):=q_w;rw[show((zaw (r.take i):Nat):Int)*256+(x:Int)=((zaw (r.take (i+1)):Nat):Int) by rw[W];omega] at B;repeat' first|refine s_t ?_|refine zf 12 ?_;refine q_v (zn (hr:=g8)) ?_|refine zf 13 ?_;refine q_v (zq (j:=i)) ?_;refine q_x (zo (hv:=J)) ?_|refine q_k 14 ?_;refine q_x (zeD (hr:=g9)) ?_;refine zbh ?_;refine q_x (zj3 (hr:=B)) ?_|refine zf 15 ?_;refine q_x (zD (hr:=E)) ?_
  refine zC (i+1) hlt ?_ ?_ ?_
  ·show k-(i+1)<k-i;omega
  ·exact q_h
  ·exact q_h
 obtain rfl:i=k:=q_o;have g8:decide ((i:Int)<(i:Int))=false:=q_f;have X:=Y i q_o;generalize zaw (r.take i)=V at*;have m: [Value.int .i64 0,.int .i64 128,.int .i64 256,.int .i64 65536][i]?=some (.int .i64 ((zgn i:Nat):Int)):=by
  rcases(show i=1\/i=2\/i=3 by omega) with rfl|rfl|rfl <;> rfl
 generalize zgn i=Q at*;by_cases hf:V<Q
 ·rw[if_pos hf];have g9:decide ((V:Int)<(Q:Int))=true:=q_d;repeat' first|refine s_0 ?_|refine zf 12 ?_;refine q_v (zn (hr:=g8)) ?_|refine zf 16 ?_;refine zbt ?_;refine zk λ_=>?_;refine zP ?_|refine q_k 17 ?_;refine zQ ?_;refine q_v (zM (hv:=m)) ?_;refine q_v (zn (hr:=g9)) ?_|refine q_k 18 ?_
  exact zdd rfl (zh rfl) (zh rfl) (zh rfl) Ev ⟨rfl,.inr ⟨rfl,6,by decide,rfl⟩⟩
 rw[if_neg hf];have g9:decide ((V:Int)<(Q:Int))=false:=q_f;have B:IntKind.i64.wrap ((n:Int)-((2+i:Nat):Int))=((r.length-i:Nat):Int):=q_w;by_cases hf2:r.length-i<V
 ·rw[if_pos hf2];have E:decide (((r.length-i:Nat):Int)<(V:Int))=true:=q_d;repeat' first|refine s_0 ?_|refine zf 12 ?_;refine q_v (zn (hr:=g8)) ?_|refine zf 16 ?_;refine zbt ?_;refine zk λ_=>?_;refine zP ?_|refine q_k 17 ?_;refine zQ ?_;refine q_v (zM (hv:=m)) ?_;refine q_v (zn (hr:=g9)) ?_|refine q_k 19 ?_;refine q_x (zK (hr:=B)) ?_;refine q_v (zn (hr:=E)) ?_|refine q_k 20 ?_
  exact zdd rfl (zh rfl) (zh rfl) (zh rfl) Ev ⟨rfl,.inr ⟨rfl,4,by decide,rfl⟩⟩
 rw[if_neg hf2];have E:decide (((r.length-i:Nat):Int)<(V:Int))=false:=q_f;have S:IntKind.i64.wrap (((2+i:Nat):Int)+(V:Int))=((2+i+V:Nat):Int):=q_w;repeat' first|refine s_0 ?_|refine zf 12 ?_;refine q_v (zn (hr:=g8)) ?_|refine zf 16 ?_;refine zbt ?_;refine zk λ_=>?_;refine zP ?_|refine q_k 17 ?_;refine zQ ?_;refine q_v (zM (hv:=m)) ?_;refine q_v (zn (hr:=g9)) ?_|refine q_k 19 ?_;refine q_x (zK (hr:=B)) ?_;refine q_v (zn (hr:=E)) ?_|refine q_k 21 ?_;refine q_x (zD (hr:=S)) ?_
 exact zdd rfl (zh rfl) (zh rfl) (zh rfl) Ev ⟨rfl,.inl ⟨2+i,2+i+V,rfl,rfl⟩⟩
end Go.Proofs.YtdnlngbjpdbffaaGreatDoor
namespace Go.Sy
open Go Go.RowKit
variable {P:Program}{ro:Option Nat}{N:Nat}{w0:World}{M:Nat->Prop}{ds:List Deferred}{g:Nat->Option Value}{L L1 C:List Res}{o:Oper}
theorem zhN{w:World}{X:List Res}(hC:RemL L C L1)(hh:Holds w0.heap.size M (L++X) w):Holds w.heap.size (OwnOf C) C w:=by
 have q:(L++X).Perm (C++(L1++X)):=by rw[<-AI];exact Ak X hC
 have j:=(hh.perm q).sublist (CJ C (L1++X));exact⟨j.all,j.apart,λr A b m=> .inr ⟨r,A,m⟩⟩
theorem zh8{w:World}{X:List Res}(hC:RemL L C L1)(hh:Holds w0.heap.size M (L++X) w):∀b,OwnOf C b->w0.heap.size<=b\/M b:=by
 rintro b ⟨r,q,j⟩;have m:r∈L++X:=AH _ (hC.mem_iff.2 (AH _ q));exact hh.mine r m b j
theorem za2{m:Operand}{args:Array Operand}{j:Array TypeId}{f:Nat}{vs:List Value}{cap:List Value}{post:Value->List Res->Prop}(hC:RemL L C L1)
  (hc:∀w,Keep M w0 w->(∀b,OwnOf C b->w0.heap.size<=b\/M b)->Holds w.heap.size (OwnOf C) C w->Fn P f (vs++cap) w (OwnOf C) post)
  (E:o.op= .call { callee:=.value m,args:=args,argTypes:=j } :=by exact rfl)(A:ev g m=some (.func (.func f) #[] cap.toArray):=by exact rfl)(ha:evs g args.toList=some vs:=by exact rfl)
  (he:∀args w,(callFunc f args).run P w= .ok (.enter f args) w:=by exact en rfl):OpT P ro N w0 M ds o g L (λv r=>∃R,r=R++L1/\post v R):=
 zeq E A ha he hC (λ_ h=>h) (λw X B q=>hc w B (zh8 hC q) (zhN hC q))
end Go.Sy
namespace Go.Proofs.YtdnlngbjpdbffaaGreatDoor
open Go Go.Sy Go.Ct Go.RowKit
attribute [local irreducible] Sy SyL SyX SyC SyF Sy.Fn Sy.FnP callFunc
abbrev zj(r:Nat)(s:Bs)(i:Nat):Res:=.blk r 190 (rdC s i)
theorem zmk(r:Nat)(s:Bs)(i:Nat)(w:World)(hr:w.rangeAt r 0 (rdC s i))(m:i<=s.n)(hc:s.n<=s.c):q_G 178 [.pointer (some ⟨r,0,none⟩)] w (s.cut i s.n).val:=by
 refine zt Tryz.func178 Tryz.ntmps178 ?_;have h0:w.cell? ⟨r,0,none⟩=some (.slice s.a s.n s.c):=hr 0 _ rfl;have j:w.cell? ⟨r,1,none⟩=some (.int .i64 (i:Int)):=hr 1 _ rfl;show Sy _ _ _ _ _ _ _ (bodyPostM _ _ _ _ (FnR _ _ (ziD (.slice (zbB s.a i s.n 1) (s.n-i) (s.n-i))))) _ _;repeat' first|refine s_0 ?_|refine q_k 0 ?_|refine zai (id:=1) 18 [[],[0],[0,1],[0,1,2],[],[4],[4,5],[4,5,6],[],[8],[8,9],[8,9,10],[8,9,10,11],[],[13],[13,14],[13,14,15],[13,14,15,16],[0,1,2,3,4,5,6,7,8,9,10,11,12,13,14,15,16,17],[0,1,2,3,4,5,6,7,8,9,10,11,12,13,14,15,16,17,18]] mixed ?_ ?_;kernel_rfl;refine zB ?_;refine dc (by intro _ _;first|exact zdq|exact op_nilCheckF) (k:=?_);refine q_D zN ?_;refine q_D (zo (hv:=h0)) ?_;refine zB ?_;refine dc (by intro _ _;first|exact zdq|exact op_nilCheckF) (k:=?_);refine q_D zN ?_;refine q_D (zo (hv:=j)) ?_;refine zB ?_;refine dc (by intro _ _;first|exact zdq|exact op_nilCheckF) (k:=?_);refine q_D zN ?_;refine q_D (zo (hv:=h0)) ?_;refine dc (by intro _ _;first|exact zfk|exact zgi) (k:=?_);refine zB ?_;refine dc (by intro _ _;first|exact zdq|exact op_nilCheckF) (k:=?_);refine q_D zN ?_;refine q_D (zo (hv:=h0)) ?_;refine dc (by intro _ _;first|exact zfk|exact zgi) (k:=?_);refine zaF ?_;refine zbR ?_;refine zw ?_|fail
 exact q_r
theorem ztZ(s:Bs)(i:Nat)(h:s.l.length=s.n):(s.cut i s.n).l=s.l.drop i:=by rw[Bs.cut_l,<-h,C3]
def ziJ(r:Nat)(s:Bs)(i tag:Nat)(v:Value)(R:List Res):Prop:=
 (∃c rst s' k,zaZ tag (s.l.drop i)=some (c,rst)/\Bsub s s'/\s'.l=c/\s'.n<=s.n/\k<=s.n/\s.l.drop k=rst/\v= .tuple #[s'.val,.int .i64 0]/\R= [zj r s k])\/
 (zaZ tag (s.l.drop i)=none/\∃e:Int,e≠0/\v= .tuple #[.slice none 0 0,.int .i64 e]/\R= [zj r s i])
theorem zhW(r:Nat)(s:Bs)(i tag:Nat)(w:World)(hL:Holds w.heap.size (OwnOf [zj r s i]) [zj r s i] w)(Z:BsF w (OwnOf [zj r s i]) s)(U:i<=s.n)(hb:s.n<1000000000)(ht:tag<256):
  Sy.Fn Tryz.prog 266 [.pointer (some ⟨r,0,none⟩),.int .u8 (tag:Int)] w (OwnOf [zj r s i]) (ziJ r s i tag):=by
 refine zaX Tryz.func266 rfl Tryz.ntmps266 q_p hL ?_;have m:=λI hr=>zmk r s i I hr U Z.cap;have B:=Z.cut U (A7 s.n);have K:=ztZ s i Z.len;have H:=Bsub.cut s U (A7 s.n);have a6:(s.cut i s.n).n=s.n-i:=rfl;unfold ziJ;generalize s.cut i s.n=s1,hM:OwnOf [zj r s i]=M at*;have A:s1.val= .slice s1.a s1.n s1.c:=rfl;rw[A] at m;have G:=λI (hk:Keep M w I)=>zrK s1 I (B.no hk) q_o;rw[A] at G;repeat' first|refine s_0 ?_|refine q_k 0 ?_|refine q_k 1 ?_;refine q_v (za (hc:=λI X hk hh=>m I (zp (hh.has (r:=zj r s i) q_h) Ex))) ?_;refine zb ?_
 have E:s1.l.length=s1.n:=B.len;rw[<-K];rcases AE s1.n with hz|hz
 ·have e:s1.l= []:=Av.1 q_o;have g:decide ((s1.n:Int)=0)=true:=q_d;rw[e];repeat' first|refine s_0 ?_|refine q_k 2 ?_;refine q_v (zS (hr:=g)) ?_|refine q_k 3 ?_
  exact zU rfl (zh rfl) (zh rfl) Ez (.inr ⟨rfl,4,by decide,rfl,rfl⟩)
 have g:decide ((s1.n:Int)=0)=false:=q_f;obtain⟨x,l,hx⟩:∃x l,s1.l=x::l:=by
  cases h:s1.l with
  |nil=>rw[h] at E;simp at E;omega
  |cons x l=>exact⟨x,l,rfl⟩
 obtain⟨b,o,S,Y,O⟩:∃b o,s1.a=some ⟨b,o,none⟩/\w.rangeAt b o (s1.l.map v8)/\¬M b:=by
  rcases B.slf with h|h
  ·rw[hx] at h;cases h
  ·exact h
 have J:w.cell? ⟨b,o+0,none⟩=some (.int .u8 (x.toNat:Int)):=Y 0 _ (by rw[hx];rfl);rw[S] at m G A;rw[S];have W:zaZ tag s1.l=if x.toNat=tag then (zew s1.l).map (λp=>((s1.l.take p.2).drop p.1,s1.l.drop p.2)) else none:=by rw[hx];rfl
 have a7:=x.toNat_lt;rw[W];by_cases hxt:¬x.toNat=tag
 ·rw[if_neg hxt];have g2:decide ((x.toNat:Int)≠(tag:Int))=true:=q_d;repeat' first|refine s_0 ?_|refine q_k 2 ?_;refine q_v (zS (hr:=g)) ?_|refine q_k 4 ?_;refine q_v (zq (j:=0)) ?_;refine q_x (zo (hv:=J) (hn:=O)) ?_;refine q_v (zad (hr:=g2)) ?_|refine q_k 5 ?_
  exact zU rfl (zh rfl) (zh rfl) Ez (.inr ⟨rfl,6,by decide,rfl,rfl⟩)
 rw[if_pos (E5.1 hxt)];have g2:decide ((x.toNat:Int)≠(tag:Int))=false:=q_f;repeat' first|refine s_0 ?_|refine q_k 2 ?_;refine q_v (zS (hr:=g)) ?_|refine q_k 4 ?_;refine q_v (zq (j:=0)) ?_;refine q_x (zo (hv:=J) (hn:=O)) ?_;refine q_v (zad (hr:=g2)) ?_
 repeat' first|refine s_0 ?_|refine q_k 6 ?_;(refine q_s (zi (hc:=zr G)) ?_;rintro _ _ ⟨R,rfl,rfl,(⟨F,q,Q,rfl⟩|⟨Q,e,he,rfl⟩)⟩);refine zb ?_|(refine zx ?_;first|refine zw ?_|refine zZ ?_|refine zaU ?_|fail)|fail
 ·have V:=zqB Q;have T:=B.cap;have g3:decide ((0:Int)≠0)=false:=rfl;have g4:IntKind.i64.wrap ((i:Int)+(q:Int))=((i+q:Nat):Int):=q_w;repeat' first|refine s_0 ?_|refine q_k 7 ?_;refine q_v (zad (hr:=g3)) ?_|refine q_k 9 ?_;refine zm ?_;refine zb ?_;refine q_x (zD (hr:=g4)) ?_;refine q_n (zaO (v:=.int .i64 ((i+q:Nat):Int)) (hC:=⟨A5 rfl,rfl⟩)) ?_|refine q_k 10 ?_;refine zbR ?_;refine zb ?_
  refine zU rfl (zh rfl) (zh rfl) Ez (.inl ⟨(s1.l.take q).drop F,s1.l.drop q,s1.cut F q,i+q,by rw[Q];rfl,H.trans (Bsub.cut s1 V.2.1 q_o),rfl,by rw[Bs.cut_n];omega,by omega,by rw[K,Cw],?_,rfl⟩);show Value.tuple #[.slice (zbB (some ⟨b,o,none⟩) F q 1) (q-F) (q-F),.int .i64 0]= .tuple #[.slice (zbB s1.a F q 1) (q-F) (q-F),.int .i64 0];rw[S]
 ·have g3:decide (e≠0)=true:=decide_eq_true he;repeat' first|refine s_0 ?_|refine q_k 7 ?_;refine q_v (zad (hr:=g3)) ?_|refine q_k 8 ?_
  exact zU rfl (zh rfl) (zh rfl) Ez (.inr ⟨by rw[Q];rfl,e,he,rfl,rfl⟩)
def ReadR(r:Nat)(s:Bs)(i tag:Nat)(good:List UInt8->Bool)(Ψ:Bs->Value->List Res->Prop)(v:Value)(R:List Res):Prop:=
 (∃c rst s' k u R',zaZ tag (s.l.drop i)=some (c,rst)/\good c=true/\Bsub s s'/\s'.l=c/\s'.n<=s.n/\k<=s.n/\s.l.drop k=rst/\Ψ s' u R'/\v= .tuple #[u,.int .i64 0]/\R=zj r s k::R')\/
 ((∀c rst,zaZ tag (s.l.drop i)=some (c,rst)->good c=false)/\∃(e:Int) (u:Value),e≠0/\v= .tuple #[u,.int .i64 e]/\R= [zj r s i])
def zfv(f:Nat)(good:List UInt8->Bool)(Ψ:Bs->Value->List Res->Prop)(m:Nat):Prop:=
 ∀(s':Bs) (w':World),s'.ok w'->s'.n<=m->Sy.Fn Tryz.prog f [s'.val] w' No (λv R=>∃u b,v= .tuple #[u,.bool b]/\b=good s'.l/\(b=true->Ψ s' u R)/\(b=false->R= []))
theorem zlC{tag:Nat}{l:List UInt8}{j:List UInt8->Bool}(h:zaZ tag l=none):∀c m,zaZ tag l=some (c,m)->j c=false:=λc m q=>by rw[h] at q;cases q
theorem zje{tag:Nat}{l c m:List UInt8}{j:List UInt8->Bool}(h:zaZ tag l=some (c,m))(w:j c=false):∀c m,zaZ tag l=some (c,m)->j c=false:=λA r q=>by rw[h] at q;cases q;exact w
theorem zn7(f:Nat)(q:List UInt8->Bool)(Ψ:Bs->Value->List Res->Prop)(K:∀args w,(callFunc f args).run Tryz.prog w= .ok (.enter f args) w)
  (r:Nat)(s:Bs)(i tag:Nat)(w:World)(I:zfv f q Ψ s.n)(hL:Holds w.heap.size (OwnOf [zj r s i]) [zj r s i] w)(X:BsF w (OwnOf [zj r s i]) s)(Z:i<=s.n)(hb:s.n<1000000000)(ht:tag<256):
  Sy.Fn Tryz.prog 237 [.pointer (some ⟨r,0,none⟩),.int .u8 (tag:Int),.func (.func f) #[] #[]] w (OwnOf [zj r s i]) (ReadR r s i tag q Ψ):=by
 refine zaX Tryz.func237 rfl Tryz.ntmps237 q_p hL ?_;have H:=λm (F:Keep (OwnOf [zj r s i]) w m) (S:∀b,OwnOf [zj r s i] b->w.heap.size<=b\/OwnOf [zj r s i] b) (O:Holds m.heap.size (OwnOf [zj r s i]) [zj r s i] m)=>zhW r s i tag m O (X.to F S) Z hb ht;unfold ziJ at H;repeat' first|refine s_0 ?_|refine zA [0,1] ?_;refine zb ?_|refine q_k 2 ?_;refine zaH ?_;refine zb ?_;refine zm ?_;refine zI ?_;refine zb ?_|refine q_k 4 ?_;refine zm ?_;refine zb ?_
 repeat' first|refine s_0 ?_|refine q_k 5 ?_;(refine q_s (za2 (f:=266) (C:=[zj r s i]) (F0 (by exact Eu) rfl F2) (hc:=λm F S O=>H m F S O)) ?_;rintro _ _ ⟨R,rfl,(⟨c,W,E,k,j,A,hc,G,Q,J,rfl,rfl⟩|⟨j,e,he,rfl,rfl⟩)⟩);refine zb ?_|(refine zx ?_;first|refine zw ?_|refine zZ ?_|refine zaU ?_|fail)|fail
 rotate_left
 ·have g:decide (e≠0)=true:=decide_eq_true he;repeat' first|refine s_0 ?_|refine q_k 6 ?_;refine q_v (zad (hr:=g)) ?_|refine q_k 7 ?_
  exact zU rfl (zh rfl) (zh rfl) Ez (.inr ⟨zlC j,e,_,he,rfl,rfl⟩)
 have Y:=λm (F:Keep (OwnOf [zj r s i]) w m)=>I E m ((A _ _ X).no F) G;have V:E.val= .slice E.a E.n E.c:=rfl;rw[V] at Y ⊢;repeat' first|refine s_0 ?_|refine q_k 6 ?_;refine q_v (zad (hr:=rfl)) ?_|refine q_k 8 ?_;(refine q_s (zi (f:=f) (he:=K) (hc:=zr Y)) ?_;rintro _ _ ⟨R,rfl,u,b,rfl,B,T,U⟩);refine zb ?_
 rw[hc] at B;cases b with
 |true=>
  have hp:=T rfl;repeat' first|refine s_0 ?_|refine q_k 9 ?_;refine zI ?_|refine q_k 12 ?_
  exact zU rfl (zh rfl) (zh rfl) (by exact⟨[],(Aj (l₁:=R) (l₂:=[zj r s k])).trans q_p⟩) (.inl ⟨c,W,E,k,u,R,j,B.symm,A,hc,G,Q,J,hp,rfl,rfl⟩)
 |false=>
  obtain rfl:=U rfl;repeat' first|refine s_0 ?_|refine q_k 9 ?_;refine zI ?_|refine q_k 10 ?_;refine q_n (zaO (v:=.int .i64 (i:Int)) (hC:=⟨A5 rfl,rfl⟩)) ?_|refine q_k 11 ?_
  exact zU rfl (zh rfl) (zh rfl) Ez (.inr ⟨zje j B.symm,6,_,by decide,rfl,rfl⟩)
theorem zoK(f:Nat)(q:List UInt8->Bool)(Ψ:Bs->Value->List Res->Prop)(K:∀args w,(callFunc f args).run Tryz.prog w= .ok (.enter f args) w)
  (r:Nat)(s:Bs)(i tag:Nat)(w:World)(I:zfv f q Ψ s.n)(hL:Holds w.heap.size (OwnOf [zj r s i]) [zj r s i] w)(X:BsF w (OwnOf [zj r s i]) s)(Z:i<=s.n)(hb:s.n<1000000000)(ht:tag<256):
  Sy.Fn Tryz.prog 255 [.pointer (some ⟨r,0,none⟩),.int .u8 (tag:Int),.func (.func f) #[] #[]] w (OwnOf [zj r s i]) (ReadR r s i tag q Ψ):=by
 refine zaX Tryz.func255 rfl Tryz.ntmps255 q_p hL ?_;have H:=λm (F:Keep (OwnOf [zj r s i]) w m) (S:∀b,OwnOf [zj r s i] b->w.heap.size<=b\/OwnOf [zj r s i] b) (O:Holds m.heap.size (OwnOf [zj r s i]) [zj r s i] m)=>zhW r s i tag m O (X.to F S) Z hb ht;unfold ziJ at H;repeat' first|refine s_0 ?_|refine zA [0,1] ?_;refine zb ?_|refine q_k 2 ?_;refine zaH ?_;refine zb ?_;refine zm ?_;refine zI ?_;refine zb ?_|refine q_k 4 ?_;refine zm ?_;refine zb ?_
 repeat' first|refine s_0 ?_|refine q_k 5 ?_;(refine q_s (za2 (f:=266) (C:=[zj r s i]) (F0 (by exact Eu) rfl F2) (hc:=λm F S O=>H m F S O)) ?_;rintro _ _ ⟨R,rfl,(⟨c,W,E,k,j,A,hc,G,Q,J,rfl,rfl⟩|⟨j,e,he,rfl,rfl⟩)⟩);refine zb ?_|(refine zx ?_;first|refine zw ?_|refine zZ ?_|refine zaU ?_|fail)|fail
 rotate_left
 ·have g:decide (e≠0)=true:=decide_eq_true he;repeat' first|refine s_0 ?_|refine q_k 6 ?_;refine q_v (zad (hr:=g)) ?_|refine q_k 7 ?_
  exact zU rfl (zh rfl) (zh rfl) Ez (.inr ⟨zlC j,e,_,he,rfl,rfl⟩)
 have Y:=λm (F:Keep (OwnOf [zj r s i]) w m)=>I E m ((A _ _ X).no F) G;have V:E.val= .slice E.a E.n E.c:=rfl;rw[V] at Y ⊢;repeat' first|refine s_0 ?_|refine q_k 6 ?_;refine q_v (zad (hr:=rfl)) ?_|refine q_k 8 ?_;(refine q_s (zi (f:=f) (he:=K) (hc:=zr Y)) ?_;rintro _ _ ⟨R,rfl,u,b,rfl,B,T,U⟩);refine zb ?_
 rw[hc] at B;cases b with
 |true=>
  have hp:=T rfl;repeat' first|refine s_0 ?_|refine q_k 9 ?_;refine zI ?_|refine q_k 12 ?_
  exact zU rfl (zh rfl) (zh rfl) (by exact⟨[],(Aj (l₁:=R) (l₂:=[zj r s k])).trans q_p⟩) (.inl ⟨c,W,E,k,u,R,j,B.symm,A,hc,G,Q,J,hp,rfl,rfl⟩)
 |false=>
  obtain rfl:=U rfl;repeat' first|refine s_0 ?_|refine q_k 9 ?_;refine zI ?_|refine q_k 10 ?_;refine q_n (zaO (v:=.int .i64 (i:Int)) (hC:=⟨A5 rfl,rfl⟩)) ?_|refine q_k 11 ?_
  exact zU rfl (zh rfl) (zh rfl) Ez (.inr ⟨zje j B.symm,6,_,by decide,rfl,rfl⟩)
theorem zuW(f:Nat)(q:List UInt8->Bool)(Ψ:Bs->Value->List Res->Prop)(K:∀args w,(callFunc f args).run Tryz.prog w= .ok (.enter f args) w)
  (r:Nat)(s:Bs)(i tag:Nat)(w:World)(I:zfv f q Ψ s.n)(hL:Holds w.heap.size (OwnOf [zj r s i]) [zj r s i] w)(X:BsF w (OwnOf [zj r s i]) s)(Z:i<=s.n)(hb:s.n<1000000000)(ht:tag<256):
  Sy.Fn Tryz.prog 205 [.pointer (some ⟨r,0,none⟩),.int .u8 (tag:Int),.func (.func f) #[] #[]] w (OwnOf [zj r s i]) (ReadR r s i tag q Ψ):=by
 refine zaX Tryz.func205 rfl Tryz.ntmps205 q_p hL ?_;have H:=λm (F:Keep (OwnOf [zj r s i]) w m) (S:∀b,OwnOf [zj r s i] b->w.heap.size<=b\/OwnOf [zj r s i] b) (O:Holds m.heap.size (OwnOf [zj r s i]) [zj r s i] m)=>zhW r s i tag m O (X.to F S) Z hb ht;unfold ziJ at H;repeat' first|refine s_0 ?_|refine zA [0,1] ?_;refine zb ?_|refine q_k 2 ?_;refine zaH ?_;refine zb ?_;refine zm ?_;refine zI ?_;refine zb ?_|refine q_k 4 ?_;refine zm ?_;refine zb ?_
 repeat' first|refine s_0 ?_|refine q_k 5 ?_;(refine q_s (za2 (f:=266) (C:=[zj r s i]) (F0 (by exact Eu) rfl F2) (hc:=λm F S O=>H m F S O)) ?_;rintro _ _ ⟨R,rfl,(⟨c,W,E,k,j,A,hc,G,Q,J,rfl,rfl⟩|⟨j,e,he,rfl,rfl⟩)⟩);refine zb ?_|(refine zx ?_;first|refine zw ?_|refine zZ ?_|refine zaU ?_|fail)|fail
 rotate_left
 ·have g:decide (e≠0)=true:=decide_eq_true he;repeat' first|refine s_0 ?_|refine q_k 6 ?_;refine q_v (zad (hr:=g)) ?_|refine q_k 7 ?_
  exact zU rfl (zh rfl) (zh rfl) Ez (.inr ⟨zlC j,e,_,he,rfl,rfl⟩)
 have Y:=λm (F:Keep (OwnOf [zj r s i]) w m)=>I E m ((A _ _ X).no F) G;have V:E.val= .slice E.a E.n E.c:=rfl;rw[V] at Y ⊢;repeat' first|refine s_0 ?_|refine q_k 6 ?_;refine q_v (zad (hr:=rfl)) ?_|refine q_k 8 ?_;(refine q_s (zi (f:=f) (he:=K) (hc:=zr Y)) ?_;rintro _ _ ⟨R,rfl,u,b,rfl,B,T,U⟩);refine zb ?_
 rw[hc] at B;cases b with
 |true=>
  have hp:=T rfl;repeat' first|refine s_0 ?_|refine q_k 9 ?_;refine zI ?_|refine q_k 12 ?_
  exact zU rfl (zh rfl) (zh rfl) (by exact⟨[],(Aj (l₁:=R) (l₂:=[zj r s k])).trans q_p⟩) (.inl ⟨c,W,E,k,u,R,j,B.symm,A,hc,G,Q,J,hp,rfl,rfl⟩)
 |false=>
  obtain rfl:=U rfl;repeat' first|refine s_0 ?_|refine q_k 9 ?_;refine zI ?_|refine q_k 10 ?_;refine q_n (zaO (v:=.int .i64 (i:Int)) (hC:=⟨A5 rfl,rfl⟩)) ?_|refine q_k 11 ?_
  exact zU rfl (zh rfl) (zh rfl) Ez (.inr ⟨zje j B.symm,6,_,by decide,rfl,rfl⟩)
theorem zvK(f:Nat)(q:List UInt8->Bool)(Ψ:Bs->Value->List Res->Prop)(K:∀args w,(callFunc f args).run Tryz.prog w= .ok (.enter f args) w)
  (r:Nat)(s:Bs)(i tag:Nat)(w:World)(I:zfv f q Ψ s.n)(hL:Holds w.heap.size (OwnOf [zj r s i]) [zj r s i] w)(X:BsF w (OwnOf [zj r s i]) s)(Z:i<=s.n)(hb:s.n<1000000000)(ht:tag<256):
  Sy.Fn Tryz.prog 267 [.pointer (some ⟨r,0,none⟩),.int .u8 (tag:Int),.func (.func f) #[] #[]] w (OwnOf [zj r s i]) (ReadR r s i tag q Ψ):=by
 refine zaX Tryz.func267 rfl Tryz.ntmps267 q_p hL ?_;have H:=λm (F:Keep (OwnOf [zj r s i]) w m) (S:∀b,OwnOf [zj r s i] b->w.heap.size<=b\/OwnOf [zj r s i] b) (O:Holds m.heap.size (OwnOf [zj r s i]) [zj r s i] m)=>zhW r s i tag m O (X.to F S) Z hb ht;unfold ziJ at H;repeat' first|refine s_0 ?_|refine zA [0,1] ?_;refine zb ?_|refine q_k 2 ?_;refine zaH ?_;refine zb ?_;refine zm ?_;refine zI ?_;refine zb ?_|refine q_k 4 ?_;refine zm ?_;refine zb ?_
 repeat' first|refine s_0 ?_|refine q_k 5 ?_;(refine q_s (za2 (f:=266) (C:=[zj r s i]) (F0 (by exact Eu) rfl F2) (hc:=λm F S O=>H m F S O)) ?_;rintro _ _ ⟨R,rfl,(⟨c,W,E,k,j,A,hc,G,Q,J,rfl,rfl⟩|⟨j,e,he,rfl,rfl⟩)⟩);refine zb ?_|(refine zx ?_;first|refine zw ?_|refine zZ ?_|refine zaU ?_|fail)|fail
 rotate_left
 ·have g:decide (e≠0)=true:=decide_eq_true he;repeat' first|refine s_0 ?_|refine q_k 6 ?_;refine q_v (zad (hr:=g)) ?_|refine q_k 7 ?_
  exact zU rfl (zh rfl) (zh rfl) Ez (.inr ⟨zlC j,e,_,he,rfl,rfl⟩)
 have Y:=λm (F:Keep (OwnOf [zj r s i]) w m)=>I E m ((A _ _ X).no F) G;have V:E.val= .slice E.a E.n E.c:=rfl;rw[V] at Y ⊢;repeat' first|refine s_0 ?_|refine q_k 6 ?_;refine q_v (zad (hr:=rfl)) ?_|refine q_k 8 ?_;(refine q_s (zi (f:=f) (he:=K) (hc:=zr Y)) ?_;rintro _ _ ⟨R,rfl,u,b,rfl,B,T,U⟩);refine zb ?_
 rw[hc] at B;cases b with
 |true=>
  have hp:=T rfl;repeat' first|refine s_0 ?_|refine q_k 9 ?_;refine zI ?_|refine q_k 12 ?_
  exact zU rfl (zh rfl) (zh rfl) (by exact⟨[],(Aj (l₁:=R) (l₂:=[zj r s k])).trans q_p⟩) (.inl ⟨c,W,E,k,u,R,j,B.symm,A,hc,G,Q,J,hp,rfl,rfl⟩)
 |false=>
  obtain rfl:=U rfl;repeat' first|refine s_0 ?_|refine q_k 9 ?_;refine zI ?_|refine q_k 10 ?_;refine q_n (zaO (v:=.int .i64 (i:Int)) (hC:=⟨A5 rfl,rfl⟩)) ?_|refine q_k 11 ?_
  exact zU rfl (zh rfl) (zh rfl) Ez (.inr ⟨zje j B.symm,6,_,by decide,rfl,rfl⟩)
theorem zv0(f:Nat)(q:List UInt8->Bool)(Ψ:Bs->Value->List Res->Prop)(K:∀args w,(callFunc f args).run Tryz.prog w= .ok (.enter f args) w)
  (r:Nat)(s:Bs)(i tag:Nat)(w:World)(I:zfv f q Ψ s.n)(hL:Holds w.heap.size (OwnOf [zj r s i]) [zj r s i] w)(X:BsF w (OwnOf [zj r s i]) s)(Z:i<=s.n)(hb:s.n<1000000000)(ht:tag<256):
  Sy.Fn Tryz.prog 301 [.pointer (some ⟨r,0,none⟩),.int .u8 (tag:Int),.func (.func f) #[] #[]] w (OwnOf [zj r s i]) (ReadR r s i tag q Ψ):=by
 refine zaX Tryz.func301 rfl Tryz.ntmps301 q_p hL ?_;have H:=λm (F:Keep (OwnOf [zj r s i]) w m) (S:∀b,OwnOf [zj r s i] b->w.heap.size<=b\/OwnOf [zj r s i] b) (O:Holds m.heap.size (OwnOf [zj r s i]) [zj r s i] m)=>zhW r s i tag m O (X.to F S) Z hb ht;unfold ziJ at H;repeat' first|refine s_0 ?_|refine zA [0,1] ?_;refine zb ?_|refine q_k 2 ?_;refine zaH ?_;refine zb ?_;refine zm ?_;refine zI ?_;refine zb ?_|refine q_k 4 ?_;refine zm ?_;refine zb ?_
 repeat' first|refine s_0 ?_|refine q_k 5 ?_;(refine q_s (za2 (f:=266) (C:=[zj r s i]) (F0 (by exact Eu) rfl F2) (hc:=λm F S O=>H m F S O)) ?_;rintro _ _ ⟨R,rfl,(⟨c,W,E,k,j,A,hc,G,Q,J,rfl,rfl⟩|⟨j,e,he,rfl,rfl⟩)⟩);refine zb ?_|(refine zx ?_;first|refine zw ?_|refine zZ ?_|refine zaU ?_|fail)|fail
 rotate_left
 ·have g:decide (e≠0)=true:=decide_eq_true he;repeat' first|refine s_0 ?_|refine q_k 6 ?_;refine q_v (zad (hr:=g)) ?_|refine q_k 7 ?_
  exact zU rfl (zh rfl) (zh rfl) Ez (.inr ⟨zlC j,e,_,he,rfl,rfl⟩)
 have Y:=λm (F:Keep (OwnOf [zj r s i]) w m)=>I E m ((A _ _ X).no F) G;have V:E.val= .slice E.a E.n E.c:=rfl;rw[V] at Y ⊢;repeat' first|refine s_0 ?_|refine q_k 6 ?_;refine q_v (zad (hr:=rfl)) ?_|refine q_k 8 ?_;(refine q_s (zi (f:=f) (he:=K) (hc:=zr Y)) ?_;rintro _ _ ⟨R,rfl,u,b,rfl,B,T,U⟩);refine zb ?_
 rw[hc] at B;cases b with
 |true=>
  have hp:=T rfl;repeat' first|refine s_0 ?_|refine q_k 9 ?_;refine zI ?_|refine q_k 12 ?_
  exact zU rfl (zh rfl) (zh rfl) (by exact⟨[],(Aj (l₁:=R) (l₂:=[zj r s k])).trans q_p⟩) (.inl ⟨c,W,E,k,u,R,j,B.symm,A,hc,G,Q,J,hp,rfl,rfl⟩)
 |false=>
  obtain rfl:=U rfl;repeat' first|refine s_0 ?_|refine q_k 9 ?_;refine zI ?_|refine q_k 10 ?_;refine q_n (zaO (v:=.int .i64 (i:Int)) (hC:=⟨A5 rfl,rfl⟩)) ?_|refine q_k 11 ?_
  exact zU rfl (zh rfl) (zh rfl) Ez (.inr ⟨zje j B.symm,6,_,by decide,rfl,rfl⟩)
end Go.Proofs.YtdnlngbjpdbffaaGreatDoor
