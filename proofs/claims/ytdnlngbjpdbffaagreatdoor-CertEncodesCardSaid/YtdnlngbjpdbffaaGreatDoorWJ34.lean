/- Lemmas of this proof. -/
import Derived.Test.YtdnlngbjpdbffaaGreatDoorWJ33
set_option maxRecDepth 10000
set_option linter.all false
namespace Go.Proofs.YtdnlngbjpdbffaaGreatDoor
section
open Go Go.Sy Go.Ct Go.Wd Go.Sh Go.RowKit
noncomputable def zyV(t:TypeId):Array Field:=match Tryz.prog.underlying t with
 |some (.struct fs)=>fs
 |_=> #[]
noncomputable def fld(t:TypeId)(i:Nat):Field:=(zyV t).toList.getD i default
theorem zy8:PrinTy Tryz.prog 43:=⟨41,9,9,fld 43 0,fld 43 1,by kernel_rfl,by kernel_rfl,by kernel_rfl,by kernel_rfl,by kernel_rfl,by kernel_rfl,by kernel_rfl,by kernel_rfl,by kernel_rfl,by kernel_rfl,by kernel_rfl,by kernel_rfl⟩
theorem zy5:CertTy Tryz.prog 45 43 3 4 23 5:=
 ⟨⟨fld 45,by kernel_rfl,by kernel_rfl,by kernel_rfl,by kernel_rfl,by kernel_rfl,by kernel_rfl,by kernel_rfl,by kernel_rfl,by kernel_rfl,by kernel_rfl,by kernel_rfl,by kernel_rfl,by kernel_rfl,by kernel_rfl,by kernel_rfl,by kernel_rfl,by kernel_rfl,by kernel_rfl,by kernel_rfl⟩,by kernel_rfl,zy8,by kernel_rfl,by kernel_rfl,by kernel_rfl,by kernel_rfl,by kernel_rfl,by kernel_rfl,by kernel_rfl,by kernel_rfl,by kernel_rfl⟩
variable {H:Type}{enc:TypeId×Value->H}{W:World}{v:Value}{d:DataW H}{ps:List MemPlace}
theorem zxe(h:DataW.Trod enc Tryz.prog W 0 (λ_=>true) true 45 v d ps):∃p c,v= .agg (zG p c).toArray/\CertAt W p c:=by
 obtain⟨j,h⟩:=h;obtain⟨c,m⟩:=zxm (t:=45) ⟨j,_,h⟩ zy5;obtain⟨p,e,q⟩:=CertIn.at m;exact⟨p,c,zsF e (by show(11:Nat)≠1;decide),q⟩
end
open Go Go.Sy Go.Ct Go.RowKit
attribute [local irreducible] Sy SyL SyX Sy.Fn Sy.FnP callFunc
def zb7:Value:=.iface 117 (.agg #[.int .i64 6])
theorem zkp:∃d,Tryz.prog.underlying 117=some d/\∀j,d≠ .interface j:=zmr (by kernel_rfl)
theorem zee(b:Bool)(w:World):FnP Tryz.prog 89 [.bool b] w No (λv R=>b=true/\v= .tuple #[]/\R= []) (λv R=>b=false/\v=zb7/\R= []):=by
 refine zaK Tryz.func89 rfl Tryz.ntmps89 q_p FQ ?_;obtain⟨d,j,m⟩:=zkp;cases b
 ·repeat' (first|refine s_0 ?_|refine q_k 0 ?_;refine zJ ?_|refine zf 1 ?_;refine zbb ?_|refine q_v (zbo j m) ?_|refine zbY ?_|fail)
  exact zax Er ⟨rfl,rfl,rfl⟩
 ·repeat' (first|refine s_0 ?_|refine q_k 0 ?_;refine zJ ?_)
  exact zfg rfl Er ⟨rfl,rfl,rfl⟩
theorem zob(v:Value)(e:Int)(w:World):FnP Tryz.prog 198 [v,.int .i64 e] w No (λu R=>e=0/\u=v/\R= []) (λu R=>e≠0/\u=zb7/\R= []):=by
 refine zaK Tryz.func198 rfl Tryz.ntmps198 q_p FQ ?_;repeat' (first|refine s_0 ?_|refine zD [0,2] ?_;refine zb ?_|refine q_k 1 ?_;refine q_v (zS (hr:=rfl)) ?_;(refine zd6 (M':=No) (f:=89) Ez (λ_ h=>False.elim h) (λm _ _ _=>zee _ m) ?_ ?_)|(rintro _ _ ⟨j,rfl,rfl⟩)|refine zK ?_|fail)
 ·exact zeo rfl (zh rfl) Er ⟨of_decide_eq_true j,rfl,rfl⟩
 ·exact zax Er ⟨of_decide_eq_false j,rfl,rfl⟩
theorem znP(v:Value)(e:Int)(w:World):FnP Tryz.prog 125 [v,.int .i64 e] w No (λu R=>e=0/\u=v/\R= []) (λu R=>e≠0/\u=zb7/\R= []):=by
 refine zaK Tryz.func125 rfl Tryz.ntmps125 q_p FQ ?_;repeat' (first|refine s_0 ?_|refine zD [0,2] ?_;refine zb ?_|refine q_k 1 ?_;refine q_v (zS (hr:=rfl)) ?_;(refine zd6 (M':=No) (f:=89) Ez (λ_ h=>False.elim h) (λm _ _ _=>zee _ m) ?_ ?_)|(rintro _ _ ⟨j,rfl,rfl⟩)|refine zK ?_|fail)
 ·exact zeo rfl (zh rfl) Er ⟨of_decide_eq_true j,rfl,rfl⟩
 ·exact zax Er ⟨of_decide_eq_false j,rfl,rfl⟩
theorem znh(v:Value)(e:Int)(w:World):FnP Tryz.prog 176 [v,.int .i64 e] w No (λu R=>e=0/\u=v/\R= []) (λu R=>e≠0/\u=zb7/\R= []):=by
 refine zaK Tryz.func176 rfl Tryz.ntmps176 q_p FQ ?_;repeat' (first|refine s_0 ?_|refine zD [0,2] ?_;refine zb ?_|refine q_k 1 ?_;refine q_v (zS (hr:=rfl)) ?_;(refine zd6 (M':=No) (f:=89) Ez (λ_ h=>False.elim h) (λm _ _ _=>zee _ m) ?_ ?_)|(rintro _ _ ⟨j,rfl,rfl⟩)|refine zK ?_|fail)
 ·exact zeo rfl (zh rfl) Er ⟨of_decide_eq_true j,rfl,rfl⟩
 ·exact zax Er ⟨of_decide_eq_false j,rfl,rfl⟩
theorem zn4(v:Value)(e:Int)(w:World):FnP Tryz.prog 208 [v,.int .i64 e] w No (λu R=>e=0/\u=v/\R= []) (λu R=>e≠0/\u=zb7/\R= []):=by
 refine zaK Tryz.func208 rfl Tryz.ntmps208 q_p FQ ?_;repeat' (first|refine s_0 ?_|refine zD [0,2] ?_;refine zb ?_|refine q_k 1 ?_;refine q_v (zS (hr:=rfl)) ?_;(refine zd6 (M':=No) (f:=89) Ez (λ_ h=>False.elim h) (λm _ _ _=>zee _ m) ?_ ?_)|(rintro _ _ ⟨j,rfl,rfl⟩)|refine zK ?_|fail)
 ·exact zeo rfl (zh rfl) Er ⟨of_decide_eq_true j,rfl,rfl⟩
 ·exact zax Er ⟨of_decide_eq_false j,rfl,rfl⟩
end Go.Proofs.YtdnlngbjpdbffaaGreatDoor
namespace Go.Ct
open Go Go.Sy Go.RowKit
theorem zk4(v:Int)(c:Nat)(hc:c<256)(h1: -9223372036854775808<=v*256+c)(h2:v*256+c<9223372036854775808):bits .or .i64 (v*256) (c:Int)=v*256+c:=by
 have j:(BitVec.ofInt 64 (v*256)).toNat=(v%72057594037927936).toNat*2^8:=by
  rw[BitVec.toNat_ofInt];omega
 have m:(BitVec.ofInt 64 (c:Int)).toNat=c:=by
  rw[Co,Dy];exact A7 q_o
 show IntKind.i64.wrap ((BitVec.ofInt 64 (v*256) ||| BitVec.ofInt 64 (c:Int)).toNat:Int)=_;rw[BitVec.toNat_or,j,m,Nt.or_add _ _ _ (by omega:c<2^8)];simp only[IntKind.wrap,IntKind.bits,IntKind.signed];have q:(v%72057594037927936).toNat*2^8+c<18446744073709551616:=q_o;simp;omega
theorem zvI(v:Int)(j:IntKind)(h1: -9223372036854775808<=v*256)(h2:v*256<9223372036854775808):Op.shift .shl .i64 v j 8=pure (.int .i64 (v*256)):=by
 simp[Op.shift,IntKind.bits];rw[IntWalk.i64_in (v*256) q_o]
def _root_.Go.Sy.Bs.cut(s:Bs)(b e:Nat):Bs:=⟨zbw s.a b e 1,e-b,e-b,(s.l.take e).drop b⟩
structure BsF(w:World)(M:Nat->Prop)(s:Bs):Prop where
 len:s.l.length=s.n
 cap:s.n<=s.c
 slf:SlF w M s.a (s.l.map v8)
 nil:s.a=none->s.c=0
theorem BsF.ok{w:World}{M:Nat->Prop}{s:Bs}(h:BsF w M s):s.ok w:=⟨h.len,h.cap,h.slf.sla,h.nil⟩
theorem BsF.to{w0 w:World}{M Mi:Nat->Prop}{s:Bs}(h:BsF w0 M s)(hk:Keep M w0 w)(hm:∀b,Mi b->w0.heap.size<=b\/M b):BsF w Mi s:=⟨h.len,h.cap,h.slf.to hk hm,h.nil⟩
theorem BsF.no{w0 w:World}{M:Nat->Prop}{s:Bs}(h:BsF w0 M s)(hk:Keep M w0 w):s.ok w:=(h.to (Mi:=No) hk (λ_ h=>h.elim)).ok
theorem BsF.cut{w:World}{M:Nat->Prop}{s:Bs}(h:BsF w M s){b e:Nat}(hb:b<=e)(he:e<=s.n):BsF w M (s.cut b e):=by
 have r:((s.l.take e).map v8).length<=e:=by rw[A0,AR];omega
 refine⟨?_,A6 _,?_,λA=>?_⟩
 ·show((s.l.take e).drop b).length=e-b;rw[Ar,AR,h.len,BM he]
 ·have j:=(h.slf.take e);rw[<-C9] at j;have q:=j.mov (l:=b) (m:=e) r;rw[<-CX] at q;exact q
 ·have j:=zmN.1 (show zbw s.a b e 1=none from A);have q:=h.nil j;have:=h.cap;show e-b=0;omega
theorem _root_.Go.Sy.Bs.cut_l(s:Bs)(b e:Nat):(s.cut b e).l=(s.l.take e).drop b:=rfl
theorem _root_.Go.Sy.Bs.cut_n(s:Bs)(b e:Nat):(s.cut b e).n=e-b:=rfl
def Bsub(s s':Bs):Prop:=∀(w:World) (M:Nat->Prop),BsF w M s->BsF w M s'
theorem Bsub.trans{s j s2:Bs}(h:Bsub s j)(m:Bsub j s2):Bsub s s2:=λw M q=>m w M (h w M q)
theorem Bsub.cut(s:Bs){b e:Nat}(hb:b<=e)(he:e<=s.n):Bsub s (s.cut b e):=λ_ _ h=>h.cut hb he
end Go.Ct
namespace Go.Proofs.YtdnlngbjpdbffaaGreatDoor
open Go Go.Sy Go.Ct Go.RowKit
attribute [local irreducible] Sy SyL SyX SyC SyF Sy.Fn Sy.FnP callFunc
def rdC(s:Bs)(i:Nat):List Value:=[s.val,.int .i64 (i:Int),.bool true]
theorem zqL(s:Bs)(w:World)(Q:s.ok w)(hb:s.n<1000000000):Sy.Fn Tryz.prog 303 [s.val] w No (λv R=>R= []/\((∃x y:Nat,zep s.l=some (x,y)/\v= .tuple #[.int .i64 (x:Int),.int .i64 (y:Int),.int .i64 0])\/(zep s.l=none/\∃e:Int,e≠0/\v= .tuple #[.int .i64 0,.int .i64 0,.int .i64 e]))):=by
 refine zt Tryz.func303 Tryz.ntmps303 ?_;obtain⟨a,n,c,l⟩:=s;have G:l.length=n:=Q.len;have a7:n<=c:=Q.cap;have O:SlA w a (l.map v8):=Q.sla;show Sy _ _ _ _ _ _ _ _ (zd1 0 [.slice a n c]) _;dsimp only at hb ⊢;rcases AF n 2 with U|U
 ·have e:zep l=none:=by
   match l,G with
   | [],_=>rfl
   | [_],_=>rfl
   |_::_::_,G=>simp at G;omega
  have g:decide ((n:Int)<2)=true:=q_d;repeat' (first|refine s_0 ?_|refine zD [0,2] ?_;refine zb ?_|refine q_k 1 ?_;refine q_v (zo (hr:=g)) ?_)
  exact zc5 rfl (zh rfl) (zh rfl) (zh rfl) Er ⟨rfl,.inr ⟨e,4,by decide,rfl⟩⟩
 obtain⟨t,z,r,rfl⟩:∃t z r,l=t::z::r:=by
  match l,G with
  | [],G=>simp at G;omega
  | [_],G=>simp at G;omega
  |t::z::r,_=>exact⟨t,z,r,rfl⟩
 have a8:r.length=n-2:=by simp only[AQ] at G;omega
 obtain⟨b,o,rfl,q⟩:=zb2 O (i:=1) q_p;have A:w.cell? ⟨b,o+1,none⟩=some (.int .u8 (z.toNat:Int)):=q 1 _ rfl;have a9:=z.toNat_lt;have X:∀i (I:i<r.length),w.cell? ⟨b,o+2+i,none⟩=some (.int .u8 (r[i].toNat:Int)):=λi I=>by
  have:=q (2+i) (v8 r[i]) (by
   rw[AY,show 2+i=i+1+1 by omega,B9,B9,A1 I];rfl)
  rwa[show o+(2+i)=o+2+i by omega] at this
 have g1:decide ((n:Int)<2)=false:=q_f;have F:zep (t::z::r)=if z.toNat<128 then (if z.toNat<=r.length then some (2,2+z.toNat) else none)
  else if z.toNat-128<1\/3<z.toNat-128 then none
  else if r.length<z.toNat-128 then none
  else if zau (r.take (z.toNat-128))<zgf (z.toNat-128) then none
  else if r.length-(z.toNat-128)<zau (r.take (z.toNat-128)) then none
  else some (2+(z.toNat-128),2+(z.toNat-128)+zau (r.take (z.toNat-128))):=rfl
 rw[F];generalize z.toNat=Z at*;clear F q O Q;rcases AF Z 128 with hz|hz
 ·rw[if_pos hz];have g2:decide ((Z:Int)>=128)=false:=q_f;by_cases hf:Z<=r.length
  ·rw[if_pos hf];have g3:decide (((n:Int)-2)<(Z:Int))=false:=q_f;repeat' (first|refine s_0 ?_|refine q_k 0 ?_|refine q_k 1 ?_;refine q_v (zo (hr:=g1)) ?_|refine q_k 3 ?_;refine q_v (zq (j:=1)) ?_;refine q_v (zn (hv:=A)) ?_;refine zbd ?_;refine zb ?_|refine q_k 4 ?_;refine q_v (zP (hr:=g2)) ?_|refine q_k 19 ?_;refine q_x zI ?_;refine q_v (zo (hr:=g3)) ?_|refine q_k 21 ?_;refine za4 ?_;refine zb ?_)
   exact zc5 rfl (zh rfl) (zh rfl) (zh rfl) Er ⟨rfl,.inl ⟨2,2+Z,rfl,by simp⟩⟩
  ·rw[if_neg hf];have g3:decide (((n:Int)-2)<(Z:Int))=true:=q_d;repeat' (first|refine s_0 ?_|refine zD [0,20] ?_;refine zb ?_|refine q_k 1 ?_;refine q_v (zo (hr:=g1)) ?_|refine q_k 3 ?_;refine q_v (zq (j:=1)) ?_;refine q_v (zn (hv:=A)) ?_;refine zbd ?_;refine zb ?_|refine q_k 4 ?_;refine q_v (zP (hr:=g2)) ?_|refine q_k 19 ?_;refine q_x zI ?_;refine q_v (zo (hr:=g3)) ?_)
   exact zc5 rfl (zh rfl) (zh rfl) (zh rfl) Er ⟨rfl,.inr ⟨rfl,4,by decide,rfl⟩⟩
 rw[if_neg q_o];have g2:decide ((Z:Int)>=128)=true:=q_d;obtain⟨k,hk⟩:∃k,k=Z-128:=⟨_,rfl⟩;rw[<-hk];have g3:IntKind.i64.wrap ((Z:Int)-128)=(k:Int):=q_w;by_cases hk1:k<1\/3<k
 ·rw[if_pos hk1];rcases(show k<1\/(1<=k/\3<k) by omega) with h|⟨h,h'⟩
  ·have g4:decide ((k:Int)<1)=true:=q_d;repeat' (first|refine s_0 ?_|refine zD [0,7] ?_;refine zb ?_|refine q_k 1 ?_;refine q_v (zo (hr:=g1)) ?_|refine q_k 3 ?_;refine q_v (zq (j:=1)) ?_;refine q_v (zn (hv:=A)) ?_;refine zbd ?_;refine zb ?_|refine q_k 4 ?_;refine q_v (zP (hr:=g2)) ?_|refine q_k 5 ?_;refine q_x (zI (hr:=g3)) ?_|refine q_k 6 ?_;refine q_x (zo (hr:=g4)) ?_)
   exact zc5 rfl (zh rfl) (zh rfl) (zh rfl) Er ⟨rfl,.inr ⟨rfl,6,by decide,rfl⟩⟩
  ·have g4:decide ((k:Int)<1)=false:=q_f;have g5:decide ((k:Int)>3)=true:=q_d;repeat' (first|refine s_0 ?_|refine zD [0,7] ?_;refine zb ?_|refine q_k 1 ?_;refine q_v (zo (hr:=g1)) ?_|refine q_k 3 ?_;refine q_v (zq (j:=1)) ?_;refine q_v (zn (hv:=A)) ?_;refine zbd ?_;refine zb ?_|refine q_k 4 ?_;refine q_v (zP (hr:=g2)) ?_|refine q_k 5 ?_;refine q_x (zI (hr:=g3)) ?_|refine q_k 6 ?_;refine q_x (zo (hr:=g4)) ?_;refine q_x (zH (hr:=g5)) ?_)
   exact zc5 rfl (zh rfl) (zh rfl) (zh rfl) Er ⟨rfl,.inr ⟨rfl,6,by decide,rfl⟩⟩
 rw[if_neg hk1];have g4:decide ((k:Int)<1)=false:=q_f;have g5:decide ((k:Int)>3)=false:=q_f;have g6:IntKind.i64.wrap (2+(k:Int))=((2+k:Nat):Int):=q_w;by_cases hk2:r.length<k
 ·rw[if_pos hk2];have g7:decide ((n:Int)<((2+k:Nat):Int))=true:=q_d;repeat' (first|refine s_0 ?_|refine zD [0,9] ?_;refine zb ?_|refine q_k 1 ?_;refine q_v (zo (hr:=g1)) ?_|refine q_k 3 ?_;refine q_v (zq (j:=1)) ?_;refine q_v (zn (hv:=A)) ?_;refine zbd ?_;refine zb ?_|refine q_k 4 ?_;refine q_v (zP (hr:=g2)) ?_|refine q_k 5 ?_;refine q_x (zI (hr:=g3)) ?_|refine q_k 6 ?_;refine q_x (zo (hr:=g4)) ?_;refine q_x (zH (hr:=g5)) ?_|refine q_k 8 ?_;refine q_v (zF (hr:=g6)) ?_;refine q_v (zo (hr:=g7)) ?_)
  exact zc5 rfl (zh rfl) (zh rfl) (zh rfl) Er ⟨rfl,.inr ⟨rfl,4,by decide,rfl⟩⟩
 rw[if_neg hk2];have g7:decide ((n:Int)<((2+k:Nat):Int))=false:=q_f;repeat' (first|refine s_t ?_|refine q_k 0 ?_|refine q_k 1 ?_;refine q_v (zo (hr:=g1)) ?_|refine q_k 3 ?_;refine q_v (zq (j:=1)) ?_;refine q_v (zn (hv:=A)) ?_;refine zbd ?_;refine zb ?_|refine q_k 4 ?_;refine q_v (zP (hr:=g2)) ?_|refine q_k 5 ?_;refine q_x (zI (hr:=g3)) ?_|refine q_k 6 ?_;refine q_x (zo (hr:=g4)) ?_;refine q_x (zH (hr:=g5)) ?_|refine q_k 8 ?_;refine q_v (zF (hr:=g6)) ?_;refine q_v (zo (hr:=g7)) ?_|refine q_k 10 ?_;refine q_x (zF (hr:=g6)) ?_|refine q_k 11 ?_;refine zbN ?_;refine zb ?_)
 have hB:∀i,i<=3->zau (r.take i)<16777216:=λi I=>by
  have h1:=zfq (r.take i);have U:(r.take i).length<=3:=by rw[AR];omega
  have h3:=AB (show 0<256 by decide) U;omega
 have J:∀i (I:i<r.length),zau (r.take (i+1))=zau (r.take i)*256+r[i].toNat:=λi I=>by
  rw[zaO I];unfold zau;rw[E4];rfl
 refine zN (γ:=Nat) (λi=>[(39,.int .i64 (i:Int)),(38,.int .i64 (k:Int)),(37,.slice (some ⟨b,o+2,none⟩) k k),(0,.slice (some ⟨b,o,none⟩) n c),(2,.int .i64 ((2+k:Nat):Int)),(5,.int .i64 ((zau (r.take i):Nat):Int)),(6,.int .i64 (k:Int))]) (λ_=>[]) (λi=>i<=k) (λi=>k-i) 0 (A9 _) ?_ ?_ ?_
 ·have e:zbw (some ⟨b,o,none⟩) 2 (2+k) 1=some ⟨b,o+2,none⟩:=zfG q_o;rw[e];exact q_h
 ·exact q_h
 intro i I;by_cases hlt:i<k
 ·have g8:decide ((i:Int)<(k:Int))=true:=q_d;have K:=X i q_o;have h1:=hB i q_o;have Y:=J i q_o;have a6:=(r[i]'q_o).toNat_lt;generalize (r[i]'q_o).toNat=x at*;have g9:=zvI ((zau (r.take i):Nat):Int) .u64 q_o q_o;have B:=zk4 ((zau (r.take i):Nat):Int) x q_o q_o q_o;have E:IntKind.i64.wrap ((i:Int)+1)=((i+1:Nat):Int):=q_w;rw[show((zau (r.take i):Nat):Int)*256+(x:Int)=((zau (r.take (i+1)):Nat):Int) by rw[Y];omega] at B;repeat' (first|refine s_t ?_|refine zf 12 ?_;refine q_v (zo (hr:=g8)) ?_|refine zf 13 ?_;refine q_v (zq (j:=i)) ?_;refine q_x (zn (hv:=K)) ?_|refine q_k 14 ?_;refine q_x (zew (hr:=g9)) ?_;refine zbd ?_;refine q_x (zjx (hr:=B)) ?_|refine zf 15 ?_;refine q_x (zF (hr:=E)) ?_)
  refine zE (i+1) hlt ?_ ?_ ?_
  ·show k-(i+1)<k-i;omega
  ·exact q_h
  ·exact q_h
 obtain rfl:i=k:=q_o;have g8:decide ((i:Int)<(i:Int))=false:=q_f;have h1:=hB i q_o;generalize zau (r.take i)=V at*;have m: [Value.int .i64 0,.int .i64 128,.int .i64 256,.int .i64 65536][i]?=some (.int .i64 ((zgf i:Nat):Int)):=by
  rcases(show i=1\/i=2\/i=3 by omega) with rfl|rfl|rfl <;> rfl
 generalize zgf i=S at*;by_cases hf:V<S
 ·rw[if_pos hf];have g9:decide ((V:Int)<(S:Int))=true:=q_d;repeat' (first|refine s_0 ?_|refine zf 12 ?_;refine q_v (zo (hr:=g8)) ?_|refine zf 16 ?_;refine zbb ?_;refine zj ?_;intro _;refine zO ?_|refine q_k 17 ?_;refine zQ ?_;refine q_v (zL (hv:=m)) ?_;refine q_v (zo (hr:=g9)) ?_|refine q_k 18 ?_)
  exact zc5 rfl (zh rfl) (zh rfl) (zh rfl) Er ⟨rfl,.inr ⟨rfl,6,by decide,rfl⟩⟩
 rw[if_neg hf];have g9:decide ((V:Int)<(S:Int))=false:=q_f;have B:IntKind.i64.wrap ((n:Int)-((2+i:Nat):Int))=((r.length-i:Nat):Int):=q_w;by_cases hf2:r.length-i<V
 ·rw[if_pos hf2];have E:decide (((r.length-i:Nat):Int)<(V:Int))=true:=q_d;repeat' (first|refine s_0 ?_|refine zf 12 ?_;refine q_v (zo (hr:=g8)) ?_|refine zf 16 ?_;refine zbb ?_;refine zj ?_;intro _;refine zO ?_|refine q_k 17 ?_;refine zQ ?_;refine q_v (zL (hv:=m)) ?_;refine q_v (zo (hr:=g9)) ?_|refine q_k 19 ?_;refine q_x (zI (hr:=B)) ?_;refine q_v (zo (hr:=E)) ?_|refine q_k 20 ?_)
  exact zc5 rfl (zh rfl) (zh rfl) (zh rfl) Er ⟨rfl,.inr ⟨rfl,4,by decide,rfl⟩⟩
 rw[if_neg hf2];have E:decide (((r.length-i:Nat):Int)<(V:Int))=false:=q_f;have T:IntKind.i64.wrap (((2+i:Nat):Int)+(V:Int))=((2+i+V:Nat):Int):=q_w;repeat' (first|refine s_0 ?_|refine zf 12 ?_;refine q_v (zo (hr:=g8)) ?_|refine zf 16 ?_;refine zbb ?_;refine zj ?_;intro _;refine zO ?_|refine q_k 17 ?_;refine zQ ?_;refine q_v (zL (hv:=m)) ?_;refine q_v (zo (hr:=g9)) ?_|refine q_k 19 ?_;refine q_x (zI (hr:=B)) ?_;refine q_v (zo (hr:=E)) ?_|refine q_k 21 ?_;refine q_x (zF (hr:=T)) ?_)
 exact zc5 rfl (zh rfl) (zh rfl) (zh rfl) Er ⟨rfl,.inl ⟨2+i,2+i+V,rfl,rfl⟩⟩
end Go.Proofs.YtdnlngbjpdbffaaGreatDoor
namespace Go.Sy
open Go Go.RowKit
variable {P:Program}{ro:Option Nat}{N:Nat}{w0:World}{M:Nat->Prop}{ds:List Deferred}{g:Nat->Option Value}{L L1 C:List Res}{o:Oper}
theorem zjH{w:World}{X:List Res}(hC:RemL L C L1)(hh:Holds w0.heap.size M (L++X) w):Holds w.heap.size (OwnOf C) C w:=by
 have q:(L++X).Perm (C++(L1++X)):=by rw[<-AH];exact Aj X hC
 have j:=(hh.perm q).sublist (CH C (L1++X));exact⟨j.all,j.apart,λr A b m=> .inr ⟨r,A,m⟩⟩
theorem zkj{w:World}{X:List Res}(hC:RemL L C L1)(hh:Holds w0.heap.size M (L++X) w):∀b,OwnOf C b->w0.heap.size<=b\/M b:=by
 rintro b ⟨r,q,j⟩;have m:r∈L++X:=AM _ (hC.mem_iff.2 (AM _ q));exact hh.mine r m b j
theorem zaZ{m:Operand}{args:Array Operand}{j:Array TypeId}{f:Nat}{vs:List Value}{cap:List Value}{post:Value->List Res->Prop}(hC:RemL L C L1)
  (hc:∀w,Keep M w0 w->(∀b,OwnOf C b->w0.heap.size<=b\/M b)->Holds w.heap.size (OwnOf C) C w->Fn P f (vs++cap) w (OwnOf C) post)
  (E:o.op= .call { callee:=.value m,args:=args,argTypes:=j } :=by exact rfl)(A:ev g m=some (.func (.func f) #[] cap.toArray):=by exact rfl)(ha:evs g args.toList=some vs:=by exact rfl)
  (he:∀args w,(callFunc f args).run P w= .ok (.enter f args) w:=by exact en rfl):OpT P ro N w0 M ds o g L (λv r=>∃R,r=R++L1/\post v R):=
 zeg E A ha he hC (λ_ h=>h) (λw X B q=>hc w B (zkj hC q) (zjH hC q))
end Go.Sy
namespace Go.Proofs.YtdnlngbjpdbffaaGreatDoor
open Go Go.Sy Go.Ct Go.RowKit
attribute [local irreducible] Sy SyL SyX SyC SyF Sy.Fn Sy.FnP callFunc
abbrev zk(r:Nat)(s:Bs)(i:Nat):Res:=.blk r 190 (rdC s i)
theorem zlW(r:Nat)(s:Bs)(i:Nat)(w:World)(hr:w.rangeAt r 0 (rdC s i))(m:i<=s.n)(hc:s.n<=s.c):q_G 178 [.pointer (some ⟨r,0,none⟩)] w (s.cut i s.n).val:=by
 refine zt Tryz.func178 Tryz.ntmps178 ?_;have h0:w.cell? ⟨r,0,none⟩=some (.slice s.a s.n s.c):=hr 0 _ rfl;have j:w.cell? ⟨r,1,none⟩=some (.int .i64 (i:Int)):=hr 1 _ rfl;show Sy _ _ _ _ _ _ _ (bodyPostM _ _ _ _ (FnR _ _ (zij (.slice (zbw s.a i s.n 1) (s.n-i) (s.n-i))))) _ _;repeat' (first|refine s_0 ?_|refine q_k 0 ?_|refine zaj (id:=1) 18 [[],[0],[0,1],[0,1,2],[],[4],[4,5],[4,5,6],[],[8],[8,9],[8,9,10],[8,9,10,11],[],[13],[13,14],[13,14,15],[13,14,15,16],[0,1,2,3,4,5,6,7,8,9,10,11,12,13,14,15,16,17],[0,1,2,3,4,5,6,7,8,9,10,11,12,13,14,15,16,17,18]] mixed ?_ ?_;kernel_rfl;refine zA ?_;refine dc (by intro _ _;first|exact zdl|exact op_nilCheckF) (k:=?_);refine q_D zM ?_;refine q_D (zn (hv:=h0)) ?_;refine zA ?_;refine dc (by intro _ _;first|exact zdl|exact op_nilCheckF) (k:=?_);refine q_D zM ?_;refine q_D (zn (hv:=j)) ?_;refine zA ?_;refine dc (by intro _ _;first|exact zdl|exact op_nilCheckF) (k:=?_);refine q_D zM ?_;refine q_D (zn (hv:=h0)) ?_;refine dc (by intro _ _;first|exact ze9|exact zf9) (k:=?_);refine zA ?_;refine dc (by intro _ _;first|exact zdl|exact op_nilCheckF) (k:=?_);refine q_D zM ?_;refine q_D (zn (hv:=h0)) ?_;refine dc (by intro _ _;first|exact ze9|exact zf9) (k:=?_);refine zaB ?_;refine zbN ?_;refine zw ?_|fail)
 exact q_r
theorem zr6(s:Bs)(i:Nat)(h:s.l.length=s.n):(s.cut i s.n).l=s.l.drop i:=by rw[Bs.cut_l,<-h,Bw]
def zir(r:Nat)(s:Bs)(i tag:Nat)(v:Value)(R:List Res):Prop:=
 (∃c rst s' k,za0 tag (s.l.drop i)=some (c,rst)/\Bsub s s'/\s'.l=c/\s'.n<=s.n/\k<=s.n/\s.l.drop k=rst/\v= .tuple #[s'.val,.int .i64 0]/\R= [zk r s k])\/
 (za0 tag (s.l.drop i)=none/\∃e:Int,e≠0/\v= .tuple #[.slice none 0 0,.int .i64 e]/\R= [zk r s i])
theorem zhF(r:Nat)(s:Bs)(i tag:Nat)(w:World)(hL:Holds w.heap.size (OwnOf [zk r s i]) [zk r s i] w)(hs:BsF w (OwnOf [zk r s i]) s)(V:i<=s.n)(hb:s.n<1000000000)(ht:tag<256):
  Sy.Fn Tryz.prog 266 [.pointer (some ⟨r,0,none⟩),.int .u8 (tag:Int)] w (OwnOf [zk r s i]) (zir r s i tag):=by
 refine zaW Tryz.func266 rfl Tryz.ntmps266 q_p hL ?_;have m:=λJ hr=>zlW r s i J hr V hs.cap;have B:=hs.cut V (A6 s.n);have O:=zr6 s i hs.len;have I:=Bsub.cut s V (A6 s.n);have a7:(s.cut i s.n).n=s.n-i:=rfl;unfold zir;generalize s.cut i s.n=s1,hM:OwnOf [zk r s i]=M at*;have A:s1.val= .slice s1.a s1.n s1.c:=rfl;rw[A] at m;have G:=λJ (hk:Keep M w J)=>zqL s1 J (B.no hk) q_o;rw[A] at G;repeat' (first|refine s_0 ?_|refine q_k 0 ?_|refine q_k 1 ?_;refine q_v (za (hc:=λJ X hk hh=>m J (zp (hh.has (r:=zk r s i) q_h) Et))) ?_;refine zb ?_)
 have E:s1.l.length=s1.n:=B.len;rw[<-O];rcases AD s1.n with hz|hz
 ·have e:s1.l= []:=As.1 q_o;have g:decide ((s1.n:Int)=0)=true:=q_d;rw[e];repeat' (first|refine s_0 ?_|refine q_k 2 ?_;refine q_v (zS (hr:=g)) ?_|refine q_k 3 ?_)
  exact zU rfl (zh rfl) (zh rfl) Ex (.inr ⟨rfl,4,by decide,rfl,rfl⟩)
 have g:decide ((s1.n:Int)=0)=false:=q_f;obtain⟨x,l,hx⟩:∃x l,s1.l=x::l:=by
  cases h:s1.l with
  |nil=>rw[h] at E;simp at E;omega
  |cons x l=>exact⟨x,l,rfl⟩
 obtain⟨b,o,T,a6,Q⟩:∃b o,s1.a=some ⟨b,o,none⟩/\w.rangeAt b o (s1.l.map v8)/\¬M b:=by
  rcases B.slf with h|h
  ·rw[hx] at h;cases h
  ·exact h
 have K:w.cell? ⟨b,o+0,none⟩=some (.int .u8 (x.toNat:Int)):=a6 0 _ (by rw[hx];rfl);rw[T] at m G A;rw[T];have Z:za0 tag s1.l=if x.toNat=tag then (zep s1.l).map (λp=>((s1.l.take p.2).drop p.1,s1.l.drop p.2)) else none:=by rw[hx];rfl
 have a8:=x.toNat_lt;rw[Z];by_cases hxt:¬x.toNat=tag
 ·rw[if_neg hxt];have g2:decide ((x.toNat:Int)≠(tag:Int))=true:=q_d;repeat' (first|refine s_0 ?_|refine q_k 2 ?_;refine q_v (zS (hr:=g)) ?_|refine q_k 4 ?_;refine q_v (zq (j:=0)) ?_;refine q_x (zn (hv:=K) (hn:=Q)) ?_;refine q_v (zaf (hr:=g2)) ?_|refine q_k 5 ?_)
  exact zU rfl (zh rfl) (zh rfl) Ex (.inr ⟨rfl,6,by decide,rfl,rfl⟩)
 rw[if_pos (DR.1 hxt)];have g2:decide ((x.toNat:Int)≠(tag:Int))=false:=q_f;repeat' (first|refine s_0 ?_|refine q_k 2 ?_;refine q_v (zS (hr:=g)) ?_|refine q_k 4 ?_;refine q_v (zq (j:=0)) ?_;refine q_x (zn (hv:=K) (hn:=Q)) ?_;refine q_v (zaf (hr:=g2)) ?_)
 repeat' (first|refine s_0 ?_|refine q_k 6 ?_;(refine q_s (zi (hc:=zu G)) ?_;rintro _ _ ⟨R,rfl,rfl,(⟨F,q,S,rfl⟩|⟨S,e,he,rfl⟩)⟩);refine zb ?_|(refine zy ?_;first|refine zw ?_|refine zY ?_|refine zaR ?_|fail)|fail)
 ·have Y:=zqd S;have U:=B.cap;have g3:decide ((0:Int)≠0)=false:=rfl;have g4:IntKind.i64.wrap ((i:Int)+(q:Int))=((i+q:Nat):Int):=q_w;repeat' (first|refine s_0 ?_|refine q_k 7 ?_;refine q_v (zaf (hr:=g3)) ?_|refine q_k 9 ?_;refine zm ?_;refine zb ?_;refine q_x (zF (hr:=g4)) ?_;refine q_n (zaM (v:=.int .i64 ((i+q:Nat):Int)) (hC:=⟨A5 rfl,rfl⟩)) ?_|refine q_k 10 ?_;refine zbN ?_;refine zb ?_)
  refine zU rfl (zh rfl) (zh rfl) Ex (.inl ⟨(s1.l.take q).drop F,s1.l.drop q,s1.cut F q,i+q,by rw[S];rfl,I.trans (Bsub.cut s1 Y.2.1 q_o),rfl,by rw[Bs.cut_n];omega,by omega,by rw[O,Cv],?_,rfl⟩);show Value.tuple #[.slice (zbw (some ⟨b,o,none⟩) F q 1) (q-F) (q-F),.int .i64 0]= .tuple #[.slice (zbw s1.a F q 1) (q-F) (q-F),.int .i64 0];rw[T]
 ·have g3:decide (e≠0)=true:=decide_eq_true he;repeat' (first|refine s_0 ?_|refine q_k 7 ?_;refine q_v (zaf (hr:=g3)) ?_|refine q_k 8 ?_)
  exact zU rfl (zh rfl) (zh rfl) Ex (.inr ⟨by rw[S];rfl,e,he,rfl,rfl⟩)
end Go.Proofs.YtdnlngbjpdbffaaGreatDoor
