/- Lemmas of this proof. -/
import Derived.Test.YtdnlngbjpdbffaaGreatDoorHJ39
set_option maxRecDepth 10000
set_option linter.all false
namespace Go.Ct
open Go Go.Sy
def sgn(x:Nat):Int:=if x<128 then (x:Int) else (x:Int)-256
theorem zpa{x:Nat}(h:x<256): -128<=sgn x/\sgn x<128:=by unfold sgn;split <;> omega
def zdK(x:Nat)(r:List UInt8)(i:Nat):Int:=sgn x*(256^i:Nat)+((zaZ (r.take i):Nat):Int)
theorem zp5(x:Nat)(r:List UInt8):zdK x r 0=sgn x:=by simp[zdK,zaZ]
theorem zqf(x:Nat)(r:List UInt8)(i:Nat)(j:i<r.length):zdK x r (i+1)=zdK x r i*256+((r[i]).toNat:Int):=by
 unfold zdK;rw[zlV r i j,AS];generalize (256^i:Nat)=p;have e:sgn x*((p*256:Nat):Int)=sgn x*(p:Int)*256:=by rw[BW,<-Int.mul_assoc];rfl
 rw[e];generalize sgn x*(p:Int)=q;omega
theorem zrQ{x:Nat}(h:x<256)(r:List UInt8){i:Nat}(w:i<=r.length): -128*((256^i:Nat):Int)<=zdK x r i/\zdK x r i<128*((256^i:Nat):Int):=by
 have m:=zpa h;have q:=ziU (r.take i);rw[Ad,BX w] at q;unfold zdK;generalize (256^i:Nat)=p at*;have j:(0:Int)<=(p:Int):=Be _;have A:=DY m.1 j;have B:=DY (show sgn x<=127 by omega) j;constructor
 ·omega
 ·have:(128:Int)*(p:Int)=127*p+p:=q_o;omega
theorem zvm(x:UInt8)(r:List UInt8):zdE (x::r)=zdK x.toNat r r.length:=by
 unfold zdE zdK sgn;rw[CG]
theorem zvb(l:List UInt8)(h1:1<=l.length)(m:l.length<=8):rdI l=if -zbQ<=zdE l/\zdE l<=zbQ/\beZ (zdE l) (zba (zdE l))=l then some (zdE l) else none:=by
 unfold rdI;by_cases h: -zbQ<=zdE l/\zdE l<=zbQ/\beZ (zdE l) (zba (zdE l))=l
 ·rw[if_pos h,if_pos ⟨h1,m,h⟩]
 ·rw[if_neg h,if_neg (λj=>h j.2.2)]
end Go.Ct
namespace Go.Proofs.YtdnlngbjpdbffaaGreatDoor
open Go Go.Sy Go.Ct Go.Nt Go.RowKit
attribute [local irreducible] Sy SyL SyX SyC SyF Sy.Fn Sy.FnP callFunc
theorem zwf(v:Int)(w:World)(h:v < -zbQ\/zbQ<v):q_G 111 [.int .i64 v] w (.slice none 0 0):=by
 refine zz Tryz.func111 Tryz.ntmps111 ?_;unfold zbQ at h;rcases(show v < -4611686018427387904\/(-4611686018427387904<=v/\4611686018427387904<v) by omega) with j|⟨j,m⟩
 ·have g1:decide (v < -4611686018427387904)=true:=decide_eq_true j;repeat' (first|refine s_0 ?_|refine zL [0,2] ?_;refine zf ?_|refine q_k 1 ?_;refine q_x (zm (hr:=g1)) ?_)
  exact q_r
 ·have g1:decide (v < -4611686018427387904)=false:=q_f;have g2:decide (v>4611686018427387904)=true:=decide_eq_true m;repeat' (first|refine s_0 ?_|refine zL [0,2] ?_;refine zf ?_|refine q_k 1 ?_;refine q_x (zm (hr:=g1)) ?_;refine q_x (zF (hr:=g2)) ?_)
  exact q_r
theorem zwj(m:Nat):ze1 256 (λl=>(rdI l).isSome) (λs v R=>∃t,rdI s.l=some t/\v= .int .i64 t/\R= []) m:=by
 intro s w Y hm;refine zz Tryz.func256 Tryz.ntmps256 ?_;have U:=Y;obtain⟨a,n,c,l⟩:=s;have hn:l.length=n:=Y.len;have b4:n<=c:=Y.cap;have b0:SlA w a (l.map v8):=Y.sla;show Sy _ _ _ _ _ _ _ _ (zd8 0 [.slice a n c]) _;rcases(show n<1\/(1<=n/\8<n)\/(1<=n/\n<=8) by omega) with h1|⟨h1,h8⟩|⟨h1,h8⟩
 ·have hr:rdI l=none:=by unfold rdI;rw[if_neg (λh=>by omega)]
  have g1:decide ((n:Int)<1)=true:=q_d;repeat' (first|refine s_0 ?_|refine zL [0,2] ?_;refine zf ?_|refine q_k 1 ?_;refine q_x (zm (hr:=g1)) ?_)
  exact zT rfl (zj rfl) (zj rfl) Ep ⟨_,false,rfl,by show false=(rdI l).isSome;rw[hr];rfl,λh=>(by cases h),λ_=>rfl⟩
 ·have hr:rdI l=none:=by unfold rdI;rw[if_neg (λh=>by omega)]
  have g1:decide ((n:Int)<1)=false:=q_f;have g2:decide ((n:Int)>8)=true:=q_d;repeat' (first|refine s_0 ?_|refine zL [0,2] ?_;refine zf ?_|refine q_k 1 ?_;refine q_x (zm (hr:=g1)) ?_;refine q_x (zF (hr:=g2)) ?_)
  exact zT rfl (zj rfl) (zj rfl) Ep ⟨_,false,rfl,by show false=(rdI l).isSome;rw[hr];rfl,λh=>(by cases h),λ_=>rfl⟩
 have g1:decide ((n:Int)<1)=false:=q_f;have g2:decide ((n:Int)>8)=false:=q_f;have A:=zvb l q_o q_o;obtain⟨x,r,rfl⟩:∃x r,l=x::r:=by
  cases l with
  |nil=>simp at hn;omega
  |cons x r=>exact⟨x,r,rfl⟩
 have T:r.length=n-1:=by simp only[AO] at hn;omega
 have K:=zvm x r;obtain⟨b,o,rfl,E⟩:=zdb b0 (i:=0) q_p;have a8:w.cell? ⟨b,o+0,none⟩=some (.int .u8 (x.toNat:Int)):=E 0 _ rfl;have b7:=x.toNat_lt;have a9:∀i (Q:i<r.length),w.cell? ⟨b,o+1+i,none⟩=some (.int .u8 (r[i].toNat:Int)):=λi Q=>by
  have:=E (1+i) (v8 r[i]) (by
   rw[Ak,show 1+i=i+1 by omega,BS,A2 Q];rfl)
  rwa[show o+(1+i)=o+1+i by omega] at this
 have g3:IntKind.i8.wrap (x.toNat:Int)=sgn x.toNat:=by
  unfold sgn IntKind.wrap IntKind.bits IntKind.signed;simp;split <;> omega
 have g4:IntKind.i64.wrap (sgn x.toNat)=sgn x.toNat:=IntWalk.i64_in _ (by have:=zpa (x:=x.toNat) q_o;omega);repeat' (first|refine s_t ?_|refine q_k 0 ?_|refine q_k 1 ?_;refine q_x (zm (hr:=g1)) ?_;refine q_x (zF (hr:=g2)) ?_|refine q_k 3 ?_;refine q_v (zG (j:=0)) ?_;refine q_v (zp (hv:=a8)) ?_;refine q_v (zaw (hr:=g3)) ?_;refine q_x (zaw (hr:=g4)) ?_|refine q_k 4 ?_;refine zbR ?_;refine zf ?_)
 obtain⟨W,O⟩:∃W,W=zbB (some ⟨b,o,none⟩) 1 c 1:=⟨_,rfl⟩;rw[<-O];have hP:∀i,i<=6->((256^i:Nat):Int)<=281474976710656:=λi Q=>by
  have:=AR (show 0<256 by decide) Q;have h6:256^6=281474976710656:=by decide
  omega
 refine zX (γ:=Nat) (λi=>[(23,.int .i64 (i:Int)),(22,.int .i64 ((n-1:Nat):Int)),(21,.slice W (n-1) (c-1)),(4,.int .i64 (zdK x.toNat r i)),(0,.slice (some ⟨b,o,none⟩) n c)]) (λ_=>[]) (λi=>i<=n-1) (λi=>n-1-i) 0 (AE _) ?_ ?_ ?_
 ·rw[zp5];exact q_h
 ·exact q_h
 intro i Q;by_cases hlt:i<n-1
 ·obtain rfl:W=some ⟨b,o+1,none⟩:=by rw[O];exact zfd q_o
  have g8:decide ((i:Int)<((n-1:Nat):Int))=true:=q_d;have P:=a9 i q_o;have b1:=zqf x.toNat r i q_o;have b6:=zrQ (x:=x.toNat) q_o r (i:=i) q_o;have b5:=hP i q_o;have b3:=(r[i]'q_o).toNat_lt;generalize (r[i]'q_o).toNat=y at*;have g9:=zux (zdK x.toNat r i) .u64 q_o q_o;have N:=znz (zdK x.toNat r i) y q_o q_o q_o;have a6:IntKind.i64.wrap ((i:Int)+1)=((i+1:Nat):Int):=q_w;rw[<-b1] at N;repeat' (first|refine s_t ?_|refine ze 5 ?_;refine q_v (zm (hr:=g8)) ?_|refine ze 6 ?_;refine q_v (zG (j:=i)) ?_;refine q_x (zp (hv:=P)) ?_|refine q_k 7 ?_;refine q_x (zfz (hr:=g9)) ?_;refine zbf ?_;refine q_x (zkx (hr:=N)) ?_|refine ze 8 ?_;refine q_x (zN (hr:=a6)) ?_)
  refine zQ (i+1) hlt ?_ ?_ ?_
  ·show n-1-(i+1)<n-1-i;omega
  ·exact q_h
  ·exact q_h
 obtain rfl:i=n-1:=q_o;have g8:decide (((n-1:Nat):Int)<((n-1:Nat):Int))=false:=q_f;rw[<-T,<-K];rw[<-T] at g8;rw[K] at A;rw[K];generalize hV:zdK x.toNat r r.length=V at*;obtain⟨l,hl⟩:∃l,l=x::r:=⟨_,rfl⟩;rw[<-hl] at U A hn ⊢;have F:=λq L (J:Keep No w q) (h2:q.rangeAt L 0 [.slice (some ⟨b,o,none⟩) n c])=>zeC 2 L ⟨some ⟨b,o,none⟩,n,c,l⟩ q q_e (U.keep J) h2 (by show l.length<16777216;omega);unfold zbT at F;dsimp only at F;by_cases hin: -zbQ<=V/\V<=zbQ
 ·have I:=λq=>zo2 V q hin.1 hin.2;unfold zbT at I;have b2:=zlA hin.1 hin.2;have hz:=zi0 V (zba V);have G:(tlv 2 (beZ V (zba V))==tlv 2 l)=(rdI l).isSome:=by
   rw[A];by_cases h:beZ V (zba V)=l
   ·rw[h,if_pos ⟨hin.1,hin.2,rfl⟩];simp
   ·rw[if_neg (λM=>h M.2.2),beq_eq_false_iff_ne.2 (λM=>h (zuW q_e q_o q_o M))];rfl
  have B:=λq a1 c1 a2 c2 (s1:SlA q a1 ((tlv 2 (beZ V (zba V))).map v8)) (s2:SlA q a2 ((tlv 2 l).map v8))=>zgC a1 a2 _ c1 _ c2 _ _ q rfl rfl s1 s2;rw[G] at B;have S:(rdI l).isSome=true->∃t,rdI l=some t/\Value.int .i64 V= .int .i64 t:=λh=>by
   rw[A] at h ⊢;by_cases M: -zbQ<=V/\V<=zbQ/\beZ V (zba V)=l
   ·rw[if_pos M];exact⟨V,rfl,rfl⟩
   ·rw[if_neg M] at h;cases h
  clear A G;generalize hg:(rdI l).isSome=gd,a7:tlv 2 l=T2,tlv 2 (beZ V (zba V))=T1 at*;repeat' (first|refine s_0 ?_|refine ze 5 ?_;refine q_v (zm (hr:=g8)) ?_|refine q_k 9 ?_;(refine q_s (zn (hc:=λq X J H=>I q)) ?_;rintro _ _ ⟨R,rfl,aI,cI,rfl,rfl⟩);refine zf ?_;(refine q_s zD ?_;rintro _ _ ⟨L,rfl,rfl⟩);(refine q_s (zn (hc:=λq X J H=>F q L J (zq (H.has q_h) Em))) ?_;rintro _ _ ⟨R,rfl,Z,cE,rfl,rfl⟩);refine q_v (za (hc:=λq X J H=>B q aI cI Z cE (zc9 H q_h) (zc9 H q_h))) ?_;refine zf ?_)
  exact zT rfl (zj rfl) (zj rfl) El ⟨_,gd,rfl,hg.symm,λh=>by obtain⟨t,e1,e2⟩:=S h;exact⟨t,e1,e2,rfl⟩,λ_=>rfl⟩
 ·have I:=λq=>zwf V q (by unfold zbQ at hin ⊢;omega);have hr:rdI l=none:=by rw[A,if_neg (λh=>hin ⟨h.1,h.2.1⟩)]
  have B:=λq a2 c2 (s2:SlA q a2 ((tlv 2 l).map v8))=>zgC none a2 0 0 _ c2 [] _ q rfl rfl (.inl rfl) s2;have G:(([]:List UInt8)==tlv 2 l)=false:=by rw[beq_eq_false_iff_ne];unfold tlv;exact λh=>by cases h
  rw[G] at B;generalize a7:tlv 2 l=T2 at*;repeat' (first|refine s_0 ?_|refine ze 5 ?_;refine q_v (zm (hr:=g8)) ?_|refine q_k 9 ?_;refine q_v (za (hc:=q_c I)) ?_;refine zf ?_;(refine q_s zD ?_;rintro _ _ ⟨L,rfl,rfl⟩);(refine q_s (zn (hc:=λq X J H=>F q L J (zq (H.has q_h) Em))) ?_;rintro _ _ ⟨R,rfl,Z,cE,rfl,rfl⟩);refine q_v (za (hc:=λq X J H=>B q Z cE (zc9 H q_h))) ?_;refine zf ?_)
  exact zT rfl (zj rfl) (zj rfl) El ⟨_,false,rfl,by show false=(rdI l).isSome;rw[hr];rfl,λh=>(by cases h),λ_=>rfl⟩
end Go.Proofs.YtdnlngbjpdbffaaGreatDoor
namespace Go.Ct
theorem ze5(t:Nat)(b:List UInt8):rdV t some b=zaU t b:=by
 unfold rdV;cases zaU t b <;> rfl
end Go.Ct
namespace Go.Proofs.YtdnlngbjpdbffaaGreatDoor
open Go Go.Sy Go.Ct Go.RowKit
attribute [local irreducible] Sy SyL SyX SyC SyF Sy.Fn Sy.FnP callFunc
def zbs{α:Type}(r:Nat)(s:Bs)(i:Nat)(rd:List UInt8->Option (α×List UInt8))(Ψ:α->Value->List Res->Prop)(v:Value)(R:List Res):Prop:=
 (∃x rst k u R',rd (s.l.drop i)=some (x,rst)/\k<=s.n/\s.l.drop k=rst/\Ψ x u R'/\v= .tuple #[u,.int .i64 0]/\R=zh r s k::R')\/
 (rd (s.l.drop i)=none/\∃(e:Int) (u:Value),e≠0/\v= .tuple #[u,.int .i64 e]/\R= [zh r s i])
theorem ReadR.out{α:Type}{r:Nat}{s:Bs}{i tag:Nat}{f:List UInt8->Option α}{j:List UInt8->Bool}{Φ:Bs->Value->List Res->Prop}{Ψ:α->Value->List Res->Prop}{v:Value}{R:List Res}(h:ReadR r s i tag j Φ v R)(O:∀l,j l=(f l).isSome)(S:∀m u q,Bsub s m->m.n<=s.n->Φ m u q->∃t,f m.l=some t/\Ψ t u q):zbs r s i (rdV tag f) Ψ v R:=by
 rcases h with ⟨c,F,m,k,u,q,A,T,G,H,I,J,K,w,B,E⟩|⟨A,e,u,N,Q,M⟩
 ·obtain⟨t,w,L⟩:=S m u q G I w;refine .inl ⟨t,F,k,u,q,?_,J,K,L,B,E⟩;rw[H] at w;unfold rdV;rw[A];simp[w]
 ·refine .inr ⟨?_,e,u,N,Q,M⟩;unfold rdV;cases hrd:zaU tag (s.l.drop i) with
  |none=>rfl
  |some p=>
   have:=A p.1 p.2 hrd;rw[O] at this;have P:f p.1=none:=by cases hf:f p.1 with
    |none=>rfl
    |some x=>rw[hf] at this;cases this
   simp[P]
def FR:=@ReadR.out
def zfx(s:Bs)(t:List UInt8)(u:Value)(R:List Res):Prop:=∃b s',u= .pointer (some ⟨b,0,none⟩)/\R= [zh b s' 0]/\Bsub s s'/\s'.l=t/\s'.n<=s.n
theorem zqm(a0:Option Addr)(n c:Nat)(l:List UInt8)(w:World)(hn:l.length=n)(hb:n<1000000000000)(m:SlA w a0 (l.map Sy.v8))(hnil:a0=none->c=0/\n=0):
  Sy.Fn Tryz.prog 174 [.slice a0 n c] w No (zbT 5 n (l.map v8)):=by
 have j:a0=none->c=0:=λh=>(hnil h).1;refine zz Tryz.func174 Tryz.ntmps174 ?_;cases a0 with
 |none=>
  obtain⟨rfl,rfl⟩:=hnil rfl;obtain rfl:l= []:=Av.1 hn;repeat' (first|refine s_0 ?_|refine zL [0,2] ?_;refine zf ?_|refine q_k 1 ?_;refine zaH ?_)
  exact zjB (zbZ 5 1) (zaq rfl (zj rfl) q_h ⟨_,_,rfl,rfl⟩)
 |some ad=>
  repeat' (first|refine s_0 ?_|refine q_k 0 ?_|refine q_k 1 ?_;refine zaH ?_|refine ze 3 ?_;(refine q_s zaE ?_;rintro _ _ ⟨_,rfl,rfl⟩);refine zf ?_;(refine q_s zbp ?_;rintro _ _ ⟨rfl,_,_,rfl⟩);refine zf ?_)
  exact q_r
theorem zlE(s:Bs)(w:World)(j:s.ok w)(hb:s.n<1000000000):Sy.Fn Tryz.prog 174 [s.val] w No (zbA s.l):=by
 have h:=zqm s.a s.n s.c s.l w j.len q_o j.sla (λh=>⟨j.nil h,by have:=j.nil h;have:=j.cap;omega⟩);unfold zbA;rw[j.len];exact h
theorem zqo(m:Nat)(hb:m<1000000000):ze1 268 (λ_=>true) (λs v R=>zbA s.l v R) m:=by
 intro s w B F;refine zz Tryz.func268 Tryz.ntmps268 ?_;have hc:=λj (A:Keep No w j)=>zlE s j (B.keep A) q_o;unfold zbA zbT at hc;have E:s.val= .slice s.a s.n s.c:=rfl;rw[E] at hc ⊢;repeat' (first|refine s_0 ?_|refine q_k 0 ?_|refine q_k 1 ?_;(refine q_s (zn (hc:=zr hc)) ?_;rintro _ _ ⟨R,rfl,q,r,rfl,rfl⟩);refine zf ?_)
 exact zT rfl (zj rfl) (zj rfl) Ep ⟨_,true,rfl,rfl,λ_=>⟨q,r,rfl,rfl⟩,λh=>by cases h⟩
theorem zvT(r:Nat)(s:Bs)(i:Nat)(w:World)(hL:Holds w.heap.size (OwnOf [zh r s i]) [zh r s i] w)(L:BsF w (OwnOf [zh r s i]) s)(K:i<=s.n)(hb:s.n<1000000000):
  Sy.Fn Tryz.prog 199 [.pointer (some ⟨r,0,none⟩)] w (OwnOf [zh r s i]) (zbs r s i (rdV 2 rdI) (λt u R=>u= .int .i64 t/\R= [])):=by
 refine zaT Tryz.func199 rfl Tryz.ntmps199 q_p hL ?_;have h:=λj (A:Keep (OwnOf [zh r s i]) w j) (B:∀b,OwnOf [zh r s i] b->w.heap.size<=b\/OwnOf [zh r s i] b) (q:Holds j.heap.size (OwnOf [zh r s i]) [zh r s i] j)=>(zmY 256 (λl=>(rdI l).isSome) _ (en rfl) r s i 2 j (zwj _) q (L.to A B) K hb q_e).mono (λv R h=>(FR (f:=rdI) (Ψ:=(λt u R=>u= .int .i64 t/\R= [])) h (λ_=>rfl) (λ_ _ _ _ _ h=>h):zbs r s i (rdV 2 rdI) (λt u R=>u= .int .i64 t/\R= []) v R));unfold zbs at h;repeat' (first|refine s_0 ?_|refine q_k 0 ?_|refine q_k 1 ?_;(refine q_s (zaY (C:=[zh r s i]) (Eo (by exact Ej) rfl Er) (hc:=λj A B q=>h j A B q)) ?_;rintro _ _ ⟨R,rfl,(⟨x,E,k,u,F,m,G,H,I,rfl,rfl⟩|⟨m,e,u,J,rfl,rfl⟩)⟩);refine zf ?_|(refine zx ?_;first|refine zo ?_|refine zC ?_|fail)|fail)
 ·exact zT rfl (zj rfl) (zj rfl) ⟨[],Aq _⟩ (.inl ⟨x,E,k,u,F,m,G,H,I,rfl,rfl⟩)
 ·exact zT rfl (zj rfl) (zj rfl) Ep (.inr ⟨m,e,u,J,rfl,rfl⟩)
theorem zsG(r:Nat)(s:Bs)(i:Nat)(w:World)(hL:Holds w.heap.size (OwnOf [zh r s i]) [zh r s i] w)(L:BsF w (OwnOf [zh r s i]) s)(K:i<=s.n)(hb:s.n<1000000000):
  Sy.Fn Tryz.prog 204 [.pointer (some ⟨r,0,none⟩)] w (OwnOf [zh r s i]) (zbs r s i (rdV 24 rdT) (λt u R=>u= .int .i64 t/\R= [])):=by
 refine zaT Tryz.func204 rfl Tryz.ntmps204 q_p hL ?_;have h:=λj (A:Keep (OwnOf [zh r s i]) w j) (B:∀b,OwnOf [zh r s i] b->w.heap.size<=b\/OwnOf [zh r s i] b) (q:Holds j.heap.size (OwnOf [zh r s i]) [zh r s i] j)=>(zmY 264 (λl=>(rdT l).isSome) _ (en rfl) r s i 24 j (ztS _) q (L.to A B) K hb q_e).mono (λv R h=>(FR (f:=rdT) (Ψ:=(λt u R=>u= .int .i64 t/\R= [])) h (λ_=>rfl) (λ_ _ _ _ _ h=>h):zbs r s i (rdV 24 rdT) (λt u R=>u= .int .i64 t/\R= []) v R));unfold zbs at h;repeat' (first|refine s_0 ?_|refine q_k 0 ?_|refine q_k 1 ?_;(refine q_s (zaY (C:=[zh r s i]) (Eo (by exact Ej) rfl Er) (hc:=λj A B q=>h j A B q)) ?_;rintro _ _ ⟨R,rfl,(⟨x,E,k,u,F,m,G,H,I,rfl,rfl⟩|⟨m,e,u,J,rfl,rfl⟩)⟩);refine zf ?_|(refine zx ?_;first|refine zo ?_|refine zC ?_|fail)|fail)
 ·exact zT rfl (zj rfl) (zj rfl) ⟨[],Aq _⟩ (.inl ⟨x,E,k,u,F,m,G,H,I,rfl,rfl⟩)
 ·exact zT rfl (zj rfl) (zj rfl) Ep (.inr ⟨m,e,u,J,rfl,rfl⟩)
theorem zsQ(r:Nat)(s:Bs)(i:Nat)(w:World)(hL:Holds w.heap.size (OwnOf [zh r s i]) [zh r s i] w)(L:BsF w (OwnOf [zh r s i]) s)(K:i<=s.n)(hb:s.n<1000000000):
  Sy.Fn Tryz.prog 126 [.pointer (some ⟨r,0,none⟩)] w (OwnOf [zh r s i]) (zbs r s i (rdV 1 Ct.rdB) (λt u R=>u= .bool t/\R= [])):=by
 refine zaT Tryz.func126 rfl Tryz.ntmps126 q_p hL ?_;have h:=λj (A:Keep (OwnOf [zh r s i]) w j) (B:∀b,OwnOf [zh r s i] b->w.heap.size<=b\/OwnOf [zh r s i] b) (q:Holds j.heap.size (OwnOf [zh r s i]) [zh r s i] j)=>(ztf 206 (λl=>(Ct.rdB l).isSome) _ (en rfl) r s i 1 j (zug _) q (L.to A B) K hb q_e).mono (λv R h=>(FR (f:=Ct.rdB) (Ψ:=(λt u R=>u= .bool t/\R= [])) h (λ_=>rfl) (λ_ _ _ _ _ h=>h):zbs r s i (rdV 1 Ct.rdB) (λt u R=>u= .bool t/\R= []) v R));unfold zbs at h;repeat' (first|refine s_0 ?_|refine q_k 0 ?_|refine q_k 1 ?_;(refine q_s (zaY (C:=[zh r s i]) (Eo (by exact Ej) rfl Er) (hc:=λj A B q=>h j A B q)) ?_;rintro _ _ ⟨R,rfl,(⟨x,E,k,u,F,m,G,H,I,rfl,rfl⟩|⟨m,e,u,J,rfl,rfl⟩)⟩);refine zf ?_|(refine zx ?_;first|refine zo ?_|refine zC ?_|fail)|fail)
 ·exact zT rfl (zj rfl) (zj rfl) ⟨[],Aq _⟩ (.inl ⟨x,E,k,u,F,m,G,H,I,rfl,rfl⟩)
 ·exact zT rfl (zj rfl) (zj rfl) Ep (.inr ⟨m,e,u,J,rfl,rfl⟩)
theorem zvd(r:Nat)(s:Bs)(i:Nat)(w:World)(hL:Holds w.heap.size (OwnOf [zh r s i]) [zh r s i] w)(L:BsF w (OwnOf [zh r s i]) s)(K:i<=s.n)(hb:s.n<1000000000):
  Sy.Fn Tryz.prog 209 [.pointer (some ⟨r,0,none⟩)] w (OwnOf [zh r s i]) (zbs r s i (rdV 4 some) (λt u R=>zbA t u R)):=by
 refine zaT Tryz.func209 rfl Tryz.ntmps209 q_p hL ?_;have h:=λj (A:Keep (OwnOf [zh r s i]) w j) (B:∀b,OwnOf [zh r s i] b->w.heap.size<=b\/OwnOf [zh r s i] b) (q:Holds j.heap.size (OwnOf [zh r s i]) [zh r s i] j)=>(ztU 268 (λ_=>true) _ (en rfl) r s i 4 j (zqo _ hb) q (L.to A B) K hb q_e).mono (λv R h=>(FR (f:=some) (Ψ:=(λt u R=>zbA t u R)) h (λ_=>rfl) (λ_ _ _ _ _ h=>⟨_,rfl,h⟩):zbs r s i (rdV 4 some) (λt u R=>zbA t u R) v R));unfold zbs at h;repeat' (first|refine s_0 ?_|refine q_k 0 ?_|refine q_k 1 ?_;(refine q_s (zaY (C:=[zh r s i]) (Eo (by exact Ej) rfl Er) (hc:=λj A B q=>h j A B q)) ?_;rintro _ _ ⟨R,rfl,(⟨x,E,k,u,F,m,G,H,I,rfl,rfl⟩|⟨m,e,u,J,rfl,rfl⟩)⟩);refine zf ?_|(refine zx ?_;first|refine zo ?_|refine zC ?_|fail)|fail)
 ·exact zT rfl (zj rfl) (zj rfl) ⟨[],Aq _⟩ (.inl ⟨x,E,k,u,F,m,G,H,I,rfl,rfl⟩)
 ·exact zT rfl (zj rfl) (zj rfl) Ep (.inr ⟨m,e,u,J,rfl,rfl⟩)
theorem zpp(r:Nat)(s:Bs)(i:Nat)(w:World)(hL:Holds w.heap.size (OwnOf [zh r s i]) [zh r s i] w)(L:BsF w (OwnOf [zh r s i]) s)(K:i<=s.n)(hb:s.n<1000000000):
  Sy.Fn Tryz.prog 262 [.pointer (some ⟨r,0,none⟩)] w (OwnOf [zh r s i]) (zbs r s i (rdV 27 some) (λt u R=>u=zW t/\R= [])):=by
 refine zaT Tryz.func262 rfl Tryz.ntmps262 q_p hL ?_;have h:=λj (A:Keep (OwnOf [zh r s i]) w j) (B:∀b,OwnOf [zh r s i] b->w.heap.size<=b\/OwnOf [zh r s i] b) (q:Holds j.heap.size (OwnOf [zh r s i]) [zh r s i] j)=>(zue 302 (λ_=>true) _ (en rfl) r s i 27 j (zpY _) q (L.to A B) K hb q_e).mono (λv R h=>(FR (f:=some) (Ψ:=(λt u R=>u=zW t/\R= [])) h (λ_=>rfl) (λ_ _ _ _ _ h=>⟨_,rfl,h⟩):zbs r s i (rdV 27 some) (λt u R=>u=zW t/\R= []) v R));unfold zbs at h;repeat' (first|refine s_0 ?_|refine q_k 0 ?_|refine q_k 1 ?_;(refine q_s (zaY (C:=[zh r s i]) (Eo (by exact Ej) rfl Er) (hc:=λj A B q=>h j A B q)) ?_;rintro _ _ ⟨R,rfl,(⟨x,E,k,u,F,m,G,H,I,rfl,rfl⟩|⟨m,e,u,J,rfl,rfl⟩)⟩);refine zf ?_|(refine zx ?_;first|refine zo ?_|refine zC ?_|fail)|fail)
 ·exact zT rfl (zj rfl) (zj rfl) ⟨[],Aq _⟩ (.inl ⟨x,E,k,u,F,m,G,H,I,rfl,rfl⟩)
 ·exact zT rfl (zj rfl) (zj rfl) Ep (.inr ⟨m,e,u,J,rfl,rfl⟩)
theorem zkZ(r:Nat)(s:Bs)(i:Nat)(w:World)(hL:Holds w.heap.size (OwnOf [zh r s i]) [zh r s i] w)(E:BsF w (OwnOf [zh r s i]) s)(N:i<=s.n)(hb:s.n<1000000000):
  Sy.Fn Tryz.prog 177 [.pointer (some ⟨r,0,none⟩)] w (OwnOf [zh r s i]) (zbs r s i (rdV 48 some) (zfx s)):=by
 refine zaT Tryz.func177 rfl Tryz.ntmps177 q_p hL ?_;have h:=λj (A:Keep (OwnOf [zh r s i]) w j) (B:∀b,OwnOf [zh r s i] b->w.heap.size<=b\/OwnOf [zh r s i] b) (q:Holds j.heap.size (OwnOf [zh r s i]) [zh r s i] j)=>(znb 238 (λ_=>true) _ (en rfl) r s i 48 j (zil _) q (E.to A B) N hb q_e).mono (λv R h=>(FR (f:=some) (Ψ:=(zfx s)) h (λ_=>rfl) (λs1 _ _ E O ⟨b,H,I⟩=>⟨s1.l,rfl,b,s1,H,I,E,rfl,O⟩):zbs r s i (rdV 48 some) (zfx s) v R));unfold zbs at h;repeat' (first|refine s_0 ?_|refine q_k 0 ?_|refine q_k 1 ?_;(refine q_s (zaY (C:=[zh r s i]) (Eo (by exact Ej) rfl Er) (hc:=λj A B q=>h j A B q)) ?_;rintro _ _ ⟨R,rfl,(⟨x,F,k,u,G,m,J,K,L,rfl,rfl⟩|⟨m,e,u,M,rfl,rfl⟩)⟩);refine zf ?_|(refine zx ?_;first|refine zo ?_|refine zC ?_|fail)|fail)
 ·exact zT rfl (zj rfl) (zj rfl) ⟨[],Aq _⟩ (.inl ⟨x,F,k,u,G,m,J,K,L,rfl,rfl⟩)
 ·exact zT rfl (zj rfl) (zj rfl) Ep (.inr ⟨m,e,u,M,rfl,rfl⟩)
theorem zc5(r:Nat)(s:Bs)(i:Nat)(w:World)(hr:w.rangeAt r 0 (rdC s i))(E:i<=s.n)(hc:s.n<=s.c):q_G 92 [.pointer (some ⟨r,0,none⟩)] w (.int .i64 ((s.n-i:Nat):Int)):=by
 refine zz Tryz.func92 Tryz.ntmps92 ?_;have B:w.cell? ⟨r,0+2,none⟩=some (.bool true):=hr 2 _ rfl;have j:=λA (F:Keep No w A)=>zk9 r s i A (zaW hr F (λh=>h)) E hc;have q:(s.cut i s.n).n=s.n-i:=rfl;generalize s.cut i s.n=s1 at*;have m:s1.val= .slice s1.a s1.n s1.c:=rfl;rw[m] at j;rw[<-q];repeat' (first|refine s_0 ?_|refine q_k 0 ?_|refine q_k 1 ?_;refine zaH ?_;refine zf ?_;refine q_v (zp (hv:=B)) ?_;refine zI ?_;refine zf ?_|refine q_k 3 ?_;refine q_v (za (hc:=zr j)) ?_;refine zf ?_)
 exact q_r
theorem zrE(r:Nat)(s:Bs)(i:Nat)(w:World)(hr:w.rangeAt r 0 (rdC s i))(B:i<=s.n)(hc:s.n<=s.c)(hb:s.n<1000000000):q_G 175 [.pointer (some ⟨r,0,none⟩)] w (.int .i64 (if s.n-i=0 then 0 else 5)):=by
 refine zz Tryz.func175 Tryz.ntmps175 ?_;have j:w.cell? ⟨r,0+2,none⟩=some (.bool true):=hr 2 _ rfl;have q:=λA (E:Keep No w A)=>zc5 r s i A (zaW hr E (λh=>h)) B hc;generalize s.n-i=m at*;by_cases hm:m=0
 ·have g:decide ((m:Int)>0)=false:=q_f;rw[if_pos hm];repeat' (first|refine s_t ?_|refine zL [0,5] ?_;refine zf ?_|refine q_k 1 ?_;refine zaH ?_;refine zf ?_;refine q_v (zp (hv:=j)) ?_;refine zI ?_;refine zf ?_|refine q_k 3 ?_;refine q_v (za (hc:=zr q)) ?_;refine q_x (zF (hr:=g)) ?_)
  exact q_r
 ·have g:decide ((m:Int)>0)=true:=q_d;rw[if_neg hm];repeat' (first|refine s_t ?_|refine zL [0,4] ?_;refine zf ?_|refine q_k 1 ?_;refine zaH ?_;refine zf ?_;refine q_v (zp (hv:=j)) ?_;refine zI ?_;refine zf ?_|refine q_k 3 ?_;refine q_v (za (hc:=zr q)) ?_;refine q_x (zF (hr:=g)) ?_)
  exact q_r
def zog(r:Nat)(s:Bs)(i n:Nat)(v:Value)(R:List Res):Prop:=
 (∃c rst k b s',zaU (0xa0+n) (s.l.drop i)=some (c,rst)/\k<=s.n/\s.l.drop k=rst/\Bsub s s'/\s'.l=c/\s'.n<=s.n/\v= .tuple #[.pointer (some ⟨b,0,none⟩),.bool true,.int .i64 0]/\R= [zh r s k,zh b s' 0])\/
 (zaU (0xa0+n) (s.l.drop i)=none/\v= .tuple #[.pointer none,.bool false,.int .i64 0]/\R= [zh r s i])\/
 (zaU (0xa0+n) (s.l.drop i)=none/\∃(e:Int) (u:Value),e≠0/\v= .tuple #[u,.bool false,.int .i64 e]/\R= [zh r s i])
theorem zig(r:Nat)(s:Bs)(i n:Nat)(w:World)(hL:Holds w.heap.size (OwnOf [zh r s i]) [zh r s i] w)(E:BsF w (OwnOf [zh r s i]) s)(O:i<=s.n)(hb:s.n<1000000000)(hn:n<=30):
  Sy.Fn Tryz.prog 254 [.pointer (some ⟨r,0,none⟩),.int .i64 (n:Int)] w (OwnOf [zh r s i]) (zog r s i n):=by
 refine zaT Tryz.func254 rfl Tryz.ntmps254 q_p hL ?_;have q:=λA hr=>zk9 r s i A hr O E.cap;have J:=E.cut O (A8 s.n);have H:=zrF s i E.len;have a6:(s.cut i s.n).n=s.n-i:=rfl;have m:=λA (L:Keep (OwnOf [zh r s i]) w A) (P:∀b,OwnOf [zh r s i] b->w.heap.size<=b\/OwnOf [zh r s i] b) (G:Holds A.heap.size (OwnOf [zh r s i]) [zh r s i] A)=>(znb 238 (λ_=>true) _ (en rfl) r s i (160+n) A (zil _) G (E.to L P) O hb q_o).mono (λv R h=>(FR (f:=some) (Ψ:=zfx s) h (λ_=>rfl) (λs1 _ _ E hn ⟨b,Y,Z⟩=>⟨s1.l,rfl,b,s1,Y,Z,E,rfl,hn⟩):zbs r s i (rdV (160+n) some) (zfx s) v R));unfold zbs zfx at m;rw[ze5] at m;unfold zog;have g1:decide ((n:Int)<0)=false:=q_f;have g2:decide ((n:Int)>30)=false:=q_f;have g3:IntKind.i64.wrap (160+(n:Int))=((160+n:Nat):Int):=q_w;have g4:IntKind.u8.wrap ((160+n:Nat):Int)=((160+n:Nat):Int):=IntWalk.u8_in _ q_o;generalize s.cut i s.n=s1,hM:OwnOf [zh r s i]=M at*;have K:s1.val= .slice s1.a s1.n s1.c:=rfl;rw[K] at q;repeat' (first|refine s_0 ?_|refine q_k 0 ?_|refine q_k 1 ?_;refine zaH ?_;refine zf ?_;refine zl ?_;refine zI ?_;refine zf ?_|refine q_k 3 ?_;refine q_x (zm (hr:=g1)) ?_;refine q_x (zF (hr:=g2)) ?_|refine q_k 5 ?_;refine q_v (za (hc:=λA X L G=>q A (zq (G.has (r:=zh r s i) q_h) Em))) ?_;refine zf ?_)
 have B:s1.l.length=s1.n:=J.len;rw[<-H];rcases AM s1.n with hz|hz
 ·have e:s1.l= []:=Av.1 q_o;have g:decide ((s1.n:Int)=0)=true:=q_d;rw[e];repeat' (first|refine s_0 ?_|refine q_k 6 ?_;refine q_x (zY (hr:=g)) ?_|refine q_k 7 ?_)
  exact zeZ rfl (zj rfl) (zj rfl) (zj rfl) Ep (.inr (.inl ⟨rfl,rfl,rfl⟩))
 have g:decide ((s1.n:Int)=0)=false:=q_f;obtain⟨x,l,T⟩:∃x l,s1.l=x::l:=by
  cases h:s1.l with
  |nil=>rw[h] at B;simp at B;omega
  |cons x l=>exact⟨x,l,rfl⟩
 obtain⟨b,o,ha,S,I⟩:∃b o,s1.a=some ⟨b,o,none⟩/\w.rangeAt b o (s1.l.map v8)/\¬M b:=by
  rcases J.slf with h|h
  ·rw[T] at h;cases h
  ·exact h
 have F:w.cell? ⟨b,o+0,none⟩=some (.int .u8 (x.toNat:Int)):=S 0 _ (by rw[T];rfl);rw[ha];have a7:=x.toNat_lt;by_cases hxt:¬x.toNat=160+n
 ·have Q:zaU (160+n) s1.l=none:=by rw[T];exact if_neg hxt
  rw[Q];have g5:decide ((x.toNat:Int)≠((160+n:Nat):Int))=true:=q_d;repeat' (first|refine s_0 ?_|refine q_k 6 ?_;refine q_x (zY (hr:=g)) ?_;refine q_v (zG (j:=0)) ?_;refine q_x (zp (hv:=F) (hn:=I)) ?_;refine q_v (zN (hr:=g3)) ?_;refine q_v (zaw (hr:=g4)) ?_;refine q_x (zV (hr:=g5)) ?_|refine q_k 7 ?_)
  exact zeZ rfl (zj rfl) (zj rfl) (zj rfl) Ep (.inr (.inl ⟨rfl,rfl,rfl⟩))
 have g5:decide ((x.toNat:Int)≠((160+n:Nat):Int))=false:=q_f;rw[<-H] at m;repeat' (first|refine s_0 ?_|refine q_k 6 ?_;refine q_x (zY (hr:=g)) ?_;refine q_v (zG (j:=0)) ?_;refine q_x (zp (hv:=F) (hn:=I)) ?_;refine q_v (zN (hr:=g3)) ?_;refine q_v (zaw (hr:=g4)) ?_;refine q_x (zV (hr:=g5)) ?_)
 subst hM;repeat' (first|refine s_0 ?_|refine q_k 8 ?_;refine q_v (zN (hr:=g3)) ?_;refine q_v (zaw (hr:=g4)) ?_;(refine q_s (zaY (f:=237) (C:=[zh r s i]) (Eo (by exact Ej) rfl Er) (hc:=λA L P G=>m A L P G)) ?_;rintro _ _ ⟨R,rfl,(⟨x1,U,k,u,R',N,h2,h3,⟨W,sI,rfl,rfl,h5,h6,h7⟩,rfl,rfl⟩|⟨N,e,u,V,rfl,rfl⟩)⟩);refine zf ?_|(refine zx ?_;first|refine zo ?_|refine zC ?_|refine zw ?_|fail)|fail)
 ·have g6:decide ((0:Int)=0)=true:=rfl;repeat' (first|refine s_0 ?_|refine q_k 9 ?_;refine q_x (zY (hr:=g6)) ?_)
  exact zeZ rfl (zj rfl) (zj rfl) (zj rfl) Ep (.inl ⟨x1,U,k,W,sI,N,h2,h3,h5,h6,h7,rfl,rfl⟩)
 ·have g6:decide (e=0)=false:=decide_eq_false V;repeat' (first|refine s_0 ?_|refine q_k 9 ?_;refine q_x (zY (hr:=g6)) ?_)
  exact zeZ rfl (zj rfl) (zj rfl) (zj rfl) Ep (.inr (.inr ⟨N,e,u,V,rfl,rfl⟩))
end Go.Proofs.YtdnlngbjpdbffaaGreatDoor
