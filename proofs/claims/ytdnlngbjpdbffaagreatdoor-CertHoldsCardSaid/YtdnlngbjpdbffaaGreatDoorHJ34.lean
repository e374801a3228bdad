/- Lemmas of this proof. -/
import Derived.Test.YtdnlngbjpdbffaaGreatDoorHJ33
set_option maxRecDepth 10000
set_option linter.all false
namespace Go.Sy
open Go Go.RowKit
variable {P:Program}{ro:Option Nat}{N:Nat}{w0:World}{M:Nat->Prop}{ds:List Deferred}{g:Nat->Option Value}{L L1 C:List Res}{o:Oper}
theorem zfV{w:World}{X:List Res}(hC:RemL L C L1)(hh:Holds w0.heap.size M (L++X) w):Holds w.heap.size (OwnOf C) C w:=by
 have q:(L++X).Perm (C++(L1++X)):=by rw[<-AF];exact Aj X hC
 have j:=(hh.perm q).sublist (C8 C (L1++X));exact⟨j.all,j.apart,λr A b m=> .inr ⟨r,A,m⟩⟩
theorem zhD{w:World}{X:List Res}(hC:RemL L C L1)(hh:Holds w0.heap.size M (L++X) w):∀b,OwnOf C b->w0.heap.size<=b\/M b:=by
 rintro b ⟨r,q,j⟩;have m:r∈L++X:=A7 _ (hC.mem_iff.2 (A7 _ q));exact hh.mine r m b j
theorem zaY{m:Operand}{args:Array Operand}{j:Array TypeId}{f:Nat}{vs:List Value}{cap:List Value}{post:Value->List Res->Prop}(hC:RemL L C L1)
  (hc:∀w,Keep M w0 w->(∀b,OwnOf C b->w0.heap.size<=b\/M b)->Holds w.heap.size (OwnOf C) C w->Fn P f (vs++cap) w (OwnOf C) post)
  (E:o.op= .call { callee:=.value m,args:=args,argTypes:=j } :=by exact rfl)(A:ev g m=some (.func (.func f) #[] cap.toArray):=by exact rfl)(ha:evs g args.toList=some vs:=by exact rfl)
  (he:∀args w,(callFunc f args).run P w= .ok (.enter f args) w:=by exact en rfl):OpT P ro N w0 M ds o g L (λv r=>∃R,r=R++L1/\post v R):=
 zd1 E A ha he hC (λ_ h=>h) (λw X B q=>hc w B (zhD hC q) (zfV hC q))
end Go.Sy
namespace Go.Proofs.YtdnlngbjpdbffaaGreatDoor
open Go Go.Sy Go.Ct Go.RowKit
attribute [local irreducible] Sy SyL SyX SyC SyF Sy.Fn Sy.FnP callFunc
abbrev zh(r:Nat)(s:Bs)(i:Nat):Res:=.blk r 190 (rdC s i)
theorem zk9(r:Nat)(s:Bs)(i:Nat)(w:World)(hr:w.rangeAt r 0 (rdC s i))(m:i<=s.n)(hc:s.n<=s.c):q_G 178 [.pointer (some ⟨r,0,none⟩)] w (s.cut i s.n).val:=by
 refine zz Tryz.func178 Tryz.ntmps178 ?_;have h0:w.cell? ⟨r,0,none⟩=some (.slice s.a s.n s.c):=hr 0 _ rfl;have j:w.cell? ⟨r,1,none⟩=some (.int .i64 (i:Int)):=hr 1 _ rfl;show Sy _ _ _ _ _ _ _ (bodyPostM _ _ _ _ (FnR _ _ (zi9 (.slice (zbB s.a i s.n 1) (s.n-i) (s.n-i))))) _ _;repeat' (first|refine s_0 ?_|refine q_k 0 ?_|refine zal (id:=1) 18 [[],[0],[0,1],[0,1,2],[],[4],[4,5],[4,5,6],[],[8],[8,9],[8,9,10],[8,9,10,11],[],[13],[13,14],[13,14,15],[13,14,15,16],[0,1,2,3,4,5,6,7,8,9,10,11,12,13,14,15,16,17],[0,1,2,3,4,5,6,7,8,9,10,11,12,13,14,15,16,17,18]] mixed ?_ ?_;kernel_rfl;refine zO ?_;refine dc (by intro _ _;first|exact zcZ|exact op_nilCheckF) (k:=?_);refine q_D zP ?_;refine q_D (zp (hv:=h0)) ?_;refine zO ?_;refine dc (by intro _ _;first|exact zcZ|exact op_nilCheckF) (k:=?_);refine q_D zP ?_;refine q_D (zp (hv:=j)) ?_;refine zO ?_;refine dc (by intro _ _;first|exact zcZ|exact op_nilCheckF) (k:=?_);refine q_D zP ?_;refine q_D (zp (hv:=h0)) ?_;refine dc (by intro _ _;first|exact zgd|exact zfG) (k:=?_);refine zO ?_;refine dc (by intro _ _;first|exact zcZ|exact op_nilCheckF) (k:=?_);refine q_D zP ?_;refine q_D (zp (hv:=h0)) ?_;refine dc (by intro _ _;first|exact zgd|exact zfG) (k:=?_);refine zaG ?_;refine zbR ?_;refine zo ?_|fail)
 exact q_r
theorem zrF(s:Bs)(i:Nat)(h:s.l.length=s.n):(s.cut i s.n).l=s.l.drop i:=by rw[Bs.cut_l,<-h,CG]
def zhV(r:Nat)(s:Bs)(i tag:Nat)(v:Value)(R:List Res):Prop:=
 (∃c rst s' k,zaU tag (s.l.drop i)=some (c,rst)/\Bsub s s'/\s'.l=c/\s'.n<=s.n/\k<=s.n/\s.l.drop k=rst/\v= .tuple #[s'.val,.int .i64 0]/\R= [zh r s k])\/
 (zaU tag (s.l.drop i)=none/\∃e:Int,e≠0/\v= .tuple #[.slice none 0 0,.int .i64 e]/\R= [zh r s i])
theorem zhf(r:Nat)(s:Bs)(i tag:Nat)(w:World)(hL:Holds w.heap.size (OwnOf [zh r s i]) [zh r s i] w)(Z:BsF w (OwnOf [zh r s i]) s)(U:i<=s.n)(hb:s.n<1000000000)(ht:tag<256):
  Sy.Fn Tryz.prog 266 [.pointer (some ⟨r,0,none⟩),.int .u8 (tag:Int)] w (OwnOf [zh r s i]) (zhV r s i tag):=by
 refine zaT Tryz.func266 rfl Tryz.ntmps266 q_p hL ?_;have m:=λI hr=>zk9 r s i I hr U Z.cap;have B:=Z.cut U (A8 s.n);have K:=zrF s i Z.len;have H:=Bsub.cut s U (A8 s.n);have a6:(s.cut i s.n).n=s.n-i:=rfl;unfold zhV;generalize s.cut i s.n=s1,hM:OwnOf [zh r s i]=M at*;have A:s1.val= .slice s1.a s1.n s1.c:=rfl;rw[A] at m;have G:=λI (hk:Keep M w I)=>zp2 s1 I (B.no hk) q_o;rw[A] at G;repeat' (first|refine s_0 ?_|refine q_k 0 ?_|refine q_k 1 ?_;refine q_v (za (hc:=λI X hk hh=>m I (zq (hh.has (r:=zh r s i) q_h) Em))) ?_;refine zf ?_)
 have E:s1.l.length=s1.n:=B.len;rw[<-K];rcases AM s1.n with hz|hz
 ·have e:s1.l= []:=Av.1 q_o;have g:decide ((s1.n:Int)=0)=true:=q_d;rw[e];repeat' (first|refine s_0 ?_|refine q_k 2 ?_;refine q_v (zY (hr:=g)) ?_|refine q_k 3 ?_)
  exact zT rfl (zj rfl) (zj rfl) Ep (.inr ⟨rfl,4,by decide,rfl,rfl⟩)
 have g:decide ((s1.n:Int)=0)=false:=q_f;obtain⟨x,l,hx⟩:∃x l,s1.l=x::l:=by
  cases h:s1.l with
  |nil=>rw[h] at E;simp at E;omega
  |cons x l=>exact⟨x,l,rfl⟩
 obtain⟨b,o,S,Y,O⟩:∃b o,s1.a=some ⟨b,o,none⟩/\w.rangeAt b o (s1.l.map v8)/\¬M b:=by
  rcases B.slf with h|h
  ·rw[hx] at h;cases h
  ·exact h
 have J:w.cell? ⟨b,o+0,none⟩=some (.int .u8 (x.toNat:Int)):=Y 0 _ (by rw[hx];rfl);rw[S] at m G A;rw[S];have W:zaU tag s1.l=if x.toNat=tag then (zeX s1.l).map (λp=>((s1.l.take p.2).drop p.1,s1.l.drop p.2)) else none:=by rw[hx];rfl
 have a7:=x.toNat_lt;rw[W];by_cases hxt:¬x.toNat=tag
 ·rw[if_neg hxt];have g2:decide ((x.toNat:Int)≠(tag:Int))=true:=q_d;repeat' (first|refine s_0 ?_|refine q_k 2 ?_;refine q_v (zY (hr:=g)) ?_|refine q_k 4 ?_;refine q_v (zG (j:=0)) ?_;refine q_x (zp (hv:=J) (hn:=O)) ?_;refine q_v (zV (hr:=g2)) ?_|refine q_k 5 ?_)
  exact zT rfl (zj rfl) (zj rfl) Ep (.inr ⟨rfl,6,by decide,rfl,rfl⟩)
 rw[if_pos (DO.1 hxt)];have g2:decide ((x.toNat:Int)≠(tag:Int))=false:=q_f;repeat' (first|refine s_0 ?_|refine q_k 2 ?_;refine q_v (zY (hr:=g)) ?_|refine q_k 4 ?_;refine q_v (zG (j:=0)) ?_;refine q_x (zp (hv:=J) (hn:=O)) ?_;refine q_v (zV (hr:=g2)) ?_)
 repeat' (first|refine s_0 ?_|refine q_k 6 ?_;(refine q_s (zn (hc:=zr G)) ?_;rintro _ _ ⟨R,rfl,rfl,(⟨F,q,Q,rfl⟩|⟨Q,e,he,rfl⟩)⟩);refine zf ?_|(refine zx ?_;first|refine zo ?_|refine zC ?_|refine zw ?_|fail)|fail)
 ·have V:=zo3 Q;have T:=B.cap;have g3:decide ((0:Int)≠0)=false:=rfl;have g4:IntKind.i64.wrap ((i:Int)+(q:Int))=((i+q:Nat):Int):=q_w;repeat' (first|refine s_0 ?_|refine q_k 7 ?_;refine q_v (zV (hr:=g3)) ?_|refine q_k 9 ?_;refine zl ?_;refine zf ?_;refine q_x (zN (hr:=g4)) ?_;refine q_n (zaK (v:=.int .i64 ((i+q:Nat):Int)) (hC:=⟨A6 rfl,rfl⟩)) ?_|refine q_k 10 ?_;refine zbR ?_;refine zf ?_)
  refine zT rfl (zj rfl) (zj rfl) Ep (.inl ⟨(s1.l.take q).drop F,s1.l.drop q,s1.cut F q,i+q,by rw[Q];rfl,H.trans (Bsub.cut s1 V.2.1 q_o),rfl,by rw[Bs.cut_n];omega,by omega,by rw[K,Cp],?_,rfl⟩);show Value.tuple #[.slice (zbB (some ⟨b,o,none⟩) F q 1) (q-F) (q-F),.int .i64 0]= .tuple #[.slice (zbB s1.a F q 1) (q-F) (q-F),.int .i64 0];rw[S]
 ·have g3:decide (e≠0)=true:=decide_eq_true he;repeat' (first|refine s_0 ?_|refine q_k 7 ?_;refine q_v (zV (hr:=g3)) ?_|refine q_k 8 ?_)
  exact zT rfl (zj rfl) (zj rfl) Ep (.inr ⟨by rw[Q];rfl,e,he,rfl,rfl⟩)
def ReadR(r:Nat)(s:Bs)(i tag:Nat)(good:List UInt8->Bool)(Ψ:Bs->Value->List Res->Prop)(v:Value)(R:List Res):Prop:=
 (∃c rst s' k u R',zaU tag (s.l.drop i)=some (c,rst)/\good c=true/\Bsub s s'/\s'.l=c/\s'.n<=s.n/\k<=s.n/\s.l.drop k=rst/\Ψ s' u R'/\v= .tuple #[u,.int .i64 0]/\R=zh r s k::R')\/
 ((∀c rst,zaU tag (s.l.drop i)=some (c,rst)->good c=false)/\∃(e:Int) (u:Value),e≠0/\v= .tuple #[u,.int .i64 e]/\R= [zh r s i])
def ze1(f:Nat)(good:List UInt8->Bool)(Ψ:Bs->Value->List Res->Prop)(m:Nat):Prop:=
 ∀(s':Bs) (w':World),s'.ok w'->s'.n<=m->Sy.Fn Tryz.prog f [s'.val] w' No (λv R=>∃u b,v= .tuple #[u,.bool b]/\b=good s'.l/\(b=true->Ψ s' u R)/\(b=false->R= []))
theorem zkp{tag:Nat}{l:List UInt8}{j:List UInt8->Bool}(h:zaU tag l=none):∀c m,zaU tag l=some (c,m)->j c=false:=λc m q=>by rw[h] at q;cases q
theorem zh4{tag:Nat}{l c m:List UInt8}{j:List UInt8->Bool}(h:zaU tag l=some (c,m))(w:j c=false):∀c m,zaU tag l=some (c,m)->j c=false:=λA r q=>by rw[h] at q;cases q;exact w
theorem znb(f:Nat)(q:List UInt8->Bool)(Ψ:Bs->Value->List Res->Prop)(K:∀args w,(callFunc f args).run Tryz.prog w= .ok (.enter f args) w)
  (r:Nat)(s:Bs)(i tag:Nat)(w:World)(I:ze1 f q Ψ s.n)(hL:Holds w.heap.size (OwnOf [zh r s i]) [zh r s i] w)(X:BsF w (OwnOf [zh r s i]) s)(Z:i<=s.n)(hb:s.n<1000000000)(ht:tag<256):
  Sy.Fn Tryz.prog 237 [.pointer (some ⟨r,0,none⟩),.int .u8 (tag:Int),.func (.func f) #[] #[]] w (OwnOf [zh r s i]) (ReadR r s i tag q Ψ):=by
 refine zaT Tryz.func237 rfl Tryz.ntmps237 q_p hL ?_;have H:=λm (F:Keep (OwnOf [zh r s i]) w m) (S:∀b,OwnOf [zh r s i] b->w.heap.size<=b\/OwnOf [zh r s i] b) (O:Holds m.heap.size (OwnOf [zh r s i]) [zh r s i] m)=>zhf r s i tag m O (X.to F S) Z hb ht;unfold zhV at H;repeat' (first|refine s_0 ?_|refine zL [0,1] ?_;refine zf ?_|refine q_k 2 ?_;refine zaH ?_;refine zf ?_;refine zl ?_;refine zI ?_;refine zf ?_|refine q_k 4 ?_;refine zl ?_;refine zf ?_)
 repeat' (first|refine s_0 ?_|refine q_k 5 ?_;(refine q_s (zaY (f:=266) (C:=[zh r s i]) (Eo (by exact Ej) rfl Er) (hc:=λm F S O=>H m F S O)) ?_;rintro _ _ ⟨R,rfl,(⟨c,W,E,k,j,A,hc,G,Q,J,rfl,rfl⟩|⟨j,e,he,rfl,rfl⟩)⟩);refine zf ?_|(refine zx ?_;first|refine zo ?_|refine zC ?_|refine zw ?_|fail)|fail)
 rotate_left
 ·have g:decide (e≠0)=true:=decide_eq_true he;repeat' (first|refine s_0 ?_|refine q_k 6 ?_;refine q_v (zV (hr:=g)) ?_|refine q_k 7 ?_)
  exact zT rfl (zj rfl) (zj rfl) Ep (.inr ⟨zkp j,e,_,he,rfl,rfl⟩)
 have Y:=λm (F:Keep (OwnOf [zh r s i]) w m)=>I E m ((A _ _ X).no F) G;have V:E.val= .slice E.a E.n E.c:=rfl;rw[V] at Y ⊢;repeat' (first|refine s_0 ?_|refine q_k 6 ?_;refine q_v (zV (hr:=rfl)) ?_|refine q_k 8 ?_;(refine q_s (zn (f:=f) (he:=K) (hc:=zr Y)) ?_;rintro _ _ ⟨R,rfl,u,b,rfl,B,T,U⟩);refine zf ?_)
 rw[hc] at B;cases b with
 |true=>
  have hp:=T rfl;repeat' (first|refine s_0 ?_|refine q_k 9 ?_;refine zI ?_|refine q_k 12 ?_)
  exact zT rfl (zj rfl) (zj rfl) (by exact⟨[],(Ac (l₁:=R) (l₂:=[zh r s k])).trans q_p⟩) (.inl ⟨c,W,E,k,u,R,j,B.symm,A,hc,G,Q,J,hp,rfl,rfl⟩)
 |false=>
  obtain rfl:=U rfl;repeat' (first|refine s_0 ?_|refine q_k 9 ?_;refine zI ?_|refine q_k 10 ?_;refine q_n (zaK (v:=.int .i64 (i:Int)) (hC:=⟨A6 rfl,rfl⟩)) ?_|refine q_k 11 ?_)
  exact zT rfl (zj rfl) (zj rfl) Ep (.inr ⟨zh4 j B.symm,6,_,by decide,rfl,rfl⟩)
theorem zmY(f:Nat)(q:List UInt8->Bool)(Ψ:Bs->Value->List Res->Prop)(K:∀args w,(callFunc f args).run Tryz.prog w= .ok (.enter f args) w)
  (r:Nat)(s:Bs)(i tag:Nat)(w:World)(I:ze1 f q Ψ s.n)(hL:Holds w.heap.size (OwnOf [zh r s i]) [zh r s i] w)(X:BsF w (OwnOf [zh r s i]) s)(Z:i<=s.n)(hb:s.n<1000000000)(ht:tag<256):
  Sy.Fn Tryz.prog 255 [.pointer (some ⟨r,0,none⟩),.int .u8 (tag:Int),.func (.func f) #[] #[]] w (OwnOf [zh r s i]) (ReadR r s i tag q Ψ):=by
 refine zaT Tryz.func255 rfl Tryz.ntmps255 q_p hL ?_;have H:=λm (F:Keep (OwnOf [zh r s i]) w m) (S:∀b,OwnOf [zh r s i] b->w.heap.size<=b\/OwnOf [zh r s i] b) (O:Holds m.heap.size (OwnOf [zh r s i]) [zh r s i] m)=>zhf r s i tag m O (X.to F S) Z hb ht;unfold zhV at H;repeat' (first|refine s_0 ?_|refine zL [0,1] ?_;refine zf ?_|refine q_k 2 ?_;refine zaH ?_;refine zf ?_;refine zl ?_;refine zI ?_;refine zf ?_|refine q_k 4 ?_;refine zl ?_;refine zf ?_)
 repeat' (first|refine s_0 ?_|refine q_k 5 ?_;(refine q_s (zaY (f:=266) (C:=[zh r s i]) (Eo (by exact Ej) rfl Er) (hc:=λm F S O=>H m F S O)) ?_;rintro _ _ ⟨R,rfl,(⟨c,W,E,k,j,A,hc,G,Q,J,rfl,rfl⟩|⟨j,e,he,rfl,rfl⟩)⟩);refine zf ?_|(refine zx ?_;first|refine zo ?_|refine zC ?_|refine zw ?_|fail)|fail)
 rotate_left
 ·have g:decide (e≠0)=true:=decide_eq_true he;repeat' (first|refine s_0 ?_|refine q_k 6 ?_;refine q_v (zV (hr:=g)) ?_|refine q_k 7 ?_)
  exact zT rfl (zj rfl) (zj rfl) Ep (.inr ⟨zkp j,e,_,he,rfl,rfl⟩)
 have Y:=λm (F:Keep (OwnOf [zh r s i]) w m)=>I E m ((A _ _ X).no F) G;have V:E.val= .slice E.a E.n E.c:=rfl;rw[V] at Y ⊢;repeat' (first|refine s_0 ?_|refine q_k 6 ?_;refine q_v (zV (hr:=rfl)) ?_|refine q_k 8 ?_;(refine q_s (zn (f:=f) (he:=K) (hc:=zr Y)) ?_;rintro _ _ ⟨R,rfl,u,b,rfl,B,T,U⟩);refine zf ?_)
 rw[hc] at B;cases b with
 |true=>
  have hp:=T rfl;repeat' (first|refine s_0 ?_|refine q_k 9 ?_;refine zI ?_|refine q_k 12 ?_)
  exact zT rfl (zj rfl) (zj rfl) (by exact⟨[],(Ac (l₁:=R) (l₂:=[zh r s k])).trans q_p⟩) (.inl ⟨c,W,E,k,u,R,j,B.symm,A,hc,G,Q,J,hp,rfl,rfl⟩)
 |false=>
  obtain rfl:=U rfl;repeat' (first|refine s_0 ?_|refine q_k 9 ?_;refine zI ?_|refine q_k 10 ?_;refine q_n (zaK (v:=.int .i64 (i:Int)) (hC:=⟨A6 rfl,rfl⟩)) ?_|refine q_k 11 ?_)
  exact zT rfl (zj rfl) (zj rfl) Ep (.inr ⟨zh4 j B.symm,6,_,by decide,rfl,rfl⟩)
theorem ztf(f:Nat)(q:List UInt8->Bool)(Ψ:Bs->Value->List Res->Prop)(K:∀args w,(callFunc f args).run Tryz.prog w= .ok (.enter f args) w)
  (r:Nat)(s:Bs)(i tag:Nat)(w:World)(I:ze1 f q Ψ s.n)(hL:Holds w.heap.size (OwnOf [zh r s i]) [zh r s i] w)(X:BsF w (OwnOf [zh r s i]) s)(Z:i<=s.n)(hb:s.n<1000000000)(ht:tag<256):
  Sy.Fn Tryz.prog 205 [.pointer (some ⟨r,0,none⟩),.int .u8 (tag:Int),.func (.func f) #[] #[]] w (OwnOf [zh r s i]) (ReadR r s i tag q Ψ):=by
 refine zaT Tryz.func205 rfl Tryz.ntmps205 q_p hL ?_;have H:=λm (F:Keep (OwnOf [zh r s i]) w m) (S:∀b,OwnOf [zh r s i] b->w.heap.size<=b\/OwnOf [zh r s i] b) (O:Holds m.heap.size (OwnOf [zh r s i]) [zh r s i] m)=>zhf r s i tag m O (X.to F S) Z hb ht;unfold zhV at H;repeat' (first|refine s_0 ?_|refine zL [0,1] ?_;refine zf ?_|refine q_k 2 ?_;refine zaH ?_;refine zf ?_;refine zl ?_;refine zI ?_;refine zf ?_|refine q_k 4 ?_;refine zl ?_;refine zf ?_)
 repeat' (first|refine s_0 ?_|refine q_k 5 ?_;(refine q_s (zaY (f:=266) (C:=[zh r s i]) (Eo (by exact Ej) rfl Er) (hc:=λm F S O=>H m F S O)) ?_;rintro _ _ ⟨R,rfl,(⟨c,W,E,k,j,A,hc,G,Q,J,rfl,rfl⟩|⟨j,e,he,rfl,rfl⟩)⟩);refine zf ?_|(refine zx ?_;first|refine zo ?_|refine zC ?_|refine zw ?_|fail)|fail)
 rotate_left
 ·have g:decide (e≠0)=true:=decide_eq_true he;repeat' (first|refine s_0 ?_|refine q_k 6 ?_;refine q_v (zV (hr:=g)) ?_|refine q_k 7 ?_)
  exact zT rfl (zj rfl) (zj rfl) Ep (.inr ⟨zkp j,e,_,he,rfl,rfl⟩)
 have Y:=λm (F:Keep (OwnOf [zh r s i]) w m)=>I E m ((A _ _ X).no F) G;have V:E.val= .slice E.a E.n E.c:=rfl;rw[V] at Y ⊢;repeat' (first|refine s_0 ?_|refine q_k 6 ?_;refine q_v (zV (hr:=rfl)) ?_|refine q_k 8 ?_;(refine q_s (zn (f:=f) (he:=K) (hc:=zr Y)) ?_;rintro _ _ ⟨R,rfl,u,b,rfl,B,T,U⟩);refine zf ?_)
 rw[hc] at B;cases b with
 |true=>
  have hp:=T rfl;repeat' (first|refine s_0 ?_|refine q_k 9 ?_;refine zI ?_|refine q_k 12 ?_)
  exact zT rfl (zj rfl) (zj rfl) (by exact⟨[],(Ac (l₁:=R) (l₂:=[zh r s k])).trans q_p⟩) (.inl ⟨c,W,E,k,u,R,j,B.symm,A,hc,G,Q,J,hp,rfl,rfl⟩)
 |false=>
  obtain rfl:=U rfl;repeat' (first|refine s_0 ?_|refine q_k 9 ?_;refine zI ?_|refine q_k 10 ?_;refine q_n (zaK (v:=.int .i64 (i:Int)) (hC:=⟨A6 rfl,rfl⟩)) ?_|refine q_k 11 ?_)
  exact zT rfl (zj rfl) (zj rfl) Ep (.inr ⟨zh4 j B.symm,6,_,by decide,rfl,rfl⟩)
theorem ztU(f:Nat)(q:List UInt8->Bool)(Ψ:Bs->Value->List Res->Prop)(K:∀args w,(callFunc f args).run Tryz.prog w= .ok (.enter f args) w)
  (r:Nat)(s:Bs)(i tag:Nat)(w:World)(I:ze1 f q Ψ s.n)(hL:Holds w.heap.size (OwnOf [zh r s i]) [zh r s i] w)(X:BsF w (OwnOf [zh r s i]) s)(Z:i<=s.n)(hb:s.n<1000000000)(ht:tag<256):
  Sy.Fn Tryz.prog 267 [.pointer (some ⟨r,0,none⟩),.int .u8 (tag:Int),.func (.func f) #[] #[]] w (OwnOf [zh r s i]) (ReadR r s i tag q Ψ):=by
 refine zaT Tryz.func267 rfl Tryz.ntmps267 q_p hL ?_;have H:=λm (F:Keep (OwnOf [zh r s i]) w m) (S:∀b,OwnOf [zh r s i] b->w.heap.size<=b\/OwnOf [zh r s i] b) (O:Holds m.heap.size (OwnOf [zh r s i]) [zh r s i] m)=>zhf r s i tag m O (X.to F S) Z hb ht;unfold zhV at H;repeat' (first|refine s_0 ?_|refine zL [0,1] ?_;refine zf ?_|refine q_k 2 ?_;refine zaH ?_;refine zf ?_;refine zl ?_;refine zI ?_;refine zf ?_|refine q_k 4 ?_;refine zl ?_;refine zf ?_)
 repeat' (first|refine s_0 ?_|refine q_k 5 ?_;(refine q_s (zaY (f:=266) (C:=[zh r s i]) (Eo (by exact Ej) rfl Er) (hc:=λm F S O=>H m F S O)) ?_;rintro _ _ ⟨R,rfl,(⟨c,W,E,k,j,A,hc,G,Q,J,rfl,rfl⟩|⟨j,e,he,rfl,rfl⟩)⟩);refine zf ?_|(refine zx ?_;first|refine zo ?_|refine zC ?_|refine zw ?_|fail)|fail)
 rotate_left
 ·have g:decide (e≠0)=true:=decide_eq_true he;repeat' (first|refine s_0 ?_|refine q_k 6 ?_;refine q_v (zV (hr:=g)) ?_|refine q_k 7 ?_)
  exact zT rfl (zj rfl) (zj rfl) Ep (.inr ⟨zkp j,e,_,he,rfl,rfl⟩)
 have Y:=λm (F:Keep (OwnOf [zh r s i]) w m)=>I E m ((A _ _ X).no F) G;have V:E.val= .slice E.a E.n E.c:=rfl;rw[V] at Y ⊢;repeat' (first|refine s_0 ?_|refine q_k 6 ?_;refine q_v (zV (hr:=rfl)) ?_|refine q_k 8 ?_;(refine q_s (zn (f:=f) (he:=K) (hc:=zr Y)) ?_;rintro _ _ ⟨R,rfl,u,b,rfl,B,T,U⟩);refine zf ?_)
 rw[hc] at B;cases b with
 |true=>
  have hp:=T rfl;repeat' (first|refine s_0 ?_|refine q_k 9 ?_;refine zI ?_|refine q_k 12 ?_)
  exact zT rfl (zj rfl) (zj rfl) (by exact⟨[],(Ac (l₁:=R) (l₂:=[zh r s k])).trans q_p⟩) (.inl ⟨c,W,E,k,u,R,j,B.symm,A,hc,G,Q,J,hp,rfl,rfl⟩)
 |false=>
  obtain rfl:=U rfl;repeat' (first|refine s_0 ?_|refine q_k 9 ?_;refine zI ?_|refine q_k 10 ?_;refine q_n (zaK (v:=.int .i64 (i:Int)) (hC:=⟨A6 rfl,rfl⟩)) ?_|refine q_k 11 ?_)
  exact zT rfl (zj rfl) (zj rfl) Ep (.inr ⟨zh4 j B.symm,6,_,by decide,rfl,rfl⟩)
theorem zue(f:Nat)(q:List UInt8->Bool)(Ψ:Bs->Value->List Res->Prop)(K:∀args w,(callFunc f args).run Tryz.prog w= .ok (.enter f args) w)
  (r:Nat)(s:Bs)(i tag:Nat)(w:World)(I:ze1 f q Ψ s.n)(hL:Holds w.heap.size (OwnOf [zh r s i]) [zh r s i] w)(X:BsF w (OwnOf [zh r s i]) s)(Z:i<=s.n)(hb:s.n<1000000000)(ht:tag<256):
  Sy.Fn Tryz.prog 301 [.pointer (some ⟨r,0,none⟩),.int .u8 (tag:Int),.func (.func f) #[] #[]] w (OwnOf [zh r s i]) (ReadR r s i tag q Ψ):=by
 refine zaT Tryz.func301 rfl Tryz.ntmps301 q_p hL ?_;have H:=λm (F:Keep (OwnOf [zh r s i]) w m) (S:∀b,OwnOf [zh r s i] b->w.heap.size<=b\/OwnOf [zh r s i] b) (O:Holds m.heap.size (OwnOf [zh r s i]) [zh r s i] m)=>zhf r s i tag m O (X.to F S) Z hb ht;unfold zhV at H;repeat' (first|refine s_0 ?_|refine zL [0,1] ?_;refine zf ?_|refine q_k 2 ?_;refine zaH ?_;refine zf ?_;refine zl ?_;refine zI ?_;refine zf ?_|refine q_k 4 ?_;refine zl ?_;refine zf ?_)
 repeat' (first|refine s_0 ?_|refine q_k 5 ?_;(refine q_s (zaY (f:=266) (C:=[zh r s i]) (Eo (by exact Ej) rfl Er) (hc:=λm F S O=>H m F S O)) ?_;rintro _ _ ⟨R,rfl,(⟨c,W,E,k,j,A,hc,G,Q,J,rfl,rfl⟩|⟨j,e,he,rfl,rfl⟩)⟩);refine zf ?_|(refine zx ?_;first|refine zo ?_|refine zC ?_|refine zw ?_|fail)|fail)
 rotate_left
 ·have g:decide (e≠0)=true:=decide_eq_true he;repeat' (first|refine s_0 ?_|refine q_k 6 ?_;refine q_v (zV (hr:=g)) ?_|refine q_k 7 ?_)
  exact zT rfl (zj rfl) (zj rfl) Ep (.inr ⟨zkp j,e,_,he,rfl,rfl⟩)
 have Y:=λm (F:Keep (OwnOf [zh r s i]) w m)=>I E m ((A _ _ X).no F) G;have V:E.val= .slice E.a E.n E.c:=rfl;rw[V] at Y ⊢;repeat' (first|refine s_0 ?_|refine q_k 6 ?_;refine q_v (zV (hr:=rfl)) ?_|refine q_k 8 ?_;(refine q_s (zn (f:=f) (he:=K) (hc:=zr Y)) ?_;rintro _ _ ⟨R,rfl,u,b,rfl,B,T,U⟩);refine zf ?_)
 rw[hc] at B;cases b with
 |true=>
  have hp:=T rfl;repeat' (first|refine s_0 ?_|refine q_k 9 ?_;refine zI ?_|refine q_k 12 ?_)
  exact zT rfl (zj rfl) (zj rfl) (by exact⟨[],(Ac (l₁:=R) (l₂:=[zh r s k])).trans q_p⟩) (.inl ⟨c,W,E,k,u,R,j,B.symm,A,hc,G,Q,J,hp,rfl,rfl⟩)
 |false=>
  obtain rfl:=U rfl;repeat' (first|refine s_0 ?_|refine q_k 9 ?_;refine zI ?_|refine q_k 10 ?_;refine q_n (zaK (v:=.int .i64 (i:Int)) (hC:=⟨A6 rfl,rfl⟩)) ?_|refine q_k 11 ?_)
  exact zT rfl (zj rfl) (zj rfl) Ep (.inr ⟨zh4 j B.symm,6,_,by decide,rfl,rfl⟩)
end Go.Proofs.YtdnlngbjpdbffaaGreatDoor
namespace Go.Ct
open Go Go.Sy
theorem zlV(l:List UInt8)(i:Nat)(j:i<l.length):zaZ (l.take (i+1))=zaZ (l.take i)*256+l[i].toNat:=by
 rw[zaI j];unfold zaZ;rw[Dy];rfl
end Go.Ct
namespace Go.Proofs.YtdnlngbjpdbffaaGreatDoor
open Go Go.Sy Go.Ct Go.RowKit
attribute [local irreducible] Sy SyL SyX SyC SyF Sy.Fn Sy.FnP callFunc
theorem zmA(s:Bs)(w:World):Sy.Fn Tryz.prog 173 [s.val] w No (λv R=>∃b,v= .pointer (some ⟨b,0,none⟩)/\R= [zh b s 0]):=by
 refine zz Tryz.func173 Tryz.ntmps173 ?_;obtain⟨a,n,c,l⟩:=s;show Sy _ _ _ _ _ _ _ _ (zd8 0 [.slice a n c]) _;repeat' (first|refine s_0 ?_|refine q_k 0 ?_|refine q_k 1 ?_;refine za4 ?_;refine za4 ?_;refine z9 ?_;intro _)
 exact zaq rfl (zj rfl) Ep ⟨_,rfl,rfl⟩
theorem zil(m:Nat):ze1 238 (λ_=>true) (λs v R=>∃b,v= .pointer (some ⟨b,0,none⟩)/\R= [zh b s 0]) m:=by
 intro s w F E;refine zz Tryz.func238 Tryz.ntmps238 ?_;have q:=λj=>zmA s j;have r:s.val= .slice s.a s.n s.c:=rfl;rw[r] at q ⊢;repeat' (first|refine s_0 ?_|refine q_k 0 ?_|refine q_k 1 ?_;(refine q_s (zn (hc:=λj X B A=>q j)) ?_;rintro _ _ ⟨R,rfl,b,rfl,rfl⟩);refine zf ?_)
 exact zT rfl (zj rfl) (zj rfl) Ep ⟨_,true,rfl,rfl,λ_=>⟨b,rfl,rfl⟩,λh=>by cases h⟩
theorem zpY(m:Nat):ze1 302 (λ_=>true) (λs v R=>v=zW s.l/\R= []) m:=by
 intro s w q A;refine zz Tryz.func302 Tryz.ntmps302 ?_;have r:s.val= .slice s.a s.n s.c:=rfl;rw[r];have j:=q.sla;have hn:=q.len;repeat' (first|refine s_0 ?_|refine q_k 0 ?_|refine q_k 1 ?_;refine q_x (zcE (l:=s.l) (hr:=F4 j (λ_ _ h=>h)) (hn:=hn)) ?_)
 exact zT rfl (zj rfl) (zj rfl) Ep ⟨_,true,rfl,rfl,λ_=>⟨rfl,rfl⟩,λh=>by cases h⟩
theorem zoC(s:Bs)(w:World)(B:s.ok w)(hb:s.n<=7):q_G 265 [s.val] w (.int .i64 ((zaZ s.l:Nat):Int)):=by
 refine zz Tryz.func265 Tryz.ntmps265 ?_;obtain⟨a,n,c,l⟩:=s;have R:l.length=n:=B.len;have K:n<=c:=B.cap;have E:SlA w a (l.map v8):=B.sla;show Sy _ _ _ _ _ _ _ _ (zd8 0 [.slice a n c]) _;dsimp only at hb ⊢;have I:∀i,i<7->zaZ (l.take i)<281474976710656:=λi O=>by
  have G:=ziU (l.take i);have H:(l.take i).length<=6:=by rw[List.length_take];omega
  have Q:=AR (show 0<256 by decide) H;omega
 repeat' (first|refine s_t ?_|refine zL [0,1] ?_;refine zf ?_)
 refine zX (γ:=Nat) (λi=>[(7,.int .i64 (i:Int)),(6,.int .i64 (n:Int)),(5,.slice a n c),(2,.int .i64 ((zaZ (l.take i):Nat):Int))]) (λ_=>[]) (λi=>i<=n) (λi=>n-i) 0 (AE _) ?_ ?_ ?_
 ·exact q_h
 ·exact q_h
 intro i O;by_cases hlt:i<n
 ·have g8:decide ((i:Int)<(n:Int))=true:=q_d;obtain⟨b,o,rfl,m⟩:=zdb E (i:=i) (by rw[A1];omega);have r:w.cell? ⟨b,o+i,none⟩=some (.int .u8 ((l[i]'q_o).toNat:Int)):=m i _ (zdw v8 q_o);have G:=I i q_o;have F:=zlV l i q_o;have J:=(l[i]'q_o).toNat_lt;generalize (l[i]'q_o).toNat=x at*;have g9:=zux ((zaZ (l.take i):Nat):Int) .u64 q_o q_o;have q:=znz ((zaZ (l.take i):Nat):Int) x q_o q_o q_o;have A:IntKind.i64.wrap ((i:Int)+1)=((i+1:Nat):Int):=q_w;rw[show((zaZ (l.take i):Nat):Int)*256+(x:Int)=((zaZ (l.take (i+1)):Nat):Int) by rw[F];omega] at q;repeat' (first|refine s_t ?_|refine ze 2 ?_;refine q_v (zm (hr:=g8)) ?_|refine ze 3 ?_;refine q_v (zG (j:=i)) ?_;refine q_x (zp (hv:=r)) ?_|refine q_k 4 ?_;refine q_x (zfz (hr:=g9)) ?_;refine zbf ?_;refine q_x (zkx (hr:=q)) ?_|refine ze 5 ?_;refine q_x (zN (hr:=A)) ?_)
  refine zQ (i+1) hlt ?_ ?_ ?_
  ·show n-(i+1)<n-i;omega
  ·exact q_h
  ·exact q_h
 obtain rfl:i=n:=q_o;have g8:decide ((i:Int)<(i:Int))=false:=q_f;rw[A9 q_o];repeat' (first|refine s_0 ?_|refine ze 2 ?_;refine q_v (zm (hr:=g8)) ?_|refine q_k 6 ?_)
 exact q_r
theorem ztS(m:Nat):ze1 264 (λl=>(rdT l).isSome) (λs v R=>∃t,rdT s.l=some t/\v= .int .i64 t/\R= []) m:=by
 intro s w A G;refine zz Tryz.func264 Tryz.ntmps264 ?_;have E:=A.len;have hu:=λj (q:Keep No w j) (h:s.n<=7)=>zoC s j (A.keep q) h;have F:s.val= .slice s.a s.n s.c:=rfl;rw[F] at hu ⊢;by_cases h6:s.n=6
 ·have g1:decide ((s.n:Int)≠6)=false:=q_f;have r:=λj q=>hu j q q_o;obtain⟨y,g2⟩:∃y,decide (((zaZ s.l:Nat):Int)<=1099511627776)=y:=⟨_,rfl⟩;have hr:rdT s.l=if y then some ((zaZ s.l:Nat):Int) else none:=by
   unfold rdT;rw[E,h6,<-g2];by_cases h:zaZ s.l<=1099511627776
   ·rw[if_pos ⟨rfl,h⟩,decide_eq_true q_o,if_pos rfl]
   ·rw[if_neg (λB=>h B.2),decide_eq_false q_o,if_neg q_e]
  generalize zaZ s.l=V at*;repeat' (first|refine s_0 ?_|refine q_k 0 ?_|refine q_k 1 ?_;refine q_v (zV (hr:=g1)) ?_|refine q_k 3 ?_;refine q_v (za (hc:=zr r)) ?_;refine zf ?_|refine q_k 4 ?_;refine q_x (zaP (hr:=g2)) ?_)
  refine zT rfl (zj rfl) (zj rfl) Ep ⟨_,y,rfl,?_,λh=>⟨_,?_,rfl,rfl⟩,λ_=>rfl⟩
  ·show y=(rdT s.l).isSome;rw[hr];cases y <;> rfl
  ·rw[hr,h];rfl
 ·have g1:decide ((s.n:Int)≠6)=true:=q_d;have hr:rdT s.l=none:=by unfold rdT;rw[if_neg (λh=>h6 q_o)]
  repeat' (first|refine s_0 ?_|refine zL [0,2] ?_;refine zf ?_|refine q_k 1 ?_;refine q_v (zV (hr:=g1)) ?_)
  exact zT rfl (zj rfl) (zj rfl) Ep ⟨_,false,rfl,by show false=(rdT s.l).isSome;rw[hr];rfl,λh=>(by cases h),λ_=>rfl⟩
theorem zug(m:Nat):ze1 206 (λl=>(Ct.rdB l).isSome) (λs v R=>∃t,Ct.rdB s.l=some t/\v= .bool t/\R= []) m:=by
 intro s w B S;refine zz Tryz.func206 Tryz.ntmps206 ?_;obtain⟨a,n,c,l⟩:=s;have A:l.length=n:=B.len;have J:n<=c:=B.cap;have E:SlA w a (l.map v8):=B.sla;show Sy _ _ _ _ _ _ _ _ (zd8 0 [.slice a n c]) _;by_cases h1:¬n=1
 ·have hr:Ct.rdB l=none:=by
   match l,A with
   | [],_=>rfl
   | [_],A=>exact(h1 (by simp at A;omega)).elim
   |_::_::_,_=>rfl
  have g1:decide ((n:Int)≠1)=true:=q_d;repeat' (first|refine s_0 ?_|refine zL [0,2] ?_;refine zf ?_|refine q_k 1 ?_;refine q_v (zV (hr:=g1)) ?_)
  exact zT rfl (zj rfl) (zj rfl) Ep ⟨_,false,rfl,by show false=(Ct.rdB l).isSome;rw[hr];rfl,λh=>(by cases h),λ_=>rfl⟩
 obtain rfl:n=1:=DO.1 h1;obtain⟨x,rfl⟩:∃x,l= [x]:=List.length_eq_one_iff.1 A;have g1:decide (((1:Nat):Int)≠1)=false:=rfl;obtain⟨b,o,rfl,r⟩:=zdb E (i:=0) q_p;have q:w.cell? ⟨b,o+0,none⟩=some (.int .u8 (x.toNat:Int)):=r 0 _ rfl;have K:=x.toNat_lt;have hr:Ct.rdB [x]=if x.toNat=255 then some true else if x.toNat=0 then some false else none:=by
  show(if x=255 then some true else if x=0 then some false else none)=_;have H:x=255↔x.toNat=255:=⟨λh=>by rw[h];rfl,λh=>CB.1 h⟩;have I:x=0↔x.toNat=0:=⟨λh=>by rw[h];rfl,λh=>CB.1 h⟩;simp only[H,I]
 generalize x.toNat=X at*;obtain⟨O,g2⟩:∃y,decide ((X:Int)=255)=y:=⟨_,rfl⟩;obtain⟨Q,g3⟩:∃y,decide ((X:Int)=0)=y:=⟨_,rfl⟩;cases O
 ·have F:X≠255:=λh=>of_decide_eq_false g2 q_o;rw[if_neg F] at hr;cases Q
  ·have G:X≠0:=λh=>of_decide_eq_false g3 q_o;rw[if_neg G] at hr;repeat' (first|refine s_0 ?_|refine q_k 0 ?_|refine q_k 1 ?_;refine q_v (zV (hr:=g1)) ?_|refine zal (id:=3) 15 [[],[0],[0,1],[0,1,2],[],[4],[4,5],[4,5,6],[4,5,6,7],[4,5,6,7,8],[4,5,6,7,8,9],[4,5,6,7,8,9,10],[4,5,6,7,8,9,10,11],[4,5,6,7,8,9,10,11,12],[0,1,2,3,4,5,6,7,8],[0,1,2,3,4,5,6,7,8,9,10,11,12,13,14]] mixed ?_ ?_;kernel_rfl;refine zO ?_;refine q_D (zG (j:=0)) ?_;refine q_D (zp (hv:=q)) ?_;refine q_D (zY (hr:=g2)) ?_;refine zO ?_;refine q_D (zG (j:=0)) ?_;refine q_D (zp (hv:=q)) ?_;refine q_D (zY (hr:=g2)) ?_;refine zO ?_;refine zO ?_;refine q_D (zG (j:=0)) ?_;refine q_D (zp (hv:=q)) ?_;refine q_D (zY (hr:=g3)) ?_;refine q_D zf3 ?_;refine q_D zbl ?_;refine zaG ?_;refine zo ?_|fail)
   exact zT rfl (zj rfl) (zj rfl) Ep ⟨_,false,rfl,by show false=(Ct.rdB [x]).isSome;rw[hr];rfl,λh=>(by cases h),λ_=>rfl⟩
  ·have G:X=0:=by have:=of_decide_eq_true g3;omega
   rw[if_pos G] at hr;repeat' (first|refine s_0 ?_|refine q_k 0 ?_|refine q_k 1 ?_;refine q_v (zV (hr:=g1)) ?_|refine zal (id:=3) 15 [[],[0],[0,1],[0,1,2],[],[4],[4,5],[4,5,6],[4,5,6,7],[4,5,6,7,8],[4,5,6,7,8,9],[4,5,6,7,8,9,10],[4,5,6,7,8,9,10,11],[4,5,6,7,8,9,10,11,12],[0,1,2,3,4,5,6,7,8],[0,1,2,3,4,5,6,7,8,9,10,11,12,13,14]] mixed ?_ ?_;kernel_rfl;refine zO ?_;refine q_D (zG (j:=0)) ?_;refine q_D (zp (hv:=q)) ?_;refine q_D (zY (hr:=g2)) ?_;refine zO ?_;refine q_D (zG (j:=0)) ?_;refine q_D (zp (hv:=q)) ?_;refine q_D (zY (hr:=g2)) ?_;refine zO ?_;refine zO ?_;refine q_D (zG (j:=0)) ?_;refine q_D (zp (hv:=q)) ?_;refine q_D (zY (hr:=g3)) ?_;refine q_D zf3 ?_;refine q_D zbl ?_;refine zaG ?_;refine zo ?_|fail)
   exact zT rfl (zj rfl) (zj rfl) Ep ⟨_,true,rfl,by show true=(Ct.rdB [x]).isSome;rw[hr];rfl,λ_=>⟨false,hr,rfl,rfl⟩,λh=>(by cases h)⟩
 ·have F:X=255:=by have:=of_decide_eq_true g2;omega
  rw[if_pos F] at hr;repeat' (first|refine s_0 ?_|refine q_k 0 ?_|refine q_k 1 ?_;refine q_v (zV (hr:=g1)) ?_|refine zal (id:=3) 15 [[],[0],[0,1],[0,1,2],[],[4],[4,5],[4,5,6],[4,5,6,7],[4,5,6,7,8],[4,5,6,7,8,9],[4,5,6,7,8,9,10],[4,5,6,7,8,9,10,11],[4,5,6,7,8,9,10,11,12],[0,1,2,3,4,5,6,7,8],[0,1,2,3,4,5,6,7,8,9,10,11,12,13,14]] mixed ?_ ?_;kernel_rfl;refine zO ?_;refine q_D (zG (j:=0)) ?_;refine q_D (zp (hv:=q)) ?_;refine q_D (zY (hr:=g2)) ?_;refine zO ?_;refine q_D (zG (j:=0)) ?_;refine q_D (zp (hv:=q)) ?_;refine q_D (zY (hr:=g2)) ?_;refine zO ?_;refine zeF (λ_=>rfl) rfl ?_;refine zeF (λ_=>rfl) rfl ?_;refine zeF (λ_=>rfl) rfl ?_;refine zeF (λ_=>rfl) rfl ?_;refine q_D zf3 ?_;refine q_D zbl ?_;refine zaG ?_;refine zo ?_|fail)
  exact zT rfl (zj rfl) (zj rfl) Ep ⟨_,true,rfl,by show true=(Ct.rdB [x]).isSome;rw[hr];rfl,λ_=>⟨true,hr,rfl,rfl⟩,λh=>(by cases h)⟩
end Go.Proofs.YtdnlngbjpdbffaaGreatDoor
