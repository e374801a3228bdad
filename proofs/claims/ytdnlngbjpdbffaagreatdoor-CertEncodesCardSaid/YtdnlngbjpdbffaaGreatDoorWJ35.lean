/- Lemmas of this proof. -/
import Derived.Test.YtdnlngbjpdbffaaGreatDoorWJ34
set_option maxRecDepth 10000
set_option linter.all false
namespace Go.Proofs.YtdnlngbjpdbffaaGreatDoor
open Go Go.Sy Go.Ct Go.RowKit
attribute [local irreducible] Sy SyL SyX SyC SyF Sy.Fn Sy.FnP callFunc
def ReadR(r:Nat)(s:Bs)(i tag:Nat)(good:List UInt8->Bool)(Ψ:Bs->Value->List Res->Prop)(v:Value)(R:List Res):Prop:=
 (∃c rst s' k u R',za0 tag (s.l.drop i)=some (c,rst)/\good c=true/\Bsub s s'/\s'.l=c/\s'.n<=s.n/\k<=s.n/\s.l.drop k=rst/\Ψ s' u R'/\v= .tuple #[u,.int .i64 0]/\R=zk r s k::R')\/
 ((∀c rst,za0 tag (s.l.drop i)=some (c,rst)->good c=false)/\∃(e:Int) (u:Value),e≠0/\v= .tuple #[u,.int .i64 e]/\R= [zk r s i])
def zfk(f:Nat)(good:List UInt8->Bool)(Ψ:Bs->Value->List Res->Prop)(m:Nat):Prop:=
 ∀(s':Bs) (w':World),s'.ok w'->s'.n<=m->Sy.Fn Tryz.prog f [s'.val] w' No (λv R=>∃u b,v= .tuple #[u,.bool b]/\b=good s'.l/\(b=true->Ψ s' u R)/\(b=false->R= []))
theorem zkG{tag:Nat}{l:List UInt8}{j:List UInt8->Bool}(h:za0 tag l=none):∀c m,za0 tag l=some (c,m)->j c=false:=λc m q=>by rw[h] at q;cases q
theorem zje{tag:Nat}{l c m:List UInt8}{j:List UInt8->Bool}(h:za0 tag l=some (c,m))(w:j c=false):∀c m,za0 tag l=some (c,m)->j c=false:=λA r q=>by rw[h] at q;cases q;exact w
theorem znN(f:Nat)(q:List UInt8->Bool)(Ψ:Bs->Value->List Res->Prop)(K:∀args w,(callFunc f args).run Tryz.prog w= .ok (.enter f args) w)
  (r:Nat)(s:Bs)(i tag:Nat)(w:World)(I:zfk f q Ψ s.n)(hL:Holds w.heap.size (OwnOf [zk r s i]) [zk r s i] w)(T:BsF w (OwnOf [zk r s i]) s)(V:i<=s.n)(hb:s.n<1000000000)(X:tag<256):
  Sy.Fn Tryz.prog 237 [.pointer (some ⟨r,0,none⟩),.int .u8 (tag:Int),.func (.func f) #[] #[]] w (OwnOf [zk r s i]) (ReadR r s i tag q Ψ):=by
 refine zaW Tryz.func237 rfl Tryz.ntmps237 q_p hL ?_;have H:=λm (F:Keep (OwnOf [zk r s i]) w m) (N:∀b,OwnOf [zk r s i] b->w.heap.size<=b\/OwnOf [zk r s i] b) (L:Holds m.heap.size (OwnOf [zk r s i]) [zk r s i] m)=>zhF r s i tag m L (T.to F N) V hb X;unfold zir at H;repeat' (first|refine s_0 ?_|refine zD [0,1] ?_;refine zb ?_|refine q_k 2 ?_;refine zaD ?_;refine zb ?_;refine zm ?_;refine zJ ?_;refine zb ?_|refine q_k 4 ?_;refine zm ?_;refine zb ?_)
 repeat' (first|refine s_0 ?_|refine q_k 5 ?_;(refine q_s (zaZ (f:=266) (C:=[zk r s i]) (Ew (by exact Es) rfl Ez) (hc:=λm F N L=>H m F N L)) ?_;rintro _ _ ⟨R,rfl,(⟨c,S,E,k,j,A,hc,G,M,J,rfl,rfl⟩|⟨j,e,he,rfl,rfl⟩)⟩);refine zb ?_|(refine zy ?_;first|refine zw ?_|refine zY ?_|refine zaR ?_|fail)|fail)
 rotate_left
 ·have g:decide (e≠0)=true:=decide_eq_true he;repeat' (first|refine s_0 ?_|refine q_k 6 ?_;refine q_v (zaf (hr:=g)) ?_|refine q_k 7 ?_)
  exact zU rfl (zh rfl) (zh rfl) Ex (.inr ⟨zkG j,e,_,he,rfl,rfl⟩)
 have U:=λm (F:Keep (OwnOf [zk r s i]) w m)=>I E m ((A _ _ T).no F) G;have Q:E.val= .slice E.a E.n E.c:=rfl;rw[Q] at U ⊢;repeat' (first|refine s_0 ?_|refine q_k 6 ?_;refine q_v (zaf (hr:=rfl)) ?_|refine q_k 8 ?_;(refine q_s (zi (f:=f) (he:=K) (hc:=zu U)) ?_;rintro _ _ ⟨R,rfl,u,b,rfl,B,O,P⟩);refine zb ?_)
 rw[hc] at B;cases b with
 |true=>
  have W:=O rfl;repeat' (first|refine s_0 ?_|refine q_k 9 ?_;refine zJ ?_|refine q_k 12 ?_)
  exact zU rfl (zh rfl) (zh rfl) (by exact⟨[],(Ax (l₁:=R) (l₂:=[zk r s k])).trans q_p⟩) (.inl ⟨c,S,E,k,u,R,j,B.symm,A,hc,G,M,J,W,rfl,rfl⟩)
 |false=>
  obtain rfl:=P rfl;repeat' (first|refine s_0 ?_|refine q_k 9 ?_;refine zJ ?_|refine q_k 10 ?_;refine q_n (zaM (v:=.int .i64 (i:Int)) (hC:=⟨A5 rfl,rfl⟩)) ?_|refine q_k 11 ?_)
  exact zU rfl (zh rfl) (zh rfl) Ex (.inr ⟨zje j B.symm,6,_,by decide,rfl,rfl⟩)
theorem zoD(f:Nat)(q:List UInt8->Bool)(Ψ:Bs->Value->List Res->Prop)(K:∀args w,(callFunc f args).run Tryz.prog w= .ok (.enter f args) w)
  (r:Nat)(s:Bs)(i tag:Nat)(w:World)(I:zfk f q Ψ s.n)(hL:Holds w.heap.size (OwnOf [zk r s i]) [zk r s i] w)(T:BsF w (OwnOf [zk r s i]) s)(V:i<=s.n)(hb:s.n<1000000000)(X:tag<256):
  Sy.Fn Tryz.prog 255 [.pointer (some ⟨r,0,none⟩),.int .u8 (tag:Int),.func (.func f) #[] #[]] w (OwnOf [zk r s i]) (ReadR r s i tag q Ψ):=by
 refine zaW Tryz.func255 rfl Tryz.ntmps255 q_p hL ?_;have H:=λm (F:Keep (OwnOf [zk r s i]) w m) (N:∀b,OwnOf [zk r s i] b->w.heap.size<=b\/OwnOf [zk r s i] b) (L:Holds m.heap.size (OwnOf [zk r s i]) [zk r s i] m)=>zhF r s i tag m L (T.to F N) V hb X;unfold zir at H;repeat' (first|refine s_0 ?_|refine zD [0,1] ?_;refine zb ?_|refine q_k 2 ?_;refine zaD ?_;refine zb ?_;refine zm ?_;refine zJ ?_;refine zb ?_|refine q_k 4 ?_;refine zm ?_;refine zb ?_)
 repeat' (first|refine s_0 ?_|refine q_k 5 ?_;(refine q_s (zaZ (f:=266) (C:=[zk r s i]) (Ew (by exact Es) rfl Ez) (hc:=λm F N L=>H m F N L)) ?_;rintro _ _ ⟨R,rfl,(⟨c,S,E,k,j,A,hc,G,M,J,rfl,rfl⟩|⟨j,e,he,rfl,rfl⟩)⟩);refine zb ?_|(refine zy ?_;first|refine zw ?_|refine zY ?_|refine zaR ?_|fail)|fail)
 rotate_left
 ·have g:decide (e≠0)=true:=decide_eq_true he;repeat' (first|refine s_0 ?_|refine q_k 6 ?_;refine q_v (zaf (hr:=g)) ?_|refine q_k 7 ?_)
  exact zU rfl (zh rfl) (zh rfl) Ex (.inr ⟨zkG j,e,_,he,rfl,rfl⟩)
 have U:=λm (F:Keep (OwnOf [zk r s i]) w m)=>I E m ((A _ _ T).no F) G;have Q:E.val= .slice E.a E.n E.c:=rfl;rw[Q] at U ⊢;repeat' (first|refine s_0 ?_|refine q_k 6 ?_;refine q_v (zaf (hr:=rfl)) ?_|refine q_k 8 ?_;(refine q_s (zi (f:=f) (he:=K) (hc:=zu U)) ?_;rintro _ _ ⟨R,rfl,u,b,rfl,B,O,P⟩);refine zb ?_)
 rw[hc] at B;cases b with
 |true=>
  have W:=O rfl;repeat' (first|refine s_0 ?_|refine q_k 9 ?_;refine zJ ?_|refine q_k 12 ?_)
  exact zU rfl (zh rfl) (zh rfl) (by exact⟨[],(Ax (l₁:=R) (l₂:=[zk r s k])).trans q_p⟩) (.inl ⟨c,S,E,k,u,R,j,B.symm,A,hc,G,M,J,W,rfl,rfl⟩)
 |false=>
  obtain rfl:=P rfl;repeat' (first|refine s_0 ?_|refine q_k 9 ?_;refine zJ ?_|refine q_k 10 ?_;refine q_n (zaM (v:=.int .i64 (i:Int)) (hC:=⟨A5 rfl,rfl⟩)) ?_|refine q_k 11 ?_)
  exact zU rfl (zh rfl) (zh rfl) Ex (.inr ⟨zje j B.symm,6,_,by decide,rfl,rfl⟩)
theorem zvm(f:Nat)(q:List UInt8->Bool)(Ψ:Bs->Value->List Res->Prop)(K:∀args w,(callFunc f args).run Tryz.prog w= .ok (.enter f args) w)
  (r:Nat)(s:Bs)(i tag:Nat)(w:World)(I:zfk f q Ψ s.n)(hL:Holds w.heap.size (OwnOf [zk r s i]) [zk r s i] w)(T:BsF w (OwnOf [zk r s i]) s)(V:i<=s.n)(hb:s.n<1000000000)(X:tag<256):
  Sy.Fn Tryz.prog 205 [.pointer (some ⟨r,0,none⟩),.int .u8 (tag:Int),.func (.func f) #[] #[]] w (OwnOf [zk r s i]) (ReadR r s i tag q Ψ):=by
 refine zaW Tryz.func205 rfl Tryz.ntmps205 q_p hL ?_;have H:=λm (F:Keep (OwnOf [zk r s i]) w m) (N:∀b,OwnOf [zk r s i] b->w.heap.size<=b\/OwnOf [zk r s i] b) (L:Holds m.heap.size (OwnOf [zk r s i]) [zk r s i] m)=>zhF r s i tag m L (T.to F N) V hb X;unfold zir at H;repeat' (first|refine s_0 ?_|refine zD [0,1] ?_;refine zb ?_|refine q_k 2 ?_;refine zaD ?_;refine zb ?_;refine zm ?_;refine zJ ?_;refine zb ?_|refine q_k 4 ?_;refine zm ?_;refine zb ?_)
 repeat' (first|refine s_0 ?_|refine q_k 5 ?_;(refine q_s (zaZ (f:=266) (C:=[zk r s i]) (Ew (by exact Es) rfl Ez) (hc:=λm F N L=>H m F N L)) ?_;rintro _ _ ⟨R,rfl,(⟨c,S,E,k,j,A,hc,G,M,J,rfl,rfl⟩|⟨j,e,he,rfl,rfl⟩)⟩);refine zb ?_|(refine zy ?_;first|refine zw ?_|refine zY ?_|refine zaR ?_|fail)|fail)
 rotate_left
 ·have g:decide (e≠0)=true:=decide_eq_true he;repeat' (first|refine s_0 ?_|refine q_k 6 ?_;refine q_v (zaf (hr:=g)) ?_|refine q_k 7 ?_)
  exact zU rfl (zh rfl) (zh rfl) Ex (.inr ⟨zkG j,e,_,he,rfl,rfl⟩)
 have U:=λm (F:Keep (OwnOf [zk r s i]) w m)=>I E m ((A _ _ T).no F) G;have Q:E.val= .slice E.a E.n E.c:=rfl;rw[Q] at U ⊢;repeat' (first|refine s_0 ?_|refine q_k 6 ?_;refine q_v (zaf (hr:=rfl)) ?_|refine q_k 8 ?_;(refine q_s (zi (f:=f) (he:=K) (hc:=zu U)) ?_;rintro _ _ ⟨R,rfl,u,b,rfl,B,O,P⟩);refine zb ?_)
 rw[hc] at B;cases b with
 |true=>
  have W:=O rfl;repeat' (first|refine s_0 ?_|refine q_k 9 ?_;refine zJ ?_|refine q_k 12 ?_)
  exact zU rfl (zh rfl) (zh rfl) (by exact⟨[],(Ax (l₁:=R) (l₂:=[zk r s k])).trans q_p⟩) (.inl ⟨c,S,E,k,u,R,j,B.symm,A,hc,G,M,J,W,rfl,rfl⟩)
 |false=>
  obtain rfl:=P rfl;repeat' (first|refine s_0 ?_|refine q_k 9 ?_;refine zJ ?_|refine q_k 10 ?_;refine q_n (zaM (v:=.int .i64 (i:Int)) (hC:=⟨A5 rfl,rfl⟩)) ?_|refine q_k 11 ?_)
  exact zU rfl (zh rfl) (zh rfl) Ex (.inr ⟨zje j B.symm,6,_,by decide,rfl,rfl⟩)
theorem zt2(f:Nat)(q:List UInt8->Bool)(Ψ:Bs->Value->List Res->Prop)(K:∀args w,(callFunc f args).run Tryz.prog w= .ok (.enter f args) w)
  (r:Nat)(s:Bs)(i tag:Nat)(w:World)(I:zfk f q Ψ s.n)(hL:Holds w.heap.size (OwnOf [zk r s i]) [zk r s i] w)(T:BsF w (OwnOf [zk r s i]) s)(V:i<=s.n)(hb:s.n<1000000000)(X:tag<256):
  Sy.Fn Tryz.prog 267 [.pointer (some ⟨r,0,none⟩),.int .u8 (tag:Int),.func (.func f) #[] #[]] w (OwnOf [zk r s i]) (ReadR r s i tag q Ψ):=by
 refine zaW Tryz.func267 rfl Tryz.ntmps267 q_p hL ?_;have H:=λm (F:Keep (OwnOf [zk r s i]) w m) (N:∀b,OwnOf [zk r s i] b->w.heap.size<=b\/OwnOf [zk r s i] b) (L:Holds m.heap.size (OwnOf [zk r s i]) [zk r s i] m)=>zhF r s i tag m L (T.to F N) V hb X;unfold zir at H;repeat' (first|refine s_0 ?_|refine zD [0,1] ?_;refine zb ?_|refine q_k 2 ?_;refine zaD ?_;refine zb ?_;refine zm ?_;refine zJ ?_;refine zb ?_|refine q_k 4 ?_;refine zm ?_;refine zb ?_)
 repeat' (first|refine s_0 ?_|refine q_k 5 ?_;(refine q_s (zaZ (f:=266) (C:=[zk r s i]) (Ew (by exact Es) rfl Ez) (hc:=λm F N L=>H m F N L)) ?_;rintro _ _ ⟨R,rfl,(⟨c,S,E,k,j,A,hc,G,M,J,rfl,rfl⟩|⟨j,e,he,rfl,rfl⟩)⟩);refine zb ?_|(refine zy ?_;first|refine zw ?_|refine zY ?_|refine zaR ?_|fail)|fail)
 rotate_left
 ·have g:decide (e≠0)=true:=decide_eq_true he;repeat' (first|refine s_0 ?_|refine q_k 6 ?_;refine q_v (zaf (hr:=g)) ?_|refine q_k 7 ?_)
  exact zU rfl (zh rfl) (zh rfl) Ex (.inr ⟨zkG j,e,_,he,rfl,rfl⟩)
 have U:=λm (F:Keep (OwnOf [zk r s i]) w m)=>I E m ((A _ _ T).no F) G;have Q:E.val= .slice E.a E.n E.c:=rfl;rw[Q] at U ⊢;repeat' (first|refine s_0 ?_|refine q_k 6 ?_;refine q_v (zaf (hr:=rfl)) ?_|refine q_k 8 ?_;(refine q_s (zi (f:=f) (he:=K) (hc:=zu U)) ?_;rintro _ _ ⟨R,rfl,u,b,rfl,B,O,P⟩);refine zb ?_)
 rw[hc] at B;cases b with
 |true=>
  have W:=O rfl;repeat' (first|refine s_0 ?_|refine q_k 9 ?_;refine zJ ?_|refine q_k 12 ?_)
  exact zU rfl (zh rfl) (zh rfl) (by exact⟨[],(Ax (l₁:=R) (l₂:=[zk r s k])).trans q_p⟩) (.inl ⟨c,S,E,k,u,R,j,B.symm,A,hc,G,M,J,W,rfl,rfl⟩)
 |false=>
  obtain rfl:=P rfl;repeat' (first|refine s_0 ?_|refine q_k 9 ?_;refine zJ ?_|refine q_k 10 ?_;refine q_n (zaM (v:=.int .i64 (i:Int)) (hC:=⟨A5 rfl,rfl⟩)) ?_|refine q_k 11 ?_)
  exact zU rfl (zh rfl) (zh rfl) Ex (.inr ⟨zje j B.symm,6,_,by decide,rfl,rfl⟩)
theorem zvs(f:Nat)(q:List UInt8->Bool)(Ψ:Bs->Value->List Res->Prop)(K:∀args w,(callFunc f args).run Tryz.prog w= .ok (.enter f args) w)
  (r:Nat)(s:Bs)(i tag:Nat)(w:World)(I:zfk f q Ψ s.n)(hL:Holds w.heap.size (OwnOf [zk r s i]) [zk r s i] w)(T:BsF w (OwnOf [zk r s i]) s)(V:i<=s.n)(hb:s.n<1000000000)(X:tag<256):
  Sy.Fn Tryz.prog 301 [.pointer (some ⟨r,0,none⟩),.int .u8 (tag:Int),.func (.func f) #[] #[]] w (OwnOf [zk r s i]) (ReadR r s i tag q Ψ):=by
 refine zaW Tryz.func301 rfl Tryz.ntmps301 q_p hL ?_;have H:=λm (F:Keep (OwnOf [zk r s i]) w m) (N:∀b,OwnOf [zk r s i] b->w.heap.size<=b\/OwnOf [zk r s i] b) (L:Holds m.heap.size (OwnOf [zk r s i]) [zk r s i] m)=>zhF r s i tag m L (T.to F N) V hb X;unfold zir at H;repeat' (first|refine s_0 ?_|refine zD [0,1] ?_;refine zb ?_|refine q_k 2 ?_;refine zaD ?_;refine zb ?_;refine zm ?_;refine zJ ?_;refine zb ?_|refine q_k 4 ?_;refine zm ?_;refine zb ?_)
 repeat' (first|refine s_0 ?_|refine q_k 5 ?_;(refine q_s (zaZ (f:=266) (C:=[zk r s i]) (Ew (by exact Es) rfl Ez) (hc:=λm F N L=>H m F N L)) ?_;rintro _ _ ⟨R,rfl,(⟨c,S,E,k,j,A,hc,G,M,J,rfl,rfl⟩|⟨j,e,he,rfl,rfl⟩)⟩);refine zb ?_|(refine zy ?_;first|refine zw ?_|refine zY ?_|refine zaR ?_|fail)|fail)
 rotate_left
 ·have g:decide (e≠0)=true:=decide_eq_true he;repeat' (first|refine s_0 ?_|refine q_k 6 ?_;refine q_v (zaf (hr:=g)) ?_|refine q_k 7 ?_)
  exact zU rfl (zh rfl) (zh rfl) Ex (.inr ⟨zkG j,e,_,he,rfl,rfl⟩)
 have U:=λm (F:Keep (OwnOf [zk r s i]) w m)=>I E m ((A _ _ T).no F) G;have Q:E.val= .slice E.a E.n E.c:=rfl;rw[Q] at U ⊢;repeat' (first|refine s_0 ?_|refine q_k 6 ?_;refine q_v (zaf (hr:=rfl)) ?_|refine q_k 8 ?_;(refine q_s (zi (f:=f) (he:=K) (hc:=zu U)) ?_;rintro _ _ ⟨R,rfl,u,b,rfl,B,O,P⟩);refine zb ?_)
 rw[hc] at B;cases b with
 |true=>
  have W:=O rfl;repeat' (first|refine s_0 ?_|refine q_k 9 ?_;refine zJ ?_|refine q_k 12 ?_)
  exact zU rfl (zh rfl) (zh rfl) (by exact⟨[],(Ax (l₁:=R) (l₂:=[zk r s k])).trans q_p⟩) (.inl ⟨c,S,E,k,u,R,j,B.symm,A,hc,G,M,J,W,rfl,rfl⟩)
 |false=>
  obtain rfl:=P rfl;repeat' (first|refine s_0 ?_|refine q_k 9 ?_;refine zJ ?_|refine q_k 10 ?_;refine q_n (zaM (v:=.int .i64 (i:Int)) (hC:=⟨A5 rfl,rfl⟩)) ?_|refine q_k 11 ?_)
  exact zU rfl (zh rfl) (zh rfl) Ex (.inr ⟨zje j B.symm,6,_,by decide,rfl,rfl⟩)
end Go.Proofs.YtdnlngbjpdbffaaGreatDoor
namespace Go.Ct
open Go Go.Sy
theorem zga(l:List UInt8)(i:Nat)(j:i<l.length):zau (l.take (i+1))=zau (l.take i)*256+l[i].toNat:=by
 rw[zaO j];unfold zau;rw[E4];rfl
end Go.Ct
namespace Go.Proofs.YtdnlngbjpdbffaaGreatDoor
open Go Go.Sy Go.Ct Go.RowKit
attribute [local irreducible] Sy SyL SyX SyC SyF Sy.Fn Sy.FnP callFunc
theorem zoG(s:Bs)(w:World):Sy.Fn Tryz.prog 173 [s.val] w No (λv R=>∃b,v= .pointer (some ⟨b,0,none⟩)/\R= [zk b s 0]):=by
 refine zt Tryz.func173 Tryz.ntmps173 ?_;obtain⟨a,n,c,l⟩:=s;show Sy _ _ _ _ _ _ _ _ (zd1 0 [.slice a n c]) _;repeat' (first|refine s_0 ?_|refine q_k 0 ?_|refine q_k 1 ?_;refine zbb ?_;refine zbb ?_;refine zW ?_;intro _)
 exact zap rfl (zh rfl) Ex ⟨_,rfl,rfl⟩
theorem ziZ(m:Nat):zfk 238 (λ_=>true) (λs v R=>∃b,v= .pointer (some ⟨b,0,none⟩)/\R= [zk b s 0]) m:=by
 intro s w E C;refine zt Tryz.func238 Tryz.ntmps238 ?_;have q:=λj=>zoG s j;have r:s.val= .slice s.a s.n s.c:=rfl;rw[r] at q ⊢;repeat' (first|refine s_0 ?_|refine q_k 0 ?_|refine q_k 1 ?_;(refine q_s (zi (hc:=λj X B A=>q j)) ?_;rintro _ _ ⟨R,rfl,b,rfl,rfl⟩);refine zb ?_)
 exact zU rfl (zh rfl) (zh rfl) Ex ⟨_,true,rfl,rfl,λ_=>⟨b,rfl,rfl⟩,λh=>by cases h⟩
theorem zq0(m:Nat):zfk 302 (λ_=>true) (λs v R=>v=zT s.l/\R= []) m:=by
 intro s w q A;refine zt Tryz.func302 Tryz.ntmps302 ?_;have r:s.val= .slice s.a s.n s.c:=rfl;rw[r];have j:=q.sla;have hn:=q.len;repeat' (first|refine s_0 ?_|refine q_k 0 ?_|refine q_k 1 ?_;refine q_x (zch (l:=s.l) (hr:=FM j (λ_ _ h=>h)) (hn:=hn)) ?_)
 exact zU rfl (zh rfl) (zh rfl) Ex ⟨_,true,rfl,rfl,λ_=>⟨rfl,rfl⟩,λh=>by cases h⟩
theorem zpb(s:Bs)(w:World)(B:s.ok w)(hb:s.n<=7):q_G 265 [s.val] w (.int .i64 ((zau s.l:Nat):Int)):=by
 refine zt Tryz.func265 Tryz.ntmps265 ?_;obtain⟨a,n,c,l⟩:=s;have M:l.length=n:=B.len;have J:n<=c:=B.cap;have C:SlA w a (l.map v8):=B.sla;show Sy _ _ _ _ _ _ _ _ (zd1 0 [.slice a n c]) _;dsimp only at hb ⊢;have H:∀i,i<7->zau (l.take i)<281474976710656:=λi K=>by
  have F:=zfq (l.take i);have G:(l.take i).length<=6:=by rw[List.length_take];omega
  have L:=AB (show 0<256 by decide) G;omega
 repeat' (first|refine s_t ?_|refine zD [0,1] ?_;refine zb ?_)
 refine zN (γ:=Nat) (λi=>[(7,.int .i64 (i:Int)),(6,.int .i64 (n:Int)),(5,.slice a n c),(2,.int .i64 ((zau (l.take i):Nat):Int))]) (λ_=>[]) (λi=>i<=n) (λi=>n-i) 0 (A9 _) ?_ ?_ ?_
 ·exact q_h
 ·exact q_h
 intro i K;by_cases hlt:i<n
 ·have g8:decide ((i:Int)<(n:Int))=true:=q_d;obtain⟨b,o,rfl,m⟩:=zb2 C (i:=i) (by rw[A0];omega);have r:w.cell? ⟨b,o+i,none⟩=some (.int .u8 ((l[i]'q_o).toNat:Int)):=m i _ (zcM v8 q_o);have F:=H i q_o;have E:=zga l i q_o;have I:=(l[i]'q_o).toNat_lt;generalize (l[i]'q_o).toNat=x at*;have g9:=zvI ((zau (l.take i):Nat):Int) .u64 q_o q_o;have q:=zk4 ((zau (l.take i):Nat):Int) x q_o q_o q_o;have A:IntKind.i64.wrap ((i:Int)+1)=((i+1:Nat):Int):=q_w;rw[show((zau (l.take i):Nat):Int)*256+(x:Int)=((zau (l.take (i+1)):Nat):Int) by rw[E];omega] at q;repeat' (first|refine s_t ?_|refine zf 2 ?_;refine q_v (zo (hr:=g8)) ?_|refine zf 3 ?_;refine q_v (zq (j:=i)) ?_;refine q_x (zn (hv:=r)) ?_|refine q_k 4 ?_;refine q_x (zew (hr:=g9)) ?_;refine zbd ?_;refine q_x (zjx (hr:=q)) ?_|refine zf 5 ?_;refine q_x (zF (hr:=A)) ?_)
  refine zE (i+1) hlt ?_ ?_ ?_
  ·show n-(i+1)<n-i;omega
  ·exact q_h
  ·exact q_h
 obtain rfl:i=n:=q_o;have g8:decide ((i:Int)<(i:Int))=false:=q_f;rw[A8 q_o];repeat' (first|refine s_0 ?_|refine zf 2 ?_;refine q_v (zo (hr:=g8)) ?_|refine q_k 6 ?_)
 exact q_r
theorem zvj(m:Nat):zfk 264 (λl=>(rdT l).isSome) (λs v R=>∃t,rdT s.l=some t/\v= .int .i64 t/\R= []) m:=by
 intro s w A F;refine zt Tryz.func264 Tryz.ntmps264 ?_;have C:=A.len;have hu:=λj (q:Keep No w j) (h:s.n<=7)=>zpb s j (A.keep q) h;have E:s.val= .slice s.a s.n s.c:=rfl;rw[E] at hu ⊢;by_cases h6:s.n=6
 ·have g1:decide ((s.n:Int)≠6)=false:=q_f;have r:=λj q=>hu j q q_o;obtain⟨y,g2⟩:∃y,decide (((zau s.l:Nat):Int)<=1099511627776)=y:=⟨_,rfl⟩;have hr:rdT s.l=if y then some ((zau s.l:Nat):Int) else none:=by
   unfold rdT;rw[C,h6,<-g2];by_cases h:zau s.l<=1099511627776
   ·rw[if_pos ⟨rfl,h⟩,decide_eq_true q_o,if_pos rfl]
   ·rw[if_neg (λB=>h B.2),decide_eq_false q_o,if_neg q_e]
  generalize zau s.l=V at*;repeat' (first|refine s_0 ?_|refine q_k 0 ?_|refine q_k 1 ?_;refine q_v (zaf (hr:=g1)) ?_|refine q_k 3 ?_;refine q_v (za (hc:=zu r)) ?_;refine zb ?_|refine q_k 4 ?_;refine q_x (zaF (hr:=g2)) ?_)
  refine zU rfl (zh rfl) (zh rfl) Ex ⟨_,y,rfl,?_,λh=>⟨_,?_,rfl,rfl⟩,λ_=>rfl⟩
  ·show y=(rdT s.l).isSome;rw[hr];cases y <;> rfl
  ·rw[hr,h];rfl
 ·have g1:decide ((s.n:Int)≠6)=true:=q_d;have hr:rdT s.l=none:=by unfold rdT;rw[if_neg (λh=>h6 q_o)]
  repeat' (first|refine s_0 ?_|refine zD [0,2] ?_;refine zb ?_|refine q_k 1 ?_;refine q_v (zaf (hr:=g1)) ?_)
  exact zU rfl (zh rfl) (zh rfl) Ex ⟨_,false,rfl,by show false=(rdT s.l).isSome;rw[hr];rfl,λh=>(by cases h),λ_=>rfl⟩
theorem ztV(m:Nat):zfk 206 (λl=>(Ct.rdB l).isSome) (λs v R=>∃t,Ct.rdB s.l=some t/\v= .bool t/\R= []) m:=by
 intro s w B M;refine zt Tryz.func206 Tryz.ntmps206 ?_;obtain⟨a,n,c,l⟩:=s;have A:l.length=n:=B.len;have I:n<=c:=B.cap;have C:SlA w a (l.map v8):=B.sla;show Sy _ _ _ _ _ _ _ _ (zd1 0 [.slice a n c]) _;by_cases h1:¬n=1
 ·have hr:Ct.rdB l=none:=by
   match l,A with
   | [],_=>rfl
   | [_],A=>exact(h1 (by simp at A;omega)).elim
   |_::_::_,_=>rfl
  have g1:decide ((n:Int)≠1)=true:=q_d;repeat' (first|refine s_0 ?_|refine zD [0,2] ?_;refine zb ?_|refine q_k 1 ?_;refine q_v (zaf (hr:=g1)) ?_)
  exact zU rfl (zh rfl) (zh rfl) Ex ⟨_,false,rfl,by show false=(Ct.rdB l).isSome;rw[hr];rfl,λh=>(by cases h),λ_=>rfl⟩
 obtain rfl:n=1:=DR.1 h1;obtain⟨x,rfl⟩:∃x,l= [x]:=List.length_eq_one_iff.1 A;have g1:decide (((1:Nat):Int)≠1)=false:=rfl;obtain⟨b,o,rfl,r⟩:=zb2 C (i:=0) q_p;have q:w.cell? ⟨b,o+0,none⟩=some (.int .u8 (x.toNat:Int)):=r 0 _ rfl;have J:=x.toNat_lt;have hr:Ct.rdB [x]=if x.toNat=255 then some true else if x.toNat=0 then some false else none:=by
  show(if x=255 then some true else if x=0 then some false else none)=_;have G:x=255↔x.toNat=255:=⟨λh=>by rw[h];rfl,λh=>Bc.1 h⟩;have H:x=0↔x.toNat=0:=⟨λh=>by rw[h];rfl,λh=>Bc.1 h⟩;simp only[G,H]
 generalize x.toNat=X at*;obtain⟨K,g2⟩:∃y,decide ((X:Int)=255)=y:=⟨_,rfl⟩;obtain⟨L,g3⟩:∃y,decide ((X:Int)=0)=y:=⟨_,rfl⟩;cases K
 ·have E:X≠255:=λh=>of_decide_eq_false g2 q_o;rw[if_neg E] at hr;cases L
  ·have F:X≠0:=λh=>of_decide_eq_false g3 q_o;rw[if_neg F] at hr;repeat' (first|refine s_0 ?_|refine q_k 0 ?_|refine q_k 1 ?_;refine q_v (zaf (hr:=g1)) ?_|refine zaj (id:=3) 15 [[],[0],[0,1],[0,1,2],[],[4],[4,5],[4,5,6],[4,5,6,7],[4,5,6,7,8],[4,5,6,7,8,9],[4,5,6,7,8,9,10],[4,5,6,7,8,9,10,11],[4,5,6,7,8,9,10,11,12],[0,1,2,3,4,5,6,7,8],[0,1,2,3,4,5,6,7,8,9,10,11,12,13,14]] mixed ?_ ?_;kernel_rfl;refine zA ?_;refine q_D (zq (j:=0)) ?_;refine q_D (zn (hv:=q)) ?_;refine q_D (zS (hr:=g2)) ?_;refine zA ?_;refine q_D (zq (j:=0)) ?_;refine q_D (zn (hv:=q)) ?_;refine q_D (zS (hr:=g2)) ?_;refine zA ?_;refine zA ?_;refine q_D (zq (j:=0)) ?_;refine q_D (zn (hv:=q)) ?_;refine q_D (zS (hr:=g3)) ?_;refine q_D zdc ?_;refine q_D za6 ?_;refine zaB ?_;refine zw ?_|fail)
   exact zU rfl (zh rfl) (zh rfl) Ex ⟨_,false,rfl,by show false=(Ct.rdB [x]).isSome;rw[hr];rfl,λh=>(by cases h),λ_=>rfl⟩
  ·have F:X=0:=by have:=of_decide_eq_true g3;omega
   rw[if_pos F] at hr;repeat' (first|refine s_0 ?_|refine q_k 0 ?_|refine q_k 1 ?_;refine q_v (zaf (hr:=g1)) ?_|refine zaj (id:=3) 15 [[],[0],[0,1],[0,1,2],[],[4],[4,5],[4,5,6],[4,5,6,7],[4,5,6,7,8],[4,5,6,7,8,9],[4,5,6,7,8,9,10],[4,5,6,7,8,9,10,11],[4,5,6,7,8,9,10,11,12],[0,1,2,3,4,5,6,7,8],[0,1,2,3,4,5,6,7,8,9,10,11,12,13,14]] mixed ?_ ?_;kernel_rfl;refine zA ?_;refine q_D (zq (j:=0)) ?_;refine q_D (zn (hv:=q)) ?_;refine q_D (zS (hr:=g2)) ?_;refine zA ?_;refine q_D (zq (j:=0)) ?_;refine q_D (zn (hv:=q)) ?_;refine q_D (zS (hr:=g2)) ?_;refine zA ?_;refine zA ?_;refine q_D (zq (j:=0)) ?_;refine q_D (zn (hv:=q)) ?_;refine q_D (zS (hr:=g3)) ?_;refine q_D zdc ?_;refine q_D za6 ?_;refine zaB ?_;refine zw ?_|fail)
   exact zU rfl (zh rfl) (zh rfl) Ex ⟨_,true,rfl,by show true=(Ct.rdB [x]).isSome;rw[hr];rfl,λ_=>⟨false,hr,rfl,rfl⟩,λh=>(by cases h)⟩
 ·have E:X=255:=by have:=of_decide_eq_true g2;omega
  rw[if_pos E] at hr;repeat' (first|refine s_0 ?_|refine q_k 0 ?_|refine q_k 1 ?_;refine q_v (zaf (hr:=g1)) ?_|refine zaj (id:=3) 15 [[],[0],[0,1],[0,1,2],[],[4],[4,5],[4,5,6],[4,5,6,7],[4,5,6,7,8],[4,5,6,7,8,9],[4,5,6,7,8,9,10],[4,5,6,7,8,9,10,11],[4,5,6,7,8,9,10,11,12],[0,1,2,3,4,5,6,7,8],[0,1,2,3,4,5,6,7,8,9,10,11,12,13,14]] mixed ?_ ?_;kernel_rfl;refine zA ?_;refine q_D (zq (j:=0)) ?_;refine q_D (zn (hv:=q)) ?_;refine q_D (zS (hr:=g2)) ?_;refine zA ?_;refine q_D (zq (j:=0)) ?_;refine q_D (zn (hv:=q)) ?_;refine q_D (zS (hr:=g2)) ?_;refine zA ?_;refine zcL (λ_=>rfl) rfl ?_;refine zcL (λ_=>rfl) rfl ?_;refine zcL (λ_=>rfl) rfl ?_;refine zcL (λ_=>rfl) rfl ?_;refine q_D zdc ?_;refine q_D za6 ?_;refine zaB ?_;refine zw ?_|fail)
  exact zU rfl (zh rfl) (zh rfl) Ex ⟨_,true,rfl,by show true=(Ct.rdB [x]).isSome;rw[hr];rfl,λ_=>⟨true,hr,rfl,rfl⟩,λh=>(by cases h)⟩
end Go.Proofs.YtdnlngbjpdbffaaGreatDoor
namespace Go.Ct
open Go Go.Sy
def _root_.Go.Sy.Bs.sub(s:Bs)(x y:Nat):Bs:=⟨zbw s.a x s.c 1,y-x,s.c-x,(s.l.take y).drop x⟩
def Rsub(s s':Bs):Prop:=∀w:World,s.ok w->s'.ok w
theorem Rsub.trans{s j s2:Bs}(h:Rsub s j)(m:Rsub j s2):Rsub s s2:=λw q=>m w (h w q)
theorem Rsub.refl{s:Bs} :Rsub s s:=λ_ h=>h
theorem Rsub.sub(s:Bs){x y:Nat}(hx:x<=y)(B:y<=s.n):Rsub s (s.sub x y):=λw h=>by
 have r:(s.l.take y).length=y:=by rw[AR,h.len,BM B]
 have C:=h.cap;refine⟨?_,?_,?_,λA=>?_⟩
 ·show((s.l.take y).drop x).length=y-x;rw[Ar,r]
 ·show y-x<=s.c-x;omega
 ·have j:=(Fc h.sla).take y;rw[<-C9] at j;have q:=j.mov (l:=x) (m:=s.c) (by rw[A0,r];omega);rw[<-CX] at q;exact q.sla
 ·have j:=zmN.1 (show zbw s.a x s.c 1=none from A);have q:=h.nil j;show s.c-x=0;omega
def zrs:Bs:=⟨none,0,0,[]⟩
theorem Rsub.none(s:Bs):Rsub s zrs:=λ_ _=>⟨rfl,A6 _,.inl rfl,λ_=>rfl⟩
end Go.Ct
namespace Go.Proofs.YtdnlngbjpdbffaaGreatDoor
open Go Go.Sy Go.Ct Go.RowKit
attribute [local irreducible] Sy SyL SyX SyC SyF Sy.Fn Sy.FnP callFunc
theorem zmQ(s:Bs)(w:World)(L:s.ok w)(hb:s.n<1000000000):Sy.Fn Tryz.prog 93 [s.val] w No (λv R=>R= []/\((zfl s.l=none/\v= .tuple #[.int .i64 0,.slice none 0 0,.int .i64 0])\/∃x y:Nat,∃t:Int,zfl s.l=some (x,y)/\v= .tuple #[.int .i64 t,(s.sub x y).val,.int .i64 (y:Int)])):=by
 refine zt Tryz.func93 Tryz.ntmps93 ?_;obtain⟨a,n,c,l⟩:=s;have C:l.length=n:=L.len;have U:n<=c:=L.cap;have M:SlA w a (l.map v8):=L.sla;show Sy _ _ _ _ _ _ _ _ (zd1 0 [.slice a n c]) _;dsimp only at hb ⊢;rcases AF n 2 with J|J
 ·have e:zfl l=none:=by
   match l,C with
   | [],_=>rfl
   | [_],_=>rfl
   |_::_::_,C=>simp at C;omega
  have g:decide ((n:Int)<2)=true:=q_d;repeat' (first|refine s_0 ?_|refine zD [0,2] ?_;refine zb ?_|refine q_k 1 ?_;refine q_v (zo (hr:=g)) ?_)
  exact zc5 rfl (zh rfl) (zh rfl) (zh rfl) Er ⟨rfl,.inl ⟨e,rfl⟩⟩
 obtain⟨t,z,r,rfl⟩:∃t z r,l=t::z::r:=by
  match l,C with
  | [],C=>simp at C;omega
  | [_],C=>simp at C;omega
  |t::z::r,_=>exact⟨t,z,r,rfl⟩
 have Y:r.length=n-2:=by simp only[AQ] at C;omega
 obtain⟨b,o,rfl,m⟩:=zb2 M (i:=1) q_p;have E:w.cell? ⟨b,o+0,none⟩=some (.int .u8 (t.toNat:Int)):=m 0 _ rfl;have q:w.cell? ⟨b,o+1,none⟩=some (.int .u8 (z.toNat:Int)):=m 1 _ rfl;have a6:=z.toNat_lt;have K:∀i (G:i<r.length),w.cell? ⟨b,o+(2+i),none⟩=some (.int .u8 (r[i].toNat:Int)):=λi G=>m (2+i) (v8 r[i]) (by
   rw[AY,show 2+i=i+1+1 by omega,B9,B9,A1 G];rfl)
 have g1:decide ((n:Int)<2)=false:=q_f;have W:zfl (t::z::r)=if z.toNat<128 then (if z.toNat<=r.length then some (2,2+z.toNat) else none)
  else if z.toNat-128<1\/3<z.toNat-128 then none
  else if r.length<z.toNat-128 then none
  else if r.length-(z.toNat-128)<zau (r.take (z.toNat-128)) then none
  else some (2+(z.toNat-128),2+(z.toNat-128)+zau (r.take (z.toNat-128))):=rfl
 rw[W];generalize hT:t.toNat=T,z.toNat=Z at*;rcases AF Z 128 with Q|Q
 ·rw[if_pos Q];have g2:decide ((Z:Int)>=128)=false:=q_f;have g3:IntKind.i64.wrap ((n:Int)-2)=((n-2:Nat):Int):=q_w;have g5:IntKind.i64.wrap (2+(Z:Int))=((2+Z:Nat):Int):=q_w;by_cases hfit:Z<=r.length
  ·rw[if_pos hfit];have g4:decide ((Z:Int)>((n-2:Nat):Int))=false:=q_f;repeat' (first|refine s_0 ?_|refine q_k 0 ?_|refine q_k 1 ?_;refine q_v (zo (hr:=g1)) ?_|refine q_k 3 ?_;refine q_v (zq (j:=1)) ?_;refine q_v (zn (hv:=q)) ?_;refine zbd ?_;refine zb ?_|refine q_k 4 ?_;refine q_v (zP (hr:=g2)) ?_|refine q_k 14 ?_;refine q_v (zI (hr:=g3)) ?_;refine q_v (zH (hr:=g4)) ?_|refine zaj (id:=16) 15 [[],[0],[0,1],[0,1,2],[],[],[],[],[6,7],[4,5,6,7,8],[],[],[10,11],[0,1,2,3],[0,1,2,3,4,5,6,7,8,9,13],[0,1,2,3,4,5,6,7,8,9,10,11,12,13,14]] mixed ?_ ?_;kernel_rfl;refine zA ?_;refine q_D (zq (j:=0)) ?_;refine q_D (zn (hv:=E)) ?_;refine dc (by intro _ _;first|exact op_convSame|exact op_toStrD|exact zam) (k:=?_);refine zA ?_;refine zA ?_;refine zA ?_;refine zA ?_;refine q_D (zF (hr:=g5)) ?_;refine dc (by intro _ _;first|exact zb8|exact zcT|exact zev) (k:=?_);refine zA ?_;refine zA ?_;refine q_D (zF (hr:=g5)) ?_;refine q_D za6 ?_;refine q_D za6 ?_;refine zaB ?_;refine zw ?_|fail)
   exact zc5 rfl (zh rfl) (zh rfl) (zh rfl) Er ⟨rfl,.inr ⟨2,2+Z,_,rfl,by show _=Value.tuple #[_,.slice (zbw (some ⟨b,o,none⟩) 2 c 1) (2+Z-2) (c-2),_];rw[Bh]⟩⟩
  ·rw[if_neg hfit];have g4:decide ((Z:Int)>((n-2:Nat):Int))=true:=q_d;repeat' (first|refine s_0 ?_|refine zD [0,15] ?_;refine zb ?_|refine q_k 1 ?_;refine q_v (zo (hr:=g1)) ?_|refine q_k 3 ?_;refine q_v (zq (j:=1)) ?_;refine q_v (zn (hv:=q)) ?_;refine zbd ?_;refine zb ?_|refine q_k 4 ?_;refine q_v (zP (hr:=g2)) ?_|refine q_k 14 ?_;refine q_v (zI (hr:=g3)) ?_;refine q_v (zH (hr:=g4)) ?_)
   exact zc5 rfl (zh rfl) (zh rfl) (zh rfl) Er ⟨rfl,.inl ⟨rfl,rfl⟩⟩
 rw[if_neg q_o];have g2:decide ((Z:Int)>=128)=true:=q_d;obtain⟨k,X⟩:∃k,k=Z-128:=⟨_,rfl⟩;rw[<-X];have g3:IntKind.i64.wrap ((Z:Int)-128)=(k:Int):=q_w;by_cases hk1:k<1\/3<k
 ·rw[if_pos hk1];rcases(show k<1\/(1<=k/\3<k) by omega) with h|⟨h,h'⟩
  ·have g4:decide ((k:Int)<1)=true:=q_d;repeat' (first|refine s_0 ?_|refine zD [0,7] ?_;refine zb ?_|refine q_k 1 ?_;refine q_v (zo (hr:=g1)) ?_|refine q_k 3 ?_;refine q_v (zq (j:=1)) ?_;refine q_v (zn (hv:=q)) ?_;refine zbd ?_;refine zb ?_|refine q_k 4 ?_;refine q_v (zP (hr:=g2)) ?_|refine q_k 5 ?_;refine q_x (zI (hr:=g3)) ?_|refine q_k 6 ?_;refine q_x (zo (hr:=g4)) ?_)
   exact zc5 rfl (zh rfl) (zh rfl) (zh rfl) Er ⟨rfl,.inl ⟨rfl,rfl⟩⟩
  ·have g4:decide ((k:Int)<1)=false:=q_f;have g5:decide ((k:Int)>3)=true:=q_d;repeat' (first|refine s_0 ?_|refine zD [0,7] ?_;refine zb ?_|refine q_k 1 ?_;refine q_v (zo (hr:=g1)) ?_|refine q_k 3 ?_;refine q_v (zq (j:=1)) ?_;refine q_v (zn (hv:=q)) ?_;refine zbd ?_;refine zb ?_|refine q_k 4 ?_;refine q_v (zP (hr:=g2)) ?_|refine q_k 5 ?_;refine q_x (zI (hr:=g3)) ?_|refine q_k 6 ?_;refine q_x (zo (hr:=g4)) ?_;refine q_x (zH (hr:=g5)) ?_)
   exact zc5 rfl (zh rfl) (zh rfl) (zh rfl) Er ⟨rfl,.inl ⟨rfl,rfl⟩⟩
 rw[if_neg hk1];have g4:decide ((k:Int)<1)=false:=q_f;have g5:decide ((k:Int)>3)=false:=q_f;have g6:IntKind.i64.wrap (2+(k:Int))=((2+k:Nat):Int):=q_w;by_cases hk2:r.length<k
 ·rw[if_pos hk2];have g7:decide ((n:Int)<((2+k:Nat):Int))=true:=q_d;repeat' (first|refine s_0 ?_|refine zD [0,7] ?_;refine zb ?_|refine q_k 1 ?_;refine q_v (zo (hr:=g1)) ?_|refine q_k 3 ?_;refine q_v (zq (j:=1)) ?_;refine q_v (zn (hv:=q)) ?_;refine zbd ?_;refine zb ?_|refine q_k 4 ?_;refine q_v (zP (hr:=g2)) ?_|refine q_k 5 ?_;refine q_x (zI (hr:=g3)) ?_|refine q_k 6 ?_;refine q_x (zo (hr:=g4)) ?_;refine q_x (zH (hr:=g5)) ?_;refine q_v (zF (hr:=g6)) ?_;refine q_x (zo (hr:=g7)) ?_)
  exact zc5 rfl (zh rfl) (zh rfl) (zh rfl) Er ⟨rfl,.inl ⟨rfl,rfl⟩⟩
 rw[if_neg hk2];have g7:decide ((n:Int)<((2+k:Nat):Int))=false:=q_f;have P:∀i,i<=3->zau (r.take i)<16777216:=λi G=>by
  have O:=zfq (r.take i);have J:(r.take i).length<=3:=by rw[AR];omega
  have h3:=AB (show 0<256 by decide) J;omega
 repeat' (first|refine s_t ?_|refine zD [0,8,9] ?_;refine zb ?_|refine q_k 1 ?_;refine q_v (zo (hr:=g1)) ?_|refine q_k 3 ?_;refine q_v (zq (j:=1)) ?_;refine q_v (zn (hv:=q)) ?_;refine zbd ?_;refine zb ?_|refine q_k 4 ?_;refine q_v (zP (hr:=g2)) ?_|refine q_k 5 ?_;refine q_x (zI (hr:=g3)) ?_|refine q_k 6 ?_;refine q_x (zo (hr:=g4)) ?_;refine q_x (zH (hr:=g5)) ?_;refine q_v (zF (hr:=g6)) ?_;refine q_x (zo (hr:=g7)) ?_)
 refine zN (γ:=Nat) (λi=>[(0,.slice (some ⟨b,o,none⟩) n c),(5,.int .i64 ((zau (r.take i):Nat):Int)),(6,.int .i64 2),(7,.int .i64 (k:Int)),(8,.int .i64 (i:Int))]) (λ_=>[]) (λi=>i<=k) (λi=>k-i) 0 (A9 _) ?_ ?_ ?_
 ·exact q_h
 ·exact q_h
 intro i G;by_cases hlt:i<k
 ·have g8:decide ((i:Int)<(k:Int))=true:=q_d;have F:=K i q_o;have O:=P i q_o;have N:=zga r i q_o;have S:=(r[i]'q_o).toNat_lt;generalize (r[i]'q_o).toNat=x at*;have g9:IntKind.i64.wrap (256*((zau (r.take i):Nat):Int))=256*((zau (r.take i):Nat):Int):=IntWalk.i64_in _ q_o;have A:IntKind.i64.wrap (2+(i:Int))=((2+i:Nat):Int):=q_w;have B:IntKind.i64.wrap (x:Int)=(x:Int):=IntWalk.i64_in _ q_o;have H:IntKind.i64.wrap (256*((zau (r.take i):Nat):Int)+(x:Int))=((zau (r.take (i+1)):Nat):Int):=by rw[IntWalk.i64_in _ q_o,N];omega
  have I:IntKind.i64.wrap ((i:Int)+1)=((i+1:Nat):Int):=q_w;repeat' (first|refine s_t ?_|refine q_k 10 ?_;refine q_v (zo (hr:=g8)) ?_|refine q_k 12 ?_;refine q_x (zaJ (hr:=g9)) ?_;refine q_v (zF (hr:=A)) ?_;refine q_v (zq (j:=2+i)) ?_;refine q_v (zn (hv:=F)) ?_;refine q_v (zam (hr:=B)) ?_;refine q_x (zF (hr:=H)) ?_|refine q_k 11 ?_;refine q_x (zF (hr:=I)) ?_)
  refine zE (i+1) hlt ?_ ?_ ?_
  ·show k-(i+1)<k-i;omega
  ·exact q_h
  ·exact q_h
 obtain rfl:i=k:=q_o;have g8:decide ((i:Int)<(i:Int))=false:=q_f;have O:=P i q_o;generalize zau (r.take i)=V at*;have g9:IntKind.i64.wrap ((n:Int)-((2+i:Nat):Int))=((r.length-i:Nat):Int):=q_w;by_cases hf2:r.length-i<V
 ·rw[if_pos hf2];have A:decide ((V:Int)>((r.length-i:Nat):Int))=true:=q_d;repeat' (first|refine s_0 ?_|refine q_k 10 ?_;refine q_v (zo (hr:=g8)) ?_|refine q_k 13 ?_;refine q_x (zF (hr:=g6)) ?_|refine q_k 14 ?_;refine q_v (zI (hr:=g9)) ?_;refine q_v (zH (hr:=A)) ?_|refine q_k 15 ?_)
  exact zc5 rfl (zh rfl) (zh rfl) (zh rfl) Er ⟨rfl,.inl ⟨rfl,rfl⟩⟩
 rw[if_neg hf2];have A:decide ((V:Int)>((r.length-i:Nat):Int))=false:=q_f;have B:IntKind.i64.wrap (((2+i:Nat):Int)+(V:Int))=((2+i+V:Nat):Int):=q_w;repeat' (first|refine s_0 ?_|refine q_k 10 ?_;refine q_v (zo (hr:=g8)) ?_|refine q_k 13 ?_;refine q_x (zF (hr:=g6)) ?_|refine q_k 14 ?_;refine q_v (zI (hr:=g9)) ?_;refine q_v (zH (hr:=A)) ?_|refine zaj (id:=16) 15 [[],[0],[0,1],[0,1,2],[],[],[],[],[6,7],[4,5,6,7,8],[],[],[10,11],[0,1,2,3],[0,1,2,3,4,5,6,7,8,9,13],[0,1,2,3,4,5,6,7,8,9,10,11,12,13,14]] mixed ?_ ?_;kernel_rfl;refine zA ?_;refine q_D (zq (j:=0)) ?_;refine q_D (zn (hv:=E)) ?_;refine dc (by intro _ _;first|exact op_convSame|exact op_toStrD|exact zam) (k:=?_);refine zA ?_;refine zA ?_;refine zA ?_;refine zA ?_;refine q_D (zF (hr:=B)) ?_;refine dc (by intro _ _;first|exact zb8|exact zcT|exact zev) (k:=?_);refine zA ?_;refine zA ?_;refine q_D (zF (hr:=B)) ?_;refine q_D za6 ?_;refine q_D za6 ?_;refine zaB ?_;refine zw ?_|fail)
 exact zc5 rfl (zh rfl) (zh rfl) (zh rfl) Er ⟨rfl,.inr ⟨2+i,2+i+V,_,rfl,by show _=Value.tuple #[_,.slice (zbw (some ⟨b,o,none⟩) (2+i) c 1) (2+i+V-(2+i)) (c-(2+i)),_];rw[Bh]⟩⟩
def zd0(s:Bs)(l:List UInt8)(v:Value)(R:List Res):Prop:=∃s':Bs,v=s'.val/\s'.l=l/\Rsub s s'/\s'.n<=s.n/\R= []
theorem zdH(s:Bs)(w:World)(r:s.ok w)(hb:s.n<1000000000):Sy.Fn Tryz.prog 46 [s.val] w No (zd0 s (zaL s.l)):=by
 refine zt Tryz.func46 Tryz.ntmps46 ?_;have q:=λA (B:Keep No w A)=>zmQ s A (r.keep B) hb;have C:s.val= .slice s.a s.n s.c:=rfl;rw[C] at q ⊢;repeat' (first|refine s_0 ?_|refine zD [0,2] ?_;refine zb ?_|refine q_k 1 ?_;(refine q_s (zi (hc:=zu q)) ?_;rintro _ _ ⟨R,rfl,rfl,(⟨j,rfl⟩|⟨x,y,t,j,rfl⟩)⟩);refine zb ?_|(refine zy ?_;first|refine zw ?_|refine zY ?_|refine zaR ?_|fail)|fail)
 ·exact zap rfl (zh rfl) Er ⟨zrs,rfl,by unfold zaL;rw[j];rfl,Rsub.none s,A9 _,rfl⟩
 ·have m:=zjA j;have E:=r.len;exact zap rfl (zh rfl) Er ⟨s.sub x y,rfl,by unfold zaL;rw[j];rfl,Rsub.sub s m.2.1 q_o,by show y-x<=s.n;omega,rfl⟩
end Go.Proofs.YtdnlngbjpdbffaaGreatDoor
