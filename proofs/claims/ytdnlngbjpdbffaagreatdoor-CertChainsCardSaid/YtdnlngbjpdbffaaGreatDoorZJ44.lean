/- Lemmas. -/
import Derived.Test.YtdnlngbjpdbffaaGreatDoorZJ43
set_option maxRecDepth 10000
set_option linter.all false
namespace Go.Sy
open RowKit
variable {P:Program}{ro:Option Nat}{N:Nat}{w0:World}{M:Nat->Prop}{ds:List Deferred}{fr:Fr}{L L1 C:List Res}{Q:Exit->Act->World->Prop}{ops:Array Oper}{rest:List Oper}{o:Oper}{d f:Nat}{fo:Operand}{args:Array Operand}{tys:Array TypeId}{vs cap:List Value}
theorem FnP.fn{f:Nat}{args:List Value}{w:World}{M:Nat->Prop}{post j:Value->List Res->Prop}(h:FnP P f args w M post j)(hp:∀v R,¬j v R):Fn P f args w M post:=
 Calls.mono h λ_ _ ⟨v,R,e,B,A⟩=>by
  rcases e with ⟨e,q⟩|⟨_,q⟩
  ·exact⟨v,R,e,q,B,A⟩
  ·exact(hp v R q).elim
theorem zaQ{post j:Value->List Res->Prop}(hC:RemL L C L1)
  (hc:∀w,Keep M w0 w->(∀b,OwnOf C b->w0.heap.size<=b\/M b)->Holds w.heap.size (OwnOf C) C w->FnP P f (vs++cap) w (OwnOf C) post j)
  (hr:∀v R,post v R->SyL P ro N w0 M ds ops Q rest ((d,v)::fr) (R++L1))
  (hp:∀v R,j v R->SyX N w0 M ds (Q (.panic (pch v))) fr (R++L1))
  (H:o.op= .call { callee:=.value fo,args:=args,argTypes:=tys } :=by exact rfl)(E:ev (get fr) fo=some (.func (.func f) #[] cap.toArray):=by exact rfl)(ha:evs (get fr) args.toList=some vs:=by exact rfl)
  (he:∀args w,(callFunc f args).run P w= .ok (.enter f args) w:=by exact en rfl)
  (I:zak ops o (get fr)=some true:=by exact rfl)(B:o.dst=some d:=by exact rfl)(A:Nat.blt d N=true:=by exact rfl):SyL P ro N w0 M ds ops Q (o::rest) fr L:=
 zef hC (λ_ h=>h) (λ_ _ G q=>hc _ G (zh8 hC q) (zhN hC q)) hr hp H E ha he I B A
theorem zbi{u:Value}(hc:∀w X,Keep M w0 w->Holds w0.heap.size M (L++X) w->FnP P f (vs++cap) w No (λ_ _=>False) (λv R=>v=u/\R= []))(hp:SyX N w0 M ds (Q (.panic (pch u))) fr L)
  (G:o.op= .call { callee:=.value fo,args:=args,argTypes:=tys } :=by exact rfl)(E:ev (get fr) fo=some (.func (.func f) #[] cap.toArray):=by exact rfl)(ha:evs (get fr) args.toList=some vs:=by exact rfl)
  (he:∀args w,(callFunc f args).run P w= .ok (.enter f args) w:=by exact en rfl)
  (H:zak ops o (get fr)=some true:=by exact rfl)(B:o.dst=some d:=by exact rfl)(A:Nat.blt d N=true:=by exact rfl):SyL P ro N w0 M ds ops Q (o::rest) fr L:=
 zef F2 (λ_ h=>h.elim) hc (λ_ _ h=>h.elim) (λv R ⟨j,q⟩=>by subst j;subst q;exact hp) G E ha he H B A
theorem SyL.turn{a:Res}{R B:List Res}(h:SyL P ro N w0 M ds ops Q rest fr (a::(B++R))):SyL P ro N w0 M ds ops Q rest fr ((a::R)++B):=
 h.weaken (λ_ _ h=>h) ⟨[],by simpa using List.perm_append_comm⟩
end Go.Sy
namespace Go.Ct
variable {α:Type}{t:Nat}{rd:List UInt8->Option (α×List UInt8)}{b c r y:List UInt8}{x:α}
theorem zec(h:zaZ t b=none):rdW t rd b=none:=by unfold rdW;rw[h];rfl
theorem zhe(h:zaZ t b=some (c,r))(h1:rd c=none):rdW t rd b=none:=by unfold rdW;rw[h];simp[h1]
theorem zg9(h:zaZ t b=some (c,r))(h1:rd c=some (x,y))(h2:y≠[]):rdW t rd b=none:=by unfold rdW;rw[h];simp[h1,h2]
theorem zib(h:zaZ t b=some (c,r))(h1:rd c=some (x,y))(h2:y= []):rdW t rd b=some (x,r):=by unfold rdW;rw[h];simp[h1,h2]
theorem za4{l:List UInt8}{n k:Nat}(h:l.length=n):l.drop k= []↔n-k=0:=by
 rw[List.drop_eq_nil_iff];omega
end Go.Ct
namespace Go.Proofs.YtdnlngbjpdbffaaGreatDoor
section
open Sy Ct RowKit
attribute [local irreducible] Sy SyL SyX SyC SyF Sy.Fn Sy.FnP callFunc
abbrev rdA(r:Nat):Value:=.agg #[.pointer (some ⟨r,0,none⟩)]
def RP{α:Type}(r:Nat)(s:Bs)(i:Nat)(rd:List UInt8->Option (α×List UInt8))(Ψ:α->Value->List Res->Prop)(v:Value)(R:List Res):Prop:=
 ∃x rst k R',rd (s.l.drop i)=some (x,rst)/\k<=s.n/\s.l.drop k=rst/\Ψ x v R'/\R=zj r s k::R'
def RN{α:Type}(s:Bs)(i:Nat)(rd:List UInt8->Option (α×List UInt8))(v:Value)(R:List Res):Prop:=rd (s.l.drop i)=none/\v=zcc/\R= []
def zhG{α:Type}(f:Nat)(cap:List Value)(c:Res)(rd:List UInt8->Option (α×List UInt8))(Ψ:α->List Res->Prop)(m:Nat):Prop:=
 ∀(r:Nat) (s:Bs) (i:Nat) (w:World),Holds w.heap.size (OwnOf [zj r s i,c]) [zj r s i,c] w->BsF w (OwnOf [zj r s i,c]) s->i<=s.n->s.n<=m->
  FnP Tryz.prog f (rdA r::cap) w (OwnOf [zj r s i,c]) (RP r s i rd (λx v R=>v= .tuple #[]/\Ψ x R)) (RN s i rd)
theorem zeb(w:World):q_G 89 [.bool true] w (.tuple #[]):=
 ((zem true w).fn (λ_ _ h=>(by cases h.1))).mono λ_ _ h=>⟨h.2.1,h.2.2⟩
theorem zeh(w:World):FnP Tryz.prog 89 [.bool false] w No (λ_ _=>False) (λv R=>v=zcc/\R= []):=
 (zem false w).mono (λ_ _ h=>(by cases h.1)) (λ_ _ h=>h.2)
theorem zoM(r:Nat)(s:Bs)(i:Nat)(w:World)(hr:w.rangeAt r 0 (rdC s i))(hi:i<=s.n)(hc:s.n<=s.c)(hb:s.n<1000000000)(h0:s.n-i=0):q_G 88 [rdA r] w (.tuple #[]):=by
 refine zt Tryz.func88 Tryz.ntmps88 ?_;have j:=λq (A:Keep No w q)=>zt0 r s i q (za0 hr A (λh=>h)) hi hc hb;rw[if_pos h0] at j;repeat' first|refine s_0 ?_|refine zf 0 ?_;refine zk λ_=>?_|refine q_k 1 ?_;refine zm ?_;refine q_v (za (hc:=zr j)) ?_;refine q_v (zS (hr:=rfl)) ?_;refine q_v (za (hc:=q_c zeb)) ?_
 exact zft rfl Ev ⟨rfl,rfl⟩
theorem zoa(r:Nat)(s:Bs)(i:Nat)(w:World)(hr:w.rangeAt r 0 (rdC s i))(hi:i<=s.n)(hc:s.n<=s.c)(hb:s.n<1000000000)(h0:s.n-i≠0):FnP Tryz.prog 88 [rdA r] w No (λ_ _=>False) (λv R=>v=zcc/\R= []):=by
 refine zaI Tryz.func88 rfl Tryz.ntmps88 q_p FU ?_;have q:=λj (A:Keep No w j)=>zt0 r s i j (za0 hr A (λh=>h)) hi hc hb;rw[if_neg h0] at q;repeat' first|refine s_0 ?_|refine zf 0 ?_;refine zk λ_=>?_|refine q_k 1 ?_;refine zm ?_;refine q_v (za (hc:=zr q)) ?_;refine q_v (zS (hr:=rfl)) ?_;(refine zbi (hc:=λj _ _ _=>zeh j) ?_)
 exact zau Ev ⟨rfl,rfl⟩
end
section
open Sy Ct RowKit
attribute [local irreducible] Sy SyL SyX SyC SyF Sy.Fn Sy.FnP callFunc
variable {α:Type}(f:Nat)(cap:List Value)(c:Res)(rd:List UInt8->Option (α×List UInt8))(Ψ:α->List Res->Prop)(m:Nat)(hm:m<1000000000)(hen:∀args w,(callFunc f args).run Tryz.prog w= .ok (.enter f args) w)(hcl:zhG f cap c rd Ψ m)(r:Nat)(s:Bs)(i:Nat)(w:World)(hL:Holds w.heap.size (OwnOf [zj r s i,c]) [zj r s i,c] w)(hs:BsF w (OwnOf [zj r s i,c]) s)(hi:i<=s.n)(hb:s.n<=m)
include hm hen hcl hL hs hi hb
theorem zuz(n:Nat)(hn:n<=30):
  FnP Tryz.prog 196 [rdA r,.int .i64 (n:Int),.func (.func f) #[] cap.toArray] w (OwnOf [zj r s i,c]) (λv R=>(v= .bool true/\RP r s i (rdW (160+n) rd) (λx _ R=>Ψ x R) v R)\/(v= .bool false/\rdW (160+n) rd (s.l.drop i)=none/\R= [])) (RN s i (rdW (160+n) rd)):=by
 refine zaI Tryz.func196 rfl Tryz.ntmps196 q_p hL ?_;have T:=λj (I:Keep (OwnOf [zj r s i,c]) w j) (J:∀b,OwnOf [zj r s i] b->w.heap.size<=b\/OwnOf [zj r s i,c] b) (q:Holds j.heap.size (OwnOf [zj r s i]) [zj r s i] j)=>zjr r s i n j q (hs.to I J) hi q_o hn;unfold zpx at T;repeat' first|refine s_0 ?_|refine zf 0 ?_;refine z9 λ_=>?_|refine q_k 1 ?_;refine zm ?_;refine zb ?_;(refine q_s (za2 (f:=254) (C:=[zj r s i]) (F0 (r':=zj r s i) (by repeat (first|exact Eu|apply Ew)) rfl F2) (hc:=λj I hm q=>T j I hm q)) ?_;rintro _ _ ⟨R,rfl,(⟨cc,V,k,B,E,G,h2,h3,S,Z,h6,rfl,rfl⟩|⟨G,rfl,rfl⟩|⟨G,e,u,he,rfl,rfl⟩)⟩);refine zb ?_|(refine zx ?_;first|refine zw ?_|refine zZ ?_|refine zaU ?_|fail)|fail
 ·repeat' first|refine s_0 ?_|refine q_k 2 ?_;refine q_v (zS (hr:=rfl)) ?_;refine q_v (za (hc:=q_c zeb)) ?_|refine q_k 3 ?_|refine q_k 4 ?_;refine zbt ?_;refine zk λ_=>?_;refine zP ?_
  have A:=S _ _ hs;have O:=A.len;repeat' first|refine q_k 5 ?_;refine zm ?_;(refine zaQ (f:=f) (cap:=cap) (vs:=[rdA B]) (he:=hen) (C:=[zj B E 0,c]) (F0 (r':=zj B E 0) (by repeat (first|exact Eu|apply Ew)) rfl (F0 (r':=c) (by repeat (first|exact Eu|apply Ew)) rfl F2)) (hc:=λj I J q=>hcl B E 0 j q (A.to I J) (AA _) q_o) ?_ ?_)
  ·rintro _ _ ⟨x,a6,U,R',K,W,Y,⟨rfl,hΨ⟩,rfl⟩;rw[BL,Z] at K;refine SyL.turn ?_;simp only[Ae,Ag];by_cases hd:E.n-U=0
   ·have H:=λj hr=>zoM B E U j hr W A.cap q_o hd;repeat' first|refine s_0 ?_|refine zf 6 ?_;refine zm ?_;refine q_v (za (hc:=λj X I q=>H j (zp (q.has (r:=zj B E U) q_h) Ex))) ?_|refine q_k 7 ?_
    refine zd8 rfl (zh rfl) (F3 (by repeat (first|exact Eu|apply Ew)) (by repeat (first|exact Ez|apply F7))) (.inl ⟨rfl,x,V,k,R',zib G K ?_,h2,h3,hΨ,rfl⟩);rw[<-Y];exact(za4 O).2 hd
   ·have H:=λj hr=>zoa B E U j hr W A.cap q_o hd;repeat' first|refine s_0 ?_|refine zf 6 ?_;refine zm ?_;(refine zbi (hc:=λj X I q=>H j (zp (q.has (r:=zj B E U) q_h) Ex)) ?_)|refine zJ ?_|fail
    refine zau Ev ⟨zg9 G K ?_,rfl,rfl⟩;rw[<-Y];exact λh=>hd ((za4 O).1 h)
  ·rintro _ _ ⟨K,rfl,rfl⟩;rw[BL,Z] at K;refine zJ ?_;repeat' first|refine zJ ?_|fail
   exact zau Ev ⟨zhe G K,rfl,rfl⟩
 ·repeat' first|refine s_0 ?_|refine q_k 2 ?_;refine q_v (zS (hr:=rfl)) ?_;refine q_v (za (hc:=q_c zeb)) ?_|refine zA [3,7] ?_;refine zb ?_
  exact zd8 rfl (zh rfl) Ev (.inr ⟨rfl,zec G,rfl⟩)
 ·have g:decide (e=0)=false:=decide_eq_false he;repeat' first|refine q_k 2 ?_;refine q_v (zS (hr:=g)) ?_;(refine zbi (hc:=λj _ _ _=>zeh j) ?_)|refine zJ ?_|fail
  exact zau Ev ⟨zec G,rfl,rfl⟩
theorem zgF(n:Nat)(hn:n<=30):
  FnP Tryz.prog 118 [rdA r,.int .i64 (n:Int),.func (.func f) #[] cap.toArray] w (OwnOf [zj r s i,c]) (RP r s i (rdW (160+n) rd) (λx v R=>v= .tuple #[]/\Ψ x R)) (RN s i (rdW (160+n) rd)):=by
 have E:=λq A hs=>zuz f cap c rd Ψ m hm hen hcl r s i q A hs hi hb n hn;refine zaI Tryz.func118 rfl Tryz.ntmps118 q_p hL ?_;repeat' first|refine s_0 ?_|refine zf 0 ?_;refine zk λ_=>?_|refine zf 1 ?_;refine zm ?_;refine zb ?_;(refine zaQ (f:=196) (C:=[zj r s i,c]) (F0 (r':=zj r s i) (by repeat (first|exact Eu|apply Ew)) rfl (F0 (r':=c) (by repeat (first|exact Eu|apply Ew)) rfl F2)) (hc:=λq O B A=>E q A (hs.to O B)) ?_ ?_)
 ·rintro _ _ (⟨rfl,x,G,k,H,j,I,J,K,rfl⟩|⟨rfl,j,rfl⟩)
  ·repeat' first|refine zap ?_|(refine zx ?_;first|refine q_v (za (hc:=q_c zeb)) ?_|fail)|fail
   exact zeG rfl ⟨_,Ay _⟩ ⟨x,G,k,H,j,I,J,⟨rfl,K⟩,rfl⟩
  ·repeat' first|(refine zx ?_;first|refine zbi (hc:=λq _ _ _=>zeh q) ?_|fail)|fail
   exact zau Ev ⟨j,rfl,rfl⟩
 ·rintro _ _ ⟨j,rfl,rfl⟩;repeat' first|fail
  exact zau Ev ⟨j,rfl,rfl⟩
theorem zhy:
  FnP Tryz.prog 90 [rdA r,.func (.func f) #[] cap.toArray] w (OwnOf [zj r s i,c]) (RP r s i (rdW 48 rd) (λx v R=>v= .tuple #[]/\Ψ x R)) (RN s i (rdW 48 rd)):=by
 refine zaI Tryz.func90 rfl Tryz.ntmps90 q_p hL ?_;have J:=λj (H:Keep (OwnOf [zj r s i,c]) w j) (I:∀b,OwnOf [zj r s i] b->w.heap.size<=b\/OwnOf [zj r s i,c] b) (A:Holds j.heap.size (OwnOf [zj r s i]) [zj r s i] j)=>zl0 r s i j A (hs.to H I) hi q_o;unfold zbC zgd at J;rw[zfK] at J;repeat' first|refine s_0 ?_|refine zf 0 ?_;refine zk λ_=>?_|refine q_k 1 ?_;refine zm ?_;(refine q_s (za2 (f:=177) (C:=[zj r s i]) (F0 (r':=zj r s i) (by repeat (first|exact Eu|apply Ew)) rfl F2) (hc:=λj H hm A=>J j H hm A)) ?_;rintro _ _ ⟨R,rfl,(⟨cc,Z,k,u,R',O,h2,h3,⟨q,E,rfl,rfl,T,h5,h6⟩,rfl,rfl⟩|⟨O,e,u,he,rfl,rfl⟩)⟩);refine zb ?_|(refine zx ?_;first|refine zZ ?_|fail)|fail
 rotate_left
 ·have V:=λj=>(znQ u e j).mono (post':=λ_ _=>False) (pan':=λv R=>v=zcc/\R= []) (λ_ _ h=>absurd h.1 he) (λ_ _ h=>h.2);repeat' first|refine zJ ?_|(refine zx ?_;first|refine zbi (hc:=λj _ _ _=>V j) ?_|fail)|fail
  exact zau Ev ⟨zec O,rfl,rfl⟩
 have Y:=λj=>((znQ (.pointer (some ⟨q,0,none⟩)) 0 j).fn (λ_ _ h=>h.1 rfl)).mono (post':=ziD (.pointer (some ⟨q,0,none⟩))) (λ_ _ h=>h.2);have B:=T _ _ hs;have S:=B.len;repeat' first|refine s_0 ?_|refine q_k 2 ?_;refine zm ?_;(refine zaQ (f:=f) (cap:=cap) (vs:=[rdA q]) (he:=hen) (C:=[zj q E 0,c]) (F0 (r':=zj q E 0) (by repeat (first|exact Eu|apply Ew)) rfl (F0 (r':=c) (by repeat (first|exact Eu|apply Ew)) rfl F2)) (hc:=λj H I A=>hcl q E 0 j A (B.to H I) (AA _) q_o) ?_ ?_)|(refine zx ?_;first|refine q_v (za (hc:=q_c Y)) ?_|refine zbt ?_|refine zP ?_|refine zk λ_=>?_|fail)|fail
 ·rintro _ _ ⟨x,a6,U,R',K,e2,e3,⟨rfl,hΨ⟩,rfl⟩;rw[BL,h5] at K;refine SyL.turn ?_;simp only[Ae,Ag];by_cases hd:E.n-U=0
  ·have G:=λj W=>zoM q E U j W e2 B.cap q_o hd;repeat' first|refine s_0 ?_|refine zf 3 ?_;refine zm ?_;refine q_v (za (hc:=λj X H A=>G j (zp (A.has (r:=zj q E U) q_h) Ex))) ?_
   refine zeG rfl (F3 (by repeat (first|exact Eu|apply Ew)) (by repeat (first|exact Ez|apply F7))) ⟨x,Z,k,R',zib O K ?_,h2,h3,⟨rfl,hΨ⟩,rfl⟩;rw[<-e3];exact(za4 S).2 hd
  ·have G:=λj W=>zoa q E U j W e2 B.cap q_o hd;repeat' first|refine s_0 ?_|refine zf 3 ?_;refine zm ?_;(refine zbi (hc:=λj X H A=>G j (zp (A.has (r:=zj q E U) q_h) Ex)) ?_)
   refine zau Ev ⟨zg9 O K ?_,rfl,rfl⟩;rw[<-e3];exact λh=>hd ((za4 S).1 h)
 ·rintro _ _ ⟨K,rfl,rfl⟩;rw[BL,h5] at K;repeat' first|refine zJ ?_|fail
  exact zau Ev ⟨zhe O K,rfl,rfl⟩
end
open Sy Ct RowKit
attribute [local irreducible] Sy SyL SyX SyC SyF Sy.Fn Sy.FnP callFunc
theorem zqO(v:Value)(w:World):q_G 198 [v,.int .i64 0] w v:=((zo2 v 0 w).fn (λ_ _ h=>h.1 rfl)).mono λ_ _ h=>⟨h.2.1,h.2.2⟩
theorem zqc(v:Value)(e:Int)(he:e≠0)(w:World):FnP Tryz.prog 198 [v,.int .i64 e] w No (λ_ _=>False) (λv R=>v=zcc/\R= []):=(zo2 v e w).mono (λ_ _ h=>absurd h.1 he) (λ_ _ h=>h.2)
theorem zxP(v:Value)(w:World):q_G 125 [v,.int .i64 0] w v:=((zot v 0 w).fn (λ_ _ h=>h.1 rfl)).mono λ_ _ h=>⟨h.2.1,h.2.2⟩
theorem zxL(v:Value)(e:Int)(he:e≠0)(w:World):FnP Tryz.prog 125 [v,.int .i64 e] w No (λ_ _=>False) (λv R=>v=zcc/\R= []):=(zot v e w).mono (λ_ _ h=>absurd h.1 he) (λ_ _ h=>h.2)
theorem zxc(v:Value)(w:World):q_G 208 [v,.int .i64 0] w v:=((zod v 0 w).fn (λ_ _ h=>h.1 rfl)).mono λ_ _ h=>⟨h.2.1,h.2.2⟩
theorem zwV(v:Value)(e:Int)(he:e≠0)(w:World):FnP Tryz.prog 208 [v,.int .i64 e] w No (λ_ _=>False) (λv R=>v=zcc/\R= []):=(zod v e w).mono (λ_ _ h=>absurd h.1 he) (λ_ _ h=>h.2)
theorem znK(b m:Nat)(hm:m<1000000000):zhG 197 [.pointer (some ⟨b,0,none⟩)] (.blk b 3 [.int .i64 0]) (rdV 2 rdI) (λx R=>R= [.blk b 3 [.int .i64 x]]) m:=by
 intro r s i w hL hs hi hb;refine zaI Tryz.func197 rfl Tryz.ntmps197 q_p hL ?_;have h:=λj (B:Keep (OwnOf [zj r s i,.blk b 3 [.int .i64 0]]) w j) (E:∀x,OwnOf [zj r s i] x->w.heap.size<=x\/OwnOf [zj r s i,.blk b 3 [.int .i64 0]] x) (A:Holds j.heap.size (OwnOf [zj r s i]) [zj r s i] j)=>zyp r s i j A (hs.to B E) hi q_o;unfold zbC at h;repeat' first|refine s_0 ?_|refine zf 0 ?_;refine zk λ_=>?_|refine q_k 1 ?_;refine zm ?_;(refine q_s (za2 (f:=199) (C:=[zj r s i]) (F0 (r':=zj r s i) (by repeat (first|exact Eu|apply Ew)) rfl F2) (hc:=λj B hm A=>h j B hm A)) ?_;rintro _ _ ⟨R,rfl,(⟨x,G,k,u,K,q,H,I,⟨rfl,rfl⟩,rfl,rfl⟩|⟨q,e,u,J,rfl,rfl⟩)⟩);refine zb ?_|(refine zx ?_;first|refine zZ ?_|fail)|fail
 ·repeat' first|refine zap ?_|(refine zx ?_;first|refine q_v (za (hc:=λ_ _ _ _=>(zqO _ _))) ?_|refine q_n (zaO (v:=.int .i64 x) (hC:=⟨A5 rfl,rfl⟩)) ?_|fail)|fail
  exact zeG rfl q_h ⟨x,G,k,_,q,H,I,⟨rfl,rfl⟩,rfl⟩
 ·repeat' first|(refine zx ?_;first|refine zbi (hc:=λj _ _ _=>zqc u e J j) ?_|fail)|fail
  exact zau Ev ⟨q,rfl,rfl⟩
theorem zk4(r:Nat)(s:Bs)(i n t:Nat)(w:World)(K:t=160+n)(hn:n<=30)(hL:Holds w.heap.size (OwnOf [zj r s i]) [zj r s i] w)(hs:BsF w (OwnOf [zj r s i]) s)(hi:i<=s.n)(hb:s.n<1000000000):
  FnP Tryz.prog 121 [rdA r,.int .i64 (n:Int)] w (OwnOf [zj r s i]) (RP r s i (rdW t (rdV 2 rdI)) (λt v R=>v= .int .i64 t/\R= [])) (RN s i (rdW t (rdV 2 rdI))):=by
 subst K;refine zaI Tryz.func121 rfl Tryz.ntmps121 q_p hL ?_;have h:=λb q (G:Keep (OwnOf [zj r s i]) w q) (j:∀x,OwnOf [zj r s i,.blk b 3 [.int .i64 0]] x->w.heap.size<=x\/OwnOf [zj r s i] x) (E:Holds q.heap.size (OwnOf [zj r s i,.blk b 3 [.int .i64 0]]) [zj r s i,.blk b 3 [.int .i64 0]] q)=>zgF 197 [.pointer (some ⟨b,0,none⟩)] (.blk b 3 [.int .i64 0]) (rdV 2 rdI) (λx R=>R= [.blk b 3 [.int .i64 x]]) s.n hb (en rfl) (znK b s.n hb) r s i q E (hs.to G j) hi (A7 _) n hn;repeat' first|refine s_0 ?_|refine zf 0 ?_;refine zk λ_=>?_;refine zk λ_=>?_
 rename_i _ A;repeat' first|refine zf 1 ?_;refine zm ?_;refine zb ?_;refine q_v zab ?_;(refine zaQ (f:=118) (C:=[zj r s i,.blk A 3 [.int .i64 0]]) (F0 (r':=zj r s i) (by repeat (first|exact Eu|apply Ew)) rfl (F0 (r':=.blk A 3 [.int .i64 0]) (by repeat (first|exact Eu|apply Ew)) rfl F2)) (hc:=λq G j E=>h A q G j E) ?_ ?_)
 ·rintro _ _ ⟨x,H,k,_,B,I,J,⟨rfl,rfl⟩,rfl⟩;repeat' first|refine s_0 ?_|refine zf 2 ?_;refine zm ?_;refine zP ?_
  exact zd8 rfl (zdD rfl (ty rfl) rfl Ey rfl) q_h ⟨x,H,k,_,B,I,J,⟨rfl,rfl⟩,rfl⟩
 ·rintro _ _ ⟨B,rfl,rfl⟩;repeat' first|refine zJ ?_|fail
  exact zau Ev ⟨B,rfl,rfl⟩
theorem zsm(b m:Nat)(hm:m<1000000000):zhG 203 [.pointer (some ⟨b,0,none⟩)] (.blk b 3 [.int .i64 0]) (rdV 24 rdT) (λx R=>R= [.blk b 3 [.int .i64 x]]) m:=by
 intro r s i w hL hs hi hb;refine zaI Tryz.func203 rfl Tryz.ntmps203 q_p hL ?_;have h:=λj (B:Keep (OwnOf [zj r s i,.blk b 3 [.int .i64 0]]) w j) (E:∀x,OwnOf [zj r s i] x->w.heap.size<=x\/OwnOf [zj r s i,.blk b 3 [.int .i64 0]] x) (A:Holds j.heap.size (OwnOf [zj r s i]) [zj r s i] j)=>zuF r s i j A (hs.to B E) hi q_o;unfold zbC at h;repeat' first|refine s_0 ?_|refine zf 0 ?_;refine zk λ_=>?_|refine q_k 1 ?_;refine zm ?_;(refine q_s (za2 (f:=204) (C:=[zj r s i]) (F0 (r':=zj r s i) (by repeat (first|exact Eu|apply Ew)) rfl F2) (hc:=λj B hm A=>h j B hm A)) ?_;rintro _ _ ⟨R,rfl,(⟨x,G,k,u,K,q,H,I,⟨rfl,rfl⟩,rfl,rfl⟩|⟨q,e,u,J,rfl,rfl⟩)⟩);refine zb ?_|(refine zx ?_;first|refine zZ ?_|fail)|fail
 ·repeat' first|refine zap ?_|(refine zx ?_;first|refine q_v (za (hc:=λ_ _ _ _=>(zqO _ _))) ?_|refine q_n (zaO (v:=.int .i64 x) (hC:=⟨A5 rfl,rfl⟩)) ?_|fail)|fail
  exact zeG rfl q_h ⟨x,G,k,_,q,H,I,⟨rfl,rfl⟩,rfl⟩
 ·repeat' first|(refine zx ?_;first|refine zbi (hc:=λj _ _ _=>zqc u e J j) ?_|fail)|fail
  exact zau Ev ⟨q,rfl,rfl⟩
theorem zqW(r:Nat)(s:Bs)(i n t:Nat)(w:World)(K:t=160+n)(hn:n<=30)(hL:Holds w.heap.size (OwnOf [zj r s i]) [zj r s i] w)(hs:BsF w (OwnOf [zj r s i]) s)(hi:i<=s.n)(hb:s.n<1000000000):
  FnP Tryz.prog 123 [rdA r,.int .i64 (n:Int)] w (OwnOf [zj r s i]) (RP r s i (rdW t (rdV 24 rdT)) (λt v R=>v= .int .i64 t/\R= [])) (RN s i (rdW t (rdV 24 rdT))):=by
 subst K;refine zaI Tryz.func123 rfl Tryz.ntmps123 q_p hL ?_;have h:=λb q (G:Keep (OwnOf [zj r s i]) w q) (j:∀x,OwnOf [zj r s i,.blk b 3 [.int .i64 0]] x->w.heap.size<=x\/OwnOf [zj r s i] x) (E:Holds q.heap.size (OwnOf [zj r s i,.blk b 3 [.int .i64 0]]) [zj r s i,.blk b 3 [.int .i64 0]] q)=>zgF 203 [.pointer (some ⟨b,0,none⟩)] (.blk b 3 [.int .i64 0]) (rdV 24 rdT) (λx R=>R= [.blk b 3 [.int .i64 x]]) s.n hb (en rfl) (zsm b s.n hb) r s i q E (hs.to G j) hi (A7 _) n hn;repeat' first|refine s_0 ?_|refine zf 0 ?_;refine zk λ_=>?_;refine zk λ_=>?_
 rename_i _ A;repeat' first|refine zf 1 ?_;refine zm ?_;refine zb ?_;refine q_v zab ?_;(refine zaQ (f:=118) (C:=[zj r s i,.blk A 3 [.int .i64 0]]) (F0 (r':=zj r s i) (by repeat (first|exact Eu|apply Ew)) rfl (F0 (r':=.blk A 3 [.int .i64 0]) (by repeat (first|exact Eu|apply Ew)) rfl F2)) (hc:=λq G j E=>h A q G j E) ?_ ?_)
 ·rintro _ _ ⟨x,H,k,_,B,I,J,⟨rfl,rfl⟩,rfl⟩;repeat' first|refine s_0 ?_|refine zf 2 ?_;refine zm ?_;refine zP ?_
  exact zd8 rfl (zdD rfl (ty rfl) rfl Ey rfl) q_h ⟨x,H,k,_,B,I,J,⟨rfl,rfl⟩,rfl⟩
 ·rintro _ _ ⟨B,rfl,rfl⟩;repeat' first|refine zJ ?_|fail
  exact zau Ev ⟨B,rfl,rfl⟩
theorem zpK(b m:Nat)(hm:m<1000000000):zhG 207 [.pointer (some ⟨b,0,none⟩)] (.blk b 23 [.slice none 0 0]) (rdV 4 some) (λx R=>∃q A,R= [.blk b 23 [.slice q x.length A],.row (.slice q x.length A) 5 1 x.length (x.map v8)]) m:=by
 intro r s i w hL hs hi hb;refine zaI Tryz.func207 rfl Tryz.ntmps207 q_p hL ?_;have h:=λj (G:Keep (OwnOf [zj r s i,.blk b 23 [.slice none 0 0]]) w j) (H:∀x,OwnOf [zj r s i] x->w.heap.size<=x\/OwnOf [zj r s i,.blk b 23 [.slice none 0 0]] x) (E:Holds j.heap.size (OwnOf [zj r s i]) [zj r s i] j)=>zwG r s i j E (hs.to G H) hi q_o;unfold zbC zbf zbK at h;repeat' first|refine s_0 ?_|refine zf 0 ?_;refine zk λ_=>?_|refine q_k 1 ?_;refine zm ?_;(refine q_s (za2 (f:=209) (C:=[zj r s i]) (F0 (r':=zj r s i) (by repeat (first|exact Eu|apply Ew)) rfl F2) (hc:=λj G hm E=>h j G hm E)) ?_;rintro _ _ ⟨R,rfl,(⟨x,I,k,u,S,B,J,K,⟨q,A,rfl,rfl⟩,rfl,rfl⟩|⟨B,e,u,O,rfl,rfl⟩)⟩);refine zb ?_|(refine zx ?_;first|refine zZ ?_|fail)|fail
 ·repeat' first|refine zap ?_|(refine zx ?_;first|refine q_v (za (hc:=λ_ _ _ _=>(zxc _ _))) ?_|refine q_n (zaO (v:=.slice q x.length A) (hC:=⟨A5 rfl,rfl⟩)) ?_|fail)|fail
  exact zeG rfl q_h ⟨x,I,k,_,B,J,K,⟨rfl,⟨q,A,rfl⟩⟩,rfl⟩
 ·repeat' first|(refine zx ?_;first|refine zbi (hc:=λj _ _ _=>zwV u e O j) ?_|fail)|fail
  exact zau Ev ⟨B,rfl,rfl⟩
theorem zmz(r:Nat)(s:Bs)(i n t:Nat)(w:World)(S:t=160+n)(hn:n<=30)(hL:Holds w.heap.size (OwnOf [zj r s i]) [zj r s i] w)(hs:BsF w (OwnOf [zj r s i]) s)(hi:i<=s.n)(hb:s.n<1000000000):
  FnP Tryz.prog 127 [rdA r,.int .i64 (n:Int)] w (OwnOf [zj r s i]) (RP r s i (rdW t (rdV 4 some)) (λt v R=>zbf t v R)) (RN s i (rdW t (rdV 4 some))):=by
 subst S;refine zaI Tryz.func127 rfl Tryz.ntmps127 q_p hL ?_;have h:=λb q (I:Keep (OwnOf [zj r s i]) w q) (j:∀x,OwnOf [zj r s i,.blk b 23 [.slice none 0 0]] x->w.heap.size<=x\/OwnOf [zj r s i] x) (H:Holds q.heap.size (OwnOf [zj r s i,.blk b 23 [.slice none 0 0]]) [zj r s i,.blk b 23 [.slice none 0 0]] q)=>zgF 207 [.pointer (some ⟨b,0,none⟩)] (.blk b 23 [.slice none 0 0]) (rdV 4 some) (λx R=>∃A B,R= [.blk b 23 [.slice A x.length B],.row (.slice A x.length B) 5 1 x.length (x.map v8)]) s.n hb (en rfl) (zpK b s.n hb) r s i q H (hs.to I j) hi (A7 _) n hn;repeat' first|refine s_0 ?_|refine zf 0 ?_;refine zk λ_=>?_;refine zk λ_=>?_
 rename_i _ E;repeat' first|refine zf 1 ?_;refine zm ?_;refine zb ?_;refine q_v zab ?_;(refine zaQ (f:=118) (C:=[zj r s i,.blk E 23 [.slice none 0 0]]) (F0 (r':=zj r s i) (by repeat (first|exact Eu|apply Ew)) rfl (F0 (r':=.blk E 23 [.slice none 0 0]) (by repeat (first|exact Eu|apply Ew)) rfl F2)) (hc:=λq I j H=>h E q I j H) ?_ ?_)
 ·rintro _ _ ⟨x,J,k,_,G,K,O,⟨rfl,⟨A,B,rfl⟩⟩,rfl⟩;repeat' first|refine s_0 ?_|refine zf 2 ?_;refine zm ?_;refine zP ?_
  exact zd8 rfl (zdD rfl (ty rfl) rfl Ey rfl) q_h ⟨x,J,k,_,G,K,O,⟨A,B,rfl,rfl⟩,rfl⟩
 ·rintro _ _ ⟨G,rfl,rfl⟩;repeat' first|refine zJ ?_|fail
  exact zau Ev ⟨G,rfl,rfl⟩
end Go.Proofs.YtdnlngbjpdbffaaGreatDoor
namespace Go.Sy
open RowKit
variable {P:Program}{N:Nat}{w0:World}{M:Nat->Prop}{F:Fence}{n:Nat}
theorem ziZ{g:Nat->Option Value}{L:List Res}{a:Act}{cs:List Frame} :∀(q:List Nat) (fr:Frame) (w:World),fr.mode= .returning->fr.defers=q.map col->F.fn fr.fn->F.room (cs.length+1+n)->St N w0 M [] g (L++q.map dob) a w->
  ∃A,StepsIn (Machine.fenced P F) P (lone fr cs w) (lone { fr with defers:=[] } cs A)/\St N w0 M [] g L a A
 | [],fr,w,_,hd,_,_,hs=>⟨w,by rw[show({ fr with defers:=[] } :Frame)=fr by cases fr;cases hd;rfl];exact .refl _,by simpa using hs⟩
 |D::q,fr,w,hm,hd,hF,hroom,hs=>by
  have j:=hs.perm (L':=dob D::(L++q.map dob)) (by simpa using List.perm_middle);have I:w.heap[D]?=some (.deferred (some [])):=j.hold.all _ A3;have H:=step_collected (P:=P) (cs:=cs) (fr:=fr) (by rw[hm];simp) hd rfl (run_takeDeferred I);have i1:(lone fr cs w).fenced P F:=fenced_out hF hroom (by rw[hm];simp) hd (λg J=>by simp[Target.leads,col] at J);obtain⟨A,G,E⟩:=ziZ q { fr with defers:=[]++q.map col } _ hm rfl hF hroom ⟨j.size,j.agr,j.keep.trans FE (λx O=>by rw[show x=D from O];exact j.hold.mine _ A3 D rfl),j.hold.tail.keep FE (λr K b hb B=>(Ah.1 j.hold.apart).1 r K D rfl (by rw[<-show b=D from B];exact hb))⟩;exact⟨A,.head i1 H G,E⟩
def zr4(N:Nat)(w0:World)(M:Nat->Prop)(c₀:Frame)(cs:List Frame)(post:FrameMode->List Res->Prop):Exit->Act->List Frame->World->Prop
 | .normal,a,cs',w| .ret,a,cs',w=>∃u' g L R,cs'= { c₀ with mode:=u' } ::cs/\StD N w0 M [] g L a w/\SubR R L/\post u' R
 |_,_,_,_=>False
theorem zyV{f:FuncId}{fn:Func}{c:Code}{args:List Value}{u:FrameMode}{w:World}{post:FrameMode->List Res->Prop}(V:P.funcs[f]?=some fn)(hb:fn.body=some c)(hr:fn.results= #[])
  (h:∀(E:Frame) (cs:List Frame),E.mode=u->c.wpSIn Fence.wide 0 P (zr4 N w M E cs post) { tmps:=args.toArray++Array.replicate (fn.ntmps-args.toArray.size) undef,defers:=[] } (E::cs) w):FnD P f args u w M post:=by
 refine⟨trivial,λE cs hu j=>?_⟩;let b:Frame:={ (default:Frame) with fn:=f,kind:=.deferred,roundOf:=none };have B:Frame.enter P f args.toArray .deferred =
   b.atR { tmps:=args.toArray++Array.replicate (fn.ntmps-args.toArray.size) undef,defers:=[] } [.code c]:=by
  simp[Frame.enter,Frame.atR,V,hb,b]
 obtain⟨e,K,Y,X,Z,I,q⟩:=h E cs hu b [] rfl rfl trivial j;rw[<-B] at q;cases e with
 |normal=>
  obtain⟨S,g,L,R,rfl,⟨J,G,hs⟩,U,W⟩:=I;obtain⟨T,H,A⟩:=ziZ (F:=Fence.wide) (n:=0) (cs:={ E with mode:=S } ::cs) J { b.atR K [] with mode:=.returning } X rfl (by rw[<-AJ (J.map col),<-G];rfl) trivial j hs;exact⟨.returned (.tuple #[]),S,T,_,⟨_,R,rfl,W,A.keep,A.hold.subR U⟩,StepsIn.trans q (.head (fenced_calm (fr:=b.atR K []) trivial j rfl) (stepR_end rfl) H),rfl,rfl,rfl,rfl,fn,V,results0 hr K T⟩
 |ret=>
  obtain⟨S,g,L,R,rfl,⟨J,G,hs⟩,U,W⟩:=I;obtain⟨todo,O⟩:=q.1 rfl;obtain⟨T,H,A⟩:=ziZ (F:=Fence.wide) (n:=0) (cs:={ E with mode:=S } ::cs) J { b.atR K todo with mode:=.returning } X rfl (by rw[<-AJ (J.map col),<-G];rfl) trivial j hs;exact⟨.returned (.tuple #[]),S,T,_,⟨_,R,rfl,W,A.keep,A.hold.subR U⟩,StepsIn.trans O H,rfl,rfl,rfl,rfl,fn,V,results0 hr K T⟩
 |panic chain=>exact I.elim
 |exit id=>exact I.elim
 |goto l=>exact I.elim
 |outgrown=>exact I.elim
theorem znp{id d:Nat}{o:Oper}{l:List Oper}{Q:Exit->Act->List Frame->World->Prop}{a:Act}{cs q:List Frame}{w:World}{v0:Value}(X:F.round=none)(hx:∀(ρ:Operand->Value) w,(execOp ρ o).run P w= .ok .recover w)(U:∀f,o.about P w a.eval=some f->F.fn f)
  (hw:Region.wanted o (yielded (o::l).toArray a.tmps)=true)(Z:o.dst=some d)(G:recoverD cs=some (v0,q)\/(recoverD cs=none/\v0= .nilIface/\q=cs))
  (h:wpListIn F n P (o::l).toArray (λe J S=>Q e J q S) l (a.put (some d) v0) w):(Code.region id (o::l).toArray false).wpSIn F n P Q a cs w:=by
 intro b k hb W T A;have E:q.length=cs.length:=by
  rcases G with h|⟨_,_,h⟩
  ·exact recoverD_length h
  ·rw[h]
 have V:((o::l).toArray)[0]?=some o:=rfl;have B:List.range (o::l).toArray.size=0::List.range' 1 l.length:=by
  rw[Eb];simp[List.range']
 have H:wpOpsIn F n P (o::l).toArray (λe J S=>Q e J q S) (List.range' 1 l.length) (a.put (some d) v0) w:=by
  rw[wpOpsIn_eq_wpListIn l 1 (λj=>by simp[Cz 1 j])];exact h
 obtain⟨e,J,S,hq,K⟩:=wp_opsIn (List.range' 1 l.length) _ w H b k q (W.trans X.symm) T (E ▸ A);have hk:(b.atR a (.inRegion (o::l).toArray (0::List.range' 1 l.length)::k)).kind= .deferred:=hb;have I:=tryRecover_deferred hk cs;have Y:=stepGR_op (P:=P) (b:=b) (a:=a) (k:=k) (cs:=cs) (w:=w) (rest:=List.range' 1 l.length) V hw;rw[W,Oper.semAt_none] at Y;have O:∀v,(b.atR a (.inRegion (o::l).toArray (0::List.range' 1 l.length)::k)).finish v=b.atR (a.put o.dst v) (.inRegion (o::l).toArray (List.range' 1 l.length)::k):=by
  intro v;rw[Frame.finish_atR,V];rfl
 have h0:(lone (b.atR a (.inRegion (o::l).toArray (0::List.range' 1 l.length)::k)) cs w).fenced P F:=fenced_oper T A V U;have hstep:step P (lone (b.atR a (.inRegion (o::l).toArray (0::List.range' 1 l.length)::k)) cs w)= .next (lone (b.atR (a.put (some d) v0) (.inRegion (o::l).toArray (List.range' 1 l.length)::k)) q w):=by
  refine step_lone_go ?_;rw[Y,<-Z,<-O];simp only[Frame.atR,W] at I ⊢;rcases G with h|⟨h,rfl,rfl⟩
  ·simp[stepG.apply,hx,I,h]
  ·simp[stepG.apply,hx,I,h]
 have R:=stepR_region (P:=P) (b:=b) (a:=a) (k:=k) (cs:=cs) (w:=w) (id:=id) (ops:=(o::l).toArray);rw[B] at R;exact⟨e,J,q,S,E,hq,.of_steps (.head (fenced_calm T A rfl) R (.one h0 hstep)) K⟩
def DQ(N:Nat)(w0:World)(M:Nat->Prop)(post:FrameMode->List Res->Prop)(u1:FrameMode):Exit->Act->World->Prop
 | .normal,a,w| .ret,a,w=>∃g L R,StD N w0 M [] g L a w/\SubR R L/\post u1 R
 |_,_,_=>False
theorem zlv{post:FrameMode->List Res->Prop}{u1:FrameMode}{fr:Fr}{L R:List Res}(j:SubR R L)(hp:post u1 R):SyX N w0 M [] (DQ N w0 M post u1 .normal) fr L:=λ_ _ hs=>⟨_,_,R,hs,j,hp⟩
def zAb(u:FrameMode)(v0:Value)(u1:FrameMode):Prop:=(u= .panicking (pch v0)/\u1= .panicking [{ v:=v0,recovered:=true }])\/(u= .returning/\v0= .nilIface/\u1= .returning)
theorem zhk{f:Nat}{fn:Func}{id d:Nat}{o:Oper}{l:List Oper}{rest:Code}{args:List Value}{u u1:FrameMode}{v0:Value}{w:World}{post:FrameMode->List Res->Prop}{L0:List Res}(X:P.funcs[f]?=some fn)(hb:fn.body=some (.seq (.region id (o::l).toArray false) rest))(hr:fn.results= #[])(hn:fn.ntmps=N)(Y:args.length<=N)
  (hx:∀(ρ:Operand->Value) w,(execOp ρ o).run P w= .ok .recover w)(W:o.dst=some d)(K:Nat.blt d N=true)(O:o.guard=none)(E:zAb u v0 u1)(hL:Holds w.heap.size M L0 w)
  (h:∀Q:Exit->Act->World->Prop,(∀fr L,Sy P none N w M [] rest (DQ N w M post u1) fr L->SyX N w M [] (Q .normal) fr L)->SyL P none N w M [] (o::l).toArray Q l ((d,v0)::zd6 0 args) L0):FnD P f args u w M post:=by
 refine zyV (N:=N) X hb hr λq j hu=>?_;have A:St N w M [] (get (zd6 0 args)) (L0++([]:List Nat).map dob) { tmps:=args.toArray++Array.replicate (fn.ntmps-args.toArray.size) undef,defers:=[] } w:=by
  refine⟨by simp;omega,λt v Z=>?_,Fl _ _,by simpa using hL⟩;have:=zhg args 0 t v Z;simp only[CD] at this;have S:t<args.length:=(AR.1 this.2).1;rw[E0 (by simpa using S)];simpa using this.2
 refine wpSIn_seq ?_;have J:recoverD (q::j)=some (v0,{ q with mode:=u1 } ::j)\/(recoverD (q::j)=none/\v0= .nilIface/\({ q with mode:=u1 } :Frame)::j=q::j):=by
  rcases E with ⟨rfl,rfl⟩|⟨rfl,rfl,rfl⟩
  ·refine .inl ?_;simp only[recoverD,hu,pch]
  ·refine .inr ⟨by simp only[recoverD,hu],rfl,?_⟩;rw[<-hu]
 refine znp (F:=Fence.wide) (d:=d) rfl hx (λ_ _=>trivial) (by unfold Region.wanted;rw[O]) W J ?_;refine h (λe U T=>Exit.thenS (rest.wpSIn Fence.wide 0 P (zr4 N w M q j post)) (zr4 N w M q j post) e U ({ q with mode:=u1 } ::j) T) ?_ _ w ⟨[],rfl,A.put (A5 K) v0 A.keep A.hold⟩;intro fr L V a T hs;refine wpSIn_of_wpIn rfl (wpIn_mono (V a T hs) ?_);intro e a2 w2 B;cases e with
 |normal=>obtain⟨g,L,R,G,H,I⟩:=B;exact⟨u1,g,L,R,rfl,G,H,I⟩
 |ret=>obtain⟨g,L,R,G,H,I⟩:=B;exact⟨u1,g,L,R,rfl,G,H,I⟩
 |panic _=>exact B.elim
 |exit _=>exact B.elim
 |goto _=>exact B.elim
 |outgrown=>exact B.elim
theorem zhb{e:Exit}{u:FrameMode}{f:Nat}{fn:Func}{cap:List Value}{q:List Nat}{fr:Fr}{L C L1:List Res}{j:FrameMode->List Res->Prop}{post:Value->List Res->Prop}(hu:(e= .ret/\u= .returning)\/(∃v,e= .panic (pch v)/\u= .panicking (pch v)))
  (hC:RemL L C L1)(hc:∀w,Keep M w0 w->(∀b,OwnOf C b->w0.heap.size<=b\/M b)->Holds w.heap.size (OwnOf C) C w->FnD P f cap u w (OwnOf C) j)
  (K:∀B A,j B A->settle B= .returning/\∃v R,(∀a w,St N w0 M [] (get fr) (A++L1) a w->(results fn a.tmps).run P w= .ok v w)/\SubR R (A++L1)/\post v R)
  (he:∀args w,(callFunc f args).run P w= .ok (.enter f args) w:=by exact en rfl):SyX N w0 M (dfn f cap::(q.map col++[])) (bodyPostM Fence.wide 0 P fn (FnR w0 M post) e) fr (L++q.map dob):=by
 intro a w hs;have key:∀u,u≠ .run->(∀w,Keep M w0 w->(∀b,OwnOf C b->w0.heap.size<=b\/M b)->Holds w.heap.size (OwnOf C) C w->FnD P f cap u w (OwnOf C) j)->LeavesInM Fence.wide 0 P fn a.tmps (FnR w0 M post) a.defers u w:=λu hu hc=>
  zox hu he hC (λ_ h=>h) (λw X O E=>hc w O (zh8 hC E) (zhN hC E)) (λB A h=>by
   obtain⟨G,v,R,H,I,J⟩:=K B A h;exact⟨G,λa w hs=>⟨v,H a w hs,v,R,rfl,J,hs.keep,hs.hold.subR I⟩⟩) hs
 rcases hu with ⟨rfl,rfl⟩|⟨v,rfl,rfl⟩
 ·exact key _ q_p hc
 ·exact key _ q_p hc
variable {ro:Option Nat}{ds:List Deferred}{g:Nat->Option Value}{L:List Res}{o:Oper}{x:Operand}
theorem ziW{t q:TypeId}{v:Value}{d:TypeDesc}(A:P.underlying t=some d)(hn:∀B,d≠ .interface B)(j:o.op= .typeAssert x q t true:=by exact rfl)(hx:ev g x=some (.iface t v):=by exact rfl):OpT P ro N w0 M ds o g L (Det (.tuple #[v,.bool true]) L):=
 F4 (by rw[j];rfl) λa w X hs=>by
  have h:(Instr.typeAssert (.iface t v) q t true).run P w= .ok (.tuple #[v,.bool true]) w:=by
   simp only[Instr.typeAssert,Sem.run_bind,run_underlying A,Result.andThen_ok];cases d <;> first|simp;done|exact absurd rfl (hn _)
  simp[execOp,j,hs.agr.eval hx,h]
theorem zjd{t q:TypeId}{zv:Value}{d:TypeDesc}(A:P.underlying t=some d)(hn:∀B,d≠ .interface B)(hz:∀w:World,(zeroValue t).run P w= .ok zv w)(j:o.op= .typeAssert x q t true:=by exact rfl)(hx:ev g x=some .nilIface:=by exact rfl):OpT P ro N w0 M ds o g L (Det (.tuple #[zv,.bool false]) L):=
 F4 (by rw[j];rfl) λa w X hs=>by
  have h:(Instr.typeAssert .nilIface q t true).run P w= .ok (.tuple #[zv,.bool false]) w:=by
   simp only[Instr.typeAssert,Sem.run_bind,run_underlying A,Result.andThen_ok];cases d <;> first|simp[hz];done|exact absurd rfl (hn _)
  simp[execOp,j,hs.agr.eval hx,h]
end Go.Sy
