/- Lemmas of this proof. -/
import Derived.Test.YtdnlngbjpdbffaaGreatDoorHJ36
set_option maxHeartbeats 4000000
set_option maxRecDepth 10000
set_option linter.all false
namespace Go.Ct
open Go Go.Sy
variable (sv:Int->List UInt8->Bool)(sf:Int->List UInt8->List UInt8->List UInt8->Bool)
theorem zgq(e:Int)(es:List Int):zg5 (e::es)=if e=0 then zg5 es else e:=by
 unfold zg5;rw[List.find?_cons];by_cases h:e=0
 ·simp[h]
 ·simp[h]
theorem ztN:zg5 []=0:=rfl
theorem zrh{x:Cert}{X:Anch}{u:Bool}{rs:List Revo}{now i:Int}{first:Bool}(m:decide (i=0)=first)(hu:u=x.issuer.same X.name)(q:u=true->sv X.group X.pub=true)(j:x.ok sv=true):
  zg5 [if u then 0 else 220,zhL sv sf x X.group X.pub,if now<x.fr\/x.til<now then 222 else 0,if zdI rs x then 223 else 0,if (!decide (i=0) && !x.auth)=true then 224 else 0]=zds sf x X rs now first:=by
 subst m;unfold zds zhL;rw[<-hu];cases u
 ·rw[zgq];rfl
 ·rw[zgq,if_pos rfl,if_pos rfl,zgq,j,q rfl];simp only[zgq,ztN,Bool.and_self,if_true,DZ];cases sf X.group X.pub x.body x.sig
  ·simp
  ·by_cases ht:now<x.fr\/x.til<now
   ·simp[ht]
   ·cases hr:zdI rs x
    ·cases hz:(!decide (i=0) && !x.auth) <;> simp[ht]
    ·simp[ht]
end Go.Ct
namespace Go.Proofs.YtdnlngbjpdbffaaGreatDoor
open Go Go.Sy Go.Ct Go.Nt Go.RowKit
attribute [local irreducible] Sy SyL SyX SyC SyF Sy.Fn callFunc
def zgR(a0:Anch)(l:List Cert)(k:Nat):Anch:=match l[k]? with
 |none=>a0
 |some x=>⟨x.subject,x.group,x.pub⟩
theorem zlH{j:List Anch}{p:Prin}{x:Anch}(h:j.find? (λa=>a.name.same p)=some x):zen j p=x/\x∈j/\x.name.same p=true:=⟨by unfold zen;rw[h];rfl,List.mem_of_find?_eq_some h,by have:=List.find?_some h;simpa using this⟩
theorem zhs(a aa ar:Option Addr)(n c na ca nr cr:Nat)(ps:List Pl)(l:List Cert)(b1:List Pa)(A:List Anch)(e5:List (Option Addr×Nat))(rs:List Revo)(now:Int)(w:World)(hG:GT w)(hT:Tab w No)(hS:ST w)
  (hn:l.length=n)(c5:A.length=na)(c6:rs.length=nr)(h:zck w a c ps l)(hA:zeI w aa ca b1 A)(hR:zcP w ar cr e5 rs)(hf:∀x∈l,x.fine)(c0:∀x∈A,x.name.fine)(e8:∀x∈rs,x.issuer.fine)(hb:n<1000)(h4:na<1000)(h5:nr<1000):
  q_G 25 [.slice a n c,.slice aa na ca,.slice ar nr cr,.int .i64 now] w (.tuple #[.int .i64 (verify sfK svK l A rs now).1,.int .i64 (verify sfK svK l A rs now).2]):=by
 refine zz Tryz.func25 Tryz.ntmps25 ?_;have c3:=λq (r:Keep No w q)=>h.keep r (λp x hx=>hx.keep r);have f8:=λq (r:Keep No w q)=>hA.keep r (λp x hx=>hx.keep r);have f9:=λq (r:Keep No w q)=>hR.keep r (λp x hx=>hx.keep r);have H:=λq (r:Keep No w q)=>zgH a n c ps l q (hG.to r) hn (c3 q r) hf q_o;have J:=λq (r:Keep No w q)=>zt0 aa na ca b1 A q (hG.to r) c5 (f8 q r) c0 q_o;have Q:=λq=>zjO now q;have b0:zeg svK l A rs now=(zaF svK l&&(decide (A.length<=64)&&A.all (Anch.ok svK))&&decide (rs.length<=64)&&zdH now):=by unfold zeg zdH;simp only[EU]
 unfold verify;rw[b0,c6];have a9:zaF svK l=false\/(zaF svK l=true/\(decide (A.length<=64)&&A.all (Anch.ok svK))=false)\/(zaF svK l=true/\(decide (A.length<=64)&&A.all (Anch.ok svK))=true/\64<nr)\/(zaF svK l=true/\(decide (A.length<=64)&&A.all (Anch.ok svK))=true/\nr<=64/\zdH now=false)\/(zaF svK l=true/\(decide (A.length<=64)&&A.all (Anch.ok svK))=true/\nr<=64/\zdH now=true):=by
  rcases AK 64 nr with h1|h1 <;> cases zaF svK l <;> cases (decide (A.length<=64)&&A.all (Anch.ok svK)) <;> cases zdH now <;> simp[h1] <;> omega
 rcases a9 with L|⟨L,N⟩|⟨L,N,e3⟩|⟨L,N,e3,e4⟩|⟨L,N,e3,e4⟩
 ·rw[L] at H ⊢;rw[if_neg q_p];repeat' (first|refine s_0 ?_|refine zdk ?_|refine zbO ?_|refine ze 0 ?_;refine zi ?_;intro _;refine z9 ?_;intro _|refine q_k 1 ?_;refine q_v (za (hc:=zr H)) ?_;refine zI ?_;refine zf ?_|refine q_k 2 ?_)
  exact q_r
 ·rw[L] at H ⊢;rw[N] at J ⊢;rw[if_neg q_p];repeat' (first|refine s_0 ?_|refine zdk ?_|refine zbO ?_|refine ze 0 ?_;refine zi ?_;intro _;refine z9 ?_;intro _|refine q_k 1 ?_;refine q_v (za (hc:=zr H)) ?_;refine zI ?_;refine zf ?_;refine q_v (za (hc:=zr J)) ?_;refine zI ?_;refine zf ?_|refine q_k 2 ?_)
  exact q_r
 ·rw[L] at H ⊢;rw[N] at J ⊢;rw[if_neg (by simp;omega)];have g:decide ((nr:Int)>64)=true:=q_d;repeat' (first|refine s_0 ?_|refine zdk ?_|refine zbO ?_|refine ze 0 ?_;refine zi ?_;intro _;refine z9 ?_;intro _|refine q_k 1 ?_;refine q_v (za (hc:=zr H)) ?_;refine zI ?_;refine zf ?_;refine q_v (za (hc:=zr J)) ?_;refine zI ?_;refine zf ?_;refine zl ?_;refine zf ?_;refine q_x (zF (hr:=g)) ?_|refine q_k 2 ?_)
  exact q_r
 ·rw[L] at H ⊢;rw[N] at J ⊢;rw[e4] at Q ⊢;rw[if_neg q_p];have g:decide ((nr:Int)>64)=false:=q_f;repeat' (first|refine s_0 ?_|refine zdk ?_|refine zbO ?_|refine ze 0 ?_;refine zi ?_;intro _;refine z9 ?_;intro _|refine q_k 1 ?_;refine q_v (za (hc:=zr H)) ?_;refine zI ?_;refine zf ?_;refine q_v (za (hc:=zr J)) ?_;refine zI ?_;refine zf ?_;refine zl ?_;refine zf ?_;refine q_x (zF (hr:=g)) ?_;refine zl ?_;refine q_v (za (hc:=q_c Q)) ?_;refine zI ?_;refine zf ?_|refine q_k 2 ?_)
  exact q_r
 have b3:=L;have b4:=N;rw[L] at H;rw[N] at J;rw[e4] at Q;rw[L,N,e4,decide_eq_true e3,if_pos (by rfl)];have g:decide ((nr:Int)>64)=false:=q_f;simp only[zaF,A5,decide_eq_true_eq,AD] at b3 b4;obtain⟨⟨h2,h3⟩,V⟩:=b3;obtain⟨i7,a7⟩:=b4;rw[hn] at h2 h3;obtain⟨a0,b5⟩:∃a0,a0=zen A l[n-1].issuer:=⟨_,rfl⟩;have W:l.reverse=l[n-1]::(l.take (n-1)).reverse:=by
  have h1:=zaI (l:=l) (i:=n-1) q_o;rw[show n-1+1=n by omega,A9 q_o] at h1;exact(congrArg List.reverse h1).trans q_p
 rw[W];dsimp only;rw[<-b5,<-W];have g4:IntKind.i64.wrap ((n:Int)-1)=(n:Int)-1:=IntWalk.i64_in _ q_o;repeat' (first|refine s_t ?_|refine zdk ?_|refine ze 0 ?_;refine zi ?_;intro _;refine z9 ?_;intro _|refine q_k 1 ?_;refine q_v (za (hc:=zr H)) ?_;refine zI ?_;refine zf ?_;refine q_v (za (hc:=zr J)) ?_;refine zI ?_;refine zf ?_;refine zl ?_;refine zf ?_;refine q_x (zF (hr:=g)) ?_;refine zl ?_;refine q_v (za (hc:=q_c Q)) ?_;refine zI ?_;refine zf ?_|refine q_k 3 ?_|refine q_k 4 ?_;refine q_v (zab (hr:=g4)) ?_;refine zi ?_;intro _;refine zJ ?_)
 rename_i b6 b7 K;refine zX (γ:=Nat×Nat) (λg=>[(0,.slice a n c),(1,.slice aa na ca),(6,.pointer (some ⟨b6,0,none⟩)),(7,.pointer (some ⟨b7,0,none⟩)),(12,.pointer (some ⟨g.2,0,none⟩)),(10,.int .i64 0),(11,.int .i64 0)])
  (λg=>[.blk g.2 3 [.int .i64 ((g.1:Int)-1)],.blk b6 38 [.slice ar nr cr],.blk b7 3 [.int .i64 now]]) (λg=>g.1<=n/\zcY sfK rs now l.reverse a0=zcY sfK rs now (l.take g.1).reverse (zgR a0 l g.1)) (λg=>g.1) (n,K) ⟨A8 _,?_⟩ ?_ ?_ ?_
 ·have e:zgR a0 l n=a0:=by unfold zgR;rw[BJ q_o]
  dsimp only;rw[List.take_of_length_le q_o,e]
 ·exact q_h
 ·exact q_h
 clear K;rintro⟨k,K⟩ ⟨r,F⟩;dsimp only at r F ⊢;rcases AM k with c2|c2
 ·subst c2;have g5:decide (((0:Nat):Int)-1>=0)=false:=rfl;have hz:zcY sfK rs now l.reverse a0=(0,0):=F;rw[hz];repeat' (first|refine s_0 ?_|refine zbO ?_|refine ze 5 ?_;refine zl ?_;refine q_v (zai (hr:=g5)) ?_|refine q_k 14 ?_)
  exact q_r
 obtain⟨i,rfl⟩:∃i,k=i+1:=⟨k-1,by omega⟩;have e9:(((i+1:Nat):Int)-1)=((i:Nat):Int):=q_o;rw[e9];have S:i<l.length:=q_o;obtain⟨bl,ol,p,rfl,hp,b8,hc⟩:=h.at (k:=11) q_e (λ_ _=>rfl) (i:=i) S;have d9:l[i]∈l:=AX S;have P:=V l[i] d9;have h7:=hf l[i] d9;obtain⟨X,u,c1,hX,hu,c9⟩:∃(X:Anch) (u:Bool),(∀q,Keep No w q->Sy.Fn Tryz.prog 59 [.slice (some ⟨bl,ol,none⟩) n c,.int .i64 (i:Int),.slice aa na ca] q No (KeyR w X u))/\X=zgR a0 l (i+1)/\u=l[i].issuer.same X.name/\(u=true->svK X.group X.pub=true):=by
  rcases(show i+1<n\/i+1=n by omega) with h1|h1
  ·have Y:i+1<l.length:=q_o;refine⟨⟨l[i+1].subject,l[i+1].group,l[i+1].pub⟩,l[i+1].subject.same l[i].issuer,λq r=>zoo (some ⟨bl,ol,none⟩) n c i ps l _ rfl w q r hn h hf q_o h1,?_,?_,λ_=>?_⟩
   ·unfold zgR;rw[A2 Y]
   ·exact Fj _ _
   ·have:=V l[i+1] (AX Y);simp only[Cert.ok,A5] at this;exact this.2
  ·have O:a0=zen A l[i].issuer:=by
    obtain rfl:n=i+1:=h1.symm;exact b5
   refine⟨a0,(A.find? (λx=>x.name.same l[i].issuer)).isSome,λq r=>?_,?_,?_,?_⟩
   ·rw[O];exact zow (some ⟨bl,ol,none⟩) aa n c na ca i ps l b1 A w q r hn (c3 q r) q_o h1 c5 hA c0 h4
   ·unfold zgR;rw[BJ q_o]
   ·rw[O];cases hfd:A.find? (λx=>x.name.same l[i].issuer) with
    |none=>
     have e0:zen A l[i].issuer=noAnch:=by unfold zen;rw[hfd];rfl
     rw[e0];have:l[i].issuer.same noAnch.name=false:=by
      rw[Cj];intro M;rw[F7] at M;simp only[Cert.ok,A5] at P;have:=P.1.1.1.1.1.1.2;rw[M] at this;simp[Prin.ok,noAnch] at this
     rw[this];rfl
    |some x=>
     obtain⟨e0,_,L⟩:=zlH hfd;rw[e0,Fj,L];rfl
   ·intro M;rw[O];cases hfd:A.find? (λx=>x.name.same l[i].issuer) with
    |none=>rw[hfd] at M;cases M
    |some x=>
     obtain⟨e0,N,_⟩:=zlH hfd;rw[e0];have:=a7 x N;simp only[Anch.ok,A5] at this;exact this.2
 have d8:(l.take (i+1)).reverse=l[i]::(l.take i).reverse:=by rw[zaI S];simp
 have c7:(⟨l[i].subject,l[i].group,l[i].pub⟩:Anch)=zgR a0 l i:=by unfold zgR;rw[A2 S]
 have b9:(l.take i).reverse.isEmpty=decide ((i:Int)=0):=by
  cases i with
  |zero=>rfl
  |succ i=>
   rw[decide_eq_false (show ¬(((i+1:Nat):Int)=0) by omega),List.isEmpty_eq_false_iff,ne_eq,List.reverse_eq_nil_iff];intro e;have:=congrArg List.length e;rw[Ad,Cd] at this;omega
 have c4:(l.take i).reverse.length=i:=by rw[CE,Ad];omega
 rw[d8,<-hX,zcY,b9,c4,c7] at F;have hex:=zrh svK sfK (rs:=rs) (now:=now) (i:=(i:Int)) (first:=decide ((i:Int)=0)) rfl hu c9 P;have hC:(zE p l[i]).length=11:=rfl;have e6:(zE p l[i]).all (·.oneCell')=true:=rfl;clear hX hu c9 c7 d8;generalize l[i]=x at*;generalize zds sfK x X rs now (decide ((i:Int)=0))=E at*;have g5:decide ((i:Int)>=0)=true:=q_d;repeat' (first|refine s_t ?_|refine ze 5 ?_;refine zl ?_;refine q_v (zai (hr:=g5)) ?_|refine q_k 7 ?_;refine zl ?_;refine q_v (zS (j:=i)) ?_;refine q_v (zK (hv:=hc) (hz:=hC.symm)) ?_;refine zi ?_;intro _;refine q_n (zA (B:=zE p x) (hv:=e6) (h1:=hC.symm) (hC:=by exact hC.symm)) ?_)
 rename_i I;repeat' (first|refine s_0 ?_|refine q_k 8 ?_;refine zl ?_;refine zf ?_;(refine q_s (zn (hc:=zr c1)) ?_;rintro _ _ ⟨R,rfl,s,rfl,h6,c8,rfl⟩);refine zf ?_;refine zi ?_;intro _;refine zi ?_;intro _;refine q_n (zA (h1:=rfl)) ?_;refine zJ ?_)
 rename_i Z a6;repeat' (first|refine ze 9 ?_;refine q_v zZ ?_;refine q_v zZ ?_;refine q_v zZ ?_;refine q_v zZ ?_;refine q_v zZ ?_;(refine q_s zD ?_;rintro _ _ ⟨bL,rfl,rfl⟩))
 have a8:∀(q:World),Keep No w q->q.rangeAt a6 0 [.bool u]->q.rangeAt Z 0 [.int .i64 X.group,s.val]->q.rangeAt I 0 (zE p x)->q.rangeAt K 0 [.int .i64 (i:Int)]->q.rangeAt b6 0 [.slice ar nr cr]->q.rangeAt b7 0 [.int .i64 now]->
   q.rangeAt bL 0 [.func (.func 61) #[] #[.pointer (some ⟨a6,0,none⟩)],.func (.func 63) #[] #[.pointer (some ⟨I,0,none⟩),.pointer (some ⟨Z,0,none⟩)],.func (.func 64) #[] #[.pointer (some ⟨b7,0,none⟩),.pointer (some ⟨I,0,none⟩)],.func (.func 65) #[] #[.pointer (some ⟨I,0,none⟩),.pointer (some ⟨b6,0,none⟩)],.func (.func 67) #[] #[.pointer (some ⟨K,0,none⟩),.pointer (some ⟨I,0,none⟩)]]->
   q_G 60 [.slice (some ⟨bL,0,none⟩) 5 5] q (.int .i64 E):=by
  intro q r i5 h9 U h8 r6 r7 rL;rw[<-hex];refine zv7 bL 5 5 _ _ q rfl rfl q_e rL (λj e M e7=>?_);have hj:j<5:=(AL.1 M).1;have T:=λ{G:World}{b:Nat}{B:List Value}(m:Keep No q G) (h:q.rangeAt b 0 B)=>zaW h m (λh=>h);rcases(show j=0\/j=1\/j=2\/j=3\/j=4 by omega) with rfl|rfl|rfl|rfl|rfl
  ·cases M;exact⟨_,[_],rfl,en rfl,λG m=>zsD a6 u G (T m i5 0 _ rfl)⟩
  ·cases M;rw[<-h6];exact⟨_,[_,_],rfl,en rfl,λG m=>ztd I Z p x X.group s G ((hG.to r).to m) ((hT.no r).no m) ((hS.to r).to m) (T m U) (T m h9) ((b8.keep r).keep m) h7 ((c8.keep r).keep m)⟩
  ·cases M;exact⟨_,[_,_],rfl,en rfl,λG m=>zt6 b7 I p x now G (T m r7 0 _ rfl) (T m U)⟩
  ·cases M;exact⟨_,[_,_],rfl,en rfl,λG m=>zsK I b6 p x ar nr cr e5 rs G (T m U) (T m r6 0 _ rfl) ((b8.keep r).keep m) ((f9 q r).keep m (λp x hx=>hx.keep m)) c6 e8 h5⟩
  ·cases M;exact⟨_,[_,_],rfl,en rfl,λG m=>zs5 K I p x (i:Int) G (T m h8 0 _ rfl) (T m U)⟩
 refine q_v (za (hc:=λq X' r hh=>a8 q r (zq (hh.has q_h) Em) (zq (hh.has q_h) Em) (zq (hh.has q_h) Em) (zq (hh.has q_h) Em) (zq (hh.has q_h) Em) (zq (hh.has q_h) Em) (zq (hh.has q_h) Em))) ?_;have g6:IntKind.i64.wrap ((i:Int)-1)=(i:Int)-1:=IntWalk.i64_in _ q_o;by_cases hE:E=0
 ·rw[if_pos hE] at F;have g7:decide (E≠0)=false:=decide_eq_false (λh=>h hE);subst hE;repeat' (first|refine s_0 ?_|refine q_k 10 ?_;refine q_v (zV (hr:=g7)) ?_|refine ze 12 ?_;refine zl ?_|refine ze 13 ?_;refine zi ?_;intro _;refine zJ ?_|refine ze 6 ?_;refine zl ?_;refine q_v (zab (hr:=g6)) ?_;refine zJ ?_|(refine zx ?_;first|refine zo ?_|fail)|fail)
  rename_i b2;refine zQ (i,b2) ⟨by dsimp only;omega,F⟩ ?_ ?_ ?_
  ·show i<i+1;omega
  ·exact q_h
  ·exact q_h
 ·rw[if_neg hE] at F;rw[F];have g7:decide (E≠0)=true:=decide_eq_true hE;repeat' (first|refine s_0 ?_|refine zbO ?_|refine q_k 10 ?_;refine q_v (zV (hr:=g7)) ?_|refine ze 11 ?_;refine zl ?_;refine zf ?_|refine q_k 14 ?_|(refine zx ?_;first|refine zo ?_|fail)|fail)
  exact q_r
end Go.Proofs.YtdnlngbjpdbffaaGreatDoor
namespace Go.Ct
open Go Go.Sy
theorem zn9(p k:Nat):(p:Int).tmod (k:Int)=((p%k:Nat):Int):=rfl
theorem u8M(x:Nat):IntKind.u8.wrap ((x%256:Nat):Int)=Wd.n8 (UInt8.ofNat x):=by rw[u8N,Wd.n8_of_nat,Wd.n8_of_nat,Ef]
theorem zpv(v:Nat):∀(n k:Nat),k<n->(beN v n)[k]?=some (UInt8.ofNat (v/256^(n-1-k)))
 |n+1,0,_=>by rw[beN,CW];simp
 |n+1,k+1,h=>by
  rw[beN,BS,zpv v n k q_o,show n+1-1-(k+1)=n-1-k by omega]
theorem zuh(v n k:Nat)(h:k<n):(beN v n).take (k+1)=(beN v n).take k++[UInt8.ofNat (v/256^(n-1-k))]:=by
 rw[CA,zpv v n k h];rfl
end Go.Ct
namespace Go.Proofs.YtdnlngbjpdbffaaGreatDoor
open Go Go.Sy Go.Ct Go.Nt Go.RowKit
attribute [local irreducible] Sy SyL SyX SyC SyF Sy.Fn callFunc
theorem zvk(t:Nat)(s:Bs)(w:World)(N:t<256)(I:s.ok w)(hb:s.l.length<16777216):Sy.Fn Tryz.prog 85 [.int .i64 (t:Int),s.val] w No (zbA (tlv t s.l)):=by
 refine zz Tryz.func85 Tryz.ntmps85 ?_;obtain⟨a,n,c,l⟩:=s;have F:=I.len;have B:=I.sla;have A:=I.nil;dsimp only at F B A hb ⊢;rw[show(⟨a,n,c,l⟩:Bs).val= .slice a n c from rfl];obtain⟨H,G⟩:∃H,H=UInt8.ofNat t::zce n:=⟨_,rfl⟩;have E:tlv t l=H++l:=by rw[G];unfold tlv;rw[F];rfl
 have L:H.length<=5:=by rw[G,AO];have:=zjr n;omega
 have m:H.map v8= .int .u8 (t:Int)::(zce n).map v8:=by rw[G,As,<-v8_lit t N]
 rw[zoY] at m;have g0:IntKind.u8.wrap (t:Int)=(t:Int):=IntWalk.u8_in _ q_o;have g1:=u8N n;have g2:=u8M n;have g3:=u8N (n/256);have g4:=u8M (n/256);have g5:=u8N (n/65536);have J:IntKind.i64.wrap ((n:Int).tdiv 256)=((n/256:Nat):Int):=zfJ (k:=256) q_o;have O:IntKind.i64.wrap ((n:Int).tdiv 65536)=((n/65536:Nat):Int):=zfJ (k:=65536) q_o;have K:(n:Int).tmod 256=((n%256:Nat):Int):=zn9 n 256;have P:((n/256:Nat):Int).tmod 256=((n/256%256:Nat):Int):=zn9 (n/256) 256;rw[E];repeat' (first|refine s_0 ?_|refine zL [0,1] ?_;refine zf ?_|refine q_k 2 ?_;refine q_v (zaw (hr:=g0)) ?_;(refine q_s zD ?_;rintro _ _ ⟨_,rfl,rfl⟩);refine zf ?_)
 rename_i R;refine zda (γ:=Option Addr×Nat) (λg=>[(1,.slice a n c),(6,.slice g.1 H.length g.2)]) (λg=>[.row (.slice g.1 H.length g.2) 5 1 H.length (H.map v8)]) (λ_=>True) ?_ ?_
 ·have M:n<128\/(128<=n/\n<256)\/(256<=n/\n<65536)\/65536<=n:=q_o;rcases M with h|h|h|h
  ·rw[if_pos h] at m;have e: [Value.int .u8 (t:Int)]++[.int .u8 (Wd.n8 (UInt8.ofNat n))]=H.map v8:=m.symm;have j:1+1=H.length:=by rw[<-A1 v8,<-e];rfl
   have k1:decide ((n:Int)<128)=true:=q_d;repeat' (first|refine s_t ?_|refine q_k 4 ?_;refine q_x (zm (hr:=k1)) ?_|refine q_k 5 ?_;refine q_v (zaw (hr:=g1)) ?_;(refine q_s zD ?_;rintro _ _ ⟨_,rfl,rfl⟩);(refine q_s (zbp (hys:=e) (hkm:=j)) ?_;rintro _ _ ⟨rfl,q,r,rfl⟩);refine zf ?_)
   exact zam (q,r) trivial q_h q_h
  ·rw[if_neg q_o,if_pos h.2] at m;have e: [Value.int .u8 (t:Int)]++[.int .u8 129,.int .u8 (Wd.n8 (UInt8.ofNat n))]=H.map v8:=m.symm;have j:1+2=H.length:=by rw[<-A1 v8,<-e];rfl
   have k1:decide ((n:Int)<128)=false:=q_f;have k2:decide ((n:Int)<256)=true:=q_d;repeat' (first|refine s_t ?_|refine q_k 4 ?_;refine q_x (zm (hr:=k1)) ?_|refine q_k 6 ?_;refine q_x (zm (hr:=k2)) ?_|refine q_k 7 ?_;refine q_v (zaw (hr:=g1)) ?_;(refine q_s zD ?_;rintro _ _ ⟨_,rfl,rfl⟩);(refine q_s (zbp (hys:=e) (hkm:=j)) ?_;rintro _ _ ⟨rfl,q,r,rfl⟩);refine zf ?_)
   exact zam (q,r) trivial q_h q_h
  ·rw[if_neg q_o,if_neg q_o,if_pos h.2] at m;have e: [Value.int .u8 (t:Int)]++[.int .u8 130,.int .u8 (Wd.n8 (UInt8.ofNat (n/256))),.int .u8 (Wd.n8 (UInt8.ofNat n))]=H.map v8:=m.symm;have j:1+3=H.length:=by rw[<-A1 v8,<-e];rfl
   have k1:decide ((n:Int)<128)=false:=q_f;have k2:decide ((n:Int)<256)=false:=q_f;have k3:decide ((n:Int)<65536)=true:=q_d;repeat' (first|refine s_t ?_|refine q_k 4 ?_;refine q_x (zm (hr:=k1)) ?_|refine q_k 6 ?_;refine q_x (zm (hr:=k2)) ?_|refine q_k 8 ?_;refine q_x (zm (hr:=k3)) ?_|refine q_k 9 ?_;refine q_v (zcp (hr:=J)) ?_;refine q_x (zaw (hr:=g3)) ?_;refine q_v (zcU (hr:=K)) ?_;refine q_v (zaw (hr:=g2)) ?_;(refine q_s zD ?_;rintro _ _ ⟨_,rfl,rfl⟩);(refine q_s (zbp (hys:=e) (hkm:=j)) ?_;rintro _ _ ⟨rfl,q,r,rfl⟩);refine zf ?_)
   exact zam (q,r) trivial q_h q_h
  ·rw[if_neg q_o,if_neg q_o,if_neg q_o] at m;have e: [Value.int .u8 (t:Int)]++[.int .u8 131,.int .u8 (Wd.n8 (UInt8.ofNat (n/65536))),.int .u8 (Wd.n8 (UInt8.ofNat (n/256))),.int .u8 (Wd.n8 (UInt8.ofNat n))]=H.map v8:=m.symm;have j:1+4=H.length:=by rw[<-A1 v8,<-e];rfl
   have k1:decide ((n:Int)<128)=false:=q_f;have k2:decide ((n:Int)<256)=false:=q_f;have k3:decide ((n:Int)<65536)=false:=q_f;repeat' (first|refine s_t ?_|refine q_k 4 ?_;refine q_x (zm (hr:=k1)) ?_|refine q_k 6 ?_;refine q_x (zm (hr:=k2)) ?_|refine q_k 8 ?_;refine q_x (zm (hr:=k3)) ?_|refine q_k 3 ?_;refine q_v (zcp (hr:=O)) ?_;refine q_x (zaw (hr:=g5)) ?_;refine q_v (zcp (hr:=J)) ?_;refine q_v (zcU (hr:=P)) ?_;refine q_x (zaw (hr:=g4)) ?_;refine q_v (zcU (hr:=K)) ?_;refine q_v (zaw (hr:=g2)) ?_;(refine q_s zD ?_;rintro _ _ ⟨_,rfl,rfl⟩);(refine q_s (zbp (hys:=e) (hkm:=j)) ?_;rintro _ _ ⟨rfl,q,r,rfl⟩);refine zf ?_)
   exact zam (q,r) trivial q_h q_h
 rintro⟨Q,S⟩ -;dsimp only;have e:H.map v8++l.map v8=(H++l).map v8:=B2.symm;have j:H.length+n=(H++l).length:=by rw[List.length_append,F]
 repeat' (first|refine s_0 ?_|refine q_k 10 ?_;(refine q_s (zaB (hr:=F4 B (λ_ _ h=>h)) (hn:=by rw[A1,F,Al]) (hnil:=A) (hys:=e) (hkm:=j)) ?_;rintro _ _ ⟨rfl,q,r,rfl⟩);refine zf ?_)
 exact q_r
theorem zdp(t:Nat)(a:Option Addr)(n c:Nat)(l D:List UInt8)(w:World)(q:t<256)(m:(⟨a,n,c,l⟩:Bs).ok w)(hb:l.length<16777216)(j:D=tlv t l):Sy.Fn Tryz.prog 85 [.int .i64 (t:Int),.slice a n c] w No (zbA D):=by
 subst j;exact zvk t ⟨a,n,c,l⟩ w q m hb
theorem zwl(a:Option Addr)(n c:Nat)(l:List UInt8)(w:World)(q:(⟨a,n,c,l⟩:Bs).ok w)(hb:l.length<16777216):Sy.Fn Tryz.prog 78 [.slice a n c] w No (zbA (zbz l)):=by
 refine zz Tryz.func78 Tryz.ntmps78 ?_;have h:=λj (m:Keep No w j)=>zdp 4 a n c l (zbz l) j q_e (q.keep m) hb rfl;generalize zbz l=D at*;repeat' (first|refine s_0 ?_|refine q_k 0 ?_|refine q_k 1 ?_;(refine q_s (zn (hc:=zr h)) ?_;rintro _ _ ⟨R,rfl,r,A,rfl,rfl⟩);refine zf ?_)
 exact q_r
theorem zdy(n:Nat)(a:Option Addr)(m c:Nat)(l D:List UInt8)(w:World)(hn:n<=30)(j:(⟨a,m,c,l⟩:Bs).ok w)(h0:0<l.length)(hb:l.length<16777216)(r:D=zap n l):Sy.Fn Tryz.prog 77 [.int .i64 (n:Int),.slice a m c] w No (zbA D):=by
 refine zz Tryz.func77 Tryz.ntmps77 ?_;have h:=λq (A:Keep No w q)=>zdp (0xa0+n) a m c l D q q_o (j.keep A) hb r;have B:=j.len;dsimp only at B;have g1:decide ((m:Int)=0)=false:=q_f;have g2:IntKind.i64.wrap (160+(n:Int))=((160+n:Nat):Int):=q_w;repeat' (first|refine s_0 ?_|refine q_k 0 ?_|refine q_k 1 ?_;refine q_v (zY (hr:=g1)) ?_|refine q_k 3 ?_;refine q_x (zN (hr:=g2)) ?_;(refine q_s (zn (hc:=zr h)) ?_;rintro _ _ ⟨R,rfl,E,F,rfl,rfl⟩);refine zf ?_)
 exact q_r
theorem zpl(l:List UInt8)(w:World)(hb:l.length<16777216):Sy.Fn Tryz.prog 170 [zW l] w No (zbA (zav l)):=by
 refine zz Tryz.func170 Tryz.ntmps170 ?_;unfold zW;have h:=λj b k (A:(⟨some ⟨b,0,none⟩,l.length,k,l⟩:Bs).ok j)=>zdp 27 (some ⟨b,0,none⟩) l.length k l (zav l) j q_e A hb rfl;generalize zav l=D at*;repeat' (first|refine s_0 ?_|refine zL [0,1] ?_;refine zf ?_|refine q_s (zjm (l:=l)) ?_;rintro _ _ ⟨m,J,rfl,rfl⟩|(refine zx ?_;first|refine q_s (zn (hc:=λj X r q=>h j m _ (zuL r q rfl (E7 _ _) Ev))) ?_;rintro _ _ ⟨R,rfl,B,E,rfl,rfl⟩|refine zo ?_|fail)|fail)
 exact q_r
theorem zu7(v n:Nat)(w:World)(hv:v<9223372036854775808)(hn:n<=8):Sy.Fn Tryz.prog 171 [.int .i64 (v:Int),.int .i64 (n:Int)] w No (zbA (beN v n)):=by
 refine zz Tryz.func171 Tryz.ntmps171 ?_;have g1:IntKind.i64.wrap ((n:Int)-1)=(n:Int)-1-((0:Nat):Int):=q_w;have j:=zbw v n;repeat' (first|refine s_t ?_|refine zL [0,1] ?_;refine zf ?_|refine q_k 2 ?_;refine q_x (zab (hr:=g1)) ?_)
 refine zcN (zbZ 5 1) ?_;refine zX (γ:=Nat×Option Addr×Nat) (λg=>[(0,.int .i64 (v:Int)),(6,.int .i64 ((n:Int)-1-(g.1:Int))),(5,.slice g.2.1 g.1 g.2.2)]) (λg=>[.row (.slice g.2.1 g.1 g.2.2) 5 1 g.1 (((beN v n).take g.1).map v8)]) (λg=>g.1<=n) (λg=>n-g.1) (0,none,0) (AE _) ?_ ?_ ?_
 ·exact q_h
 ·exact q_h
 rintro⟨k,a,c⟩ B;dsimp only at B ⊢;by_cases hlt:k<n
 ·have A:((n:Int)-1-(k:Int))=((n-1-k:Nat):Int):=q_o;rw[A];have g2:decide (((n-1-k:Nat):Int)>=0)=true:=q_d;have g3:IntKind.i64.wrap (8*((n-1-k:Nat):Int))=((8*(n-1-k):Nat):Int):=q_w;have g4:Op.shift .shr .i64 (v:Int) .i64 ((8*(n-1-k):Nat):Int)=pure (.int .i64 ((v/256^(n-1-k):Nat):Int)):=by
   rw[zuv v _ _ q_o,BO]
  have g5:((v/256^(n-1-k):Nat):Int).tmod 256=((v/256^(n-1-k)%256:Nat):Int):=zn9 _ 256;have g6:=u8M (v/256^(n-1-k));have g7:IntKind.i64.wrap (((n-1-k:Nat):Int)-1)=(n:Int)-1-((k+1:Nat):Int):=q_w;have e:((beN v n).take k).map v8++[.int .u8 (Wd.n8 (UInt8.ofNat (v/256^(n-1-k))))]=((beN v n).take (k+1)).map v8:=by rw[zuh v n k hlt,B2];rfl
  generalize v/256^(n-1-k)=q at*;repeat' (first|refine s_t ?_|refine q_k 3 ?_;refine q_v (zai (hr:=g2)) ?_|refine q_k 5 ?_;refine q_v (zaV (hr:=g3)) ?_;refine q_v (zcq (hr:=g4)) ?_;refine q_v (zcU (hr:=g5)) ?_;refine q_v (zaw (hr:=g6)) ?_;(refine q_s zD ?_;rintro _ _ ⟨_,rfl,rfl⟩);(refine q_s (zaB (hys:=e) (hkm:=rfl)) ?_;rintro _ _ ⟨rfl,m,r,rfl⟩);refine zf ?_|refine q_k 4 ?_;refine q_x (zab (hr:=g7)) ?_)
  refine zQ (k+1,m,r) hlt ?_ ?_ ?_
  ·show n-(k+1)<n-k;omega
  ·exact q_h
  ·exact q_h
 obtain rfl:k=n:=q_o;rw[A9 q_o];have g2:decide (((k:Int)-1-(k:Int))>=0)=false:=q_f;repeat' (first|refine s_0 ?_|refine q_k 3 ?_;refine q_v (zai (hr:=g2)) ?_|refine q_k 6 ?_)
 exact zaq rfl (zj rfl) (R:=[.row (.slice a k c) 5 1 k ((beN v k).map v8)]) q_h ⟨a,c,by rw[j],by rw[j]⟩
theorem zm4(v:Int)(w:World)(h1:0<=v)(h2:v<=1099511627776):Sy.Fn Tryz.prog 81 [.int .i64 v] w No (zbA (zbC v.toNat)):=by
 refine zz Tryz.func81 Tryz.ntmps81 ?_;have r:=λj=>zu7 v.toNat 6 j q_o q_e;rw[AT h1] at r;have q:(beN v.toNat 6).length=6:=zbw _ _;unfold zbC;repeat' (first|refine s_0 ?_|refine q_k 0 ?_|refine q_k 1 ?_;(refine q_s (zn (hc:=λj X E m=>r j)) ?_;rintro _ _ ⟨R,rfl,A,B,rfl,rfl⟩);(refine q_s (zn (hc:=λj X E m=>zdp 24 A _ B (beN v.toNat 6) _ j q_e (zau m rfl q_h) q_o rfl)) ?_;rintro _ _ ⟨R,rfl,F,G,rfl,rfl⟩);refine zf ?_)
 exact q_r
end Go.Proofs.YtdnlngbjpdbffaaGreatDoor
