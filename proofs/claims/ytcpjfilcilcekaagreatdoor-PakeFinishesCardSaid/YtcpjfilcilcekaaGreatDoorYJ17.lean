/- The ladder: as many copies of a value as a number says, by doubling and adding. -/
import Derived.Test.YtcpjfilcilcekaaGreatDoorYJ16
import Derived.Test.YtcpjfilcilcekaaGreatDoorYJ11
set_option linter.all false
section
namespace Go.Nt
open Go Go.Sy
theorem zn8 {x k p q:Nat}(hk:k < (ones x).length) (hI:x - left k x=q*2 ^ p) (hp:left k x < 2 ^ p):
  (ones x)[k] < p/\left (k+1) x < 2 ^ (ones x)[k]/\x - left (k+1) x=(q*2 ^ (p - (ones x)[k])+1)*2 ^ (ones x)[k]:=by
 obtain ⟨hpos,hxk⟩:=zdV hk
 obtain ⟨hm0,hm1,hm2⟩:=zeB _ hpos
 have hls:=zds k x
 have hle:=zk4 k x (by omega)
 rw [hxk]
 generalize left k x=y at *
 generalize nd 2 y=m at *
 obtain ⟨i,rfl⟩: ∃i,m=i+1:=⟨m - 1,by omega⟩
 rw [Nat.add_sub_cancel] at *
 rw [Nat.pow_succ] at hm2
 have hip:i < p:=by
  rcases Nat.lt_or_ge i p with h|h
  ·exact h
  ·have:=Nat.pow_le_pow_right (n:=2) (by decide) h;omega
 refine ⟨hip,by rw [hls];omega,?_⟩
 have h1:q*2 ^ p=q*2 ^ (p - i)*2 ^ i:=by rw [Nat.mul_assoc,<-Nat.pow_add,show p - i+i=p by omega]
 rw [Nat.add_mul,Nat.one_mul,<-h1,hls]
 omega
end Go.Nt
namespace Go.Sy
open Go
theorem Holds.both {B0:Nat}{M:Nat->Prop}{L X:List Res}{w:World}{b1 T1 b2 T2:Nat}{C1 C2:List Value}(hh:Holds B0 M (L ++ X) w) (h1:Has L (.blk b1 T1 C1)) (h2:Has L (.blk b2 T2 C2)) (hne:Res.blk b1 T1 C1≠ .blk b2 T2 C2):
  Holds w.heap.size (λx=>x=b1\/x=b2) [.blk b1 T1 C1,.blk b2 T2 C2] w:=by
 have ha:=hh.two (Has.append h1) (Has.append h2) hne
 refine ⟨λx hx=>?_,?_,λx hx y hy=>?_⟩
 ·rcases List.mem_cons.1 hx with rfl|hx
  ·exact hh.has (Has.append h1)
  ·rw [List.mem_singleton.1 hx];exact hh.has (Has.append h2)
 ·exact List.pairwise_cons.2 ⟨λx hx=>by rw [List.mem_singleton.1 hx];exact ha,List.pairwise_singleton _ _⟩
 ·rcases List.mem_cons.1 hx with rfl|hx
  ·exact .inr (.inl (Eq.symm hy))
  ·rw [List.mem_singleton.1 hx] at hy;exact .inr (.inr (Eq.symm hy))
theorem Holds.ne {B0:Nat}{M:Nat->Prop}{L X:List Res}{w:World}{b1 T1 b2 T2:Nat}{C1 C2:List Value}(hh:Holds B0 M (L ++ X) w) (h1:Has L (.blk b1 T1 C1)) (h2:Has L (.blk b2 T2 C2)) (hne:Res.blk b1 T1 C1≠ .blk b2 T2 C2):b1≠b2:=λh=>
 hh.two (Has.append h1) (Has.append h2) hne b1 rfl h.symm
theorem zdR {b T b' T':Nat}{C C':List Value}(h:T≠T'):Res.blk b T C≠ .blk b' T' C':=λe=>h (by injection e)
end Go.Sy
namespace Go.Proofs.YtcpjfilcilcekaaGreatDoor
open Go Go.Sy Go.Nt Go.RowKit
attribute [local irreducible] Sy SyL SyX Sy.Fn callFunc natC rowN
set_option maxRecDepth 10000
theorem zg7 (bp bd br p q:Nat) (to:Nat) (V:Nat->Nat) (fd:Nat) (sd cd:List Value) (w:World) (hp:p<=4000) (hto:to<=p)
  (hen: ∀args w,(callFunc fd args).run Tryz.prog w= .ok (.enter fd args) w) (hD: ∀k w,Sy.Fn Tryz.prog fd (sd ++ [natV (V k)] ++ cd) w No (Gives (natV (V (2*k)))))
  (hH:Holds w.heap.size (λx=>x=bp\/x=br) [.blk bp 3 [.int .i64 p],.blk br 73 (natC (V q))] w) (hc:w.cell? ⟨bd,0,none⟩=some (.func (.func fd) sd.toArray cd.toArray)) (hn: ¬(bd=bp\/bd=br)):
  Sy.Fn Tryz.prog 185 [.int .i64 to,.pointer (some ⟨bp,0,none⟩),.pointer (some ⟨bd,0,none⟩),.pointer (some ⟨br,0,none⟩)] w (λx=>x=bp\/x=br)
   (λ_ R=>R= [.blk bp 3 [.int .i64 to],.blk br 73 (natC (V (q*2 ^ (p - to))))]):=by
 refine zk Tryz.func185 rfl Tryz.ntmps185 (by simp) hH ?_
 repeat' (first|refine zbL ?_|fail)
 refine zE (γ:=Nat×Nat) (λ_=>[(0,.int .i64 to),(1,.pointer (some ⟨bp,0,none⟩)),(2,.pointer (some ⟨bd,0,none⟩)),(3,.pointer (some ⟨br,0,none⟩))])
  (λg=>[.blk bp 3 [.int .i64 g.1],.blk br 73 (natC (V g.2))])
  (λg=>to<=g.1/\g.1<=4000/\g.2*2 ^ (g.1 - to)=q*2 ^ (p - to)) (λg=>g.1) (p,q) ⟨hto,hp,rfl⟩ ?_ ?_ ?_
 ·exact Sub.go
 ·exact SubR.go
 rintro ⟨p',q'⟩ ⟨h1,h2,h3⟩
 dsimp only at h1 h2 h3 ⊢
 rcases Nat.lt_or_ge to p' with h|h
 ·have hgt:decide ((p':Int) > (to:Int))=true:=decide_eq_true (by omega)
  have hsub:IntKind.i64.wrap ((p':Int) - 1)=((p' - 1:Nat):Int):=by rw [IntWalk.i64_in _ (by omega)];omega
  have hlv:=ze (V q')
  have hlw:=ze (V (2*q'))
  have hD:=hD q'
  have h3:2*q'*2 ^ (p' - 1 - to)=q*2 ^ (p - to):=by
   rw [<-h3,show p' - to=(p' - 1 - to)+1 by omega,Nat.pow_succ];ac_rfl
  generalize hV:V (2*q')=v' at *
  generalize V q'=v at *
  repeat' (first|refine s_t ?_|(refine za (id:=0) ?_;refine zD ?_;refine zb ?_;refine yv (zaf (hr:=hgt)) (k:=?_))|(refine za (id:=2) ?_;refine yv (zx (hv:=hc) (hn:=hn)) (k:=?_);refine yv (zg (B:=natC v)) (k:=?_);refine yv (zaI (he:=hen) (hc:=λw' X hk hh=>hD w')) (k:=?_);refine yn (zl (n:=v')) (k:=?_))|(refine za (id:=1) ?_;refine zD ?_;refine yv (zJ (hr:=hsub)) (k:=?_);refine zB ?_)|fail)
  refine zy (p' - 1,2*q') ⟨by show to<=p' - 1;omega,by show p' - 1<=_;omega,h3⟩ ?_ ?_ ?_
  ·show p' - 1 < p';omega
  ·exact Sub.go
  ·show SubR [.blk bp 3 [.int .i64 ((p' - 1:Nat):Int)],.blk br 73 (natC (V (2*q')))] _
   rw [hV]
   exact SubR.go
 ·obtain rfl:p'=to:=by omega
  have hgt:decide ((p':Int) > (p':Int))=false:=decide_eq_false (by omega)
  rw [Nat.sub_self,Nat.pow_zero,Nat.mul_one] at h3
  rw [<-h3]
  repeat' (first|refine s_0 ?_|(refine za (id:=0) ?_;refine zD ?_;refine zb ?_;refine yv (zaf (hr:=hgt)) (k:=?_))|fail)
  exact end0 rfl (by exact SubR.go) rfl
set_option maxHeartbeats 1000000 in
theorem zio (x v:Nat) (V:Nat->Nat) (fd fa:Nat) (sd cd sa ca:List Value) (w:World) (hx:x < 18446744073709551616 ^ 16)
  (hend: ∀args w,(callFunc fd args).run Tryz.prog w= .ok (.enter fd args) w) (hena: ∀args w,(callFunc fa args).run Tryz.prog w= .ok (.enter fa args) w)
  (hD: ∀k w,Sy.Fn Tryz.prog fd (sd ++ [natV (V k)] ++ cd) w No (Gives (natV (V (2*k))))) (hA: ∀k w,Sy.Fn Tryz.prog fa (sa ++ [natV (V k),natV v] ++ ca) w No (Gives (natV (V (k+1))))):
  Sy.Fn Tryz.prog 171 [natV x,natV (V 0),natV v,.func (.func fd) sd.toArray cd.toArray,.func (.func fa) sa.toArray ca.toArray] w No (Gives (natV (V x))):=by
 refine zk Tryz.func171 rfl Tryz.ntmps171 (by simp) Holds.nil ?_
 have hlx:=ze x
 have hlv:=ze v
 have hl0:=ze (V 0)
 have hbl:=λw'=>zbd x w' hx
 have hx2:=zae 2 x (by decide)
 have hxn:=zcP hx
 generalize hv0:V 0=v0 at *
 generalize nd 2 x=p0 at *
 repeat' (first|refine s_0 ?_|(refine za (id:=0) ?_;(refine zi ?_;intro _);(refine zi ?_;intro _);(refine zi ?_;intro _);(refine zi ?_;intro _);(refine zi ?_;intro _);(refine zi ?_;intro _))|fail)
 rename_i b5 b6 b7 b8 b9 b10
 refine zah (id:=1) mixed ?_
 (refine zab 5 5 [[],[],[1],[],[],[0,1,2,3,4],[0,1,2,3,4,5]] [[],[],[],[],[],[],[]] none rfl ?_ ?_ ?_;kernel_rfl;kernel_rfl;refine dcE (λ_ _=>zg (B:=natC v0)) (k:=?_);refine dcE (λ_ _=>zg (B:=natC x)) (k:=?_);refine dcE (λ_ _=>zf (hc:=λ_ _ _ _=>(hbl _))) (k:=?_);try refine z5 (h:=?_))
 refine z7 (R:=λ_=>PtrOf 73 (List.replicate 16 (.int .u64 0))) (λ_ _ _=>rfl) (λρ hρ=>OpT.mono zaX λv L' h=>?_) (h:=?_)
 ·obtain ⟨b,rfl,rfl⟩:=h
  exact ⟨[_],rfl,b,rfl,rfl⟩
 refine z7 (R:=λ_=>PtrOf 3 [.int .i64 0]) (λ_ _ _=>rfl) (λρ hρ=>OpT.mono zaX λv L' h=>?_) (h:=?_)
 ·obtain ⟨b,rfl,rfl⟩:=h
  exact ⟨[_],rfl,b,rfl,rfl⟩
 refine zaE (h:=?_)
 rintro ρ ⟨⟨b12,g1,g2⟩,⟨b11,g3,g4⟩,-⟩
 (refine zag [[],[],[1],[],[],[0,1,2,3,4],[0,1,2,3,4,5]] ?_ ?_;kernel_rfl)
 refine SyL.weaken (fr':=[(11,.pointer (some ⟨b11,0,none⟩)),(12,.pointer (some ⟨b12,0,none⟩)),(15,natV v0),(17,.int .i64 p0),(5,.pointer (some ⟨b5,0,none⟩)),(7,.pointer (some ⟨b7,0,none⟩)),(8,.pointer (some ⟨b8,0,none⟩)),(9,.pointer (some ⟨b9,0,none⟩)),(10,.pointer (some ⟨b10,0,none⟩))])
  (L':=[.blk b11 73 (List.replicate 16 (.int .u64 0)),.blk b12 3 [.int .i64 0],.blk b5 73 (natC x),.blk b7 73 (natC v),.blk b8 80 [.func (.func fd) sd.toArray cd.toArray],.blk b9 55 [.func (.func fa) sa.toArray ca.toArray],.blk b10 73 (List.replicate 16 (.int .u64 0))]) ?_ ?_ ?_
 rotate_left
 ·(repeat' (first|exact Sub.nil|refine Sub.cons rfl ?_ ?_|rfl))
  ·exact g3
  ·exact g1
 ·show SubR _ ((ρ 4).2 ++ ((ρ 3).2 ++ _))
  rw [g2,g4]
  exact SubR.go2
 repeat' (first|refine s_0 ?_|(refine za (id:=2) ?_;refine zW ?_;(refine zi ?_;intro _);refine zB ?_)|(refine za (id:=3) ?_;refine yv (zg (B:=natC x)) (k:=?_))|(refine zC ?_;first|refine yn (zl (n:=v0)) (k:=?_)|refine zB ?_|fail)|fail)
 rename_i b13
 refine ys (zn (hc:=λw' X hk hh=>zlc x w')) (k:=?_)
 rintro _ _ ⟨R,rfl,b,rfl,rfl⟩
 repeat' (first|refine s_t ?_|fail)
 rw [<-hv0]
 refine zea (γ:=Nat×Nat) (xs:=ones x) (Arg:=ArgN) zbA rfl (en rfl) rfl (λk s=>x - left k x=s.2*2 ^ s.1/\left k x < 2 ^ s.1/\s.1<=1024) (λ_ _ _=>False)
  (λs=>[.blk b11 73 (natC (V s.2)),.blk b12 3 [.int .i64 s.1],.blk b13 225 [.func (.func 185) #[] #[.pointer (some ⟨b12,0,none⟩),.pointer (some ⟨b8,0,none⟩),.pointer (some ⟨b11,0,none⟩)]],.blk b7 73 (natC v),.blk b8 80 [.func (.func fd) sd.toArray cd.toArray],.blk b9 55 [.func (.func fa) sa.toArray ca.toArray]])
  [.blk b 73 (natC x)] [.blk b5 73 (natC x),.blk b10 73 (List.replicate 16 (.int .u64 0))] (p0,0) ⟨by rw [show left 0 x=x from rfl,Nat.sub_self,Nat.zero_mul],hx2,hxn⟩ ?_ ?_ ?_ ?_ ?_ ?_
 ·((try simp only [List.cons_append,List.nil_append,List.append_nil]);(repeat' (first|exact List.Perm.nil|exact List.Perm.refl _|(apply permr;with_reducible (focus ((repeat (first|exact Rem.here|apply Rem.there));done)))|(apply permr;(focus ((repeat (first|exact Rem.here|apply Rem.there));done))))))
 ·exact λw' Mi X hk hm _ _=>zjW b x w' Mi hx
 ·rintro O x vs RA w' ⟨rfl,_⟩;rfl
 ·rintro lp k hk ⟨p,q⟩ vs RA W rec hrec ⟨hI,hp,hp1⟩ ⟨rfl,rfl⟩ hkW hmine
  dsimp only at hI hp hp1 ⊢
  clear hmine
  obtain ⟨hi,hl2,hI2⟩:=zn8 hk hI hp
  generalize (ones x)[k]=i at *
  have hlq:=ze (V (q*2 ^ (p - i)))
  have hlq1:=ze (V (q*2 ^ (p - i)+1))
  have hA:=hA (q*2 ^ (p - i))
  repeat' (first|refine s_t ?_|(apply zbr;(focus ((repeat (first|exact Rem.here|apply Rem.there));done));assumption)|(refine za (id:=4) ?_;refine zd ?_)|(refine za (id:=5) ?_;refine zD ?_;refine zb ?_)|fail)
  refine ys (zcj (vs:=[.int .i64 i]) (cap:=[.pointer (some ⟨b12,0,none⟩),.pointer (some ⟨b8,0,none⟩),.pointer (some ⟨b11,0,none⟩)]) (C:=[.blk b12 3 [.int .i64 p],.blk b11 73 (natC (V q))]) (M':=λx=>x=b12\/x=b11)
   (hC:=RemL.cons (by repeat (first|exact Rem.here|apply Rem.there)) rfl (RemL.cons (by repeat (first|exact Rem.here|apply Rem.there)) rfl RemL.nil)) (hM:=λb hb=>by
    rcases hb with rfl|rfl
    ·exact ⟨_,List.mem_cons_self ..,rfl⟩
    ·exact ⟨_,List.mem_cons_of_mem _ (List.mem_singleton.2 rfl),rfl⟩)
   (hc:=λw' X hk hh=>zg7 b12 b8 b11 p q i V fd sd cd w' (by omega) (by omega) hend hD (hh.both Has.go Has.go (zdR (by decide))) (zz (hh.has (r:=.blk b8 80 [.func (.func fd) sd.toArray cd.toArray]) (by exact Has.append Has.go)) Seg.all 0 _ rfl)
    (λe=>e.elim (hh.ne (C1:=[.func (.func fd) sd.toArray cd.toArray]) (T1:=80) (C2:=[.int .i64 p]) (T2:=3) Has.go Has.go (zdR (by decide))) (hh.ne (C1:=[.func (.func fd) sd.toArray cd.toArray]) (T1:=80) (C2:=natC (V q)) (T2:=73) Has.go Has.go (zdR (by decide)))))) (k:=?_)
  rintro _ _ ⟨R,rfl,rfl⟩
  repeat' (first|refine s_0 ?_|(refine za (id:=6) ?_;refine zD ?_;refine yv (zg (B:=natC (V (q*2 ^ (p - i))))) (k:=?_);refine yv (zg (B:=natC v)) (k:=?_);refine yv (zaI (he:=hena) (hc:=λw' X hk hh=>hA w')) (k:=?_);refine yn (zl (n:=V (q*2 ^ (p - i)+1))) (k:=?_))|fail)
  refine zdQ (i,q*2 ^ (p - i)+1) ⟨hI2,hl2,by show i<=1024;omega⟩ ?_
  dsimp only
  exact SubR.go2
 ·rintro ⟨p,q⟩ ⟨hI,-,hp1⟩
  rw [zgL,Nat.sub_zero] at hI
  dsimp only at hI hp1 ⊢
  repeat' (first|refine za6 ?_|refine zfs ?_|(refine za (id:=7) ?_;refine zD ?_)|fail)
  refine ys (zcj (vs:=[.int .i64 (0:Nat)]) (cap:=[.pointer (some ⟨b12,0,none⟩),.pointer (some ⟨b8,0,none⟩),.pointer (some ⟨b11,0,none⟩)]) (C:=[.blk b12 3 [.int .i64 p],.blk b11 73 (natC (V q))]) (M':=λx=>x=b12\/x=b11)
   (hC:=RemL.cons (by repeat (first|exact Rem.here|apply Rem.there)) rfl (RemL.cons (by repeat (first|exact Rem.here|apply Rem.there)) rfl RemL.nil)) (hM:=λb hb=>by
    rcases hb with rfl|rfl
    ·exact ⟨_,List.mem_cons_self ..,rfl⟩
    ·exact ⟨_,List.mem_cons_of_mem _ (List.mem_singleton.2 rfl),rfl⟩)
   (hc:=λw' X hk hh=>zg7 b12 b8 b11 p q 0 V fd sd cd w' (by omega) (by omega) hend hD (hh.both Has.go Has.go (zdR (by decide))) (zz (hh.has (r:=.blk b8 80 [.func (.func fd) sd.toArray cd.toArray]) (by exact Has.append Has.go)) Seg.all 0 _ rfl)
    (λe=>e.elim (hh.ne (C1:=[.func (.func fd) sd.toArray cd.toArray]) (T1:=80) (C2:=[.int .i64 p]) (T2:=3) Has.go Has.go (zdR (by decide))) (hh.ne (C1:=[.func (.func fd) sd.toArray cd.toArray]) (T1:=80) (C2:=natC (V q)) (T2:=73) Has.go Has.go (zdR (by decide)))))) (k:=?_)
  rintro _ _ ⟨R,rfl,rfl⟩
  rw [Nat.sub_zero,<-hI]
  have hlV:=ze (V x)
  repeat' (first|refine s_0 ?_|(refine za (id:=8) ?_;refine yv (zg (B:=natC (V x))) (k:=?_);refine yn (zl (n:=V x)) (k:=?_))|fail)
  exact ret1 rfl (resCells (B:=natC (V x)) rfl (ty rfl) rfl Has.go Seg.all (ze _).symm) SubR.nil ⟨rfl,rfl⟩
 ·rintro _ k s hk h
  exact h.elim
end Go.Proofs.YtcpjfilcilcekaaGreatDoor
end
