/- Bytes and strings of numbers. -/
import Derived.Test.YtdnlngbjpdbffaaGreatDoorLJ11
import Derived.Test.YtdnlngbjpdbffaaGreatDoorLJ06
import Derived.Scope
set_option maxHeartbeats 1000000
set_option maxRecDepth 10000
set_option linter.all false
section
namespace Go.Nt
open Go Go.Sy
def byt (x:Nat):List UInt8:=(be 256 x).map UInt8.ofNat
theorem zdO (x:Nat):(byt x).length=nd 256 x:=by unfold byt;rw [List.length_map,zr0]
theorem zrK (b x:Nat) (hb:0 < b): ∀d∈be b x,d < b:=by
 intro d hd;unfold be cd at hd;exact zei b hb _ _ d (List.mem_reverse.1 hd)
theorem zrL (x:Nat):bn (byt x)=be 256 x:=by
 unfold bn byt;rw [List.map_map];refine (List.map_congr_left λd hd=>?_).trans (List.map_id _);have:=zrK 256 x q_e d hd;show (UInt8.ofNat d).toNat=d;rw [UInt8.toNat_ofNat'];omega
theorem zlB (x:Nat):bev 256 (bn (byt x))=x:=by rw [zrL,zrP 256 x q_e]
def hexT:List UInt8:=[48,49,50,51,52,53,54,55,56,57,97,98,99,100,101,102]
def hexc (d:Nat):UInt8:=(hexT[d]?).getD 0
theorem zpv (d:Nat) (h:d < 16):hexT[d]?=some (hexc d):=by
 unfold hexc;rw [List.getElem?_eq_getElem (show d < hexT.length from h)];rfl
def hexv (u:UInt8):Option Nat:=if 48<=u.toNat/\u.toNat<=57 then some (u.toNat - 48) else if 97<=u.toNat/\u.toNat<=102 then some (u.toNat - 87) else none
theorem ze4 {α:Type}(l:List α) (z u:α) (n i:Nat) (h:l[i]?=some u) (hi:i < n) (hl:l.length=n):
  (l.take i ++ List.replicate (n - i) z).set i u=l.take (i+1) ++ List.replicate (n - (i+1)) z:=by
 have h1:(l.take i).length=i:=by rw [List.length_take];omega
 rw [List.set_append_right _ _ q_o,h1,Nat.sub_self,show n - i=(n - (i+1))+1 by omega,List.replicate_succ,List.set_cons_zero,List.take_succ,h];simp
theorem zkq (t k x p:Nat) (hW:t*k=64) (hk:0 < k):x / 18446744073709551616 ^ (p / k) % 18446744073709551616 / 2 ^ (p % k*t) % 2 ^ t=x / (2 ^ t) ^ p % 2 ^ t:=by
 have h:=zgx (2 ^ t) k x (p / k) (p % k) (Nat.mod_lt _ hk);rw [Nat.div_add_mod,<-Nat.pow_mul 2 t k,hW,<-Nat.pow_mul 2 t (p % k),Nat.mul_comm t (p % k)] at h;exact h
end Go.Nt
namespace Go.Proofs.YtdnlngbjpdbffaaGreatDoor
open Go Go.Sy Go.Nt Go.RowKit
attribute [local irreducible] Sy SyL SyX Sy.Fn callFunc natC
theorem zj1 (x:Nat) (w:World) (hx:x < 18446744073709551616 ^ 16):
  Sy.Fn Tryz.prog 294 [natV x] w No (λv R=>∃b,v= .slice (some ⟨b,0,none⟩) (nd 256 x) (nd 256 x)/\R= [.blk b 5 ((byt x).map v8)]):=by
 refine zg Tryz.func294 rfl Tryz.ntmps294 q_p Holds.nil ?_;have hlx:=ze x;have hgx:=zaK x;have hnp:=zjs 8 x q_e;rw [show (2:Nat) ^ 8=256 from rfl] at hnp;have hm:nd 2 x<=1024:=zcR hx;have hbl:=zdO x;have hbg:=zmG 256 x;have hq0:IntKind.i64.wrap (((nd 2 x:Nat):Int)+7)=((nd 2 x+7:Nat):Int):=q_w;have hq:IntKind.i64.wrap ((((nd 2 x+7:Nat):Int)).tdiv 8)=((nd 256 x:Nat):Int):=by rw [hnp];exact quoI (k:=8) q_o
 have hn:nd 256 x<=128:=q_o;have hbit:=λw=>zbe x w hx;generalize nd 2 x=m at *;generalize nd 256 x=n at *;repeat' (first|refine s_t ?_|(refine zb 0 ?_;refine zO ?_;intro _)|(refine zb 1 ?_;refine zm ?_;refine yv (zd (hc:=λ_ _ _ _=>(hbit _))) (k:=?_);refine yv (zu (hr:=hq0)) (k:=?_);refine yv (zaz (hr:=hq)) (k:=?_))|(refine zb 2 (za ?_))|(refine ys zcu (k:=?_);rintro _ _ ⟨b3,rfl,rfl⟩)|(refine zP ?_;first|refine zx ?_|fail)|fail)
 rename_i b1;refine zy (γ:=Nat) (λi=>[(1,.pointer (some ⟨b1,0,none⟩)),(3,.slice (some ⟨b3,0,none⟩) n n),(11,.slice (some ⟨b3,0,none⟩) n n),(12,.int .i64 n),(13,.int .i64 i)])
  (λi=>[.blk b3 5 (((byt x).take i ++ List.replicate (n - i) 0).map v8),.blk b1 133 (natC x)])
  (λi=>i<=n) (λi=>n - i) 0 (Nat.zero_le _) ?_ ?_ ?_
 ·exact q_h
 ·show SubR [.blk b3 5 (((byt x).take 0 ++ List.replicate (n - 0) 0).map v8),.blk b1 133 (natC x)] _;rw [List.take_zero,List.nil_append,List.map_replicate,Nat.sub_zero,<-zkZ];exact q_h
 intro i hi;by_cases hlt:i < n
 ·obtain ⟨p,hp⟩: ∃p,p=n - 1 - i:=⟨_,rfl⟩;have hd:=hgx (p / 8) q_o;have hpd:=zkq 8 8 x p rfl q_e;have hbi:=hbg i hlt;rw [<-hp] at hbi;have hu:(byt x)[i]?=some (UInt8.ofNat (x / 256 ^ p % 256)):=by
   unfold byt;rw [List.getElem?_map,hbi];rfl
  have hset:=ze4 (byt x) 0 _ n i hu hlt hbl;have hdl:x / 18446744073709551616 ^ (p / 8) % 18446744073709551616 < 18446744073709551616:=Nat.mod_lt _ q_e;generalize x / 18446744073709551616 ^ (p / 8) % 18446744073709551616=d at *;have hml:(((byt x).take i ++ List.replicate (n - i) 0).map v8).length=n:=by rw [List.length_map,List.length_append,List.length_take,List.length_replicate];omega
  have hsub:IntKind.i64.wrap ((n:Int) - 1 - (i:Int))=((p:Nat):Int):=q_w;have q1:IntKind.i64.wrap ((p:Int).tdiv 8)=((p / 8:Nat):Int):=quoI (k:=8) q_o;have q2:(p:Int).tmod 8=((p % 8:Nat):Int):=remI p 8;have q3:IntKind.i64.wrap (((p % 8:Nat):Int)*8)=((p % 8*8:Nat):Int):=q_w;have q4:IntKind.u8.wrap ((d / 2 ^ (p % 8*8):Nat):Int)=Wd.n8 (UInt8.ofNat (x / 256 ^ p % 256)):=by
   rw [Wd.wrap_u8_nat,Wd.n8_of_nat];rw [show (2:Nat) ^ 8=256 from rfl] at hpd;rw [hpd,Nat.mod_mod]
  have hp8:p / 8 < 16:=q_o;generalize UInt8.ofNat (x / 256 ^ p % 256)=u at *;repeat' (first|refine s_t ?_|(refine zb 3 ?_;refine zL ?_)|(refine zb 4 (za ?_))|(refine zb 5 (za ?_);refine zdc ?_;refine za ?_;refine yv (zD (hr:=hsub)) (k:=za ?_))|(refine zb 6 (za ?_);refine yv (zaz (hr:=q1)) (k:=za ?_);refine zw ?_;refine yv (zC (hv:=hd)) (k:=za ?_);refine yv (zap (hr:=q2)) (k:=?_);refine yv (zah (hr:=q3)) (k:=?_);refine yv (zd2 (a:=d) (n:=p % 8*8) hdl) (k:=?_);refine yv (z5 (hr:=q4)) (k:=?_);refine zw ?_;refine zI ?_)|(refine zb 7 ?_;refine zaj ?_;refine za ?_))
  refine zq (i+1) ?_ ?_ ?_ ?_
  ·show i+1<=n;omega
  ·show n - (i+1) < n - i;omega
  ·exact q_h
  ·show SubR [.blk b3 5 (((byt x).take (i+1) ++ List.replicate (n - (i+1)) 0).map v8),.blk b1 133 (natC x)] _;rw [<-hset,List.map_set];exact q_h
 obtain rfl:i=n:=q_o;rw [Nat.sub_self,List.replicate_zero,List.append_nil,<-hbl,List.take_length];repeat' (first|refine s_0 ?_|(refine zb 3 ?_;refine zL ?_)|(refine zb 8 (za ?_)))
 exact ret1 rfl (resTmp rfl) q_h ⟨b3,rfl,rfl⟩
theorem zjk (u:UInt8) (w:World):
  Sy.Fn Tryz.prog 282 [v8 u] w No (Gives (.int .i64 (match hexv u with|some d=>((d:Nat):Int)|none=> -1))):=by
 refine zg Tryz.func282 rfl Tryz.ntmps282 q_p Holds.nil ?_;have hu:(Wd.n8 u)=((u.toNat:Nat):Int):=rfl;have hul:=u.toNat_lt;unfold hexv;unfold v8;rw [hu];generalize u.toNat=d at *;by_cases h1:48<=d/\d<=57
 ·rw [if_pos h1];repeat' (first|refine s_t ?_|(refine zb 0 (za ?_))|(refine zb 1 (za ?_);refine zad ?_;refine za ?_;refine zbB ?_;refine za ?_)|(refine zb 2 (za ?_);refine zdc ?_;refine zee ?_;refine za ?_))
  exact ret1 rfl (resTmp rfl) SubR.nil ⟨congrArg (Value.int .i64) (show (d:Int) - 48=((d - 48:Nat):Int) by omega),rfl⟩
 ·rw [if_neg h1];by_cases h2:97<=d/\d<=102
  ·rw [if_pos h2];repeat' (first|refine s_t ?_|(refine zb 0 (za ?_))|(refine zb 1 (za ?_);refine zad ?_;refine za ?_;refine zbB ?_;refine za ?_)|(refine zb 3 (za ?_);refine zad ?_;refine za ?_;refine zbB ?_;refine za ?_)|(refine zb 4 (za ?_);refine zdc ?_;refine zee ?_;refine zaj ?_;refine za ?_))
   exact ret1 rfl (resTmp rfl) SubR.nil ⟨congrArg (Value.int .i64) (show (d:Int) - 97+10=((d - 87:Nat):Int) by omega),rfl⟩
  ·rw [if_neg h2];rcases Nat.lt_or_ge d 48 with h3|h3
   ·repeat' (first|refine s_t ?_|(refine zB [0,5] ?_;refine za ?_)|(refine zb 1 (za ?_);refine zad ?_;refine za ?_)|(refine zb 3 (za ?_);refine zad ?_;refine za ?_))
    exact q_r
   ·rcases Nat.lt_or_ge d 97 with h4|h4
    ·repeat' (first|refine s_t ?_|(refine zB [0,5] ?_;refine za ?_)|(refine zb 1 (za ?_);refine zad ?_;refine za ?_;refine zbB ?_;refine za ?_)|(refine zb 3 (za ?_);refine zad ?_;refine za ?_))
     exact q_r
    ·repeat' (first|refine s_t ?_|(refine zB [0,5] ?_;refine za ?_)|(refine zb 1 (za ?_);refine zad ?_;refine za ?_;refine zbB ?_;refine za ?_)|(refine zb 3 (za ?_);refine zad ?_;refine za ?_;refine zbB ?_;refine za ?_))
     exact q_r
end Go.Proofs.YtdnlngbjpdbffaaGreatDoor
namespace Go.Nt
open Go Go.Sy
def hexs:List UInt8->Option (List Nat)
 | []=>some []
 |u::l=>match hexv u,hexs l with
  |some d,some r=>some (d::r)
  |_,_=>none
theorem zeC {u:UInt8}{d:Nat}(h:hexv u=some d):d < 16:=by
 unfold hexv at h;split at h
 ·cases h;omega
 ·split at h
  ·cases h;omega
  ·cases h
theorem zeI: ∀ {l:List UInt8}{r:List Nat},hexs l=some r->r.length=l.length
 | [],_,h=>by cases h;rfl
 |u::l,r,h=>by
  unfold hexs at h;split at h
  ·rename_i d r' h1 h2;cases h;rw [List.length_cons,List.length_cons,zeI h2]
  ·cases h
theorem zc6: ∀ {l:List UInt8}{r:List Nat},hexs l=some r-> ∀(i:Nat) (u:UInt8),l[i]?=some u-> ∃d,hexv u=some d/\r[i]?=some d
 | [],_,_,i,u,hu=>by simp at hu
 |a::l,r,h,i,u,hu=>by
  unfold hexs at h;split at h
  ·rename_i d r' h1 h2;cases h;cases i with
   |zero=>
    simp only [List.getElem?_cons_zero,Option.some.injEq] at hu;subst hu;exact ⟨d,h1,rfl⟩
   |succ i=>
    rw [List.getElem?_cons_succ] at hu ⊢;exact zc6 h2 i u hu
  ·cases h
theorem zfq: ∀ {l:List UInt8},hexs l=none-> ∃(i:Nat) (u:UInt8),l[i]?=some u/\hexv u=none/\ ∀j < i,∃v d,l[j]?=some v/\hexv v=some d
 | [],h=>by cases h
 |a::l,h=>by
  unfold hexs at h;cases ha:hexv a with
  |none=>exact ⟨0,a,rfl,ha,λj hj=>absurd hj q_o⟩
  |some d=>
   cases hl:hexs l with
   |some r=>rw [ha,hl] at h;cases h
   |none=>
    obtain ⟨i,u,h1,h2,h3⟩:=zfq hl;refine ⟨i+1,u,h1,h2,λj hj=>?_⟩;cases j with
    |zero=>exact ⟨a,d,rfl,ha⟩
    |succ j=>exact h3 j q_o
theorem zq4 {l:List UInt8}{r:List Nat}(h:hexs l=some r): ∀d∈r,d < 16:=by
 intro d hd;obtain ⟨i,hi⟩:=List.getElem?_of_mem hd;have hl:=zeI h;have hir:i < r.length:=by
  rcases Nat.lt_or_ge i r.length with h1|h1
  ·exact h1
  ·rw [List.getElem?_eq_none h1] at hi;cases hi
 obtain ⟨d',h1,h2⟩:=zc6 h i (l[i]'q_o) (List.getElem?_eq_getElem _);rw [hi] at h2;cases h2;exact zeC h1
def badS (l:List UInt8):Bool:=match l with
 | []=>true
 |u::r=>decide (u=48) && decide (0 < r.length)
def parse (l:List UInt8):Option Nat:=if badS l=true then none else (hexs l).map (bev 16)
theorem w16:18446744073709551616 ^ 16=16 ^ 256:=zel 16 4 256 rfl rfl
theorem zmr {u:UInt8}(h:hexv u=some 0):u=48:=by
 unfold hexv at h;split at h
 ·have:=Option.some.inj h;exact UInt8.toNat_inj.1 (show u.toNat=48 by omega)
 ·split at h
  ·have:=Option.some.inj h;omega
  ·cases h
theorem zlF {l:List UInt8}{r:List Nat}(hb:badS l=false) (h:hexs l=some r):l.length<=256↔bev 16 r < 18446744073709551616 ^ 16:=by
 rw [w16];have hl:=zeI h;have hlt:=zq4 h;have hbl:=zcf 16 r hlt;rw [<-hl];cases l with
 |nil=>cases hb
 |cons u l=>
  obtain ⟨d,h1,h2⟩:=zc6 h 0 u rfl;cases r with
  |nil=>simp at hl
  |cons e r=>
   simp only [List.getElem?_cons_zero,Option.some.injEq] at h2;subst h2;constructor
   ·intro hle;exact Nat.lt_of_lt_of_le hbl (Nat.pow_le_pow_right q_e hle)
   ·intro hlt';rcases Nat.eq_zero_or_pos e with h0|h0
    ·subst h0;have hu:=zmr h1;simp only [badS,hu,decide_true,Bool.true_and,decide_eq_false_iff_not] at hb;simp only [List.length_cons] at hl ⊢;omega
    ·have h3:=znn 16 q_e e r h0 hlt;have:=zao 16 _ 256 q_e hlt';rw [h3] at this;exact this
theorem ze9 (b:Nat) (l:List Nat) (i d:Nat) (h:l[i]?=some d):bev b (l.take (i+1))=bev b (l.take i)*b+d:=by
 rw [List.take_succ,h];exact zkj b _ _
end Go.Nt
namespace Go.Proofs.YtdnlngbjpdbffaaGreatDoor
open Go Go.Sy Go.Nt Go.RowKit
attribute [local irreducible] Sy SyL SyX Sy.Fn callFunc natC
theorem zor (l:List UInt8) (w:World) (hx:l.length < 4611686018427387904):
  Sy.Fn Tryz.prog 239 [.string (str l)] w No (Gives (match parse l with
   |none=> .tuple #[natV 0,.int .i64 6]
   |some v=>if v < 18446744073709551616 ^ 16 then .tuple #[natV v,.int .i64 0] else .tuple #[natV 0,.int .i64 7])):=by
 refine zg Tryz.func239 rfl Tryz.ntmps239 q_p Holds.nil ?_;repeat' (first|refine s_0 ?_|(refine zb 0 ?_;refine zO ?_;intro _))
 rename_i b2;refine zba (γ:=Unit) (λ_=>[(0,.string (str l)),(2,.pointer (some ⟨b2,0,none⟩)),(3,.int .i64 0),(19,.bool (badS l))]) (λ_=>[.blk b2 133 (List.replicate 16 (Value.int IntKind.u64 0))]) (λ_=>True) ?_ ?_
 ·cases l with
  |nil=>
   rw [show badS []=true from rfl];repeat' (first|refine zae ?_|refine zZ ?_|(refine zb 1 (za ?_);refine yv (za2 (a:=[]) (b:=[]) (r:=true) (hr:=rfl)) (k:=za ?_)))
   exact zT () trivial q_h q_h
  |cons u r=>
   have hsz:(str (u::r)).size=r.length+1:=rfl;have hne:decide (u::r= [])=false:=decide_eq_false q_p;by_cases hu:u=48
   ·have h48:decide (((u.toNat:Nat):Int)=48)=true:=decide_eq_true (by rw [hu];rfl);by_cases hr:0 < r.length
    ·rw [show badS (u::r)=true by simp only [badS,hu,decide_true,hr,Bool.and_self]];have hg:decide (1 < (((str (u::r)).size:Nat):Int))=true:=decide_eq_true (by rw [hsz];omega);repeat' (first|refine zae ?_|refine zZ ?_|(refine zb 1 (za ?_);refine yv (za2 (a:=u::r) (b:=[]) (r:=false) (hr:=hne)) (k:=za ?_);refine yv (zF (s:=str (u::r)) (u:=u) (hv:=rfl)) (k:=?_);refine yv (zX (hr:=h48)) (k:=za ?_);refine yv (zU (hr:=hg)) (k:=za ?_)))
     exact zT () trivial q_h q_h
    ·rw [show badS (u::r)=false by simp only [badS,hr,decide_false,Bool.and_false]];have hg:decide (1 < (((str (u::r)).size:Nat):Int))=false:=decide_eq_false (by rw [hsz];omega);repeat' (first|refine zae ?_|refine zZ ?_|(refine zb 1 (za ?_);refine yv (za2 (a:=u::r) (b:=[]) (r:=false) (hr:=hne)) (k:=za ?_);refine yv (zF (s:=str (u::r)) (u:=u) (hv:=rfl)) (k:=?_);refine yv (zX (hr:=h48)) (k:=za ?_);refine yv (zU (hr:=hg)) (k:=za ?_)))
     exact zT () trivial q_h q_h
   ·rw [show badS (u::r)=false by simp only [badS,hu,decide_false,Bool.false_and]];have h48:decide (((u.toNat:Nat):Int)=48)=false:=decide_eq_false (λh=>hu (UInt8.toNat_inj.1 (show u.toNat=48 by omega)));repeat' (first|refine zae ?_|refine zZ ?_|(refine zb 1 (za ?_);refine yv (za2 (a:=u::r) (b:=[]) (r:=false) (hr:=hne)) (k:=za ?_);refine yv (zF (s:=str (u::r)) (u:=u) (hv:=rfl)) (k:=?_);refine yv (zX (hr:=h48)) (k:=za ?_)))
    exact zT () trivial q_h q_h
 rintro - -;unfold parse;cases hb:badS l with
 |true=>
  rw [if_pos rfl];repeat' (first|refine s_0 ?_|(refine zb 2 ?_;refine za4 ?_;refine zI ?_;refine za ?_))
  exact ret2 rfl (resCells (B:=List.replicate 16 (Value.int IntKind.u64 0)) rfl (ty rfl) rfl Has.go Seg.all rfl) (resTmp rfl) SubR.nil ⟨by rw [<-natV0],rfl⟩
 |false=>
 rw [if_neg q_e];repeat' (first|refine s_t ?_|(refine zb 3 (za ?_)))
 obtain ⟨n,hn⟩: ∃n,n=l.length:=⟨_,rfl⟩;have hsz:(str l).size=n:=by rw [hn];rfl
 rw [<-hn] at hx;refine zy (γ:=Nat) (λi=>[(0,.string (str l)),(2,.pointer (some ⟨b2,0,none⟩)),(3,.int .i64 0),(22,.int .i64 n),(23,.int .i64 i)])
  (λ_=>[.blk b2 133 (List.replicate 16 (Value.int IntKind.u64 0))])
  (λi=>i<=n/\ ∀j < i,∃v d,l[j]?=some v/\hexv v=some d) (λi=>n - i) 0 ⟨Nat.zero_le _,λj hj=>absurd hj q_o⟩ ?_ ?_ ?_
 ·rw [hsz];exact q_h
 ·exact q_h
 rintro i ⟨hi,hok⟩;by_cases hlt:i < n
 ·obtain ⟨u,hu⟩: ∃u,l[i]?=some u:=⟨l[i]'q_o,List.getElem?_eq_getElem _⟩;have hch:(str l).data[i]?=some u:=by
   show l.toArray[i]?=_;rw [List.getElem?_toArray,hu]
  have hv:=λw=>zjk u w;cases hd:hexv u with
  |none=>
   simp only [hd] at hv;have hnone:hexs l=none:=by
    cases hh:hexs l with
    |none=>rfl
    |some r=>
     obtain ⟨d,h1,_⟩:=zc6 hh i u hu;rw [hd] at h1;cases h1
   rw [hnone];repeat' (first|refine s_t ?_|(refine zb 4 ?_;refine zL ?_)|(refine zb 5 (za ?_))|(refine zb 6 (za ?_);refine yv (zF (s:=str l) (u:=u) (hv:=hch)) (k:=?_);refine yv (zd (hc:=λ_ _ _ _=>(hv _))) (k:=?_);refine zL ?_)|(refine zb 7 ?_;refine za4 ?_;refine zI ?_;refine za ?_))
   exact ret2 rfl (resCells (B:=List.replicate 16 (Value.int IntKind.u64 0)) rfl (ty rfl) rfl Has.go Seg.all rfl) (resTmp rfl) SubR.nil ⟨by rw [<-natV0];rfl,rfl⟩
  |some d=>
   simp only [hd] at hv;have hge:decide (((d:Nat):Int) < 0)=false:=q_f;repeat' (first|refine s_t ?_|(refine zb 4 ?_;refine zL ?_)|(refine zb 5 (za ?_))|(refine zb 6 (za ?_);refine yv (zF (s:=str l) (u:=u) (hv:=hch)) (k:=?_);refine yv (zd (hc:=λ_ _ _ _=>(hv _))) (k:=?_);refine zL ?_)|(refine zb 8 ?_;refine zaj ?_;refine za ?_))
   refine zq (i+1) ⟨by show i+1<=n;omega,λj hj=>?_⟩ ?_ ?_ ?_
   ·rcases Nat.lt_or_ge j i with h|h
    ·exact hok j h
    ·obtain rfl:j=i:=q_o;exact ⟨u,d,hu,hd⟩
   ·show n - (i+1) < n - i;omega
   ·exact q_h
   ·exact q_h
 obtain rfl:i=n:=q_o;obtain ⟨r,hr⟩: ∃r,hexs l=some r:=by
  cases hh:hexs l with
  |some r=>exact ⟨r,rfl⟩
  |none=>
   obtain ⟨j,u,h1,h2,_⟩:=zfq hh;have hj:j < l.length:=by
    rcases Nat.lt_or_ge j l.length with h|h
    ·exact h
    ·rw [List.getElem?_eq_none h] at h1;cases h1
   obtain ⟨v,d,h3,h4⟩:=hok j q_o;rw [h1] at h3;cases h3;rw [h2] at h4;cases h4
 have hsm:=zlF hb hr;have hrl:=zeI hr;rw [hr,Option.map_some];dsimp only;rw [<-hn] at hsm hrl;by_cases hbig:i<=256
 ·rw [if_pos (hsm.1 hbig)];repeat' (first|refine s_t ?_|(refine zb 4 ?_;refine zL ?_)|(refine zb 9 (za ?_);refine zak ?_)|(refine zb 11 ?_;refine zj ?_;intro _)|(refine zb 12 (za ?_)))
  rename_i b5;refine zy (γ:=Nat) (λq=>[(0,.string (str l)),(2,.pointer (some ⟨b2,0,none⟩)),(3,.int .i64 0),(5,.pointer (some ⟨b5,0,none⟩)),(38,.int .i64 i),(39,.int .i64 q)])
   (λq=>[.blk b5 133 (natC (bev 16 (r.take q)*16 ^ (i - q))),.blk b2 133 (List.replicate 16 (Value.int IntKind.u64 0))])
   (λq=>q<=i) (λq=>i - q) 0 (Nat.zero_le _) ?_ ?_ ?_
  ·rw [hsz];exact q_h
  ·show SubR [.blk b5 133 (natC (bev 16 (r.take 0)*16 ^ (i - 0))),.blk b2 133 (List.replicate 16 (Value.int IntKind.u64 0))] _;rw [show bev 16 (r.take 0)=0 from rfl,Nat.zero_mul,<-natC0];exact q_h
  intro q hq;by_cases hlt:q < i
  ·obtain ⟨u,hu⟩: ∃u,l[q]?=some u:=⟨l[q]'q_o,List.getElem?_eq_getElem _⟩;obtain ⟨d,hd,hrd⟩:=zc6 hr q u hu;have hch:(str l).data[q]?=some u:=by
    show l.toArray[q]?=_;rw [List.getElem?_toArray,hu]
   have hv:=λw=>zjk u w;simp only [hd] at hv;obtain ⟨p,hp⟩: ∃p,p=i - 1 - q:=⟨_,rfl⟩;have hpn:i - q=p+1:=q_o;have hsub:IntKind.i64.wrap ((((str l).size:Nat):Int) - 1 - (q:Int))=((p:Nat):Int):=by rw [hsz,IntWalk.i64_in _ q_o];omega
   have hd16:=zeC hd;obtain ⟨e1,e2,e3,e4,e5,e6⟩:=zgJ 4 16 (bev 16 (r.take q)) p d rfl q_e hd16;rw [show (2:Nat) ^ 4=16 from rfl] at e1 e4 e5 e6;have hlN:=ze (bev 16 (r.take q)*16 ^ (i - q));have hdg:=zaK (bev 16 (r.take q)*16 ^ (i - q)) (p / 16) q_o;have hset:=zcs (bev 16 (r.take q)*16 ^ (i - q)) (p / 16) (d*2 ^ (p % 16*4));have htk:=ze9 16 r q d hrd;rw [hpn] at hdg hset hlN ⊢;rw [e6,<-htk] at hset;have hset:=hset e5;rw [<-e4,<-e2] at hset;have hni:i - (q+1)=p:=q_o;generalize bev 16 (r.take q)*16 ^ (p+1)=X at *;generalize X / 18446744073709551616 ^ (p / 16) % 18446744073709551616=y at *;have q1:IntKind.i64.wrap ((p:Int).tdiv 16)=((p / 16:Nat):Int):=quoI (k:=16) q_o;have q2:(p:Int).tmod 16=((p % 16:Nat):Int):=remI p 16;have q3:IntKind.i64.wrap (((p % 16:Nat):Int)*4)=((p % 16*4:Nat):Int):=q_w;have q4:IntKind.u64.wrap ((d:Nat):Int)=((d:Nat):Int):=IntWalk.u64_in _ q_o;have hp8:p / 16 < 16:=q_o;repeat' (first|refine s_t ?_|(refine zb 13 ?_;refine zL ?_)|(refine zb 14 (za ?_))|(refine zb 15 (za ?_);refine zdc ?_;refine za ?_;refine yv (zD (hr:=hsub)) (k:=za ?_))|(refine zM (id:=16) 16 [[],[0],[],[0,1,2],[0,1,2,3],[],[],[5,6],[5,6,7],[5,6,7,8],[],[10],[10,11],[5,6,7,8,9,10,11,12],[0,1,2,3,4,5,6,7,8,9,10,11,12,13],[],[0,1,2,3,4,5,6,7,8,9,10,11,12,13,14,15],[0,1,2,3,4,5,6,7,8,9,10,11,12,13,14,15,16]] mixed ?_ ?_;kernel_rfl;refine zk ?_;refine dc (λ_ _=>zaz (hr:=q1)) (k:=?_);refine zR ?_;refine zK ?_;refine dc (λ_ _=>zC (hv:=hdg)) (k:=?_);refine zk ?_;refine zk ?_;refine dc (λ_ _=>zF (s:=str l) (u:=u) (hv:=hch)) (k:=?_);refine dc (λ_ _=>zd (hc:=λ_ _ _ _=>(hv _))) (k:=?_);refine dc (λ_ _=>z5 (hr:=q4)) (k:=?_);refine zk ?_;refine dc (λ_ _=>zap (hr:=q2)) (k:=?_);refine dc (λ_ _=>zah (hr:=q3)) (k:=?_);refine dc (λ_ _=>zd4 (a:=d) (n:=p % 16*4)) (k:=?_);refine dc (λ_ _=>zfF (a:=y) (b:=d*2 ^ (p % 16*4) % 18446744073709551616) e1 (Nat.mod_lt _ q_e)) (k:=?_);refine zR ?_;refine zY ?_;refine zw ?_;refine zI ?_)|(refine zb 17 ?_;refine zaj ?_;refine za ?_))
   refine zq (q+1) ?_ ?_ ?_ ?_
   ·show q+1<=i;omega
   ·show i - (q+1) < p+1;omega
   ·exact q_h
   ·show SubR [.blk b5 133 (natC (bev 16 (r.take (q+1))*16 ^ (i - (q+1)))),.blk b2 133 (List.replicate 16 (Value.int IntKind.u64 0))] _;rw [hni,<-hset];exact q_h
  obtain rfl:q=i:=q_o;have htake:r.take q=r:=by rw [<-hrl];exact List.take_length
  rw [htake,Nat.sub_self,Nat.pow_zero,Nat.mul_one];have hlN:=ze (bev 16 r);have hx2:=hsm.1 hbig;generalize bev 16 r=x at *;repeat' (first|refine s_0 ?_|(refine zb 13 ?_;refine zL ?_)|(refine zb 18 ?_;refine yv (zf (B:=natC x)) (k:=?_);refine yn (zi (n:=x)) (k:=za ?_)))
  exact ret2 rfl (resCells (B:=natC x) rfl (ty rfl) rfl Has.go Seg.all (ze _).symm) (resTmp rfl) SubR.nil ⟨rfl,rfl⟩
 ·rw [if_neg (λh=>hbig (hsm.2 h))];have hgt:decide (256 < (((str l).size:Nat):Int))=true:=decide_eq_true (by rw [hsz];omega);repeat' (first|refine s_0 ?_|(refine zb 4 ?_;refine zL ?_)|(refine zb 9 (za ?_);refine yv (zU (hr:=hgt)) (k:=?_))|(refine zb 10 ?_;refine za4 ?_;refine zI ?_;refine za ?_))
  exact ret2 rfl (resCells (B:=List.replicate 16 (Value.int IntKind.u64 0)) rfl (ty rfl) rfl Has.go Seg.all rfl) (resTmp rfl) SubR.nil ⟨by rw [<-natV0],rfl⟩
end Go.Proofs.YtdnlngbjpdbffaaGreatDoor
end
section
namespace Go
section
variable {F:Fence}{n:Nat}{P:Program}{Q:Exit->Act->World->Prop}{a:Act}{w:World}
theorem zay {b:Frame}{k:List Item}{cs:List Frame}{c:Code} :step P (lone (b.atR a (.code (.scope c)::k)) cs w)= .next (lone (b.atR a (.code c:: .inScope c::k)) cs w):=
 step_lone_go (by simp [stepG,stepG.exec,Frame.atR])
theorem zc2 {b:Frame}{k:List Item}{cs:List Frame}{c:Code} :step P (lone (b.atR a (.inScope c::k)) cs w)= .next (lone (b.atR a k) cs w):=
 step_lone_go (by simp [stepG,stepG.exec,Frame.atR])
theorem zeR {c:Code}(h:c.wpIn F n P (Exit.noGoto Q) a w):(Code.scope c).wpIn F n P Q a w:=by
 intro b k cs hro hb hr;have h0:(lone (b.atR a (.code (.scope c)::k)) cs w).fenced P F:=fenced_calm hb hr rfl;obtain ⟨e,a₁,w₁,hq,harr⟩:=h b (.inScope c::k) cs hro hb hr;cases e with
 |normal=>exact ⟨.normal,a₁,w₁,hq,.head h0 zay (StepsIn.trans harr (.one (fenced_calm hb hr rfl) zc2))⟩
 |exit id'=>
  have hx:exitTo id' (.inScope c::k)=exitTo id' k:=by simp [exitTo]
  exact ⟨.exit id',a₁,w₁,hq,λk' hk=> .head h0 zay (harr.1 k' (by rw [hx];exact hk)),
   λhr' hk=>let ⟨k₁,h1,h2⟩:=harr.2 hr' (by rw [hx];exact hk);⟨k₁,h1,.head h0 zay h2⟩⟩
 |goto l=>exact hq.elim
 |ret=>exact ⟨_,a₁,w₁,hq,.of_steps (.one h0 zay) harr⟩
 |panic ch=>exact ⟨_,a₁,w₁,hq,.of_steps (.one h0 zay) harr⟩
 |outgrown=>exact ⟨_,a₁,w₁,hq,.of_steps (.one h0 zay) harr⟩
end
end Go
namespace Go.Sy
open Go
section
variable {P:Program}{ro:Option Nat}{N:Nat}{w0:World}{M:Nat->Prop}{ds:List Deferred}{g:Nat->Option Value}{L:List Res}{o:Oper}{fr:Fr}{Q:Exit->Act->World->Prop}
theorem zbT {c:Code}(h:Sy P ro N w0 M ds c (Exit.noGoto Q) fr L):Sy P ro N w0 M ds (.scope c) Q fr L:=λa w hs=>zeR (h a w hs)
theorem zkc (h:SyX N w0 M ds (Q .normal) fr L):SyX N w0 M ds (Exit.noGoto Q .normal) fr L:=h
theorem zaZ (h:SyX N w0 M ds (Q .ret) fr L):SyX N w0 M ds (Exit.noGoto Q .ret) fr L:=h
theorem zoh {fo:Operand}{args:Array Operand}{tys:Array TypeId}{f:Nat}{fst vs cap:List Value}{post:Value->List Res->Prop}
  (ho:o.op= .call { callee:=.value fo,args:=args,argTypes:=tys } :=by exact rfl) (hf:ev g fo=some (.func (.func f) fst.toArray cap.toArray):=by exact rfl) (ha:evs g args.toList=some vs:=by exact rfl)
  (he: ∀args w,(callFunc f args).run P w= .ok (.enter f args) w:=by exact en rfl)
  (hc: ∀w X,Keep M w0 w->Holds w0.heap.size M (L ++ X) w->Fn P f (fst ++ vs ++ cap) w No post):OpT P ro N w0 M ds o g L (λv L'=>∃R,L'=R ++ L/\post v R):=by
 intro a w X next Q hs hn
 refine ⟨λ_ _=>trivial,?_⟩;rw [Oper.semAt_plain (FW ro) _ _ (λc hc=>by rw [ho] at hc;cases hc)];have hargs:args.map a.eval=vs.toArray:=Array.toList_inj.1 (by rw [Array.toList_map,hs.agr.evals ha]);have hrun:(execOp a.eval o).run P w= .ok (.enter f (fst ++ vs ++ cap).toArray) w:=by
  simp only [execOp,ho,resolve,hs.agr.eval hf,Deferred.ofValue,hargs,Sem.run_bind,Sem.run_pure,Result.andThen_ok,invoke];rw [show (fst.toArray ++ vs.toArray ++ cap.toArray:Array Value)=(fst ++ vs ++ cap).toArray by simp];exact he _ w
 rw [hrun];refine ⟨λh=>(by cases h),?_⟩;have hcall:=hc w X hs.keep hs.hold;have hin:CallsIn (FW ro) (0 - 1) P f (fst ++ vs ++ cap).toArray w (λe w'=>∃v R,e= .returned v/\post v R/\Keep No w w'/\Holds w.heap.size No R w'):=(callsIn_wide (n:=0 - 1)).2 hcall;refine CallsIn.mono hin ?_;rintro e w' ⟨v,R,rfl,hp,hk,hh⟩;have hkp:Keep M w0 w':=hs.keep.trans hk (λb hb=>hb.elim);refine hn v w' (R ++ L) ⟨R,rfl,hp⟩ hkp ?_;have hL:=hs.hold.keep hk (λ_ _ _ _ h=>h);rw [List.append_assoc];refine ⟨λr hr=>?_,?_,λr hr b hb=>?_⟩
 ·rcases List.mem_append.1 hr with h|h
  ·exact hh.all r h
  ·exact hL.all r h
 ·refine List.pairwise_append.2 ⟨hh.apart,hL.apart,λr hr r' hr' b hb hb'=>?_⟩;rcases hh.mine r hr b hb with h|h
  ·have:=Res.own_lt (hs.hold.all r' hr') hb';omega
  ·exact h.elim
 ·rcases List.mem_append.1 hr with h|h
  ·rcases hh.mine r h b hb with h'|h'
   ·exact .inl (Nat.le_trans hs.keep.size h')
   ·exact h'.elim
  ·exact hL.mine r h b hb
theorem zcD {fo:Operand}{args:Array Operand}{tys:Array TypeId}{f:Nat}{fst vs cap:List Value}{v:Value}
  (hc: ∀w X,Keep M w0 w->Holds w0.heap.size M (L ++ X) w->Fn P f (fst ++ vs ++ cap) w No (Gives v)) (ho:o.op= .call { callee:=.value fo,args:=args,argTypes:=tys } :=by exact rfl) (hf:ev g fo=some (.func (.func f) fst.toArray cap.toArray):=by exact rfl) (ha:evs g args.toList=some vs:=by exact rfl)
  (he: ∀args w,(callFunc f args).run P w= .ok (.enter f args) w:=by exact en rfl):OpT P ro N w0 M ds o g L (Det v L):=
 (zoh ho hf ha he hc).mono λv' L' ⟨R,e,hv,hR⟩=>by subst hv;subst hR;exact ⟨rfl,e⟩
end
end Go.Sy
end
