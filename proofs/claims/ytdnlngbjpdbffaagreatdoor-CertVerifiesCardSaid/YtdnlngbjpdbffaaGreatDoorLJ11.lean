/- Bytes without zeros ahead. -/
import Derived.Test.YtdnlngbjpdbffaaGreatDoorLJ10
import Derived.Test.YtdnlngbjpdbffaaGreatDoorLJ04
import Derived.Test.YtdnlngbjpdbffaaGreatDoorLJ07
set_option maxHeartbeats 1000000
set_option maxRecDepth 10000
set_option linter.all false
section
namespace Go.Nt
open Go Go.Sy
def tz (l:List UInt8):List UInt8:=l.dropWhile (· == 0)
def bn (l:List UInt8):List Nat:=l.map (·.toNat)
theorem zeh (l:List UInt8): ∀d∈bn l,d < 256:=by
 intro d hd;obtain ⟨u,_,rfl⟩:=List.mem_map.1 hd;exact u.toNat_lt
theorem zr8 (l:List UInt8):bn (tz l)=(bn l).dropWhile (· == 0):=by
 unfold bn tz
 induction l with
 |nil=>rfl
 |cons u l ih=>
  rw [List.dropWhile_cons,List.map_cons,List.dropWhile_cons];by_cases h:u=0
  ·subst h;simpa using ih
  ·have h1:(u == 0)=false:=by simpa using h
   have h2:(u.toNat == 0)=false:=by
    rw [beq_eq_false_iff_ne];intro h3;exact h (UInt8.toNat_inj.1 (by rw [h3];rfl))
   rw [h1,h2];rfl
theorem zm6 (l:List UInt8):bev 256 (bn (tz l))=bev 256 (bn l):=by rw [zr8,zji]
theorem zkg (l:List UInt8):tz (0::l)=tz l:=by unfold tz;rw [List.dropWhile_cons];rfl
theorem zk9 (u:UInt8) (l:List UInt8) (h:u≠0):tz (u::l)=u::l:=by
 unfold tz;rw [List.dropWhile_cons,if_neg (by simpa using h)]
theorem zpL (l:List UInt8):(tz l).length<=l.length:=by
 unfold tz;exact (List.dropWhile_sublist _).length_le
theorem zq7 (l:List UInt8) (u:UInt8) (r:List UInt8) (h:tz l=u::r):u≠0:=by
 induction l with
 |nil=>cases h
 |cons a l ih=>
  by_cases ha:a=0
  ·subst ha;rw [zkg] at h;exact ih h
  ·rw [zk9 a l ha] at h;rw [<-(List.cons.inj h).1];exact ha
end Go.Nt
namespace Go.Proofs.YtdnlngbjpdbffaaGreatDoor
open Go Go.Sy Go.Nt Go.RowKit
attribute [local irreducible] Sy SyL SyX Sy.Fn callFunc natC
theorem zkJ (b o len c:Nat) (bl:List UInt8) (w:World) (hl:bl.length=len) (hc:len<=c) (hb:w.rangeAt b o (bl.map v8)) (h0:0 < len):
  Sy.Fn Tryz.prog 286 [.slice (some ⟨b,o,none⟩) len c,v8 0] w No (Gives (if tz bl= [] then .slice none 0 0 else .slice (some ⟨b,o+(len - (tz bl).length),none⟩) (tz bl).length (c - (len - (tz bl).length)))):=by
 refine zg Tryz.func286 rfl Tryz.ntmps286 q_p Holds.nil ?_;repeat' (first|refine s_t ?_|(refine zb 0 (za ?_)))
 refine zy (γ:=Nat×Option Addr) (λg=>[(0,.slice g.2 (len - g.1) (c - g.1)),(1,v8 0)]) (λ_=>[]) (λg=>g.1<=len/\tz (bl.drop g.1)=tz bl/\(g.1 < len->g.2=some ⟨b,o+g.1,none⟩)) (λg=>len - g.1) (0,some ⟨b,o,none⟩) ⟨Nat.zero_le _,rfl,λ_=>rfl⟩ ?_ ?_ ?_
 ·exact q_h
 ·exact q_h
 rintro ⟨i,a⟩ ⟨hi,ht,ha⟩;dsimp only at hi ht ha ⊢;by_cases hlt:i < len
 ·obtain rfl:=ha hlt;obtain ⟨u,hu⟩: ∃u,bl[i]?=some u:=⟨bl[i]'q_o,List.getElem?_eq_getElem _⟩;have hcell:w.cell? ⟨b,o+i,none⟩=some (v8 u):=hb i (v8 u) (by rw [List.getElem?_map,hu];rfl);have hdrop:bl.drop i=u::bl.drop (i+1):=by
   rw [List.drop_eq_getElem_cons q_o];rw [List.getElem?_eq_getElem q_o] at hu;rw [Option.some.inj hu]
  have hpos:decide (0 < ((len - i:Nat):Int))=true:=q_d;by_cases hz:u=0
  ·subst hz;rw [hdrop,zkg] at ht;repeat' (first|refine s_t ?_|(refine zb 1 (za ?_);refine yv (zU (hr:=hpos)) (k:=za ?_);refine zw ?_;refine yv (zl (hv:=hcell)) (k:=za ?_);refine zan ?_;refine za ?_)|(refine zb 2 (za ?_);refine zbv ?_;refine za ?_))
   refine zq (i+1,movA (some ⟨b,o+i,none⟩) 1 (c - i) 1) ⟨by show i+1<=len;omega,ht,λh=>ze2 q_o⟩ ?_ ?_ ?_
   ·show len - (i+1) < len - i;omega
   ·exact q_h
   ·exact q_h
  ·rw [hdrop,zk9 u _ hz] at ht;have hne':decide (Wd.n8 u=Wd.n8 0)=false:=decide_eq_false (λh=>hz (Wd.n8_inj h));have htl:(tz bl).length=len - i:=by rw [<-ht,<-hdrop,List.length_drop,hl]
   have hnz:decide (((len - i:Nat):Int)=0)=false:=q_f;rw [htl,if_neg (by rw [<-ht];simp),show len - (len - i)=i by omega];repeat' (first|refine s_0 ?_|(refine zb 1 (za ?_);refine yv (zU (hr:=hpos)) (k:=za ?_);refine zw ?_;refine yv (zl (hv:=hcell)) (k:=za ?_);refine yv (zX (hr:=hne')) (k:=za ?_))|(refine zb 3 (za ?_);refine yv (zX (hr:=hnz)) (k:=?_))|(refine zb 5 (za ?_)))
   exact q_r
 ·obtain rfl:i=len:=q_o;rw [List.drop_eq_nil_of_le q_o] at ht;have hz0:decide (0 < ((i - i:Nat):Int))=false:=q_f;have hz1:decide (((i - i:Nat):Int)=0)=true:=q_d;rw [if_pos (show tz bl= [] from ht.symm)];repeat' (first|refine s_0 ?_|(refine zb 1 (za ?_);refine yv (zU (hr:=hz0)) (k:=za ?_))|(refine zb 3 (za ?_);refine yv (zX (hr:=hz1)) (k:=?_))|(refine zb 4 (za ?_)))
  exact q_r
theorem zku (a:Option Addr) (len c:Nat) (bl:List UInt8) (w:World) (hl:bl.length=len) (hc:len<=c) (hb:SlA w a (bl.map v8)):
  ∃a' c',(tz bl).length<=c'/\SlA w a' ((tz bl).map v8)/\ ∀w',Keep No w w'->Sy.Fn Tryz.prog 242 [.slice a len c,.string (str [0])] w' No (Gives (.slice a' (tz bl).length c')):=by
 rcases Nat.eq_zero_or_pos len with h0|h0
 ·obtain rfl:bl= []:=List.length_eq_zero_iff.1 q_o;subst h0;refine ⟨none,0,Nat.le_refl _,.inl rfl,λw' hk=>?_⟩;refine zg Tryz.func242 rfl Tryz.ntmps242 q_p Holds.nil ?_;repeat' (first|refine s_0 ?_|(refine zB [0,2] ?_;refine za ?_)|(refine zb 1 (za ?_);refine zan ?_))
  exact q_r
 obtain ⟨b,o,rfl,hr⟩: ∃b o,a=some ⟨b,o,none⟩/\w.rangeAt b o (bl.map v8):=by
  rcases hb with h|h
  ·have:=congrArg List.length h;rw [List.length_map,hl] at this;exact absurd this (by show ¬len=0;omega)
  ·exact h
 have htb:=λw' (hk:Keep No w w')=>zkJ b o len c bl w' hl hc (zaw hr hk (λh=>h)) h0;have hle:=zpL bl;have hdt:(tz bl).map v8=(bl.map v8).drop (len - (tz bl).length):=by
  rw [<-List.map_drop];congr 1;have:tz bl <:+ bl:=List.dropWhile_suffix _;rw [<-hl];exact List.suffix_iff_eq_drop.1 this
 by_cases ht:tz bl= []
 ·simp only [if_pos ht] at htb;refine ⟨none,0,by rw [ht];exact Nat.le_refl _,.inl (by rw [ht];rfl),λw' hk=>?_⟩;rw [ht];refine zg Tryz.func242 rfl Tryz.ntmps242 q_p Holds.nil ?_;have hnz:decide (((len:Nat):Int)=0)=false:=q_f;repeat' (first|refine s_0 ?_|(refine zb 0 (za ?_))|(refine zb 1 (za ?_);refine yv (zX (hr:=hnz)) (k:=?_))|(refine zb 3 (za ?_);refine yv (za2 (a:=[0]) (b:=[]) (r:=false) (hr:=rfl)) (k:=?_))|(refine zb 5 (za ?_);refine zan ?_;refine za ?_;refine yv (zF (s:=str [0]) (u:=0) (hv:=rfl)) (k:=?_);refine zL ?_;refine za ?_)|(refine zb 6 (za ?_);refine yv (zF (s:=str [0]) (u:=0) (hv:=rfl)) (k:=?_);refine yv (zd (hc:=λw'' _ hk' _=>htb w'' (hk.trans hk' (λ_ h=>h.elim)))) (k:=?_);refine za ?_))
  exact q_r
 ·simp only [if_neg ht] at htb;refine ⟨some ⟨b,o+(len - (tz bl).length),none⟩,c - (len - (tz bl).length),by omega,?_,λw' hk=>?_⟩
  ·refine .inr ⟨b,_,rfl,λj v hj=>?_⟩;rw [hdt,List.getElem?_drop] at hj;rw [Nat.add_assoc];exact hr _ v hj
  ·refine zg Tryz.func242 rfl Tryz.ntmps242 q_p Holds.nil ?_;have hnz:decide (((len:Nat):Int)=0)=false:=q_f;repeat' (first|refine s_0 ?_|(refine zb 0 (za ?_))|(refine zb 1 (za ?_);refine yv (zX (hr:=hnz)) (k:=?_))|(refine zb 3 (za ?_);refine yv (za2 (a:=[0]) (b:=[]) (r:=false) (hr:=rfl)) (k:=?_))|(refine zb 5 (za ?_);refine zan ?_;refine za ?_;refine yv (zF (s:=str [0]) (u:=0) (hv:=rfl)) (k:=?_);refine zL ?_;refine za ?_)|(refine zb 6 (za ?_);refine yv (zF (s:=str [0]) (u:=0) (hv:=rfl)) (k:=?_);refine yv (zd (hc:=λw'' _ hk' _=>htb w'' (hk.trans hk' (λ_ h=>h.elim)))) (k:=?_);refine za ?_))
   exact q_r
end Go.Proofs.YtdnlngbjpdbffaaGreatDoor
namespace Go.Nt
theorem zgJ (t k A p u:Nat) (hW:t*k=64) (hk:0 < k) (hu:u < 2 ^ t):
  A*(2 ^ t) ^ (p+1) / 18446744073709551616 ^ (p / k) % 18446744073709551616 < 18446744073709551616/\
  u*2 ^ (p % k*t) % 18446744073709551616=u*2 ^ (p % k*t)/\
  u*2 ^ (p % k*t) < 18446744073709551616/\
  (A*(2 ^ t) ^ (p+1) / 18446744073709551616 ^ (p / k) % 18446744073709551616 ||| u*2 ^ (p % k*t))=A*(2 ^ t) ^ (p+1) / 18446744073709551616 ^ (p / k) % 18446744073709551616+u*2 ^ (p % k*t)/\
  A*(2 ^ t) ^ (p+1) / 18446744073709551616 ^ (p / k) % 18446744073709551616+u*2 ^ (p % k*t) < 18446744073709551616/\
  A*(2 ^ t) ^ (p+1)+u*2 ^ (p % k*t)*18446744073709551616 ^ (p / k)=(A*2 ^ t+u)*(2 ^ t) ^ p:=by
 have hb:(2 ^ t) ^ k=18446744073709551616:=by rw [<-Nat.pow_mul,hW]
 have hr:p % k < k:=Nat.mod_lt _ hk;have hp:k*(p / k)+p % k=p:=Nat.div_add_mod p k;have hd:=znH (2 ^ t) k A (p / k) (p % k) u hr hu;have hs:=zfI (2 ^ t) (p / k) (p % k) k;rw [hp,hb] at hd hs;have h2:(2 ^ t) ^ (p % k)=2 ^ (p % k*t):=by rw [<-Nat.pow_mul,Nat.mul_comm]
 have h3:(2 ^ t) ^ (p % k+1)=2 ^ (p % k*t+t):=by rw [<-Nat.pow_mul,Nat.mul_add,Nat.mul_one,Nat.mul_comm]
 rw [h2] at hs hd;rw [h3] at hd;obtain ⟨hd1,hd2⟩:=hd;have h4:u*2 ^ (p % k*t) < 2 ^ (p % k*t+t):=by
  rw [Nat.pow_add,Nat.mul_comm];exact Nat.mul_lt_mul_of_pos_left hu (Nat.pow_pos q_e)
 refine ⟨Nat.mod_lt _ q_e,Nat.mod_eq_of_lt q_o,by omega,?_,by rw [hd1];exact hd2,?_⟩
 ·rw [hd1];exact zkk _ _ _ h4
 ·rw [Nat.pow_succ,hs,Nat.add_mul];congr 1
  ·ac_rfl
  ·ac_rfl
theorem zkj (b:Nat) (l:List Nat) (d:Nat):bev b (l ++ [d])=bev b l*b+d:=by
 rw [zeT];simp [bev]
theorem zjR (l:List UInt8) (i:Nat) (u:UInt8) (h:l[i]?=some u):bev 256 (bn (l.take (i+1)))=bev 256 (bn (l.take i))*256+u.toNat:=by
 have hi:i < l.length:=by
  rcases Nat.lt_or_ge i l.length with h1|h1
  ·exact h1
  ·rw [List.getElem?_eq_none h1] at h;cases h
 have:l.take (i+1)=l.take i ++ [u]:=by
  rw [List.take_succ,h];rfl
 rw [this];unfold bn;rw [List.map_append];exact zkj 256 _ _
theorem w256:18446744073709551616 ^ 16=256 ^ 128:=zel 256 8 128 rfl rfl
theorem zpA (l:List UInt8):(tz l).length<=128↔bev 256 (bn l) < 18446744073709551616 ^ 16:=by
 rw [w256,<-zm6 l];cases ht:tz l with
 |nil=>simp only [List.length_nil];exact ⟨λ_=>Nat.pow_pos q_e,λ_=>by omega⟩
 |cons u r=>
  have hu:=zq7 l u r ht;have hu0:0 < u.toNat:=by
   rcases Nat.eq_zero_or_pos u.toNat with h|h
   ·exact absurd (UInt8.toNat_inj.1 (by rw [h];rfl)) hu
   ·exact h
  have h1:=znn 256 q_e u.toNat (bn r) hu0 (zeh (u::r));have h2:=zcf 256 (bn (u::r)) (zeh _);have h3:(bn (u::r)).length=(u::r).length:=List.length_map _;have h4:(u.toNat::bn r).length=(u::r).length:=h3;rw [h4] at h1;rw [h3] at h2;constructor
  ·intro h;exact Nat.lt_of_lt_of_le h2 (Nat.pow_le_pow_right q_e h)
  ·intro h;have:=zao 256 _ 128 q_e h;rw [show bev 256 (bn (u::r))=bev 256 (u.toNat::bn r) from rfl,h1] at this;exact this
end Go.Nt
namespace Go.Proofs.YtdnlngbjpdbffaaGreatDoor
open Go Go.Sy Go.Nt Go.RowKit
attribute [local irreducible] Sy SyL SyX Sy.Fn callFunc natC
theorem zbd (a:Option Addr) (len c:Nat) (bl:List UInt8) (w:World) (hl:bl.length=len) (hc:len<=c) (hb:SlA w a (bl.map v8)) (hx:len < 9223372036854775808):
  Sy.Fn Tryz.prog 181 [.slice a len c] w No (Gives (if bev 256 (bn bl) < 18446744073709551616 ^ 16 then .tuple #[natV (bev 256 (bn bl)),.int .i64 0] else .tuple #[natV 0,.int .i64 7])):=by
 refine zg Tryz.func181 rfl Tryz.ntmps181 q_p Holds.nil ?_;obtain ⟨a',c',hc',hs,htl⟩:=zku a len c bl w hl hc hb;have hle:=zpL bl;have hsm:=zpA bl;rw [<-zm6 bl] at hsm ⊢;generalize tz bl=l at *;obtain ⟨n,hn⟩: ∃n,n=l.length:=⟨_,rfl⟩;rw [<-hn] at htl hc' hsm hle;by_cases hbig:n<=128
 ·rw [if_pos (hsm.1 hbig)];repeat' (first|refine s_t ?_|(refine zb 0 ?_;refine zO ?_;intro _)|(refine zb 1 (za ?_);refine yv (zd (hc:=zr htl)) (k:=?_);refine za ?_)|(refine zb 2 (za ?_);refine zak ?_)|(refine zb 4 ?_;refine zj ?_;intro _)|(refine zb 5 (za ?_)))
  rename_i b2 b4;refine zy (γ:=Nat) (λi=>[(0,.slice a' n c'),(2,.pointer (some ⟨b2,0,none⟩)),(3,.int .i64 0),(4,.pointer (some ⟨b4,0,none⟩)),(14,.slice a' n c'),(15,.int .i64 n),(16,.int .i64 i)])
   (λi=>[.blk b4 133 (natC (bev 256 (bn (l.take i))*256 ^ (n - i))),.blk b2 133 (List.replicate 16 (Value.int IntKind.u64 0))])
   (λi=>i<=n) (λi=>n - i) 0 (Nat.zero_le _) ?_ ?_ ?_
  ·exact q_h
  ·show SubR [.blk b4 133 (natC (bev 256 (bn (l.take 0))*256 ^ (n - 0))),.blk b2 133 (List.replicate 16 (Value.int IntKind.u64 0))] _;rw [show bev 256 (bn (l.take 0))=0 from rfl,Nat.zero_mul,<-natC0];exact q_h
  intro i hi;by_cases hlt:i < n
  ·obtain ⟨u,hu⟩: ∃u,l[i]?=some u:=⟨l[i]'q_o,List.getElem?_eq_getElem _⟩;obtain ⟨b,o,rfl,hr⟩: ∃b o,a'=some ⟨b,o,none⟩/\w.rangeAt b o (l.map v8):=by
    rcases hs with h|h
    ·have:=congrArg List.length h;rw [List.length_map,<-hn] at this;exact absurd this (by show ¬n=0;omega)
    ·exact h
   have hcell:w.cell? ⟨b,o+i,none⟩=some (v8 u):=hr i (v8 u) (by rw [List.getElem?_map,hu];rfl);obtain ⟨p,hp⟩: ∃p,p=n - 1 - i:=⟨_,rfl⟩;have hpn:n - i=p+1:=q_o;have hsub:IntKind.i64.wrap ((n:Int) - 1 - (i:Int))=((p:Nat):Int):=q_w;obtain ⟨e1,e2,e3,e4,e5,e6⟩:=zgJ 8 8 (bev 256 (bn (l.take i))) p u.toNat rfl q_e u.toNat_lt;rw [show (2:Nat) ^ 8=256 from rfl] at e1 e4 e5 e6;have hlN:=ze (bev 256 (bn (l.take i))*256 ^ (n - i));have hd:=zaK (bev 256 (bn (l.take i))*256 ^ (n - i)) (p / 8) q_o;have hset:=zcs (bev 256 (bn (l.take i))*256 ^ (n - i)) (p / 8) (u.toNat*2 ^ (p % 8*8));have htk:=zjR l i u hu;rw [hpn] at hd hset hlN ⊢;rw [e6,<-htk] at hset;have hset:=hset e5;rw [<-e4,<-e2] at hset;have hni:n - (i+1)=p:=q_o;generalize bev 256 (bn (l.take i))*256 ^ (p+1)=X at *;generalize X / 18446744073709551616 ^ (p / 8) % 18446744073709551616=d at *;have q1:IntKind.i64.wrap ((p:Int).tdiv 8)=((p / 8:Nat):Int):=quoI (k:=8) q_o;have q2:(p:Int).tmod 8=((p % 8:Nat):Int):=remI p 8;have q3:IntKind.i64.wrap (((p % 8:Nat):Int)*8)=((p % 8*8:Nat):Int):=q_w;have q4:IntKind.u64.wrap (Wd.n8 u)=((u.toNat:Nat):Int):=IntWalk.u64_in _ (by have:=Wd.n8_lt u;have:=Wd.n8_nonneg u;omega);have hp8:p / 8 < 16:=q_o;repeat' (first|refine s_t ?_|(refine zb 6 ?_;refine zL ?_)|(refine zb 7 (za ?_);refine zw ?_;refine yv (zl (hv:=hcell)) (k:=za ?_))|(refine zb 8 (za ?_);refine zdc ?_;refine za ?_;refine yv (zD (hr:=hsub)) (k:=za ?_))|(refine zM (id:=9) 13 [[],[0],[],[0,1,2],[0,1,2,3],[],[5],[],[7],[7,8],[5,6,7,8,9],[0,1,2,3,4,5,6,7,8,9,10],[],[0,1,2,3,4,5,6,7,8,9,10,11,12],[0,1,2,3,4,5,6,7,8,9,10,11,12,13]] mixed ?_ ?_;kernel_rfl;refine zk ?_;refine dc (λ_ _=>zaz (hr:=q1)) (k:=?_);refine zR ?_;refine zK ?_;refine dc (λ_ _=>zC (hv:=hd)) (k:=?_);refine zk ?_;refine dc (λ_ _=>z5 (hr:=q4)) (k:=?_);refine zk ?_;refine dc (λ_ _=>zap (hr:=q2)) (k:=?_);refine dc (λ_ _=>zah (hr:=q3)) (k:=?_);refine dc (λ_ _=>zd4 (a:=u.toNat) (n:=p % 8*8)) (k:=?_);refine dc (λ_ _=>zfF (a:=d) (b:=u.toNat*2 ^ (p % 8*8) % 18446744073709551616) e1 (Nat.mod_lt _ q_e)) (k:=?_);refine zR ?_;refine zY ?_;refine zw ?_;refine zI ?_)|(refine zb 10 ?_;refine zaj ?_;refine za ?_))
   refine zq (i+1) ?_ ?_ ?_ ?_
   ·show i+1<=n;omega
   ·show n - (i+1) < p+1;omega
   ·exact q_h
   ·show SubR [.blk b4 133 (natC (bev 256 (bn (l.take (i+1)))*256 ^ (n - (i+1)))),.blk b2 133 (List.replicate 16 (Value.int IntKind.u64 0))] _;rw [hni,<-hset];exact q_h
  obtain rfl:i=n:=q_o;have htake:l.take i=l:=by rw [hn];exact List.take_length
  rw [htake,Nat.sub_self,Nat.pow_zero,Nat.mul_one];have hlN:=ze (bev 256 (bn l));have hx2:=hsm.1 hbig;generalize bev 256 (bn l)=x at *;repeat' (first|refine s_0 ?_|(refine zb 6 ?_;refine zL ?_)|(refine zb 11 ?_;refine yv (zf (B:=natC x)) (k:=?_);refine yn (zi (n:=x)) (k:=za ?_)))
  exact ret2 rfl (resCells (B:=natC x) rfl (ty rfl) rfl Has.go Seg.all (ze _).symm) (resTmp rfl) SubR.nil ⟨rfl,rfl⟩
 ·rw [if_neg (λh=>hbig (hsm.2 h))];have hgt:decide (128 < (n:Int))=true:=q_d;repeat' (first|refine s_0 ?_|(refine zb 0 ?_;refine zO ?_;intro _)|(refine zb 1 (za ?_);refine yv (zd (hc:=zr htl)) (k:=?_);refine za ?_)|(refine zb 2 (za ?_);refine yv (zU (hr:=hgt)) (k:=?_))|(refine zb 3 ?_;refine za4 ?_;refine zI ?_;refine za ?_))
  exact ret2 rfl (resCells (B:=List.replicate 16 (Value.int IntKind.u64 0)) rfl (ty rfl) rfl Has.go Seg.all rfl) (resTmp rfl) SubR.nil ⟨by rw [<-natV0],rfl⟩
end Go.Proofs.YtdnlngbjpdbffaaGreatDoor
end
section
namespace Go.Sy
theorem permr {L L' R:List Res}{r:Res}(h:Rem L r L') (k:L'.Perm R):L.Perm (r::R):=h.perm.trans (List.Perm.cons _ k)
theorem notOwn {L1:List Res}{r:Res}{Mi:Nat->Prop}(h:Has L1 r) (hm1: ∀b,Mi b-> ¬OwnOf L1 b): ∀b,Mi b-> ¬OwnOf [r] b:=λb hb ⟨r',hr,ho⟩=>by
 obtain rfl:=List.mem_singleton.1 hr;exact hm1 b hb ⟨_,h,ho⟩
theorem SubR.skip {A B:List Res}{r:Res}(h:SubR A B):SubR A (r::B):=by
 obtain ⟨X,hx⟩:=h;exact ⟨r::X,(List.Perm.cons r hx).trans List.perm_middle.symm⟩
end Go.Sy
end
section
namespace Go.Nt
open Go Go.Sy
def ArgN (_:Nat->Prop) (x:Nat) (vs:List Value) (RA:List Res) (_:World):Prop:=vs= [.int .i64 ((x:Nat):Int)]/\RA= []
theorem zqd (r i low:Nat) (hr:0 < r) (hl:low < 18446744073709551616 ^ i):nd 2 (r*18446744073709551616 ^ i+low)=64*i+nd 2 r:=by
 rw [wpow] at hl ⊢;have hp:0 < 2 ^ (64*i):=Nat.pow_pos q_e;have h1:2 ^ (64*i)<=r*2 ^ (64*i):=Nat.le_mul_of_pos_left _ hr;have h2:=zfC 2 (r*2 ^ (64*i)+low) (64*i) q_e q_o;rw [h2,Nat.mul_comm r,Nat.mul_add_div hp,Nat.div_eq_of_lt hl,Nat.add_zero]
end Go.Nt
namespace Go.Proofs.YtdnlngbjpdbffaaGreatDoor
open Go Go.Sy Go.Nt Go.RowKit
attribute [local irreducible] Sy SyL SyX Sy.Fn callFunc natC
theorem zlt (x:Nat) (w:World):
  Sy.Fn Tryz.prog 283 [natV x] w No (λv R=>∃b,v= .func (.func 316) #[] #[.pointer (some ⟨b,0,none⟩)]/\R= [.blk b 133 (natC x)]):=by
 refine zg Tryz.func283 rfl Tryz.ntmps283 q_p Holds.nil ?_;have hlx:=ze x;repeat' (first|refine s_0 ?_|(refine zb 0 ?_;refine zO ?_;intro _)|(refine zb 1 ?_;refine zaa ?_;refine za ?_))
 rename_i b;exact ret1 rfl (resTmp rfl) q_h ⟨b,rfl,rfl⟩
theorem ziR (b1 x:Nat) (w:World) (M:Nat->Prop) (hx:x < 18446744073709551616 ^ 16):
  IterC Tryz.prog 316 [.pointer (some ⟨b1,0,none⟩)] (ones x) ArgN w M [.blk b1 133 (natC x)]:=by
 intro l J Jx j0 hJ0 hh hY;refine zg Tryz.func316 rfl Tryz.ntmps316 q_p hh ?_;have hlx:=ze x;have hgx:=zaK x;repeat' (first|refine s_t ?_|(refine zb 0 (za ?_)))
 refine zy (γ:=Nat×Nat×Res) (λg=>[(0,.func (.yield l) #[] #[]),(1,.pointer (some ⟨b1,0,none⟩)),(3,.int .i64 ((g.1:Int) - 1))])
  (λg=>[g.2.2,.blk b1 133 (natC x)])
  (λg=>g.1<=16/\g.2.1<=(ones x).length/\left g.2.1 x=x % 18446744073709551616 ^ g.1/\J g.2.1 g.2.2)
  (λg=>g.1) (16,0,j0) ⟨Nat.le_refl _,Nat.zero_le _,(Nat.mod_eq_of_lt hx).symm,hJ0⟩ ?_ ?_ ?_
 ·exact q_h
 ·exact q_h
 rintro ⟨i,k,j⟩ ⟨hi,hk,hlf,hJ⟩;dsimp only at hi hk hlf hJ ⊢;rcases Nat.eq_zero_or_pos i with h0|h0
 ·subst h0;rw [Nat.pow_zero,Nat.mod_one] at hlf;have hke:k=(ones x).length:=by
   rcases Nat.lt_or_ge k (ones x).length with h|h
   ·have:=(zdX h).1;omega
   ·omega
  subst hke;repeat' (first|refine s_0 ?_|(refine zb 1 (za ?_);refine zad ?_))
  exact end0 rfl q_h ⟨j,rfl,.inl hJ⟩
 obtain ⟨i,rfl⟩: ∃i',i=i'+1:=⟨i - 1,by omega⟩;have hij:(((i+1:Nat):Int) - 1)=((i:Nat):Int):=q_o;have hs1:IntKind.i64.wrap ((i:Int) - 1)=(i:Int) - 1:=IntWalk.i64_in _ q_o;rw [hij];have hd:=hgx i q_o;rw [zaM] at hlf;have hdl:x / 18446744073709551616 ^ i % 18446744073709551616 < 18446744073709551616:=Nat.mod_lt _ q_e;have hlow:x % 18446744073709551616 ^ i < 18446744073709551616 ^ i:=Nat.mod_lt _ (Nat.pow_pos q_e);generalize x / 18446744073709551616 ^ i % 18446744073709551616=d at *;repeat' (first|refine s_t ?_|(refine zb 1 (za ?_);refine zad ?_)|(refine zb 3 (za ?_);refine zw ?_;refine yv (zC (hv:=hd)) (k:=za ?_)))
 refine zy (γ:=Nat×Nat×Res) (λg=>[(0,.func (.yield l) #[] #[]),(1,.pointer (some ⟨b1,0,none⟩)),(3,.int .i64 i),(4,nv g.1)])
  (λg=>[g.2.2,.blk b1 133 (natC x)])
  (λg=>g.1 < 18446744073709551616/\g.2.1<=(ones x).length/\left g.2.1 x=x % 18446744073709551616 ^ i+g.1*18446744073709551616 ^ i/\J g.2.1 g.2.2)
  (λg=>g.1) (d,k,j) ⟨hdl,hk,hlf,hJ⟩ ?_ ?_ ?_
 ·exact q_h
 ·exact q_h
 clear hlf hJ hk hd hdl;rintro ⟨r,k,j⟩ ⟨hr,hk,hlf,hJ⟩;dsimp only at hr hk hlf hJ ⊢;rcases Nat.eq_zero_or_pos r with h0|h0
 ·subst h0;rw [Nat.zero_mul,Nat.add_zero] at hlf;repeat' (first|refine s_0 ?_|(refine zb 4 (za ?_);refine z8 ?_)|(refine zb 2 (za ?_);refine yv (zD (hr:=hs1)) (k:=za ?_)))
  refine zq (i,k,j) ⟨by show i<=16;omega,hk,hlf,hJ⟩ ?_ ?_ ?_
  ·show i < i+1;omega
  ·exact q_h
  ·exact q_h
 obtain ⟨hn0,hn1,hn2⟩:=zev r h0;have hn64:=zao 2 r 64 q_e hr;have hnd:=zqd r i _ h0 hlow;rw [Nat.add_comm,<-hlf] at hnd;have hlen:=λw=>zgF r w hr;have hpos:0 < left k x:=by
  have:18446744073709551616 ^ i<=r*18446744073709551616 ^ i:=Nat.le_mul_of_pos_left _ h0;have:0 < 18446744073709551616 ^ i:=Nat.pow_pos q_e;omega
 have hkx:=znL hk hpos;have hxk:=(zdX hkx).2;have hls:=zdw k x;rw [hnd] at hxk hls;generalize nd 2 r=m at *;obtain ⟨q,rfl⟩: ∃q,m=q+1:=⟨m - 1,by omega⟩;obtain ⟨r',rfl⟩: ∃r',r=2 ^ q+r':=⟨r - 2 ^ q,by rw [Nat.add_sub_cancel] at hn1;omega⟩;have hr':r' < 2 ^ q:=by rw [Nat.pow_succ] at hn2;omega
 have hxk:(ones x)[k]=64*i+q:=by rw [hxk];omega
 have hls:left (k+1) x=x % 18446744073709551616 ^ i+r'*18446744073709551616 ^ i:=by
  rw [hls,hlf,show 64*i+(q+1) - 1=64*i+q by omega,Nat.pow_add,<-wpow,Nat.add_mul,Nat.mul_comm (2 ^ q)];omega
 have hs2:IntKind.i64.wrap (((q+1:Nat):Int) - 1)=((q:Nat):Int):=q_w;have hm1:IntKind.i64.wrap (64*(i:Int))=((64*i:Nat):Int):=q_w;have ha1:IntKind.i64.wrap (((64*i:Nat):Int)+(q:Int))=((64*i+q:Nat):Int):=q_w;have hnz:decide (((2 ^ q+r':Nat):Int)≠0)=true:=decide_eq_true (by
  have:0 < 2 ^ q:=Nat.pow_pos q_e;omega)
 have hp0:0 < 2 ^ q:=Nat.pow_pos q_e;repeat' (first|refine s_t ?_|(refine zb 4 (za ?_);refine yv (zag (hr:=hnz)) (k:=?_))|(refine zb 5 (za ?_);refine yv (zd (hc:=λ_ _ _ _=>(hlen _))) (k:=?_);refine yv (zD (hr:=hs2)) (k:=za ?_))|(refine zb 6 (za ?_);refine yv (zah (hr:=hm1)) (k:=za ?_);refine yv (zu (hr:=ha1)) (k:=?_);(refine ys (zbS hY hkx hJ (hL:=RemL.cons (by exact Rem.here) rfl RemL.nil) (harg:=λw' X hk hh'=>⟨by rw [hxk],rfl⟩)) (k:=?_);rintro _ _ ⟨y,j',rfl,rfl,hy⟩);refine za ?_))
 cases y with
 |false=>
  repeat' (first|refine s_0 ?_|fail)
  exact ret0 rfl q_h ⟨j',rfl,.inr ⟨k+1,by omega,hy⟩⟩
 |true=>
  repeat' (first|refine s_0 ?_|(refine zb 7 (za ?_);refine yv (zlv (n:=q) q_o) (k:=?_);refine yv (znG (r:=r') (k:=q) q_o hr') (k:=za ?_)))
  refine zq (r',k+1,j') ⟨by show r' < _;omega,by show k+1<=_;omega,hls,hy⟩ ?_ ?_ ?_
  ·show r' < 2 ^ q+r';omega
  ·exact q_h
  ·exact q_h
end Go.Proofs.YtdnlngbjpdbffaaGreatDoor
namespace Go.Nt
open Go Go.Sy
theorem zq1 (A p:Nat):
  A*2 ^ (p+1) / 18446744073709551616 ^ (p / 64) % 18446744073709551616 < 18446744073709551616/\
  2 ^ (p % 64) < 18446744073709551616/\
  (A*2 ^ (p+1) / 18446744073709551616 ^ (p / 64) % 18446744073709551616 ||| 2 ^ (p % 64))=A*2 ^ (p+1) / 18446744073709551616 ^ (p / 64) % 18446744073709551616+2 ^ (p % 64)/\
  A*2 ^ (p+1) / 18446744073709551616 ^ (p / 64) % 18446744073709551616+2 ^ (p % 64) < 18446744073709551616/\
  A*2 ^ (p+1)+2 ^ (p % 64)*18446744073709551616 ^ (p / 64)=(A*2+1)*2 ^ p:=by
 have h:=zgJ 1 64 A p 1 rfl q_e q_e;rw [show (2:Nat) ^ 1=2 from rfl,Nat.mul_one,Nat.one_mul] at h;exact ⟨h.1,h.2.2.1,h.2.2.2.1,h.2.2.2.2.1,h.2.2.2.2.2⟩
end Go.Nt
namespace Go.Proofs.YtdnlngbjpdbffaaGreatDoor
open Go Go.Sy Go.Nt Go.RowKit
attribute [local irreducible] Sy SyL SyX Sy.Fn callFunc natC
theorem zri (x n:Nat) (w:World) (hx:x < 18446744073709551616 ^ 16) (hn:n < 9223372036854775808):
  Sy.Fn Tryz.prog 240 [natV x,.int .i64 n] w No (Gives (.tuple #[natV (x / 2 ^ n),.int .i64 0])):=by
 refine zg Tryz.func240 rfl Tryz.ntmps240 q_p Holds.nil ?_;have hlx:=ze x;have hpn:0 < 2 ^ n:=Nat.pow_pos q_e;repeat' (first|refine s_0 ?_|(refine zb 0 ?_;refine zj ?_;intro _;refine zj ?_;intro _;refine zO ?_;intro _)|(refine zb 1 ?_;refine zm ?_;refine zL ?_)|(refine zb 3 ?_;refine zj ?_;intro _)|(refine zb 4 ?_;refine zm ?_))
 rename_i b2 b3 b4 b6;refine ys (zh (hc:=λw' X hk hh=>zlt x w')) (k:=?_);rintro _ _ ⟨R,rfl,b,rfl,rfl⟩;repeat' (first|refine s_t ?_|fail)
 refine zdT (γ:=Nat) (xs:=ones x) (Arg:=ArgN) zbE rfl (en rfl) rfl (λk s=>s*2 ^ n+left k x=x) (λc k s=>c= .exit 0/\s=x / 2 ^ n)
  (λs=>[.blk b6 133 (natC s),.blk b3 3 [.int .i64 n]])
  [.blk b 133 (natC x)] [.blk b4 133 (List.replicate 16 (Value.int IntKind.u64 0)),.blk b2 133 (natC x)] 0 (by rw [show left 0 x=x from rfl,Nat.zero_mul,Nat.zero_add]) ?_ ?_ ?_ ?_ ?_ ?_
 ·rw [show natC 0=List.replicate 16 (Value.int IntKind.u64 0) from natC0.symm]
  ((try simp only [List.cons_append,List.nil_append,List.append_nil]);(repeat' (first|exact List.Perm.nil|exact List.Perm.refl _|(apply permr;with_reducible (focus ((repeat (first|exact Rem.here|apply Rem.there));done)))|(apply permr;(focus ((repeat (first|exact Rem.here|apply Rem.there));done))))))
 ·exact λw' Mi X hk hm _ _=>ziR b x w' Mi hx
 ·rintro O x vs RA w' ⟨rfl,_⟩;rfl
 ·rintro lp k hk s vs RA W rec hrec hI ⟨rfl,rfl⟩ hkW hmine;clear hmine;obtain ⟨hpos,hxk⟩:=zdX hk;obtain ⟨hm0,hm1,hm2⟩:=zev _ hpos;have hhi:=zno k x q_o;have hls:=zdw k x;have hle:=zla k x q_o;have hlN:=ze s;generalize left k x=y at *;generalize nd 2 y=m at *;obtain ⟨i,rfl⟩: ∃i,m=i+1:=⟨m - 1,by omega⟩;rw [Nat.add_sub_cancel] at hxk hm1 hls;have hi:i < 1024:=zsc (Nat.le_trans hm1 hle) hx;rw [hxk];by_cases hb:i < n
  ·repeat' (first|refine s_t ?_|(apply za6;(focus ((repeat (first|exact Rem.here|apply Rem.there));done));assumption)|(refine zb 5 (za ?_))|(refine zb 6 (za ?_);refine zm ?_;refine zL ?_))
   refine zfg s ⟨rfl,?_⟩ ?_
   ·have h1:y < 2 ^ n:=Nat.lt_of_lt_of_le hm2 (Nat.pow_le_pow_right q_e hb);rw [<-hI,Nat.mul_comm,Nat.mul_add_div hpn,Nat.div_eq_of_lt h1,Nat.add_zero]
   ·exact q_h
  ·obtain ⟨p,hp⟩: ∃p,p=i - n:=⟨_,rfl⟩;have e0:s=x / 2 ^ (i+1)*2 ^ (p+1):=by
    refine Nat.eq_of_mul_eq_mul_right hpn ?_;rw [Nat.mul_assoc,<-Nat.pow_add,show p+1+n=i+1 by omega,<-hhi];omega
   obtain ⟨e1,e2,e3,e4,e5⟩:=zq1 (x / 2 ^ (i+1)) p;have hd:=zaK s (p / 64) q_o;have hset:=zcs s (p / 64) (2 ^ (p % 64));have hnew:(x / 2 ^ (i+1)*2+1)*2 ^ p=s+2 ^ p:=by
    rw [e0];generalize x / 2 ^ (i+1)=A at *;rw [Nat.add_mul,Nat.pow_succ,Nat.one_mul];congr 1
    ac_rfl
   have hI':(s+2 ^ p)*2 ^ n+left (k+1) x=x:=by
    rw [Nat.add_mul,<-Nat.pow_add,show p+n=i by omega,hls];omega
   rw [<-e0] at e1 e3 e4 e5;rw [e5,hnew] at hset;have hset:=hset e4;rw [<-e3] at hset;generalize s / 18446744073709551616 ^ (p / 64) % 18446744073709551616=d at *;have ha:IntKind.i64.wrap ((i:Int) - (n:Int))=((p:Nat):Int):=q_w;have q1:IntKind.i64.wrap ((p:Int).tdiv 64)=((p / 64:Nat):Int):=quoI (k:=64) q_o;have q2:(p:Int).tmod 64=((p % 64:Nat):Int):=remI p 64;have hp16:p / 64 < 16:=q_o;repeat' (first|refine s_t ?_|(apply za6;(focus ((repeat (first|exact Rem.here|apply Rem.there));done));assumption)|(refine zb 5 (za ?_))|(refine zb 6 (za ?_);refine zm ?_;refine zL ?_)|(refine zM (id:=7) 14 [[],[],[0,1],[0,1,2],[],[0,1,2,3,4],[0,1,2,3,4,5],[],[],[7,8],[7,8,9],[7,8,9,10],[0,1,2,3,4,5,6,7,8,9,10,11],[],[0,1,2,3,4,5,6,7,8,9,10,11,12,13],[0,1,2,3,4,5,6,7,8,9,10,11,12,13,14]] mixed ?_ ?_;kernel_rfl;refine zk ?_;refine zal ?_;refine dc (λ_ _=>zD (hr:=ha)) (k:=?_);refine dc (λ_ _=>zaz (hr:=q1)) (k:=?_);refine zR ?_;refine zK ?_;refine dc (λ_ _=>zC (hv:=hd)) (k:=?_);refine zk ?_;refine zal ?_;refine dc (λ_ _=>zD (hr:=ha)) (k:=?_);refine dc (λ_ _=>zap (hr:=q2)) (k:=?_);refine dc (λ_ _=>zlv (n:=p % 64) (Nat.mod_lt _ q_e)) (k:=?_);refine dc (λ_ _=>zfF (a:=d) (b:=2 ^ (p % 64)) e1 e2) (k:=?_);refine zR ?_;refine zY ?_;refine zw ?_;refine zI ?_)|fail)
   refine zdN (s+2 ^ p) hI' ?_;rw [<-hset];exact q_h
 ·intro s hI;rw [zgu,Nat.add_zero] at hI;have hI:s=x / 2 ^ n:=by rw [<-hI,Nat.mul_div_cancel _ hpn]
  subst hI;have hlN:=ze (x / 2 ^ n);generalize x / 2 ^ n=X at *;repeat' (first|refine s_0 ?_|(refine zb 8 ?_;refine yv (zf (B:=natC X)) (k:=?_);refine yn (zi (n:=X)) (k:=za ?_)))
  exact ret2 rfl (resCells (B:=natC X) rfl (ty rfl) rfl Has.go Seg.all (ze _).symm) (resTmp rfl) SubR.nil ⟨rfl,rfl⟩
 ·rintro _ k s hk ⟨rfl,rfl⟩;have hlN:=ze (x / 2 ^ n);generalize x / 2 ^ n=X at *;repeat' (first|refine s_0 ?_|(refine zb 8 ?_;refine yv (zf (B:=natC X)) (k:=?_);refine yn (zi (n:=X)) (k:=za ?_)))
  exact ret2 rfl (resCells (B:=natC X) rfl (ty rfl) rfl Has.go Seg.all (ze _).symm) (resTmp rfl) SubR.nil ⟨rfl,rfl⟩
end Go.Proofs.YtdnlngbjpdbffaaGreatDoor
end
