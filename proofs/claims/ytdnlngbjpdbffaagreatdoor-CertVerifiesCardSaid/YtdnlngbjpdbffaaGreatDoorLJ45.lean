/- The laws of certificates: small ones; which are equal (in the program and in the specification). -/
import Derived.Test.YtdnlngbjpdbffaaGreatDoorLJ44
import Derived.Test.YtdnlngbjpdbffaaGreatDoorLJ42
import Derived.Test.YtdnlngbjpdbffaaGreatDoorLJ04
set_option maxHeartbeats 2000000
set_option maxRecDepth 10000
set_option linter.all false
section
namespace Go.Ct
open Go Go.Sy
def Prin.short (p:Prin):Bool:=p.parts.all (λx=>decide (x.length<=40)) && (decide (p.parts.length<=6) && decide (p.realm.length<=40))
def Cert.tiny (c:Cert):Bool:=c.issuer.short && c.subject.short && decide (c.pub.length<=300) && decide (c.sig.length<=300)
theorem Prin.short_iff {p:Prin}(h:p.short=true):p.parts.length < 1000000/\p.realm.length < 1000000000/\ ∀x∈p.parts,x.length < 1000000000:=by
 simp only [Prin.short,Bool.and_eq_true,decide_eq_true_eq,List.all_eq_true] at h;exact ⟨by omega,by omega,λx hx=>by have:=h.1 x hx;omega⟩
theorem Cert.tiny_fine {c:Cert}(h:c.tiny=true):c.fine/\c.pub.length<=300/\c.sig.length<=300:=by
 simp only [Cert.tiny,Bool.and_eq_true,decide_eq_true_eq] at h;exact ⟨⟨Prin.short_iff h.1.1.1,Prin.short_iff h.1.1.2⟩,h.1.2,h.2⟩
end Go.Ct
namespace Go.Proofs.YtdnlngbjpdbffaaGreatDoor
open Go Go.Sy Go.Ct Go.Nt Go.RowKit
attribute [local irreducible] Sy SyL SyX SyC SyF Sy.Fn callFunc
theorem zeO (a:Option Addr) (k:Nat) (p:Prin) (w:World) (h:PrinIn w (prinL a k p) p):Sy.Fn Tryz.prog 48 [.agg (prinL a k p).toArray] w No (Gives (.bool p.short)):=by
 obtain ⟨⟨a',k',hC,n1,m1,s1,z1⟩,hr,hx⟩:=h;cases hC;refine zg Tryz.func48 rfl Tryz.ntmps48 q_p Holds.nil ?_;unfold Prin.short prinL strV at *;obtain ⟨ps,rl⟩:=p;dsimp only at *;unfold maxLen at *;repeat' (first|refine s_t ?_|(refine zb 0 ?_;refine zO ?_;intro _)|(refine zb 1 (za ?_)))
 rename_i b;refine zy (γ:=Nat) (λi=>[(1,.pointer (some ⟨b,0,none⟩)),(2,.bool false),(3,.int .i64 (i:Int))]) (λ_=>[.blk b 43 [.slice a ps.length k,.string (str rl)]]) (λi=>i<=ps.length/\(ps.take i).all (λx=>decide (x.length<=40))=true) (λi=>ps.length - i) 0 ⟨Nat.zero_le _,rfl⟩ ?_ ?_ ?_
 ·exact q_h
 ·exact q_h
 rintro i ⟨hi,heq⟩;by_cases hlt:i < ps.length
 ·obtain ⟨b1,o1,rfl,hcell1⟩:=zcg s1 (i:=i) (by rw [List.length_map];omega);have hc1:=hcell1 i _ (zbW strV q_o);unfold strV at hc1;have g2:decide ((i:Int) < (ps.length:Int))=true:=q_d;have g5:IntKind.i64.wrap ((i:Int)+1)=((i+1:Nat):Int):=q_w;have t1:ps.take (i+1)=ps.take i ++ [ps[i]]:=zac q_o;by_cases hx:ps[i].length<=40
  ·have g3:decide ((ps[i].length:Int) > 40)=false:=q_f;repeat' (first|refine s_t ?_|(refine zb 2 (za ?_);refine zm ?_;refine za ?_;refine yv (zn (hr:=g2)) (k:=?_))|(refine zb 4 (za ?_);refine zm ?_;refine za ?_;refine yv (zG (j:=i)) (k:=?_);refine yv (zl (hv:=hc1)) (k:=za ?_);refine yv (zU (hr:=g3)) (k:=?_))|(refine zb 3 (za ?_);refine yv (zu (hr:=g5)) (k:=za ?_)))
   refine zq (i+1) ⟨hlt,by rw [t1,List.all_append,heq];simp [hx]⟩ ?_ ?_ ?_
   ·show ps.length - (i+1) < ps.length - i;omega
   ·exact q_h
   ·exact q_h
  ·have g3:decide ((ps[i].length:Int) > 40)=true:=q_d;have e:ps.all (λx=>decide (x.length<=40))=false:=by
    rw [List.all_eq_false];exact ⟨ps[i],List.getElem_mem _,by simpa using hx⟩
   rw [e,Bool.false_and];repeat' (first|refine s_t ?_|(refine zb 2 (za ?_);refine zm ?_;refine za ?_;refine yv (zn (hr:=g2)) (k:=?_))|(refine zb 4 (za ?_);refine zm ?_;refine za ?_;refine yv (zG (j:=i)) (k:=?_);refine yv (zl (hv:=hc1)) (k:=za ?_);refine yv (zU (hr:=g3)) (k:=?_))|(refine zb 5 (za ?_)))
   exact q_r
 obtain rfl:i=ps.length:=q_o;rw [List.take_length] at heq;rw [heq,Bool.true_and];have g2:decide ((ps.length:Int) < (ps.length:Int))=false:=q_f;have g6:decide ((ps.length:Int)<=6)=decide (ps.length<=6):=decide_eq_decide.2 q_o;have g7:decide ((rl.length:Int)<=40)=decide (rl.length<=40):=decide_eq_decide.2 q_o;generalize decide (ps.length<=6)=x at *;generalize decide (rl.length<=40)=y at *;cases x;all_goals repeat' (first|refine s_0 ?_|(refine zb 2 (za ?_);refine zm ?_;refine za ?_;refine yv (zn (hr:=g2)) (k:=?_))|(refine zb 6 (za ?_);refine zm ?_;refine za ?_;refine yv (zau (hr:=g6)) (k:=za ?_);(first|refine zm ?_|skip|fail);(try refine za ?_);(first|refine yv (zau (hr:=g7)) (k:=?_)|skip|fail);(try refine za ?_)))
 all_goals exact q_r
theorem zoj (p:Pl) (c:Cert) (w:World) (h:CertAt w p c):Sy.Fn Tryz.prog 26 [.agg (certL p c).toArray] w No (Gives (.bool c.tiny)):=by
 refine zg Tryz.func26 rfl Tryz.ntmps26 q_p Holds.nil ?_;have q1:=λw' (hk:Keep No w w')=>zeO _ _ _ w' (h.iss.keep hk);have q2:=λw' (hk:Keep No w w')=>zeO _ _ _ w' (h.sub.keep hk);have g3:decide ((c.pub.length:Int)<=300)=decide (c.pub.length<=300):=decide_eq_decide.2 q_o;have g4:decide ((c.sig.length:Int)<=300)=decide (c.sig.length<=300):=decide_eq_decide.2 q_o;unfold certL prinL Cert.tiny at *;clear h;obtain ⟨serial,⟨ips,irl⟩,⟨sps,srl⟩,fr,til,auth,group,pub,sig⟩:=c;dsimp only at *;generalize Prin.short ⟨ips,irl⟩=x1 at *;generalize Prin.short ⟨sps,srl⟩=x2 at *;generalize decide (pub.length<=300)=x3 at *;generalize decide (sig.length<=300)=x4 at *;have hc:x1=false\/(x1=true/\x2=false)\/(x1=true/\x2=true/\x3=false)\/(x1=true/\x2=true/\x3=true):=by
  cases x1 <;> cases x2 <;> cases x3 <;> simp
 rcases hc with rfl|⟨rfl,rfl⟩|⟨rfl,rfl,rfl⟩|⟨rfl,rfl,rfl⟩;all_goals repeat' (first|refine s_0 ?_|(refine zb 0 ?_;refine zO ?_;intro _)|(refine zb 1 (za ?_);refine yv (zf (B:=[.slice p.a1 ips.length p.k1,strV irl]) (hv:=Seg.at rfl)) (k:=?_);refine yv (zd (f:=48) (hc:=zr q1)) (k:=?_);refine za ?_;(first|refine yv (zf (B:=[.slice p.a2 sps.length p.k2,strV srl]) (hv:=Seg.at rfl)) (k:=?_)|skip|fail);(first|refine yv (zd (f:=48) (hc:=zr q2)) (k:=?_)|refine zam rfl rfl rfl ?_|skip);(try refine za ?_);(first|refine zm ?_|skip|fail);(try refine za ?_);(first|refine yv (zau (hr:=g3)) (k:=?_)|skip|fail);(try refine za ?_);(first|refine zm ?_|skip|fail);(try refine za ?_);(first|refine yv (zau (hr:=g4)) (k:=?_)|skip|fail);(try refine za ?_)))
 all_goals exact q_r
theorem zfB (a1 a2:Option Addr) (k1 k2:Nat) (p q:Prin) (w:World) (h1:PrinIn w (prinL a1 k1 p) p) (h2:PrinIn w (prinL a2 k2 q) q) (hb:p.parts.length < 1000000):Sy.Fn Tryz.prog 54 [.agg (prinL a1 k1 p).toArray,.agg (prinL a2 k2 q).toArray] w No (Gives (.bool (p.same q))):=by
 obtain ⟨⟨a1',c1',e1,n1,m1,s1,z1⟩,-⟩:=h1;obtain ⟨⟨a2',c2',e2,n2,m2,s2,z2⟩,-⟩:=h2;cases e1;cases e2;refine zg Tryz.func54 rfl Tryz.ntmps54 q_p Holds.nil ?_;unfold Prin.same prinL strV at *;obtain ⟨l1,r1⟩:=p;obtain ⟨l2,r2⟩:=q;dsimp only at *;by_cases hr:r1≠r2
 ·have g:decide (r1≠r2)=true:=decide_eq_true hr;have e:(r1 == r2)=false:=beq_eq_false_iff_ne.2 hr;rw [e,Bool.false_and];repeat' (first|refine s_0 ?_|(refine zb 0 ?_;refine zj ?_;intro _;refine zO ?_;intro _)|(refine zb 1 (za ?_);refine zm ?_;refine za ?_;refine zm ?_;refine yv (zb1 (hr:=g)) (k:=za ?_))|(refine zb 2 (za ?_)))
  exact q_r
 have hr':r1=r2:=Classical.not_not.1 hr;have g:decide (r1≠r2)=false:=decide_eq_false hr;rw [beq_iff_eq.2 hr',Bool.true_and];by_cases hn: ¬l1.length=l2.length
 ·have g1:decide ((l1.length:Int)≠(l2.length:Int))=true:=q_d;have e:(l1 == l2)=false:=by
   rw [beq_eq_false_iff_ne];intro e;exact hn (by rw [e])
  rw [e];repeat' (first|refine s_0 ?_|(refine zb 0 ?_;refine zj ?_;intro _;refine zO ?_;intro _)|(refine zb 1 (za ?_);refine zm ?_;refine za ?_;refine zm ?_;refine yv (zb1 (hr:=g)) (k:=za ?_);refine zm ?_;refine za ?_;refine zm ?_;refine za ?_;refine yv (zag (hr:=g1)) (k:=za ?_))|(refine zb 2 (za ?_)))
  exact q_r
 have g1:decide ((l1.length:Int)≠(l2.length:Int))=false:=q_f;repeat' (first|refine s_t ?_|(refine zb 0 ?_;refine zj ?_;intro _;refine zO ?_;intro _)|(refine zb 1 (za ?_);refine zm ?_;refine za ?_;refine zm ?_;refine yv (zb1 (hr:=g)) (k:=za ?_);refine zm ?_;refine za ?_;refine zm ?_;refine za ?_;refine yv (zag (hr:=g1)) (k:=za ?_))|(refine zb 3 (za ?_)))
 rename_i b1 b2;refine zy (γ:=Nat) (λi=>[(2,.pointer (some ⟨b1,0,none⟩)),(3,.pointer (some ⟨b2,0,none⟩)),(5,.int .i64 (i:Int))]) (λ_=>[.blk b1 43 [.slice a1 l1.length k1,.string (str r1)],.blk b2 43 [.slice a2 l2.length k2,.string (str r2)]]) (λi=>i<=l1.length/\l1.take i=l2.take i) (λi=>l1.length - i) 0 ⟨Nat.zero_le _,rfl⟩ ?_ ?_ ?_
 ·exact q_h
 ·exact q_h
 rintro i ⟨hi,heq⟩;by_cases hlt:i < l1.length
 ·obtain ⟨bb1,o1,rfl,hcell1⟩:=zcg s1 (i:=i) (by rw [List.length_map];omega);obtain ⟨bb2,o2,rfl,hcell2⟩:=zcg s2 (i:=i) (by rw [List.length_map];omega);have hc1:=hcell1 i _ (zbW strV q_o);have hc2:=hcell2 i _ (zbW strV q_o);unfold strV at hc1 hc2;have g2:decide ((i:Int) < (l1.length:Int))=true:=q_d;have g5:IntKind.i64.wrap ((i:Int)+1)=((i+1:Nat):Int):=q_w;have t1:l1.take (i+1)=l1.take i ++ [l1[i]]:=zac q_o;have t2:l2.take (i+1)=l2.take i ++ [l2[i]]:=zac q_o;by_cases hx:l1[i]=l2[i]
  ·have g3:decide (l1[i]≠l2[i])=false:=decide_eq_false (λh=>h hx);repeat' (first|refine s_t ?_|(refine zb 4 (za ?_);refine zm ?_;refine za ?_;refine yv (zn (hr:=g2)) (k:=?_))|(refine zM (id:=6) 10 [[],[0],[],[0,1,2],[0,1,2,3],[],[5],[],[5,6,7],[5,6,7,8],[0,1,2,3,4,5,6,7,8,9]] mixed ?_ ?_;kernel_rfl;refine zR ?_;refine zal ?_;refine zk ?_;refine dc (λ_ _=>zG (j:=i)) (k:=?_);refine dc (λ_ _=>zl (hv:=hc1)) (k:=?_);refine zR ?_;refine zal ?_;refine zk ?_;refine dc (λ_ _=>zG (j:=i)) (k:=?_);refine dc (λ_ _=>zl (hv:=hc2)) (k:=?_);refine zY ?_;refine yv (zb1 (hr:=g3)) (k:=?_))|(refine zb 5 (za ?_);refine yv (zu (hr:=g5)) (k:=za ?_)))
   refine zq (i+1) ⟨hlt,by rw [t1,t2,heq,hx]⟩ ?_ ?_ ?_
   ·show l1.length - (i+1) < l1.length - i;omega
   ·exact q_h
   ·exact q_h
  ·have g3:decide (l1[i]≠l2[i])=true:=decide_eq_true hx;have e:(l1 == l2)=false:=by
    rw [beq_eq_false_iff_ne];intro e;subst e;exact hx rfl
   rw [e];repeat' (first|refine s_t ?_|(refine zb 4 (za ?_);refine zm ?_;refine za ?_;refine yv (zn (hr:=g2)) (k:=?_))|(refine zM (id:=6) 10 [[],[0],[],[0,1,2],[0,1,2,3],[],[5],[],[5,6,7],[5,6,7,8],[0,1,2,3,4,5,6,7,8,9]] mixed ?_ ?_;kernel_rfl;refine zR ?_;refine zal ?_;refine zk ?_;refine dc (λ_ _=>zG (j:=i)) (k:=?_);refine dc (λ_ _=>zl (hv:=hc1)) (k:=?_);refine zR ?_;refine zal ?_;refine zk ?_;refine dc (λ_ _=>zG (j:=i)) (k:=?_);refine dc (λ_ _=>zl (hv:=hc2)) (k:=?_);refine zY ?_;refine yv (zb1 (hr:=g3)) (k:=?_))|(refine zb 7 (za ?_)))
   exact q_r
 obtain rfl:i=l1.length:=q_o;have e:(l1 == l2)=true:=by
  rw [beq_iff_eq];rw [List.take_of_length_le q_o,List.take_of_length_le q_o] at heq;exact heq
 rw [e];have g2:decide ((l1.length:Int) < (l1.length:Int))=false:=q_f;repeat' (first|refine s_0 ?_|(refine zb 4 (za ?_);refine zm ?_;refine za ?_;refine yv (zn (hr:=g2)) (k:=?_))|(refine zb 8 (za ?_)))
 exact q_r
theorem zlY (a:Option Addr) (n c:Nat) (ps:List Pl) (l:List Cert) (w:World) (hG:GT w) (hn:l.length=n) (h:ChainAt w a c ps l) (hf: ∀x∈l,x.fine) (hb:n < 1000000000):Sy.Fn Tryz.prog 13 [.slice a n c] w No (Gives (.bool (chainOk svK l))):=by
 refine zg Tryz.func13 rfl Tryz.ntmps13 q_p Holds.nil ?_;repeat' (first|refine s_t ?_|(refine zB [0,1] ?_;refine za ?_))
 refine zy (γ:=Nat) (λi=>[(0,.slice a n c),(3,.int .i64 (i:Int))]) (λ_=>[]) (λi=>i<=n/\(l.take i).all (Cert.ok svK)=true) (λi=>n - i) 0 ⟨Nat.zero_le _,rfl⟩ ?_ ?_ ?_
 ·exact q_h
 ·exact q_h
 rintro i ⟨hi,hal⟩;by_cases hlt:i < n
 ·obtain ⟨bl,ol,p,rfl,hp,hat,hc⟩:=h.at (k:=11) q_e (λ_ _=>rfl) (i:=i) q_o;have hin:l[i]∈l:=List.getElem_mem q_o;have htk:l.take (i+1)=l.take i ++ [l[i]]:=zac q_o;have hfx:=hf l[i] hin;have hv:=λw' (hk:Keep No w w')=>zg1 p l[i] w' (hG.to hk) (hat.keep hk) hfx;have hC:(certL p l[i]).length=11:=rfl;generalize l[i]=x at *;generalize certL p x=C at *;have g1:decide ((i:Int) < (n:Int))=true:=q_d;have g5:IntKind.i64.wrap ((i:Int)+1)=((i+1:Nat):Int):=q_w;by_cases hx:x.ok svK=true
  ·rw [hx] at hv;repeat' (first|refine s_t ?_|(refine zb 2 (za ?_);refine yv (zn (hr:=g1)) (k:=?_))|(refine zb 4 (za ?_);refine yv (zA (j:=i)) (k:=?_);refine yv (zz (hv:=hc) (hz:=hC.symm)) (k:=?_);refine yv (zd (f:=33) (hc:=zr hv)) (k:=?_);refine za ?_)|(refine zb 3 (za ?_);refine yv (zu (hr:=g5)) (k:=za ?_)))
   refine zq (i+1) ⟨hlt,by rw [htk,List.all_append,hal];simp [hx]⟩ ?_ ?_ ?_
   ·show n - (i+1) < n - i;omega
   ·exact q_h
   ·exact q_h
  ·rw [Bool.not_eq_true] at hx;rw [hx] at hv;have hbad:chainOk svK l=false:=by
    have:l.all (Cert.ok svK)=false:=by rw [List.all_eq_false];exact ⟨x,hin,by rw [hx];decide⟩
    unfold chainOk;rw [this,Bool.and_false]
   rw [hbad];repeat' (first|refine s_t ?_|(refine zb 2 (za ?_);refine yv (zn (hr:=g1)) (k:=?_))|(refine zb 4 (za ?_);refine yv (zA (j:=i)) (k:=?_);refine yv (zz (hv:=hc) (hz:=hC.symm)) (k:=?_);refine yv (zd (f:=33) (hc:=zr hv)) (k:=?_);refine za ?_)|(refine zb 5 (za ?_)))
   exact q_r
 obtain rfl:i=n:=q_o;rw [List.take_of_length_le q_o] at hal;have g1:decide ((i:Int) < (i:Int))=false:=q_f;have q:=λw'=>zjJ (i:Int) 1 5 w';have e:chainOk svK l=(decide ((1:Int)<=(i:Int)) && decide ((i:Int)<=5)):=by
  unfold chainOk;rw [hal,hn,Bool.and_true,decide_eq_decide.2 (show 1<=i↔(1:Int)<=(i:Int) by omega),decide_eq_decide.2 (show i<=5↔(i:Int)<=5 by omega)]
 rw [e];generalize (decide ((1:Int)<=(i:Int)) && decide ((i:Int)<=5))=r at *;repeat' (first|refine s_0 ?_|(refine zb 2 (za ?_);refine yv (zn (hr:=g1)) (k:=?_))|(refine zb 6 (za ?_);refine yv (zd (hc:=λ_ _ _ _=>(q _))) (k:=?_);refine za ?_))
 exact q_r
theorem zqi (p:Pl) (c:Cert) (pa:Pa) (x:Anch) (ar:Option Addr) (nr kr:Nat) (prs:List (Option Addr×Nat)) (rs:List Revo) (now:Int) (first:Bool) (kb ko kc:Nat) (w:World) (hG:GT w) (hR:RTab w No kb ko kc) (h:CertAt w p c) (hf:c.fine) (hok:c.ok svK=true) (hx:AnchAt w pa x) (hA:svK x.group x.pub=true\/c.issuer.same x.name=false)
  (hr:RevosAt w ar kr prs rs) (hn:rs.length=nr) (hfr: ∀r∈rs,r.issuer.fine) (hb:nr < 1000000000):
  Sy.Fn Tryz.prog 72 [.agg (certL p c).toArray,.agg (prinL pa.a1 pa.k1 x.name).toArray,.int .i64 x.group,.slice pa.a2 x.pub.length pa.k2,.slice ar nr kr,.int .i64 now,.bool first] w No (Gives (.int .i64 (vone sfK c x rs now first))):=by
 refine zg Tryz.func72 rfl Tryz.ntmps72 q_p Holds.nil ?_;have hsm:=λw' (hk:Keep No w w')=>zfB _ _ _ _ c.issuer x.name w' (h.iss.keep hk) (hx.name.keep hk) hf.i.1;have hsg:=λw' (hk:Keep No w w')=>zlJ p c x.group ⟨pa.a2,x.pub.length,pa.k2,x.pub⟩ kb ko kc w' (hG.to hk) (hR.no hk) (h.keep hk) hf (hx.pub.keep hk);rw [show (⟨pa.a2,x.pub.length,pa.k2,x.pub⟩:Bs).val= .slice pa.a2 x.pub.length pa.k2 from rfl] at hsg;have hC:(certL p c).length=11:=rfl;obtain ⟨E,hE⟩: ∃E,E=vone sfK c x rs now first:=⟨_,rfl⟩
 rw [<-hE];unfold vone at hE;have s1:Seg (certL p c) 1 (prinL p.a1 p.k1 c.issuer):=Seg.at rfl;have s3:(certL p c)[0+5]?=some (.int .i64 c.fr):=rfl;have s4:(certL p c)[0+6]?=some (.int .i64 c.til):=rfl;have s5:(certL p c)[0+7]?=some (.bool c.auth):=rfl;have s0:(certL p c)[0+0]?=some (.int .i64 c.serial):=rfl;have hP1:(prinL p.a1 p.k1 c.issuer).length=2:=rfl;have hP2:(prinL pa.a1 pa.k1 x.name).length=2:=rfl;have hrv:=λi (hi:i < rs.length)=>hr.at (k:=3) q_e (λ_ _=>rfl) (i:=i) hi;have hsr:=λw' (hk:Keep No w w') pr (r:Revo) (h1:RevoAt w pr r) (h2:r.issuer.fine)=>zfB pr.1 p.a1 pr.2 p.k1 r.issuer c.issuer w' (h1.name.keep hk) (h.iss.keep hk) h2.1;cases hsame:c.issuer.same x.name with
 |false=>
  rw [hsame] at hsm hE;obtain rfl:E=220:=hE;generalize certL p c=C at *;generalize prinL p.a1 p.k1 c.issuer=P1 at *;generalize prinL pa.a1 pa.k1 x.name=P2 at *;repeat' (first|refine s_0 ?_|(refine zb 0 ?_;refine zj ?_;intro _;refine zO ?_;intro _)|(refine zb 1 (za ?_);refine yv (zf (B:=P1) (hv:=s1) (hz:=hP1.symm)) (k:=?_);refine yv (zf (B:=P2) (hz:=hP2.symm)) (k:=?_);refine yv (zd (f:=54) (hc:=zr hsm)) (k:=?_);refine za ?_)|(refine zb 2 (za ?_)))
  exact q_r
 |true=>
  have hsv:svK x.group x.pub=true:=by
   rcases hA with h|h
   ·exact h
   ·rw [hsame] at h;cases h
  rw [hsame] at hsm;unfold signE at hsg;simp only [hok,hsv,Bool.and_self,if_true] at hsg;rw [hsame,if_neg q_e] at hE;have hlen:=hn;cases hsf:sfK x.group x.pub c.body c.sig with
  |false=>
   rw [hsf] at hsg hE;obtain rfl:E=221:=hE;rw [if_neg q_e] at hsg;generalize certL p c=C at *;generalize prinL p.a1 p.k1 c.issuer=P1 at *;generalize prinL pa.a1 pa.k1 x.name=P2 at *;repeat' (first|refine s_0 ?_|(refine zb 0 ?_;refine zj ?_;intro _;refine zO ?_;intro _)|(refine zb 1 (za ?_);refine yv (zf (B:=P1) (hv:=s1) (hz:=hP1.symm)) (k:=?_);refine yv (zf (B:=P2) (hz:=hP2.symm)) (k:=?_);refine yv (zd (f:=54) (hc:=zr hsm)) (k:=?_);refine za ?_)|(refine zb 3 ?_;refine yv (zf (B:=C) (hz:=hC.symm)) (k:=za ?_);refine yv (zd (f:=28) (hc:=zr hsg)) (k:=?_);refine z8 ?_)|(refine zb 4 (za ?_)))
   exact q_r
  |true=>
   rw [hsf] at hsg hE;rw [if_pos rfl] at hsg;rw [if_neg q_e] at hE;have hC0:certL p c= .int .i64 c.serial::(prinL p.a1 p.k1 c.issuer ++ (certL p c).drop 3):=rfl;generalize certL p c=C at *;generalize prinL p.a1 p.k1 c.issuer=P1 at *;generalize prinL pa.a1 pa.k1 x.name=P2 at *;rcases (show now < c.fr\/(c.fr<=now/\c.til < now)\/(c.fr<=now/\now<=c.til) by omega) with ht|⟨ht,ht'⟩|⟨ht,ht'⟩
   ·rw [if_pos (.inl ht)] at hE;subst hE;have k1:decide (now < c.fr)=true:=decide_eq_true ht;repeat' (first|refine s_0 ?_|(refine zb 0 ?_;refine zj ?_;intro _;refine zO ?_;intro _)|(refine zb 1 (za ?_);refine yv (zf (B:=P1) (hv:=s1) (hz:=hP1.symm)) (k:=?_);refine yv (zf (B:=P2) (hz:=hP2.symm)) (k:=?_);refine yv (zd (f:=54) (hc:=zr hsm)) (k:=?_);refine za ?_)|(refine zb 3 ?_;refine yv (zf (B:=C) (hz:=hC.symm)) (k:=za ?_);refine yv (zd (f:=28) (hc:=zr hsg)) (k:=?_);refine z8 ?_)|(refine zb 5 (za ?_);refine yv (zC (hv:=s3)) (k:=?_);refine yv (zn (hr:=k1)) (k:=za ?_))|(refine zb 6 (za ?_)))
    exact q_r
   ·rw [if_pos (.inr ht')] at hE;subst hE;have k1:decide (now < c.fr)=false:=q_f;have k2:decide (now > c.til)=true:=q_d;repeat' (first|refine s_0 ?_|(refine zb 0 ?_;refine zj ?_;intro _;refine zO ?_;intro _)|(refine zb 1 (za ?_);refine yv (zf (B:=P1) (hv:=s1) (hz:=hP1.symm)) (k:=?_);refine yv (zf (B:=P2) (hz:=hP2.symm)) (k:=?_);refine yv (zd (f:=54) (hc:=zr hsm)) (k:=?_);refine za ?_)|(refine zb 3 ?_;refine yv (zf (B:=C) (hz:=hC.symm)) (k:=za ?_);refine yv (zd (f:=28) (hc:=zr hsg)) (k:=?_);refine z8 ?_)|(refine zb 5 (za ?_);refine yv (zC (hv:=s3)) (k:=?_);refine yv (zn (hr:=k1)) (k:=za ?_);refine yv (zC (hv:=s4)) (k:=?_);refine yv (zU (hr:=k2)) (k:=za ?_))|(refine zb 6 (za ?_)))
    exact q_r
   rw [if_neg q_o] at hE;have k1:decide (now < c.fr)=false:=q_f;have k2:decide (now > c.til)=false:=q_f;repeat' (first|refine s_t ?_|(refine zb 0 ?_;refine zj ?_;intro _;refine zO ?_;intro _)|(refine zb 1 (za ?_);refine yv (zf (B:=P1) (hv:=s1) (hz:=hP1.symm)) (k:=?_);refine yv (zf (B:=P2) (hz:=hP2.symm)) (k:=?_);refine yv (zd (f:=54) (hc:=zr hsm)) (k:=?_);refine za ?_)|(refine zb 3 ?_;refine yv (zf (B:=C) (hz:=hC.symm)) (k:=za ?_);refine yv (zd (f:=28) (hc:=zr hsg)) (k:=?_);refine z8 ?_)|(refine zb 5 (za ?_);refine yv (zC (hv:=s3)) (k:=?_);refine yv (zn (hr:=k1)) (k:=za ?_);refine yv (zC (hv:=s4)) (k:=?_);refine yv (zU (hr:=k2)) (k:=za ?_))|(refine zb 7 (za ?_)))
   rename_i b7 b8;clear k1 k2 s3 s4 hsg hsm;refine zy (γ:=Nat) (λi=>[(15,.int .i64 (i:Int)),(7,.pointer (some ⟨b7,0,none⟩)),(4,.slice ar nr kr),(6,.bool first)]) (λ_=>[.blk b7 45 C]) (λi=>i<=nr/\revd (rs.take i) c=false) (λi=>nr - i) 0 ⟨Nat.zero_le _,rfl⟩ ?_ ?_ ?_
   ·exact q_h
   ·exact q_h
   rintro i ⟨hi,hrd⟩;by_cases hlt:i < nr
   ·obtain ⟨bl,ol,pr,rfl,hp,hat,hc⟩:=hrv i q_o;have hin:rs[i]∈rs:=List.getElem_mem q_o;have htk:rs.take (i+1)=rs.take i ++ [rs[i]]:=zac q_o;have hsr':=λw' (hk:Keep No w w')=>hsr w' hk pr rs[i] hat (hfr _ hin);have hc0:w.rangeAt bl (ol+i*3) (prinL pr.1 pr.2 rs[i].issuer):=λj v hj=>hc j v (by
     have:revoL pr rs[i]=prinL pr.1 pr.2 rs[i].issuer ++ [.int .i64 rs[i].serial]:=rfl;rw [this,List.getElem?_append_left (List.getElem?_eq_some_iff.1 hj).1];exact hj)
    have hc2:w.cell? ⟨bl,ol+i*3+2,none⟩=some (.int .i64 rs[i].serial):=hc 2 _ rfl;have hP3:(prinL pr.1 pr.2 rs[i].issuer).length=2:=rfl;generalize rs[i]=r at *;generalize prinL pr.1 pr.2 r.issuer=P3 at *;have g1:decide ((i:Int) < (nr:Int))=true:=q_d;have g5:IntKind.i64.wrap ((i:Int)+1)=((i+1:Nat):Int):=q_w;obtain ⟨y,hy⟩: ∃y,decide (r.serial=c.serial)=y:=⟨_,rfl⟩;generalize hz:r.issuer.same c.issuer=z at *;have hcs:(z && y)=true\/(z && y)=false:=by cases z <;> cases y <;> simp
    have hgo:(z && y)=false->revd (rs.take (i+1)) c=false:=λhh=>by
     unfold revd at hrd ⊢;rw [htk,List.any_append,hrd,List.any_cons,List.any_nil,hz,hy,hh];rfl
    have hst:(z && y)=true->revd rs c=true:=λhh=>by
     unfold revd;rw [List.any_eq_true];exact ⟨r,hin,by rw [hz,hy,hh]⟩
    have hWx:True:=trivial;rcases hcs with hh|hh
    ·rw [hst hh,if_pos rfl] at hE;subst hE;obtain ⟨rfl,rfl⟩:z=true/\y=true:=by cases z <;> cases y <;> simp at hh ⊢
     repeat' (first|refine s_t ?_|(refine zb 8 (za ?_);refine yv (zn (hr:=g1)) (k:=?_))|(refine zM (id:=10) 16 [[],[],[0,1],[0,1,2],[0,1,2,3],[],[5],[0,1,2,3,4,5,6],[0,1,2,3,4,5,6,7],[0,1,2,3,4,5,6,7,8],[0,1,2,3,4,5,6,7,8],[0,1,2,3,4,5,6,7,8,9,10],[0,1,2,3,4,5,6,7,8,9,10,11],[0,1,2,3,4,5,6,7,8,9,10,11,12],[0,1,2,3,4,5,6,7,8],[0,1,2,3,4,5,6,7,8,14],[0,1,2,3,4,5,6,7,8,9,10,11,12,13,14,15],[0,1,2,3,4,5,6,7,8,9,10,11,12,13,14,15,16]] mixed ?_ ?_;kernel_rfl;refine zk ?_;refine zk ?_;refine dc (λ_ _=>zA (j:=i)) (k:=?_);refine zR ?_;refine dc (λ_ _=>zz (hv:=hc0) (hz:=hP3.symm)) (k:=?_);refine zR ?_;refine dc (λ_ _=>zf (B:=P1) (hv:=s1) (hz:=hP1.symm)) (k:=?_);refine dc (λ_ _=>zd (f:=54) (hc:=λw' X hk hh=>hsr' w' hk)) (k:=?_);refine zk ?_;refine zk ?_;refine zk ?_;refine dc (λ_ _=>zA (j:=i)) (k:=?_);refine zR ?_;refine dc (λ_ _=>zl (hv:=hc2)) (k:=?_);refine zR ?_;refine dc (λ_ _=>zC (hv:=s0)) (k:=?_);refine zY ?_;refine yv (zX (hr:=hy)) (k:=?_);refine za1 ?_)|(refine zb 11 (za ?_)))
     exact q_r
    ·have hg:=hgo hh;have hzy:z=false\/(z=true/\y=false):=by cases z <;> cases y <;> simp at hh ⊢
     rcases hzy with rfl|⟨rfl,rfl⟩;all_goals repeat' (first|refine s_t ?_|(refine zb 8 (za ?_);refine yv (zn (hr:=g1)) (k:=?_))|(refine zM (id:=10) 16 [[],[],[0,1],[0,1,2],[0,1,2,3],[],[5],[0,1,2,3,4,5,6],[0,1,2,3,4,5,6,7],[0,1,2,3,4,5,6,7,8],[0,1,2,3,4,5,6,7,8],[0,1,2,3,4,5,6,7,8,9,10],[0,1,2,3,4,5,6,7,8,9,10,11],[0,1,2,3,4,5,6,7,8,9,10,11,12],[0,1,2,3,4,5,6,7,8],[0,1,2,3,4,5,6,7,8,14],[0,1,2,3,4,5,6,7,8,9,10,11,12,13,14,15],[0,1,2,3,4,5,6,7,8,9,10,11,12,13,14,15,16]] mixed ?_ ?_;kernel_rfl;refine zk ?_;refine zk ?_;refine dc (λ_ _=>zA (j:=i)) (k:=?_);refine zR ?_;refine dc (λ_ _=>zz (hv:=hc0) (hz:=hP3.symm)) (k:=?_);refine zR ?_;refine dc (λ_ _=>zf (B:=P1) (hv:=s1) (hz:=hP1.symm)) (k:=?_);refine dc (λ_ _=>zd (f:=54) (hc:=λw' X hk hh=>hsr' w' hk)) (k:=?_);refine zk ?_;(first|refine zk ?_|refine zat (λ_=>rfl) rfl ?_|fail);(first|refine zk ?_|refine zat (λ_=>rfl) rfl ?_|fail);(first|refine dc (λ_ _=>zA (j:=i)) (k:=?_)|refine zat (λ_=>rfl) rfl ?_|fail);(first|refine zR ?_|refine zat (λ_=>rfl) rfl ?_|fail);(first|refine dc (λ_ _=>zl (hv:=hc2)) (k:=?_)|refine zat (λ_=>rfl) rfl ?_|fail);(first|refine zR ?_|refine zat (λ_=>rfl) rfl ?_|fail);(first|refine dc (λ_ _=>zC (hv:=s0)) (k:=?_)|refine zat (λ_=>rfl) rfl ?_|fail);refine zY ?_;(first|refine yv (zX (hr:=hy)) (k:=?_)|refine zam rfl rfl rfl ?_|skip);refine za1 ?_)|(refine zb 9 (za ?_);refine yv (zu (hr:=g5)) (k:=za ?_)))
     all_goals refine zq (i+1) ⟨hlt,hg⟩ ?_ ?_ ?_
     all_goals first|(show nr - (i+1) < nr - i;omega)|exact Sub.go|exact q_h
   obtain rfl:i=nr:=q_o;rw [List.take_of_length_le q_o] at hrd;rw [hrd,if_neg q_e] at hE;have g1:decide ((i:Int) < (i:Int))=false:=q_f;generalize c.auth=au at *;clear hC0;cases first
   ·cases au
    ·obtain rfl:E=224:=hE;repeat' (first|refine s_0 ?_|(refine zb 8 (za ?_);refine yv (zn (hr:=g1)) (k:=?_))|(refine zb 12 (za ?_);refine yv (zC (hv:=s5)) (k:=za ?_))|(refine zb 13 (za ?_)))
     exact q_r
    ·obtain rfl:E=0:=hE;repeat' (first|refine s_0 ?_|(refine zb 8 (za ?_);refine yv (zn (hr:=g1)) (k:=?_))|(refine zb 12 (za ?_);refine yv (zC (hv:=s5)) (k:=za ?_))|(refine zb 14 (za ?_)))
     exact q_r
   ·obtain rfl:E=0:=hE;repeat' (first|refine s_0 ?_|(refine zb 8 (za ?_);refine yv (zn (hr:=g1)) (k:=?_))|(refine zB [12,14] ?_;refine za ?_))
    exact q_r
end Go.Proofs.YtdnlngbjpdbffaaGreatDoor
end
section
namespace Go.Sy
open Go
section
variable {P:Program}{ro:Option Nat}{N:Nat}{w0:World}{M:Nat->Prop}{ds:List Deferred}{fr:Fr}{L:List Res}
end
end Go.Sy
end
