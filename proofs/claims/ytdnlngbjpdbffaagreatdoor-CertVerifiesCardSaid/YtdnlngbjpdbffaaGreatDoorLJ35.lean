/- Certificates, walked: realms, valid principals. -/
import Derived.Test.YtdnlngbjpdbffaaGreatDoorLJ34
import Derived.Test.YtdnlngbjpdbffaaGreatDoorLJ33
import Derived.Test.YtdnlngbjpdbffaaGreatDoorLJ13
import Derived.Test.YtdnlngbjpdbffaaGreatDoorLJ08
set_option maxHeartbeats 1000000
set_option maxRecDepth 10000
set_option linter.all false
section
namespace Go.Proofs.YtdnlngbjpdbffaaGreatDoor
open Go Go.Sy Go.Ct Go.RowKit
attribute [local irreducible] Sy SyL SyX Sy.Fn callFunc splitD
theorem zl6 (c:UInt8):(65<=c.toNat/\c.toNat<=90/\labC c=true)\/(c.toNat < 65/\48<=c.toNat/\c.toNat<=57/\labC c=true)\/(c.toNat=45/\labC c=true)\/(c.toNat < 48/\c.toNat≠45/\labC c=false)\/(57 < c.toNat/\c.toNat < 65/\labC c=false)\/(90 < c.toNat/\labC c=false):=by
 have h:(65<=c.toNat/\c.toNat<=90)\/(c.toNat < 65/\48<=c.toNat/\c.toNat<=57)\/(c.toNat=45)\/(c.toNat < 48/\c.toNat≠45)\/(57 < c.toNat/\c.toNat < 65)\/(90 < c.toNat):=q_o;have yes:((65<=c.toNat/\c.toNat<=90)\/(48<=c.toNat/\c.toNat<=57))\/c.toNat=45->labC c=true:=λh=>by
  simp only [labC,Bool.or_eq_true,Bool.and_eq_true,decide_eq_true_eq];exact h
 have no: ¬(((65<=c.toNat/\c.toNat<=90)\/(48<=c.toNat/\c.toNat<=57))\/c.toNat=45)->labC c=false:=λh=>by
  rw [Bool.eq_false_iff];intro h2;apply h;simpa only [labC,Bool.or_eq_true,Bool.and_eq_true,decide_eq_true_eq] using h2
 rcases h with h|h|h|h|h|h
 ·exact .inl ⟨h.1,h.2,yes (.inl (.inl h))⟩
 ·exact .inr (.inl ⟨h.1,h.2.1,h.2.2,yes (.inl (.inr h.2))⟩)
 ·exact .inr (.inr (.inl ⟨h,yes (.inr h)⟩))
 ·exact .inr (.inr (.inr (.inl ⟨h.1,h.2,no q_o⟩)))
 ·exact .inr (.inr (.inr (.inr (.inl ⟨h.1,h.2,no q_o⟩))))
 ·exact .inr (.inr (.inr (.inr (.inr ⟨h,no q_o⟩))))
theorem zoS (l:List UInt8) (w:World) (hl:l.length < 1000000000):Sy.Fn Tryz.prog 168 [strV l] w No (Gives (.bool (realmOk l))):=by
 refine zg Tryz.func168 rfl Tryz.ntmps168 q_p Holds.nil ?_;have hz:=λw'=>zj2 l w';have hsp:=λw'=>zks l w';unfold strV SplitR at *;have hro:realmOk l=((decide (1<=l.length) && decide (l.length<=32)) && (splitD l).all labOk):=by rw [realmOk,zgd l.length l (Nat.le_refl _)]
 rw [hro];generalize (decide (1<=l.length) && decide (l.length<=32))=s at *;cases s
 ·rw [Bool.false_and];repeat' (first|refine s_0 ?_|(refine zb 0 ?_;refine zj ?_;intro _)|(refine zb 1 (za ?_);refine yv (zd (hc:=λ_ _ _ _=>(hz _))) (k:=?_);refine za ?_)|(refine zb 2 ?_;refine zI ?_))
  exact ret1 rfl (resCell rfl (ty rfl) rfl Has.go rfl) SubR.nil ⟨rfl,rfl⟩
 rw [Bool.true_and];repeat' (first|refine s_t ?_|(refine zb 0 ?_;refine zj ?_;intro _)|(refine zb 1 (za ?_);refine yv (zd (hc:=λ_ _ _ _=>(hz _))) (k:=?_);refine za ?_)|(refine zb 3 (za ?_);(refine ys (zh (f:=236) (hc:=λw' X hk hh=>hsp w')) (k:=?_);rintro _ _ ⟨R,rfl,b3,b4,b5,rfl,rfl⟩)))
 rename_i b2;refine zit False (γ:=Unit) (xs:=splitD l) (Arg:=ArgS) zbE rfl (en rfl) rfl (λk _=>((splitD l).take k).all labOk=true) (λc _ _=>c= .ret/\(splitD l).all labOk=false)
  (λ_=>[.blk b2 4 [.bool false]]) [.blk b4 9 [.string (str [46])],.blk b3 9 [.string (str l)],.blk b5 3 [.int .i64 0]] [] [] () rfl ?_ ?_ (λh=>h.elim) ?_ ?_ ?_ ?_
 ·exact List.perm_append_comm (l₁:=[_,_,_]) (l₂:=[_])
 ·exact λw' Mi X hk hm _ _=>znD b3 b4 b5 l w' Mi hl
 ·rintro O x vs RA w' ⟨rfl,_⟩;rfl
 ·rintro lp k hk ⟨⟩ vs RA W rec hrec hI ⟨rfl,rfl⟩ hkW hmine;clear hmine;have hin:(splitD l)[k]∈splitD l:=List.getElem_mem hk;have htk:(splitD l).take (k+1)=(splitD l).take k ++ [(splitD l)[k]]:=zac hk;have hbad:labOk (splitD l)[k]=false->(splitD l).all labOk=false:=λh=>by
   rw [List.all_eq_false];exact ⟨_,hin,by rw [h];decide⟩
  have hgood:labOk (splitD l)[k]=true->((splitD l).take (k+1)).all labOk=true:=λh=>by
   rw [htk,List.all_append,hI];simp [h]
  have hbig:=zg3 l.length l (Nat.le_refl _) _ hin;generalize (splitD l)[k]=x at *;by_cases hx:x= []
  ·subst hx;have hb:=hbad rfl;repeat' (first|refine s_t ?_|(apply za6;(focus ((repeat (first|exact Rem.here|apply Rem.there));done));assumption)|(refine zb 4 (za ?_))|(refine zb 5 (za ?_);refine yv (za2 (hr:=decide_eq_true rfl)) (k:=?_))|(refine zb 6 ?_;refine zI ?_))
   exact zdf () ⟨rfl,hb⟩ q_h
  have g0:=decide_eq_false hx;have hlo:labOk x=x.all labC:=by
   cases x with
   |nil=>exact absurd rfl hx
   |cons c x=>simp [labOk]
  rw [hlo] at hbad hgood;have hs:((str x).size:Int)=(x.length:Int):=rfl;repeat' (first|refine s_t ?_|(apply za6;(focus ((repeat (first|exact Rem.here|apply Rem.there));done));assumption)|(refine zB [4,7] ?_;refine za ?_)|(refine zb 5 (za ?_);refine yv (za2 (hr:=g0)) (k:=?_)))
  refine zy (γ:=Nat) (λi=>[(2,.pointer (some ⟨b2,0,none⟩)),(3,.string (str x)),(15,.int .i64 (x.length:Int)),(16,.int .i64 (i:Int))]) (λ_=>[.obj lp (.loop (busy rec)),.blk b2 4 [.bool false]]) (λi=>i<=x.length/\(x.take i).all labC=true) (λi=>x.length - i) 0 ⟨Nat.zero_le _,rfl⟩ ?_ ?_ ?_
  ·exact q_h
  ·exact q_h
  rintro i ⟨hi,hal⟩;by_cases hlt:i < x.length
  ·have g1:decide ((i:Int) < (x.length:Int))=true:=q_d;have g5:IntKind.i64.wrap ((i:Int)+1)=((i+1:Nat):Int):=q_w;have hv:(str x).data[i]?=some x[i]:=by show x.toArray[i]?=_;rw [List.getElem?_toArray,List.getElem?_eq_getElem hlt]
   have htx:x.take (i+1)=x.take i ++ [x[i]]:=zac hlt;have hcx:x[i]∈x:=List.getElem_mem hlt;have hnc:labC x[i]=false->x.all labC=false:=λh=>by
    rw [List.all_eq_false];exact ⟨_,hcx,by rw [h];decide⟩
   have hyc:labC x[i]=true->(x.take (i+1)).all labC=true:=λh=>by
    rw [htx,List.all_append,hal];simp [h]
   have hcases:=zl6 x[i];generalize x[i]=c at *;rcases hcases with ⟨h1,h2,h3⟩|⟨h1,h2,h3,h4⟩|⟨h1,h3⟩|⟨h1,h2,h3⟩|⟨h1,h2,h3⟩|⟨h1,h3⟩
   ·have hy:=hyc h3;repeat' (first|refine s_t ?_|(refine zb 8 ?_;refine yv (zn (hr:=g1)) (k:=?_))|(refine zb 9 (za ?_))|(refine zb 10 (za ?_);refine yv (zF (j:=i) (hv:=hv)) (k:=za ?_))|(refine zb 11 (za ?_);refine zL ?_;refine za ?_;refine zak ?_;refine za ?_)|(refine zb 13 ?_;refine yv (zu (hr:=g5)) (k:=za ?_)))
    refine zq (i+1) ⟨hlt,hy⟩ ?_ ?_ ?_
    ·show x.length - (i+1) < x.length - i;omega
    ·exact q_h
    ·exact q_h
   ·have hy:=hyc h4;repeat' (first|refine s_t ?_|(refine zb 8 ?_;refine yv (zn (hr:=g1)) (k:=?_))|(refine zb 9 (za ?_))|(refine zb 10 (za ?_);refine yv (zF (j:=i) (hv:=hv)) (k:=za ?_))|(refine zb 11 (za ?_);refine zL ?_;refine za ?_;refine zL ?_;refine za ?_;refine zak ?_;refine za ?_)|(refine zb 13 ?_;refine yv (zu (hr:=g5)) (k:=za ?_)))
    refine zq (i+1) ⟨hlt,hy⟩ ?_ ?_ ?_
    ·show x.length - (i+1) < x.length - i;omega
    ·exact q_h
    ·exact q_h
   ·have hy:=hyc h3;repeat' (first|refine s_t ?_|(refine zb 8 ?_;refine yv (zn (hr:=g1)) (k:=?_))|(refine zb 9 (za ?_))|(refine zb 10 (za ?_);refine yv (zF (j:=i) (hv:=hv)) (k:=za ?_))|(refine zb 11 (za ?_);refine zL ?_;refine za ?_;refine zL ?_;refine za ?_;refine z8 ?_;refine za ?_)|(refine zb 13 ?_;refine yv (zu (hr:=g5)) (k:=za ?_)))
    refine zq (i+1) ⟨hlt,hy⟩ ?_ ?_ ?_
    ·show x.length - (i+1) < x.length - i;omega
    ·exact q_h
    ·exact q_h
   ·have hn:=hbad (hnc h3);repeat' (first|refine s_t ?_|(refine zb 8 ?_;refine yv (zn (hr:=g1)) (k:=?_))|(refine zb 9 (za ?_))|(refine zb 10 (za ?_);refine yv (zF (j:=i) (hv:=hv)) (k:=za ?_))|(refine zb 11 (za ?_);refine zL ?_;refine za ?_;refine zL ?_;refine za ?_;refine z8 ?_;refine za ?_)|(refine zb 12 ?_;refine zI ?_))
    exact zdf () ⟨rfl,hn⟩ q_h
   ·have hn:=hbad (hnc h3);repeat' (first|refine s_t ?_|(refine zb 8 ?_;refine yv (zn (hr:=g1)) (k:=?_))|(refine zb 9 (za ?_))|(refine zb 10 (za ?_);refine yv (zF (j:=i) (hv:=hv)) (k:=za ?_))|(refine zb 11 (za ?_);refine zL ?_;refine za ?_;refine zL ?_;refine za ?_;refine zak ?_;refine za ?_;refine z8 ?_;refine za ?_)|(refine zb 12 ?_;refine zI ?_))
    exact zdf () ⟨rfl,hn⟩ q_h
   ·have hn:=hbad (hnc h3);repeat' (first|refine s_t ?_|(refine zb 8 ?_;refine yv (zn (hr:=g1)) (k:=?_))|(refine zb 9 (za ?_))|(refine zb 10 (za ?_);refine yv (zF (j:=i) (hv:=hv)) (k:=za ?_))|(refine zb 11 (za ?_);refine zL ?_;refine za ?_;refine zak ?_;refine za ?_;refine zL ?_;refine za ?_;refine zak ?_;refine za ?_;refine z8 ?_;refine za ?_)|(refine zb 12 ?_;refine zI ?_))
    exact zdf () ⟨rfl,hn⟩ q_h
  obtain rfl:i=x.length:=q_o;rw [List.take_of_length_le (Nat.le_refl _)] at hal;have hy:=hgood hal;have g1:decide ((x.length:Int) < (x.length:Int))=false:=q_f;repeat' (first|refine s_0 ?_|(refine zb 8 ?_;refine yv (zn (hr:=g1)) (k:=?_)))
  exact zdN () hy q_h
 ·rintro ⟨⟩ hI;rw [List.take_of_length_le (Nat.le_refl _)] at hI;rw [hI];repeat' (first|refine s_0 ?_|(refine zb 14 ?_;refine zI ?_))
  exact ret1 rfl (resCell rfl (ty rfl) rfl Has.go rfl) SubR.nil ⟨rfl,rfl⟩
 ·rintro c k ⟨⟩ hk ⟨rfl,hbad⟩;rw [hbad];repeat' (first|refine s_0 ?_|fail)
  exact ret1 rfl (resCell rfl (ty rfl) rfl Has.go rfl) SubR.nil ⟨rfl,rfl⟩
theorem zd9 (C:List Value) (p:Prin) (w:World) (h:PrinIn w C p) (hb:p.parts.length < 1000000) (hr:p.realm.length < 1000000000) (hp: ∀x∈p.parts,x.length < 1000000000):Sy.Fn Tryz.prog 76 [.agg C.toArray] w No (Gives (.bool p.ok)):=by
 obtain ⟨⟨a1,c1,rfl,n1,m1,s1,z1⟩,-⟩:=h;refine zg Tryz.func76 rfl Tryz.ntmps76 q_p Holds.nil ?_;have hre:=λw'=>zoS p.realm w' hr;have hok:p.ok=([decide (1<=p.parts.length),decide (p.parts.length<=4),realmOk p.realm].all id && p.parts.all partOk):=by simp [Prin.ok,Bool.and_assoc]
 have hall:=λw' b (h:w'.rangeAt b 0 [.bool (decide (1<=p.parts.length)),.bool (decide (p.parts.length<=4)),.bool (realmOk p.realm)])=>zp8 b 3 [decide (1<=p.parts.length),decide (p.parts.length<=4),realmOk p.realm] w' rfl q_e h;have q1:decide ((p.parts.length:Int)>=1)=decide (1<=p.parts.length):=decide_eq_decide.2 q_o;have q2:decide ((p.parts.length:Int)<=4)=decide (p.parts.length<=4):=decide_eq_decide.2 q_o;have hpt:=λx (hx:x∈p.parts) w'=>zqJ x w' (hp x hx);unfold strV at *;rw [hok];generalize [decide (1<=p.parts.length),decide (p.parts.length<=4),realmOk p.realm].all id=u at *;generalize decide (1<=p.parts.length)=u1 at *;generalize decide (p.parts.length<=4)=u2 at *;generalize realmOk p.realm=u3 at *;obtain ⟨parts,realm⟩:=p;dsimp only at *;generalize hn:parts.length=n at *;repeat' (first|refine s_0 ?_|(refine zb 0 ?_;refine zO ?_;intro _))
 rename_i b1
 (refine zbU (id:=1) [0,1,2,3,4,5,6,7,8,9] [10,11,12,13] mixed ?_ ?_;kernel_rfl;refine yfv zS (k:=?_);refine yfv zC (k:=?_);refine yfv zhl (k:=?_);refine yfv (zab (hr:=q1)) (k:=?_);refine yfv zS (k:=?_);refine yfv zC (k:=?_);refine yfv zhl (k:=?_);refine yfv (zau (hr:=q2)) (k:=?_);refine yfv zS (k:=?_);refine yfv zC (k:=?_);refine yf0 ?_;refine ycv (zd (hc:=λ_ _ _ _=>(hre _))) (k:=?_);(refine ycs zt (k:=?_);rintro _ _ ⟨bL,rfl,rfl⟩);refine ycv (zd (f:=167) (hc:=λw' X hk hh=>hall w' bL (zp (hh.has q_h) Seg.all))) (k:=?_);refine ycv zg7 (k:=?_);try refine yc0 (k:=?_))
 cases u
 ·rw [Bool.false_and];repeat' (first|refine s_0 ?_|(refine zb 2 (za ?_)))
  exact q_r
 rw [Bool.true_and];repeat' (first|refine s_t ?_|(refine zb 3 (za ?_);refine zm ?_;refine za ?_))
 refine zy (γ:=Nat) (λi=>[(20,.slice a1 n c1),(21,.int .i64 (n:Int)),(22,.int .i64 (i:Int))]) (λ_=>[]) (λi=>i<=n/\(parts.take i).all partOk=true) (λi=>n - i) 0 ⟨Nat.zero_le _,rfl⟩ ?_ ?_ ?_
 ·exact q_h
 ·exact q_h
 rintro i ⟨hi,hal⟩;by_cases hlt:i < n
 ·obtain ⟨bl,ol,rfl,hcell⟩:=zcg s1 (i:=i) (by rw [List.length_map];omega);have hc:=hcell i _ (zbW _ q_o);have g1:decide ((i:Int) < (n:Int))=true:=q_d;have g5:IntKind.i64.wrap ((i:Int)+1)=((i+1:Nat):Int):=q_w;have htk:parts.take (i+1)=parts.take i ++ [parts[i]]:=zac q_o;have hin:parts[i]∈parts:=List.getElem_mem q_o;have hx:=hpt parts[i] hin;generalize parts[i]=x at *;by_cases hxo:partOk x=true
  ·rw [hxo] at hx;repeat' (first|refine s_t ?_|(refine zb 4 ?_;refine yv (zn (hr:=g1)) (k:=?_))|(refine zb 5 ?_;refine yv (zG (j:=i)) (k:=?_);refine yv (zl (hv:=hc)) (k:=za ?_))|(refine zb 6 (za ?_);refine yv (zd (hc:=λ_ _ _ _=>(hx _))) (k:=?_);refine za ?_)|(refine zb 8 ?_;refine yv (zu (hr:=g5)) (k:=za ?_)))
   refine zq (i+1) ⟨hlt,by rw [htk,List.all_append,hal];simp [hxo]⟩ ?_ ?_ ?_
   ·show n - (i+1) < n - i;omega
   ·exact q_h
   ·exact q_h
  ·rw [Bool.not_eq_true] at hxo;rw [hxo] at hx;have hbad:parts.all partOk=false:=by rw [List.all_eq_false];exact ⟨x,hin,by rw [hxo];decide⟩
   rw [hbad];repeat' (first|refine s_t ?_|(refine zb 4 ?_;refine yv (zn (hr:=g1)) (k:=?_))|(refine zb 5 ?_;refine yv (zG (j:=i)) (k:=?_);refine yv (zl (hv:=hc)) (k:=za ?_))|(refine zb 6 (za ?_);refine yv (zd (hc:=λ_ _ _ _=>(hx _))) (k:=?_);refine za ?_)|(refine zb 7 (za ?_)))
   exact q_r
 obtain rfl:i=n:=q_o;rw [List.take_of_length_le q_o] at hal;rw [hal];have g1:decide ((i:Int) < (i:Int))=false:=q_f;repeat' (first|refine s_0 ?_|(refine zb 4 ?_;refine yv (zn (hr:=g1)) (k:=?_))|(refine zb 9 (za ?_)))
 exact q_r
end Go.Proofs.YtdnlngbjpdbffaaGreatDoor
end
section
namespace Go.Proofs.YtdnlngbjpdbffaaGreatDoor
open Go Go.Sy Go.Ct Go.RowKit
attribute [local irreducible] Sy SyL SyX Sy.Fn callFunc
theorem zk8 (v:Int) (m:Nat) (w:World) (hm:m<=8):Sy.Fn Tryz.prog 194 [.int .i64 v,.int .i64 (m:Int)] w No (λr R=>∃b,r= .slice (some ⟨b,0,none⟩) m m/\R= [.blk b 5 ((beZ v m).map v8)]):=by
 refine zg Tryz.func194 rfl Tryz.ntmps194 q_p Holds.nil ?_;repeat' (first|refine s_t ?_|(refine zB [0,1,2] ?_;refine za ?_)|(refine ys (zcu (n:=m)) (k:=?_);rintro _ _ ⟨b5,rfl,rfl⟩)|(refine zP ?_;first|refine zx ?_|fail)|fail)
 refine zy (γ:=Nat) (λi=>[(0,.int .i64 v),(1,.int .i64 (m:Int)),(5,.slice (some ⟨b5,0,none⟩) m m),(10,.int .i64 (m:Int)),(11,.int .i64 (i:Int))]) (λi=>[.blk b5 5 (List.replicate (m - i) (Value.int .u8 0) ++ (beZ v i).map v8)]) (λi=>i<=m) (λi=>m - i) 0 (Nat.zero_le _) ?_ ?_ ?_
 ·exact q_h
 ·rw [Nat.sub_zero,show (beZ v 0).map v8= [] from rfl,List.append_nil];exact q_h
 rintro i hi;rcases Nat.lt_or_ge i m with h|h
 ·have hlt:decide ((i:Int) < (m:Int))=true:=q_d;have g1:IntKind.i64.wrap ((m:Int) - 1)=((m - 1:Nat):Int):=q_w;have g2:IntKind.i64.wrap (((m - 1:Nat):Int) - (i:Int))=((m - 1 - i:Nat):Int):=q_w;have g3:IntKind.i64.wrap (8*(i:Int))=((8*i:Nat):Int):=q_w;have g4:Op.shift .shr .i64 v .i64 ((8*i:Nat):Int)=pure (.int .i64 (v / 256 ^ i)):=by rw [shrZ v (8*i) _ q_o,zqk]
  have g5:IntKind.i64.wrap ((i:Int)+1)=((i+1:Nat):Int):=q_w;have g6:=u8Z (v / 256 ^ i);have hset:=zqP v m i h;have hln:(List.replicate (m - i) (Value.int .u8 0) ++ (beZ v i).map v8).length=m:=by simp only [List.length_append,List.length_replicate,List.length_map,zhB];omega
  generalize List.replicate (m - i) (Value.int .u8 0) ++ (beZ v i).map v8=C at *;obtain ⟨C',hC'⟩: ∃C',C'=List.replicate (m - (i+1)) (Value.int .u8 0) ++ (beZ v (i+1)).map v8:=⟨_,rfl⟩;rw [<-hC'] at hset;generalize v / 256 ^ i=q at *;repeat' (first|refine s_t ?_|(refine zb 3 ?_;refine yv (zn (hr:=hlt)) (k:=?_))|(refine zb 4 (za ?_))|(refine zb 5 (za ?_);refine yv (zD (hr:=g1)) (k:=za ?_);refine yv (zD (hr:=g2)) (k:=za ?_);refine yv (zah (hr:=g3)) (k:=?_);refine yv (zaJ (hr:=g4)) (k:=?_);refine yv (z5 (hr:=g6)) (k:=?_);refine yv (zG (j:=m - 1 - i)) (k:=?_);refine yn (zcr (hC:=by rw [Nat.zero_add];exact hset)) (k:=?_))|(refine zb 6 ?_;refine yv (zu (hr:=g5)) (k:=za ?_)))
  refine zq (i+1) h ?_ ?_ ?_
  ·show m - (i+1) < m - i;omega
  ·exact q_h
  ·rw [<-hC'];exact q_h
 obtain rfl:i=m:=q_o;have hlt:decide ((i:Int) < (i:Int))=false:=q_f;rw [Nat.sub_self,List.replicate_zero,List.nil_append];repeat' (first|refine s_0 ?_|(refine zb 3 ?_;refine yv (zn (hr:=hlt)) (k:=?_))|(refine zb 7 (za ?_)))
 exact ret1 rfl (resTmp rfl) q_h ⟨b5,rfl,rfl⟩
theorem zj6 (t:Nat) (a:Option Addr) (m d:Nat) (xs:List Bs) (w:World) (ht:t < 256) (hm:xs.length=m) (hmb:m < 1000) (hmd:m<=d) (hsx:SlA w a (xs.map Bs.val)) (hok: ∀s∈xs,s.ok w) (hb:(Bs.cat xs).length < 16777216):
  Sy.Fn Tryz.prog 172 [.int .u8 (t:Int),.slice a m d] w No (RowOf 5 (tlv t (Bs.cat xs)).length ((tlv t (Bs.cat xs)).map v8)):=by
 refine zg Tryz.func172 rfl Tryz.ntmps172 q_p Holds.nil ?_;have hle: ∀i,(Bs.cat (xs.take i)).length<=(Bs.cat xs).length:=λi=>by
  have:Bs.cat xs=Bs.cat (xs.take i) ++ Bs.cat (xs.drop i):=by unfold Bs.cat;rw [<-List.flatMap_append,List.take_append_drop]
  rw [this,List.length_append];omega
 have hsuc:=λi (h:i < m)=>Bs.cat_succ xs i q_o;have hoki:=λj (h:j < m)=>hok xs[j] (List.getElem_mem q_o);have hget:=λi (h:i < m)=>Bs.get hsx (i:=i) q_o;repeat' (first|refine s_t ?_|(refine zB [0,1,2] ?_;refine za ?_))
 refine zy (γ:=Nat) (λi=>[(0,.int .u8 (t:Int)),(1,.slice a m d),(11,.slice a m d),(12,.int .i64 m),(13,.int .i64 i),(5,.int .i64 ((Bs.cat (xs.take i)).length:Nat))]) (λ_=>[]) (λi=>i<=m) (λi=>m - i) 0 (Nat.zero_le _) ?_ ?_ ?_
 ·exact q_h
 ·exact q_h
 intro i hi;by_cases hlt:i < m
 ·obtain ⟨bl,ol,rfl,hcell⟩:=hget i hlt;have hc:=hcell i q_o;have ho:=hoki i hlt;have hs:=hsuc i hlt;have hl1:=hle (i+1);rw [hs,List.length_append] at hl1;have hlen:xs[i].l.length=xs[i].n:=ho.len;rw [hlen] at hl1;have hT:((Bs.cat (xs.take (i+1))).length:Int)=((Bs.cat (xs.take i)).length:Int)+(xs[i].n:Int):=by rw [hs,List.length_append,hlen,Int.natCast_add]
  obtain ⟨T',hT'⟩: ∃t,t=(Bs.cat (xs.take (i+1))).length:=⟨_,rfl⟩;rw [<-hT'] at hT;generalize (Bs.cat (xs.take i)).length=T at *;generalize (Bs.cat xs).length=tot at *;generalize xs[i]=s at *;obtain ⟨sa,sn,sc,sl⟩:=s;dsimp only at *;have g1:decide ((i:Int) < (m:Int))=true:=q_d;have g2:IntKind.i64.wrap (16777215 - (T:Int))=16777215 - (T:Int):=IntWalk.i64_in _ q_o;have g3:decide (16777215 - (T:Int) < (sn:Int))=false:=q_f;have g4:IntKind.i64.wrap ((T:Int)+(sn:Int))=((T':Nat):Int):=q_w;have g5:IntKind.i64.wrap ((i:Int)+1)=((i+1:Nat):Int):=q_w;repeat' (first|refine s_t ?_|(refine zb 3 ?_;refine yv (zn (hr:=g1)) (k:=?_))|(refine zb 4 ?_;refine yv (zG (j:=i)) (k:=?_);refine yv (zl (hv:=hc)) (k:=za ?_))|(refine zb 5 (za ?_);refine yv (zD (hr:=g2)) (k:=?_);refine yv (zU (hr:=g3)) (k:=?_))|(refine zb 7 (za ?_);refine yv (zu (hr:=g4)) (k:=za ?_))|(refine zb 8 ?_;refine yv (zu (hr:=g5)) (k:=za ?_)))
  refine zq (i+1) hlt ?_ ?_ ?_
  ·show m - (i+1) < m - i;omega
  ·rw [<-hT'];exact q_h
  ·exact q_h
 obtain rfl:i=m:=q_o;have hcat:xs.take i=xs:=List.take_of_length_le q_o;rw [hcat];have g1:decide ((i:Int) < (i:Int))=false:=q_f;obtain ⟨tot,htot⟩: ∃n,n=(Bs.cat xs).length:=⟨_,rfl⟩;rw [<-htot] at hb;have hle': ∀j,(Bs.cat (xs.take j)).length<=tot:=λj=>htot ▸ hle j;obtain ⟨H,hH⟩: ∃H,H=UInt8.ofNat t::derL tot:=⟨_,rfl⟩;have htlv:tlv t (Bs.cat xs)=H ++ Bs.cat xs:=by rw [hH,htot];rfl
 have hHl:H.length<=5:=by rw [hH,List.length_cons];have:=zgz tot;omega
 have hy:H.map v8= .int .u8 (t:Int)::(derL tot).map v8:=by rw [hH,List.map_cons,<-v8_lit t ht]
 rw [zkW] at hy;have g2:IntKind.i64.wrap ((tot:Int)+5)=((tot+5:Nat):Int):=q_w;have g3:=u8N tot;have g4:=u8N (tot / 2 ^ 8);have g5:=u8N (tot / 2 ^ 16);have q1:=λkk=>shrC tot 8 kk q_e;have q2:=λkk=>shrC tot 16 kk q_e;rw [htlv,<-htot];repeat' (first|refine s_0 ?_|(refine zb 3 ?_;refine yv (zn (hr:=g1)) (k:=?_))|(refine zb 9 (za ?_);refine yv (zu (hr:=g2)) (k:=?_))|(refine ys (zht (n:=0) (c':=tot+5) (Nat.zero_le _)) (k:=?_);rintro _ _ ⟨b8,rfl,rfl⟩)|(refine zP ?_;first|refine zx ?_|fail)|fail)
 refine zaR (zgQ (b:=b8) (E:=5) (s:=1) (n:=0) (c:=tot+5) (xs:=[]) (J:=List.replicate (tot+5) (Value.int .u8 0)) Rem.here q_p (Nat.zero_le _) (by unfold maxLen;omega) rfl) ?_;repeat' (first|refine s_0 ?_|(refine zb 10 (za ?_);(refine ys zt (k:=?_);rintro _ _ ⟨_,rfl,rfl⟩);(refine ys z9 (k:=?_);rintro _ _ ⟨rfl,_,_,rfl⟩);refine za ?_))
 rename_i aT cT;refine zba (γ:=Option Addr×Nat) (λg=>[(1,.slice a i d),(8,.slice g.1 H.length g.2)]) (λg=>[.row (.slice g.1 H.length g.2) 5 1 H.length (H.map v8)]) (λ_=>True) ?_ ?_
 ·have hc:tot < 128\/(128<=tot/\tot < 256)\/(256<=tot/\tot < 65536)\/65536<=tot:=q_o;rcases hc with h|h|h|h
  ·rw [if_pos h] at hy;have e: [Value.int .u8 (t:Int)] ++ [.int .u8 (Wd.n8 (UInt8.ofNat tot))]=H.map v8:=hy.symm;have el:1+1=H.length:=by rw [<-List.length_map v8,<-e];rfl
   have k1:decide ((tot:Int) < 128)=true:=q_d;repeat' (first|refine s_t ?_|(refine zb 12 (za ?_);refine yv (zn (hr:=k1)) (k:=za ?_))|(refine zb 13 (za ?_);refine yv (z5 (hr:=g3)) (k:=?_);(refine ys zt (k:=?_);rintro _ _ ⟨_,rfl,rfl⟩);(refine ys (z9 (hys:=e) (hkm:=el)) (k:=?_);rintro _ _ ⟨rfl,aN,cN,rfl⟩);refine za ?_))
   exact zT (aN,cN) trivial q_h q_h
  ·rw [if_neg q_o,if_pos h.2] at hy;have e: [Value.int .u8 (t:Int)] ++ [.int .u8 129,.int .u8 (Wd.n8 (UInt8.ofNat tot))]=H.map v8:=hy.symm;have el:1+2=H.length:=by rw [<-List.length_map v8,<-e];rfl
   have k1:decide ((tot:Int) < 128)=false:=q_f;have k2:decide ((tot:Int) < 256)=true:=q_d;repeat' (first|refine s_t ?_|(refine zb 12 (za ?_);refine yv (zn (hr:=k1)) (k:=za ?_))|(refine zb 14 (za ?_);refine yv (zn (hr:=k2)) (k:=za ?_))|(refine zb 15 (za ?_);refine yv (z5 (hr:=g3)) (k:=?_);(refine ys zt (k:=?_);rintro _ _ ⟨_,rfl,rfl⟩);(refine ys (z9 (hys:=e) (hkm:=el)) (k:=?_);rintro _ _ ⟨rfl,aN,cN,rfl⟩);refine za ?_))
   exact zT (aN,cN) trivial q_h q_h
  ·rw [if_neg q_o,if_neg q_o,if_pos h.2] at hy;have e: [Value.int .u8 (t:Int)] ++ [.int .u8 130,.int .u8 (Wd.n8 (UInt8.ofNat (tot / 2 ^ 8))),.int .u8 (Wd.n8 (UInt8.ofNat tot))]=H.map v8:=hy.symm;have el:1+3=H.length:=by rw [<-List.length_map v8,<-e];rfl
   have k1:decide ((tot:Int) < 128)=false:=q_f;have k2:decide ((tot:Int) < 256)=false:=q_f;have k3:decide ((tot:Int) < 65536)=true:=q_d;repeat' (first|refine s_t ?_|(refine zb 12 (za ?_);refine yv (zn (hr:=k1)) (k:=za ?_))|(refine zb 14 (za ?_);refine yv (zn (hr:=k2)) (k:=za ?_))|(refine zb 16 (za ?_);refine yv (zn (hr:=k3)) (k:=za ?_))|(refine zb 17 (za ?_);refine yv (zaJ (hr:=q1 _)) (k:=?_);refine yv (z5 (hr:=g4)) (k:=za ?_);refine yv (z5 (hr:=g3)) (k:=?_);(refine ys zt (k:=?_);rintro _ _ ⟨_,rfl,rfl⟩);(refine ys (z9 (hys:=e) (hkm:=el)) (k:=?_);rintro _ _ ⟨rfl,aN,cN,rfl⟩);refine za ?_))
   exact zT (aN,cN) trivial q_h q_h
  ·rw [if_neg q_o,if_neg q_o,if_neg q_o] at hy;have e: [Value.int .u8 (t:Int)] ++ [.int .u8 131,.int .u8 (Wd.n8 (UInt8.ofNat (tot / 2 ^ 16))),.int .u8 (Wd.n8 (UInt8.ofNat (tot / 2 ^ 8))),.int .u8 (Wd.n8 (UInt8.ofNat tot))]=H.map v8:=hy.symm;have el:1+4=H.length:=by rw [<-List.length_map v8,<-e];rfl
   have k1:decide ((tot:Int) < 128)=false:=q_f;have k2:decide ((tot:Int) < 256)=false:=q_f;have k3:decide ((tot:Int) < 65536)=false:=q_f;repeat' (first|refine s_t ?_|(refine zb 12 (za ?_);refine yv (zn (hr:=k1)) (k:=za ?_))|(refine zb 14 (za ?_);refine yv (zn (hr:=k2)) (k:=za ?_))|(refine zb 16 (za ?_);refine yv (zn (hr:=k3)) (k:=za ?_))|(refine zb 11 (za ?_);refine yv (zaJ (hr:=q2 _)) (k:=?_);refine yv (z5 (hr:=g5)) (k:=za ?_);refine yv (zaJ (hr:=q1 _)) (k:=?_);refine yv (z5 (hr:=g4)) (k:=za ?_);refine yv (z5 (hr:=g3)) (k:=?_);(refine ys zt (k:=?_);rintro _ _ ⟨_,rfl,rfl⟩);(refine ys (z9 (hys:=e) (hkm:=el)) (k:=?_);rintro _ _ ⟨rfl,aN,cN,rfl⟩);refine za ?_))
   exact zT (aN,cN) trivial q_h q_h
 rintro ⟨aH,cH⟩ -;dsimp only;repeat' (first|refine s_t ?_|(refine zb 18 (za ?_)))
 refine zy (γ:=Nat×Option Addr×Nat) (λg=>[(72,.slice a i d),(73,.int .i64 i),(74,.int .i64 g.1),(8,.slice g.2.1 (H ++ Bs.cat (xs.take g.1)).length g.2.2)]) (λg=>[.row (.slice g.2.1 (H ++ Bs.cat (xs.take g.1)).length g.2.2) 5 1 (H ++ Bs.cat (xs.take g.1)).length ((H ++ Bs.cat (xs.take g.1)).map v8)]) (λg=>g.1<=i) (λg=>i - g.1) (0,aH,cH) (Nat.zero_le _) ?_ ?_ ?_
 ·rw [show H ++ Bs.cat (xs.take 0)=H by rw [List.take_zero];exact List.append_nil _];exact q_h
 ·rw [show H ++ Bs.cat (xs.take 0)=H by rw [List.take_zero];exact List.append_nil _];exact q_h
 rintro ⟨j,aJ,cJ⟩ hj;dsimp only at hj ⊢;by_cases hlt:j < i
 ·obtain ⟨bl,ol,rfl,hcell⟩:=hget j hlt;have hc:=hcell j q_o;have ho:=hoki j hlt;have hs:=hsuc j hlt;have hl1:=hle' (j+1);have hlen:xs[j].l.length=xs[j].n:=ho.len;have hsl:=ho.sla;have hnl:=ho.nil;have e:(H ++ Bs.cat (xs.take j)).map v8 ++ xs[j].l.map v8=(H ++ Bs.cat (xs.take (j+1))).map v8:=by rw [hs,<-List.append_assoc];exact List.map_append.symm
  have el:(H ++ Bs.cat (xs.take j)).length+xs[j].n=(H ++ Bs.cat (xs.take (j+1))).length:=by rw [hs];simp only [List.length_append,hlen];omega
  have hlb:(H ++ Bs.cat (xs.take (j+1))).length < 20000000:=by rw [List.length_append];omega
  generalize (H ++ Bs.cat (xs.take j))=K at *;obtain ⟨K',hK'⟩: ∃k,k=H ++ Bs.cat (xs.take (j+1)):=⟨_,rfl⟩;rw [<-hK'] at e el hlb;generalize xs[j]=s at *;obtain ⟨sa,sn,sc,sl⟩:=s;dsimp only at *;have g1:decide ((j:Int) < (i:Int))=true:=q_d;have g6:IntKind.i64.wrap ((j:Int)+1)=((j+1:Nat):Int):=q_w;repeat' (first|refine s_t ?_|(refine zb 19 ?_;refine yv (zn (hr:=g1)) (k:=?_))|(refine zb 20 ?_;refine yv (zG (j:=j)) (k:=?_);refine yv (zl (hv:=hc)) (k:=za ?_))|(refine zb 21 (za ?_);(refine ys (z9 (hr:=Rd.old hsl (λ_ _ h=>h)) (hn:=by rw [List.length_map,hlen,Nat.mul_one]) (hnil:=hnl) (hys:=e) (hkm:=el)) (k:=?_);rintro _ _ ⟨rfl,aN,cN,rfl⟩);refine za ?_)|(refine zb 22 ?_;refine yv (zu (hr:=g6)) (k:=za ?_)))
  refine zq (j+1,aN,cN) hlt ?_ ?_ ?_
  ·show i - (j+1) < i - j;omega
  ·dsimp only;rw [<-hK'];exact q_h
  ·dsimp only;rw [<-hK'];exact q_h
 obtain rfl:j=i:=q_o;have g6:decide ((j:Int) < (j:Int))=false:=q_f;rw [hcat];repeat' (first|refine s_0 ?_|(refine zb 19 ?_;refine yv (zn (hr:=g6)) (k:=?_))|(refine zb 23 (za ?_)))
 exact q_r
theorem zcX (t b:Nat) (s:Bs) (w:World) (ht:t < 256) (hs:s.ok w) (h2:w.rangeAt b 0 [s.val]) (hb:s.l.length < 16777216):
  Sy.Fn Tryz.prog 172 [.int .u8 (t:Int),.slice (some ⟨b,0,none⟩) 1 1] w No (RowOf 5 (tlv t s.l).length ((tlv t s.l).map v8)):=by
 have h:=zj6 t (some ⟨b,0,none⟩) 1 1 [s] w ht rfl q_e q_e (.inr ⟨b,0,rfl,h2⟩) (λx hx=>by rw [List.mem_singleton.1 hx];exact hs) (by rw [Ct.cat1];exact hb);rwa [Ct.cat1] at h
theorem zpU (v:Int) (w:World) (h1: -maxI<=v) (h2:v<=maxI):Sy.Fn Tryz.prog 111 [.int .i64 v] w No (RowOf 5 (tlv 2 (beZ v (sizeZ v))).length ((tlv 2 (beZ v (sizeZ v))).map v8)):=by
 have h8:=zmn h1 h2;unfold maxI at h1 h2;refine zg Tryz.func111 rfl Tryz.ntmps111 q_p Holds.nil ?_;have hn:=λw'=>zk8 v (sizeZ v) w' h8;have hlen:(beZ v (sizeZ v)).length=sizeZ v:=zhB v _;repeat' (first|refine s_t ?_|(refine zB [0,3,4] ?_;refine za ?_)|(refine zb 1 (za ?_);refine zL ?_;refine za ?_;refine zak ?_;refine za ?_))
 refine zy (γ:=Nat×Int) (λg=>[(0,.int .i64 v),(3,.int .i64 (g.1:Int)),(4,.int .i64 g.2)]) (λ_=>[]) (λg=>g.1+sizeZ g.2=sizeZ v+1/\ -4611686018427387904<=g.2/\g.2<=4611686018427387904) (λg=>sizeZ g.2) (1,v) ⟨by dsimp only;omega,h1,h2⟩ ?_ ?_ ?_
 ·exact q_h
 ·exact q_h
 rintro ⟨s,r⟩ ⟨hs,r1,r2⟩;dsimp only at hs r1 r2 ⊢;by_cases hr: -128<=r/\r<=127
 ·rw [zgC hr] at hs;obtain rfl:s=sizeZ v:=q_o;repeat' (first|refine s_0 ?_|(refine zb 5 (za ?_);refine zL ?_;refine za ?_;refine zak ?_;refine za ?_)|(refine zb 8 (za ?_);(refine ys (zh (f:=194) (hc:=λw' X hk hh=>hn w')) (k:=?_);rintro _ _ ⟨R,rfl,bN,rfl,rfl⟩);(refine ys zt (k:=?_);rintro _ _ ⟨bL,rfl,rfl⟩);(refine ys (zh (f:=172) (hc:=λw' X hk hh=>zcX 2 bL ⟨some ⟨bN,0,none⟩,sizeZ v,sizeZ v,beZ v (sizeZ v)⟩ w' q_e (blkBs hh hlen q_h) (zp (hh.has q_h) Seg.all) (by show (beZ v (sizeZ v)).length < 16777216;omega))) (k:=?_);rintro _ _ ⟨R,rfl,aE,cE,rfl,rfl⟩);refine za ?_))
  exact q_r
 ·have hge:=zjE hr;have g1:IntKind.i64.wrap ((s:Int)+1)=((s+1:Nat):Int):=q_w;have g2: ∀kk,Op.shift .shr .i64 r kk 8=pure (.int .i64 (r / 256)):=λkk=>shrZ r 8 kk q_e;have hc:r < -128\/(-128<=r/\127 < r):=q_o;rcases hc with h|⟨h,h'⟩
  all_goals repeat' (first|refine s_t ?_|(refine zb 5 (za ?_);refine zL ?_;refine za ?_;(first|refine zak ?_|skip|fail);(try refine za ?_))|(refine zb 7 (za ?_);refine yv (zu (hr:=g1)) (k:=za ?_))|(refine zb 6 (za ?_);refine yv (zaJ (hr:=g2 _)) (k:=za ?_)))
  all_goals refine zq (s+1,r / 256) ⟨by dsimp only;omega,by dsimp only;omega,by dsimp only;omega⟩ ?_ ?_ ?_
  all_goals first|(show sizeZ (r / 256) < sizeZ r;omega)|exact Sub.go|exact q_h
theorem zjo (v:Int) (w:World) (h1:0<=v) (h2:v<=1099511627776):Sy.Fn Tryz.prog 113 [.int .i64 v] w No (RowOf 5 (derT v.toNat).length ((derT v.toNat).map v8)):=by
 refine zg Tryz.func113 rfl Tryz.ntmps113 q_p Holds.nil ?_;have hn:=λw'=>zk8 v 6 w' q_e;have e:beZ v 6=beN v.toNat 6:=by rw [<-zhy,Int.toNat_of_nonneg h1]
 rw [e] at hn;have hlen:(beN v.toNat 6).length=6:=zbg _ _;unfold derT;repeat' (first|refine s_0 ?_|(refine zb 0 (za ?_))|(refine zb 1 (za ?_);refine zL ?_;refine za ?_;refine zak ?_;refine za ?_)|(refine zb 3 (za ?_);(refine ys (zh (f:=194) (hc:=λw' X hk hh=>hn w')) (k:=?_);rintro _ _ ⟨R,rfl,bN,rfl,rfl⟩);(refine ys zt (k:=?_);rintro _ _ ⟨bL,rfl,rfl⟩);(refine ys (zh (f:=172) (hc:=λw' X hk hh=>zcX 24 bL ⟨some ⟨bN,0,none⟩,6,6,beN v.toNat 6⟩ w' q_e (blkBs hh hlen q_h) (zp (hh.has q_h) Seg.all) (by show (beN v.toNat 6).length < 16777216;omega))) (k:=?_);rintro _ _ ⟨R,rfl,aE,cE,rfl,rfl⟩);refine za ?_))
 exact q_r
theorem zo6 (v:Bool) (w:World):Sy.Fn Tryz.prog 114 [.bool v] w No (RowOf 5 (derB v).length ((derB v).map v8)):=by
 refine zg Tryz.func114 rfl Tryz.ntmps114 q_p Holds.nil ?_;unfold derB;have e0: [Value.int .u8 0]= [(0:UInt8)].map v8:=rfl;have e1: [Value.int .u8 255]= [(255:UInt8)].map v8:=rfl;cases v
 ·rw [show (if false=true then (255:UInt8) else 0)=0 from rfl];repeat' (first|refine s_0 ?_|(refine zB [0,1] ?_;refine za ?_)|(refine zb 3 ?_;(refine ys zt (k:=?_);rintro _ _ ⟨bL,rfl,rfl⟩);(refine ys zt (k:=?_);rintro _ _ ⟨bL,rfl,rfl⟩)))
  rename_i bN;rw [e0];refine ys (zh (f:=172) (hc:=λw' X hk hh=>zcX 1 bL ⟨some ⟨bN,0,none⟩,1,1,[0]⟩ w' q_e (blkBs hh rfl q_h) (zp (hh.has q_h) Seg.all) (by show 1 < 16777216;decide))) (k:=?_);rintro _ _ ⟨R,rfl,aE,cE,rfl,rfl⟩;repeat' (first|refine s_0 ?_|(refine zP ?_;first|refine zx ?_|fail)|fail)
  exact q_r
 ·rw [show (if true=true then (255:UInt8) else 0)=255 from rfl];repeat' (first|refine s_0 ?_|(refine zB [0,1] ?_;refine za ?_)|(refine zb 2 ?_;(refine ys zt (k:=?_);rintro _ _ ⟨bL,rfl,rfl⟩);(refine ys zt (k:=?_);rintro _ _ ⟨bL,rfl,rfl⟩)))
  rename_i bN;rw [e1];refine ys (zh (f:=172) (hc:=λw' X hk hh=>zcX 1 bL ⟨some ⟨bN,0,none⟩,1,1,[255]⟩ w' q_e (blkBs hh rfl q_h) (zp (hh.has q_h) Seg.all) (by show 1 < 16777216;decide))) (k:=?_);rintro _ _ ⟨R,rfl,aE,cE,rfl,rfl⟩;repeat' (first|refine s_0 ?_|(refine zP ?_;first|refine zx ?_|fail)|fail)
  exact q_r
theorem zkT (s:Bs) (w:World) (hs:s.ok w) (hb:s.l.length < 16777216):Sy.Fn Tryz.prog 115 [s.val] w No (RowOf 5 (derO s.l).length ((derO s.l).map v8)):=by
 refine zg Tryz.func115 rfl Tryz.ntmps115 q_p Holds.nil ?_;unfold derO;repeat' (first|refine s_0 ?_|(refine zb 0 (za ?_))|(refine zb 1 (za ?_);(refine ys zt (k:=?_);rintro _ _ ⟨bL,rfl,rfl⟩);(refine ys (zh (f:=172) (hc:=λw' X hk hh=>zcX 4 bL s w' q_e (hs.keep hk) (zp (hh.has q_h) Seg.all) hb)) (k:=?_);rintro _ _ ⟨R,rfl,aE,cE,rfl,rfl⟩);refine za ?_))
 exact q_r
theorem zlj (l:List UInt8) (w:World) (hb:l.length < 16777216):Sy.Fn Tryz.prog 253 [strV l] w No (RowOf 5 (derS l).length ((derS l).map v8)):=by
 refine zg Tryz.func253 rfl Tryz.ntmps253 q_p Holds.nil ?_;unfold derS strV;repeat' (first|refine s_0 ?_|(refine zB [0,1] ?_;refine za ?_)|(refine ys (zgm (l:=l)) (k:=?_);rintro _ _ ⟨bN,J,rfl,rfl⟩)|(refine zP ?_;first|(refine ys zt (k:=?_);rintro _ _ ⟨bL,rfl,rfl⟩)|(refine ys (zh (f:=172) (hc:=λw' X hk hh=>zcX 27 bL ⟨some ⟨bN,0,none⟩,l.length,l.length+J.length,l⟩ w' q_e (objBs hk hh rfl (Nat.le_add_right _ _) (Has.there Has.here)) (zp (hh.has q_h) Seg.all) hb)) (k:=?_);rintro _ _ ⟨R,rfl,aE,cE,rfl,rfl⟩)|refine zx ?_|fail)|fail)
 exact q_r
theorem zlu (a:Option Addr) (m d:Nat) (xs:List Bs) (w:World) (hm:xs.length=m) (hmb:m < 1000) (hmd:m<=d) (hsx:SlA w a (xs.map Bs.val)) (hok: ∀s∈xs,s.ok w) (hb:(Bs.cat xs).length < 16777216):
  Sy.Fn Tryz.prog 84 [.slice a m d] w No (RowOf 5 (tlv 0x30 (Bs.cat xs)).length ((tlv 0x30 (Bs.cat xs)).map v8)):=by
 refine zg Tryz.func84 rfl Tryz.ntmps84 q_p Holds.nil ?_;have he:=λw' (hk:Keep No w w')=>zj6 0x30 a m d xs w' q_e hm hmb hmd ((SlF.of hsx).to (Mi:=No) hk (λ_ h=> .inr h)).sla (λs hs=>(hok s hs).keep hk) hb;repeat' (first|refine s_0 ?_|(refine zb 0 (za ?_))|(refine zb 1 (za ?_);(refine ys (zh (f:=172) (hc:=zr he)) (k:=?_);rintro _ _ ⟨R,rfl,aE,cE,rfl,rfl⟩);refine za ?_))
 exact q_r
theorem zpf (t n:Nat) (s:Bs) (w:World) (hn:n<=30) (ht:t+n < 256) (hs:s.ok w) (h0:0 < s.l.length) (hb:s.l.length < 16777216):Sy.Fn Tryz.prog 193 [.int .i64 (t:Int),.int .i64 (n:Int),s.val] w No (RowOf 5 (tlv (t+n) s.l).length ((tlv (t+n) s.l).map v8)):=by
 refine zg Tryz.func193 rfl Tryz.ntmps193 q_p Holds.nil ?_;have g1:IntKind.i64.wrap ((t:Int)+(n:Int))=((t+n:Nat):Int):=q_w;have g2:IntKind.u8.wrap ((t+n:Nat):Int)=((t+n:Nat):Int):=IntWalk.u8_in _ q_o;have hl:=hs.len;have ho:=λw' (hk:Keep No w w')=>hs.keep hk;have hsv:s.val= .slice s.a s.n s.c:=rfl;rw [hsv];repeat' (first|refine s_0 ?_|(refine zb 0 (za ?_))|(refine zb 1 (za ?_);refine zL ?_;refine za ?_;refine zak ?_;refine za ?_;refine zan ?_;refine za ?_)|(refine zb 3 (za ?_);refine yv (zu (hr:=g1)) (k:=?_);refine yv (z5 (hr:=g2)) (k:=za ?_);(refine ys zt (k:=?_);rintro _ _ ⟨bL,rfl,rfl⟩);(refine ys (zh (f:=172) (hc:=λw' X hk hh=>zcX (t+n) bL s w' ht (ho w' hk) (zp (hh.has q_h) Seg.all) hb)) (k:=?_);rintro _ _ ⟨R,rfl,aE,cE,rfl,rfl⟩);refine za ?_))
 exact q_r
theorem zpV (n:Nat) (s:Bs) (w:World) (hn:n<=30) (hs:s.ok w) (h0:0 < s.l.length) (hb:s.l.length < 16777216):Sy.Fn Tryz.prog 110 [.int .i64 (n:Int),s.val] w No (RowOf 5 (derG n s.l).length ((derG n s.l).map v8)):=by
 refine zg Tryz.func110 rfl Tryz.ntmps110 q_p Holds.nil ?_;have he:=λw' (hk:Keep No w w')=>zpf 0xa0 n s w' hn q_o (hs.keep hk) h0 hb;have hsv:s.val= .slice s.a s.n s.c:=rfl;rw [hsv] at he ⊢;unfold derG;repeat' (first|refine s_0 ?_|(refine zb 0 (za ?_))|(refine zb 1 (za ?_);(refine ys (zh (f:=193) (hc:=zr he)) (k:=?_);rintro _ _ ⟨R,rfl,aE,cE,rfl,rfl⟩);refine za ?_))
 exact q_r
end Go.Proofs.YtdnlngbjpdbffaaGreatDoor
end
