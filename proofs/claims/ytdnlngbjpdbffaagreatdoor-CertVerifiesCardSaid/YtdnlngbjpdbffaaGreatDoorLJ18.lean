/- Products modulo a number. -/
import Derived.Test.YtdnlngbjpdbffaaGreatDoorLJ16
import Derived.Test.YtdnlngbjpdbffaaGreatDoorLJ17
import Derived.Test.YtdnlngbjpdbffaaGreatDoorLJ11
import Derived.Test.YtdnlngbjpdbffaaGreatDoorLJ13
import Derived.Test.YtdnlngbjpdbffaaGreatDoorLJ10
set_option maxHeartbeats 1000000
set_option maxRecDepth 10000
set_option linter.all false
section
namespace Go.Nt
open Go Go.Sy
theorem zm9 {a b:Nat}(h:nd 2 a+nd 2 b<=1024):a*b < 18446744073709551616 ^ 16:=by
 refine zrS h ?_;have h1:=zai 2 a q_e;have h2:=zai 2 b q_e;rw [Nat.pow_add];exact Nat.mul_lt_mul'' h1 h2
theorem zrj (l m:List UInt8):bn (l ++ m)=bn l ++ bn m:=by unfold bn;rw [List.map_append]
theorem zjQ (l:List UInt8):(bn l).length=l.length:=by unfold bn;rw [List.length_map]
theorem zfM (k:Nat) (l:List UInt8):bev 256 (bn (List.replicate k 0 ++ l))=bev 256 (bn l):=by
 induction k with
 |zero=>rfl
 |succ k ih=>
  rw [<-ih,List.replicate_succ,List.cons_append];show 0*256 ^ _+bev 256 (bn (List.replicate k 0 ++ l))=_;omega
theorem zh9 (z:Nat):bev 256 (bn (1::List.replicate z 0))=256 ^ z:=by
 show 1*256 ^ (bn (List.replicate z 0)).length+bev 256 (bn (List.replicate z 0))=_;have:=zfM z [];rw [List.append_nil] at this;rw [this,zjQ,List.length_replicate,Nat.one_mul];rfl
theorem zio (D:List UInt8) (i z:Nat) (h:i+z<=D.length):bev 256 (bn (D.take (i+z)))=bev 256 (bn (D.take i))*256 ^ z+bev 256 (bn ((D.take (i+z)).drop i)):=by
 have e:D.take (i+z)=D.take i ++ (D.take (i+z)).drop i:=by
  conv=>lhs;rw [<-List.take_append_drop i (D.take (i+z))]
  rw [List.take_take,Nat.min_eq_left q_o]
 conv=>lhs;rw [e]
 rw [zrj,zeT,zjQ];congr 3;rw [List.length_drop,List.length_take,Nat.min_eq_left h];omega
theorem zox (D:List UInt8) (i z:Nat) (h:i+z<=D.length):bev 256 (bn ((D.take (i+z)).drop i)) < 256 ^ z:=by
 have h1:=zcf 256 (bn ((D.take (i+z)).drop i)) (zeh _);rw [zjQ,List.length_drop,List.length_take,Nat.min_eq_left h,Nat.add_sub_cancel_left] at h1;exact h1
theorem znO (m a X R d:Nat):(a*X % m*R % m+a*d % m) % m=a*(X*R+d) % m:=by
 have h1:Cg m (a*X % m*R % m+a*d % m) (a*X*R+a*d):=((zci m _).trans ((zci m (a*X)).mul (Cg.refl m R))).add (zci m _);rw [h1.mod,Nat.mul_add,Nat.mul_assoc]
theorem znf {m z:Nat}(h0:0 < m) (hz:z=(1024 - nd 2 m) / 8):nd 2 m+8*z<=1024\/z=0:=q_o
theorem pow256 (z:Nat):256 ^ z=2 ^ (8*z):=by rw [Nat.pow_mul]
theorem zfL {m z x y:Nat}(hz:nd 2 m+8*z<=1024) (hx:x < m) (hy:y<=256 ^ z):x*y < 18446744073709551616 ^ 16:=by
 refine zrS hz ?_;have h1:=zai 2 m q_e;rw [Nat.pow_add,<-pow256];exact Nat.lt_of_lt_of_le (Nat.mul_lt_mul_of_pos_right (Nat.lt_trans hx h1) (Nat.pow_pos q_e) |> λh=>Nat.lt_of_le_of_lt (Nat.mul_le_mul_left x hy) h) (Nat.le_refl _)
theorem zrG (z n:Nat) (h:0 < z): ∃c,(z - n % z) % z+n=z*c:=by
 have h1:=Nat.div_add_mod n z;have h2:=Nat.mod_lt n h;rcases Nat.eq_zero_or_pos (n % z) with h3|h3
 ·refine ⟨n / z,?_⟩;rw [h3,Nat.sub_zero,Nat.mod_self,Nat.zero_add];omega
 ·refine ⟨n / z+1,?_⟩;rw [Nat.mod_eq_of_lt q_o,Nat.mul_add];omega
end Go.Nt
namespace Go.Proofs.YtdnlngbjpdbffaaGreatDoor
open Go Go.Sy Go.Nt Go.RowKit
section
variable {ro:Option Nat}{N:Nat}{w0:World}{M:Nat->Prop}{ds:List Deferred}{g:Nat->Option Value}{L:List Res}{o:Oper}
theorem zbG (ho:o.op= .build 133 #[]:=by exact rfl):OpT Tryz.prog ro N w0 M ds o g L (Det (natV 0) L):=by
 rw [<-natV0];exact zcF ho (ty rfl) (.inl ⟨rfl,rfl⟩) (zc rfl)
end
attribute [local irreducible] Sy SyL SyX Sy.Fn callFunc natC rowN
theorem ziy (m a b:Nat) (w:World) (hm:m < 18446744073709551616 ^ 16) (ha:a < m) (hb:b < m) (hs:nd 2 a+nd 2 b<=1024):
  Sy.Fn Tryz.prog 244 [natV m,natV a,natV b] w No (Gives (natV (a*b % m))):=by
 refine zg Tryz.func244 rfl Tryz.ntmps244 q_p Holds.nil ?_;have hlm:=ze m;have hla:=ze a;have hlb:=ze b;have haW:=Nat.lt_trans ha hm;have hbW:=Nat.lt_trans hb hm;have h1:=λw'=>zbe a w' haW;have h2:=λw'=>zbe b w' hbW;have hna:=zcR haW;have hnb:=zcR hbW;have hP:=zm9 hs;have hmul:=λw'=>zjp a b w' haW hbW;rw [if_pos hP] at hmul;have hr:=λw' b' (h:w'.rangeAt b' 0 (rowN [a*b]))=>zcP m (a*b) b' w' hm q_o hP h;have hlP:=ze (a*b);have hlr:=ze (a*b % m);generalize a*b % m=r at *;generalize a*b=p at *;generalize nd 2 a=na at *;generalize nd 2 b=nb at *;have hadd:IntKind.i64.wrap ((na:Int)+(nb:Int))=((na+nb:Nat):Int):=q_w;have hle:decide (((na+nb:Nat):Int)<=1024)=true:=q_d;repeat' (first|refine s_0 ?_|(refine zb 0 ?_;refine zj ?_;intro _;refine zj ?_;intro _;refine zj ?_;intro _;refine zj ?_;intro _)|(refine zM (id:=1) 3 [[],[0],[],[0,1,2],[0,1,2,3],[0,1,2,3,4]] mixed ?_ ?_;kernel_rfl;refine dc (λ_ _=>zf (B:=natC a)) (k:=?_);refine dc (λ_ _=>zd (hc:=λ_ _ _ _=>(h1 _))) (k:=?_);refine dc (λ_ _=>zf (B:=natC b)) (k:=?_);refine zY ?_;refine yv (zd (hc:=λ_ _ _ _=>(h2 _))) (k:=?_);refine yv (zu (hr:=hadd)) (k:=?_);refine yv (zau (hr:=hle)) (k:=?_))|(refine zb 2 ?_;refine yv (zf (B:=natC a)) (k:=?_);refine yv (zf (B:=natC b)) (k:=?_);refine yv (zd (hc:=λ_ _ _ _=>(hmul _))) (k:=?_);refine za ?_;refine zj ?_;intro _;refine yn (zi (n:=p)) (k:=za ?_))|(refine zb 3 ?_;refine yv (zf (B:=natC m)) (k:=?_);refine yv (zf (B:=natC p)) (k:=?_))|(refine ys (za3 (x:=p)) (k:=?_);rintro _ _ ⟨bb,rfl,rfl⟩)|(refine zP ?_;first|(refine ys (zh (f:=243) (hc:=λw' X hk hh=>hr w' _ (zp (hh.has (by exact Has.append Has.here)) Seg.all))) (k:=?_);rintro _ _ ⟨R,rfl,bc,rfl,rfl⟩)|refine yv (zaA (j:=0)) (k:=?_)|refine yv (zf (B:=natC r)) (k:=?_)|refine yn (zi (n:=r)) (k:=?_)|fail)|fail)
 exact ret1 rfl (resCells (B:=natC r) rfl (ty rfl) rfl Has.go Seg.all (ze _).symm) SubR.nil ⟨rfl,rfl⟩
theorem zjO (m a b:Nat) (w:World) (hm:m < 18446744073709551616 ^ 16) (ha:a < m) (hb:b < m) (hs: ¬nd 2 a+nd 2 b<=1024) (hz:(1024 - nd 2 m) / 8=0):
  Sy.Fn Tryz.prog 244 [natV m,natV a,natV b] w No (Gives (natV (a*b % m))):=by
 refine zg Tryz.func244 rfl Tryz.ntmps244 q_p Holds.nil ?_;have hlm:=ze m;have hla:=ze a;have hlb:=ze b;have haW:=Nat.lt_trans ha hm;have hbW:=Nat.lt_trans hb hm;have h1:=λw'=>zbe a w' haW;have h2:=λw'=>zbe b w' hbW;have h3:=λw'=>zbe m w' hm;have hna:=zcR haW;have hnb:=zcR hbW;have hnm:=zcR hm;have h0:0 < m:=q_o;obtain ⟨V,hV⟩: ∃V:Nat->Nat,∀k,V k=k*a % m:=⟨λk=>k*a % m,λ_=>rfl⟩;have hD: ∀k w',Sy.Fn Tryz.prog 293 ([natV m] ++ [natV (V k)] ++ []) w' No (Gives (natV (V (2*k)))):=λk w'=>by
  have:=zmz m (V k) w' hm (by rw [hV];exact Nat.mod_lt _ h0);rw [show (V k+V k) % m=V (2*k) by rw [hV,hV,<-Nat.add_mod,<-Nat.add_mul,Nat.two_mul]] at this;exact this
 have hA: ∀k w',Sy.Fn Tryz.prog 245 ([natV m] ++ [natV (V k),natV a] ++ []) w' No (Gives (natV (V (k+1)))):=λk w'=>by
  have:=zg5 m (V k) a w' hm (by rw [hV];exact Nat.mod_lt _ h0) ha;rw [show (V k+a) % m=V (k+1) by rw [hV,hV,Nat.mod_add_mod,Nat.add_mul,Nat.one_mul]] at this;exact this
 have hlad:=λw'=>zin b a V 293 245 [natV m] [] [natV m] [] w' hbW (en rfl) (en rfl) hD hA;rw [show V 0=0 by rw [hV,Nat.zero_mul,Nat.zero_mod],show V b=a*b % m by rw [hV,Nat.mul_comm]] at hlad;have hlr:=ze (a*b % m);have hl0:=ze 0;clear hD hA hV;generalize a*b % m=r at *;generalize nd 2 a=na at *;generalize nd 2 b=nb at *;generalize nd 2 m=nm at *;have hadd:IntKind.i64.wrap ((na:Int)+(nb:Int))=((na+nb:Nat):Int):=q_w;have hle:decide (((na+nb:Nat):Int)<=1024)=false:=q_f;have hsub:IntKind.i64.wrap (1024 - (nm:Int))=((1024 - nm:Nat):Int):=q_w;have hquo:IntKind.i64.wrap ((((1024 - nm:Nat)):Int).tdiv 8)=((0:Nat):Int):=by
  have:=quoI (p:=1024 - nm) (k:=8) q_o;rw [hz] at this;exact this
 repeat' (first|refine s_0 ?_|(refine zb 0 ?_;refine zj ?_;intro _;refine zj ?_;intro _;refine zj ?_;intro _;refine zj ?_;intro _)|(refine zM (id:=1) 3 [[],[0],[],[0,1,2],[0,1,2,3],[0,1,2,3,4]] mixed ?_ ?_;kernel_rfl;refine dc (λ_ _=>zf (B:=natC a)) (k:=?_);refine dc (λ_ _=>zd (hc:=λ_ _ _ _=>(h1 _))) (k:=?_);refine dc (λ_ _=>zf (B:=natC b)) (k:=?_);refine zY ?_;refine yv (zd (hc:=λ_ _ _ _=>(h2 _))) (k:=?_);refine yv (zu (hr:=hadd)) (k:=?_);refine yv (zau (hr:=hle)) (k:=?_))|(refine zb 4 (za ?_);refine yv (zf (B:=natC m)) (k:=?_);refine yv (zd (hc:=λ_ _ _ _=>(h3 _))) (k:=?_);refine yv (zD (hr:=hsub)) (k:=?_);refine yv (zaz (hr:=hquo)) (k:=za ?_))|(refine zb 5 (za ?_);refine zan ?_)|(refine zb 6 ?_;refine yv (zf (B:=natC b)) (k:=?_);refine yv zbG (k:=?_);refine yv (zf (B:=natC a)) (k:=?_);refine yv (zf (B:=natC m)) (k:=?_);refine zaa ?_;refine yv (zf (B:=natC m)) (k:=?_);refine zaa ?_;refine yv (zd (hc:=λ_ _ _ _=>(hlad _))) (k:=?_);refine yn (zi (n:=r)) (k:=?_)))
 exact ret1 rfl (resCells (B:=natC r) rfl (ty rfl) rfl Has.go Seg.all (ze _).symm) SubR.nil ⟨rfl,rfl⟩
theorem ziI (m a b:Nat) (w:World) (hm:m < 18446744073709551616 ^ 16) (ha:a < m) (hb:b < m) (hs: ¬nd 2 a+nd 2 b<=1024) (hz:(1024 - nd 2 m) / 8≠0):
  Sy.Fn Tryz.prog 244 [natV m,natV a,natV b] w No (Gives (natV (a*b % m))):=by
 refine zg Tryz.func244 rfl Tryz.ntmps244 q_p Holds.nil ?_;have hlm:=ze m;have hla:=ze a;have hlb:=ze b;have haW:=Nat.lt_trans ha hm;have hbW:=Nat.lt_trans hb hm;have h1:=λw'=>zbe a w' haW;have h2:=λw'=>zbe b w' hbW;have h3:=λw'=>zbe m w' hm;have hna:=zcR haW;have hnb:=zcR hbW;have hnm:=zcR hm;have h0:0 < m:=q_o;obtain ⟨z,hzz⟩: ∃z,z=(1024 - nd 2 m) / 8:=⟨_,rfl⟩;rw [<-hzz] at hz;have hz0:0 < z:=q_o;have hz8:nd 2 m+8*z<=1024:=(znf h0 hzz).resolve_right hz;have hz128:z<=128:=q_o;have hRW:256 ^ z < 18446744073709551616 ^ 16:=by
  have:=zfL (x:=1) (y:=256 ^ z) hz8 (by
   rcases Nat.lt_or_ge 1 m with h|h
   ·exact h
   ·exfalso;have e1:a=0:=q_o;have e2:b=0:=q_o;subst e1;subst e2;rw [zaT] at hs;omega) (Nat.le_refl _)
  rwa [Nat.one_mul] at this
 have hrad:=λw' aR cR (h:SlA w' aR ((1::List.replicate z 0:List UInt8).map v8)) (hc:z+1<=cR)=>zbd aR (z+1) cR (1::List.replicate z 0) w' q_p hc h q_o;rw [zh9,if_pos hRW] at hrad;have hquo:IntKind.i64.wrap ((((1024 - nd 2 m:Nat)):Int).tdiv 8)=((z:Nat):Int):=by
  rw [hzz];exact quoI (p:=1024 - nd 2 m) (k:=8) q_o
 generalize hna':nd 2 a=na at *;generalize hnb':nd 2 b=nb at *;have hadd:IntKind.i64.wrap ((na:Int)+(nb:Int))=((na+nb:Nat):Int):=q_w;have hle:decide (((na+nb:Nat):Int)<=1024)=false:=q_f;have hsub:IntKind.i64.wrap (1024 - ((nd 2 m:Nat):Int))=((1024 - nd 2 m:Nat):Int):=q_w;have hne:decide ((z:Int)=0)=false:=q_f;have hys: [Value.int IntKind.u8 1] ++ List.replicate z (Value.int IntKind.u8 0)=(1::List.replicate z 0:List UInt8).map v8:=by
  rw [List.map_cons,List.map_replicate];rfl
 have hlR:=ze (256 ^ z);repeat' (first|refine s_0 ?_|(refine zb 0 ?_;refine zj ?_;intro _;refine zj ?_;intro _;refine zj ?_;intro _;refine zj ?_;intro _)|(refine zM (id:=1) 3 [[],[0],[],[0,1,2],[0,1,2,3],[0,1,2,3,4]] mixed ?_ ?_;kernel_rfl;refine dc (λ_ _=>zf (B:=natC a)) (k:=?_);refine dc (λ_ _=>zd (hc:=λ_ _ _ _=>(h1 _))) (k:=?_);refine dc (λ_ _=>zf (B:=natC b)) (k:=?_);refine zY ?_;refine yv (zd (hc:=λ_ _ _ _=>(h2 _))) (k:=?_);refine yv (zu (hr:=hadd)) (k:=?_);refine yv (zau (hr:=hle)) (k:=?_))|(refine zb 4 (za ?_);refine yv (zf (B:=natC m)) (k:=?_);refine yv (zd (hc:=λ_ _ _ _=>(h3 _))) (k:=?_);refine yv (zD (hr:=hsub)) (k:=?_);refine yv (zaz (hr:=hquo)) (k:=za ?_))|(refine zb 5 (za ?_);refine yv (zX (hr:=hne)) (k:=?_))|(refine zb 7 ?_;(refine ys zt (k:=?_);rintro _ _ ⟨_,rfl,rfl⟩);refine za ?_;(refine ys (OpT.conv (zb7 (n:=1) (s:=1) (by repeat (first|exact Rem.here|apply Rem.there)) rfl (by unfold maxLen;omega)) (zha (k:=1) (m:=z) (km:=z+1) (hm:=rfl) (hL:=Rem.here) (hkm:=(by omega:1+z=z+1)) (hys:=hys))) (k:=?_);rintro _ _ ⟨rfl,aR,cR,rfl⟩);refine yv (zd (f:=181) (hc:=λw' _ _ hh=>hrad w' _ _ (zJ hh q_h) (Row.cap (n:=z+1) hh q_h))) (k:=?_);refine za ?_;refine zj ?_;intro _;refine yn (zi (n:=256 ^ z)) (k:=za ?_)))
 rename_i b3 b4 b5 b6 wx b10;clear hrad h1 h2 h3 hadd hle hsub hquo hys;refine Sy.weaken (fr':=[(3,.pointer (some ⟨b3,0,none⟩)),(4,.pointer (some ⟨b4,0,none⟩)),(5,.pointer (some ⟨b5,0,none⟩)),(6,.pointer (some ⟨b6,0,none⟩)),(9,.int .i64 z),(10,.pointer (some ⟨b10,0,none⟩))])
  (L':=[.blk b3 227 (natC m),.blk b4 133 (natC a),.blk b5 133 (natC b),.blk b6 133 (List.replicate 16 (Value.int IntKind.u64 0)),.blk b10 133 (natC (256 ^ z))]) ?_ q_h q_h
 have hby:=λw'=>zj1 b w' hbW;have hnd:=zao 256 b 128 q_e (by rw [<-zel 256 8 128 q_e q_e];exact hbW);have hbl:=zdO b;have hbev:=zlB b;generalize byt b=D0 at *;generalize nd 256 b=n0 at *;obtain ⟨c,hc⟩:=zrG z n0 hz0;obtain ⟨k0,hk0⟩: ∃k0,k0=(z - n0 % z) % z:=⟨_,rfl⟩;rw [<-hk0] at hc;have hk0z:k0 < z:=by rw [hk0];exact Nat.mod_lt _ hz0
 have q1:(n0:Int).tmod (z:Int)=((n0 % z:Nat):Int):=remI n0 z;have hml:=Nat.mod_lt n0 hz0;have q2:IntKind.i64.wrap ((z:Int) - ((n0 % z:Nat):Int))=((z - n0 % z:Nat):Int):=q_w;have q3:((z - n0 % z:Nat):Int).tmod (z:Int)=((k0:Nat):Int):=by rw [hk0];exact remI _ z
 obtain ⟨D,hD⟩: ∃D,D=List.replicate k0 0 ++ D0:=⟨_,rfl⟩;have hDl:D.length=z*c:=by rw [hD,List.length_append,List.length_replicate,hbl,hc]
 have hDb:bev 256 (bn D)=b:=by rw [hD,zfM,hbev]
 have hys:List.replicate k0 (Value.int IntKind.u8 0) ++ D0.map v8=D.map v8:=by
  rw [hD,List.map_append,List.map_replicate];rfl
 have hzc:z*c < 300:=q_o;have hlen:k0+n0=z*c:=hc;generalize n0 % z=n1 at *;generalize z - n1=n2 at *;repeat' (first|refine s_t ?_|(refine zb 8 ?_;refine yv (zf (B:=natC b)) (k:=?_);(refine ys (zh (f:=294) (hc:=λw' X hk hh=>hby w')) (k:=?_);rintro _ _ ⟨R,rfl,bB,rfl,rfl⟩);refine za ?_)|(refine zb 9 (za ?_);refine yv (zap (hr:=q1)) (k:=?_);refine yv (zD (hr:=q2)) (k:=za ?_);refine yv (zap (hr:=q3)) (k:=?_))|(refine zb 10 ?_;refine zj ?_;intro _)|(refine zb 11 (za ?_))|(refine ys (zcu (n:=k0)) (k:=?_);rintro _ _ ⟨bz,rfl,rfl⟩)|(refine zP ?_;first|(refine ys (zaW (k:=k0) (m:=n0) (hxn:=by rw [List.length_replicate,Nat.mul_one]) (hr:=Rd.of (Reads.blk (C:=D0.map v8) (T:=5) Has.go Seg.all)) (hn:=by rw [List.length_map,hbl,Nat.mul_one]) (hkm:=hlen) (hys:=hys)) (k:=?_);rintro _ _ ⟨rfl,aD,cD,rfl⟩)|refine zx ?_|refine zaH ?_|fail)|fail)
 rename_i b13;have hl0:=ze 0;rw [natC0];refine zy (γ:=Nat) (λj=>[(3,.pointer (some ⟨b3,0,none⟩)),(4,.pointer (some ⟨b4,0,none⟩)),(6,.pointer (some ⟨b6,0,none⟩)),(9,.int .i64 z),(10,.pointer (some ⟨b10,0,none⟩)),(12,.slice aD (z*c) cD),(13,.pointer (some ⟨b13,0,none⟩)),(14,.int .i64 ((z*j:Nat):Int))])
  (λj=>[.blk b13 133 (natC (a*bev 256 (bn (D.take (z*j))) % m)),.row (.slice aD (z*c) cD) 5 1 (z*c) (D.map v8),.blk b3 227 (natC m),.blk b4 133 (natC a),.blk b10 133 (natC (256 ^ z)),.blk b6 133 (natC 0)])
  (λj=>j<=c) (λj=>c - j) 0 (Nat.zero_le _) ?_ ?_ ?_
 ·exact q_h
 ·show SubR [.blk b13 133 (natC (a*bev 256 (bn (D.take 0)) % m)),.row (.slice aD (z*c) cD) 5 1 (z*c) (D.map v8),.blk b3 227 (natC m),.blk b4 133 (natC a),.blk b10 133 (natC (256 ^ z)),.blk b6 133 (natC 0)] _;rw [List.take_zero,show bev 256 (bn [])=0 from rfl,Nat.mul_zero,Nat.zero_mod];exact q_h
 clear hby hys hbl hbev;intro j hj;refine zcA (λw' hh=>(Row.cap (a:=aD) (n:=z*c) (c:=cD) hh Has.go:z*c<=cD)) λhcD=>?_;rcases Nat.lt_or_ge j c with h|h
 ·have hzj:z*j+z<=z*c:=by rw [<-Nat.mul_succ];exact Nat.mul_le_mul_left z h
  have hlt:decide (((z*j:Nat):Int) < ((z*c:Nat):Int))=true:=q_d;have hadd:IntKind.i64.wrap (((z*j:Nat):Int)+(z:Int))=((z*j+z:Nat):Int):=q_w;have hch:=zio D (z*j) z q_o;have hcl:=zox D (z*j) z q_o;have hps:=znO m a (bev 256 (bn (D.take (z*j)))) (256 ^ z) (bev 256 (bn ((D.take (z*j+z)).drop (z*j))));rw [<-hch] at hps;have hcW:bev 256 (bn ((D.take (z*j+z)).drop (z*j))) < 18446744073709551616 ^ 16:=Nat.lt_trans hcl hRW;have hfb:=λw' (hs:SlA w' aD (D.map v8)) (hcap:z*c<=cD)=>zbd (movA aD (z*j) (z*j+z) 1) z z ((D.take (z*j+z)).drop (z*j)) w' (by rw [List.length_drop,List.length_take];omega) (Nat.le_refl _) (by
   rw [List.map_drop,List.map_take];exact (hs.take _).mov (by rw [List.length_take];omega)) q_o
  rw [if_pos hcW] at hfb;have hrm:=Nat.mod_lt (a*bev 256 (bn (D.take (z*j)))) h0;have hf1:=zfL hz8 hrm (Nat.le_refl _);have hf2:=zfL hz8 ha (Nat.le_of_lt hcl);have hM1:=λw'=>zjp (a*bev 256 (bn (D.take (z*j))) % m) (256 ^ z) w' (Nat.lt_trans hrm hm) hRW;have hM2:=λw'=>zjp a (bev 256 (bn ((D.take (z*j+z)).drop (z*j)))) w' haW hcW;rw [if_pos hf1] at hM1;rw [if_pos hf2] at hM2;have hcur:a*bev 256 (bn (D.take (z*(j+1)))) % m=a*bev 256 (bn (D.take (z*j+z))) % m:=by rw [Nat.mul_succ]
  have hzj1:((z*(j+1):Nat):Int)=((z*j+z:Nat):Int):=by rw [Nat.mul_succ]
  rw [<-hps] at hcur;generalize bev 256 (bn ((D.take (z*j+z)).drop (z*j)))=d at *;generalize a*bev 256 (bn (D.take (z*j))) % m=R0 at *;have hres:=λw' b' (hs:w'.rangeAt b' 0 (rowN [R0*256 ^ z,a*d]))=>zfs m (R0*256 ^ z) (a*d) b' w' hm h0 hf1 hf2 hs;have hsum:=λw'=>zg5 m (R0*256 ^ z % m) (a*d % m) w' hm (Nat.mod_lt _ h0) (Nat.mod_lt _ h0);rw [<-hcur] at hsum;have hl1:=ze R0;have hl2:=ze d;have hl3:=ze (R0*256 ^ z);have hl4:=ze (a*d);have hl5:=ze (R0*256 ^ z % m);have hl6:=ze (a*d % m);have hl7:=ze (a*bev 256 (bn (D.take (z*(j+1)))) % m);generalize hnew:a*bev 256 (bn (D.take (z*(j+1)))) % m=R1 at *;clear hcur hf1 hf2 hcW hps hch hcl hrm hDb;generalize R0*256 ^ z % m=r1 at *;generalize a*d % m=r2 at *;generalize R0*256 ^ z=p1 at *;generalize a*d=p2 at *;generalize 256 ^ z=rad at *;repeat' (first|refine s_t ?_|(refine zb 12 (za ?_);refine yv (zn (hr:=hlt)) (k:=?_))|(refine zb 14 (za ?_);refine yv (zu (hr:=hadd)) (k:=za ?_);refine yv (zu (hr:=hadd)) (k:=?_);refine yv (za0 (l:=z*j) (h:=z*j+z) (m:=z*j+z) (n':=z) (c':=z) (hn':=by omega) (hc':=by omega)) (k:=?_);refine yv (zd (f:=181) (hc:=λw' _ _ hh=>hfb w' (zJ hh q_h) (Row.cap (n:=z*c) hh q_h))) (k:=?_);refine za ?_;refine zj ?_;intro _;refine yn (zi (n:=d)) (k:=za ?_)))
  repeat' (first|refine s_0 ?_|(refine zb 15 ?_;refine yv (zf (B:=natC R0)) (k:=?_);refine yv (zf (B:=natC rad)) (k:=?_);refine yv (zd (hc:=λ_ _ _ _=>(hM1 _))) (k:=?_);refine za ?_;refine zj ?_;intro _;refine yn (zi (n:=p1)) (k:=za ?_))|(refine zb 16 ?_;refine yv (zf (B:=natC a)) (k:=?_);refine yv (zf (B:=natC d)) (k:=?_);refine yv (zd (hc:=λ_ _ _ _=>(hM2 _))) (k:=?_);refine za ?_;refine zj ?_;intro _;refine yn (zi (n:=p2)) (k:=za ?_))|(refine zb 17 ?_;refine yv (zf (B:=natC m)) (k:=?_);refine yv (zf (B:=natC p1)) (k:=?_);refine yv (zf (B:=natC p2)) (k:=?_))|(refine zM (id:=18) 7 [[],[],[1],[1,2],[],[4],[4,5],[0,1,2,3,4,5,6],[0,1,2,3,4,5,6,7]] mixed ?_ ?_;kernel_rfl;refine dc (λ_ _=>zf (B:=natC m)) (k:=?_);refine zk ?_;refine dc (λ_ _=>zaA (j:=0)) (k:=?_);refine dc (λ_ _=>zf (B:=natC r1) (hv:=(seg2 r1 r2).1)) (k:=?_);refine zk ?_;refine dc (λ_ _=>zaA (j:=1)) (k:=?_);refine dc (λ_ _=>zf (B:=natC r2) (hv:=(seg2 r1 r2).2)) (k:=?_);refine zY ?_;refine yv (zd (hc:=λ_ _ _ _=>(hsum _))) (k:=?_);refine yn (zi (n:=R1)) (k:=?_))|(refine zb 13 (za ?_);refine yv (zu (hr:=hadd)) (k:=za ?_))|(refine ys (zcK (x:=p1) (x':=p2)) (k:=?_);rintro _ _ ⟨bb,rfl,rfl⟩)|(refine zP ?_;first|(refine ys (zh (f:=243) (hc:=λw' X hk hh=>hres w' _ (zp (hh.has (by exact Has.append Has.here)) Seg.all))) (k:=?_);rintro _ _ ⟨R,rfl,bc,rfl,rfl⟩)|refine zx ?_|fail)|fail)
  refine zq (j+1) ?_ ?_ ?_ ?_
  ·show j+1<=c;omega
  ·show c - (j+1) < c - j;omega
  ·rw [hzj1];exact q_h
  ·show SubR [.blk b13 133 (natC (a*bev 256 (bn (D.take (z*(j+1)))) % m)),.row (.slice aD (z*c) cD) 5 1 (z*c) (D.map v8),.blk b3 227 (natC m),.blk b4 133 (natC a),.blk b10 133 (natC rad),.blk b6 133 (natC 0)] _;rw [hnew];exact q_h
 ·obtain rfl:j=c:=q_o;have hlt:decide (((z*j:Nat):Int) < ((z*j:Nat):Int))=false:=q_f;rw [List.take_of_length_le q_o,hDb];have hlr:=ze (a*b % m);generalize a*b % m=r at *;repeat' (first|refine s_0 ?_|(refine zb 12 (za ?_);refine yv (zn (hr:=hlt)) (k:=?_))|(refine zb 19 ?_;refine yv (zf (B:=natC r)) (k:=?_);refine yn (zi (n:=r)) (k:=?_)))
  exact ret1 rfl (resCells (B:=natC r) rfl (ty rfl) rfl Has.go Seg.all (ze _).symm) SubR.nil ⟨rfl,rfl⟩
theorem zeK (m a b:Nat) (w:World) (hm:m < 18446744073709551616 ^ 16) (ha:a < m) (hb:b < m):
  Sy.Fn Tryz.prog 244 [natV m,natV a,natV b] w No (Gives (natV (a*b % m))):=by
 by_cases h1:nd 2 a+nd 2 b<=1024
 ·exact ziy m a b w hm ha hb h1
 ·by_cases h2:(1024 - nd 2 m) / 8=0
  ·exact zjO m a b w hm ha hb h1 h2
  ·exact ziI m a b w hm ha hb h1 h2
theorem zmO (m a:Nat) (w:World) (hm:m < 18446744073709551616 ^ 16) (ha:a < m):
  Sy.Fn Tryz.prog 300 [natV m,natV a] w No (Gives (natV (a*a % m))):=by
 refine zg Tryz.func300 rfl Tryz.ntmps300 q_p Holds.nil ?_;have hlm:=ze m;have hla:=ze a;have hs:=λw'=>zeK m a a w' hm ha ha;have hls:=ze (a*a % m);generalize a*a % m=s at *;repeat' (first|refine s_0 ?_|(refine zb 0 ?_;refine zj ?_;intro _;refine zj ?_;intro _;refine zj ?_;intro _)|(refine zb 1 ?_;refine yv (zf (B:=natC m)) (k:=?_);refine yv (zf (B:=natC a)) (k:=?_);refine yv (zf (B:=natC a)) (k:=?_);refine yv (zd (hc:=λ_ _ _ _=>(hs _))) (k:=?_);refine yn (zi (n:=s)) (k:=?_)))
 exact ret1 rfl (resCells (B:=natC s) rfl (ty rfl) rfl Has.go Seg.all (ze _).symm) SubR.nil ⟨rfl,rfl⟩
end Go.Proofs.YtdnlngbjpdbffaaGreatDoor
end
