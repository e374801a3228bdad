/- The logic of walks: append(s, make([]T, n)...), which the translation hands over as a number. -/
import Derived.Test.YtcpjfilcilcekaaGreatDoorYJ02
import Derived.Lib.AppendZerosOnto
import Derived.Test.YtcpjfilcilcekaaGreatDoorYJ17
import Derived.Test.YtcpjfilcilcekaaGreatDoorYJ18
import Derived.Test.YtcpjfilcilcekaaGreatDoorYJ11
import Derived.Test.YtcpjfilcilcekaaGreatDoorYJ13
import Derived.Test.YtcpjfilcilcekaaGreatDoorYJ10
set_option linter.all false
section
namespace Go.Sy
open Go
theorem zff (z0:Value) (n:Nat):(Builtin.zeroCells #[z0] n).toList=List.replicate n z0:=by
 unfold Builtin.zeroCells
 apply List.ext_getElem?
 intro i
 simp [List.getElem?_replicate]
 by_cases h:i < n
 ·simp [h,Nat.mod_one]
 ·simp [h]
section
variable {P:Program}
theorem zgS (w:World) {t tn ty e bytes:Nat}{i:TypeInfo}{zv z0:Value}{kq kn:IntKind}(hd:P.underlying t=some (.slice e)) (htn:P.underlying tn=some (.int kn)) (hi:P.info? e=some i) (hz:i.zero=some zv) (hsz:i.size=1) (hby:i.bytes=bytes) (hzc:zv.cells= #[z0]) (hone:z0.oneCell'=true)
  {v:Value}{k m:Nat}{xs:List Value}(hown:w.ownsRow 0 e 1 v k xs) (b1:k+m<=maxLen) (b2:(k+m)*bytes<=140737488355328):
  ∃v' w',(Builtin.append_ #[t,tn] ty #[v,.int kq (m:Int)]).run P w= .ok v' w'/\w'.ownsRow 0 e 1 v' (k+m) (xs ++ List.replicate m z0)/\w.grownBy w' v.ownBlock/\ ∀b,v'.ownBlock=some b->v.ownBlock=some b\/w.heap.size<=b:=by
 subst hby
 have hsmall:k+m<=9223372036854775807:=by simp only [maxLen] at b1;omega
 have hlen:(xs ++ List.replicate m z0).length=(k+m)*1:=by rw [List.length_append,hown.1,List.length_replicate];omega
 have hmb:m*i.bytes<=281474976710656:=by have:m*i.bytes<=(k+m)*i.bytes:=Nat.mul_le_mul_right _ (by omega);omega
 have hw:IntKind.i64.wrap (m:Int)=m:=by rw [IntKind.wrap_i64];omega
 have hneg: ¬((m:Int) < 0):=by omega
 have h48i: ¬(281474976710656 < (m:Int)*(i.bytes:Int)):=by rw [<-Int.natCast_mul];omega
 have grown: ∀(old:Nat),old < k+m-> ∀(row:Option Nat),
   (w.drew.alloc (.cells (xs.toArray ++ Builtin.zeroCells zv.cells m ++ Builtin.zeroCells zv.cells (grownCap w (k+m) old e - (k+m))) e)).ownsRow 0 e 1
    (.slice (some ⟨w.heap.size,0,none⟩) (k+m) (grownCap w (k+m) old e)) (k+m) (xs ++ List.replicate m z0)/\
   w.grownBy (w.drew.alloc (.cells (xs.toArray ++ Builtin.zeroCells zv.cells m ++ Builtin.zeroCells zv.cells (grownCap w (k+m) old e - (k+m))) e)) row:=by
  intro old ho row
  have hge:=grownCap_ge w (k+m) old e
  have hcm:grownCap w (k+m) old e<=maxLen:=grownCap_le_maxLen w (k+m) old e b1
  refine ⟨⟨hlen,.inr ⟨w.heap.size,_,_,rfl,Nat.zero_le _,heap_alloc_new w.drew _,hge,hcm,?_,?_⟩⟩,⟨rfl,rfl,rfl,by simp,λj hj _=>heap_alloc_old w.drew _ hj⟩⟩
  ·simp only [Array.size_append,List.size_toArray,size_zeroCells,hzc,hown.1]
   simp;omega
  ·simp only [Array.toList_append,hzc,zff]
   rw [<-hlen]
   exact List.take_left
 rcases hown.2 with ⟨rfl,rfl⟩|⟨g,cap,cur,rfl,hbg,hg,hnc,hcm,hcs,htake⟩
 ·have hx:xs= []:=List.eq_nil_of_length_eq_zero (by simpa using hown.1)
  subst hx
  by_cases hm:m=0
  ·subst hm
   refine ⟨.slice none 0 0,w,?_,World.ownsRow_nil w 0 e 1,⟨rfl,rfl,rfl,Nat.le_refl _,λ_ _ _=>rfl⟩,λb hb=> .inl hb⟩
   simp [Builtin.append_,run_underlying hd,run_underlying htn,sizeOf,typeInfo,hi,asInt,asIntOf,IntKind.wrap_i64]
  ·have hr:=Lib.run_append_grow_zeros (P:=P) w t tn ty e i zv kq kn hd htn hi hz none 0 0 [] (by simp [Builtin.firstCells]) m (by omega) (by omega) (by omega) (by omega) hmb (growslice_fits (by omega) b2)
   obtain ⟨h1,h2⟩:=grown 0 (by omega) (Value.ownBlock (.slice none 0 0))
   exact ⟨_,_,hr,h1,h2,λb hb=> .inr (by simp [Value.ownBlock] at hb;omega)⟩
 ·by_cases hroom:k+m<=cap
  ·have hfit:k+m<=cur.size:=by rw [hcs];omega
   have hst:=run_storeCells_at P g (k*1) e (List.replicate m z0) 0 cur w hg (by simp;omega) (by intro u hu;rw [List.eq_of_mem_replicate hu];exact hone)
   simp only [Nat.add_zero] at hst
   refine ⟨.slice (some ⟨g,0,none⟩) (k+m) cap,w.setRow g (cur.toList.take (k*1) ++ List.replicate m z0 ++ cur.toList.drop (k*1+(List.replicate m z0).length)).toArray,?_,⟨hlen,.inr ⟨g,cap,_,rfl,hbg,setRow_heap w g cur _ e _ hg,hroom,hcm,?_,?_⟩⟩,⟨rfl,rfl,rfl,by simp,λj _ hj=>setRow_other w g j _ (λe=>hj (by simp [Value.ownBlock,e]))⟩,λb hb=> .inl hb⟩
   ·by_cases hm:m=0
    ·subst hm
     simp only [List.replicate_zero,List.append_nil,List.length_nil,Nat.add_zero,List.take_append_drop] at hst ⊢
     simp [Builtin.append_,run_underlying hd,run_underlying htn,sizeOf,typeInfo,hi,asInt,asIntOf,IntKind.wrap_i64,hnc,hsz,Addr.add_lit]
     have hst':Sem.run P (storeCells { block:=g,off:=k } []) w=Result.ok () (w.setRow g cur):=by simpa using hst
     rw [hst'];rfl
    ·have hz':(Builtin.zeroCells zv.cells m).toList=List.replicate m z0:=by rw [hzc,zff]
     have hns: ¬(m*i.size=0):=by rw [hsz];omega
     simp [Builtin.append_,run_underlying hd,run_underlying htn,sizeOf,typeInfo,zeroValue,hi,hz,asInt,asIntOf,hw,hneg,h48i,hroom,hns,Addr.add_lit,hz',hsz,hm]
     have hst':Sem.run P (storeCells { block:=g,off:=k } (List.replicate m z0)) w=Result.ok () (w.setRow g (List.take k cur.toList ++ (List.replicate m z0 ++ List.drop (k+m) cur.toList)).toArray):=by simpa using hst
     rw [hst'];rfl
   ·simp only [List.size_toArray,List.length_append,List.length_take,List.length_drop,List.length_replicate,Array.length_toList]
    omega
   ·rw [htake,<-hlen]
    exact List.take_left
  ·have holds: ∀j u,xs[j]?=some u->w.cell? ((⟨g,0,none⟩:Addr).add j)=some u:=hown.cells (g:=g) rfl
   have hf:=run_firstCells_some (P:=P) w.drew i.size k ⟨g,0,none⟩ k cap xs (by rw [hsz];exact hown.1) holds
   have hr:=Lib.run_append_grow_zeros (P:=P) w t tn ty e i zv kq kn hd htn hi hz (some ⟨g,0,none⟩) k cap xs hf m (by omega) (by omega) (by omega) (by omega) hmb (growslice_fits (by omega) b2)
   obtain ⟨h1,h2⟩:=grown cap (by omega) (Value.ownBlock (.slice (some ⟨g,0,none⟩) k cap))
   exact ⟨_,_,hr,h1,h2,λb hb=> .inr (by simp [Value.ownBlock] at hb;omega)⟩
end
section
variable {P:Program}{ro:Option Nat}{N:Nat}{w0:World}{M:Nat->Prop}{ds:List Deferred}{g:Nat->Option Value}{L:List Res}{o:Oper}{t tn:TypeId}{y ye:Ty}
theorem zhk {k m e:Nat}{v z0:Value}{kq kn:IntKind}{xs:List Value}{L1:List Res}{xo so:Operand}{l:Int}(hm:l=(m:Int)) (hL:Rem L (.row v e 1 k xs) L1) (ho:o.op= .call { callee:=.builtin .append,args:=#[so,xo],argTypes:=#[t,tn] } :=by exact rfl)
  (hs:ev g so=some v:=by exact rfl) (hx:ev g xo=some (.int kq l):=by exact rfl) (ht:tyOf P t=some y:=by exact ty rfl) (hy:y.desc= .slice e:=by exact rfl) (htn:P.underlying tn=some (.int kn):=by exact tyI rfl rfl) (he:tyOf P e=some ye:=by exact ty rfl) (hsz:ye.size=1:=by exact rfl) (hz:zeroC P e=some [z0]:=by exact zc rfl) (hone:z0.oneCell'=true:=by exact rfl) (b1:k+m<=maxLen:=by first|(unfold maxLen;omega)|fail) (b2:(k+m)*ye.bytes<=140737488355328:=by first|(dsimp only;omega)|omega|fail) {km:Nat}{ys:List Value}(hkm:k+m=km:=by exact rfl) (hys:xs ++ List.replicate m z0=ys:=by exact rfl):
  OpT P ro N w0 M ds o g L (λv' L'=>L'= .row v' e 1 km ys::L1/\ ∃a c,v'= .slice a km c):=by
 subst hkm;subst hys;subst hm
 refine OpT.run (by rw [ho];rfl) λa w X hst=>?_
 obtain ⟨d,i',hd,hi',hs',_⟩:=zF ht
 rw [hy] at hs'
 have:=zam hs';subst this
 obtain ⟨de,ie,hde,hie,_,hez,heb,_⟩:=zF he
 unfold zeroC at hz
 rw [hie] at hz
 simp only [Option.bind_some,Option.map_eq_some_iff] at hz
 obtain ⟨zv,hzv,hze⟩:=hz
 have hp:=hst.perm (hL.append (X:=X)).perm
 have hrow:w.ownsRow 0 e 1 v k xs:=hp.hold.all _ List.mem_cons_self
 have hmine:=λb hb=>hp.hold.mine (.row v e 1 k xs) List.mem_cons_self b hb
 obtain ⟨v',w',hrun,hown,hgr,hnew⟩:=zgS (P:=P) (ty:=o.type) (kq:=kq) w hd htn hie hzv (hez.trans hsz) heb (Array.toList_inj.1 hze) hone hrow b1 b2
 have hkw:Keep (λb=>v.ownBlock=some b) w w':=Keep.grown hgr
 have hkeep:Keep M w0 w':=hst.keep.trans hkw (λb hb=>hmine b hb)
 refine ⟨.value v',v',w',_,?_,.inl rfl,⟨rfl,?_⟩,hkeep,?_⟩
 ·have e1: #[so,xo].map a.eval= #[v,.int kq (m:Int)]:=by simp [hst.agr.eval hs,hst.agr.eval hx]
  simp only [execOp,ho,resolve,invoke,builtin,e1,Sem.run_bind,Sem.run_pure,Result.andThen_ok,hrun]
 ·obtain ⟨_,⟨h2,h3⟩|⟨b,c,cur,hv,_⟩⟩:=hown
  ·exact ⟨none,0,by rw [h2,h3]⟩
  ·exact ⟨_,c,hv⟩
 ·have ht:=hp.hold.tail
  refine Holds.cons (L:=L1 ++ X) (ht.keep hkw (λr hr' b hb hb'=>(List.pairwise_cons.1 hp.hold.apart).1 r hr' b hb' hb)) hown (λr hr' b hb hb'=>?_) (λb hb=>?_)
  ·rcases hnew b hb with h|h
   ·exact (List.pairwise_cons.1 hp.hold.apart).1 r hr' b h hb'
   ·have:=Res.own_lt (ht.all r hr') hb';omega
  ·rcases hnew b hb with h|h
   ·exact hmine b h
   ·exact .inl (Nat.le_trans hst.keep.size h)
end
end Go.Sy
end
section
namespace Go.Nt
open Go Go.Sy
theorem zmX {a b:Nat}(h:nd 2 a+nd 2 b<=1024):a*b < 18446744073709551616 ^ 16:=by
 refine zrc h ?_
 have h1:=zae 2 a (by decide)
 have h2:=zae 2 b (by decide)
 rw [Nat.pow_add]
 exact Nat.mul_lt_mul'' h1 h2
theorem zqU (l m:List UInt8):bn (l ++ m)=bn l ++ bn m:=by unfold bn;rw [List.map_append]
theorem zjb (l:List UInt8):(bn l).length=l.length:=by unfold bn;rw [List.length_map]
theorem zfQ (k:Nat) (l:List UInt8):bev 256 (bn (List.replicate k 0 ++ l))=bev 256 (bn l):=by
 induction k with
 |zero=>rfl
 |succ k ih=>
  rw [<-ih,List.replicate_succ,List.cons_append]
  show 0*256 ^ _+bev 256 (bn (List.replicate k 0 ++ l))=_
  omega
theorem zh5 (z:Nat):bev 256 (bn (1::List.replicate z 0))=256 ^ z:=by
 show 1*256 ^ (bn (List.replicate z 0)).length+bev 256 (bn (List.replicate z 0))=_
 have:=zfQ z []
 rw [List.append_nil] at this
 rw [this,zjb,List.length_replicate,Nat.one_mul];rfl
theorem zid (D:List UInt8) (i z:Nat) (h:i+z<=D.length):bev 256 (bn (D.take (i+z)))=bev 256 (bn (D.take i))*256 ^ z+bev 256 (bn ((D.take (i+z)).drop i)):=by
 have e:D.take (i+z)=D.take i ++ (D.take (i+z)).drop i:=by
  conv=>lhs;rw [<-List.take_append_drop i (D.take (i+z))]
  rw [List.take_take,Nat.min_eq_left (by omega)]
 conv=>lhs;rw [e]
 rw [zqU,ze8,zjb]
 congr 3
 rw [List.length_drop,List.length_take,Nat.min_eq_left h];omega
theorem zo4 (D:List UInt8) (i z:Nat) (h:i+z<=D.length):bev 256 (bn ((D.take (i+z)).drop i)) < 256 ^ z:=by
 have h1:=zco 256 (bn ((D.take (i+z)).drop i)) (zef _)
 rw [zjb,List.length_drop,List.length_take,Nat.min_eq_left h,Nat.add_sub_cancel_left] at h1
 exact h1
theorem zmL (m a X R d:Nat):(a*X % m*R % m+a*d % m) % m=a*(X*R+d) % m:=by
 have h1:Cg m (a*X % m*R % m+a*d % m) (a*X*R+a*d):=((zbG m _).trans ((zbG m (a*X)).mul (Cg.refl m R))).add (zbG m _)
 rw [h1.mod,Nat.mul_add,Nat.mul_assoc]
theorem zl0 {m z:Nat}(h0:0 < m) (hz:z=(1024 - nd 2 m) / 8):nd 2 m+8*z<=1024\/z=0:=by omega
theorem pow256 (z:Nat):256 ^ z=2 ^ (8*z):=by rw [Nat.pow_mul]
theorem zfy {m z x y:Nat}(hz:nd 2 m+8*z<=1024) (hx:x < m) (hy:y<=256 ^ z):x*y < 18446744073709551616 ^ 16:=by
 refine zrc hz ?_
 have h1:=zae 2 m (by decide)
 rw [Nat.pow_add,<-pow256]
 exact Nat.lt_of_lt_of_le (Nat.mul_lt_mul_of_pos_right (Nat.lt_trans hx h1) (Nat.pow_pos (by decide)) |> λh=>Nat.lt_of_le_of_lt (Nat.mul_le_mul_left x hy) h) (Nat.le_refl _)
theorem zqH (z n:Nat) (h:0 < z): ∃c,(z - n % z) % z+n=z*c:=by
 have h1:=Nat.div_add_mod n z
 have h2:=Nat.mod_lt n h
 rcases Nat.eq_zero_or_pos (n % z) with h3|h3
 ·refine ⟨n / z,?_⟩
  rw [h3,Nat.sub_zero,Nat.mod_self,Nat.zero_add];omega
 ·refine ⟨n / z+1,?_⟩
  rw [Nat.mod_eq_of_lt (by omega),Nat.mul_add];omega
end Go.Nt
namespace Go.Proofs.YtcpjfilcilcekaaGreatDoor
open Go Go.Sy Go.Nt Go.RowKit
section
variable {ro:Option Nat}{N:Nat}{w0:World}{M:Nat->Prop}{ds:List Deferred}{g:Nat->Option Value}{L:List Res}{o:Oper}
theorem za8 (ho:o.op= .build 73 #[]:=by exact rfl):OpT Tryz.prog ro N w0 M ds o g L (Det (natV 0) L):=by
 rw [<-natV0]
 exact zcE ho (ty rfl) (.inl ⟨rfl,rfl⟩) (zc rfl)
end
attribute [local irreducible] Sy SyL SyX Sy.Fn callFunc natC rowN
set_option maxRecDepth 10000
theorem ziP (m a b:Nat) (w:World) (hm:m < 18446744073709551616 ^ 16) (ha:a < m) (hb:b < m) (hs:nd 2 a+nd 2 b<=1024):
  Sy.Fn Tryz.prog 153 [natV m,natV a,natV b] w No (Gives (natV (a*b % m))):=by
 refine zk Tryz.func153 rfl Tryz.ntmps153 (by simp) Holds.nil ?_
 have hlm:=ze m
 have hla:=ze a
 have hlb:=ze b
 have haW:=Nat.lt_trans ha hm
 have hbW:=Nat.lt_trans hb hm
 have h1:=λw'=>zbd a w' haW
 have h2:=λw'=>zbd b w' hbW
 have hna:=zcP haW
 have hnb:=zcP hbW
 have hP:=zmX hs
 have hmul:=λw'=>zjc a b w' haW hbW
 rw [if_pos hP] at hmul
 have hr:=λw' b' (h:w'.rangeAt b' 0 (rowN [a*b]))=>zbP m (a*b) b' w' hm (by omega) hP h
 have hlP:=ze (a*b)
 have hlr:=ze (a*b % m)
 generalize a*b % m=r at *
 generalize a*b=p at *
 generalize nd 2 a=na at *
 generalize nd 2 b=nb at *
 have hadd:IntKind.i64.wrap ((na:Int)+(nb:Int))=((na+nb:Nat):Int):=by rw [IntWalk.i64_in _ (by omega)];omega
 have hle:decide (((na+nb:Nat):Int)<=1024)=true:=decide_eq_true (by omega)
 repeat' (first|refine s_0 ?_|(refine za (id:=0) ?_;(refine zi ?_;intro _);(refine zi ?_;intro _);(refine zi ?_;intro _);(refine zi ?_;intro _))|(refine zK (id:=1) 3 [[],[0],[],[0,1,2],[0,1,2,3],[0,1,2,3,4]] mixed ?_ ?_;kernel_rfl;refine dc (λ_ _=>zg (B:=natC a)) (k:=?_);refine dc (λ_ _=>zf (hc:=λ_ _ _ _=>(h1 _))) (k:=?_);refine dc (λ_ _=>zg (B:=natC b)) (k:=?_);refine zU ?_;refine yv (zf (hc:=λ_ _ _ _=>(h2 _))) (k:=?_);refine yv (zL (hr:=hadd)) (k:=?_);refine yv (zcb (hr:=hle)) (k:=?_))|(refine za (id:=2) ?_;refine yv (zg (B:=natC a)) (k:=?_);refine yv (zg (B:=natC b)) (k:=?_);refine yv (zf (hc:=λ_ _ _ _=>(hmul _))) (k:=?_);refine zb ?_;refine zh ?_;refine zh ?_;(refine zi ?_;intro _);refine yn (zl (n:=p)) (k:=?_);refine zd ?_)|(refine za (id:=3) ?_;refine yv (zg (B:=natC m)) (k:=?_);refine yv (zg (B:=natC p)) (k:=?_))|(refine ys (zaO (x:=p)) (k:=?_);rintro _ _ ⟨bb,rfl,rfl⟩)|(refine zC ?_;first|(refine ys (zn (f:=151) (hc:=λw' X hk hh=>hr w' _ (zz (hh.has (by exact Has.append Has.here)) Seg.all))) (k:=?_);rintro _ _ ⟨R,rfl,bc,rfl,rfl⟩)|refine yv (zaR (j:=0)) (k:=?_)|refine yv (zg (B:=natC r)) (k:=?_)|refine yn (zl (n:=r)) (k:=?_)|fail)|fail)
 exact ret1 rfl (resCells (B:=natC r) rfl (ty rfl) rfl Has.go Seg.all (ze _).symm) SubR.nil ⟨rfl,rfl⟩
theorem zjp (m a b:Nat) (w:World) (hm:m < 18446744073709551616 ^ 16) (ha:a < m) (hb:b < m) (hs: ¬nd 2 a+nd 2 b<=1024) (hz:(1024 - nd 2 m) / 8=0):
  Sy.Fn Tryz.prog 153 [natV m,natV a,natV b] w No (Gives (natV (a*b % m))):=by
 refine zk Tryz.func153 rfl Tryz.ntmps153 (by simp) Holds.nil ?_
 have hlm:=ze m
 have hla:=ze a
 have hlb:=ze b
 have haW:=Nat.lt_trans ha hm
 have hbW:=Nat.lt_trans hb hm
 have h1:=λw'=>zbd a w' haW
 have h2:=λw'=>zbd b w' hbW
 have h3:=λw'=>zbd m w' hm
 have hna:=zcP haW
 have hnb:=zcP hbW
 have hnm:=zcP hm
 have h0:0 < m:=by omega
 obtain ⟨V,hV⟩: ∃V:Nat->Nat,∀k,V k=k*a % m:=⟨λk=>k*a % m,λ_=>rfl⟩
 have hD: ∀k w',Sy.Fn Tryz.prog 172 ([natV m] ++ [natV (V k)] ++ []) w' No (Gives (natV (V (2*k)))):=λk w'=>by
  have:=zmY m (V k) w' hm (by rw [hV];exact Nat.mod_lt _ h0)
  rw [show (V k+V k) % m=V (2*k) by rw [hV,hV,<-Nat.add_mod,<-Nat.add_mul,Nat.two_mul]] at this
  exact this
 have hA: ∀k w',Sy.Fn Tryz.prog 154 ([natV m] ++ [natV (V k),natV a] ++ []) w' No (Gives (natV (V (k+1)))):=λk w'=>by
  have:=zg0 m (V k) a w' hm (by rw [hV];exact Nat.mod_lt _ h0) ha
  rw [show (V k+a) % m=V (k+1) by rw [hV,hV,Nat.mod_add_mod,Nat.add_mul,Nat.one_mul]] at this
  exact this
 have hlad:=λw'=>zio b a V 172 154 [natV m] [] [natV m] [] w' hbW (en rfl) (en rfl) hD hA
 rw [show V 0=0 by rw [hV,Nat.zero_mul,Nat.zero_mod],show V b=a*b % m by rw [hV,Nat.mul_comm]] at hlad
 have hlr:=ze (a*b % m)
 have hl0:=ze 0
 clear hD hA hV
 generalize a*b % m=r at *
 generalize nd 2 a=na at *
 generalize nd 2 b=nb at *
 generalize nd 2 m=nm at *
 have hadd:IntKind.i64.wrap ((na:Int)+(nb:Int))=((na+nb:Nat):Int):=by rw [IntWalk.i64_in _ (by omega)];omega
 have hle:decide (((na+nb:Nat):Int)<=1024)=false:=decide_eq_false (by omega)
 have hsub:IntKind.i64.wrap (1024 - (nm:Int))=((1024 - nm:Nat):Int):=by rw [IntWalk.i64_in _ (by omega)];omega
 have hquo:IntKind.i64.wrap ((((1024 - nm:Nat)):Int).tdiv 8)=((0:Nat):Int):=by
  have:=quoI (p:=1024 - nm) (k:=8) (by omega)
  rw [hz] at this
  exact this
 repeat' (first|refine s_0 ?_|(refine za (id:=0) ?_;(refine zi ?_;intro _);(refine zi ?_;intro _);(refine zi ?_;intro _);(refine zi ?_;intro _))|(refine zK (id:=1) 3 [[],[0],[],[0,1,2],[0,1,2,3],[0,1,2,3,4]] mixed ?_ ?_;kernel_rfl;refine dc (λ_ _=>zg (B:=natC a)) (k:=?_);refine dc (λ_ _=>zf (hc:=λ_ _ _ _=>(h1 _))) (k:=?_);refine dc (λ_ _=>zg (B:=natC b)) (k:=?_);refine zU ?_;refine yv (zf (hc:=λ_ _ _ _=>(h2 _))) (k:=?_);refine yv (zL (hr:=hadd)) (k:=?_);refine yv (zcb (hr:=hle)) (k:=?_))|(refine za (id:=4) ?_;refine zm ?_;refine yv (zg (B:=natC m)) (k:=?_);refine yv (zf (hc:=λ_ _ _ _=>(h3 _))) (k:=?_);refine yv (zJ (hr:=hsub)) (k:=?_);refine yv (zaS (hr:=hquo)) (k:=?_);refine zd ?_)|(refine za (id:=5) ?_;refine zb ?_;refine zX ?_)|(refine za (id:=6) ?_;refine yv (zg (B:=natC b)) (k:=?_);refine yv za8 (k:=?_);refine yv (zg (B:=natC a)) (k:=?_);refine yv (zg (B:=natC m)) (k:=?_);refine zW ?_;refine yv (zg (B:=natC m)) (k:=?_);refine zW ?_;refine yv (zf (hc:=λ_ _ _ _=>(hlad _))) (k:=?_);refine yn (zl (n:=r)) (k:=?_))|fail)
 exact ret1 rfl (resCells (B:=natC r) rfl (ty rfl) rfl Has.go Seg.all (ze _).symm) SubR.nil ⟨rfl,rfl⟩
set_option maxHeartbeats 1000000 in
theorem ziF (m a b:Nat) (w:World) (hm:m < 18446744073709551616 ^ 16) (ha:a < m) (hb:b < m) (hs: ¬nd 2 a+nd 2 b<=1024) (hz:(1024 - nd 2 m) / 8≠0):
  Sy.Fn Tryz.prog 153 [natV m,natV a,natV b] w No (Gives (natV (a*b % m))):=by
 refine zk Tryz.func153 rfl Tryz.ntmps153 (by simp) Holds.nil ?_
 have hlm:=ze m
 have hla:=ze a
 have hlb:=ze b
 have haW:=Nat.lt_trans ha hm
 have hbW:=Nat.lt_trans hb hm
 have h1:=λw'=>zbd a w' haW
 have h2:=λw'=>zbd b w' hbW
 have h3:=λw'=>zbd m w' hm
 have hna:=zcP haW
 have hnb:=zcP hbW
 have hnm:=zcP hm
 have h0:0 < m:=by omega
 obtain ⟨z,hzz⟩: ∃z,z=(1024 - nd 2 m) / 8:=⟨_,rfl⟩
 rw [<-hzz] at hz
 have hz0:0 < z:=by omega
 have hz8:nd 2 m+8*z<=1024:=(zl0 h0 hzz).resolve_right hz
 have hz128:z<=128:=by omega
 have hRW:256 ^ z < 18446744073709551616 ^ 16:=by
  have:=zfy (x:=1) (y:=256 ^ z) hz8 (by
   rcases Nat.lt_or_ge 1 m with h|h
   ·exact h
   ·exfalso
    have e1:a=0:=by omega
    have e2:b=0:=by omega
    subst e1;subst e2
    rw [zaY] at hs
    omega) (Nat.le_refl _)
  rwa [Nat.one_mul] at this
 have hrad:=λw' aR cR (h:SlA w' aR ((1::List.replicate z 0:List UInt8).map v8)) (hc:z+1<=cR)=>zbb aR (z+1) cR (1::List.replicate z 0) w' (by simp) hc h (by omega)
 rw [zh5,if_pos hRW] at hrad
 have hquo:IntKind.i64.wrap ((((1024 - nd 2 m:Nat)):Int).tdiv 8)=((z:Nat):Int):=by
  rw [hzz];exact quoI (p:=1024 - nd 2 m) (k:=8) (by omega)
 generalize hna':nd 2 a=na at *
 generalize hnb':nd 2 b=nb at *
 have hadd:IntKind.i64.wrap ((na:Int)+(nb:Int))=((na+nb:Nat):Int):=by rw [IntWalk.i64_in _ (by omega)];omega
 have hle:decide (((na+nb:Nat):Int)<=1024)=false:=decide_eq_false (by omega)
 have hsub:IntKind.i64.wrap (1024 - ((nd 2 m:Nat):Int))=((1024 - nd 2 m:Nat):Int):=by rw [IntWalk.i64_in _ (by omega)];omega
 have hne:decide ((z:Int)=0)=false:=decide_eq_false (by omega)
 have hys: [Value.int IntKind.u8 1] ++ List.replicate z (Value.int IntKind.u8 0)=(1::List.replicate z 0:List UInt8).map v8:=by
  rw [List.map_cons,List.map_replicate];rfl
 have hlR:=ze (256 ^ z)
 repeat' (first|refine s_0 ?_|(refine za (id:=0) ?_;(refine zi ?_;intro _);(refine zi ?_;intro _);(refine zi ?_;intro _);(refine zi ?_;intro _))|(refine zK (id:=1) 3 [[],[0],[],[0,1,2],[0,1,2,3],[0,1,2,3,4]] mixed ?_ ?_;kernel_rfl;refine dc (λ_ _=>zg (B:=natC a)) (k:=?_);refine dc (λ_ _=>zf (hc:=λ_ _ _ _=>(h1 _))) (k:=?_);refine dc (λ_ _=>zg (B:=natC b)) (k:=?_);refine zU ?_;refine yv (zf (hc:=λ_ _ _ _=>(h2 _))) (k:=?_);refine yv (zL (hr:=hadd)) (k:=?_);refine yv (zcb (hr:=hle)) (k:=?_))|(refine za (id:=4) ?_;refine zm ?_;refine yv (zg (B:=natC m)) (k:=?_);refine yv (zf (hc:=λ_ _ _ _=>(h3 _))) (k:=?_);refine yv (zJ (hr:=hsub)) (k:=?_);refine yv (zaS (hr:=hquo)) (k:=?_);refine zd ?_)|(refine za (id:=5) ?_;refine zb ?_;refine yv (z8 (hr:=hne)) (k:=?_))|(refine za (id:=7) ?_;(refine ys zt (k:=?_);rintro _ _ ⟨_,rfl,rfl⟩);refine zb ?_;(refine ys (OpT.conv (zb6 (n:=1) (s:=1) (by repeat (first|exact Rem.here|apply Rem.there)) rfl (by unfold maxLen;omega)) (zhk (k:=1) (m:=z) (km:=z+1) (hm:=rfl) (hL:=Rem.here) (hkm:=(by omega:1+z=z+1)) (hys:=hys))) (k:=?_);rintro _ _ ⟨rfl,aR,cR,rfl⟩);refine yv (zf (f:=117) (hc:=λw' _ _ hh=>hrad w' _ _ (zu hh (by exact Has.append Has.go)) (Row.cap (n:=z+1) hh (by exact Has.append Has.go)))) (k:=?_);refine zb ?_;refine zh ?_;refine zh ?_;(refine zi ?_;intro _);refine yn (zl (n:=256 ^ z)) (k:=?_);refine zd ?_)|fail)
 rename_i b3 b4 b5 b6 wx b10
 clear hrad h1 h2 h3 hadd hle hsub hquo hys
 refine Sy.weaken (fr':=[(3,.pointer (some ⟨b3,0,none⟩)),(4,.pointer (some ⟨b4,0,none⟩)),(5,.pointer (some ⟨b5,0,none⟩)),(6,.pointer (some ⟨b6,0,none⟩)),(9,.int .i64 z),(10,.pointer (some ⟨b10,0,none⟩))])
  (L':=[.blk b3 191 (natC m),.blk b4 73 (natC a),.blk b5 73 (natC b),.blk b6 73 (List.replicate 16 (Value.int IntKind.u64 0)),.blk b10 73 (natC (256 ^ z))]) ?_ (by exact Sub.go) (by exact SubR.go2)
 have hby:=λw'=>zjo b w' hbW
 have hnd:=zak 256 b 128 (by decide) (by rw [<-zez 256 8 128 (by decide) (by decide)];exact hbW)
 have hbl:=zdK b
 have hbev:=zkB b
 generalize byt b=D0 at *
 generalize nd 256 b=n0 at *
 obtain ⟨c,hc⟩:=zqH z n0 hz0
 obtain ⟨k0,hk0⟩: ∃k0,k0=(z - n0 % z) % z:=⟨_,rfl⟩
 rw [<-hk0] at hc
 have hk0z:k0 < z:=by rw [hk0];exact Nat.mod_lt _ hz0
 have q1:(n0:Int).tmod (z:Int)=((n0 % z:Nat):Int):=remI n0 z
 have hml:=Nat.mod_lt n0 hz0
 have q2:IntKind.i64.wrap ((z:Int) - ((n0 % z:Nat):Int))=((z - n0 % z:Nat):Int):=by rw [IntWalk.i64_in _ (by omega)];omega
 have q3:((z - n0 % z:Nat):Int).tmod (z:Int)=((k0:Nat):Int):=by rw [hk0];exact remI _ z
 obtain ⟨D,hD⟩: ∃D,D=List.replicate k0 0 ++ D0:=⟨_,rfl⟩
 have hDl:D.length=z*c:=by rw [hD,List.length_append,List.length_replicate,hbl,hc]
 have hDb:bev 256 (bn D)=b:=by rw [hD,zfQ,hbev]
 have hys:List.replicate k0 (Value.int IntKind.u8 0) ++ D0.map v8=D.map v8:=by
  rw [hD,List.map_append,List.map_replicate];rfl
 have hzc:z*c < 300:=by omega
 have hlen:k0+n0=z*c:=hc
 generalize n0 % z=n1 at *
 generalize z - n1=n2 at *
 repeat' (first|refine s_t ?_|(refine za (id:=8) ?_;refine yv (zg (B:=natC b)) (k:=?_);(refine ys (zn (f:=164) (hc:=λw' X hk hh=>hby w')) (k:=?_);rintro _ _ ⟨R,rfl,bB,rfl,rfl⟩);refine zd ?_)|(refine za (id:=9) ?_;refine zb ?_;refine zb ?_;refine zq ?_;refine zb ?_;refine yv (zau (hr:=q1)) (k:=?_);refine yv (zJ (hr:=q2)) (k:=?_);refine zb ?_;refine yv (zau (hr:=q3)) (k:=?_))|(refine za (id:=10) ?_;(refine zi ?_;intro _))|(refine za (id:=11) ?_;refine zd ?_)|(refine ys (zcd (n:=k0)) (k:=?_);rintro _ _ ⟨bz,rfl,rfl⟩)|(refine zC ?_;first|(refine ys (zba (k:=k0) (m:=n0) (hxn:=by rw [List.length_replicate,Nat.mul_one]) (hr:=Rd.of (Reads.blk (C:=D0.map v8) (T:=5) Has.go Seg.all)) (hn:=by rw [List.length_map,hbl,Nat.mul_one]) (hkm:=hlen) (hys:=hys)) (k:=?_);rintro _ _ ⟨rfl,aD,cD,rfl⟩)|refine zd ?_|refine zb ?_|fail)|fail)
 rename_i b13
 have hl0:=ze 0
 rw [natC0]
 refine zE (γ:=Nat) (λj=>[(3,.pointer (some ⟨b3,0,none⟩)),(4,.pointer (some ⟨b4,0,none⟩)),(6,.pointer (some ⟨b6,0,none⟩)),(9,.int .i64 z),(10,.pointer (some ⟨b10,0,none⟩)),(12,.slice aD (z*c) cD),(13,.pointer (some ⟨b13,0,none⟩)),(14,.int .i64 ((z*j:Nat):Int))])
  (λj=>[.blk b13 73 (natC (a*bev 256 (bn (D.take (z*j))) % m)),.row (.slice aD (z*c) cD) 5 1 (z*c) (D.map v8),.blk b3 191 (natC m),.blk b4 73 (natC a),.blk b10 73 (natC (256 ^ z)),.blk b6 73 (natC 0)])
  (λj=>j<=c) (λj=>c - j) 0 (Nat.zero_le _) ?_ ?_ ?_
 ·exact Sub.go
 ·show SubR [.blk b13 73 (natC (a*bev 256 (bn (D.take 0)) % m)),.row (.slice aD (z*c) cD) 5 1 (z*c) (D.map v8),.blk b3 191 (natC m),.blk b4 73 (natC a),.blk b10 73 (natC (256 ^ z)),.blk b6 73 (natC 0)] _
  rw [List.take_zero,show bev 256 (bn [])=0 from rfl,Nat.mul_zero,Nat.zero_mod]
  exact SubR.go2
 clear hby hys hbl hbev
 intro j hj
 refine zci (λw' hh=>(Row.cap (a:=aD) (n:=z*c) (c:=cD) hh Has.go:z*c<=cD)) λhcD=>?_
 rcases Nat.lt_or_ge j c with h|h
 ·have hzj:z*j+z<=z*c:=by rw [<-Nat.mul_succ];exact Nat.mul_le_mul_left z h
  have hlt:decide (((z*j:Nat):Int) < ((z*c:Nat):Int))=true:=decide_eq_true (by omega)
  have hadd:IntKind.i64.wrap (((z*j:Nat):Int)+(z:Int))=((z*j+z:Nat):Int):=by rw [IntWalk.i64_in _ (by omega)];omega
  have hch:=zid D (z*j) z (by omega)
  have hcl:=zo4 D (z*j) z (by omega)
  have hps:=zmL m a (bev 256 (bn (D.take (z*j)))) (256 ^ z) (bev 256 (bn ((D.take (z*j+z)).drop (z*j))))
  rw [<-hch] at hps
  have hcW:bev 256 (bn ((D.take (z*j+z)).drop (z*j))) < 18446744073709551616 ^ 16:=Nat.lt_trans hcl hRW
  have hfb:=λw' (hs:SlA w' aD (D.map v8)) (hcap:z*c<=cD)=>zbb (movA aD (z*j) (z*j+z) 1) z z ((D.take (z*j+z)).drop (z*j)) w' (by rw [List.length_drop,List.length_take];omega) (Nat.le_refl _) (by
   rw [List.map_drop,List.map_take]
   exact (hs.take _).mov (by rw [List.length_take];omega)) (by omega)
  rw [if_pos hcW] at hfb
  have hrm:=Nat.mod_lt (a*bev 256 (bn (D.take (z*j)))) h0
  have hf1:=zfy hz8 hrm (Nat.le_refl _)
  have hf2:=zfy hz8 ha (Nat.le_of_lt hcl)
  have hM1:=λw'=>zjc (a*bev 256 (bn (D.take (z*j))) % m) (256 ^ z) w' (Nat.lt_trans hrm hm) hRW
  have hM2:=λw'=>zjc a (bev 256 (bn ((D.take (z*j+z)).drop (z*j)))) w' haW hcW
  rw [if_pos hf1] at hM1
  rw [if_pos hf2] at hM2
  have hcur:a*bev 256 (bn (D.take (z*(j+1)))) % m=a*bev 256 (bn (D.take (z*j+z))) % m:=by rw [Nat.mul_succ]
  have hzj1:((z*(j+1):Nat):Int)=((z*j+z:Nat):Int):=by rw [Nat.mul_succ]
  rw [<-hps] at hcur
  generalize bev 256 (bn ((D.take (z*j+z)).drop (z*j)))=d at *
  generalize a*bev 256 (bn (D.take (z*j))) % m=R0 at *
  have hres:=λw' b' (hs:w'.rangeAt b' 0 (rowN [R0*256 ^ z,a*d]))=>zfv m (R0*256 ^ z) (a*d) b' w' hm h0 hf1 hf2 hs
  have hsum:=λw'=>zg0 m (R0*256 ^ z % m) (a*d % m) w' hm (Nat.mod_lt _ h0) (Nat.mod_lt _ h0)
  rw [<-hcur] at hsum
  have hl1:=ze R0
  have hl2:=ze d
  have hl3:=ze (R0*256 ^ z)
  have hl4:=ze (a*d)
  have hl5:=ze (R0*256 ^ z % m)
  have hl6:=ze (a*d % m)
  have hl7:=ze (a*bev 256 (bn (D.take (z*(j+1)))) % m)
  generalize hnew:a*bev 256 (bn (D.take (z*(j+1)))) % m=R1 at *
  clear hcur hf1 hf2 hcW hps hch hcl hrm hDb
  generalize R0*256 ^ z % m=r1 at *
  generalize a*d % m=r2 at *
  generalize R0*256 ^ z=p1 at *
  generalize a*d=p2 at *
  generalize 256 ^ z=rad at *
  repeat' (first|refine s_t ?_|(refine za (id:=12) ?_;refine zb ?_;refine zb ?_;refine zq ?_;refine yv (zP (hr:=hlt)) (k:=?_))|(refine za (id:=14) ?_;refine zb ?_;refine zb ?_;refine zb ?_;refine zb ?_;refine yv (zL (hr:=hadd)) (k:=?_);refine zb ?_;refine zb ?_;refine yv (zL (hr:=hadd)) (k:=?_);refine yv (zbp (l:=z*j) (h:=z*j+z) (m:=z*j+z) (n':=z) (c':=z) (hn':=by omega) (hc':=by omega)) (k:=?_);refine yv (zf (f:=117) (hc:=λw' _ _ hh=>hfb w' (zu hh (by exact Has.append Has.go)) (Row.cap (n:=z*c) hh (by exact Has.append Has.go)))) (k:=?_);refine zb ?_;refine zh ?_;refine zh ?_;(refine zi ?_;intro _);refine yn (zl (n:=d)) (k:=?_);refine zd ?_)|fail)
  repeat' (first|refine s_0 ?_|(refine za (id:=15) ?_;refine yv (zg (B:=natC R0)) (k:=?_);refine yv (zg (B:=natC rad)) (k:=?_);refine yv (zf (hc:=λ_ _ _ _=>(hM1 _))) (k:=?_);refine zb ?_;refine zh ?_;refine zh ?_;(refine zi ?_;intro _);refine yn (zl (n:=p1)) (k:=?_);refine zd ?_)|(refine za (id:=16) ?_;refine yv (zg (B:=natC a)) (k:=?_);refine yv (zg (B:=natC d)) (k:=?_);refine yv (zf (hc:=λ_ _ _ _=>(hM2 _))) (k:=?_);refine zb ?_;refine zh ?_;refine zh ?_;(refine zi ?_;intro _);refine yn (zl (n:=p2)) (k:=?_);refine zd ?_)|(refine za (id:=17) ?_;refine yv (zg (B:=natC m)) (k:=?_);refine yv (zg (B:=natC p1)) (k:=?_);refine yv (zg (B:=natC p2)) (k:=?_))|(refine zK (id:=18) 7 [[],[],[1],[1,2],[],[4],[4,5],[0,1,2,3,4,5,6],[0,1,2,3,4,5,6,7]] mixed ?_ ?_;kernel_rfl;refine dc (λ_ _=>zg (B:=natC m)) (k:=?_);refine zp ?_;refine dc (λ_ _=>zaR (j:=0)) (k:=?_);refine dc (λ_ _=>zg (B:=natC r1) (hv:=(seg2 r1 r2).1)) (k:=?_);refine zp ?_;refine dc (λ_ _=>zaR (j:=1)) (k:=?_);refine dc (λ_ _=>zg (B:=natC r2) (hv:=(seg2 r1 r2).2)) (k:=?_);refine zU ?_;refine yv (zf (hc:=λ_ _ _ _=>(hsum _))) (k:=?_);refine yn (zl (n:=R1)) (k:=?_))|(refine za (id:=13) ?_;refine zb ?_;refine zb ?_;refine yv (zL (hr:=hadd)) (k:=?_);refine zd ?_)|(refine ys (zeX (x:=p1) (x':=p2)) (k:=?_);rintro _ _ ⟨bb,rfl,rfl⟩)|(refine zC ?_;first|(refine ys (zn (f:=151) (hc:=λw' X hk hh=>hres w' _ (zz (hh.has (by exact Has.append Has.here)) Seg.all))) (k:=?_);rintro _ _ ⟨R,rfl,bc,rfl,rfl⟩)|refine zd ?_|fail)|fail)
  refine zy (j+1) ?_ ?_ ?_ ?_
  ·show j+1<=c;omega
  ·show c - (j+1) < c - j;omega
  ·rw [hzj1]
   exact Sub.go
  ·show SubR [.blk b13 73 (natC (a*bev 256 (bn (D.take (z*(j+1)))) % m)),.row (.slice aD (z*c) cD) 5 1 (z*c) (D.map v8),.blk b3 191 (natC m),.blk b4 73 (natC a),.blk b10 73 (natC rad),.blk b6 73 (natC 0)] _
   rw [hnew]
   exact SubR.go2
 ·obtain rfl:j=c:=by omega
  have hlt:decide (((z*j:Nat):Int) < ((z*j:Nat):Int))=false:=decide_eq_false (by omega)
  rw [List.take_of_length_le (by omega),hDb]
  have hlr:=ze (a*b % m)
  generalize a*b % m=r at *
  repeat' (first|refine s_0 ?_|(refine za (id:=12) ?_;refine zb ?_;refine zb ?_;refine zq ?_;refine yv (zP (hr:=hlt)) (k:=?_))|(refine za (id:=19) ?_;refine yv (zg (B:=natC r)) (k:=?_);refine yn (zl (n:=r)) (k:=?_))|fail)
  exact ret1 rfl (resCells (B:=natC r) rfl (ty rfl) rfl Has.go Seg.all (ze _).symm) SubR.nil ⟨rfl,rfl⟩
theorem zdD (m a b:Nat) (w:World) (hm:m < 18446744073709551616 ^ 16) (ha:a < m) (hb:b < m):
  Sy.Fn Tryz.prog 153 [natV m,natV a,natV b] w No (Gives (natV (a*b % m))):=by
 by_cases h1:nd 2 a+nd 2 b<=1024
 ·exact ziP m a b w hm ha hb h1
 ·by_cases h2:(1024 - nd 2 m) / 8=0
  ·exact zjp m a b w hm ha hb h1 h2
  ·exact ziF m a b w hm ha hb h1 h2
theorem zmM (m a:Nat) (w:World) (hm:m < 18446744073709551616 ^ 16) (ha:a < m):
  Sy.Fn Tryz.prog 175 [natV m,natV a] w No (Gives (natV (a*a % m))):=by
 refine zk Tryz.func175 rfl Tryz.ntmps175 (by simp) Holds.nil ?_
 have hlm:=ze m
 have hla:=ze a
 have hs:=λw'=>zdD m a a w' hm ha ha
 have hls:=ze (a*a % m)
 generalize a*a % m=s at *
 repeat' (first|refine s_0 ?_|(refine za (id:=0) ?_;(refine zi ?_;intro _);(refine zi ?_;intro _);(refine zi ?_;intro _))|(refine za (id:=1) ?_;refine yv (zg (B:=natC m)) (k:=?_);refine yv (zg (B:=natC a)) (k:=?_);refine yv (zg (B:=natC a)) (k:=?_);refine yv (zf (hc:=λ_ _ _ _=>(hs _))) (k:=?_);refine yn (zl (n:=s)) (k:=?_))|fail)
 exact ret1 rfl (resCells (B:=natC s) rfl (ty rfl) rfl Has.go Seg.all (ze _).symm) SubR.nil ⟨rfl,rfl⟩
end Go.Proofs.YtcpjfilcilcekaaGreatDoor
end
