/- The logic of walks: slices whose elements have several cells: literals, and made ones. -/
import Derived.Test.YtcpjfilcilcekaaGreatDoorYJ07
import Derived.Test.YtcpjfilcilcekaaGreatDoorYJ15
import Derived.Test.YtcpjfilcilcekaaGreatDoorYJ13
set_option linter.all false
section
namespace Go.Sy
open Go
section
variable {P:Program}{ro:Option Nat}{N:Nat}{w0:World}{M:Nat->Prop}{ds:List Deferred}{o:Oper}{g:Nat->Option Value}{L:List Res}{t:TypeId}{y:Ty}
theorem zh6 (z0:Value) (s n:Nat):madeCells (List.replicate s z0).toArray n=(List.replicate n z0).toArray\/s=0:=by
 rcases Nat.eq_zero_or_pos s with h|h
 ·exact .inr h
 ·left
  unfold madeCells
  apply Array.ext
  ·simp
  ·intro k h1 h2
   have hk:k % s < s:=Nat.mod_lt _ h
   simp [hk]
theorem zeJ {len e:Nat}{parts:Array (Nat×Operand)}{vs C:List Value}{z0:Value}{ye:Ty}(he:tyOf P e=some ye) (hz:zeroC P e=some (List.replicate ye.size z0)) (hf:FillTo (λi=>some (i*ye.size,ye.size)) (List.zip (parts.toList.map (·.1)) vs) (List.replicate (len*ye.size) z0) C)
  (hs:len*ye.size<=16777216) (hpos:0 < len*ye.size) (ho:o.op= .buildSlice t len parts:=by exact rfl) (hv:evs g (parts.toList.map (·.2))=some vs:=by exact rfl) (ht:tyOf P t=some y:=by exact ty rfl) (hy:y.desc= .slice e:=by exact rfl):
  OpT P ro N w0 M ds o g L (λv L'=>∃b,v= .slice (some ⟨b,0,none⟩) len len/\L'= .blk b e C::L):=
 OpT.run (by rw [ho];rfl) λa w X hst=>by
  obtain ⟨d,i',hd,hi',hs',_⟩:=zF ht
  rw [hy] at hs'
  have:=zam hs';subst this
  obtain ⟨de,ie,hde,hie,_,hez,_⟩:=zF he
  obtain ⟨h2,h3⟩:=za9 hst e C
  unfold zeroC at hz
  rw [hie] at hz
  simp only [Option.bind_some,Option.map_eq_some_iff] at hz
  obtain ⟨zv,hzv,hze⟩:=hz
  have hzs:zv.cells=(List.replicate ye.size z0).toArray:=Array.toList_inj.1 (by rw [hze])
  have hp:((parts.map λ(i,x)=>(i,a.eval x)).toList)=List.zip (parts.toList.map (·.1)) vs:=by
   have:=hst.agr.evals hv
   rw [<-this,Array.toList_map,List.map_map]
   generalize parts.toList=l
   induction l with
   |nil=>rfl
   |cons p l ih=>simp only [List.map_cons,List.zip_cons_cons,ih];rfl
  have hm:madeCells zv.cells (len*ie.size)=(List.replicate (len*ye.size) z0).toArray:=by
   rw [hzs,hez]
   rcases zh6 z0 ye.size (len*ye.size) with h|h
   ·exact h
   ·rw [h,Nat.mul_zero] at hpos;omega
  have hrun:=run_buildSlice (P:=P) w t e len (parts.map λ(i,x)=>(i,a.eval x)) C.toArray ie zv hd hie hzv (by rw [hez];omega) (by rw [hez];omega) (by
   rw [hp]
   have h4:=zhQ hf
   have e1:(Array.range (len*ie.size)).map (zv.cells[· % zv.cells.size]!)=(List.replicate (len*ye.size) z0).toArray:=hm
   rw [e1,hez];exact h4)
  refine ⟨_,_,w.alloc (.cells C.toArray e),_,?_,.inl rfl,⟨w.heap.size,rfl,rfl⟩,h2,h3⟩
  simp [execOp,ho,hrun]
theorem zoG {e n:Nat}{lo co:Operand}{k1 k2:IntKind}{z0:Value}{l c:Int}{ye:Ty}(hz:zeroC P e=some (List.replicate ye.size z0)) (he:tyOf P e=some ye) (hb:ye.bytes*n<=281474976710656) (hm:n<=maxLen) (hsz:0 < ye.size) (hln:l=(n:Int):=by exact rfl) (hcn:c=(n:Int):=by exact rfl)
  (ho:o.op= .makeSlice t lo co:=by exact rfl) (hl:ev g lo=some (.int k1 l):=by exact rfl) (hc:ev g co=some (.int k2 c):=by exact rfl) (ht:tyOf P t=some y:=by exact ty rfl) (hy:y.desc= .slice e:=by exact rfl):
  OpT P ro N w0 M ds o g L (λv L'=>∃b,v= .slice (some ⟨b,0,none⟩) n n/\L'= .blk b e (List.replicate (n*ye.size) z0)::L):=
 OpT.run (by rw [ho];rfl) λa w X hst=>by
  obtain ⟨d,i',hd,hi',hs',_⟩:=zF ht
  rw [hy] at hs'
  have:=zam hs';subst this
  obtain ⟨de,ie,hde,hie,_,hez,heb,_⟩:=zF he
  unfold zeroC at hz
  rw [hie] at hz
  simp only [Option.bind_some,Option.map_eq_some_iff] at hz
  obtain ⟨zv,hzv,hze⟩:=hz
  subst hln;subst hcn
  obtain ⟨h2,h3⟩:=za9 hst e (List.replicate (n*ye.size) z0)
  refine ⟨_,_,w.alloc (.cells (List.replicate (n*ye.size) z0).toArray e),_,?_,.inl rfl,⟨w.heap.size,rfl,rfl⟩,h2,h3⟩
  have hm':n<=9223372036854775807:=by unfold maxLen at hm;omega
  have hzs:zv.cells=(List.replicate ye.size z0).toArray:=Array.toList_inj.1 (by rw [hze])
  have hr:=run_make (P:=P) w t e ie zv hd hie hzv k1 k2 n n (by omega) (by omega) (by rw [heb,<-Int.natCast_mul];omega) (by omega)
  simp only [Int.toNat_natCast] at hr
  have e1:madeCells zv.cells (n*ie.size)=(List.replicate (n*ye.size) z0).toArray:=by
   rw [hez,hzs]
   rcases zh6 z0 ye.size (n*ye.size) with h|h
   ·exact h
   ·omega
  rw [e1] at hr
  simp [execOp,ho,hst.agr.eval hl,hst.agr.eval hc,hr]
end
end Go.Sy
end
section
namespace Go.Nt
open Go Go.Sy
def rowN (l:List Nat):List Value:=l.flatMap natC
theorem zgC (l:List Nat):(rowN l).length=l.length*16:=by
 induction l with
 |nil=>rfl
 |cons x l ih=>
  show (natC x ++ rowN l).length=_
  rw [List.length_append,ze,ih,List.length_cons];omega
theorem zju (l m:List Nat):rowN (l ++ m)=rowN l ++ rowN m:=List.flatMap_append
theorem zfq (x:Nat) (l:List Nat):rowN (x::l)=natC x ++ rowN l:=rfl
theorem zk9 {l:List Nat}{i x:Nat}(h:l[i]?=some x):rowN l=rowN (l.take i) ++ natC x ++ rowN (l.drop (i+1))/\(rowN (l.take i)).length=i*16:=by
 obtain ⟨hi,hx⟩:=List.getElem?_eq_some_iff.1 h
 have e:l=l.take i ++ x::l.drop (i+1):=by
  rw [<-hx,List.getElem_cons_drop,List.take_append_drop]
 refine ⟨?_,by rw [zgC,List.length_take];omega⟩
 conv=>lhs;rw [e]
 rw [zju,zfq,List.append_assoc]
theorem zfc {l:List Nat}{i x:Nat}(h:l[i]?=some x):Seg (rowN l) (i*16) (natC x):=by
 obtain ⟨e,hl⟩:=zk9 h
 rw [e,<-hl];exact Seg.mid
theorem zfa {l:List Nat}{i:Nat}(x:Nat) (h:i < l.length):setSeg (rowN l) (i*16) (natC x)=rowN (l.set i x):=by
 obtain ⟨e,hl⟩:=zk9 (List.getElem?_eq_getElem h)
 have e2:l.set i x=l.take i ++ x::l.drop (i+1):=by
  rw [List.set_eq_take_append_cons_drop,if_pos h]
 rw [e2,zju,zfq]
 unfold setSeg
 rw [ze,e,<-hl]
 have t1:(rowN (l.take i) ++ natC l[i] ++ rowN (l.drop (i+1))).take (rowN (l.take i)).length=rowN (l.take i):=by rw [List.append_assoc,List.take_left]
 have t2:(rowN (l.take i) ++ natC l[i] ++ rowN (l.drop (i+1))).drop ((rowN (l.take i)).length+16)=rowN (l.drop (i+1)):=by
  rw [show (rowN (l.take i)).length+16=(rowN (l.take i) ++ natC l[i]).length by rw [List.length_append,ze],List.drop_left]
 rw [t1,t2,List.append_assoc]
theorem ze6 (n:Nat):List.replicate (n*16) (Value.int IntKind.u64 0)=rowN (List.replicate n 0):=by
 induction n with
 |zero=>rfl
 |succ n ih=>
  rw [List.replicate_succ,zfq,<-ih,show (n+1)*16=16+n*16 by omega,<-List.replicate_append_replicate]
  unfold natC;rw [zc4,List.map_replicate];rfl
theorem zn0 (x:Nat):rowN [x]=natC x:=List.append_nil _
end Go.Nt
namespace Go.Proofs.YtcpjfilcilcekaaGreatDoor
open Go Go.Sy Go.Nt Go.RowKit
attribute [local irreducible] Sy SyL SyX Sy.Fn callFunc natC rowN
section
variable {ro:Option Nat}{N:Nat}{w0:World}{M:Nat->Prop}{ds:List Deferred}{g:Nat->Option Value}{L:List Res}{o:Oper}{z z':Operand}
theorem zaO {x:Nat}(ho:o.op= .buildSlice 189 1 #[(0,z)]:=by exact rfl) (hz:ev g z=some (natV x):=by exact rfl):
  OpT Tryz.prog ro N w0 M ds o g L (λv L'=>∃b,v= .slice (some ⟨b,0,none⟩) 1 1/\L'= .blk b 73 (rowN [x])::L):=
 zeJ (parts:=#[(0,z)]) (vs:=[natV x]) (z0:=.int .u64 0) (ty rfl) (zc rfl) (by
  refine .cons (cs:=natC x) rfl rfl (ze x) (Nat.le_of_ble_eq_true rfl) ?_
  have:=zfa (l:=[0]) (i:=0) x (by decide)
  rw [show [0].set 0 x= [x] from rfl] at this
  rw [<-this,show [0]=List.replicate 1 0 from rfl,<-ze6]
  exact .nil) (by decide) (by decide) ho (by simp [evs,hz])
theorem zeX {x x':Nat}(ho:o.op= .buildSlice 189 2 #[(0,z),(1,z')]:=by exact rfl) (hz:ev g z=some (natV x):=by exact rfl) (hz':ev g z'=some (natV x'):=by exact rfl):
  OpT Tryz.prog ro N w0 M ds o g L (λv L'=>∃b,v= .slice (some ⟨b,0,none⟩) 2 2/\L'= .blk b 73 (rowN [x,x'])::L):=
 zeJ (parts:=#[(0,z),(1,z')]) (vs:=[natV x,natV x']) (z0:=.int .u64 0) (ty rfl) (zc rfl) (by
  have h0:=zfa (l:=[0,0]) (i:=0) x (by decide)
  have h1:=zfa (l:=[x,0]) (i:=1) x' (by simp)
  rw [show [0,0].set 0 x= [x,0] from rfl] at h0
  rw [show [x,0].set 1 x'= [x,x'] from rfl] at h1
  refine .cons (cs:=natC x) rfl rfl (ze x) (Nat.le_of_ble_eq_true rfl) ?_
  rw [show List.replicate (2*_) (Value.int IntKind.u64 0)=rowN [0,0] from ze6 2]
  refine .cons (cs:=natC x') rfl rfl (ze x') (by
   show 1*16+16<=(setSeg (rowN [0,0]) (0*16) (natC x)).length
   rw [h0,zgC];simp) ?_
  show FillTo _ _ (setSeg (setSeg (rowN [0,0]) (0*16) (natC x)) (1*16) (natC x')) _
  rw [h0,h1]
  exact .nil) (by decide) (by decide) ho (by simp [evs,hz,hz'])
theorem zoM {n:Nat}{k1 k2:IntKind}{l c:Int}(hn:n<=1000) (hln:l=(n:Int):=by exact rfl) (hcn:c=(n:Int):=by exact rfl) (ho:o.op= .makeSlice 189 z z':=by exact rfl) (hl:ev g z=some (.int k1 l):=by exact rfl) (hc:ev g z'=some (.int k2 c):=by exact rfl):
  OpT Tryz.prog ro N w0 M ds o g L (λv L'=>∃b,v= .slice (some ⟨b,0,none⟩) n n/\L'= .blk b 73 (rowN (List.replicate n 0))::L):=by
 have h:=zoG (P:=Tryz.prog) (ro:=ro) (N:=N) (w0:=w0) (M:=M) (ds:=ds) (o:=o) (g:=g) (L:=L) (t:=189) (e:=73) (n:=n) (lo:=z) (co:=z') (z0:=.int .u64 0) (zc rfl) (ty rfl) (show 128*n<=_ by omega) (by unfold maxLen;omega) (show 0 < 16 by decide) hln hcn ho hl hc (ty rfl) rfl
 rw [<-ze6]
 exact h
theorem zaR {b off n c j:Nat}{k:IntKind}{i:Int}(ho:o.op= .indexAddr 189 z z':=by exact rfl) (hx:ev g z=some (.slice (some ⟨b,off,none⟩) n c):=by exact rfl) (hz:ev g z'=some (.int k i):=by exact rfl) (hi:i=(j:Int):=by exact rfl) (hj:j < n:=by omega):
  OpT Tryz.prog ro N w0 M ds o g L (Det (.pointer (some ⟨b,off+j*16,none⟩)) L):=
 zcf (ye:=_) ho hx hz (ty rfl) rfl (ty rfl) hi hj
end
set_option maxRecDepth 10000
theorem zgs (m n c:Nat) (l:List Nat) (ab ao:Nat) (w:World) (hm:m < 18446744073709551616 ^ 16) (h0:0 < m) (hl:l.length=n) (hn:n<=1000) (hall: ∀x∈l,x < 18446744073709551616 ^ 16) (hs:w.rangeAt ab ao (rowN l)):
  Sy.Fn Tryz.prog 151 [natV m,.slice (some ⟨ab,ao,none⟩) n c] w No (λv R=>∃b,v= .slice (some ⟨b,0,none⟩) n n/\R= [.blk b 73 (rowN (l.map (· % m)))]):=by
 refine zk Tryz.func151 rfl Tryz.ntmps151 (by simp) Holds.nil ?_
 have hlm:=ze m
 repeat' (first|refine s_0 ?_|(refine za (id:=0) ?_;(refine zi ?_;intro _);refine zd ?_)|(refine za (id:=1) ?_;refine zb ?_;refine zq ?_)|fail)
 refine ys (zoM (n:=n) hn) (k:=?_);rintro _ _ ⟨b10,rfl,rfl⟩
 repeat' (first|refine s_t ?_|(refine za (id:=2) ?_;refine zb ?_;refine zq ?_;refine zb ?_)|(refine zC ?_;first|refine zd ?_|fail)|fail)
 rename_i b2
 refine zE (γ:=Nat) (λk=>[(2,.pointer (some ⟨b2,0,none⟩)),(5,.slice (some ⟨b10,0,none⟩) n n),(11,.slice (some ⟨ab,ao,none⟩) n c),(12,.int .i64 n),(13,.int .i64 k)])
  (λk=>[.blk b10 73 (rowN ((l.map (· % m)).take k ++ List.replicate (n - k) 0)),.blk b2 191 (natC m)])
  (λk=>k<=n) (λk=>n - k) 0 (Nat.zero_le _) ?_ ?_ ?_
 ·exact Sub.go
 ·show SubR [.blk b10 73 (rowN (List.replicate n 0)),.blk b2 191 (natC m)] _
  exact SubR.go
 intro k hk
 rcases Nat.lt_or_ge k n with h|h
 ·obtain ⟨x,hx⟩: ∃x,l[k]?=some x:=⟨_,List.getElem?_eq_getElem (by omega)⟩
  have hxW:=hall x (List.mem_of_getElem? hx)
  have hrow:w.rangeAt ab (ao+k*16) (natC x):=λj v hj=>by
   have:=hs (k*16+j) v (zfc hx j v hj)
   rwa [<-Nat.add_assoc] at this
  have hd:=λw'=>zia x m w' hxW hm h0
  have hlx:=ze x
  have hlq:=ze (x / m)
  have hlr:=ze (x % m)
  have hlt:decide ((k:Int) < (n:Int))=true:=decide_eq_true (by omega)
  have hset:=zfa (l:=(l.map (· % m)).take k ++ List.replicate (n - k) 0) (i:=k) (x % m) (by simp;omega)
  rw [ze9 (l.map (· % m)) 0 (x % m) n k (by rw [List.getElem?_map,hx];rfl) h (by simpa using hl)] at hset
  have hlen:=zgC ((l.map (· % m)).take k ++ List.replicate (n - k) 0)
  have hL:((l.map (· % m)).take k ++ List.replicate (n - k) 0).length=n:=by simp;omega
  rw [hL] at hlen
  generalize rowN ((l.map (· % m)).take k ++ List.replicate (n - k) 0)=C at *
  generalize hC':rowN ((l.map (· % m)).take (k+1) ++ List.replicate (n - (k+1)) 0)=C' at *
  generalize x / m=q at *
  generalize x % m=r at *
  repeat' (first|refine s_t ?_|(refine za (id:=3) ?_;refine yv (zP (hr:=hlt)) (k:=?_))|(refine za (id:=4) ?_;refine zb ?_;refine yv (zaR (j:=k)) (k:=?_);refine yv (zaL (B:=natC x) (hv:=hrow)) (k:=?_);(refine zi ?_;intro _);refine zd ?_;refine yn (zl (n:=x)) (k:=?_))|(refine za (id:=5) ?_;refine zb ?_;refine zb ?_;refine yv (zg (B:=natC x)) (k:=?_);refine zm ?_;refine yv (zg (B:=natC m)) (k:=?_);refine yv (zf (hc:=λ_ _ _ _=>(hd _))) (k:=?_);refine zb ?_;refine zh ?_;refine zh ?_;refine zh ?_;refine yv (zaR (j:=k)) (k:=?_);refine yn (zbC (B:=natC r) (hv:=zbX r) (h1:=(ze r).symm)) (k:=?_))|(refine za (id:=6) ?_;refine zY ?_;refine zb ?_)|fail)
  refine zy (k+1) ?_ ?_ ?_ ?_
  ·show k+1<=n;omega
  ·show n - (k+1) < n - k;omega
  ·exact Sub.go
  ·show SubR [.blk b10 73 (rowN ((l.map (· % m)).take (k+1) ++ List.replicate (n - (k+1)) 0)),.blk b2 191 (natC m)] _
   rw [hC',<-hset]
   (repeat' (first|exact SubR.nil|(apply SubR.same;with_reducible (focus ((repeat (first|exact Rem.here|apply Rem.there));done)))|(apply SubR.blk;(focus ((repeat (first|exact Rem.here|apply Rem.there));done)))|(apply SubR.pick;(focus ((repeat (first|exact Rem.here|apply Rem.there));done)))|rfl))
   rw [Nat.zero_add]
 ·obtain rfl:k=n:=by omega
  have hlt:decide ((k:Int) < (k:Int))=false:=decide_eq_false (by omega)
  rw [List.take_of_length_le (by rw [List.length_map];omega),Nat.sub_self,List.replicate_zero,List.append_nil]
  repeat' (first|refine s_0 ?_|(refine za (id:=3) ?_;refine yv (zP (hr:=hlt)) (k:=?_))|(refine za (id:=7) ?_;refine zb ?_;refine zd ?_)|fail)
  exact ret1 rfl (resTmp rfl) (by exact SubR.go) ⟨b10,rfl,rfl⟩
theorem zhA {x y:Nat}(h:y<=x):cmpI x y>=0:=by
 unfold cmpI;rw [if_neg (by omega)];split <;> omega
theorem zbP (m x b:Nat) (w:World) (hm:m < 18446744073709551616 ^ 16) (h0:0 < m) (hx:x < 18446744073709551616 ^ 16) (hs:w.rangeAt b 0 (rowN [x])):
  Sy.Fn Tryz.prog 151 [natV m,.slice (some ⟨b,0,none⟩) 1 1] w No (λv R=>∃b,v= .slice (some ⟨b,0,none⟩) 1 1/\R= [.blk b 73 (natC (x % m))]):=by
 have h:=zgs m 1 1 [x] b 0 w hm h0 rfl (by decide) (λy hy=>by rw [List.mem_singleton.1 hy];exact hx) hs
 rw [show [x].map (· % m)= [x % m] from rfl,zn0] at h
 exact h
theorem zfv (m x y b:Nat) (w:World) (hm:m < 18446744073709551616 ^ 16) (h0:0 < m) (hx:x < 18446744073709551616 ^ 16) (hy:y < 18446744073709551616 ^ 16) (hs:w.rangeAt b 0 (rowN [x,y])):
  Sy.Fn Tryz.prog 151 [natV m,.slice (some ⟨b,0,none⟩) 2 2] w No (λv R=>∃b,v= .slice (some ⟨b,0,none⟩) 2 2/\R= [.blk b 73 (rowN [x % m,y % m])]):=
 zgs m 2 2 [x,y] b 0 w hm h0 rfl (by decide) (λz hz=>by
  rcases List.mem_cons.1 hz with rfl|hz
  ·exact hx
  ·rw [List.mem_singleton.1 hz];exact hy) hs
theorem seg2 (x y:Nat):Seg (rowN [x,y]) (0*16) (natC x)/\Seg (rowN [x,y]) (1*16) (natC y):=⟨zfc rfl,zfc rfl⟩
theorem zmD (m:Nat) (w:World) (hm:m < 18446744073709551616 ^ 16) (h0:0 < m):
  Sy.Fn Tryz.prog 158 [natV m] w No (Gives (natV (1 % m))):=by
 refine zk Tryz.func158 rfl Tryz.ntmps158 (by simp) Holds.nil ?_
 have hlm:=ze m
 have hl1:=ze 1
 have h1:=λw'=>zcL 1 w' (by decide)
 have hW1:1 < 18446744073709551616 ^ 16:=by decide
 have hlr:=ze (1 % m)
 have hr:=λw' b (h:w'.rangeAt b 0 (rowN [1]))=>zbP m 1 b w' hm h0 hW1 h
 generalize 1 % m=r at *
 repeat' (first|refine s_0 ?_|(refine za (id:=0) ?_;(refine zi ?_;intro _);(refine zi ?_;intro _))|(refine za (id:=1) ?_;refine yv (zf (hc:=λ_ _ _ _=>(h1 _))) (k:=?_);refine zb ?_;refine zh ?_;refine zh ?_;(refine zi ?_;intro _);refine yn (zl (n:=1)) (k:=?_);refine zd ?_)|(refine za (id:=2) ?_;refine yv (zg (B:=natC m)) (k:=?_);refine yv (zg (B:=natC 1)) (k:=?_))|(refine ys (zaO (x:=1)) (k:=?_);rintro _ _ ⟨bb,rfl,rfl⟩)|(refine zC ?_;first|(refine ys (zn (f:=151) (hc:=λw' X hk hh=>hr w' _ (zz (hh.has (by exact Has.append Has.here)) Seg.all))) (k:=?_);rintro _ _ ⟨R,rfl,bc,rfl,rfl⟩)|refine yv (zaR (j:=0)) (k:=?_)|refine yv (zg (B:=natC r)) (k:=?_)|refine yn (zl (n:=r)) (k:=?_)|fail)|fail)
 exact ret1 rfl (resCells (B:=natC r) rfl (ty rfl) rfl Has.go Seg.all (ze _).symm) SubR.nil ⟨rfl,rfl⟩
theorem zg0 (m a b:Nat) (w:World) (hm:m < 18446744073709551616 ^ 16) (ha:a < m) (hb:b < m):
  Sy.Fn Tryz.prog 154 [natV m,natV a,natV b] w No (Gives (natV ((a+b) % m))):=by
 refine zk Tryz.func154 rfl Tryz.ntmps154 (by simp) Holds.nil ?_
 have hlm:=ze m
 have hla:=ze a
 have hlb:=ze b
 have haW:=Nat.lt_trans ha hm
 have hbW:=Nat.lt_trans hb hm
 have hz:=λw'=>zbm b w' hbW
 rcases Nat.eq_zero_or_pos b with h|h
 ·subst h
  rw [Nat.add_zero,Nat.mod_eq_of_lt ha]
  repeat' (first|refine s_0 ?_|(refine za (id:=0) ?_;(refine zi ?_;intro _);(refine zi ?_;intro _);(refine zi ?_;intro _);(refine zi ?_;intro _))|(refine za (id:=1) ?_;refine yv (zg (B:=natC 0)) (k:=?_);refine yv (zf (hc:=λ_ _ _ _=>(hz _))) (k:=?_))|(refine za (id:=2) ?_;refine yv (zg (B:=natC a)) (k:=?_);refine yn (zl (n:=a)) (k:=?_))|fail)
  exact ret1 rfl (resCells (B:=natC a) rfl (ty rfl) rfl Has.go Seg.all (ze _).symm) SubR.nil ⟨rfl,rfl⟩
 ·simp only [decide_eq_false (show ¬b=0 by omega)] at hz
  have hs:=λw'=>zhw m b w' hm hbW
  rw [if_pos (Nat.le_of_lt hb)] at hs
  have hoW:m - b < 18446744073709551616 ^ 16:=Nat.lt_of_le_of_lt (Nat.sub_le _ _) hm
  have hc:=λw'=>zcK a (m - b) w' haW hoW
  have hlo:=ze (m - b)
  rcases Nat.lt_or_ge a (m - b) with h1|h1
  ·rw [zeI h1] at hc
   have hd:=λw'=>zmK a b w' haW hbW
   rw [if_pos (Nat.lt_trans (show a+b < m by omega) hm)] at hd
   rw [Nat.mod_eq_of_lt (show a+b < m by omega)]
   have hls:=ze (a+b)
   generalize m - b=o at *
   generalize a+b=s at *
   repeat' (first|refine s_0 ?_|(refine za (id:=0) ?_;(refine zi ?_;intro _);(refine zi ?_;intro _);(refine zi ?_;intro _);(refine zi ?_;intro _))|(refine za (id:=1) ?_;refine yv (zg (B:=natC b)) (k:=?_);refine yv (zf (hc:=λ_ _ _ _=>(hz _))) (k:=?_))|(refine za (id:=3) ?_;refine zm ?_;refine yv (zg (B:=natC m)) (k:=?_);refine yv (zg (B:=natC b)) (k:=?_);refine yv (zf (hc:=λ_ _ _ _=>(hs _))) (k:=?_);refine zb ?_;refine zh ?_;refine zh ?_;(refine zi ?_;intro _);refine yn (zl (n:=o)) (k:=?_);refine zd ?_)|(refine za (id:=4) ?_;refine yv (zg (B:=natC a)) (k:=?_);refine yv (zg (B:=natC o)) (k:=?_);refine yv (zf (hc:=λ_ _ _ _=>(hc _))) (k:=?_);refine zac ?_)|(refine za (id:=7) ?_;refine yv (zg (B:=natC a)) (k:=?_);refine yv (zg (B:=natC b)) (k:=?_);refine yv (zf (hc:=λ_ _ _ _=>(hd _))) (k:=?_);refine zb ?_;refine zh ?_;refine zh ?_;(refine zi ?_;intro _);refine yn (zl (n:=s)) (k:=?_);refine zd ?_)|(refine za (id:=8) ?_;refine yv (zg (B:=natC s)) (k:=?_);refine yn (zl (n:=s)) (k:=?_))|fail)
   exact ret1 rfl (resCells (B:=natC s) rfl (ty rfl) rfl Has.go Seg.all (ze _).symm) SubR.nil ⟨rfl,rfl⟩
  ·have hcmp:decide (cmpI a (m - b)>=0)=true:=decide_eq_true (zhA h1)
   have hd:=λw'=>zhw a (m - b) w' haW hoW
   rw [if_pos h1] at hd
   rw [show a+b=a - (m - b)+m by omega,Nat.add_mod_right,Nat.mod_eq_of_lt (show a - (m - b) < m by omega)]
   have hls:=ze (a - (m - b))
   generalize cmpI a (m - b)=cz at *
   generalize a - (m - b)=s at *
   generalize m - b=o at *
   repeat' (first|refine s_0 ?_|(refine za (id:=0) ?_;(refine zi ?_;intro _);(refine zi ?_;intro _);(refine zi ?_;intro _);(refine zi ?_;intro _))|(refine za (id:=1) ?_;refine yv (zg (B:=natC b)) (k:=?_);refine yv (zf (hc:=λ_ _ _ _=>(hz _))) (k:=?_))|(refine za (id:=3) ?_;refine zm ?_;refine yv (zg (B:=natC m)) (k:=?_);refine yv (zg (B:=natC b)) (k:=?_);refine yv (zf (hc:=λ_ _ _ _=>(hs _))) (k:=?_);refine zb ?_;refine zh ?_;refine zh ?_;(refine zi ?_;intro _);refine yn (zl (n:=o)) (k:=?_);refine zd ?_)|(refine za (id:=4) ?_;refine yv (zg (B:=natC a)) (k:=?_);refine yv (zg (B:=natC o)) (k:=?_);refine yv (zf (hc:=λ_ _ _ _=>(hc _))) (k:=?_);refine yv (zaH (hr:=hcmp)) (k:=?_))|(refine za (id:=5) ?_;refine yv (zg (B:=natC a)) (k:=?_);refine yv (zg (B:=natC o)) (k:=?_);refine yv (zf (hc:=λ_ _ _ _=>(hd _))) (k:=?_);refine zb ?_;refine zh ?_;refine zh ?_;(refine zi ?_;intro _);refine yn (zl (n:=s)) (k:=?_);refine zd ?_)|(refine za (id:=6) ?_;refine yv (zg (B:=natC s)) (k:=?_);refine yn (zl (n:=s)) (k:=?_))|fail)
   exact ret1 rfl (resCells (B:=natC s) rfl (ty rfl) rfl Has.go Seg.all (ze _).symm) SubR.nil ⟨rfl,rfl⟩
theorem ziI (m a b:Nat) (w:World) (hm:m < 18446744073709551616 ^ 16) (ha:a < m) (hb:b < m):
  Sy.Fn Tryz.prog 160 [natV m,natV a,natV b] w No (Gives (natV (dm m a b))):=by
 refine zk Tryz.func160 rfl Tryz.ntmps160 (by simp) Holds.nil ?_
 have hlm:=ze m
 have hla:=ze a
 have hlb:=ze b
 have haW:=Nat.lt_trans ha hm
 have hbW:=Nat.lt_trans hb hm
 have hc:=λw'=>zcK a b w' haW hbW
 rcases Nat.lt_or_ge a b with h1|h1
 ·rw [zeI h1] at hc
  have hs:=λw'=>zhw m b w' hm hbW
  rw [if_pos (Nat.le_of_lt hb)] at hs
  have hoW:m - b < 18446744073709551616 ^ 16:=Nat.lt_of_le_of_lt (Nat.sub_le _ _) hm
  have hlo:=ze (m - b)
  have hd:=λw'=>zmK a (m - b) w' haW hoW
  have hs':a+(m - b) < m:=by omega
  rw [if_pos (Nat.lt_trans hs' hm)] at hd
  have he:dm m a b=a+(m - b):=by unfold dm;rw [Nat.mod_eq_of_lt hb,Nat.mod_eq_of_lt hs']
  rw [he]
  have hls:=ze (a+(m - b))
  generalize a+(m - b)=s at *
  generalize m - b=o at *
  repeat' (first|refine s_0 ?_|(refine za (id:=0) ?_;(refine zi ?_;intro _);(refine zi ?_;intro _);(refine zi ?_;intro _);(refine zi ?_;intro _))|(refine za (id:=1) ?_;refine yv (zg (B:=natC a)) (k:=?_);refine yv (zg (B:=natC b)) (k:=?_);refine yv (zf (hc:=λ_ _ _ _=>(hc _))) (k:=?_);refine zac ?_)|(refine za (id:=4) ?_;refine zm ?_;refine yv (zg (B:=natC m)) (k:=?_);refine yv (zg (B:=natC b)) (k:=?_);refine yv (zf (hc:=λ_ _ _ _=>(hs _))) (k:=?_);refine zb ?_;refine zh ?_;refine zh ?_;(refine zi ?_;intro _);refine yn (zl (n:=o)) (k:=?_);refine zd ?_)|(refine za (id:=5) ?_;refine yv (zg (B:=natC a)) (k:=?_);refine yv (zg (B:=natC o)) (k:=?_);refine yv (zf (hc:=λ_ _ _ _=>(hd _))) (k:=?_);refine zb ?_;refine zh ?_;refine zh ?_;(refine zi ?_;intro _);refine yn (zl (n:=s)) (k:=?_);refine zd ?_)|(refine za (id:=6) ?_;refine yv (zg (B:=natC s)) (k:=?_);refine yn (zl (n:=s)) (k:=?_))|fail)
  exact ret1 rfl (resCells (B:=natC s) rfl (ty rfl) rfl Has.go Seg.all (ze _).symm) SubR.nil ⟨rfl,rfl⟩
 ·have hcmp:decide (cmpI a b>=0)=true:=decide_eq_true (zhA h1)
  have hd:=λw'=>zhw a b w' haW hbW
  rw [if_pos h1] at hd
  have he:dm m a b=a - b:=by
   unfold dm;rw [Nat.mod_eq_of_lt hb,show a+(m - b)=a - b+m by omega,Nat.add_mod_right,Nat.mod_eq_of_lt (by omega)]
  rw [he]
  have hls:=ze (a - b)
  generalize cmpI a b=cz at *
  generalize a - b=s at *
  repeat' (first|refine s_0 ?_|(refine za (id:=0) ?_;(refine zi ?_;intro _);(refine zi ?_;intro _);(refine zi ?_;intro _);(refine zi ?_;intro _))|(refine za (id:=1) ?_;refine yv (zg (B:=natC a)) (k:=?_);refine yv (zg (B:=natC b)) (k:=?_);refine yv (zf (hc:=λ_ _ _ _=>(hc _))) (k:=?_);refine yv (zaH (hr:=hcmp)) (k:=?_))|(refine za (id:=2) ?_;refine yv (zg (B:=natC a)) (k:=?_);refine yv (zg (B:=natC b)) (k:=?_);refine yv (zf (hc:=λ_ _ _ _=>(hd _))) (k:=?_);refine zb ?_;refine zh ?_;refine zh ?_;(refine zi ?_;intro _);refine yn (zl (n:=s)) (k:=?_);refine zd ?_)|(refine za (id:=3) ?_;refine yv (zg (B:=natC s)) (k:=?_);refine yn (zl (n:=s)) (k:=?_))|fail)
  exact ret1 rfl (resCells (B:=natC s) rfl (ty rfl) rfl Has.go Seg.all (ze _).symm) SubR.nil ⟨rfl,rfl⟩
theorem zmY (m a:Nat) (w:World) (hm:m < 18446744073709551616 ^ 16) (ha:a < m):
  Sy.Fn Tryz.prog 172 [natV m,natV a] w No (Gives (natV ((a+a) % m))):=by
 refine zk Tryz.func172 rfl Tryz.ntmps172 (by simp) Holds.nil ?_
 have hlm:=ze m
 have hla:=ze a
 have hs:=λw'=>zg0 m a a w' hm ha ha
 have hls:=ze ((a+a) % m)
 generalize (a+a) % m=s at *
 repeat' (first|refine s_0 ?_|(refine za (id:=0) ?_;(refine zi ?_;intro _);(refine zi ?_;intro _);(refine zi ?_;intro _))|(refine za (id:=1) ?_;refine yv (zg (B:=natC m)) (k:=?_);refine yv (zg (B:=natC a)) (k:=?_);refine yv (zg (B:=natC a)) (k:=?_);refine yv (zf (hc:=λ_ _ _ _=>(hs _))) (k:=?_);refine yn (zl (n:=s)) (k:=?_))|fail)
 exact ret1 rfl (resCells (B:=natC s) rfl (ty rfl) rfl Has.go Seg.all (ze _).symm) SubR.nil ⟨rfl,rfl⟩
end Go.Proofs.YtcpjfilcilcekaaGreatDoor
end
