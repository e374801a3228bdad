/- The logic of walks: slices whose elements have several cells: literals, and made ones. -/
import Derived.Test.YtdnlngbjpdbffaaGreatDoorLJ08
import Derived.Test.YtdnlngbjpdbffaaGreatDoorLJ15
import Derived.Test.YtdnlngbjpdbffaaGreatDoorLJ13
import Derived.Test.YtdnlngbjpdbffaaGreatDoorLJ11
set_option maxHeartbeats 1000000
set_option maxRecDepth 10000
set_option linter.all false
section
namespace Go.Sy
open Go
section
variable {P:Program}{ro:Option Nat}{N:Nat}{w0:World}{M:Nat->Prop}{ds:List Deferred}{o:Oper}{g:Nat->Option Value}{L:List Res}{t:TypeId}{y:Ty}
theorem zis (z0:Value) (s n:Nat):madeCells (List.replicate s z0).toArray n=(List.replicate n z0).toArray\/s=0:=by
 rcases Nat.eq_zero_or_pos s with h|h
 ·exact .inr h
 ·left
  unfold madeCells;apply Array.ext
  ·simp
  ·intro k h1 h2;have hk:k % s < s:=Nat.mod_lt _ h;simp [hk]
theorem zew {len e:Nat}{parts:Array (Nat×Operand)}{vs C:List Value}{z0:Value}{ye:Ty}(he:tyOf P e=some ye) (hz:zeroC P e=some (List.replicate ye.size z0)) (hf:FillTo (λi=>some (i*ye.size,ye.size)) (List.zip (parts.toList.map (·.1)) vs) (List.replicate (len*ye.size) z0) C)
  (hs:len*ye.size<=16777216) (hpos:0 < len*ye.size) (ho:o.op= .buildSlice t len parts:=by exact rfl) (hv:evs g (parts.toList.map (·.2))=some vs:=by exact rfl) (ht:tyOf P t=some y:=by exact ty rfl) (hy:y.desc= .slice e:=by exact rfl):
  OpT P ro N w0 M ds o g L (λv L'=>∃b,v= .slice (some ⟨b,0,none⟩) len len/\L'= .blk b e C::L):=
 OpT.run (by rw [ho];rfl) λa w X hst=>by
  obtain ⟨d,i',hd,hi',hs',_⟩:=zN ht;rw [hy] at hs';have:=zaF hs';subst this;obtain ⟨de,ie,hde,hie,_,hez,_⟩:=zN he;obtain ⟨h2,h3⟩:=zaU hst e C;unfold zeroC at hz;rw [hie] at hz;simp only [Option.bind_some,Option.map_eq_some_iff] at hz;obtain ⟨zv,hzv,hze⟩:=hz;have hzs:zv.cells=(List.replicate ye.size z0).toArray:=Array.toList_inj.1 (by rw [hze]);have hp:((parts.map λ(i,x)=>(i,a.eval x)).toList)=List.zip (parts.toList.map (·.1)) vs:=by
   have:=hst.agr.evals hv;rw [<-this,Array.toList_map,List.map_map];generalize parts.toList=l
   induction l with
   |nil=>rfl
   |cons p l ih=>simp only [List.map_cons,List.zip_cons_cons,ih];rfl
  have hm:madeCells zv.cells (len*ie.size)=(List.replicate (len*ye.size) z0).toArray:=by
   rw [hzs,hez];rcases zis z0 ye.size (len*ye.size) with h|h
   ·exact h
   ·rw [h,Nat.mul_zero] at hpos;omega
  have hrun:=run_buildSlice (P:=P) w t e len (parts.map λ(i,x)=>(i,a.eval x)) C.toArray ie zv hd hie hzv (by rw [hez];omega) (by rw [hez];omega) (by
   rw [hp];have h4:=zfU hf;have e1:(Array.range (len*ie.size)).map (zv.cells[· % zv.cells.size]!)=(List.replicate (len*ye.size) z0).toArray:=hm;rw [e1,hez];exact h4)
  refine ⟨_,_,w.alloc (.cells C.toArray e),_,?_,.inl rfl,⟨w.heap.size,rfl,rfl⟩,h2,h3⟩;simp [execOp,ho,hrun]
theorem zoc {e n:Nat}{lo co:Operand}{k1 k2:IntKind}{z0:Value}{l c:Int}{ye:Ty}(hz:zeroC P e=some (List.replicate ye.size z0)) (he:tyOf P e=some ye) (hb:ye.bytes*n<=281474976710656) (hm:n<=maxLen) (hsz:0 < ye.size) (hln:l=(n:Int):=by exact rfl) (hcn:c=(n:Int):=by exact rfl)
  (ho:o.op= .makeSlice t lo co:=by exact rfl) (hl:ev g lo=some (.int k1 l):=by exact rfl) (hc:ev g co=some (.int k2 c):=by exact rfl) (ht:tyOf P t=some y:=by exact ty rfl) (hy:y.desc= .slice e:=by exact rfl):
  OpT P ro N w0 M ds o g L (λv L'=>∃b,v= .slice (some ⟨b,0,none⟩) n n/\L'= .blk b e (List.replicate (n*ye.size) z0)::L):=
 OpT.run (by rw [ho];rfl) λa w X hst=>by
  obtain ⟨d,i',hd,hi',hs',_⟩:=zN ht;rw [hy] at hs';have:=zaF hs';subst this;obtain ⟨de,ie,hde,hie,_,hez,heb,_⟩:=zN he;unfold zeroC at hz;rw [hie] at hz;simp only [Option.bind_some,Option.map_eq_some_iff] at hz;obtain ⟨zv,hzv,hze⟩:=hz;subst hln;subst hcn;obtain ⟨h2,h3⟩:=zaU hst e (List.replicate (n*ye.size) z0);refine ⟨_,_,w.alloc (.cells (List.replicate (n*ye.size) z0).toArray e),_,?_,.inl rfl,⟨w.heap.size,rfl,rfl⟩,h2,h3⟩;have hm':n<=9223372036854775807:=by unfold maxLen at hm;omega
  have hzs:zv.cells=(List.replicate ye.size z0).toArray:=Array.toList_inj.1 (by rw [hze]);have hr:=run_make (P:=P) w t e ie zv hd hie hzv k1 k2 n n q_o q_o (by rw [heb,<-Int.natCast_mul];omega) q_o;simp only [Int.toNat_natCast] at hr;have e1:madeCells zv.cells (n*ie.size)=(List.replicate (n*ye.size) z0).toArray:=by
   rw [hez,hzs];rcases zis z0 ye.size (n*ye.size) with h|h
   ·exact h
   ·omega
  rw [e1] at hr;simp [execOp,ho,hst.agr.eval hl,hst.agr.eval hc,hr]
end
end Go.Sy
end
section
namespace Go.Nt
open Go Go.Sy
def rowN (l:List Nat):List Value:=l.flatMap natC
theorem zdb (l:List Nat):(rowN l).length=l.length*16:=by
 induction l with
 |nil=>rfl
 |cons x l ih=>
  show (natC x ++ rowN l).length=_;rw [List.length_append,ze,ih,List.length_cons];omega
theorem zgy (l m:List Nat):rowN (l ++ m)=rowN l ++ rowN m:=List.flatMap_append
theorem zd1 (x:Nat) (l:List Nat):rowN (x::l)=natC x ++ rowN l:=rfl
theorem zls {l:List Nat}{i x:Nat}(h:l[i]?=some x):rowN l=rowN (l.take i) ++ natC x ++ rowN (l.drop (i+1))/\(rowN (l.take i)).length=i*16:=by
 obtain ⟨hi,hx⟩:=List.getElem?_eq_some_iff.1 h;have e:l=l.take i ++ x::l.drop (i+1):=by
  rw [<-hx,List.getElem_cons_drop,List.take_append_drop]
 refine ⟨?_,by rw [zdb,List.length_take];omega⟩
 conv=>lhs;rw [e]
 rw [zgy,zd1,List.append_assoc]
theorem zb9 {l:List Nat}{i x:Nat}(h:l[i]?=some x):Seg (rowN l) (i*16) (natC x):=by
 obtain ⟨e,hl⟩:=zls h;rw [e,<-hl];exact Seg.mid
theorem zeL {l:List Nat}{i:Nat}(x:Nat) (h:i < l.length):setSeg (rowN l) (i*16) (natC x)=rowN (l.set i x):=by
 obtain ⟨e,hl⟩:=zls (List.getElem?_eq_getElem h);have e2:l.set i x=l.take i ++ x::l.drop (i+1):=by
  rw [List.set_eq_take_append_cons_drop,if_pos h]
 rw [e2,zgy,zd1];unfold setSeg;rw [ze,e,<-hl];have t1:(rowN (l.take i) ++ natC l[i] ++ rowN (l.drop (i+1))).take (rowN (l.take i)).length=rowN (l.take i):=by rw [List.append_assoc,List.take_left]
 have t2:(rowN (l.take i) ++ natC l[i] ++ rowN (l.drop (i+1))).drop ((rowN (l.take i)).length+16)=rowN (l.drop (i+1)):=by
  rw [show (rowN (l.take i)).length+16=(rowN (l.take i) ++ natC l[i]).length by rw [List.length_append,ze],List.drop_left]
 rw [t1,t2,List.append_assoc]
theorem ze7 (n:Nat):List.replicate (n*16) (Value.int IntKind.u64 0)=rowN (List.replicate n 0):=by
 induction n with
 |zero=>rfl
 |succ n ih=>
  rw [List.replicate_succ,zd1,<-ih,show (n+1)*16=16+n*16 by omega,<-List.replicate_append_replicate];unfold natC;rw [zdF,List.map_replicate];rfl
theorem znZ (x:Nat):rowN [x]=natC x:=List.append_nil _
end Go.Nt
namespace Go.Proofs.YtdnlngbjpdbffaaGreatDoor
open Go Go.Sy Go.Nt Go.RowKit
attribute [local irreducible] Sy SyL SyX Sy.Fn callFunc natC rowN
section
variable {ro:Option Nat}{N:Nat}{w0:World}{M:Nat->Prop}{ds:List Deferred}{g:Nat->Option Value}{L:List Res}{o:Oper}{z z':Operand}
theorem za3 {x:Nat}(ho:o.op= .buildSlice 150 1 #[(0,z)]:=by exact rfl) (hz:ev g z=some (natV x):=by exact rfl):
  OpT Tryz.prog ro N w0 M ds o g L (λv L'=>∃b,v= .slice (some ⟨b,0,none⟩) 1 1/\L'= .blk b 133 (rowN [x])::L):=
 zew (parts:=#[(0,z)]) (vs:=[natV x]) (z0:=.int .u64 0) (ty rfl) (zc rfl) (by
  refine .cons (cs:=natC x) rfl rfl (ze x) (Nat.le_of_ble_eq_true rfl) ?_;have:=zeL (l:=[0]) (i:=0) x q_e;rw [show [0].set 0 x= [x] from rfl] at this;rw [<-this,show [0]=List.replicate 1 0 from rfl,<-ze7];exact .nil) q_e q_e ho (by simp [evs,hz])
theorem zcK {x x':Nat}(ho:o.op= .buildSlice 150 2 #[(0,z),(1,z')]:=by exact rfl) (hz:ev g z=some (natV x):=by exact rfl) (hz':ev g z'=some (natV x'):=by exact rfl):
  OpT Tryz.prog ro N w0 M ds o g L (λv L'=>∃b,v= .slice (some ⟨b,0,none⟩) 2 2/\L'= .blk b 133 (rowN [x,x'])::L):=
 zew (parts:=#[(0,z),(1,z')]) (vs:=[natV x,natV x']) (z0:=.int .u64 0) (ty rfl) (zc rfl) (by
  have h0:=zeL (l:=[0,0]) (i:=0) x q_e;have h1:=zeL (l:=[x,0]) (i:=1) x' q_p;rw [show [0,0].set 0 x= [x,0] from rfl] at h0;rw [show [x,0].set 1 x'= [x,x'] from rfl] at h1;refine .cons (cs:=natC x) rfl rfl (ze x) (Nat.le_of_ble_eq_true rfl) ?_;rw [show List.replicate (2*_) (Value.int IntKind.u64 0)=rowN [0,0] from ze7 2];refine .cons (cs:=natC x') rfl rfl (ze x') (by
   show 1*16+16<=(setSeg (rowN [0,0]) (0*16) (natC x)).length;rw [h0,zdb];simp) ?_
  show FillTo _ _ (setSeg (setSeg (rowN [0,0]) (0*16) (natC x)) (1*16) (natC x')) _;rw [h0,h1];exact .nil) q_e q_e ho (by simp [evs,hz,hz'])
theorem zpm {n:Nat}{k1 k2:IntKind}{l c:Int}(hn:n<=1000) (hln:l=(n:Int):=by exact rfl) (hcn:c=(n:Int):=by exact rfl) (ho:o.op= .makeSlice 150 z z':=by exact rfl) (hl:ev g z=some (.int k1 l):=by exact rfl) (hc:ev g z'=some (.int k2 c):=by exact rfl):
  OpT Tryz.prog ro N w0 M ds o g L (λv L'=>∃b,v= .slice (some ⟨b,0,none⟩) n n/\L'= .blk b 133 (rowN (List.replicate n 0))::L):=by
 have h:=zoc (P:=Tryz.prog) (ro:=ro) (N:=N) (w0:=w0) (M:=M) (ds:=ds) (o:=o) (g:=g) (L:=L) (t:=150) (e:=133) (n:=n) (lo:=z) (co:=z') (z0:=.int .u64 0) (zc rfl) (ty rfl) (show 128*n<=_ by omega) (by unfold maxLen;omega) (show 0 < 16 by decide) hln hcn ho hl hc (ty rfl) rfl;rw [<-ze7];exact h
theorem zaA {b off n c j:Nat}{k:IntKind}{i:Int}(ho:o.op= .indexAddr 150 z z':=by exact rfl) (hx:ev g z=some (.slice (some ⟨b,off,none⟩) n c):=by exact rfl) (hz:ev g z'=some (.int k i):=by exact rfl) (hi:i=(j:Int):=by exact rfl) (hj:j < n:=by omega):
  OpT Tryz.prog ro N w0 M ds o g L (Det (.pointer (some ⟨b,off+j*16,none⟩)) L):=
 zA (ye:=_) ho hx hz (ty rfl) rfl (ty rfl) hi hj
end
theorem zgf (m n c:Nat) (l:List Nat) (ab ao:Nat) (w:World) (hm:m < 18446744073709551616 ^ 16) (h0:0 < m) (hl:l.length=n) (hn:n<=1000) (hall: ∀x∈l,x < 18446744073709551616 ^ 16) (hs:w.rangeAt ab ao (rowN l)):
  Sy.Fn Tryz.prog 243 [natV m,.slice (some ⟨ab,ao,none⟩) n c] w No (λv R=>∃b,v= .slice (some ⟨b,0,none⟩) n n/\R= [.blk b 133 (rowN (l.map (· % m)))]):=by
 refine zg Tryz.func243 rfl Tryz.ntmps243 q_p Holds.nil ?_;have hlm:=ze m;repeat' (first|refine s_0 ?_|(refine zb 0 ?_;refine zO ?_;intro _)|(refine zb 1 (za ?_)))
 refine ys (zpm (n:=n) hn) (k:=?_);rintro _ _ ⟨b10,rfl,rfl⟩;repeat' (first|refine s_t ?_|(refine zb 2 (za ?_))|(refine zP ?_;first|refine zx ?_|fail)|fail)
 rename_i b2;refine zy (γ:=Nat) (λk=>[(2,.pointer (some ⟨b2,0,none⟩)),(5,.slice (some ⟨b10,0,none⟩) n n),(11,.slice (some ⟨ab,ao,none⟩) n c),(12,.int .i64 n),(13,.int .i64 k)])
  (λk=>[.blk b10 133 (rowN ((l.map (· % m)).take k ++ List.replicate (n - k) 0)),.blk b2 227 (natC m)])
  (λk=>k<=n) (λk=>n - k) 0 (Nat.zero_le _) ?_ ?_ ?_
 ·exact q_h
 ·show SubR [.blk b10 133 (rowN (List.replicate n 0)),.blk b2 227 (natC m)] _;exact q_h
 intro k hk;rcases Nat.lt_or_ge k n with h|h
 ·obtain ⟨x,hx⟩: ∃x,l[k]?=some x:=⟨_,List.getElem?_eq_getElem q_o⟩;have hxW:=hall x (List.mem_of_getElem? hx);have hrow:w.rangeAt ab (ao+k*16) (natC x):=λj v hj=>by
   have:=hs (k*16+j) v (zb9 hx j v hj);rwa [<-Nat.add_assoc] at this
  have hd:=λw'=>zmo x m w' hxW hm h0;have hlx:=ze x;have hlq:=ze (x / m);have hlr:=ze (x % m);have hlt:decide ((k:Int) < (n:Int))=true:=q_d;have hset:=zeL (l:=(l.map (· % m)).take k ++ List.replicate (n - k) 0) (i:=k) (x % m) (by simp;omega);rw [ze4 (l.map (· % m)) 0 (x % m) n k (by rw [List.getElem?_map,hx];rfl) h (by simpa using hl)] at hset;have hlen:=zdb ((l.map (· % m)).take k ++ List.replicate (n - k) 0);have hL:((l.map (· % m)).take k ++ List.replicate (n - k) 0).length=n:=by simp;omega
  rw [hL] at hlen;generalize rowN ((l.map (· % m)).take k ++ List.replicate (n - k) 0)=C at *;generalize hC':rowN ((l.map (· % m)).take (k+1) ++ List.replicate (n - (k+1)) 0)=C' at *;generalize x / m=q at *;generalize x % m=r at *;repeat' (first|refine s_t ?_|(refine zb 3 ?_;refine yv (zn (hr:=hlt)) (k:=?_))|(refine zb 4 (za ?_);refine yv (zaA (j:=k)) (k:=?_);refine yv (zz (B:=natC x) (hv:=hrow)) (k:=?_);refine zO ?_;intro _;refine yn (zi (n:=x)) (k:=?_))|(refine zb 5 (za ?_);refine yv (zf (B:=natC x)) (k:=za ?_);refine yv (zf (B:=natC m)) (k:=?_);refine yv (zd (hc:=λ_ _ _ _=>(hd _))) (k:=?_);refine za ?_;refine yv (zaA (j:=k)) (k:=?_);refine yn (zcC (B:=natC r) (hv:=zcY r) (h1:=(ze r).symm)) (k:=?_))|(refine zb 6 ?_;refine zaj ?_;refine za ?_))
  refine zq (k+1) ?_ ?_ ?_ ?_
  ·show k+1<=n;omega
  ·show n - (k+1) < n - k;omega
  ·exact q_h
  ·show SubR [.blk b10 133 (rowN ((l.map (· % m)).take (k+1) ++ List.replicate (n - (k+1)) 0)),.blk b2 227 (natC m)] _;rw [hC',<-hset]
   (repeat' (first|exact SubR.nil|(apply SubR.same;with_reducible (focus ((repeat (first|exact Rem.here|apply Rem.there));done)))|(apply SubR.blk;(focus ((repeat (first|exact Rem.here|apply Rem.there));done)))|(apply SubR.pick;(focus ((repeat (first|exact Rem.here|apply Rem.there));done)))|rfl))
   rw [Nat.zero_add]
 ·obtain rfl:k=n:=q_o;have hlt:decide ((k:Int) < (k:Int))=false:=q_f;rw [List.take_of_length_le (by rw [List.length_map];omega),Nat.sub_self,List.replicate_zero,List.append_nil];repeat' (first|refine s_0 ?_|(refine zb 3 ?_;refine yv (zn (hr:=hlt)) (k:=?_))|(refine zb 7 (za ?_)))
  exact ret1 rfl (resTmp rfl) q_h ⟨b10,rfl,rfl⟩
theorem zhF {x y:Nat}(h:y<=x):cmpI x y>=0:=by
 unfold cmpI;rw [if_neg q_o];split <;> omega
theorem zcP (m x b:Nat) (w:World) (hm:m < 18446744073709551616 ^ 16) (h0:0 < m) (hx:x < 18446744073709551616 ^ 16) (hs:w.rangeAt b 0 (rowN [x])):
  Sy.Fn Tryz.prog 243 [natV m,.slice (some ⟨b,0,none⟩) 1 1] w No (λv R=>∃b,v= .slice (some ⟨b,0,none⟩) 1 1/\R= [.blk b 133 (natC (x % m))]):=by
 have h:=zgf m 1 1 [x] b 0 w hm h0 rfl q_e (λy hy=>by rw [List.mem_singleton.1 hy];exact hx) hs;rw [show [x].map (· % m)= [x % m] from rfl,znZ] at h;exact h
theorem zfs (m x y b:Nat) (w:World) (hm:m < 18446744073709551616 ^ 16) (h0:0 < m) (hx:x < 18446744073709551616 ^ 16) (hy:y < 18446744073709551616 ^ 16) (hs:w.rangeAt b 0 (rowN [x,y])):
  Sy.Fn Tryz.prog 243 [natV m,.slice (some ⟨b,0,none⟩) 2 2] w No (λv R=>∃b,v= .slice (some ⟨b,0,none⟩) 2 2/\R= [.blk b 133 (rowN [x % m,y % m])]):=
 zgf m 2 2 [x,y] b 0 w hm h0 rfl q_e (λz hz=>by
  rcases List.mem_cons.1 hz with rfl|hz
  ·exact hx
  ·rw [List.mem_singleton.1 hz];exact hy) hs
theorem seg2 (x y:Nat):Seg (rowN [x,y]) (0*16) (natC x)/\Seg (rowN [x,y]) (1*16) (natC y):=⟨zb9 rfl,zb9 rfl⟩
theorem zrJ (m:Nat) (w:World) (hm:m < 18446744073709551616 ^ 16) (h0:0 < m):
  Sy.Fn Tryz.prog 299 [natV m] w No (Gives (natV (1 % m))):=by
 refine zg Tryz.func299 rfl Tryz.ntmps299 q_p Holds.nil ?_;have hlm:=ze m;have hl1:=ze 1;have h1:=λw'=>zeJ 1 w' q_e;have hW1:1 < 18446744073709551616 ^ 16:=by decide
 have hlr:=ze (1 % m);have hr:=λw' b (h:w'.rangeAt b 0 (rowN [1]))=>zcP m 1 b w' hm h0 hW1 h;generalize 1 % m=r at *;repeat' (first|refine s_0 ?_|(refine zb 0 ?_;refine zj ?_;intro _;refine zj ?_;intro _)|(refine zb 1 ?_;refine yv (zd (hc:=λ_ _ _ _=>(h1 _))) (k:=?_);refine za ?_;refine zj ?_;intro _;refine yn (zi (n:=1)) (k:=za ?_))|(refine zb 2 ?_;refine yv (zf (B:=natC m)) (k:=?_);refine yv (zf (B:=natC 1)) (k:=?_))|(refine ys (za3 (x:=1)) (k:=?_);rintro _ _ ⟨bb,rfl,rfl⟩)|(refine zP ?_;first|(refine ys (zh (f:=243) (hc:=λw' X hk hh=>hr w' _ (zp (hh.has (by exact Has.append Has.here)) Seg.all))) (k:=?_);rintro _ _ ⟨R,rfl,bc,rfl,rfl⟩)|refine yv (zaA (j:=0)) (k:=?_)|refine yv (zf (B:=natC r)) (k:=?_)|refine yn (zi (n:=r)) (k:=?_)|fail)|fail)
 exact ret1 rfl (resCells (B:=natC r) rfl (ty rfl) rfl Has.go Seg.all (ze _).symm) SubR.nil ⟨rfl,rfl⟩
theorem zg5 (m a b:Nat) (w:World) (hm:m < 18446744073709551616 ^ 16) (ha:a < m) (hb:b < m):
  Sy.Fn Tryz.prog 245 [natV m,natV a,natV b] w No (Gives (natV ((a+b) % m))):=by
 refine zg Tryz.func245 rfl Tryz.ntmps245 q_p Holds.nil ?_;have hlm:=ze m;have hla:=ze a;have hlb:=ze b;have haW:=Nat.lt_trans ha hm;have hbW:=Nat.lt_trans hb hm;have hz:=λw'=>zbP b w' hbW;rcases Nat.eq_zero_or_pos b with h|h
 ·subst h;rw [Nat.add_zero,Nat.mod_eq_of_lt ha];repeat' (first|refine s_0 ?_|(refine zb 0 ?_;refine zj ?_;intro _;refine zj ?_;intro _;refine zj ?_;intro _;refine zj ?_;intro _)|(refine zb 1 ?_;refine yv (zf (B:=natC 0)) (k:=?_);refine yv (zd (hc:=λ_ _ _ _=>(hz _))) (k:=?_))|(refine zb 2 ?_;refine yv (zf (B:=natC a)) (k:=?_);refine yn (zi (n:=a)) (k:=?_)))
  exact ret1 rfl (resCells (B:=natC a) rfl (ty rfl) rfl Has.go Seg.all (ze _).symm) SubR.nil ⟨rfl,rfl⟩
 ·simp only [decide_eq_false (show ¬b=0 by omega)] at hz;have hs:=λw'=>zhj m b w' hm hbW;rw [if_pos (Nat.le_of_lt hb)] at hs;have hoW:m - b < 18446744073709551616 ^ 16:=Nat.lt_of_le_of_lt (Nat.sub_le _ _) hm;have hc:=λw'=>zbR a (m - b) w' haW hoW;have hlo:=ze (m - b);rcases Nat.lt_or_ge a (m - b) with h1|h1
  ·rw [zeH h1] at hc;have hd:=λw'=>znF a b w' haW hbW;rw [if_pos (Nat.lt_trans (show a+b < m by omega) hm)] at hd;rw [Nat.mod_eq_of_lt (show a+b < m by omega)];have hls:=ze (a+b);generalize m - b=o at *;generalize a+b=s at *;repeat' (first|refine s_0 ?_|(refine zb 0 ?_;refine zj ?_;intro _;refine zj ?_;intro _;refine zj ?_;intro _;refine zj ?_;intro _)|(refine zb 1 ?_;refine yv (zf (B:=natC b)) (k:=?_);refine yv (zd (hc:=λ_ _ _ _=>(hz _))) (k:=?_))|(refine zb 3 (za ?_);refine yv (zf (B:=natC m)) (k:=?_);refine yv (zf (B:=natC b)) (k:=?_);refine yv (zd (hc:=λ_ _ _ _=>(hs _))) (k:=?_);refine za ?_;refine zj ?_;intro _;refine yn (zi (n:=o)) (k:=za ?_))|(refine zb 4 ?_;refine yv (zf (B:=natC a)) (k:=?_);refine yv (zf (B:=natC o)) (k:=?_);refine yv (zd (hc:=λ_ _ _ _=>(hc _))) (k:=?_);refine zad ?_)|(refine zb 7 ?_;refine yv (zf (B:=natC a)) (k:=?_);refine yv (zf (B:=natC b)) (k:=?_);refine yv (zd (hc:=λ_ _ _ _=>(hd _))) (k:=?_);refine za ?_;refine zj ?_;intro _;refine yn (zi (n:=s)) (k:=za ?_))|(refine zb 8 ?_;refine yv (zf (B:=natC s)) (k:=?_);refine yn (zi (n:=s)) (k:=?_)))
   exact ret1 rfl (resCells (B:=natC s) rfl (ty rfl) rfl Has.go Seg.all (ze _).symm) SubR.nil ⟨rfl,rfl⟩
  ·have hcmp:decide (cmpI a (m - b)>=0)=true:=decide_eq_true (zhF h1);have hd:=λw'=>zhj a (m - b) w' haW hoW;rw [if_pos h1] at hd;rw [show a+b=a - (m - b)+m by omega,Nat.add_mod_right,Nat.mod_eq_of_lt (show a - (m - b) < m by omega)];have hls:=ze (a - (m - b));generalize cmpI a (m - b)=cz at *;generalize a - (m - b)=s at *;generalize m - b=o at *;repeat' (first|refine s_0 ?_|(refine zb 0 ?_;refine zj ?_;intro _;refine zj ?_;intro _;refine zj ?_;intro _;refine zj ?_;intro _)|(refine zb 1 ?_;refine yv (zf (B:=natC b)) (k:=?_);refine yv (zd (hc:=λ_ _ _ _=>(hz _))) (k:=?_))|(refine zb 3 (za ?_);refine yv (zf (B:=natC m)) (k:=?_);refine yv (zf (B:=natC b)) (k:=?_);refine yv (zd (hc:=λ_ _ _ _=>(hs _))) (k:=?_);refine za ?_;refine zj ?_;intro _;refine yn (zi (n:=o)) (k:=za ?_))|(refine zb 4 ?_;refine yv (zf (B:=natC a)) (k:=?_);refine yv (zf (B:=natC o)) (k:=?_);refine yv (zd (hc:=λ_ _ _ _=>(hc _))) (k:=?_);refine yv (zab (hr:=hcmp)) (k:=?_))|(refine zb 5 ?_;refine yv (zf (B:=natC a)) (k:=?_);refine yv (zf (B:=natC o)) (k:=?_);refine yv (zd (hc:=λ_ _ _ _=>(hd _))) (k:=?_);refine za ?_;refine zj ?_;intro _;refine yn (zi (n:=s)) (k:=za ?_))|(refine zb 6 ?_;refine yv (zf (B:=natC s)) (k:=?_);refine yn (zi (n:=s)) (k:=?_)))
   exact ret1 rfl (resCells (B:=natC s) rfl (ty rfl) rfl Has.go Seg.all (ze _).symm) SubR.nil ⟨rfl,rfl⟩
theorem ziv (m a b:Nat) (w:World) (hm:m < 18446744073709551616 ^ 16) (ha:a < m) (hb:b < m):
  Sy.Fn Tryz.prog 215 [natV m,natV a,natV b] w No (Gives (natV (dm m a b))):=by
 refine zg Tryz.func215 rfl Tryz.ntmps215 q_p Holds.nil ?_;have hlm:=ze m;have hla:=ze a;have hlb:=ze b;have haW:=Nat.lt_trans ha hm;have hbW:=Nat.lt_trans hb hm;have hc:=λw'=>zbR a b w' haW hbW;rcases Nat.lt_or_ge a b with h1|h1
 ·rw [zeH h1] at hc;have hs:=λw'=>zhj m b w' hm hbW;rw [if_pos (Nat.le_of_lt hb)] at hs;have hoW:m - b < 18446744073709551616 ^ 16:=Nat.lt_of_le_of_lt (Nat.sub_le _ _) hm;have hlo:=ze (m - b);have hd:=λw'=>znF a (m - b) w' haW hoW;have hs':a+(m - b) < m:=q_o;rw [if_pos (Nat.lt_trans hs' hm)] at hd;have he:dm m a b=a+(m - b):=by unfold dm;rw [Nat.mod_eq_of_lt hb,Nat.mod_eq_of_lt hs']
  rw [he];have hls:=ze (a+(m - b));generalize a+(m - b)=s at *;generalize m - b=o at *;repeat' (first|refine s_0 ?_|(refine zb 0 ?_;refine zj ?_;intro _;refine zj ?_;intro _;refine zj ?_;intro _;refine zj ?_;intro _)|(refine zb 1 ?_;refine yv (zf (B:=natC a)) (k:=?_);refine yv (zf (B:=natC b)) (k:=?_);refine yv (zd (hc:=λ_ _ _ _=>(hc _))) (k:=?_);refine zad ?_)|(refine zb 4 (za ?_);refine yv (zf (B:=natC m)) (k:=?_);refine yv (zf (B:=natC b)) (k:=?_);refine yv (zd (hc:=λ_ _ _ _=>(hs _))) (k:=?_);refine za ?_;refine zj ?_;intro _;refine yn (zi (n:=o)) (k:=za ?_))|(refine zb 5 ?_;refine yv (zf (B:=natC a)) (k:=?_);refine yv (zf (B:=natC o)) (k:=?_);refine yv (zd (hc:=λ_ _ _ _=>(hd _))) (k:=?_);refine za ?_;refine zj ?_;intro _;refine yn (zi (n:=s)) (k:=za ?_))|(refine zb 6 ?_;refine yv (zf (B:=natC s)) (k:=?_);refine yn (zi (n:=s)) (k:=?_)))
  exact ret1 rfl (resCells (B:=natC s) rfl (ty rfl) rfl Has.go Seg.all (ze _).symm) SubR.nil ⟨rfl,rfl⟩
 ·have hcmp:decide (cmpI a b>=0)=true:=decide_eq_true (zhF h1);have hd:=λw'=>zhj a b w' haW hbW;rw [if_pos h1] at hd;have he:dm m a b=a - b:=by
   unfold dm;rw [Nat.mod_eq_of_lt hb,show a+(m - b)=a - b+m by omega,Nat.add_mod_right,Nat.mod_eq_of_lt q_o]
  rw [he];have hls:=ze (a - b);generalize cmpI a b=cz at *;generalize a - b=s at *;repeat' (first|refine s_0 ?_|(refine zb 0 ?_;refine zj ?_;intro _;refine zj ?_;intro _;refine zj ?_;intro _;refine zj ?_;intro _)|(refine zb 1 ?_;refine yv (zf (B:=natC a)) (k:=?_);refine yv (zf (B:=natC b)) (k:=?_);refine yv (zd (hc:=λ_ _ _ _=>(hc _))) (k:=?_);refine yv (zab (hr:=hcmp)) (k:=?_))|(refine zb 2 ?_;refine yv (zf (B:=natC a)) (k:=?_);refine yv (zf (B:=natC b)) (k:=?_);refine yv (zd (hc:=λ_ _ _ _=>(hd _))) (k:=?_);refine za ?_;refine zj ?_;intro _;refine yn (zi (n:=s)) (k:=za ?_))|(refine zb 3 ?_;refine yv (zf (B:=natC s)) (k:=?_);refine yn (zi (n:=s)) (k:=?_)))
  exact ret1 rfl (resCells (B:=natC s) rfl (ty rfl) rfl Has.go Seg.all (ze _).symm) SubR.nil ⟨rfl,rfl⟩
theorem zmz (m a:Nat) (w:World) (hm:m < 18446744073709551616 ^ 16) (ha:a < m):
  Sy.Fn Tryz.prog 293 [natV m,natV a] w No (Gives (natV ((a+a) % m))):=by
 refine zg Tryz.func293 rfl Tryz.ntmps293 q_p Holds.nil ?_;have hlm:=ze m;have hla:=ze a;have hs:=λw'=>zg5 m a a w' hm ha ha;have hls:=ze ((a+a) % m);generalize (a+a) % m=s at *;repeat' (first|refine s_0 ?_|(refine zb 0 ?_;refine zj ?_;intro _;refine zj ?_;intro _;refine zj ?_;intro _)|(refine zb 1 ?_;refine yv (zf (B:=natC m)) (k:=?_);refine yv (zf (B:=natC a)) (k:=?_);refine yv (zf (B:=natC a)) (k:=?_);refine yv (zd (hc:=λ_ _ _ _=>(hs _))) (k:=?_);refine yn (zi (n:=s)) (k:=?_)))
 exact ret1 rfl (resCells (B:=natC s) rfl (ty rfl) rfl Has.go Seg.all (ze _).symm) SubR.nil ⟨rfl,rfl⟩
end Go.Proofs.YtdnlngbjpdbffaaGreatDoor
end
section
namespace Go.Nt
open Go Go.Sy
theorem zpb {x k p q:Nat}(hk:k < (ones x).length) (hI:x - left k x=q*2 ^ p) (hp:left k x < 2 ^ p):
  (ones x)[k] < p/\left (k+1) x < 2 ^ (ones x)[k]/\x - left (k+1) x=(q*2 ^ (p - (ones x)[k])+1)*2 ^ (ones x)[k]:=by
 obtain ⟨hpos,hxk⟩:=zdX hk;obtain ⟨hm0,hm1,hm2⟩:=zev _ hpos;have hls:=zdw k x;have hle:=zla k x q_o;rw [hxk];generalize left k x=y at *;generalize nd 2 y=m at *;obtain ⟨i,rfl⟩: ∃i,m=i+1:=⟨m - 1,by omega⟩;rw [Nat.add_sub_cancel] at *;rw [Nat.pow_succ] at hm2;have hip:i < p:=by
  rcases Nat.lt_or_ge i p with h|h
  ·exact h
  ·have:=Nat.pow_le_pow_right (n:=2) q_e h;omega
 refine ⟨hip,by rw [hls];omega,?_⟩;have h1:q*2 ^ p=q*2 ^ (p - i)*2 ^ i:=by rw [Nat.mul_assoc,<-Nat.pow_add,show p - i+i=p by omega]
 rw [Nat.add_mul,Nat.one_mul,<-h1,hls];omega
end Go.Nt
namespace Go.Sy
open Go
theorem Holds.both {B0:Nat}{M:Nat->Prop}{L X:List Res}{w:World}{b1 T1 b2 T2:Nat}{C1 C2:List Value}(hh:Holds B0 M (L ++ X) w) (h1:Has L (.blk b1 T1 C1)) (h2:Has L (.blk b2 T2 C2)) (hne:Res.blk b1 T1 C1≠ .blk b2 T2 C2):
  Holds w.heap.size (λx=>x=b1\/x=b2) [.blk b1 T1 C1,.blk b2 T2 C2] w:=by
 have ha:=hh.two (Has.append h1) (Has.append h2) hne;refine ⟨λx hx=>?_,?_,λx hx y hy=>?_⟩
 ·rcases List.mem_cons.1 hx with rfl|hx
  ·exact hh.has (Has.append h1)
  ·rw [List.mem_singleton.1 hx];exact hh.has (Has.append h2)
 ·exact List.pairwise_cons.2 ⟨λx hx=>by rw [List.mem_singleton.1 hx];exact ha,List.pairwise_singleton _ _⟩
 ·rcases List.mem_cons.1 hx with rfl|hx
  ·exact .inr (.inl (Eq.symm hy))
  ·rw [List.mem_singleton.1 hx] at hy;exact .inr (.inr (Eq.symm hy))
theorem Holds.ne {B0:Nat}{M:Nat->Prop}{L X:List Res}{w:World}{b1 T1 b2 T2:Nat}{C1 C2:List Value}(hh:Holds B0 M (L ++ X) w) (h1:Has L (.blk b1 T1 C1)) (h2:Has L (.blk b2 T2 C2)) (hne:Res.blk b1 T1 C1≠ .blk b2 T2 C2):b1≠b2:=λh=>
 hh.two (Has.append h1) (Has.append h2) hne b1 rfl h.symm
theorem zdJ {b T b' T':Nat}{C C':List Value}(h:T≠T'):Res.blk b T C≠ .blk b' T' C':=λe=>h (by injection e)
end Go.Sy
namespace Go.Proofs.YtdnlngbjpdbffaaGreatDoor
open Go Go.Sy Go.Nt Go.RowKit
attribute [local irreducible] Sy SyL SyX Sy.Fn callFunc natC rowN
theorem zgY (bp bd br p q:Nat) (to:Nat) (V:Nat->Nat) (fd:Nat) (sd cd:List Value) (w:World) (hp:p<=4000) (hto:to<=p)
  (hen: ∀args w,(callFunc fd args).run Tryz.prog w= .ok (.enter fd args) w) (hD: ∀k w,Sy.Fn Tryz.prog fd (sd ++ [natV (V k)] ++ cd) w No (Gives (natV (V (2*k)))))
  (hH:Holds w.heap.size (λx=>x=bp\/x=br) [.blk bp 3 [.int .i64 p],.blk br 133 (natC (V q))] w) (hc:w.cell? ⟨bd,0,none⟩=some (.func (.func fd) sd.toArray cd.toArray)) (hn: ¬(bd=bp\/bd=br)):
  Sy.Fn Tryz.prog 322 [.int .i64 to,.pointer (some ⟨bp,0,none⟩),.pointer (some ⟨bd,0,none⟩),.pointer (some ⟨br,0,none⟩)] w (λx=>x=bp\/x=br)
   (λ_ R=>R= [.blk bp 3 [.int .i64 to],.blk br 133 (natC (V (q*2 ^ (p - to))))]):=by
 refine zg Tryz.func322 rfl Tryz.ntmps322 q_p hH ?_;repeat' (first|refine zcv ?_|fail)
 refine zy (γ:=Nat×Nat) (λ_=>[(0,.int .i64 to),(1,.pointer (some ⟨bp,0,none⟩)),(2,.pointer (some ⟨bd,0,none⟩)),(3,.pointer (some ⟨br,0,none⟩))])
  (λg=>[.blk bp 3 [.int .i64 g.1],.blk br 133 (natC (V g.2))])
  (λg=>to<=g.1/\g.1<=4000/\g.2*2 ^ (g.1 - to)=q*2 ^ (p - to)) (λg=>g.1) (p,q) ⟨hto,hp,rfl⟩ ?_ ?_ ?_
 ·exact q_h
 ·exact q_h
 rintro ⟨p',q'⟩ ⟨h1,h2,h3⟩;dsimp only at h1 h2 h3 ⊢;rcases Nat.lt_or_ge to p' with h|h
 ·have hgt:decide ((p':Int) > (to:Int))=true:=q_d;have hsub:IntKind.i64.wrap ((p':Int) - 1)=((p' - 1:Nat):Int):=q_w;have hlv:=ze (V q');have hlw:=ze (V (2*q'));have hD:=hD q';have h3:2*q'*2 ^ (p' - 1 - to)=q*2 ^ (p - to):=by
   rw [<-h3,show p' - to=(p' - 1 - to)+1 by omega,Nat.pow_succ];ac_rfl
  generalize hV:V (2*q')=v' at *;generalize V q'=v at *;repeat' (first|refine s_t ?_|(refine zb 0 ?_;refine zm ?_;refine za ?_;refine yv (zU (hr:=hgt)) (k:=?_))|(refine zb 2 ?_;refine yv (zl (hv:=hc) (hn:=hn)) (k:=?_);refine yv (zf (B:=natC v)) (k:=?_);refine yv (zcD (he:=hen) (hc:=λw' X hk hh=>hD w')) (k:=?_);refine yn (zi (n:=v')) (k:=?_))|(refine zb 1 ?_;refine zm ?_;refine yv (zD (hr:=hsub)) (k:=?_);refine zI ?_))
  refine zq (p' - 1,2*q') ⟨by show to<=p' - 1;omega,by show p' - 1<=_;omega,h3⟩ ?_ ?_ ?_
  ·show p' - 1 < p';omega
  ·exact q_h
  ·show SubR [.blk bp 3 [.int .i64 ((p' - 1:Nat):Int)],.blk br 133 (natC (V (2*q')))] _;rw [hV];exact q_h
 ·obtain rfl:p'=to:=q_o;have hgt:decide ((p':Int) > (p':Int))=false:=q_f;rw [Nat.sub_self,Nat.pow_zero,Nat.mul_one] at h3;rw [<-h3];repeat' (first|refine s_0 ?_|(refine zb 0 ?_;refine zm ?_;refine za ?_;refine yv (zU (hr:=hgt)) (k:=?_)))
  exact end0 rfl q_h rfl
theorem zin (x v:Nat) (V:Nat->Nat) (fd fa:Nat) (sd cd sa ca:List Value) (w:World) (hx:x < 18446744073709551616 ^ 16)
  (hend: ∀args w,(callFunc fd args).run Tryz.prog w= .ok (.enter fd args) w) (hena: ∀args w,(callFunc fa args).run Tryz.prog w= .ok (.enter fa args) w)
  (hD: ∀k w,Sy.Fn Tryz.prog fd (sd ++ [natV (V k)] ++ cd) w No (Gives (natV (V (2*k))))) (hA: ∀k w,Sy.Fn Tryz.prog fa (sa ++ [natV (V k),natV v] ++ ca) w No (Gives (natV (V (k+1))))):
  Sy.Fn Tryz.prog 292 [natV x,natV (V 0),natV v,.func (.func fd) sd.toArray cd.toArray,.func (.func fa) sa.toArray ca.toArray] w No (Gives (natV (V x))):=by
 refine zg Tryz.func292 rfl Tryz.ntmps292 q_p Holds.nil ?_;have hlx:=ze x;have hlv:=ze v;have hl0:=ze (V 0);have hbl:=λw'=>zbe x w' hx;have hx2:=zai 2 x q_e;have hxn:=zcR hx;generalize hv0:V 0=v0 at *;generalize nd 2 x=p0 at *;repeat' (first|refine s_0 ?_|(refine zb 0 ?_;refine zj ?_;intro _;refine zj ?_;intro _;refine zj ?_;intro _;refine zj ?_;intro _;refine zj ?_;intro _;refine zj ?_;intro _))
 rename_i b5 b6 b7 b8 b9 b10;refine zbj (id:=1) mixed ?_
 (refine zbi 5 5 [[],[],[1],[],[],[0,1,2,3,4],[0,1,2,3,4,5]] [[],[],[],[],[],[],[]] none rfl ?_ ?_ ?_;kernel_rfl;kernel_rfl;refine dcE (λ_ _=>zf (B:=natC v0)) (k:=?_);refine dcE (λ_ _=>zf (B:=natC x)) (k:=?_);refine dcE (λ_ _=>zd (hc:=λ_ _ _ _=>(hbl _))) (k:=?_);try refine dh_0nE (h:=?_))
 refine zcp (R:=λ_=>PtrOf 133 (List.replicate 16 (.int .u64 0))) (λ_ _ _=>rfl) (λρ hρ=>OpT.mono zcx λv L' h=>?_) (h:=?_)
 ·obtain ⟨b,rfl,rfl⟩:=h;exact ⟨[_],rfl,b,rfl,rfl⟩
 refine zcp (R:=λ_=>PtrOf 3 [.int .i64 0]) (λ_ _ _=>rfl) (λρ hρ=>OpT.mono zcx λv L' h=>?_) (h:=?_)
 ·obtain ⟨b,rfl,rfl⟩:=h;exact ⟨[_],rfl,b,rfl,rfl⟩
 refine zco (h:=?_);rintro ρ ⟨⟨b12,g1,g2⟩,⟨b11,g3,g4⟩,-⟩
 (refine zbk [[],[],[1],[],[],[0,1,2,3,4],[0,1,2,3,4,5]] ?_ ?_;kernel_rfl)
 refine SyL.weaken (fr':=[(11,.pointer (some ⟨b11,0,none⟩)),(12,.pointer (some ⟨b12,0,none⟩)),(15,natV v0),(17,.int .i64 p0),(5,.pointer (some ⟨b5,0,none⟩)),(7,.pointer (some ⟨b7,0,none⟩)),(8,.pointer (some ⟨b8,0,none⟩)),(9,.pointer (some ⟨b9,0,none⟩)),(10,.pointer (some ⟨b10,0,none⟩))])
  (L':=[.blk b11 133 (List.replicate 16 (.int .u64 0)),.blk b12 3 [.int .i64 0],.blk b5 133 (natC x),.blk b7 133 (natC v),.blk b8 296 [.func (.func fd) sd.toArray cd.toArray],.blk b9 206 [.func (.func fa) sa.toArray ca.toArray],.blk b10 133 (List.replicate 16 (.int .u64 0))]) ?_ ?_ ?_
 rotate_left
 ·(repeat' (first|exact Sub.nil|refine Sub.cons rfl ?_ ?_|rfl))
  ·exact g3
  ·exact g1
 ·show SubR _ ((ρ 4).2 ++ ((ρ 3).2 ++ _));rw [g2,g4];exact q_h
 repeat' (first|refine s_0 ?_|(refine zb 2 ?_;refine zaa ?_;refine zj ?_;intro _;refine zI ?_)|(refine zb 3 ?_;refine yv (zf (B:=natC x)) (k:=?_))|(refine zP ?_;first|refine yn (zi (n:=v0)) (k:=?_)|refine zI ?_|fail)|fail)
 rename_i b13;refine ys (zh (hc:=λw' X hk hh=>zlt x w')) (k:=?_);rintro _ _ ⟨R,rfl,b,rfl,rfl⟩;repeat' (first|refine s_t ?_|fail)
 rw [<-hv0];refine zdT (γ:=Nat×Nat) (xs:=ones x) (Arg:=ArgN) zbE rfl (en rfl) rfl (λk s=>x - left k x=s.2*2 ^ s.1/\left k x < 2 ^ s.1/\s.1<=1024) (λ_ _ _=>False)
  (λs=>[.blk b11 133 (natC (V s.2)),.blk b12 3 [.int .i64 s.1],.blk b13 326 [.func (.func 322) #[] #[.pointer (some ⟨b12,0,none⟩),.pointer (some ⟨b8,0,none⟩),.pointer (some ⟨b11,0,none⟩)]],.blk b7 133 (natC v),.blk b8 296 [.func (.func fd) sd.toArray cd.toArray],.blk b9 206 [.func (.func fa) sa.toArray ca.toArray]])
  [.blk b 133 (natC x)] [.blk b5 133 (natC x),.blk b10 133 (List.replicate 16 (.int .u64 0))] (p0,0) ⟨by rw [show left 0 x=x from rfl,Nat.sub_self,Nat.zero_mul],hx2,hxn⟩ ?_ ?_ ?_ ?_ ?_ ?_
 ·((try simp only [List.cons_append,List.nil_append,List.append_nil]);(repeat' (first|exact List.Perm.nil|exact List.Perm.refl _|(apply permr;with_reducible (focus ((repeat (first|exact Rem.here|apply Rem.there));done)))|(apply permr;(focus ((repeat (first|exact Rem.here|apply Rem.there));done))))))
 ·exact λw' Mi X hk hm _ _=>ziR b x w' Mi hx
 ·rintro O x vs RA w' ⟨rfl,_⟩;rfl
 ·rintro lp k hk ⟨p,q⟩ vs RA W rec hrec ⟨hI,hp,hp1⟩ ⟨rfl,rfl⟩ hkW hmine;dsimp only at hI hp hp1 ⊢;clear hmine;obtain ⟨hi,hl2,hI2⟩:=zpb hk hI hp;generalize (ones x)[k]=i at *;have hlq:=ze (V (q*2 ^ (p - i)));have hlq1:=ze (V (q*2 ^ (p - i)+1));have hA:=hA (q*2 ^ (p - i));repeat' (first|refine s_t ?_|(apply za6;(focus ((repeat (first|exact Rem.here|apply Rem.there));done));assumption)|(refine zb 4 (za ?_))|(refine zb 5 ?_;refine zm ?_;refine za ?_))
  refine ys (zcH (vs:=[.int .i64 i]) (cap:=[.pointer (some ⟨b12,0,none⟩),.pointer (some ⟨b8,0,none⟩),.pointer (some ⟨b11,0,none⟩)]) (C:=[.blk b12 3 [.int .i64 p],.blk b11 133 (natC (V q))]) (M':=λx=>x=b12\/x=b11)
   (hC:=RemL.cons (by repeat (first|exact Rem.here|apply Rem.there)) rfl (RemL.cons (by repeat (first|exact Rem.here|apply Rem.there)) rfl RemL.nil)) (hM:=λb hb=>by
    rcases hb with rfl|rfl
    ·exact ⟨_,List.mem_cons_self ..,rfl⟩
    ·exact ⟨_,List.mem_cons_of_mem _ (List.mem_singleton.2 rfl),rfl⟩)
   (hc:=λw' X hk hh=>zgY b12 b8 b11 p q i V fd sd cd w' q_o q_o hend hD (hh.both Has.go Has.go (zdJ q_e)) (zp (hh.has (r:=.blk b8 296 [.func (.func fd) sd.toArray cd.toArray]) q_h) Seg.all 0 _ rfl)
    (λe=>e.elim (hh.ne (C1:=[.func (.func fd) sd.toArray cd.toArray]) (T1:=296) (C2:=[.int .i64 p]) (T2:=3) Has.go Has.go (zdJ q_e)) (hh.ne (C1:=[.func (.func fd) sd.toArray cd.toArray]) (T1:=296) (C2:=natC (V q)) (T2:=133) Has.go Has.go (zdJ q_e))))) (k:=?_)
  rintro _ _ ⟨R,rfl,rfl⟩;repeat' (first|refine s_0 ?_|(refine zb 6 ?_;refine zm ?_;refine yv (zf (B:=natC (V (q*2 ^ (p - i))))) (k:=?_);refine yv (zf (B:=natC v)) (k:=?_);refine yv (zcD (he:=hena) (hc:=λw' X hk hh=>hA w')) (k:=?_);refine yn (zi (n:=V (q*2 ^ (p - i)+1))) (k:=?_)))
  refine zdN (i,q*2 ^ (p - i)+1) ⟨hI2,hl2,by show i<=1024;omega⟩ ?_;dsimp only;exact q_h
 ·rintro ⟨p,q⟩ ⟨hI,-,hp1⟩;rw [zgu,Nat.sub_zero] at hI;dsimp only at hI hp1 ⊢;repeat' (first|refine zbC ?_|refine zeu ?_|(refine zb 7 ?_;refine zm ?_))
  refine ys (zcH (vs:=[.int .i64 (0:Nat)]) (cap:=[.pointer (some ⟨b12,0,none⟩),.pointer (some ⟨b8,0,none⟩),.pointer (some ⟨b11,0,none⟩)]) (C:=[.blk b12 3 [.int .i64 p],.blk b11 133 (natC (V q))]) (M':=λx=>x=b12\/x=b11)
   (hC:=RemL.cons (by repeat (first|exact Rem.here|apply Rem.there)) rfl (RemL.cons (by repeat (first|exact Rem.here|apply Rem.there)) rfl RemL.nil)) (hM:=λb hb=>by
    rcases hb with rfl|rfl
    ·exact ⟨_,List.mem_cons_self ..,rfl⟩
    ·exact ⟨_,List.mem_cons_of_mem _ (List.mem_singleton.2 rfl),rfl⟩)
   (hc:=λw' X hk hh=>zgY b12 b8 b11 p q 0 V fd sd cd w' q_o q_o hend hD (hh.both Has.go Has.go (zdJ q_e)) (zp (hh.has (r:=.blk b8 296 [.func (.func fd) sd.toArray cd.toArray]) q_h) Seg.all 0 _ rfl)
    (λe=>e.elim (hh.ne (C1:=[.func (.func fd) sd.toArray cd.toArray]) (T1:=296) (C2:=[.int .i64 p]) (T2:=3) Has.go Has.go (zdJ q_e)) (hh.ne (C1:=[.func (.func fd) sd.toArray cd.toArray]) (T1:=296) (C2:=natC (V q)) (T2:=133) Has.go Has.go (zdJ q_e))))) (k:=?_)
  rintro _ _ ⟨R,rfl,rfl⟩;rw [Nat.sub_zero,<-hI];have hlV:=ze (V x);repeat' (first|refine s_0 ?_|(refine zb 8 ?_;refine yv (zf (B:=natC (V x))) (k:=?_);refine yn (zi (n:=V x)) (k:=?_)))
  exact ret1 rfl (resCells (B:=natC (V x)) rfl (ty rfl) rfl Has.go Seg.all (ze _).symm) SubR.nil ⟨rfl,rfl⟩
 ·rintro _ k s hk h;exact h.elim
end Go.Proofs.YtdnlngbjpdbffaaGreatDoor
end
