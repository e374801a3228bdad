/- The logic of walks: append to the bytes of a string that is no constant. -/
import Derived.Test.YtcpjfilcilcekaaGreatDoorWJ32
import Derived.ArgAppend
import Derived.Test.YtcpjfilcilcekaaGreatDoorWJ35
import Derived.Test.YtcpjfilcilcekaaGreatDoorWJ39
import Derived.Test.YtcpjfilcilcekaaGreatDoorWJ25
set_option linter.all false
section
namespace Go.Sy
open Go
section
variable {P:Program}{ro:Option Nat}{N:Nat}{w0:World}{M:Nat->Prop}{ds:List Deferred}{g:Nat->Option Value}{L:List Res}{o:Oper}
variable {t t':TypeId}{x z:Operand}{y ye:Ty}
def objR (E b:Nat) (C:List Value):Res:=.obj b (.cells C.toArray E (C.length,C.length+1))
theorem ze3 {b T:Nat} : ∀(l:List Value) (C:List Value) (o:Nat) (w:World),(objR T b C).holds w->o+l.length<=C.length->(objR T b (setSeg C o l)).holds (w.setCells b o l)
  | [],C,o,w,h,_=>by simpa [setSeg,World.setCells] using h
  |x::l,C,o,w,h,hl=>by
    simp only [List.length_cons] at hl
    have h1:(objR T b (C.set o x)).holds (w.setCell ⟨b,o,none⟩ x):=by
      have h:w.heap[b]?=some (.cells C.toArray T (C.length,C.length+1)):=h
      show (w.setCell ⟨b,o,none⟩ x).heap[b]?=_
      simp [World.setCell,Array.getElem?_modify,h]
    have:=ze3 l (C.set o x) (o+1) _ h1 (by rw [List.length_set];omega)
    have e:setSeg (C.set o x) (o+1) l=setSeg C o (x::l):=by
      unfold setSeg
      rw [List.take_succ_eq_append_getElem (by rw [List.length_set];omega),List.getElem_set_self,List.take_set_of_le (Nat.le_refl o),List.drop_set_of_lt (by omega)]
      simp [Nat.add_assoc,Nat.add_comm 1]
    rw [e] at this;exact this
theorem zjS {e:Nat}{l:List UInt8}(ho:o.op= .convert t t' x:=by exact rfl) (hx:ev g x=some (.string (str l)):=by exact rfl) (ht:tyOf P t=some y:=by exact ty rfl) {y':Ty}(ht':tyOf P t'=some y':=by exact ty rfl) (hy':y'.desc= .slice e:=by exact rfl) (he:tyOf P e=some ye:=by exact ty rfl) (hye:ye.desc= .int .u8:=by exact rfl):
    OpT P ro N w0 M ds o g L (λv L'=>∃b J,v= .slice (some ⟨b,0,none⟩) l.length (l.length+J.length)/\L'=objR e b (l.map v8 ++ J)::L):=
  OpT.run (by rw [ho];rfl) λa w X hst=>by
    obtain ⟨d,i,hd,hi,hs,_⟩:=zA ht
    obtain ⟨d',i',hd',hi',hs',_⟩:=zA ht'
    rw [hy'] at hs'
    have:=zae hs';subst this
    obtain ⟨d2,i2,hd2,hi2,hs2,_⟩:=zA he
    rw [hye] at hs2
    have hd2':d2= .int .u8:=by
      cases d2 <;> simp [slim] at hs2
      exact congrArg _ hs2
    subst hd2'
    have hrun:=Lib.run_convert_string_bytes w t t' e (str l) hd hd' hd2
    have hk:Keep No w (Lib.bytesWorld w e (str l)):=⟨rfl,rfl,rfl,by rw [Lib.bytesWorld_size];omega,λk hk _=>Lib.bytesWorld_at_old w e (str l) k hk⟩
    have hB:w0.heap.size<=w.heap.size:=hst.keep.size
    have hcap:l.length<=grownCap w (str l).size 0 e:=by have:=grownCap_ge w (str l).size 0 e;rw [zeP] at this ⊢;exact this
    have hcells:Lib.bytesCells w e (str l)=(l.map v8 ++ List.replicate (grownCap w (str l).size 0 e - (str l).size) (Value.int .u8 0)).toArray:=by
      apply Array.toList_inj.1
      simp [Lib.bytesCells,str,v8,Wd.n8]
    refine ⟨_,_,Lib.bytesWorld w e (str l),_,?_,.inl rfl,⟨w.heap.size,List.replicate (grownCap w (str l).size 0 e - (str l).size) (Value.int .u8 0),rfl,rfl⟩,hst.keep.trans hk (λ_ h=>h.elim),?_⟩
    · simp only [execOp,ho,hst.agr.eval hx,Sem.run_bind,hrun,Result.andThen_ok]
      rw [zeP] at hcap ⊢
      rw [List.length_replicate,show l.length+(grownCap w l.length 0 e - l.length)=grownCap w l.length 0 e by omega]
      rfl
    · refine Holds.fresh hst.hold hk ?_ (λb hb=>hb.symm) hB
      show (Lib.bytesWorld w e (str l)).heap[w.heap.size]?=_
      rw [Lib.bytesWorld_at_new,hcells,List.size_toArray]
theorem zlf {k cs m cx e b:Nat}{b1:Addr}{xs J news:List Value}{L1:List Res}{xo so:Operand}(hL:Rem L (objR e b (xs ++ J)) L1)
    (hrx:Rd w0 M L (some b1) news) (hk:xs.length=k) (hm:news.length=m) (hmp:0 < m) (h1:news.all (·.oneCell')=true) (b1':k+m<=1000000)
    (hcs:cs=k+J.length) (ho:o.op= .call { callee:=.builtin .append,args:=#[so,xo],argTypes:=#[t,t] } :=by exact rfl)
    (hs:ev g so=some (.slice (some ⟨b,0,none⟩) k cs):=by exact rfl) (hx:ev g xo=some (.slice (some b1) m cx):=by exact rfl) (ht:tyOf P t=some y:=by exact ty rfl) (hy:y.desc= .slice e:=by exact rfl) (he:tyOf P e=some ye:=by exact ty rfl) (hsz:ye.size=1:=by exact rfl) (hz:(zeroC P e).map (·.length)=some 1:=by (rw [zc rfl];rfl)) (b2:ye.bytes=1:=by exact rfl):
    OpT P ro N w0 M ds o g L (λv' L'=>∃b' J' fz,v'= .slice (some ⟨b',0,none⟩) (k+m) (k+m+J'.length)/\L'= .obj b' (.cells ((xs ++ news) ++ J').toArray e fz)::L1):=by
  subst hcs
  refine OpT.run (by rw [ho];rfl) λa w X hst=>?_
  obtain ⟨d,i',hd,hi',hs',_⟩:=zA ht
  rw [hy] at hs'
  have:=zae hs';subst this
  obtain ⟨de,ie,hde,hie,_,hez,heb,_⟩:=zA he
  obtain ⟨zcells,hzc,hzl⟩:=Option.map_eq_some_iff.1 hz
  unfold zeroC at hzc
  rw [hie] at hzc
  simp only [Option.bind_some,Option.map_eq_some_iff] at hzc
  obtain ⟨zv,hzv,hze⟩:=hzc
  have hzs:zv.cells.size=1:=by rw [<-hze] at hzl;simpa using hzl
  have hp:=hst.perm (hL.append (X:=X)).perm
  have hobj:(objR e b (xs ++ J)).holds w:=hp.hold.all _ List.mem_cons_self
  have hcell:w.heap[b]?=some (.cells (xs ++ J).toArray e ((xs ++ J).length,(xs ++ J).length+1)):=hobj
  have c0: ∀j u,xs[j]?=some u->w.cell? ((⟨b,0,none⟩:Addr).add j)=some u:=zcI λj u hj=>by
    have:w.cell? ⟨b,0+j,none⟩=(xs ++ J)[0+j]?:=by simp [World.cell?,hcell]
    rw [this,Nat.zero_add,List.getElem?_append_left (List.getElem?_eq_some_iff.1 hj).1];exact hj
  have c1: ∀j u,news[j]?=some u->w.cell? (b1.add j)=some u:=λj u hj=>by
    rcases hrx w X hst.keep hst.hold with h|⟨b,off,h,hrg⟩
    · rw [h] at hj;simp at hj
    · cases h;exact zcI hrg j u hj
  have hie1:ie.size=1:=by rw [hez,hsz]
  have hib1:ie.bytes=1:=by rw [heb,b2]
  have e1: #[so,xo].map a.eval= #[.slice (some ⟨b,0,none⟩) k (k+J.length),.slice (some b1) m cx]:=by simp [hst.agr.eval hs,hst.agr.eval hx]
  by_cases hroom:k+m<=k+J.length
  · have hrun := run_append_room_cells (P := P) w t o.type e ie hd hie b 0 k (k + J.length) b1 m cx news (by rw [hie1]; omega) c1 (λu hu => List.all_eq_true.1 h1 u hu) hroom (λj hj => by
        have:w.cell? ⟨b,0+k*ie.size+j,none⟩=(xs ++ J)[0+k*ie.size+j]?:=by simp [World.cell?,hcell]
        rw [this,hie1,List.getElem?_eq_getElem (by rw [List.length_append];omega)];rfl) (λj hj=>by
        have hlt: ¬((xs ++ J).length<=0+k*ie.size+j):=by rw [hie1,List.length_append];omega
        simp only [World.frozen?,hcell]
        simp only [hlt,decide_false,Bool.false_and])
    rw [hie1,Nat.mul_one,Nat.zero_add] at hrun
    have hset:=ze3 (T:=e) news (xs ++ J) k w hobj (by rw [List.length_append];omega)
    have hseg:setSeg (xs ++ J) k news=(xs ++ news) ++ J.drop m:=by
      unfold setSeg
      rw [<-hk,List.take_left,<-List.drop_drop,List.drop_left,hm]
    rw [hseg] at hset
    have hJ:(J.drop m).length=J.length - m:=List.length_drop
    refine ⟨_,_,w.setCells b k news,_,?_,.inl rfl,⟨b,J.drop m,(((xs ++ news) ++ J.drop m).length,((xs ++ news) ++ J.drop m).length+1),rfl,rfl⟩,?_,?_⟩
    · simp only [execOp,ho,resolve,invoke,builtin,e1,Sem.run_bind,Sem.run_pure,Result.andThen_ok,hrun]
      rw [hJ,show k+m+(J.length - m)=k+J.length by omega]
    · exact hst.keep.trans (Keep.setCells b news k w) (λx hx=>by subst hx;exact hp.hold.mine _ List.mem_cons_self x rfl)
    · have ht:=hp.hold.tail
      exact Holds.cons (L:=L1 ++ X) (ht.keep (Keep.setCells b news k w) (λr hr' q hb hb'=>(List.pairwise_cons.1 hp.hold.apart).1 r hr' q (by show b=q;exact hb'.symm) hb)) hset (λr hr' q hb hb'=>(List.pairwise_cons.1 hp.hold.apart).1 r hr' q hb hb') (λq hb=>hp.hold.mine _ List.mem_cons_self q hb)
  · have hrun:=run_append_grow (P:=P) w t o.type e ie zv hd hie hzv ⟨b,0,none⟩ k (k+J.length) xs (by rw [hie1];omega) c0 b1 m cx news (by rw [hie1];omega) c1 (by omega) (by omega) (growslice_fits (by omega) (by rw [hib1];omega))
    have hcap:=grownCap_ge w (k+m) (k+J.length) e
    obtain ⟨J',hJ,hJl⟩: ∃J':List Value,xs.toArray ++ news.toArray ++ Builtin.zeroCells zv.cells (grownCap w (k+m) (k+J.length) e - (k+m))=((xs ++ news) ++ J').toArray/\J'.length=grownCap w (k+m) (k+J.length) e - (k+m):=by
      refine ⟨(Builtin.zeroCells zv.cells (grownCap w (k+m) (k+J.length) e - (k+m))).toList,by simp,?_⟩
      simp [Builtin.zeroCells,hzs]
    rw [hJ] at hrun
    have hk':Keep No w (w.drew.alloc (.cells ((xs ++ news) ++ J').toArray e)):=⟨rfl,rfl,rfl,by show w.heap.size<=(w.heap.push _).size;rw [Array.size_push];omega,λq hq _=>by
      show (w.heap.push _)[q]?=_
      rw [Array.getElem?_push,if_neg (by omega)]⟩
    refine ⟨_,_,w.drew.alloc (.cells ((xs ++ news) ++ J').toArray e),_,?_,.inl rfl,⟨w.heap.size,J',(0,0),rfl,rfl⟩,hst.keep.trans hk' (λ_ h=>h.elim),?_⟩
    · simp only [execOp,ho,resolve,invoke,builtin,e1,Sem.run_bind,Sem.run_pure,Result.andThen_ok,hrun]
      rw [show grownCap w (k+m) (k+J.length) e=k+m+J'.length by omega]
    · refine Holds.fresh (L:=L1 ++ X) hp.hold.tail hk' ?_ (λb hb=>hb.symm) hst.keep.size
      show (w.heap.push _)[w.heap.size]?=_
      exact Array.getElem?_push_size
end
end Go.Sy
end
section
namespace Go.Sy
open Go
section
variable {P:Program}{ro:Option Nat}{N:Nat}{w0:World}{M:Nat->Prop}{ds:List Deferred}{g:Nat->Option Value}{L:List Res}{o:Oper}{t t':TypeId}{x:Operand}{y ye:Ty}
theorem zfK {E n e:Nat}{v:Value}{Nw:List Res}{l:List UInt8}(h:RowOf E n (l.map v8) v Nw) (hn:l.length=n) (hN: ∀r,Has Nw r->Has L r) (ho:o.op= .convert t t' x:=by exact rfl) (hx:ev g x=some v:=by exact rfl) (ht:tyOf P t=some y:=by exact ty rfl) (hy:y.desc= .slice e:=by exact rfl) (he:tyOf P e=some ye:=by exact ty rfl) (hye:ye.desc= .int .u8:=by exact rfl) {y':Ty}(ht':tyOf P t'=some y':=by exact ty rfl) (hy':y'.desc= .string:=by exact rfl):OpT P ro N w0 M ds o g L (Det (.string (str l)) L):=by
  obtain ⟨a,c,rfl,rfl⟩:=h
  exact zb4 (hx:=hx) (ho:=ho) (ht:=ht) (hy:=hy) (he:=he) (hye:=hye) (ht':=ht') (hy':=hy') (hr:=Rd.row (hN _ Has.here)) (hn:=hn)
end
end Go.Sy
namespace Go.Proofs.YtcpjfilcilcekaaGreatDoor
open Go Go.Sy Go.Sh Go.Nt Go.RowKit
attribute [local irreducible] Sy SyL SyX Sy.Fn callFunc natC rowN refC iC gP gQ gL memB safeC fixB Sh.sum HashIs pkPt pkH pkQ
set_option maxRecDepth 10000
theorem zeO {x:Nat}(h:x < 18446744073709551616 ^ 16):nd 65536 x < 20000:=Nat.lt_of_le_of_lt (ndW h) (by decide)
set_option maxHeartbeats 1000000 in
theorem zd1 (i:Nat) (s:Bool) (kb ko kc:Nat) (w:World) (h0:1<=i) (h5:i<=4) (hR:RTab w No kb ko kc):
    Sy.Fn Tryz.prog 23 [.int .i64 (i:Int),.string (str (pkLab s))] w No (RefG (pkPt i s)):=by
  refine zk Tryz.func23 rfl Tryz.ntmps23 (by simp) Holds.nil ?_
  have hui:=u8w i (by omega)
  have hl:=zhu s
  have hp1:=zax i h0 h5
  have kp:=ndW (za8 i h0 h5)
  have hone:=(zdB i s h0 h5).1
  have kr:=ndW (Nat.lt_trans (zdB i s h0 h5).2.2.1 (za8 i h0 h5))
  have hpr:=λw'=>zdg i w' h0 h5
  have h32:=zfl (pkLab s ++ [UInt8.ofNat i,0])
  have hsum:=λw' (hk:Keep No w w') b J (h:w'.rangeAt b 0 ((pkLab s ++ [UInt8.ofNat i,0]).map v8))=>zeQ (some ⟨b,0,none⟩) ((pkLab s).length+2) ((pkLab s).length+2+J) kb ko kc (pkLab s ++ [UInt8.ofNat i,0]) w' (by simp) (by omega) (.inr ⟨b,0,rfl,h⟩) (λh=>by cases h) (hR.no hk).cell (hR.no hk).row
  have hB:(pkLab s ++ [UInt8.ofNat i,0]).map v8=(pkLab s).map v8 ++ [.int .u8 (Wd.n8 (UInt8.ofNat i)),.int .u8 0]:=by rw [List.map_append];rfl
  rw [hB] at hsum
  have hpt:pkPt i s=(bev 256 (bn (Sh.sum (pkLab s ++ [UInt8.ofNat i,0]))) % gP i)*(bev 256 (bn (Sh.sum (pkLab s ++ [UInt8.ofNat i,0]))) % gP i) % gP i:=by
    unfold pkPt pkH;exact Nat.mul_mod _ _ _
  generalize Sh.sum (pkLab s ++ [UInt8.ofNat i,0])=H at *
  have hVW:bev 256 (bn H) < 18446744073709551616 ^ 16:=bevW' (by omega)
  have kV:=ndW hVW
  have hfrom:=λw' b (h:w'.rangeAt b 0 (H.map v8))=>zjW (some ⟨b,0,none⟩) 32 32 H w' h32 (.inr ⟨b,0,rfl,h⟩) (by decide)
  generalize bev 256 (bn H)=V at *
  have hdiv:=λw' a c a' c' (h:SlA w' a (refC V)) (h':SlA w' a' (refC (gP i)))=>zeS a a' c c' V (gP i) w' h h' (by omega) (by omega) (by omega)
  have kx:=ndW (Nat.lt_trans (Nat.mod_lt V (by omega)) (za8 i h0 h5))
  have hmul:=λw' a c (h:SlA w' a (refC (V % gP i)))=>zkD i a a c c (V % gP i) (V % gP i) w' h0 h5 h h (by omega) (by omega)
  rw [<-hpt] at hmul
  have hof:=λw'=>zet 1 w' (by decide)
  have hcmp:=λw' a c a' c' (h:SlA w' a (refC (pkPt i s))) (h':SlA w' a' (refC 1))=>zf7 a a' c c' (pkPt i s) 1 w' h h' (by omega) (by have:=zak 65536 1 1 (by decide) (by decide);omega)
  rw [zdt hone] at hcmp
  unfold RefG at *
  clear hpt kV kx kr
  generalize pkPt i s=r at *
  generalize V % gP i=x at *
  generalize V / gP i=q at *
  generalize gP i=p at *
  generalize pkLab s=lab at *
  repeat' (first|refine s_t ?_|(refine za (id:=0) ?_;refine zd ?_)|(refine za (id:=1) ?_;refine zb ?_;(refine ys (zn (f:=64) (hc:=λw' X hk hh=>hpr w')) (k:=?_);rintro _ _ ⟨R,rfl,aP,cP,rfl,rfl⟩);refine zd ?_)|(refine za (id:=2) ?_;refine zd ?_)|fail)
  refine zD (γ:=Unit) (λ_=>[(0,.int .i64 (i:Int)),(1,.string (str lab)),(5,.slice aP (nd 65536 p) cP),(6,.int .i64 0)]) (λ_=>[.row (.slice aP (nd 65536 p) cP) 3 1 (nd 65536 p) (refC p)]) (λ_=>True) (λ_=>0) () trivial ?_ ?_ ?_
  · exact Sub.go
  · exact SubR.go2
  rintro ⟨⟩ -
  repeat' (first|refine za1 ?_|refine zbA ?_|(refine za (id:=4) ?_;refine zb ?_)|(refine ys (zjS (l:=lab)) (k:=?_);rintro _ _ ⟨bB,J,rfl,rfl⟩)|(refine zB ?_;first|refine yv (z3 (hr:=hui)) (k:=?_)|refine zaR ?_|refine zb ?_|(refine ys zt (k:=?_);rintro _ _ ⟨_,rfl,rfl⟩)|fail)|fail)
  refine ys (zlf (b:=bB) (k:=lab.length) (m:=2) (xs:=lab.map v8) (J:=J) (hL:=Rem.there Rem.here) (hrx:=Rd.of (Reads.blk Has.here Seg.all)) (hk:=List.length_map _) (hm:=rfl) (hmp:=by decide) (h1:=rfl) (b1':=by omega) (hcs:=rfl)) (k:=?_)
  rintro _ _ ⟨bS,J',fz,rfl,rfl⟩
  repeat' (first|refine s_0 ?_|(refine za (id:=5) ?_;refine zam ?_;(refine ys (zn (f:=47) (hc:=λw' X hk hh=>hfrom w' _ (zz (hh.has (Has.append Has.here)) Seg.all))) (k:=?_);rintro _ _ ⟨R,rfl,aV,cV,rfl,rfl⟩);refine zb ?_;(refine ys (zn (f:=65) (hc:=λw' X hk hh=>hdiv w' _ _ _ _ (zM hh (by exact Has.append Has.go)) (zM hh (by exact Has.append Has.go)))) (k:=?_);rintro _ _ ⟨R,rfl,aQ,cQ,aX,cX,rfl,rfl⟩);refine zb ?_;refine zh ?_;refine zh ?_;refine zd ?_;refine zd ?_)|(refine za (id:=6) ?_;refine zb ?_;refine zb ?_;refine zb ?_;(refine ys (zn (f:=43) (hc:=λw' X hk hh=>hmul w' _ _ (zM hh (by exact Has.append Has.go)))) (k:=?_);rintro _ _ ⟨R,rfl,aY,cY,rfl,rfl⟩);refine zd ?_)|(refine za (id:=7) ?_;refine zb ?_;(refine ys (zn (f:=41) (hc:=λw' X hk hh=>hof w')) (k:=?_);rintro _ _ ⟨R,rfl,aO,cO,rfl,rfl⟩);refine yv (zf (f:=50) (hc:=λw' X hk hh=>hcmp w' _ _ _ _ (zM hh (by exact Has.append Has.go)) (zM hh (by exact Has.append Has.go)))) (k:=?_);refine zaf ?_)|(refine za (id:=8) ?_;refine zb ?_;refine zd ?_)|(refine zB ?_;first|refine yv (zf (f:=53) (hc:=λw' X hk hh=>hsum w' hk bS _ ((Reads.obj Has.here segH) w' X hk hh))) (k:=?_)|refine zx ?_|(refine zi ?_;intro _)|fail)|fail)
  exact ret1 rfl (resTmp rfl) (by exact SubR.go2) ⟨_,_,rfl,rfl⟩
def RefG2 (x y:Nat) (v:Value) (R:List Res):Prop:=∃a c b d,v= .tuple #[.slice a (nd 65536 x) c,.slice b (nd 65536 y) d]/\R= [.row (.slice a (nd 65536 x) c) 3 1 (nd 65536 x) (refC x),.row (.slice b (nd 65536 y) d) 3 1 (nd 65536 y) (refC y)]
theorem zpK (i:Nat) (s:Bool) (kb ko kc:Nat) (w:World) (h0:1<=i) (h5:i<=4) (hR:RTab w No kb ko kc):
    Sy.Fn Tryz.prog 42 [.int .i64 (sideI s),.int .i64 (i:Int)] w No (RefG2 (pkPt i s) (pkPt i (!s))):=by
  refine zk Tryz.func42 rfl Tryz.ntmps42 (by simp) Holds.nil ?_
  have h1:=λw' (hk:Keep No w w')=>zd1 i true kb ko kc w' h0 h5 (hR.no hk)
  have h2:=λw' (hk:Keep No w w')=>zd1 i false kb ko kc w' h0 h5 (hR.no hk)
  unfold RefG at h1 h2
  rw [show (str (pkLab true))=str [119,97,116,99,104,119,111,114,100,32,112,97,107,101,32,99,108,105,101,110,116] from rfl] at h1
  rw [show (str (pkLab false))=str [119,97,116,99,104,119,111,114,100,32,112,97,107,101,32,115,101,114,118,101,114] from rfl] at h2
  cases s
  · rw [show (!false)=true from rfl]
    generalize pkPt i true=p at *
    generalize pkPt i false=q at *
    repeat' (first|refine s_0 ?_|(refine za (id:=0) ?_;refine zd ?_;refine zd ?_)|(refine za (id:=1) ?_;refine zb ?_;(refine ys (zn (f:=23) (hc:=λw' X hk hh=>h1 w' hk)) (k:=?_);rintro _ _ ⟨R,rfl,a1,c1,rfl,rfl⟩);refine zb ?_;(refine ys (zn (f:=23) (hc:=λw' X hk hh=>h2 w' hk)) (k:=?_);rintro _ _ ⟨R,rfl,a2,c2,rfl,rfl⟩);refine zd ?_;refine zd ?_)|(refine za (id:=2) ?_;refine zb ?_;refine zZ ?_)|(refine za (id:=4) ?_;refine zb ?_;refine zb ?_;refine zd ?_;refine zd ?_)|fail)
    exact ret2 rfl (resTmp rfl) (resTmp rfl) (by exact SubR.go2) ⟨_,_,_,_,rfl,rfl⟩
  · rw [show (!true)=false from rfl]
    generalize pkPt i true=p at *
    generalize pkPt i false=q at *
    repeat' (first|refine s_0 ?_|(refine za (id:=0) ?_;refine zd ?_;refine zd ?_)|(refine za (id:=1) ?_;refine zb ?_;(refine ys (zn (f:=23) (hc:=λw' X hk hh=>h1 w' hk)) (k:=?_);rintro _ _ ⟨R,rfl,a1,c1,rfl,rfl⟩);refine zb ?_;(refine ys (zn (f:=23) (hc:=λw' X hk hh=>h2 w' hk)) (k:=?_);rintro _ _ ⟨R,rfl,a2,c2,rfl,rfl⟩);refine zd ?_;refine zd ?_)|(refine za (id:=2) ?_;refine zb ?_;refine zZ ?_)|(refine za (id:=3) ?_;refine zb ?_;refine zb ?_;refine zd ?_;refine zd ?_)|fail)
    exact ret2 rfl (resTmp rfl) (resTmp rfl) (by exact SubR.go2) ⟨_,_,_,_,rfl,rfl⟩
theorem zlq (i:Nat) (w:World) (h0:1<=i) (h5:i<=4) (hT:Tab w No) (hG:GT w):
    Sy.Fn Tryz.prog 20 [.int .i64 (i:Int)] w No (λv R=>∃a c b d,v= .tuple #[.slice a (gL i) c,.slice b (gL i) d,.int .i64 0]/\R= [.row (.slice b (gL i) d) 5 1 (gL i) ((fixB (gL i) (pkPt i false)).map v8),.row (.slice a (gL i) c) 5 1 (gL i) ((fixB (gL i) (pkPt i true)).map v8)]):=by
  refine zk Tryz.func20 rfl Tryz.ntmps20 (by simp) Holds.nil ?_
  have hp:=λw' (hk:Keep No w w')=>zh4 i w' h0 h5 (hT.no hk) (hG.to hk)
  have hb:=λs w' (hk:Keep No w w')=>zh0 i (pkPt i s) w' h0 h5 (hG.to hk) (zcd h0 h5 (zd6 i s h0 h5)) (zd6 i s h0 h5)
  unfold FixG at hb
  have hb1:=hb true
  have hb2:=hb false
  clear hb
  generalize pkPt i true=p at *
  generalize pkPt i false=q at *
  have lp:=ze p
  have lq:=ze q
  repeat' (first|refine s_0 ?_|(refine za (id:=0) ?_;refine zd ?_;refine zd ?_;refine zd ?_)|(refine za (id:=1) ?_;refine zb ?_;refine yv (zf (f:=61) (hc:=λw' X hk hh=>hp w' hk)) (k:=?_);refine zb ?_;refine zh ?_;refine zh ?_;refine zh ?_;(refine zi ?_;intro _);(refine zi ?_;intro _);refine yn (zj (n:=p)) (k:=?_);refine yn (zj (n:=q)) (k:=?_);refine zd ?_)|(refine za (id:=2) ?_;refine zb ?_;refine zP ?_)|(refine za (id:=4) ?_;refine zb ?_;refine yv (zg (B:=natC p)) (k:=?_);(refine ys (zn (f:=62) (hc:=λw' X hk hh=>hb1 w' hk)) (k:=?_);rintro _ _ ⟨R,rfl,a1,c1,rfl,rfl⟩);refine zb ?_;refine zh ?_;refine zh ?_;refine zd ?_;refine zd ?_)|(refine za (id:=5) ?_;refine zb ?_;refine zP ?_)|(refine za (id:=7) ?_;refine zb ?_;refine yv (zg (B:=natC q)) (k:=?_);(refine ys (zn (f:=62) (hc:=λw' X hk hh=>hb2 w' hk)) (k:=?_);rintro _ _ ⟨R,rfl,a2,c2,rfl,rfl⟩);refine zb ?_;refine zh ?_;refine zh ?_;refine zd ?_;refine zd ?_)|(refine za (id:=8) ?_;refine zb ?_;refine zP ?_)|(refine za (id:=10) ?_;refine zb ?_;refine zb ?_;refine zd ?_;refine zd ?_;refine zd ?_)|fail)
  exact ret3 rfl (resTmp rfl) (resTmp rfl) (resTmp rfl) (by exact SubR.go2) ⟨_,_,_,_,rfl,rfl⟩
theorem zlG (z:Int) (v:Value) (hv:v.oneCell'=true) (w:World) (hz: ¬(1<=z/\z<=4)):Sy.Fn Tryz.prog 100 [.int .i64 z,v] w No (Gives (.tuple #[natV 0,.int .i64 2])):=by
  refine zk Tryz.func100 rfl Tryz.ntmps100 (by simp) Holds.nil ?_
  have lz:=ze 0
  repeat' (first|refine s_0 ?_|refine zex ?_|refine zc0 ?_|(refine za (id:=0) ?_;(refine zi ?_;intro _))|(refine za (id:=1) ?_;refine zF ?_;refine yv (zf (hc:=λ_ _ _ _=>(zkY z _ hz))) (k:=?_);refine zb ?_;refine zh ?_;refine zh ?_;(refine zi ?_;intro _);refine yn (zj (n:=0)) (k:=?_);refine zd ?_)|(refine za (id:=2) ?_;refine zb ?_;refine zP ?_)|(refine za (id:=3) ?_;refine yv za0 (k:=?_);refine zb ?_;refine yn (zj (n:=0)) (k:=?_);refine zd ?_)|(refine ya (ziN (hv:=hv)) (k:=?_);intro _)|(refine zB ?_;first|refine zd ?_|(refine zi ?_;intro _)|fail)|fail)
  exact ret2 rfl (resCells (B:=natC 0) rfl (ty rfl) rfl Has.go Seg.all (ze _).symm) (resTmp rfl) SubR.nil ⟨rfl,rfl⟩
theorem zli (z:Int) (w:World) (hz: ¬(1<=z/\z<=4)):Sy.Fn Tryz.prog 61 [.int .i64 z] w No (Gives (.tuple #[natV 0,natV 0,.int .i64 2])):=by
  refine zk Tryz.func61 rfl Tryz.ntmps61 (by simp) Holds.nil ?_
  have lz:=ze 0
  repeat' (first|refine s_0 ?_|(refine za (id:=0) ?_;(refine zi ?_;intro _);(refine zi ?_;intro _);refine zd ?_)|(refine za (id:=1) ?_;refine zb ?_;refine yv (zf (hc:=λ_ _ _ _=>(zlG z _ rfl _ hz))) (k:=?_);refine zb ?_;refine zh ?_;refine zh ?_;refine yn (zj (n:=0)) (k:=?_);refine zd ?_)|(refine za (id:=2) ?_;refine zb ?_;refine zP ?_)|(refine za (id:=3) ?_;refine yv za0 (k:=?_);refine yv za0 (k:=?_);refine zb ?_;refine yn (zj (n:=0)) (k:=?_);refine yn (zj (n:=0)) (k:=?_);refine zd ?_)|fail)
  exact ret3 rfl (resCells (B:=natC 0) rfl (ty rfl) rfl Has.go Seg.all (ze _).symm) (resCells (B:=natC 0) rfl (ty rfl) rfl Has.go Seg.all (ze _).symm) (resTmp rfl) SubR.nil ⟨rfl,rfl⟩
theorem zjE (z:Int) (w:World) (hz: ¬(1<=z/\z<=4)):Sy.Fn Tryz.prog 20 [.int .i64 z] w No (Gives (.tuple #[.slice none 0 0,.slice none 0 0,.int .i64 2])):=by
  refine zk Tryz.func20 rfl Tryz.ntmps20 (by simp) Holds.nil ?_
  have lz:=ze 0
  repeat' (first|refine s_0 ?_|(refine za (id:=0) ?_;refine zd ?_;refine zd ?_;refine zd ?_)|(refine za (id:=1) ?_;refine zb ?_;refine yv (zf (hc:=λ_ _ _ _=>(zli z _ hz))) (k:=?_);refine zb ?_;refine zh ?_;refine zh ?_;refine zh ?_;(refine zi ?_;intro _);(refine zi ?_;intro _);refine yn (zj (n:=0)) (k:=?_);refine yn (zj (n:=0)) (k:=?_);refine zd ?_)|(refine za (id:=2) ?_;refine zb ?_;refine zP ?_)|(refine za (id:=3) ?_;refine zb ?_;refine zd ?_;refine zd ?_;refine zd ?_)|fail)
  exact ret3 rfl (resTmp rfl) (resTmp rfl) (resTmp rfl) SubR.nil ⟨rfl,rfl⟩
end Go.Proofs.YtcpjfilcilcekaaGreatDoor
end
