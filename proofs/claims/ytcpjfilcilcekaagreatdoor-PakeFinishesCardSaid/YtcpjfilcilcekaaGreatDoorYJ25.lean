/- The specification's hash of a string, walked. -/
import Derived.Test.YtcpjfilcilcekaaGreatDoorYJ24
import Derived.Test.YtcpjfilcilcekaaGreatDoorYJ22
import Derived.Test.YtcpjfilcilcekaaGreatDoorYJ23
import Derived.Test.YtcpjfilcilcekaaGreatDoorYJ21
import Derived.Test.YtcpjfilcilcekaaGreatDoorYJ07
set_option linter.all false
section
namespace Go.Sh
open Go.Wd Go.RowKit
theorem zdT (s:List UInt32):(ser s).length=4*s.length:=by
 induction s with
 |nil=>rfl
 |cons x s ih=>simp only [ser,List.flatMap_cons,List.length_append] at *;rw [ih];simp [be4];omega
theorem zlg: ∀(s:List UInt32) (i:Nat),i < 4*s.length->(ser s)[i]?=some ((s.getD (i / 4) 0 >>> UInt32.ofNat (24 - 8*(i % 4))).toUInt8)
 | [],i,h=>by simp at h
 |x::s,i,h=>by
  have e:ser (x::s)=be4 x ++ ser s:=by simp [ser]
  rw [e]
  by_cases h4:i < 4
  ·rw [List.getElem?_append_left (by simp [be4];omega)]
   have:i=0\/i=1\/i=2\/i=3:=by omega
   rcases this with rfl|rfl|rfl|rfl <;> rfl
  ·rw [List.getElem?_append_right (by simp [be4];omega)]
   have hl:(be4 x).length=4:=rfl
   rw [hl,zlg s (i - 4) (by simp at h;omega)]
   rw [show i / 4=(i - 4) / 4+1 from by omega,show i % 4=(i - 4) % 4 from by omega];rfl
theorem ziL {α:Type}{C L:List α}{k:Nat}{v:α}(h:k < C.length) (hL:C.take k=L.take k) (hv:L[k]?=some v):(C.set k v).take (k+1)=L.take (k+1):=by
 obtain ⟨hk,he⟩:=List.getElem?_eq_some_iff.1 hv
 rw [zaw h hL v,List.take_succ_eq_append_getElem hk,he]
def nthBlock (b:List UInt8) (q:Nat):List UInt8:=(b.drop (64*q)).take 64
theorem zhu (n q:Nat) (b:List UInt8) (h:q < n):(whole n b).take (q+1)=(whole n b).take q ++ [nthBlock b q]:=by
 have:=zfY n q b h
 obtain ⟨hk,he⟩:=List.getElem?_eq_some_iff.1 this
 rw [List.take_succ_eq_append_getElem hk,he];rfl
theorem fold_snoc (s:List UInt32) (l:List (List UInt8)) (x:List UInt8):fold s (l ++ [x])=compress (fold s l) x:=by simp [fold]
theorem zbK: ∀(l:List (List UInt8)) (s:List UInt32),s.length=8->(fold s l).length=8
 | [],s,h=>h
 |x::l,s,h=>zbK l _ (zar s x h)
theorem znG (x:UInt32) (m:Nat):(n32 (x >>> UInt32.ofNat m)).tmod 256=n32 (x >>> UInt32.ofNat m) % 256/\IntKind.u8.wrap (n32 (x >>> UInt32.ofNat m) % 256)=n8 ((x >>> UInt32.ofNat m).toUInt8):=by
 refine ⟨Int.tmod_eq_emod_of_nonneg (zI _),?_⟩
 rw [<-zcc,IntKind.wrap_u8,IntKind.wrap_u8,Int.emod_emod_of_dvd _ (Int.dvd_refl _)]
end Go.Sh
namespace Go.Proofs.YtcpjfilcilcekaaGreatDoor
open Go Go.Sy Go.Wd Go.Sh
attribute [local irreducible] Sy SyL SyX Sy.Fn callFunc
set_option maxRecDepth 10000
set_option maxHeartbeats 1000000 in
theorem zd2 (a0:Option Addr) (n c kb ko kc:Nat) (l:List UInt8) (w:World) (hn:l.length=n) (hb:n < 1000000000000) (hl:SlA w a0 (l.map Sy.v8)) (hc:a0=none->c=0)
  (hG:w.cell? ⟨1,0,none⟩=some (.slice (some ⟨kb,ko,none⟩) 64 kc)) (hK:w.rangeAt kb ko (kC.map vi)):
  Sy.Fn Tryz.prog 53 [.slice a0 n c] w No (Gives (.agg ((sum l).map Sy.v8).toArray)):=by
 refine zk Tryz.func53 rfl Tryz.ntmps53 (by simp) Holds.nil ?_
 repeat' (first|refine s_0 ?_|(refine za (id:=0) ?_;(refine zi ?_;intro _))|(refine za (id:=1) ?_;refine za0 ?_;(refine zi ?_;intro _);refine zB ?_)|(refine za (id:=2) ?_;refine zb ?_)|fail)
 rename_i b2 b3
 refine ys (zn (hc:=λw' X hk hh=>zlG a0 n c l w' hn hb (hl.keep hk (λ_ _ h=>h)) hc)) (k:=?_)
 rintro _ _ ⟨R,rfl,a,cp,rfl,rfl⟩
 repeat' (first|refine s_t ?_|(refine za (id:=3) ?_;refine zd ?_)|(refine zC ?_;first|refine zd ?_|fail)|fail)
 have hpl:=ze7 l
 have hz:zeros l.length=(119 - l.length % 64) % 64:=rfl
 generalize hp:padded l=p at *
 generalize hm:p.length=m at *
 refine zk7 (by exact Rem.here) (by omega) ?_
 rintro b J rfl h1 h2 h3 h4
 obtain ⟨q0,hq0⟩: ∃q0,m=64*q0:=⟨m / 64,by omega⟩
 refine zE (γ:=Nat) (λq=>[(2,.pointer (some ⟨b2,0,none⟩)),(3,.pointer (some ⟨b3,0,none⟩)),(4,.slice (some ⟨b,0,none⟩) m cp),(5,.int .i64 ((64*q:Nat):Int))])
  (λq=>[.blk b 5 (p.map Sy.v8 ++ J),.blk b3 128 ((fold h0 ((whole q0 p).take q)).map vi),.blk b2 66 (List.replicate 32 (.int .u8 0))])
  (λq=>q<=q0) (λq=>q0 - q) 0 (Nat.zero_le _) ?_ ?_ ?_
 ·exact Sub.go
 ·exact SubR.go
 intro q hq
 by_cases hlt:q < q0
 ·generalize hs:fold h0 ((whole q0 p).take q)=s
  have hs8:s.length=8:=by rw [<-hs];exact zbK _ _ rfl
  have hbl:(nthBlock p q).length=64:=by unfold nthBlock;rw [List.length_take,List.length_drop];omega
  have hcl:=zar s (nthBlock p q) hs8
  have hseg:Seg (p.map Sy.v8 ++ J) (64*q) ((nthBlock p q).map Sy.v8):=by
   refine Seg.at ?_
   unfold nthBlock
   rw [List.length_map,List.length_take,List.length_drop,Nat.min_eq_left (by omega),List.drop_append_of_le_length (by simp;omega),List.take_append_of_le_length (by simp;omega)]
   rw [<-List.map_drop,<-List.map_take]
  have hmv:movA (some ⟨b,0,none⟩) (64*q) cp 1=some ⟨b,64*q,none⟩:=by rw [zeL (by omega)];simp
  repeat' (first|refine s_t ?_|(refine za (id:=4) ?_;refine zb ?_;refine zb ?_;refine zq ?_;refine zN ?_)|(refine zK (id:=6) 6 [[],[],[],[],[3],[1,2,3,4],[0,1,2,3,4,5],[0,1,2,3,4,5,6]] mixed ?_ ?_;kernel_rfl;refine zaD ?_;refine zp ?_;refine zp ?_;refine zp ?_;refine zlT ?_;refine zc0 ?_;refine zU ?_;refine yv (zf (hc:=λw' X hk hh=>znc b (64*q) _ kb ko kc s (nthBlock p q) w' hs8 hbl (Reads.blk (by exact Has.here) hseg w' X hk hh) (hk.cell hG (λh=>h)) (λj v hj=>hk.cell (hK j v hj) (λh=>h)))) (k:=?_);refine zB ?_)|(refine za (id:=5) ?_;refine zb ?_;refine zY ?_;refine zd ?_)|fail)
  refine zy (q+1) ?_ ?_ ?_ ?_
  ·show q+1<=q0;omega
  ·show q0 - (q+1) < q0 - q;omega
  ·exact Sub.go
  ·(repeat' (first|exact SubR.nil|(apply SubR.same;with_reducible (focus ((repeat (first|exact Rem.here|apply Rem.there));done)))|(apply SubR.blk;(focus ((repeat (first|exact Rem.here|apply Rem.there));done)))|(apply SubR.pick;(focus ((repeat (first|exact Rem.here|apply Rem.there));done)))|rfl))
   rw [zhu _ _ _ hlt,fold_snoc,hs]
 obtain rfl:q=q0:=by omega
 have hw:fold h0 ((whole q p).take q)=fold h0 (blocks l l.length):=by
  rw [List.take_of_length_le (by rw [zdx];omega),ziN,hp,hm];congr 2;omega
 rw [hw]
 generalize hs:fold h0 (blocks l l.length)=s
 have hs8:s.length=8:=by rw [<-hs];exact zbK _ _ rfl
 have hser:(ser s).length=32:=by rw [zdT,hs8]
 repeat' (first|refine s_t ?_|(refine za (id:=4) ?_;refine zb ?_;refine zb ?_;refine zq ?_;refine zN ?_)|(refine za (id:=7) ?_;(refine zi ?_;intro _))|(refine za (id:=8) ?_;refine zd ?_)|fail)
 rename_i b6
 refine zE (γ:=Nat×List UInt8) (λg=>[(2,.pointer (some ⟨b2,0,none⟩)),(3,.pointer (some ⟨b3,0,none⟩)),(6,.pointer (some ⟨b6,0,none⟩)),(7,.int .i64 g.1)])
  (λg=>[.blk b6 66 (g.2.map Sy.v8),.blk b3 128 (s.map vi),.blk b2 66 (List.replicate 32 (.int .u8 0))])
  (λg=>g.1<=32/\g.2.length=32/\g.2.take g.1=(ser s).take g.1) (λg=>32 - g.1) (0,List.replicate 32 0) ⟨by omega,by simp,rfl⟩ ?_ ?_ ?_
 ·exact Sub.go
 ·exact SubR.go
 rintro ⟨i,C⟩ ⟨hi,hC,hT⟩
 dsimp only at *
 by_cases hlt:i < 32
 ·have cw:=zbY vi (l:=s) (i:=i / 4) (by omega) 0
  have cg:=zlg s i (by omega)
  generalize hx:s.getD (i / 4) 0=x at *
  obtain ⟨m,hmm⟩: ∃m,m+8*(i % 4)=24:=⟨24 - 8*(i % 4),by omega⟩
  have e24:IntKind.i64.wrap (24 - 8*((i % 4:Nat):Int))=(m:Int):=by rw [wrapi _ (by omega) (by omega)];omega
  rw [show 24 - 8*(i % 4)=m from by omega] at cg
  obtain ⟨q1,q2⟩:=znG x m
  repeat' (first|refine s_t ?_|(refine za (id:=9) ?_;refine zb ?_;refine zN ?_)|(refine za (id:=11) ?_;refine zb ?_;refine zb ?_;refine zry ?_;refine zr ?_;refine zD ?_;refine zb ?_;refine zlJ ?_;refine zdh ?_;refine yv (zJ (hr:=e24)) (k:=?_);refine yv (zat (hr:=shri32 _ _ m (by omega))) (k:=?_);refine yv (zau (hr:=q1)) (k:=?_);refine yv (zZ (hr:=q2)) (k:=?_);refine zr ?_;refine zB ?_)|(refine za (id:=10) ?_;refine zb ?_;refine zY ?_;refine zd ?_)|fail)
  refine zy (i+1,C.set i ((x >>> UInt32.ofNat m).toUInt8)) ?_ ?_ ?_ ?_
  ·exact ⟨by omega,by simp [hC],ziL (by omega) hT cg⟩
  ·show 32 - (i+1) < 32 - i;omega
  ·exact Sub.go
  ·(repeat' (first|exact SubR.nil|(apply SubR.same;with_reducible (focus ((repeat (first|exact Rem.here|apply Rem.there));done)))|(apply SubR.blk;(focus ((repeat (first|exact Rem.here|apply Rem.there));done)))|(apply SubR.pick;(focus ((repeat (first|exact Rem.here|apply Rem.there));done)))|rfl))
   rw [List.map_set];rfl
 obtain rfl:i=32:=by omega
 rw [List.take_of_length_le (by omega),List.take_of_length_le (by omega)] at hT
 repeat' (first|refine s_0 ?_|(refine za (id:=9) ?_;refine zb ?_;refine zN ?_)|(refine za (id:=12) ?_;refine zD ?_;refine zB ?_)|fail)
 refine ret1 rfl (resCells rfl (ty rfl) rfl Has.go Seg.all (by first|rfl|(simp only [List.length_map,List.length_set,List.length_replicate,List.length_append];omega)|(simp only [List.length_map];first|assumption|omega)|(simp;omega)|fail)) SubR.nil ⟨?_,rfl⟩
 rw [hT,<-hs];rfl
end Go.Proofs.YtcpjfilcilcekaaGreatDoor
end
section
namespace Go.Proofs.YtcpjfilcilcekaaGreatDoor
open Go Go.Sy Go.Sh Go.RowKit
attribute [local irreducible] Sy SyL SyX Sy.Fn callFunc
set_option maxRecDepth 10000
structure Tab (w:World) (M:Nat->Prop):Prop where
 start:w.rangeAt 2 0 (h0.map Sy.v32)
 konst:w.rangeAt 3 0 (kC.map Sy.v32)
 ns: ¬M 2
 nk: ¬M 3
theorem Tab.to {w0 w:World}{M Mi:Nat->Prop}(h:Tab w0 M) (hk:Keep M w0 w) (hm: ∀b,Mi b->w0.heap.size<=b\/M b):Tab w Mi:=by
 obtain ⟨a1,a2⟩:=zcY h.start (by decide) h.ns hk hm
 obtain ⟨a3,a4⟩:=zcY h.konst (by decide) h.nk hk hm
 exact ⟨a1,a3,a2,a4⟩
theorem Tab.no {w0 w:World}{M:Nat->Prop}(h:Tab w0 M) (hk:Keep M w0 w):Tab w No:=h.to hk (λ_ h=>h.elim)
theorem zgB (S T o b bo:Nat) (C:List Value) (s:List UInt32) (blk:List UInt8) (w:World) (hs:s.length=8) (hb:blk.length=64) (hC:(Res.blk S T C).holds w) (hseg:Seg C o (s.map Sy.v32)) (ho:o+8<=C.length)
  (hB:w.rangeAt b bo (blk.map Sy.v8)) (hK:w.rangeAt 3 0 (kC.map Sy.v32)):
  Sy.Fn Tryz.prog 161 [.pointer (some ⟨S,o,none⟩),.slice (some ⟨b,bo,none⟩) 64 64] w (λx=>x=S) (λv R=>v= .tuple #[]/\R= [.blk S T (setSeg C o ((compress s blk).map Sy.v32))]):=by
 have h:=zpO S o b bo s blk w hs hb (zz hC hseg) (zfr hC ho) hB hK
 unfold Sy.Fn
 refine Calls.mono h ?_
 rintro e w' ⟨rfl,hw⟩
 have hsz:(w.setCells S o ((compress s blk).map Sy.v32)).heap.size=w.heap.size:=Go.Wd.size_setCells S _ o w
 have hk1:=Sy.Keep.setCells S ((compress s blk).map Sy.v32) o w
 have hk2:Sy.Keep (λx=>x=S) (w.setCells S o ((compress s blk).map Sy.v32)) w':=Sy.Keep.of_below (by rw [hsz];exact hw)
 have hb1:=zcR ((compress s blk).map Sy.v32) C o w hC (by rw [List.length_map,zar _ _ hs];exact ho)
 refine ⟨_,_,rfl,⟨rfl,rfl⟩,hk1.trans hk2 (λx hx=> .inr hx),⟨?_,List.pairwise_singleton _ _,?_⟩⟩
 ·intro r hr
  obtain rfl:=List.mem_singleton.1 hr
  refine Res.holds_congr hb1 λx hx=>?_
  have hx:S=x:=hx
  subst hx
  exact hw.block _ (Res.own_lt hC rfl)
 ·intro r hr x hx
  obtain rfl:=List.mem_singleton.1 hr
  exact .inr (Eq.symm hx)
theorem zhB (S T b bo:Nat) (s:List UInt32) (blk:List UInt8) (w:World) (hs:s.length=8) (hb:blk.length=64) (hC:(Res.blk S T (s.map Sy.v32)).holds w)
  (hB:w.rangeAt b bo (blk.map Sy.v8)) (hK:w.rangeAt 3 0 (kC.map Sy.v32)):
  Sy.Fn Tryz.prog 161 [.pointer (some ⟨S,0,none⟩),.slice (some ⟨b,bo,none⟩) 64 64] w (λx=>x=S) (λv R=>v= .tuple #[]/\R= [.blk S T ((compress s blk).map Sy.v32)]):=by
 have h:=zgB S T 0 b bo _ s blk w hs hb hC Seg.all (by simp [hs]) hB hK
 rw [zeQ (by simp [hs,zar s blk hs])] at h
 exact h
theorem zda (s:List UInt32) (bs:List (List UInt8)) (k:Nat) (h:k < bs.length):fold s (bs.take (k+1))=compress (fold s (bs.take k)) bs[k]:=by
 rw [List.take_succ_eq_append_getElem h,Sh.fold_snoc]
set_option maxHeartbeats 1000000 in
theorem zgF (a0:Option Addr) (n c:Nat) (l:List UInt8) (w:World) (hn:l.length=n) (hc:n<=c) (hb:n < 1000000000000) (hsl:SlA w a0 (l.map Sy.v8)) (hT:Tab w No):
  Sy.Fn Tryz.prog 143 [.slice a0 n c] w No (Gives (.agg ((sum l).map Sy.v8).toArray)):=by
 refine zk Tryz.func143 rfl Tryz.ntmps143 (by simp) Holds.nil ?_
 have hstart:=hT.start
 repeat' (first|refine s_0 ?_|(refine za (id:=0) ?_;(refine zi ?_;intro _))|(refine za (id:=1) ?_;refine zD ?_;(refine zi ?_;intro _);refine zB ?_)|(refine za (id:=2) ?_;refine zb ?_;refine zb ?_;refine zq ?_)|fail)
 rename_i bo bs
 refine ys (zn (hc:=λw' X hk hh=>zfX _ _ w' rfl)) (k:=?_)
 rintro _ _ ⟨R,rfl,b1,b2,rfl,rfl⟩
 repeat' (first|refine s_t ?_|fail)
 refine zea (γ:=Nat) (xs:=blocks l n) (Arg:=ArgB) zbA rfl (en rfl) rfl (λk s=>s=k) (λ_ _ _=>False) (λk=>[.blk bs 169 ((fold h0 ((blocks l n).take k)).map Sy.v32)])
  [.blk b1 22 [.slice a0 n c],.blk b2 3 [.int .i64 n]] [.blk bo 66 (List.replicate 32 (.int .u8 0))] 0 rfl ?_ ?_ ?_ ?_ ?_ ?_
 ·exact (List.perm_append_comm (l₁:=[_,_]) (l₂:=[_])).append_right _
 ·exact λw' Mi X hk hm _ _=>ze4 b1 b2 a0 n c n l w' Mi hn hc (by omega) (hsl.to hk hm)
 ·rintro O x vs RA w' ⟨b,o,rfl,_⟩;rfl
 ·rintro lp k hk s vs RA W rec hrec rfl ⟨b,o,rfl,rfl,hrd,hno⟩ hkW hmine
  have hT':=hT.to hkW hmine
  have hl8:(fold h0 ((blocks l n).take s)).length=8:=zbK _ _ rfl
  have hl64:(blocks l n)[s].length=64:=zeY _ _ _ (List.getElem_mem hk)
  have hfs:=zda h0 (blocks l n) s hk
  generalize fold h0 ((blocks l n).take s)=st at *
  generalize (blocks l n)[s]=x at *
  have hcl:=zar st x hl8
  repeat' (first|refine s_t ?_|(apply zbr;(focus ((repeat (first|exact Rem.here|apply Rem.there));done));assumption)|(refine za (id:=3) ?_;refine zd ?_)|(refine za (id:=4) ?_;refine zb ?_;refine yv (zbj (hc:=λw' X hk hh=>zhB bs 169 b o st x w' hl8 hl64 (hh.has (Has.append (Has.there Has.here))) (zaC hrd hk hno) (hT'.no hk).konst)) (k:=?_))|fail)
  refine zdQ (s+1) rfl ?_
  (repeat' (first|exact SubR.nil|(apply SubR.same;with_reducible (focus ((repeat (first|exact Rem.here|apply Rem.there));done)))|(apply SubR.blk;(focus ((repeat (first|exact Rem.here|apply Rem.there));done)))|(apply SubR.pick;(focus ((repeat (first|exact Rem.here|apply Rem.there));done)))|rfl))
  rw [hfs]
 ·rintro s rfl
  rw [List.take_length]
  have hf8:(fold h0 (blocks l n)).length=8:=zbK _ _ rfl
  have hsum:ser (fold h0 (blocks l n))=sum l:=by subst hn;rfl
  generalize fold h0 (blocks l n)=st at *
  have hs32:(ser st).length=32:=by rw [zdT,hf8]
  repeat' (first|refine s_0 ?_|(refine za (id:=5) ?_;refine zD ?_;refine yv (zf (hc:=λw' _ _ _=>zfu st w' hf8)) (k:=?_);refine zB ?_)|fail)
  exact ret1 rfl (resCells rfl (ty rfl) rfl Has.go Seg.all (by first|rfl|(simp only [List.length_map,List.length_set,List.length_replicate,List.length_append];omega)|(simp only [List.length_map];first|assumption|omega)|(simp;omega)|fail)) SubR.nil ⟨by rw [hsum],rfl⟩
 ·exact λ_ _ _ _ h=>h.elim
structure RTab (w:World) (M:Nat->Prop) (kb ko kc:Nat):Prop where
 cell:w.cell? ⟨1,0,none⟩=some (.slice (some ⟨kb,ko,none⟩) 64 kc)
 row:w.rangeAt kb ko (kC.map Wd.vi)
 nc: ¬M 1
 nr: ¬M kb
theorem RTab.to {w0 w:World}{M Mi:Nat->Prop}{kb ko kc:Nat}(h:RTab w0 M kb ko kc) (hk:Keep M w0 w) (hm: ∀b,Mi b->w0.heap.size<=b\/M b):RTab w Mi kb ko kc:=by
 obtain ⟨a1,a2⟩:=zcY h.row (by decide) h.nr hk hm
 have hlt:=World.block_lt_of_cell? w0 _ h.cell
 exact ⟨hk.cell h.cell h.nc,a1,λhb=>(hm _ hb).elim (λh'=>by dsimp only at hlt;omega) h.nc,a2⟩
theorem RTab.no {w0 w:World}{M:Nat->Prop}{kb ko kc:Nat}(h:RTab w0 M kb ko kc) (hk:Keep M w0 w):RTab w No kb ko kc:=h.to hk (λ_ h=>h.elim)
theorem zaZ (l:List UInt8):(Sh.sum l).length=32:=by
 unfold Sh.sum;rw [zdT,zbK _ _ rfl]
end Go.Proofs.YtcpjfilcilcekaaGreatDoor
end
section
namespace Go.Proofs.YtcpjfilcilcekaaGreatDoor
open Go Go.Sy Go.Wd Go.Sh Go.RowKit
theorem gStart:Tryz.prog.globalNamed "watchword/sha.start" =some 2:=by kernel_rfl
theorem gKonst:Tryz.prog.globalNamed "watchword/sha.constants" =some 3:=by kernel_rfl
theorem tyStart:(Tryz.prog.globals[2]?).map (·.type)=some 169:=by kernel_rfl
theorem tyKonst:(Tryz.prog.globals[3]?).map (·.type)=some 215:=by kernel_rfl
theorem dStart:(Rows.laid_watchword_sha_start:DataW Unit)=Lib.tabData .u32 (h0.map n32):=by kernel_rfl
theorem dKonst:(Rows.laid_watchword_sha_constants:DataW Unit)=Lib.tabData .u32 (kC.map n32):=by kernel_rfl
theorem undStart:Tryz.prog.underlying 169=some (.array 8 167):=by kernel_rfl
theorem undKonst:Tryz.prog.underlying 215=some (.array 64 167):=by kernel_rfl
theorem undU32:Tryz.prog.underlying 167=some (.int .u32):=by kernel_rfl
theorem cellsU32:Tryz.prog.cellsOf 167=1:=by kernel_rfl
theorem cellsStart:Tryz.prog.cellsOf 169=8:=by kernel_rfl
theorem cellsKonst:Tryz.prog.cellsOf 215=64:=by kernel_rfl
theorem zqX {W:World}{l:List (String×DataW Unit)}(h:laidMet Tryz.prog l W) (h1:("watchword/sha.start",Rows.laid_watchword_sha_start)∈l) (h2:("watchword/sha.constants",Rows.laid_watchword_sha_constants)∈l):Tab W No:=by
 rw [dStart] at h1
 rw [dKonst] at h2
 have a1:=zjX h h1 gStart tyStart undStart undU32 cellsU32 cellsStart
 have a2:=zjX h h2 gKonst tyKonst undKonst undU32 cellsU32 cellsKonst
 rw [List.map_map] at a1 a2
 exact ⟨a1,a2,λh=>h,λh=>h⟩
noncomputable def laidWorldP (os:Os):World:=
 { laidWorldG os with heap:=((laidWorldG os).heap.modify 2 (putCells (h0.map Sy.v32))).modify 3 (putCells (kC.map Sy.v32)) }
end Go.Proofs.YtcpjfilcilcekaaGreatDoor
end
section
namespace Go.Proofs.YtcpjfilcilcekaaGreatDoor
open Go Go.Sy Go.Wd Go.Sh Go.RowKit
theorem gRef:Tryz.prog.globalNamed "watchword/watchwordref04.constants" =some 1:=by kernel_rfl
theorem tyRef:(Tryz.prog.globals[1]?).map (·.type)=some 30:=by kernel_rfl
theorem dRef:(Rows.laid_watchword_watchwordref04_constants:DataW Unit)= .slice ((kC.map n32).map λz=> .lit (.int .i64 z)) []:=by kernel_rfl
theorem undInts:Tryz.prog.underlying 30=some (.slice 3):=by kernel_rfl
theorem undInt:Tryz.prog.underlying 3=some (.int .i64):=by kernel_rfl
theorem cellsInt:Tryz.prog.cellsOf 3=1:=by kernel_rfl
theorem undLists:Tryz.prog.underlying 43=some (.slice 22):=by kernel_rfl
theorem cellsBytes:Tryz.prog.cellsOf 22=1:=by kernel_rfl
theorem zpZ {W:World}{l:List (String×DataW Unit)}(h:laidMet Tryz.prog l W) (h1:("watchword/watchwordref04.constants",Rows.laid_watchword_watchwordref04_constants)∈l): ∃kb ko kc,RTab W No kb ko kc:=by
 rw [dRef] at h1
 obtain ⟨b,o,c,h2,h3⟩:=zlR h h1 gRef tyRef undInts undInt cellsInt (by decide)
 rw [List.map_map] at h3
 exact ⟨b,o,c,⟨h2,h3,λh=>h,λh=>h⟩⟩
noncomputable def laidWorldR (os:Os):World:=
 { laidWorldP os with heap:=(((laidWorldP os).heap).modify 1 (putCells [.slice (some ⟨(laidWorldP os).heap.size,0,none⟩) 64 64])).push (.cells (kC.map Wd.vi).toArray 3) }
end Go.Proofs.YtcpjfilcilcekaaGreatDoor
end
section
namespace Go.Sy
open Go
section
variable {P:Program}{ro:Option Nat}{N:Nat}{w0:World}{M:Nat->Prop}{ds:List Deferred}{o:Oper}{g:Nat->Option Value}{L:List Res}{t:TypeId}{y:Ty}
theorem zlm {e n c':Nat}{lo co:Operand}{k1 k2:IntKind}{z0:Value}{l c:Int}{ye:Ty}(hnc:n<=c') (hln:l=(n:Int):=by exact rfl) (hcn:c=(c':Int):=by exact rfl) (ho:o.op= .makeSlice t lo co:=by exact rfl) (hl:ev g lo=some (.int k1 l):=by exact rfl) (hc:ev g co=some (.int k2 c):=by exact rfl) (ht:tyOf P t=some y:=by exact ty rfl) (hy:y.desc= .slice e:=by exact rfl) (he:tyOf P e=some ye:=by exact ty rfl)
  (hz:zeroC P e=some [z0]:=by exact zc rfl) (h1:ye.size=1:=by exact rfl) (hb:ye.bytes*c'<=281474976710656:=by first|(dsimp only;omega)|omega|fail) (hm:c'<=maxLen:=by first|(unfold maxLen;omega)|fail):
  OpT P ro N w0 M ds o g L (λv L'=>∃b,v= .slice (some ⟨b,0,none⟩) n c'/\L'= .blk b e (List.replicate c' z0)::L):=
 OpT.run (by rw [ho];rfl) λa w X hst=>by
  obtain ⟨d,i',hd,hi',hs',_⟩:=zF ht
  rw [hy] at hs'
  have:=zam hs';subst this
  obtain ⟨de,ie,hde,hie,_,hez,heb,_⟩:=zF he
  unfold zeroC at hz
  rw [hie] at hz
  simp only [Option.bind_some,Option.map_eq_some_iff] at hz
  obtain ⟨zv,hzv,hze⟩:=hz
  subst hln;subst hcn
  obtain ⟨h2,h3⟩:=za9 hst e (List.replicate c' z0)
  refine ⟨_,_,w.alloc (.cells (List.replicate c' z0).toArray e),_,?_,.inl rfl,⟨w.heap.size,rfl,rfl⟩,h2,h3⟩
  have hm':c'<=9223372036854775807:=by unfold maxLen at hm;omega
  have hzs:zv.cells= #[z0]:=Array.toList_inj.1 hze
  have hr:=run_make (P:=P) w t e ie zv hd hie hzv k1 k2 n c' (by omega) (by omega) (by rw [heb,<-Int.natCast_mul];omega) (by omega)
  simp only [Int.toNat_natCast] at hr
  have e1:madeCells zv.cells (c'*ie.size)=(List.replicate c' z0).toArray:=by
   rw [hez,h1,Nat.mul_one,hzs];exact Array.toList_inj.1 (toList_madeCells_one z0 c')
  rw [e1] at hr
  simp [execOp,ho,hst.agr.eval hl,hst.agr.eval hc,hr]
end
end Go.Sy
end
