/- The specification's hash of a string, walked. -/
import Derived.Test.YtdnlngbjpdbffaaGreatDoorLJ29
import Derived.Test.YtdnlngbjpdbffaaGreatDoorLJ27
import Derived.Test.YtdnlngbjpdbffaaGreatDoorLJ28
import Derived.Test.YtdnlngbjpdbffaaGreatDoorLJ23
import Derived.Test.YtdnlngbjpdbffaaGreatDoorLJ13
import Derived.ScopeJumps
set_option maxHeartbeats 1000000
set_option maxRecDepth 10000
set_option linter.all false
section
namespace Go.Sh
open Go.Wd Go.RowKit
theorem zf0 (s:List UInt32):(ser s).length=4*s.length:=by
 induction s with
 |nil=>rfl
 |cons x s ih=>simp only [ser,List.flatMap_cons,List.length_append] at *;rw [ih];simp [be4];omega
theorem zlx: ∀(s:List UInt32) (i:Nat),i < 4*s.length->(ser s)[i]?=some ((s.getD (i / 4) 0 >>> UInt32.ofNat (24 - 8*(i % 4))).toUInt8)
 | [],i,h=>by simp at h
 |x::s,i,h=>by
  have e:ser (x::s)=be4 x ++ ser s:=by simp [ser]
  rw [e];by_cases h4:i < 4
  ·rw [List.getElem?_append_left (by simp [be4];omega)];have:i=0\/i=1\/i=2\/i=3:=q_o;rcases this with rfl|rfl|rfl|rfl <;> rfl
  ·rw [List.getElem?_append_right (by simp [be4];omega)];have hl:(be4 x).length=4:=rfl;rw [hl,zlx s (i - 4) (by simp at h;omega)];rw [show i / 4=(i - 4) / 4+1 from by omega,show i % 4=(i - 4) % 4 from by omega];rfl
theorem ziA {α:Type}{C L:List α}{k:Nat}{v:α}(h:k < C.length) (hL:C.take k=L.take k) (hv:L[k]?=some v):(C.set k v).take (k+1)=L.take (k+1):=by
 obtain ⟨hk,he⟩:=List.getElem?_eq_some_iff.1 hv;rw [zax h hL v,List.take_succ_eq_append_getElem hk,he]
def nthBlock (b:List UInt8) (q:Nat):List UInt8:=(b.drop (64*q)).take 64
theorem zgP (n q:Nat) (b:List UInt8) (h:q < n):(whole n b).take (q+1)=(whole n b).take q ++ [nthBlock b q]:=by
 have:=zfJ n q b h;obtain ⟨hk,he⟩:=List.getElem?_eq_some_iff.1 this;rw [List.take_succ_eq_append_getElem hk,he];rfl
theorem fold_snoc (s:List UInt32) (l:List (List UInt8)) (x:List UInt8):fold s (l ++ [x])=compress (fold s l) x:=by simp [fold]
theorem zcZ: ∀(l:List (List UInt8)) (s:List UInt32),s.length=8->(fold s l).length=8
 | [],s,h=>h
 |x::l,s,h=>zcZ l _ (zbN s x h)
theorem zpg (x:UInt32) (m:Nat):(n32 (x >>> UInt32.ofNat m)).tmod 256=n32 (x >>> UInt32.ofNat m) % 256/\IntKind.u8.wrap (n32 (x >>> UInt32.ofNat m) % 256)=n8 ((x >>> UInt32.ofNat m).toUInt8):=by
 refine ⟨Int.tmod_eq_emod_of_nonneg (zH _),?_⟩;rw [<-zb4,IntKind.wrap_u8,IntKind.wrap_u8,Int.emod_emod_of_dvd _ (Int.dvd_refl _)]
end Go.Sh
namespace Go.Proofs.YtdnlngbjpdbffaaGreatDoor
open Go Go.Sy Go.Wd Go.Sh
attribute [local irreducible] Sy SyL SyX Sy.Fn callFunc
theorem zoZ (a0:Option Addr) (n c kb ko kc:Nat) (l:List UInt8) (w:World) (hn:l.length=n) (hb:n < 1000000000000) (hl:SlA w a0 (l.map Sy.v8)) (hc:a0=none->c=0)
  (hG:w.cell? ⟨5,0,none⟩=some (.slice (some ⟨kb,ko,none⟩) 64 kc)) (hK:w.rangeAt kb ko (kC.map vi)):
  Sy.Fn Tryz.prog 224 [.slice a0 n c] w No (Gives (.agg ((sum l).map Sy.v8).toArray)):=by
 refine zg Tryz.func224 rfl Tryz.ntmps224 q_p Holds.nil ?_;repeat' (first|refine s_0 ?_|(refine zb 0 ?_;refine zj ?_;intro _)|(refine zb 1 ?_;refine za4 ?_;refine zj ?_;intro _;refine zI ?_)|(refine zb 2 (za ?_)))
 rename_i b2 b3;refine ys (zh (hc:=λw' X hk hh=>zlM a0 n c l w' hn hb (hl.keep hk (λ_ _ h=>h)) hc)) (k:=?_);rintro _ _ ⟨R,rfl,a,cp,rfl,rfl⟩;repeat' (first|refine s_t ?_|(refine zb 3 (za ?_))|(refine zP ?_;first|refine zx ?_|fail)|fail)
 have hpl:=ze0 l;have hz:zeros l.length=(119 - l.length % 64) % 64:=rfl;generalize hp:padded l=p at *;generalize hm:p.length=m at *;refine zf3 (by exact Rem.here) q_o ?_;rintro b J rfl h1 h2 h3 h4;obtain ⟨q0,hq0⟩: ∃q0,m=64*q0:=⟨m / 64,by omega⟩;refine zy (γ:=Nat) (λq=>[(2,.pointer (some ⟨b2,0,none⟩)),(3,.pointer (some ⟨b3,0,none⟩)),(4,.slice (some ⟨b,0,none⟩) m cp),(5,.int .i64 ((64*q:Nat):Int))])
  (λq=>[.blk b 5 (p.map Sy.v8 ++ J),.blk b3 275 ((fold h0 ((whole q0 p).take q)).map vi),.blk b2 199 (List.replicate 32 (.int .u8 0))])
  (λq=>q<=q0) (λq=>q0 - q) 0 (Nat.zero_le _) ?_ ?_ ?_
 ·exact q_h
 ·exact q_h
 intro q hq;by_cases hlt:q < q0
 ·generalize hs:fold h0 ((whole q0 p).take q)=s;have hs8:s.length=8:=by rw [<-hs];exact zcZ _ _ rfl
  have hbl:(nthBlock p q).length=64:=by unfold nthBlock;rw [List.length_take,List.length_drop];omega
  have hcl:=zbN s (nthBlock p q) hs8;have hseg:Seg (p.map Sy.v8 ++ J) (64*q) ((nthBlock p q).map Sy.v8):=by
   refine Seg.at ?_;unfold nthBlock;rw [List.length_map,List.length_take,List.length_drop,Nat.min_eq_left q_o,List.drop_append_of_le_length (by simp;omega),List.take_append_of_le_length (by simp;omega)];rw [<-List.map_drop,<-List.map_take]
  have hmv:movA (some ⟨b,0,none⟩) (64*q) cp 1=some ⟨b,64*q,none⟩:=by rw [zeD q_o];simp
  repeat' (first|refine s_t ?_|(refine zb 4 (za ?_);refine zL ?_)|(refine zM (id:=6) 6 [[],[],[],[],[3],[1,2,3,4],[0,1,2,3,4,5],[0,1,2,3,4,5,6]] mixed ?_ ?_;kernel_rfl;refine zal ?_;refine zk ?_;refine zk ?_;refine zk ?_;refine zmf ?_;refine zqx ?_;refine zY ?_;refine yv (zd (hc:=λw' X hk hh=>znz b (64*q) _ kb ko kc s (nthBlock p q) w' hs8 hbl (Reads.blk (by exact Has.here) hseg w' X hk hh) (hk.cell hG (λh=>h)) (λj v hj=>hk.cell (hK j v hj) (λh=>h)))) (k:=?_);refine zI ?_)|(refine zb 5 (za ?_);refine zaj ?_;refine za ?_))
  refine zq (q+1) ?_ ?_ ?_ ?_
  ·show q+1<=q0;omega
  ·show q0 - (q+1) < q0 - q;omega
  ·exact q_h
  ·(repeat' (first|exact SubR.nil|(apply SubR.same;with_reducible (focus ((repeat (first|exact Rem.here|apply Rem.there));done)))|(apply SubR.blk;(focus ((repeat (first|exact Rem.here|apply Rem.there));done)))|(apply SubR.pick;(focus ((repeat (first|exact Rem.here|apply Rem.there));done)))|rfl))
   rw [zgP _ _ _ hlt,fold_snoc,hs]
 obtain rfl:q=q0:=q_o;have hw:fold h0 ((whole q p).take q)=fold h0 (blocks l l.length):=by
  rw [List.take_of_length_le (by rw [zds];omega),ziz,hp,hm];congr 2;omega
 rw [hw];generalize hs:fold h0 (blocks l l.length)=s;have hs8:s.length=8:=by rw [<-hs];exact zcZ _ _ rfl
 have hser:(ser s).length=32:=by rw [zf0,hs8]
 repeat' (first|refine s_t ?_|(refine zb 4 (za ?_);refine zL ?_)|(refine zb 7 ?_;refine zj ?_;intro _)|(refine zb 8 (za ?_)))
 rename_i b6;refine zy (γ:=Nat×List UInt8) (λg=>[(2,.pointer (some ⟨b2,0,none⟩)),(3,.pointer (some ⟨b3,0,none⟩)),(6,.pointer (some ⟨b6,0,none⟩)),(7,.int .i64 g.1)])
  (λg=>[.blk b6 199 (g.2.map Sy.v8),.blk b3 275 (s.map vi),.blk b2 199 (List.replicate 32 (.int .u8 0))])
  (λg=>g.1<=32/\g.2.length=32/\g.2.take g.1=(ser s).take g.1) (λg=>32 - g.1) (0,List.replicate 32 0) ⟨by omega,by simp,rfl⟩ ?_ ?_ ?_
 ·exact q_h
 ·exact q_h
 rintro ⟨i,C⟩ ⟨hi,hC,hT⟩;dsimp only at *;by_cases hlt:i < 32
 ·have cw:=zbV vi (l:=s) (i:=i / 4) q_o 0;have cg:=zlx s i q_o;generalize hx:s.getD (i / 4) 0=x at *;obtain ⟨m,hmm⟩: ∃m,m+8*(i % 4)=24:=⟨24 - 8*(i % 4),by omega⟩;have e24:IntKind.i64.wrap (24 - 8*((i % 4:Nat):Int))=(m:Int):=by rw [wrapi _ q_o q_o];omega
  rw [show 24 - 8*(i % 4)=m from by omega] at cg;obtain ⟨q1,q2⟩:=zpg x m;repeat' (first|refine s_t ?_|(refine zb 9 (za ?_);refine zL ?_)|(refine zb 11 (za ?_);refine zsa ?_;refine zw ?_;refine zm ?_;refine za ?_;refine zlS ?_;refine zdo ?_;refine yv (zD (hr:=e24)) (k:=?_);refine yv (zaJ (hr:=shri32 _ _ m q_o)) (k:=?_);refine yv (zap (hr:=q1)) (k:=?_);refine yv (z5 (hr:=q2)) (k:=?_);refine zw ?_;refine zI ?_)|(refine zb 10 (za ?_);refine zaj ?_;refine za ?_))
  refine zq (i+1,C.set i ((x >>> UInt32.ofNat m).toUInt8)) ?_ ?_ ?_ ?_
  ·exact ⟨by omega,by simp [hC],ziA q_o hT cg⟩
  ·show 32 - (i+1) < 32 - i;omega
  ·exact q_h
  ·(repeat' (first|exact SubR.nil|(apply SubR.same;with_reducible (focus ((repeat (first|exact Rem.here|apply Rem.there));done)))|(apply SubR.blk;(focus ((repeat (first|exact Rem.here|apply Rem.there));done)))|(apply SubR.pick;(focus ((repeat (first|exact Rem.here|apply Rem.there));done)))|rfl))
   rw [List.map_set];rfl
 obtain rfl:i=32:=q_o;rw [List.take_of_length_le q_o,List.take_of_length_le q_o] at hT;repeat' (first|refine s_0 ?_|(refine zb 9 (za ?_);refine zL ?_)|(refine zb 12 ?_;refine zm ?_;refine zI ?_))
 refine ret1 rfl (resCells rfl (ty rfl) rfl Has.go Seg.all (by first|rfl|(simp only [List.length_map,List.length_set,List.length_replicate,List.length_append];omega)|(simp only [List.length_map];first|assumption|omega)|(simp;omega)|fail)) SubR.nil ⟨?_,rfl⟩;rw [hT,<-hs];rfl
end Go.Proofs.YtdnlngbjpdbffaaGreatDoor
end
section
namespace Go.Proofs.YtdnlngbjpdbffaaGreatDoor
open Go Go.Sy Go.Sh Go.RowKit
attribute [local irreducible] Sy SyL SyX Sy.Fn callFunc
structure Tab (w:World) (M:Nat->Prop):Prop where
 start:w.rangeAt 1 0 (h0.map Sy.v32)
 konst:w.rangeAt 3 0 (kC.map Sy.v32)
 ns: ¬M 1
 nk: ¬M 3
theorem Tab.to {w0 w:World}{M Mi:Nat->Prop}(h:Tab w0 M) (hk:Keep M w0 w) (hm: ∀b,Mi b->w0.heap.size<=b\/M b):Tab w Mi:=by
 obtain ⟨a1,a2⟩:=zb6 h.start q_e h.ns hk hm;obtain ⟨a3,a4⟩:=zb6 h.konst q_e h.nk hk hm;exact ⟨a1,a3,a2,a4⟩
theorem Tab.no {w0 w:World}{M:Nat->Prop}(h:Tab w0 M) (hk:Keep M w0 w):Tab w No:=h.to hk (λ_ h=>h.elim)
theorem zow (S T o b bo:Nat) (C:List Value) (s:List UInt32) (blk:List UInt8) (w:World) (hs:s.length=8) (hb:blk.length=64) (hC:(Res.blk S T C).holds w) (hseg:Seg C o (s.map Sy.v32)) (ho:o+8<=C.length)
  (hB:w.rangeAt b bo (blk.map Sy.v8)) (hK:w.rangeAt 3 0 (kC.map Sy.v32)):
  Sy.Fn Tryz.prog 247 [.pointer (some ⟨S,o,none⟩),.slice (some ⟨b,bo,none⟩) 64 64] w (λx=>x=S) (λv R=>v= .tuple #[]/\R= [.blk S T (setSeg C o ((compress s blk).map Sy.v32))]):=by
 have h:=zqz S o b bo s blk w hs hb (zp hC hseg) (zfN hC ho) hB hK;unfold Sy.Fn;refine Calls.mono h ?_;rintro e w' ⟨rfl,hw⟩;have hsz:(w.setCells S o ((compress s blk).map Sy.v32)).heap.size=w.heap.size:=Go.Wd.size_setCells S _ o w;have hk1:=Sy.Keep.setCells S ((compress s blk).map Sy.v32) o w;have hk2:Sy.Keep (λx=>x=S) (w.setCells S o ((compress s blk).map Sy.v32)) w':=Sy.Keep.of_below (by rw [hsz];exact hw);have hb1:=zcN ((compress s blk).map Sy.v32) C o w hC (by rw [List.length_map,zbN _ _ hs];exact ho);refine ⟨_,_,rfl,⟨rfl,rfl⟩,hk1.trans hk2 (λx hx=> .inr hx),⟨?_,List.pairwise_singleton _ _,?_⟩⟩
 ·intro r hr;obtain rfl:=List.mem_singleton.1 hr;refine Res.holds_congr hb1 λx hx=>?_;have hx:S=x:=hx;subst hx;exact hw.block _ (Res.own_lt hC rfl)
 ·intro r hr x hx;obtain rfl:=List.mem_singleton.1 hr;exact .inr (Eq.symm hx)
theorem zqq (S T b bo:Nat) (s:List UInt32) (blk:List UInt8) (w:World) (hs:s.length=8) (hb:blk.length=64) (hC:(Res.blk S T (s.map Sy.v32)).holds w)
  (hB:w.rangeAt b bo (blk.map Sy.v8)) (hK:w.rangeAt 3 0 (kC.map Sy.v32)):
  Sy.Fn Tryz.prog 247 [.pointer (some ⟨S,0,none⟩),.slice (some ⟨b,bo,none⟩) 64 64] w (λx=>x=S) (λv R=>v= .tuple #[]/\R= [.blk S T ((compress s blk).map Sy.v32)]):=by
 have h:=zow S T 0 b bo _ s blk w hs hb hC Seg.all (by simp [hs]) hB hK;rw [zeP (by simp [hs,zbN s blk hs])] at h;exact h
theorem zhA (s:List UInt32) (bs:List (List UInt8)) (k:Nat) (h:k < bs.length):fold s (bs.take (k+1))=compress (fold s (bs.take k)) bs[k]:=by
 rw [List.take_succ_eq_append_getElem h,Sh.fold_snoc]
theorem zoT (a0:Option Addr) (n c:Nat) (l:List UInt8) (w:World) (hn:l.length=n) (hc:n<=c) (hb:n < 1000000000000) (hsl:SlA w a0 (l.map Sy.v8)) (hT:Tab w No):
  Sy.Fn Tryz.prog 185 [.slice a0 n c] w No (Gives (.agg ((sum l).map Sy.v8).toArray)):=by
 refine zg Tryz.func185 rfl Tryz.ntmps185 q_p Holds.nil ?_;have hstart:=hT.start;repeat' (first|refine s_0 ?_|(refine zb 0 ?_;refine zj ?_;intro _)|(refine zb 1 ?_;refine zm ?_;refine zj ?_;intro _;refine zI ?_)|(refine zb 2 (za ?_)))
 rename_i bo bs;refine ys (zh (hc:=λw' X hk hh=>znb _ _ w' rfl)) (k:=?_);rintro _ _ ⟨R,rfl,b1,b2,rfl,rfl⟩;repeat' (first|refine s_t ?_|fail)
 refine zdT (γ:=Nat) (xs:=blocks l n) (Arg:=ArgB) zbE rfl (en rfl) rfl (λk s=>s=k) (λ_ _ _=>False) (λk=>[.blk bs 249 ((fold h0 ((blocks l n).take k)).map Sy.v32)])
  [.blk b1 23 [.slice a0 n c],.blk b2 3 [.int .i64 n]] [.blk bo 199 (List.replicate 32 (.int .u8 0))] 0 rfl ?_ ?_ ?_ ?_ ?_ ?_
 ·exact (List.perm_append_comm (l₁:=[_,_]) (l₂:=[_])).append_right _
 ·exact λw' Mi X hk hm _ _=>zl7 b1 b2 a0 n c n l w' Mi hn hc q_o (hsl.to hk hm)
 ·rintro O x vs RA w' ⟨b,o,rfl,_⟩;rfl
 ·rintro lp k hk s vs RA W rec hrec rfl ⟨b,o,rfl,rfl,hrd,hno⟩ hkW hmine;have hT':=hT.to hkW hmine;have hl8:(fold h0 ((blocks l n).take s)).length=8:=zcZ _ _ rfl;have hl64:(blocks l n)[s].length=64:=zl0 _ _ _ (List.getElem_mem hk);have hfs:=zhA h0 (blocks l n) s hk;generalize fold h0 ((blocks l n).take s)=st at *;generalize (blocks l n)[s]=x at *;have hcl:=zbN st x hl8;repeat' (first|refine s_t ?_|(apply za6;(focus ((repeat (first|exact Rem.here|apply Rem.there));done));assumption)|(refine zb 3 (za ?_))|(refine zb 4 (za ?_);refine yv (ziS (hc:=λw' X hk hh=>zqq bs 249 b o st x w' hl8 hl64 (hh.has (Has.append (Has.there Has.here))) (zaw hrd hk hno) (hT'.no hk).konst)) (k:=?_)))
  refine zdN (s+1) rfl ?_
  (repeat' (first|exact SubR.nil|(apply SubR.same;with_reducible (focus ((repeat (first|exact Rem.here|apply Rem.there));done)))|(apply SubR.blk;(focus ((repeat (first|exact Rem.here|apply Rem.there));done)))|(apply SubR.pick;(focus ((repeat (first|exact Rem.here|apply Rem.there));done)))|rfl))
  rw [hfs]
 ·rintro s rfl;rw [List.take_length];have hf8:(fold h0 (blocks l n)).length=8:=zcZ _ _ rfl;have hsum:ser (fold h0 (blocks l n))=sum l:=by subst hn;rfl
  generalize fold h0 (blocks l n)=st at *;have hs32:(ser st).length=32:=by rw [zf0,hf8]
  repeat' (first|refine s_0 ?_|(refine zb 5 ?_;refine zm ?_;refine yv (zd (hc:=λw' _ _ _=>zmx st w' hf8)) (k:=?_);refine zI ?_))
  exact ret1 rfl (resCells rfl (ty rfl) rfl Has.go Seg.all (by first|rfl|(simp only [List.length_map,List.length_set,List.length_replicate,List.length_append];omega)|(simp only [List.length_map];first|assumption|omega)|(simp;omega)|fail)) SubR.nil ⟨by rw [hsum],rfl⟩
 ·exact λ_ _ _ _ h=>h.elim
structure RTab (w:World) (M:Nat->Prop) (kb ko kc:Nat):Prop where
 cell:w.cell? ⟨5,0,none⟩=some (.slice (some ⟨kb,ko,none⟩) 64 kc)
 row:w.rangeAt kb ko (kC.map Wd.vi)
 nc: ¬M 5
 nr: ¬M kb
theorem RTab.to {w0 w:World}{M Mi:Nat->Prop}{kb ko kc:Nat}(h:RTab w0 M kb ko kc) (hk:Keep M w0 w) (hm: ∀b,Mi b->w0.heap.size<=b\/M b):RTab w Mi kb ko kc:=by
 obtain ⟨a1,a2⟩:=zb6 h.row q_e h.nr hk hm;have hlt:=World.block_lt_of_cell? w0 _ h.cell;exact ⟨hk.cell h.cell h.nc,a1,λhb=>(hm _ hb).elim (λh'=>by dsimp only at hlt;omega) h.nc,a2⟩
theorem RTab.no {w0 w:World}{M:Nat->Prop}{kb ko kc:Nat}(h:RTab w0 M kb ko kc) (hk:Keep M w0 w):RTab w No kb ko kc:=h.to hk (λ_ h=>h.elim)
theorem zlc (l:List UInt8):(Sh.sum l).length=32:=by
 unfold Sh.sum;rw [zf0,zcZ _ _ rfl]
end Go.Proofs.YtdnlngbjpdbffaaGreatDoor
end
section
namespace Go.Proofs.YtdnlngbjpdbffaaGreatDoor
open Go Go.Sy Go.Nt Go.RowKit
attribute [local irreducible] Sy SyL SyX Sy.Fn callFunc natC rowN refC iC gP gQ gL memB safeC fixB gnum gel gsca chal Sh.sum
def chalB (i:Nat) (y:List UInt8) (r:Nat) (m:List UInt8):List UInt8:=UInt8.ofNat i::(y ++ (fixB (gL i) r ++ m))
theorem zll (i:Nat) (y:List UInt8) (r:Nat) (m:List UInt8):chal i y r m=bev 256 (bn (Sh.sum (chalB i y r m))) % gQ i:=by unfold chal chalB;rfl
theorem zn6 {i:Nat}(h0:1<=i) (h5:i<=4) (l:List UInt8):gsca (i:Int) l=(bev 256 (bn l) % gQ i,0):=by
 unfold gsca;rw [if_pos ⟨by omega,by omega⟩,Int.toNat_natCast]
theorem zi5 {A J:List Value} :Seg (A ++ J) 0 A:=λj v hj=>by
 rw [Nat.zero_add,List.getElem?_append_left (List.getElem?_eq_some_iff.1 hj).1];exact hj
theorem zmq {B0:Nat}{w:World}{M:Nat->Prop}{E n c:Nat}{a:Option Addr}{l:List UInt8}{L:List Res}(hh:Holds B0 M L w) (hl:l.length=n) (hL:Has L (.row (.slice a n c) E 1 n (l.map v8))):(⟨a,n,c,l⟩:Bs).ok w:=
 ⟨hl,Row.cap hh hL,zJ hh hL,λh=>(Row.nil hh hL h).1⟩
theorem zfQ (i:Nat) (pa ma:Option Addr) (pn pc mn mc r:Nat) (pl ml:List UInt8) (w:World) (h0:1<=i) (h5:i<=4) (hG:GT w) (hT:Tab w No) (hp:(⟨pa,pn,pc,pl⟩:Bs).ok w) (hm:(⟨ma,mn,mc,ml⟩:Bs).ok w) (hpn:pn<=1000) (hmn:mn<=100000) (hr:memB (gP i) (gQ i) r=true):
  Sy.Fn Tryz.prog 102 [.int .i64 (i:Int),.slice pa pn pc,natV r,.slice ma mn mc] w No (Gives (natV (chal i pl r ml))):=by
 refine zg Tryz.func102 rfl Tryz.ntmps102 q_p Holds.nil ?_;have hrW:=Nat.lt_trans (za7 hr) (zaN i h0 h5);have hlr:=ze r;have hu:=zk0 i h5;have hby:=λw' (hk:Keep No w w')=>zhS i r w' h0 h5 (hG.to hk) hrW hr;unfold FixG at hby
 have hfl:=zbH (gL i) r (ze5 h0 h5 (za7 hr));have hgl:gL i<=96:=by have:=zcd (z:=(i:Int)) ⟨by omega,by omega⟩;rwa [Int.toNat_natCast] at this
 have hd:=λa n c w'=>zj9 a n c 0 w';have hcb:chalB i pl r ml=Bs.cat [⟨none,1,1,[UInt8.ofNat i]⟩,⟨pa,pn,pc,pl⟩,⟨none,gL i,0,fixB (gL i) r⟩,⟨ma,mn,mc,ml⟩]:=by unfold chalB Bs.cat;simp
 have hcl:(chalB i pl r ml).length < 1000000:=by
  unfold chalB;rw [List.length_cons,List.length_append,List.length_append,hfl,hp.len,hm.len];show pn+(gL i+mn)+1 < 1000000;omega
 have hj: ∀w',Keep No w w'-> ∀b21 b12 aF cF,w'.rangeAt b12 0 ([UInt8.ofNat i].map v8)->(⟨aF,gL i,cF,fixB (gL i) r⟩:Bs).ok w'->w'.rangeAt b21 0 [Value.slice (some ⟨b12,0,none⟩) 1 1,.slice pa pn pc,.slice aF (gL i) cF,.slice ma mn mc]->
   Sy.Fn Tryz.prog 186 [.slice (some ⟨b21,0,none⟩) 4 4,.slice none 0 0] w' No (HeadOf (chalB i pl r ml)):=by
  intro w' hk b21 b12 aF cF h12 hF h21;have h:=zqN (some ⟨b21,0,none⟩) 4 4 [⟨some ⟨b12,0,none⟩,1,1,[UInt8.ofNat i]⟩,⟨pa,pn,pc,pl⟩,⟨aF,gL i,cF,fixB (gL i) r⟩,⟨ma,mn,mc,ml⟩] w' rfl q_e q_e q_e (.inr ⟨b21,0,rfl,h21⟩) (λs hs=>?_) (by
    have:Bs.cat [⟨some ⟨b12,0,none⟩,1,1,[UInt8.ofNat i]⟩,⟨pa,pn,pc,pl⟩,⟨aF,gL i,cF,fixB (gL i) r⟩,⟨ma,mn,mc,ml⟩]=chalB i pl r ml:=by rw [hcb];rfl
    rw [this];omega)
  ·have e:Bs.cat [⟨some ⟨b12,0,none⟩,1,1,[UInt8.ofNat i]⟩,⟨pa,pn,pc,pl⟩,⟨aF,gL i,cF,fixB (gL i) r⟩,⟨ma,mn,mc,ml⟩]=chalB i pl r ml:=by rw [hcb];rfl
   rw [e] at h;exact h
  ·simp only [List.mem_cons,List.not_mem_nil,or_false] at hs;rcases hs with rfl|rfl|rfl|rfl
   ·exact ⟨rfl,Nat.le_refl _,.inr ⟨b12,0,rfl,h12⟩,λh=>by cases h⟩
   ·exact hp.keep hk
   ·exact hF
   ·exact hm.keep hk
 have hsum:=λw' b (hk:Keep No w w') (h:w'.rangeAt b 0 ((chalB i pl r ml).map v8))=>zoT (some ⟨b,0,none⟩) (chalB i pl r ml).length (chalB i pl r ml).length (chalB i pl r ml) w' rfl (Nat.le_refl _) q_o (.inr ⟨b,0,rfl,h⟩) (hT.no hk);have hs32:=zlc (chalB i pl r ml);have hsc:=λw' b (hk:Keep No w w') (h:w'.rangeAt b 0 ((Sh.sum (chalB i pl r ml)).map v8))=>zhn i (some ⟨b,0,none⟩) 32 32 (Sh.sum (chalB i pl r ml)) w' h0 h5 (hG.to hk) hs32 (Nat.le_refl _) q_e (.inr ⟨b,0,rfl,h⟩);rw [<-zll] at hsc;have hdn:=λw'=>zbI (chal i pl r ml) 0 w';have hle:=ze (chal i pl r ml);generalize Sh.sum (chalB i pl r ml)=H at *;generalize chal i pl r ml=e at *;generalize chalB i pl r ml=B at *;generalize fixB (gL i) r=lb at *;generalize gL i=len at *;repeat' (first|refine s_0 ?_|(refine zb 0 ?_;refine zj ?_;intro _;refine zj ?_;intro _)|(refine zb 1 (za ?_);refine yv (z5 (hr:=hu)) (k:=?_);(refine ys zt (k:=?_);rintro _ _ ⟨_,rfl,rfl⟩);refine za ?_;refine yv (zf (B:=natC r)) (k:=?_);(refine ys (zh (f:=104) (hc:=zr hby)) (k:=?_);rintro _ _ ⟨R,rfl,aF,cF,rfl,rfl⟩);refine za ?_;refine yv (zd (hc:=λ_ _ _ _=>(hd _ _ _ _))) (k:=?_);refine za ?_;(refine ys zt (k:=?_);rintro _ _ ⟨_,rfl,rfl⟩)))
 rename_i b6 b8 b12 b21;refine ys (zh (f:=186) (hc:=λw' X hk hh=>hj w' hk b21 b12 aF cF (zp (hh.has (r:=.blk b12 5 ([UInt8.ofNat i].map v8)) q_h) Seg.all) (zmq (E:=5) hh hfl q_h) (zp (hh.has (r:=.blk b21 23 [Value.slice (some ⟨b12,0,none⟩) 1 1,.slice pa pn pc,.slice aF len cF,.slice ma mn mc]) q_h) Seg.all))) (k:=?_);rintro _ _ ⟨R,rfl,bJ,J,rfl,rfl⟩;repeat' (first|refine s_0 ?_|(refine zb 2 (za ?_);refine zbv ?_;refine yv (zd (f:=100) (hc:=λw' X hk hh=>hsc w' _ hk (zp (hh.has q_h) Seg.all))) (k:=?_);refine za ?_;refine yv (zd (hc:=λ_ _ _ _=>(hdn _))) (k:=?_);refine yn (zi (n:=e)) (k:=?_))|(refine zP ?_;first|refine yv (zd (f:=185) (hc:=λw' X hk hh=>hsum w' bJ hk (zp (hh.has (r:=.blk bJ 5 (B.map v8 ++ J)) q_h) zi5))) (k:=?_)|refine zI ?_|(refine zj ?_;intro _)|fail)|fail)
 exact ret1 rfl (resCells (B:=natC e) rfl (ty rfl) rfl Has.go Seg.all (ze _).symm) SubR.nil ⟨rfl,rfl⟩
end Go.Proofs.YtdnlngbjpdbffaaGreatDoor
end
section
namespace Go
section
variable {F:Fence}{n:Nat}{P:Program}{Q:Exit->Act->World->Prop}{a:Act}{w:World}
theorem ziB {c rest:Code}(l:Nat) (J:Act->World->Prop) (hf:findLabel c l=some rest) (first:c.wpIn F n P (Exit.jump l J Q) a w)
  (pass: ∀a w,J a w->rest.wpIn F n P (Exit.noGoto Q) a w):(Code.scope c).wpIn F n P Q a w:=by
 intro b k cs hro hb hr;have h0:(lone (b.atR a (.code (.scope c)::k)) cs w).fenced P F:=fenced_calm hb hr rfl;have hg:gotoIn l (.inScope c::k)=some (.code rest:: .inScope c::k):=by simp [gotoIn,hf]
 have hx: ∀id',exitTo id' (.inScope c::k)=exitTo id' k:=λid'=>by simp [exitTo]
 obtain ⟨e,a₁,w₁,hq,harr⟩:=first b (.inScope c::k) cs hro hb hr
 cases e with
 |normal=>exact ⟨.normal,a₁,w₁,hq,.head h0 zay (StepsIn.trans harr (.one (fenced_calm hb hr rfl) zc2))⟩
 |exit id'=>
  exact ⟨.exit id',a₁,w₁,hq,λk' hk=> .head h0 zay (harr.1 k' (by rw [hx];exact hk)),
   λhr' hk=>let ⟨k₁,h1,h2⟩:=harr.2 hr' (by rw [hx];exact hk);⟨k₁,h1,.head h0 zay h2⟩⟩
 |goto l'=>
  obtain ⟨rfl,hJ⟩:=hq;have hto:=StepsIn.head h0 zay (harr.1 _ hg);obtain ⟨e,a₂,w₂,hq,har⟩:=pass a₁ w₁ hJ b (.inScope c::k) cs hro hb hr;cases e with
  |normal=>exact ⟨.normal,a₂,w₂,hq,hto.trans (StepsIn.trans har (.one (fenced_calm hb hr rfl) zc2))⟩
  |exit id'=>
   exact ⟨.exit id',a₂,w₂,hq,λk' hk=>hto.trans (har.1 k' (by rw [hx];exact hk)),
    λhr' hk=>let ⟨k₁,h1,h2⟩:=har.2 hr' (by rw [hx];exact hk);⟨k₁,h1,hto.trans h2⟩⟩
  |goto l=>exact hq.elim
  |ret=>exact ⟨_,a₂,w₂,hq,.of_steps hto har⟩
  |panic ch=>exact ⟨_,a₂,w₂,hq,.of_steps hto har⟩
  |outgrown=>exact ⟨_,a₂,w₂,hq,.of_steps hto har⟩
 |ret=>exact ⟨_,a₁,w₁,hq,.of_steps (.one h0 zay) harr⟩
 |panic ch=>exact ⟨_,a₁,w₁,hq,.of_steps (.one h0 zay) harr⟩
 |outgrown=>exact ⟨_,a₁,w₁,hq,.of_steps (.one h0 zay) harr⟩
end
end Go
namespace Go.Sy
open Go
section
variable {P:Program}{ro:Option Nat}{N:Nat}{w0:World}{M:Nat->Prop}{ds:List Deferred}{L:List Res}{fr:Fr}{Q:Exit->Act->World->Prop}
theorem zgi {γ:Type}(l:Nat) {c rest:Code}(f:γ->Fr) (R:γ->List Res) (I:γ->Prop) (hf:findLabel c l=some rest) (h:Sy P ro N w0 M ds c (Exit.jump l (CutK N w0 M ds f R I) Q) fr L)
  (h2: ∀g,I g->Sy P ro N w0 M ds rest (Exit.noGoto Q) (f g) (R g)):Sy P ro N w0 M ds (.scope c) Q fr L:=
 λa w hs=>ziB l _ hf (h a w hs) (λa w hJ=>by obtain ⟨g,hI,hst⟩:=hJ;exact h2 g hI a w hst)
theorem zc8 {l:Nat}{J:Act->World->Prop}(h:SyX N w0 M ds J fr L):SyX N w0 M ds (Exit.jump l J Q (.goto l)) fr L:=λa w hs=>⟨rfl,h a w hs⟩
end
end Go.Sy
end
