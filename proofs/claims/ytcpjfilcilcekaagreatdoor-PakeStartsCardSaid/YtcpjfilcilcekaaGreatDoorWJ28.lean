/- The hash in progress, walked: Write, Sum, Len, Copy. -/
import Derived.Test.YtcpjfilcilcekaaGreatDoorWJ25
import Derived.Test.YtcpjfilcilcekaaGreatDoorWJ03
import Derived.Lib.ConvBytes
import Derived.Test.YtcpjfilcilcekaaGreatDoorWJ27
import Derived.Test.YtcpjfilcilcekaaGreatDoorWJ05
set_option linter.all false
section
namespace Go.Sh
open Go Go.Wd Go.RowKit Go.Sy
def hcells (s:List UInt32) (r:List UInt8) (N:Nat):List Value:=s.map Sy.v32 ++ (r.map Sy.v8 ++ [.int .i64 N])
def HashIs (l:List UInt8) (C:List Value):Prop:=∃(s:List UInt32) (r:List UInt8),C=hcells s r l.length/\s.length=8/\r.length=64/\(l≠[]->s=fold h0 (whole (l.length / 64) l))/\r.take (l.length % 64)=l.drop (64*(l.length / 64))
section
variable {s s':List UInt32}{r b:List UInt8}{N N':Nat}
theorem zbc (hs:s.length=8) (hr:r.length=64):(hcells s r N).length=73:=by simp [hcells,hs,hr]
theorem zeB (hs:s.length=8) (hr:r.length=64):(hcells s r N)[72]?=some (.int .i64 N):=by
  unfold hcells;rw [List.getElem?_append_right (by simp [hs]),List.getElem?_append_right (by simp [hs,hr])];simp [hs,hr]
theorem zf9 (hs:s.length=8) (hr:r.length=64):SetAt (hcells s r N) 72 (.int .i64 N') (hcells s r N'):=by
  refine ⟨by rw [zbc hs hr];omega,?_⟩
  unfold hcells;rw [List.set_append_right _ _ (by simp [hs]),List.set_append_right _ _ (by simp [hs,hr])];simp [hs,hr]
theorem zeH:Seg (hcells s r N) 0 (s.map Sy.v32):=λj v h=>by
  have hj:j < (s.map Sy.v32).length:=(List.getElem?_eq_some_iff.1 h).1
  unfold hcells;rw [Nat.zero_add,List.getElem?_append_left hj];exact h
theorem zd8 (hs:s.length=8):Seg (hcells s r N) 8 (r.map Sy.v8):=λj v h=>by
  have hj:j < (r.map Sy.v8).length:=(List.getElem?_eq_some_iff.1 h).1
  unfold hcells;rw [List.getElem?_append_right (by simp [hs]),List.length_map,hs,Nat.add_sub_cancel_left,List.getElem?_append_left hj];exact h
theorem zd9 (hs:s.length=8) (hs':s'.length=8):setSeg (hcells s r N) 0 (s'.map Sy.v32)=hcells s' r N:=by
  rw [setSeg0];unfold hcells;rw [List.length_map,hs',List.drop_left' (by simp [hs])]
theorem zc2 {u:Nat}(hs:s.length=8) (hr:r.length=64) (hb:u+b.length<=64):setSeg (hcells s r N) (8+u) (b.map Sy.v8)=hcells s (r.take u ++ b ++ r.drop (u+b.length)) N:=by
  unfold setSeg hcells
  rw [List.length_map]
  have e1:List.take (8+u) (s.map Sy.v32 ++ (r.map Sy.v8 ++ [.int .i64 N]))=s.map Sy.v32 ++ (r.take u).map Sy.v8:=by
    rw [List.take_append,List.take_of_length_le (by simp [hs]),List.length_map,hs,Nat.add_sub_cancel_left,List.take_append_of_le_length (by simp [hr];omega),List.map_take]
  have e2:List.drop (8+u+b.length) (s.map Sy.v32 ++ (r.map Sy.v8 ++ [.int .i64 N]))=(r.drop (u+b.length)).map Sy.v8 ++ [.int .i64 N]:=by
    rw [List.drop_append,List.drop_eq_nil_of_le (by simp [hs];omega),List.length_map,hs,List.nil_append,show 8+u+b.length - 8=u+b.length from by omega,List.drop_append_of_le_length (by simp [hr];omega),List.map_drop]
  rw [e1,e2];simp
end
theorem HashIs.zero:HashIs [] (List.replicate 8 (.int .u32 0) ++ (List.replicate 64 (.int .u8 0) ++ [.int .i64 0])):=
  ⟨List.replicate 8 0,List.replicate 64 0,rfl,rfl,rfl,λh=>(h rfl).elim,rfl⟩
theorem HashIs.len {l:List UInt8}{C:List Value}(h:HashIs l C):C.length=73:=by
  obtain ⟨s,r,rfl,hs,hr,_⟩:=h;exact zbc hs hr
theorem zfv (j:Nat) (l b:List UInt8) (h:64*j<=l.length):whole j (l ++ b)=whole j l:=zdq j l b h
theorem zdo (j:Nat) (L:List UInt8):whole (j+1) L=whole j L ++ [(L.drop (64*j)).take 64]:=by
  rw [zfx];rfl
end Go.Sh
namespace Go.Proofs.YtcpjfilcilcekaaGreatDoor
open Go Go.Sy Go.Sh Go.RowKit
attribute [local irreducible] Sy SyL SyX Sy.Fn callFunc
set_option maxRecDepth 10000
set_option maxHeartbeats 1000000 in
theorem zkr (S:Nat) (l:List UInt8) (C:List Value) (w:World) (hC:(Res.blk S 172 C).holds w) (hI:HashIs l C) (hb:l.length < 1000000000000) (hT:Tab w No):
    Sy.Fn Tryz.prog 133 [.pointer (some ⟨S,0,none⟩)] w No (Gives (.agg ((sum l).map Sy.v8).toArray)):=by
  obtain ⟨s,r,rfl,hs,hr,hS,hR⟩:=hI
  have h72:w.cell? ⟨S,0+72,none⟩=some (.int .i64 l.length):=by rw [Sy.blk_cell hC];exact zeB hs hr
  have hst:w.rangeAt S (0+0) (s.map Sy.v32):=zz hC zeH
  have hre:w.rangeAt S (0+8) (r.map Sy.v8):=zz hC (zd8 hs)
  refine zk Tryz.func133 rfl Tryz.ntmps133 (by simp) Holds.nil ?_
  by_cases hl0:l= []
  · subst hl0
    repeat' (first|refine s_0 ?_|(refine za (id:=0) ?_;(refine zi ?_;intro _))|(refine za (id:=1) ?_;refine zb ?_;refine zZ ?_;refine zb ?_;refine zb ?_;refine zy ?_;refine zm ?_;refine zF ?_;refine zZ ?_;refine zp ?_)|(refine za (id:=2) ?_;refine yv (zf (hc:=λw' _ hk _=>zgs none 0 0 [] w' rfl (Nat.le_refl _) (by decide) SlA.nil (hT.no hk))) (k:=?_);refine zx ?_)|fail)
    exact ret1 rfl (resCells rfl (ty rfl) rfl Has.go Seg.all (by first|rfl|(simp only [List.length_map,List.length_set,List.length_replicate,List.length_append];omega)|(simp only [List.length_map];first|assumption|omega)|(simp;omega)|fail)) SubR.nil ⟨rfl,rfl⟩
  · have hpos:0 < l.length:=List.length_pos_iff.2 hl0
    have hrem:((l.length:Int)).tmod 64=((l.length % 64:Nat):Int):=rfl
    have hu:l.length % 64 < 64:=by omega
    generalize hud:l.length % 64=u at *
    repeat' (first|refine s_0 ?_|(refine za (id:=0) ?_;(refine zi ?_;intro _))|(refine za (id:=1) ?_;refine zb ?_;refine zZ ?_;refine zb ?_;refine zb ?_;refine zy ?_;refine zm ?_;refine zF ?_;refine zZ ?_;refine zp ?_)|(refine za (id:=3) ?_;refine zb ?_;refine zy ?_;refine zm ?_;refine zF ?_;(refine zi ?_;intro _);refine zx ?_)|(refine za (id:=4) ?_;refine zb ?_;refine zy ?_;refine zm ?_;refine zF ?_;refine yv (zao (hr:=hrem)) (k:=?_);refine zd ?_)|(refine zJ (id:=5) 10 [[],[0],[0,1],[],[],[0,1,2,3,4],[],[6],[6,7],[6,7,8],[0,1,2,3,4,5,6,7,8,9]] mixed ?_ ?_;kernel_rfl;refine zo ?_;refine zap ?_;refine zY ?_;refine zo ?_;refine zo ?_;refine zcQ ?_;refine zo ?_;refine zap ?_;refine zY ?_;refine zaz ?_;refine zS ?_)|fail)
    rename_i bo bs
    have hlast:(l.drop (64*(l.length / 64))).length=u:=by rw [List.length_drop];omega
    have hsl:SlA w (some ⟨S,0+8,none⟩) ((l.drop (64*(l.length / 64))).map Sy.v8):=by
      refine .inr ⟨S,0+8,rfl,λj v hj=>hre j v ?_⟩
      rw [<-hR,List.map_take,List.getElem?_take] at hj
      split at hj
      · exact hj
      · cases hj
    generalize hlst:l.drop (64*(l.length / 64))=last at *
    refine ys (zn (hc:=λw' X hk hh=>zfJ _ _ w' rfl)) (k:=?_)
    rintro _ _ ⟨R,rfl,b1,b2,rfl,rfl⟩
    repeat' (first|refine s_t ?_|fail)
    refine zdQ (γ:=Nat) (xs:=blocks last l.length) (Arg:=ArgB) zbt rfl (en rfl) rfl (λk s=>s=k) (λ_ _ _=>False) (λk=>[.blk bs 169 ((fold s ((blocks last l.length).take k)).map Sy.v32)])
      [.blk b1 22 [.slice (some ⟨S,0+8,none⟩) u u],.blk b2 3 [.int .i64 l.length]] [.blk bo 66 (List.replicate 32 (.int .u8 0))] 0 rfl ?_ ?_ ?_ ?_ ?_ ?_
    · exact (List.perm_append_comm (l₁:=[_,_]) (l₂:=[_])).append_right _
    · exact λw' Mi X hk hm _ _=>zeI b1 b2 _ u u l.length last w' Mi hlast (Nat.le_refl _) (by omega) (hsl.to hk hm)
    · rintro O x vs RA w' ⟨b,o,rfl,_⟩;rfl
    · rintro lp k hk q vs RA W rec hrec rfl ⟨b,o,rfl,rfl,hrd,hno⟩ hkW hmine
      have hT':=hT.to hkW hmine
      have hl8:(fold s ((blocks last l.length).take q)).length=8:=zbB _ _ hs
      have hl64:(blocks last l.length)[q].length=64:=zeK _ _ _ (List.getElem_mem hk)
      have hfs:=zcZ s (blocks last l.length) q hk
      generalize fold s ((blocks last l.length).take q)=st at *
      generalize (blocks last l.length)[q]=x at *
      have hcl:=zan st x hl8
      repeat' (first|refine s_t ?_|(apply zbh;(focus ((repeat (first|exact Rem.here|apply Rem.there));done));assumption)|(refine za (id:=6) ?_;refine zd ?_)|(refine za (id:=7) ?_;refine zb ?_;refine yv (zbo (hc:=λw' X hk hh=>zhs bs 169 b o st x w' hl8 hl64 (hh.has (Has.append (Has.there Has.here))) (zay hrd hk hno) (hT'.no hk).konst)) (k:=?_))|fail)
      refine zdx (q+1) rfl ?_
      (repeat' (first|exact SubR.nil|(apply SubR.same;with_reducible (focus ((repeat (first|exact Rem.here|apply Rem.there));done)))|(apply SubR.blk;(focus ((repeat (first|exact Rem.here|apply Rem.there));done)))|(apply SubR.pick;(focus ((repeat (first|exact Rem.here|apply Rem.there));done)))|rfl))
      rw [hfs]
    · rintro q rfl
      rw [List.take_length]
      have hf8:(fold s (blocks last l.length)).length=8:=zbB _ _ hs
      have hsum:ser (fold s (blocks last l.length))=sum l:=by
        have hq0:last.length / 64=0:=by omega
        unfold sum fold
        rw [hS hl0]
        unfold blocks fold
        simp only [hq0,hlst,whole,List.nil_append,Nat.mul_zero,List.drop_zero,List.foldl_append]
      generalize fold s (blocks last l.length)=st at *
      have hs32:(ser st).length=32:=by rw [zdu,hf8]
      repeat' (first|refine s_0 ?_|(refine za (id:=8) ?_;refine zF ?_;refine yv (zf (hc:=λw' _ _ _=>zfD st w' hf8)) (k:=?_);refine zx ?_)|fail)
      exact ret1 rfl (resCells rfl (ty rfl) rfl Has.go Seg.all (by first|rfl|(simp only [List.length_map,List.length_set,List.length_replicate,List.length_append];omega)|(simp only [List.length_map];first|assumption|omega)|(simp;omega)|fail)) SubR.nil ⟨by rw [hsum],rfl⟩
    · exact λ_ _ _ _ h=>h.elim
end Go.Proofs.YtcpjfilcilcekaaGreatDoor
end
section
namespace Go.Proofs.YtcpjfilcilcekaaGreatDoor
open Go Go.Sy Go.Sh Go.RowKit
attribute [local irreducible] Sy SyL SyX Sy.Fn callFunc hcells
set_option maxRecDepth 10000
theorem zj5 (S b bo N:Nat) (s:List UInt32) (r blk:List UInt8) (w:World) (hs:s.length=8) (hr:r.length=64) (hb:blk.length=64) (hC:(Res.blk S 172 (hcells s r N)).holds w)
    (hB:w.rangeAt b bo (blk.map Sy.v8)) (hK:w.rangeAt 3 0 (kC.map Sy.v32)):
    Sy.Fn Tryz.prog 161 [.pointer (some ⟨S,0,none⟩),.slice (some ⟨b,bo,none⟩) 64 64] w (λx=>x=S) (λv R=>v= .tuple #[]/\R= [.blk S 172 (hcells (compress s blk) r N)]):=by
  have h:=zgr S 172 0 b bo _ s blk w hs hb hC zeH (by rw [zbc hs hr];omega) hB hK
  rw [zd9 hs (zan s blk hs)] at h
  exact h
set_option maxHeartbeats 1000000 in
theorem zeM (S:Nat) (l b:List UInt8) (C:List Value) (a0:Option Addr) (n c:Nat) (w:World) (hC:(Res.blk S 172 C).holds w) (hI:HashIs l C) (hn:b.length=n) (hc:n<=c)
    (hb:l.length+n < 1000000000000) (hsl:SlF w (λx=>x=S) a0 (b.map Sy.v8)) (hT:Tab w (λx=>x=S)):
    Sy.Fn Tryz.prog 132 [.pointer (some ⟨S,0,none⟩),.slice a0 n c] w (λx=>x=S) (λv R=>v= .int .i64 0/\ ∃C',HashIs (l ++ b) C'/\R= [.blk S 172 C']):=by
  obtain ⟨s,r,rfl,hs,hr,hS,hR⟩:=hI
  have hst:w.rangeAt 2 0 (h0.map Sy.v32):=hT.start
  have hns:=hT.ns
  have hL0:Holds w.heap.size (λx=>x=S) [.blk S 172 (hcells s r l.length)] w:=⟨λx hx=>by obtain rfl:=List.mem_singleton.1 hx;exact hC,List.pairwise_singleton _ _,λx hx y hy=>by obtain rfl:=List.mem_singleton.1 hx;exact .inr (Eq.symm hy)⟩
  refine zk Tryz.func132 rfl Tryz.ntmps132 (by simp) hL0 ?_
  generalize hN:l.length=N at *
  have g72:=zeB (N:=N) hs hr
  repeat' (first|refine s_0 ?_|(refine za (id:=0) ?_;refine zd ?_)|(refine za (id:=1) ?_;refine zb ?_;refine zZ ?_)|(refine za (id:=3) ?_;refine zb ?_;refine zy ?_;refine zm ?_;refine yv (zH (hv:=g72)) (k:=?_);refine zZ ?_)|fail)
  refine zaJ (γ:=List UInt32) (λ_=>[(0,.pointer (some ⟨S,0,none⟩)),(1,.slice a0 n c),(4,.int .i64 0)]) (λs'=>[.blk S 172 (hcells s' r N)]) (λs'=>s'.length=8/\s'=fold h0 (whole (N / 64) l)) ?_ ?_
  · refine za7 rfl (λh=>?_) (λh=>?_)
    · have h:=of_decide_eq_true h
      have hN0:N=0:=by omega
      repeat' (first|refine z4 ?_|refine zO ?_|(refine za (id:=4) ?_;refine zb ?_;refine yv (zaP (hn:=hns)) (k:=?_);refine zy ?_;refine zm ?_;refine yn (zbw (hL:=by rw [zd9 hs rfl];exact Upd.here) (hC:=by rw [zbc hs hr];decide)) (k:=?_))|fail)
      refine zN h0 ⟨rfl,by rw [hN0];rfl⟩ ?_ ?_
      · exact Sub.go
      · exact SubR.go
    · have h:=of_decide_eq_false h
      have hne:l≠[]:=λe=>by subst e;simp at hN;omega
      repeat' (first|refine zbm ?_|refine zO ?_|fail)
      refine zN s ⟨hs,hS hne⟩ ?_ ?_
      · exact Sub.go
      · exact SubR.go
  clear hs hS g72 hst hL0
  rintro s ⟨hs,hS⟩
  have g72:=zeB (N:=N) hs hr
  obtain ⟨L,hL⟩: ∃L,L=l ++ b:=⟨_,rfl⟩
  have hLl:L.length=N+n:=by rw [hL,List.length_append,hN,hn]
  have hLl':(l ++ b).length=N+n:=by rw [<-hL];exact hLl
  obtain ⟨j,hj⟩: ∃j,j=N / 64:=⟨_,rfl⟩
  have hrem:((N:Int)).tmod 64=((N % 64:Nat):Int):=rfl
  obtain ⟨u,hu⟩: ∃u,u=N % 64:=⟨_,rfl⟩
  have hNj:N=64*j+u:=by omega
  have hu64:u < 64:=by omega
  rw [<-hu] at hrem hR
  rw [<-hj] at hR hS
  have hwl:whole j L=whole j l:=by rw [hL];exact zfv j l b (by omega)
  have hLd:L.drop (64*j)=l.drop (64*j) ++ b:=by rw [hL,List.drop_append_of_le_length (by omega)]
  repeat' (first|refine s_0 ?_|(refine za (id:=5) ?_;refine zb ?_;refine zy ?_;refine zm ?_;refine yv (zH (hv:=g72)) (k:=?_);refine yv (zao (hr:=hrem)) (k:=?_);refine zd ?_)|(refine za (id:=6) ?_;refine zb ?_;refine zy ?_;refine zm ?_;refine yv (zH (hv:=g72)) (k:=?_);refine zb ?_;refine zr ?_;refine zV ?_;refine zy ?_;refine zm ?_;refine yn (zbO (hC:=zf9 (N':=N+n) hs hr)) (k:=?_))|(refine za (id:=7) ?_;refine zb ?_;refine zaf ?_)|fail)
  refine zaJ (γ:=Nat×List UInt32×List UInt8×Option Addr×Nat×Nat) (λg=>[(0,.pointer (some ⟨S,0,none⟩)),(1,.slice g.2.2.2.1 g.2.2.2.2.1 g.2.2.2.2.2),(4,.int .i64 0)]) (λg=>[.blk S 172 (hcells g.2.1 g.2.2.1 (N+n))])
    (λg=>64*g.1+g.2.2.2.2.1=N+n/\g.2.1.length=8/\g.2.2.1.length=64/\g.2.1=fold h0 (whole g.1 L)/\SlF w (λx=>x=S) g.2.2.2.1 ((L.drop (64*g.1)).map Sy.v8)/\g.2.2.2.2.1<=g.2.2.2.2.2/\g.2.2.2.2.2<=c) ?_ ?_
  · refine za7 rfl (λh=>?_) (λh=>?_)
    · have h:=of_decide_eq_true h
      have hrl:(l.drop (64*j)).length=u:=by rw [List.length_drop];omega
      by_cases hsm:u+n < 64
      · -- the block is not full
        have hmin:Nat.min n (64 - u)=n:=Nat.min_eq_left (by omega)
        have hset:=zc2 (s:=s) (r:=r) (b:=b) (N:=N+n) (u:=u) hs hr (by omega)
        repeat' (first|refine s_0 ?_|(refine za (id:=8) ?_;refine zb ?_;refine zy ?_;refine zm ?_;refine zb ?_;refine yv (zas (ha:=zbN (by omega))) (k:=?_);refine zb ?_;refine yv (zbP (Rd.oldF hsl) (by rw [List.length_map,hn]) hset (hC:=by rw [zbc hs hr];omega)) (k:=?_);refine zd ?_)|(refine za (id:=9) ?_;refine zb ?_;refine zb ?_;refine zV ?_;refine zK ?_)|(refine za (id:=10) ?_;refine zd ?_)|fail)
        refine ret1 rfl (resTmp rfl) (R:=[.blk S 172 (hcells s (r.take u ++ b ++ r.drop (u+b.length)) (N+n))]) (by exact SubR.go) ⟨rfl,_,⟨s,_,by rw [hLl'],hs,?_,λ_=>?_,?_⟩,rfl⟩
        · simp [hr];omega
        · rw [hLl',show (N+n) / 64=j from by omega,<-hL,hwl];exact hS
        · rw [hLl',show (N+n) / 64=j from by omega,show (N+n) % 64=u+n from by omega,<-hL,hLd,hR]
          exact List.take_left' (by rw [List.length_append,hrl,hn])
      · -- the block is full
        have hbl:(b.take (64 - u)).length=64 - u:=by rw [List.length_take];omega
        have hset:=zc2 (s:=s) (r:=r) (b:=b.take (64 - u)) (N:=N+n) (u:=u) hs hr (by omega)
        have hrr:r.take u ++ b.take (64 - u) ++ r.drop (u+(b.take (64 - u)).length)=(L.drop (64*j)).take 64:=by
          rw [hbl,List.drop_eq_nil_of_le (by omega),List.append_nil,hR,hLd,List.take_append,hrl,List.take_of_length_le (l:=l.drop (64*j)) (by omega)]
        rw [hrr] at hset
        obtain ⟨r2,hr2⟩: ∃r2,r2=(L.drop (64*j)).take 64:=⟨_,rfl⟩
        rw [<-hr2] at hset
        have hr2l:r2.length=64:=by rw [hr2,List.length_take,List.length_drop];omega
        have hcl:=zan s r2 hs
        have hst2:compress s r2=fold h0 (whole (j+1) L):=by rw [zdo,Sh.fold_snoc,<-hr2,hwl,<-hS]
        have hsl2:SlF w (λx=>x=S) a0 ((b.take (64 - u)).map Sy.v8):=by rw [List.map_take];exact hsl.take _
        repeat' (first|refine s_0 ?_|(refine za (id:=8) ?_;refine zb ?_;refine zy ?_;refine zm ?_;refine zb ?_;refine yv (zas (ha:=zbN (by omega))) (k:=?_);refine zb ?_;refine yv (zbP (Rd.oldF hsl2) ((List.length_map _).trans hbl) hset (hC:=by rw [zbc hs hr];omega)) (k:=?_);refine zd ?_)|(refine za (id:=9) ?_;refine zb ?_;refine zb ?_;refine zV ?_;refine zK ?_)|(refine zJ (id:=11) 7 [[],[0],[0,1],[],[3],[3,4],[3,4,5],[0,1,2,3,4,5,6]] mixed ?_ ?_;kernel_rfl;refine zo ?_;refine zap ?_;refine zY ?_;refine zo ?_;refine zap ?_;refine zY ?_;refine dc (λ_ _=>zas (ha:=zbN (by omega))) (k:=?_);refine zS ?_;refine yv (zbo (hc:=λw' X hk hh=>zj5 S S 8 (N+n) s r2 r2 w' hs hr2l hr2l (hh.has (Has.append Has.here)) (zz (hh.has (Has.append Has.here)) (zd8 hs)) (hT.no hk).konst)) (k:=?_))|(refine za (id:=12) ?_;refine zb ?_;refine zb ?_;refine zam ?_;refine zd ?_)|fail)
        refine zN (j+1,compress s r2,r2,movA a0 (64 - u) c 1,n - (64 - u),c - (64 - u)) ⟨by dsimp only;omega,hcl,hr2l,hst2,?_,by dsimp only;omega,by dsimp only;omega⟩ ?_ ?_
        · have:=hsl.mov (l:=64 - u) (m:=c) (by rw [List.length_map];omega)
          show SlF w _ (movA a0 (64 - u) c 1) ((L.drop (64*(j+1))).map Sy.v8)
          rw [show 64*(j+1)=64*j+64 from by omega,<-List.drop_drop,hLd,List.drop_append,List.drop_eq_nil_of_le (by omega),hrl,List.nil_append,List.map_drop]
          exact this
        · exact Sub.go
        · exact SubR.go
    · have h:=of_decide_eq_false h
      have hu0:u=0:=by omega
      repeat' (first|refine zbm ?_|refine zO ?_|fail)
      refine zN (j,s,r,a0,n,c) ⟨by show 64*j+n=N+n;omega,hs,hr,by show s=_;rw [hS,hwl],?_,hc,Nat.le_refl _⟩ ?_ ?_
      · show SlF w _ a0 ((L.drop (64*j)).map Sy.v8)
        rw [hLd,List.drop_eq_nil_of_le (by omega),List.nil_append];exact hsl
      · exact Sub.go
      · exact SubR.go
  clear hrem hu hwl hLd hR hr g72 hS hs hNj hj
  rintro ⟨j,s,r,a1,m,c1⟩ ⟨hj,hs,hr,hS,hs1,hmc,hcc⟩
  dsimp only at *
  repeat' (first|refine za1 ?_|refine zbA ?_|fail)
  refine zD (γ:=Nat×List UInt32×List UInt8×Option Addr×Nat×Nat) (λg=>[(0,.pointer (some ⟨S,0,none⟩)),(1,.slice g.2.2.2.1 g.2.2.2.2.1 g.2.2.2.2.2),(4,.int .i64 0)]) (λg=>[.blk S 172 (hcells g.2.1 g.2.2.1 (N+n))])
    (λg=>64*g.1+g.2.2.2.2.1=N+n/\g.2.1.length=8/\g.2.2.1.length=64/\g.2.1=fold h0 (whole g.1 L)/\SlF w (λx=>x=S) g.2.2.2.1 ((L.drop (64*g.1)).map Sy.v8)/\g.2.2.2.2.1<=g.2.2.2.2.2/\g.2.2.2.2.2<=c) (λg=>g.2.2.2.2.1) (j,s,r,a1,m,c1) ⟨hj,hs,hr,hS,hs1,hmc,hcc⟩ ?_ ?_ ?_
  · exact Sub.go
  · exact SubR.go
  clear hj hs hr hS hs1 hmc hcc
  rintro ⟨j,s,r,a1,m,c1⟩ ⟨hj,hs,hr,hS,hs1,hmc,hcc⟩
  dsimp only at *
  have hdl:(L.drop (64*j)).length=m:=by rw [List.length_drop];omega
  by_cases hge:64<=m
  · obtain ⟨x,hx⟩: ∃x,x=(L.drop (64*j)).take 64:=⟨_,rfl⟩
    have hxl:x.length=64:=by rw [hx,List.length_take];omega
    obtain ⟨b1,o1,rfl,hrd,hno⟩: ∃b1 o1,a1=some ⟨b1,o1,none⟩/\w.rangeAt b1 o1 (x.map Sy.v8)/\ ¬b1=S:=by
      rcases hs1.take 64 with h|⟨b1,o1,h1,h2,h3⟩
      · exfalso;have:=congrArg List.length h;simp [hdl] at this;omega
      · exact ⟨b1,o1,h1,by rw [hx,List.map_take];exact h2,h3⟩
    have hcl:=zan s x hs
    have hst2:compress s x=fold h0 (whole (j+1) L):=by rw [zdo,Sh.fold_snoc,<-hx,<-hS]
    repeat' (first|refine s_t ?_|(refine za (id:=13) ?_;refine zb ?_;refine zr ?_;refine z5 ?_)|(refine zJ (id:=14) 5 [[],[0],[0,1],[],[3],[0,1,2,3,4]] mixed ?_ ?_;kernel_rfl;refine zo ?_;refine zap ?_;refine zY ?_;refine zo ?_;refine zcQ ?_;refine zS ?_;refine yv (zbo (hc:=λw' X hk hh=>zj5 S b1 o1 (N+n) s r x w' hs hr hxl (hh.has (Has.append Has.here)) (zay hrd hk hno) (hT.no hk).konst)) (k:=?_))|(refine za (id:=15) ?_;refine zb ?_;refine zam ?_;refine zd ?_)|fail)
    refine zu (j+1,compress s x,r,movA (some ⟨b1,o1,none⟩) 64 c1 1,m - 64,c1 - 64) ⟨by dsimp only;omega,hcl,hr,hst2,?_,by dsimp only;omega,by dsimp only;omega⟩ ?_ ?_ ?_
    · have:=hs1.mov (l:=64) (m:=c1) (by rw [List.length_map,hdl];exact hmc)
      rw [<-List.map_drop,List.drop_drop,show 64*j+64=64*(j+1) from by omega] at this
      exact this
    · show m - 64 < m;omega
    · exact Sub.go
    · exact SubR.go
  have hset:=zc2 (s:=s) (r:=r) (b:=L.drop (64*j)) (N:=N+n) (u:=0) hs hr (by omega)
  repeat' (first|refine s_0 ?_|(refine za (id:=13) ?_;refine zb ?_;refine zr ?_;refine z5 ?_)|(refine za (id:=16) ?_;refine zb ?_;refine zy ?_;refine zm ?_;refine zam ?_;refine zb ?_;refine yv (zbP (Rd.oldF hs1) ((List.length_map _).trans hdl) hset (hC:=by rw [zbc hs hr];omega)) (k:=?_))|(refine za (id:=17) ?_;refine zd ?_)|fail)
  refine ret1 rfl (resTmp rfl) (R:=[.blk S 172 (hcells s (r.take 0 ++ L.drop (64*j) ++ r.drop (0+(L.drop (64*j)).length)) (N+n))]) (by exact SubR.go) ⟨rfl,_,⟨s,_,by rw [hLl'],hs,?_,λ_=>?_,?_⟩,rfl⟩
  · simp [hr,hdl];omega
  · rw [hLl',show (N+n) / 64=j from by omega,<-hL];exact hS
  · rw [hLl',show (N+n) / 64=j from by omega,show (N+n) % 64=m from by omega,<-hL,List.take_zero,List.nil_append,List.take_left' hdl]
end Go.Proofs.YtcpjfilcilcekaaGreatDoor
end
section
namespace Go.Sy
open Go
section
variable {P:Program}{ro:Option Nat}{N:Nat}{w0:World}{M:Nat->Prop}{ds:List Deferred}{g:Nat->Option Value}{L:List Res}{o:Oper}
variable {t t':TypeId}{x z:Operand}{y ye:Ty}
theorem Holds.fresh {B:Nat}{w w':World}{r:Res}(h:Holds B M L w) (hk:Keep No w w') (hr:r.holds w') (ho: ∀b,r.own b->b=w.heap.size) (hB:B<=w.heap.size):Holds B M (r::L) w':=
  (h.keep hk (λ_ _ _ _ h=>h)).cons hr (λx hx b hb hb'=>by
    have h1:=ho b hb
    have h2:=Res.own_lt (h.all x hx) hb'
    omega) (λb hb=> .inl (by have:=ho b hb;omega))
theorem zgL {e:Nat}{l:List UInt8}(ho:o.op= .convert t t' x:=by exact rfl) (hx:ev g x=some (.string (str l)):=by exact rfl) (ht:tyOf P t=some y:=by exact ty rfl) {y':Ty}(ht':tyOf P t'=some y':=by exact ty rfl) (hy':y'.desc= .slice e:=by exact rfl) (he:tyOf P e=some ye:=by exact ty rfl) (hye:ye.desc= .int .u8:=by exact rfl):
    OpT P ro N w0 M ds o g L (λv L'=>∃b c J fz,l.length<=c/\v= .slice (some ⟨b,0,none⟩) l.length c/\L'= .obj b (.cells (l.map v8 ++ J).toArray e fz)::L):=
  OpT.run (by rw [ho];rfl) λa w X hst=>by
    obtain ⟨d,i,hd,hi,hs,_⟩:=zA ht
    obtain ⟨d',i',hd',hi',hs',_⟩:=zA ht'
    rw [hy'] at hs'
    have:=zae hs';subst this
    obtain ⟨d2,i2,hd2,hi2,hs2,_⟩:=zA he
    rw [hye] at hs2
    have hd2':d2= .int .u8:=by
      cases d2 <;> simp [slim] at hs2
      exact congrArg _ hs2
    subst hd2'
    have hrun:=Lib.run_convert_string_bytes w t t' e (str l) hd hd' hd2
    have hk:Keep No w (Lib.bytesWorld w e (str l)):=⟨rfl,rfl,rfl,by rw [Lib.bytesWorld_size];omega,λk hk _=>Lib.bytesWorld_at_old w e (str l) k hk⟩
    have hB:w0.heap.size<=w.heap.size:=hst.keep.size
    have hcells:Lib.bytesCells w e (str l)=(l.map v8 ++ List.replicate (grownCap w (str l).size 0 e - (str l).size) (Value.int .u8 0)).toArray:=by
      apply Array.toList_inj.1
      simp [Lib.bytesCells,str,v8,Wd.n8]
    refine ⟨_,_,Lib.bytesWorld w e (str l),_,?_,.inl rfl,⟨w.heap.size,grownCap w (str l).size 0 e,List.replicate (grownCap w (str l).size 0 e - (str l).size) (Value.int .u8 0),((Lib.bytesCells w e (str l)).size,(Lib.bytesCells w e (str l)).size+1),by have:=grownCap_ge w (str l).size 0 e;rw [zeP] at this ⊢;exact this,rfl,rfl⟩,hst.keep.trans hk (λ_ h=>h.elim),?_⟩
    · simp only [execOp,ho,hst.agr.eval hx,Sem.run_bind,hrun,Result.andThen_ok]
      rw [zeP]
      rfl
    · refine Holds.fresh hst.hold hk ?_ (λb hb=>hb.symm) hB
      show (Lib.bytesWorld w e (str l)).heap[w.heap.size]?=_
      rw [Lib.bytesWorld_at_new,hcells]
end
end Go.Sy
end
section
namespace Go.Proofs.YtcpjfilcilcekaaGreatDoor
open Go Go.Sy Go.Sh Go.Nt Go.RowKit
attribute [local irreducible] Sy SyL SyX Sy.Fn callFunc natC rowN refC iC gP gQ gL memB safeC fixB Sh.sum glen HashIs pkPt pkH
set_option maxRecDepth 10000
theorem zfl (l:List UInt8):(Sh.sum l).length=32:=zaU l
theorem ziz (a1:Option Addr) (m d:Nat) (xs:List Bs) (w:World) (hm:xs.length=m) (hmb:m < 1000) (hsx:SlA w a1 (xs.map Bs.val)) (hxs: ∀s∈xs,s.ok w/\s.n<=10000) (hT:Tab w No):
    Sy.Fn Tryz.prog 99 [.slice a1 m d] w No (Gives (.agg ((Sh.sum (Bs.cat xs)).map v8).toArray)):=by
  refine zk Tryz.func99 rfl Tryz.ntmps99 (by simp) Holds.nil ?_
  have hz:=HashIs.zero
  have hy32:=zfl (Bs.cat xs)
  repeat' (first|refine s_t ?_|(refine za (id:=0) ?_;(refine zi ?_;intro _))|(refine za (id:=1) ?_;(refine zi ?_;intro _))|(refine za (id:=2) ?_;refine zb ?_;refine zr ?_;refine zb ?_)|fail)
  rename_i b2 b3
  refine zD (γ:=Nat×List Value) (λg=>[(2,.pointer (some ⟨b2,0,none⟩)),(3,.pointer (some ⟨b3,0,none⟩)),(6,.slice a1 m d),(7,.int .i64 m),(8,.int .i64 g.1)]) (λg=>[.blk b3 172 g.2,.blk b2 66 (List.replicate 32 (.int .u8 0))])
    (λg=>g.1<=m/\HashIs (Bs.cat (xs.take g.1)) g.2) (λg=>m - g.1) (0,List.replicate 8 (.int .u32 0) ++ (List.replicate 64 (.int .u8 0) ++ [.int .i64 0])) ⟨Nat.zero_le _,by exact hz⟩ ?_ ?_ ?_
  · exact Sub.go
  · exact SubR.go2
  rintro ⟨i,C⟩ ⟨hi,hC⟩
  dsimp only at *
  have hcl:(Bs.cat (xs.take i)).length<=10000*i:=by
    have:=Bs.cat_le (k:=10000) (xs.take i) (λs hs=>by have:=hxs s (List.mem_of_mem_take hs);have h1:=this.1.len;omega)
    rw [List.length_take,Nat.min_eq_left (by omega)] at this;exact this
  by_cases hlt:i < m
  · obtain ⟨bl,ol,rfl,hcell⟩:=Bs.get hsx (hm ▸ hlt)
    have hci:=hcell i (hm ▸ hlt)
    have hcat:=Bs.cat_succ xs i (hm ▸ hlt)
    obtain ⟨h1,h4⟩:=hxs xs[i] (List.getElem_mem _)
    generalize xs[i]=s at *
    obtain ⟨sa,sn,sc,sl⟩:=s
    dsimp only at *
    have g1:decide ((i:Int) < (m:Int))=true:=decide_eq_true (by omega)
    have g5:IntKind.i64.wrap ((i:Int)+1)=((i+1:Nat):Int):=by rw [IntWalk.i64_in _ (by omega)];omega
    repeat' (first|refine s_t ?_|(refine za (id:=3) ?_;refine yv (zT (hr:=g1)) (k:=?_))|(refine za (id:=4) ?_;refine yv (zav (j:=i)) (k:=?_);refine yv (zw (hv:=hci)) (k:=?_);refine zd ?_)|(refine za (id:=5) ?_;refine zb ?_)|fail)
    refine ys (zcN (b:=b3) (Rel:=HashIs (Bs.cat (xs.take i) ++ sl)) (hc:=λw' X hk hh=>zeM b3 (Bs.cat (xs.take i)) sl C sa sn sc w' (hh.has (Has.append Has.here)) hC h1.len h1.cap (by omega) (SlF.oldB h1.sla hk hh Has.here) (hT.to hk (hh.one Has.here)))) (k:=?_);rintro _ _ ⟨rfl,C',hC',rfl⟩
    repeat' (first|refine s_0 ?_|(refine za (id:=6) ?_;refine yv (zL (hr:=g5)) (k:=?_);refine zb ?_)|fail)
    refine zu (i+1,C') ⟨hlt,by show HashIs (Bs.cat (xs.take (i+1))) C';rw [hcat];exact hC'⟩ ?_ ?_ ?_
    · show m - (i+1) < m - i;omega
    · exact Sub.go
    · exact SubR.go2
  obtain rfl:i=m:=by omega
  rw [List.take_of_length_le (by omega)] at hC hcl
  have g1:decide ((i:Int) < (i:Int))=false:=decide_eq_false (by omega)
  generalize hH:Sh.sum (Bs.cat xs)=H at *
  repeat' (first|refine s_0 ?_|(refine za (id:=3) ?_;refine yv (zT (hr:=g1)) (k:=?_))|(refine za (id:=7) ?_;refine yv (zf (hc:=λw' X hk hh=>hH ▸ zkr b3 (Bs.cat xs) C w' (hh.has (Has.append Has.here)) hC (by omega) (hT.no hk))) (k:=?_);refine zx ?_)|fail)
  exact ret1 rfl (resCells rfl (ty rfl) rfl Has.go Seg.all (by first|rfl|(simp only [List.length_map,List.length_set,List.length_replicate,List.length_append];omega)|(simp only [List.length_map];first|assumption|omega)|(simp;omega)|fail)) SubR.nil ⟨rfl,rfl⟩
theorem zfS (n:Nat) (w:World) (hn:n < 9223372036854775808):Sy.Fn Tryz.prog 57 [.int .i64 (n:Int)] w No (Gives (natV n)):=by
  refine zk Tryz.func57 rfl Tryz.ntmps57 (by simp) Holds.nil ?_
  have hln:=ze n
  have h1:=λw'=>zcG n w' hn
  repeat' (first|refine s_0 ?_|(refine za (id:=0) ?_;(refine zi ?_;intro _))|(refine za (id:=1) ?_;refine zb ?_;refine yv (zf (hc:=λ_ _ _ _=>(h1 _))) (k:=?_);refine zb ?_;refine zh ?_;refine zh ?_;(refine zi ?_;intro _);refine yn (zj (n:=n)) (k:=?_);refine zd ?_)|(refine za (id:=2) ?_;refine yv (zg (B:=natC n)) (k:=?_);refine yn (zj (n:=n)) (k:=?_))|fail)
  exact ret1 rfl (resCells (B:=natC n) rfl (ty rfl) rfl Has.go Seg.all (ze _).symm) SubR.nil ⟨rfl,rfl⟩
theorem u8w (n:Nat) (h:n < 256):IntKind.u8.wrap (n:Int)=Wd.n8 (UInt8.ofNat n):=by
  rw [IntWalk.u8_in _ (by omega),Wd.n8_of_nat,Nat.mod_eq_of_lt h]
theorem segH {A J:List Value} :Seg (A ++ J) 0 A:=λj v hj=>by
  rw [Nat.zero_add,List.getElem?_append_left (List.getElem?_eq_some_iff.1 hj).1];exact hj
theorem zqs {B0:Nat}{w:World}{M:Nat->Prop}{E b n:Nat}{l:List UInt8}{L:List Res}(hh:Holds B0 M L w) (hl:l.length=n) (hL:Has L (.blk b E (l.map v8))):(⟨some ⟨b,0,none⟩,n,n,l⟩:Bs).ok w:=
  ⟨hl,Nat.le_refl _,.inr ⟨b,0,rfl,zz (hh.has hL) Seg.all⟩,λh=>by cases h⟩
theorem zlv {w w':World}{L X:List Res}{E b c:Nat}{l:List UInt8}{J:List Value}{fz:Nat×Nat}(hk:Keep No w w') (hh:Holds w.heap.size No (L ++ X) w') (hc:l.length<=c) (hL:Has L (.obj b (.cells (l.map v8 ++ J).toArray E fz))):(⟨some ⟨b,0,none⟩,l.length,c,l⟩:Bs).ok w':=
  ⟨rfl,hc,(Rd.of (Reads.obj hL segH)) w' X hk hh,λh=>by cases h⟩
def pkQ (i k:Nat) (lab:List UInt8):Nat:=bev 256 (bn (Sh.sum (lab ++ [UInt8.ofNat i,UInt8.ofNat k])))*bev 256 (bn (Sh.sum (lab ++ [UInt8.ofNat i,UInt8.ofNat k]))) % gP i
theorem zqa (i:Nat) (s:Bool):pkQ i 0 (pkLab s)=pkPt i s:=by unfold pkQ pkPt pkH;rfl
set_option maxHeartbeats 1000000 in
theorem zqk (i k bl bi bp:Nat) (lab:List UInt8) (w:World) (h0:1<=i) (h5:i<=4) (hk:k < 256) (hlab:lab.length<=1000) (hT:Tab w No) (hcl:w.cell? ⟨bl,0,none⟩=some (.string (str lab))) (hci:w.cell? ⟨bi,0,none⟩=some (.int .i64 (i:Int))) (hcp:w.rangeAt bp 0 (natC (gP i))):
    Sy.Fn Tryz.prog 135 [.int .i64 (k:Int),.pointer (some ⟨bl,0,none⟩),.pointer (some ⟨bi,0,none⟩),.pointer (some ⟨bp,0,none⟩)] w No (Gives (.tuple #[natV (pkQ i k lab),.int .i64 0])):=by
  refine zk Tryz.func135 rfl Tryz.ntmps135 (by simp) Holds.nil ?_
  have hui:=u8w i (by omega)
  have huk:=u8w k hk
  have hP0:0 < gP i:=Nat.lt_trans Nat.zero_lt_one (zax i h0 h5)
  have hPW:=za8 i h0 h5
  have hq:pkQ i k lab=bev 256 (bn (Sh.sum (lab ++ [UInt8.ofNat i,UInt8.ofNat k])))*bev 256 (bn (Sh.sum (lab ++ [UInt8.ofNat i,UInt8.ofNat k]))) % gP i:=rfl
  have h32:=zfl (lab ++ [UInt8.ofNat i,UInt8.ofNat k])
  have hph:=λw' (hk':Keep No w w') b17 b16 bB cB (s1:(⟨some ⟨bB,0,none⟩,lab.length,cB,lab⟩:Bs).ok w') (s2:(⟨some ⟨b16,0,none⟩,2,2,[UInt8.ofNat i,UInt8.ofNat k]⟩:Bs).ok w') (h:w'.rangeAt b17 0 [Value.slice (some ⟨bB,0,none⟩) lab.length cB,.slice (some ⟨b16,0,none⟩) 2 2])=>
    ziz (some ⟨b17,0,none⟩) 2 2 [⟨some ⟨bB,0,none⟩,lab.length,cB,lab⟩,⟨some ⟨b16,0,none⟩,2,2,[UInt8.ofNat i,UInt8.ofNat k]⟩] w' rfl (by decide) (.inr ⟨b17,0,rfl,h⟩) (λs hs=>by
      simp only [List.mem_cons,List.not_mem_nil,or_false] at hs
      rcases hs with rfl|rfl
      · exact ⟨s1,by show lab.length<=10000;omega⟩
      · exact ⟨s2,by show 2<=10000;decide⟩) (hT.no hk')
  simp only [show ∀(x y:Bs),Bs.cat [x,y]=x.l ++ y.l from λx y=>by simp [Bs.cat]] at hph
  generalize Sh.sum (lab ++ [UInt8.ofNat i,UInt8.ofNat k])=D at *
  have hVW:bev 256 (bn D) < 18446744073709551616 ^ 16:=bevW' (by omega)
  have hfb:=λw' b (h:w'.rangeAt b 0 (D.map v8))=>za4 (some ⟨b,0,none⟩) 32 32 D w' h32 (Nat.le_refl _) (.inr ⟨b,0,rfl,h⟩) (by decide)
  rw [if_pos hVW] at hfb
  have hmul:=λw'=>zhc (bev 256 (bn D)) (bev 256 (bn D)) (gP i) w' hVW hVW hPW
  unfold modR at hmul
  rw [if_neg (by omega),<-hq] at hmul
  generalize bev 256 (bn D)=V at *
  generalize pkQ i k lab=r at *
  have lV:=ze V
  have lr:=ze r
  have lp:=ze (gP i)
  repeat' (first|refine s_0 ?_|(refine za (id:=0) ?_;(refine zi ?_;intro _);refine zd ?_)|(refine za (id:=1) ?_;refine yv (zw (hv:=hcl)) (k:=?_))|(refine ys (zgL (l:=lab)) (k:=?_);rintro _ _ ⟨bB,cB,J,fz,hcB,rfl,rfl⟩)|(refine zB ?_;first|refine yv (zw (hv:=hci)) (k:=?_)|refine yv (z3 (hr:=hui)) (k:=?_)|refine yv (z3 (hr:=huk)) (k:=?_)|refine zb ?_|(refine ys zt (k:=?_);rintro _ _ ⟨_,rfl,rfl⟩)|fail)|fail)
  rename_i b16 b17
  refine yv (zf (f:=99) (hc:=λw' X hk hh=>hph w' hk b17 b16 bB cB (zlv hk hh hcB (Has.there (Has.there Has.here))) (zqs hh rfl (Has.append (Has.there Has.here))) (zz (hh.has (Has.append Has.here)) Seg.all))) (k:=?_)
  repeat' (first|refine s_0 ?_|(refine za (id:=2) ?_;refine zam ?_;refine yv (zf (f:=117) (hc:=λw' X hk hh=>hfb w' _ (zz (hh.has (Has.append Has.here)) Seg.all))) (k:=?_);refine zb ?_;refine zh ?_;refine zh ?_;(refine zi ?_;intro _);refine yn (zj (n:=V)) (k:=?_);refine zd ?_)|(refine za (id:=3) ?_;refine zb ?_;refine zP ?_)|(refine za (id:=5) ?_;refine yv (zg (B:=natC V)) (k:=?_);refine yv (zg (B:=natC V)) (k:=?_);refine zF ?_;refine yv (zf (hc:=λ_ _ _ _=>(hmul _))) (k:=?_);refine zh ?_;refine zh ?_;refine yn (zj (n:=r)) (k:=?_);refine zd ?_)|(refine zB ?_;first|refine zx ?_|(refine zi ?_;intro _)|fail)|fail)
  exact ret2 rfl (resCells (B:=natC r) rfl (ty rfl) rfl Has.go Seg.all (ze _).symm) (resTmp rfl) SubR.nil ⟨rfl,rfl⟩
end Go.Proofs.YtcpjfilcilcekaaGreatDoor
end
