/- The specification of the keyed hash, walked. -/
import Derived.Test.YtcpjfilcilcekaaGreatDoorWJ07
import Derived.Test.YtcpjfilcilcekaaGreatDoorWJ27
import Derived.Test.YtcpjfilcilcekaaGreatDoorWJ25
import Derived.Test.YtcpjfilcilcekaaGreatDoorWJ30
import Derived.Test.YtcpjfilcilcekaaGreatDoorWJ05
set_option linter.all false
namespace Go.Proofs.YtcpjfilcilcekaaGreatDoor
open Go Go.Sy Go.Sh Go.RowKit
attribute [local irreducible] Sy SyL SyX Sy.Fn callFunc Sh.sum
set_option maxRecDepth 10000
theorem znr (key:List UInt8) (by':UInt8) (i:Nat) (h:(kbase key).length<=64) (hi:i < 64):(kxor (kpad key) by')[i]?=some ((if hl:i < (kbase key).length then (kbase key)[i] else 0) ^^^ by'):=by
  unfold kxor kpad
  rw [List.getElem?_map]
  split
  · rw [List.getElem?_append_left (by omega),List.getElem?_eq_getElem (by omega)];rfl
  · rw [List.getElem?_append_right (by omega),List.getElem?_replicate,if_pos (by omega)];rfl
theorem zhz (a0:Option Addr) (n c kb ko kc:Nat) (key:List UInt8) (by':UInt8) (w:World) (hn:key.length=n) (hb:n < 1000000000000) (hc:n<=c) (hsl:SlA w a0 (key.map Sy.v8)) (hnil:a0=none->c=0) (hR:RTab w No kb ko kc):
    Sy.Fn Tryz.prog 82 [.slice a0 n c,Sy.v8 by'] w No (λv R=>∃b,v= .slice (some ⟨b,0,none⟩) 64 64/\R= [.row v 5 1 64 ((kxor (kpad key) by').map Sy.v8)]):=by
  refine zk Tryz.func82 rfl Tryz.ntmps82 (by simp) Holds.nil ?_
  have hs32:=zaU key
  have hkb:=zjp key hs32
  have hget:=znr key by'
  repeat' (first|refine s_0 ?_|(refine za (id:=0) ?_;refine zd ?_)|(refine za (id:=1) ?_)|(refine za (id:=2) ?_;refine zb ?_;refine zr ?_;refine zaf ?_)|(refine ys (zb1 (n:=64)) (k:=?_);rintro _ _ ⟨bm,rfl,rfl⟩)|(refine zB ?_;first|refine zd ?_|fail)|fail)
  refine zaJ (γ:=Option Addr×Nat×Res) (λg=>[(0,.slice g.1 (kbase key).length g.2.1),(1,Sy.v8 by'),(5,.slice (some ⟨bm,0,none⟩) 64 64)]) (λg=>[.blk bm 5 (List.replicate 64 (.int .u8 0)),g.2.2])
    (λg=>0 < (kbase key).length-> ∃b1 o1,g.1=some ⟨b1,o1,none⟩/\ ∀C,Reads w No [.blk bm 5 C,g.2.2] b1 o1 ((kbase key).map Sy.v8)) ?_ ?_
  · refine za7 rfl (λh=>?_) (λh=>?_)
    · have h:=of_decide_eq_true h
      have hkk:kbase key=Sh.sum key:=by unfold kbase;rw [if_pos (by omega)]
      repeat' (first|refine s_0 ?_|(refine za (id:=3) ?_;refine zb ?_;refine yv (zf (hc:=λw' X hk hh=>zeQ a0 n c kb ko kc key w' hn (by omega) (hsl.keep hk (λ_ _ h=>h)) hnil (hR.no hk).cell (hR.no hk).row)) (k:=?_);(refine zi ?_;intro _);refine zx ?_)|(refine za (id:=4) ?_;refine zam ?_;refine zd ?_)|fail)
      rename_i b6
      have hlen:(kbase key).length=32:=by rw [hkk];exact hs32
      refine zN (some ⟨b6,0,none⟩,32,.blk b6 66 ((Sh.sum key).map Sy.v8)) (λ_=>⟨b6,0,rfl,λC=>by rw [hkk];exact Reads.blk (Has.there Has.here) Seg.all⟩) ?_ ?_
      · dsimp only;rw [hlen];exact Sub.go
      · exact SubR.go
    · have h:=of_decide_eq_false h
      have hkk:kbase key=key:=by unfold kbase;rw [if_neg (by omega)]
      refine zbk (zaZ 5 1) ?_
      repeat' (first|refine zbm ?_|refine zO ?_|fail)
      have hlen:(kbase key).length=n:=by rw [hkk,hn]
      refine zN (a0,c,.row (.slice none 0 0) 5 1 0 []) (λhpos=>?_) ?_ ?_
      · rcases hsl with h|⟨b1,o1,rfl,hr⟩
        · exfalso;have:=congrArg List.length h;rw [List.length_map,List.length_nil] at this;omega
        · exact ⟨b1,o1,rfl,λC=>by rw [hkk];exact Reads.old hr (λh=>h)⟩
      · dsimp only;rw [hlen];exact Sub.go
      · exact SubR.go
  rintro ⟨a1,c1,r⟩ hI
  dsimp only at *
  repeat' (first|refine s_t ?_|(refine za (id:=5) ?_;refine zd ?_)|fail)
  have h64:=zdS key hs32
  have hx64:(kxor (kpad key) by').length=64:=by rw [zdP,h64]
  refine zD (γ:=Nat) (λi=>[(0,.slice a1 (kbase key).length c1),(1,Sy.v8 by'),(5,.slice (some ⟨bm,0,none⟩) 64 64),(7,.int .i64 i)]) (λi=>[.blk bm 5 (((kxor (kpad key) by').take i).map Sy.v8 ++ List.replicate (64 - i) (.int .u8 0)),r]) (λi=>i<=64) (λi=>64 - i) 0 (by decide) ?_ ?_ ?_
  · exact Sub.go
  · exact SubR.go
  intro i hi
  by_cases hlt:i < 64
  · have hgi:=hget i hkb hlt
    have hset: ∀v,((((kxor (kpad key) by').take i).map Sy.v8 ++ List.replicate (64 - i) (Value.int .u8 0)).set i v)=((kxor (kpad key) by').take i).map Sy.v8 ++ v::List.replicate (64 - (i+1)) (Value.int .u8 0):=λv=>by
      rw [show 64 - i=64 - (i+1)+1 from by omega,List.replicate_succ,List.set_append_right _ _ (by simp;omega)]
      simp [hx64,Nat.min_eq_left (Nat.le_of_lt hlt)]
    obtain ⟨C,hC⟩: ∃C,C=((kxor (kpad key) by').take i).map Sy.v8 ++ List.replicate (64 - i) (Value.int .u8 0):=⟨_,rfl⟩
    have hCl:C.length=64:=by rw [hC];simp [hx64];omega
    have hend: ∀x:UInt8,(kxor (kpad key) by')[i]?=some (x ^^^ by')-> ∀v,(C.set i v).set i (Sy.v8 (x ^^^ by'))=((kxor (kpad key) by').take (i+1)).map Sy.v8 ++ List.replicate (64 - (i+1)) (Value.int .u8 0):=λx hx v=>by
      rw [List.set_set,hC,hset,List.take_add_one,hx];simp
    have hend0: ∀x:UInt8,(kxor (kpad key) by')[i]?=some (x ^^^ by')->C.set i (Sy.v8 (x ^^^ by'))=((kxor (kpad key) by').take (i+1)).map Sy.v8 ++ List.replicate (64 - (i+1)) (Value.int .u8 0):=λx hx=>by
      rw [hC,hset,List.take_add_one,hx];simp
    rw [<-hC]
    by_cases hki:i < (kbase key).length
    · obtain ⟨b1,o1,rfl,hrd⟩:=hI (by omega)
      rw [dif_pos hki] at hgi
      have hxi:((kbase key).map Sy.v8)[i]?=some (.int .u8 (Wd.n8 (kbase key)[i])):=by rw [List.getElem?_map,List.getElem?_eq_getElem hki];rfl
      have he:=hend _ hgi
      generalize (kbase key)[i]=x at *
      have hg2:(C.set i (.int .u8 (Wd.n8 x)))[i]?=some (.int .u8 (Wd.n8 x)):=by rw [List.getElem?_set_self (by omega)]
      repeat' (first|refine s_t ?_|(refine za (id:=6) ?_;refine zb ?_;refine zK ?_)|(refine za (id:=8) ?_;refine zb ?_;refine zb ?_;refine zr ?_;refine zK ?_)|(refine za (id:=9) ?_;refine zb ?_;refine zb ?_;refine zb ?_;refine zb ?_;refine zq ?_;refine yv (znu (h:=hrd _) (hv:=hxi)) (k:=?_);refine zq ?_;refine zx ?_)|(refine za (id:=10) ?_;refine zb ?_;refine zb ?_;refine zb ?_;refine zb ?_;refine zq ?_;refine yv (zH (hv:=hg2)) (k:=?_);refine zb ?_;refine yv (zbp (hr:=Wd.xor8 x by')) (k:=?_);refine zq ?_;refine zx ?_)|(refine za (id:=7) ?_;refine zb ?_;refine zV ?_;refine zd ?_)|fail)
      refine zu (i+1) ?_ ?_ ?_ ?_
      · show i+1<=64;omega
      · show 64 - (i+1) < 64 - i;omega
      · exact Sub.go
      · (repeat' (first|exact SubR.nil|(apply SubR.same;with_reducible (focus ((repeat (first|exact Rem.here|apply Rem.there));done)))|(apply SubR.blk;(focus ((repeat (first|exact Rem.here|apply Rem.there));done)))|(apply SubR.pick;(focus ((repeat (first|exact Rem.here|apply Rem.there));done)))|rfl))
        exact he _
    · rw [dif_neg hki] at hgi
      have he:=hend0 _ hgi
      have hg2:C[i]?=some (.int .u8 (Wd.n8 0)):=by rw [hC,List.getElem?_append_right (by simp;omega),List.getElem?_replicate,if_pos (by simp [hx64];omega)];rfl
      repeat' (first|refine s_t ?_|(refine za (id:=6) ?_;refine zb ?_;refine zK ?_)|(refine za (id:=8) ?_;refine zb ?_;refine zb ?_;refine zr ?_;refine zK ?_)|(refine za (id:=10) ?_;refine zb ?_;refine zb ?_;refine zb ?_;refine zb ?_;refine zq ?_;refine yv (zH (hv:=hg2)) (k:=?_);refine zb ?_;refine yv (zbp (hr:=Wd.xor8 0 by')) (k:=?_);refine zq ?_;refine zx ?_)|(refine za (id:=7) ?_;refine zb ?_;refine zV ?_;refine zd ?_)|fail)
      refine zu (i+1) ?_ ?_ ?_ ?_
      · show i+1<=64;omega
      · show 64 - (i+1) < 64 - i;omega
      · exact Sub.go
      · (repeat' (first|exact SubR.nil|(apply SubR.same;with_reducible (focus ((repeat (first|exact Rem.here|apply Rem.there));done)))|(apply SubR.blk;(focus ((repeat (first|exact Rem.here|apply Rem.there));done)))|(apply SubR.pick;(focus ((repeat (first|exact Rem.here|apply Rem.there));done)))|rfl))
        exact he
  obtain rfl:i=64:=by omega
  repeat' (first|refine s_0 ?_|(refine za (id:=6) ?_;refine zb ?_;refine zK ?_)|(refine za (id:=11) ?_;refine zb ?_;refine zd ?_)|fail)
  have hcells:((kxor (kpad key) by').take 64).map Sy.v8 ++ List.replicate (64 - 64) (Value.int .u8 0)=(kxor (kpad key) by').map Sy.v8:=by rw [List.take_of_length_le (by omega)];simp
  rw [hcells]
  exact zbn (zbY (n:=64) (s:=1) .here (by simp [hx64]) (by decide)) (ret1 rfl (resTmp rfl) (by exact SubR.go) ⟨_,rfl,rfl⟩)
end Go.Proofs.YtcpjfilcilcekaaGreatDoor
namespace Go.Proofs.YtcpjfilcilcekaaGreatDoor
open Go Go.Sy Go.Sh Go.RowKit
attribute [local irreducible] Sy SyL SyX Sy.Fn callFunc Sh.sum kxor kpad
set_option maxRecDepth 10000
theorem ziM (a0 a1:Option Addr) (n c m d kb ko kc:Nat) (key l:List UInt8) (w:World) (hn:key.length=n) (hb:n < 1000000000) (hc:n<=c) (hsl:SlA w a0 (key.map Sy.v8)) (hnil:a0=none->c=0)
    (hm:l.length=m) (hmb:m < 1000000000) (hsl1:SlA w a1 (l.map Sy.v8)) (hnil1:a1=none->d=0) (hR:RTab w No kb ko kc):
    Sy.Fn Tryz.prog 38 [.slice a0 n c,.slice a1 m d] w No (λv R=>∃b,v= .slice (some ⟨b,0,none⟩) 32 32/\R= [.blk b 66 ((hmac key l).map Sy.v8)]):=by
  refine zk Tryz.func38 rfl Tryz.ntmps38 (by simp) Holds.nil ?_
  have h64:(kxor (kpad key) 54).length=64:=by rw [zdP,zdS key (zaU key)]
  have h64':(kxor (kpad key) 92).length=64:=by rw [zdP,zdS key (zaU key)]
  obtain ⟨x,hx⟩: ∃x,Sh.sum (kxor (kpad key) 54 ++ l)=x:=⟨_,rfl⟩
  have hx32:x.length=32:=by rw [<-hx];exact zaU _
  obtain ⟨y,hy⟩: ∃y,Sh.sum (kxor (kpad key) 92 ++ x)=y:=⟨_,rfl⟩
  have hy32:y.length=32:=by rw [<-hy];exact zaU _
  have hmac':hmac key l=y:=by rw [<-hy,<-hx];rfl
  rw [hmac']
  have hcat:(kxor (kpad key) 54).map Sy.v8 ++ l.map Sy.v8=(kxor (kpad key) 54 ++ l).map Sy.v8:=List.map_append.symm
  have hlen:(kxor (kpad key) 54 ++ l).length=64+m:=by rw [List.length_append,h64,hm]
  have hcat':(kxor (kpad key) 92).map Sy.v8 ++ x.map Sy.v8=(kxor (kpad key) 92 ++ x).map Sy.v8:=List.map_append.symm
  have hlen':(kxor (kpad key) 92 ++ x).length=96:=by rw [List.length_append,h64',hx32]
  repeat' (first|refine s_0 ?_|(refine za (id:=0) ?_;refine zd ?_)|(refine za (id:=1) ?_;refine zb ?_;(refine ys (zn (hc:=λw' X hk hh=>zhz a0 n c kb ko kc key 54 w' hn (by omega) hc (hsl.keep hk (λ_ _ h=>h)) hnil (hR.no hk))) (k:=?_);rintro _ _ ⟨R,rfl,bk,rfl,rfl⟩);refine zb ?_;(refine ys (zac (k:=64) (m:=m) (hn:=by rw [List.length_map,Nat.mul_one,hm]) (hkm:=rfl) (hys:=hcat)) (k:=?_);rintro _ _ ⟨rfl,aN,cN,rfl⟩);refine yv (zf (hc:=λw' X hk hh=>hx ▸ zeQ _ (64+m) _ kb ko kc (kxor (kpad key) 54 ++ l) w' hlen (by omega) (Rd.row Has.here w' X hk hh) (λh=>(Row.nil hh Has.here h).1) (hR.no hk).cell (hR.no hk).row)) (k:=?_);(refine zi ?_;intro _);refine zx ?_)|fail)
  rename_i b5
  refine zai (id:=2) mixed ?_
  (refine zad 6 6 [[],[0],[],[0,1,2],[0,1,2,3],[],[0,1,2,3,4,5]] [[],[],[],[1],[],[],[]] none rfl ?_ ?_ ?_;kernel_rfl;kernel_rfl;refine zU ?_;try refine dh_0nE (h:=?_))
  refine z8 (R:=λ_ v Nw=>∃b,v= .slice (some ⟨b,0,none⟩) 64 64/\Nw= [.row v 5 1 64 ((kxor (kpad key) 92).map Sy.v8)]) (λ_ _ _=>rfl) (λρ hρ=>?_) (h:=?_)
  · refine OpT.mono (zn (hc:=λw' X hk hh=>zhz a0 n c kb ko kc key 92 w' hn (by omega) hc (hsl.keep hk (λ_ _ h=>h)) hnil (hR.no hk))) λv L' h=>?_
    obtain ⟨R,rfl,h⟩:=h
    exact ⟨R,rfl,h⟩
  (skip;refine zj1 ?_;try refine dh_0nE (h:=?_))
  refine z8 (R:=λ_=>RowOf 5 96 ((kxor (kpad key) 92 ++ x).map Sy.v8)) (λ_ _ _=>rfl) (λρ hρ=>?_) (h:=?_)
  · obtain ⟨⟨b,e1,e2⟩,-⟩:=hρ
    rw [e1] at e2
    refine OpT.mono (zac (k:=64) (m:=32) (v:=.slice (some ⟨b,0,none⟩) 64 64) (hs:=by show some (ρ 1).1=_;rw [e1]) (hL:=by show Rem ((ρ 1).2 ++ _) _ _;rw [e2];exact Rem.here) (hr:=by show Rd w No ((ρ 1).2 ++ _) _ _;rw [e2];exact Rd.of (Reads.blk (Has.there Has.here) Seg.all)) (hn:=by rw [List.length_map,Nat.mul_one,hx32]) (hkm:=rfl) (hys:=hcat')) λv L' h=>?_
    obtain ⟨rfl,a,c,rfl⟩:=h
    exact ⟨_,rfl,a,c,rfl,rfl⟩
  refine dcE (u:=.agg (y.map Sy.v8).toArray) (λρ hρ=>?_) (k:=?_)
  · obtain ⟨⟨a,c,e1,e2⟩,-⟩:=hρ
    rw [e1] at e2
    exact zf (vs:=[.slice a 96 c]) (ha:=by show (some [(ρ 3).1]:Option (List Value))=_;rw [e1]) (hc:=λw' X hk hh=>hy ▸ zeQ a 96 c kb ko kc (kxor (kpad key) 92 ++ x) w' hlen' (by omega) (Rd.row (by show Has ((ρ 3).2 ++ _) _;rw [e2];exact Has.here) w' X hk hh) (λh=>(Row.nil hh (by show Has ((ρ 3).2 ++ _ ++ _) _;rw [e2];exact Has.here) h).1) (hR.no hk).cell (hR.no hk).row)
  refine z8 (R:=λ_ v Nw=>∃b,v= .pointer (some ⟨b,0,none⟩)/\Nw= [.blk b 66 (List.replicate 32 (.int .u8 0))]) (λ_ _ _=>rfl) (λρ hρ=>OpT.mono za9 λv L' h=>?_) (h:=?_)
  · obtain ⟨b,rfl,rfl⟩:=h
    exact ⟨[_],rfl,b,rfl,rfl⟩
  refine zaT (h:=?_)
  rintro ρ ⟨⟨b6,f1,f2⟩,-⟩
  (refine zah [[],[0],[],[0,1,2],[0,1,2,3],[],[0,1,2,3,4,5]] ?_ ?_;kernel_rfl)
  refine SyL.weaken (fr':=[(16,.agg (y.map Sy.v8).toArray),(6,.pointer (some ⟨b6,0,none⟩))]) (L':=[.blk b6 66 (List.replicate 32 (.int .u8 0))]) ?_ ?_ ?_
  · repeat' (first|refine s_0 ?_|(refine za (id:=3) ?_;refine zam ?_;refine zd ?_)|(refine zB ?_;first|refine zx ?_|fail)|fail)
    exact ret1 rfl (resTmp rfl) (by exact SubR.go) ⟨_,rfl,rfl⟩
  · (repeat' (first|exact Sub.nil|refine Sub.cons rfl ?_ ?_|rfl))
    exact f1
  · show SubR _ ((ρ 5).2 ++ _)
    rw [f2]
    exact SubR.go
end Go.Proofs.YtcpjfilcilcekaaGreatDoor
