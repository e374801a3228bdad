/- Layer derive, walked: numbers, and the first bytes of numbered blocks. -/
import Derived.Test.YtcpjfilcilcekaaGreatDoorYJ13
import Derived.Test.YtcpjfilcilcekaaGreatDoorYJ28
import Derived.Test.YtcpjfilcilcekaaGreatDoorYJ31
import Derived.Test.YtcpjfilcilcekaaGreatDoorYJ30
set_option linter.all false
section
namespace Go.Sh
open Go Go.Sy
def ArgN (T:Nat) (_:Nat->Prop) (x:Nat×List UInt8) (vs:List Value) (RA:List Res) (_:World):Prop:=∃b,vs= [.int .i64 x.1,.slice (some ⟨b,0,none⟩) 32 32]/\RA= [.blk b T (x.2.map Sy.v8)]
def numbered (f:Nat->List UInt8) (q:Nat):List (Nat×List UInt8):=(List.range q).map λi=>(i+1,f (i+1))
theorem zcQ (f:Nat->List UInt8) (q:Nat):(numbered f q).length=q:=by unfold numbered;simp
theorem zfO (f:Nat->List UInt8) (q k:Nat) (h:k < (numbered f q).length):(numbered f q)[k]=(k+1,f (k+1)):=by
 have:(numbered f q)[k]?=some (k+1,f (k+1)):=by
  rw [zcQ] at h
  unfold numbered
  rw [List.getElem?_map,List.getElem?_range h];rfl
 rw [List.getElem?_eq_getElem h] at this
 exact Option.some.inj this
end Go.Sh
namespace Go.Proofs.YtcpjfilcilcekaaGreatDoor
open Go Go.Sy Go.Sh Go.RowKit
attribute [local irreducible] Sy SyL SyX Sy.Fn callFunc Sh.sum kxor kpad kbase macA HashIs MacIs hmac
set_option maxRecDepth 10000
theorem shrI (x k:Nat) (kk:IntKind) (h:k < 64):Op.shift .shr .i64 (x:Int) kk (k:Int)=pure (.int .i64 ((x / 2 ^ k:Nat):Int)):=by
 rw [shift_shr_any _ _ _ _ (Int.natCast_nonneg _)];congr 2
 rw [Int.toNat_natCast,show min k IntKind.i64.bits=k from Nat.min_eq_left (Nat.le_of_lt h),Int.natCast_ediv,Int.natCast_pow];rfl
theorem zbN (x:Nat):IntKind.u8.wrap (x:Int)=Wd.n8 (UInt8.ofNat x):=by rw [Wd.wrap_u8_nat,Wd.n8_of_nat]
theorem zh2 (v:Nat) (w:World) (hv:v < 4294967296):Sy.Fn Tryz.prog 149 [.int .i64 v] w No (λr R=>∃b,r= .slice (some ⟨b,0,none⟩) 4 4/\R= [.blk b 5 ((four v).map Sy.v8)]):=by
 refine zk Tryz.func149 rfl Tryz.ntmps149 (by simp) Holds.nil ?_
 repeat' (first|refine s_0 ?_|(refine za (id:=0) ?_;refine zd ?_)|(refine za (id:=1) ?_;refine zb ?_;refine yv (zat (hr:=shrI v 24 _ (by decide))) (k:=?_);refine yv (zZ (hr:=zbN _)) (k:=?_);refine zb ?_;refine yv (zat (hr:=shrI v 16 _ (by decide))) (k:=?_);refine yv (zZ (hr:=zbN _)) (k:=?_);refine zb ?_;refine yv (zat (hr:=shrI v 8 _ (by decide))) (k:=?_);refine yv (zZ (hr:=zbN _)) (k:=?_);refine zb ?_;refine yv (zZ (hr:=zbN _)) (k:=?_);(refine ys zt (k:=?_);rintro _ _ ⟨_,rfl,rfl⟩);refine zd ?_)|fail)
 exact ret1 rfl (resTmp rfl) (by exact SubR.go) ⟨_,rfl,rfl⟩
theorem zjZ (b1 bf:Nat) (fst cap:List Value) (f:Nat->List UInt8) (q:Nat) (w:World) (M:Nat->Prop) (hcell:w.cell? ⟨b1,0,none⟩=some (.func (.func bf) fst.toArray cap.toArray)) (hn: ¬M b1) (hq:q < 100000) (h32: ∀i,(f i).length=32)
  (en: ∀args w,(callFunc bf args).run Tryz.prog w= .ok (.enter bf args) w) (hb: ∀w' i,Keep M w w'->1<=i->i<=q->Sy.Fn Tryz.prog bf (fst ++ [.int .i64 (i:Nat)] ++ cap) w' No (Gives (.agg ((f i).map Sy.v8).toArray))):
  IterE True Tryz.prog 148 [.pointer (some ⟨b1,0,none⟩)] (numbered f q) (ArgN 66) w M []:=by
 intro lp J Jx j0 hnv hJ0 hh hY
 have hnv:=hnv trivial
 rw [zcQ] at hnv
 refine zk Tryz.func148 rfl Tryz.ntmps148 (by simp) hh ?_
 repeat' (first|refine s_t ?_|(refine za (id:=0) ?_;refine zd ?_)|fail)
 refine zE (γ:=Nat×Res) (λg=>[(0,.func (.yield lp) #[] #[]),(1,.pointer (some ⟨b1,0,none⟩)),(3,.int .i64 ((g.1+1:Nat):Int))]) (λg=>[g.2]) (λg=>g.1<=q/\J g.1 g.2) (λg=>q - g.1) (0,j0) ⟨Nat.zero_le _,hJ0⟩ ?_ ?_ ?_
 ·exact Sub.go
 ·exact SubR.go
 rintro ⟨k,j⟩ ⟨hk,hJ⟩
 dsimp only at hk hJ ⊢
 have hkq:k < q:=by
  rcases Nat.lt_or_ge k q with h|h
  ·exact h
  ·obtain rfl:k=q:=by omega
   exact (hnv j hJ).elim
 have hf:=h32 (k+1)
 have hkx:k < (numbered f q).length:=by rw [zcQ];exact hkq
 have hx:(numbered f q)[k]=(k+1,f (k+1)):=zfO f q k hkx
 repeat' (first|refine s_t ?_|(refine za (id:=2) ?_;refine yv (zx (hv:=hcell) (hn:=hn)) (k:=?_);refine zb ?_;refine yv (zaI (he:=en) (hc:=λw' X hk hh=>hb w' (k+1) hk (by omega) (by omega))) (k:=?_);(refine zi ?_;intro _);refine zB ?_)|(refine zC ?_;first|refine zb ?_|fail)|refine za ?_|fail)
 rename_i b4
 repeat' (first|refine s_0 ?_|(refine zC ?_;first|(refine ys (zdb hY hkx hJ (hL:=RemL.cons (by exact Rem.there Rem.here) rfl (RemL.cons (by exact Rem.here) rfl RemL.nil)) (harg:=λw' X _ _=>by rw [hx];exact ⟨b4,rfl,rfl⟩)) (k:=?_);rintro _ _ ⟨y,j',rfl,rfl,hy⟩;cases y)|refine zb ?_|refine zap ?_|refine zal ?_|fail)|refine za ?_|fail)
 ·repeat' (first|fail)
  exact ret0 rfl (by exact SubR.go) ⟨j',rfl,.inr ⟨k+1,by omega,hy⟩⟩
 ·repeat' (first|refine z6 ?_|refine zR ?_|(refine zC ?_;first|refine zd ?_|refine zY ?_|fail)|fail)
  refine zy (k+1,j') ⟨hkq,hy⟩ ?_ ?_ ?_
  ·show q - (k+1) < q - k;omega
  ·exact Sub.go
  ·exact SubR.go
theorem zkt (bf:Nat) (fst cap:List Value) (w:World):Sy.Fn Tryz.prog 115 [.func (.func bf) fst.toArray cap.toArray] w No (λv R=>∃b1,v= .func (.func 148) #[] #[.pointer (some ⟨b1,0,none⟩)]/\R= [.blk b1 157 [.func (.func bf) fst.toArray cap.toArray]]):=by
 refine zk Tryz.func115 rfl Tryz.ntmps115 (by simp) Holds.nil ?_
 repeat' (first|refine s_0 ?_|(refine za (id:=0) ?_;(refine zi ?_;intro _);refine zd ?_)|(refine za (id:=1) ?_;refine zW ?_;refine zd ?_)|fail)
 exact ret1 rfl (resTmp rfl) (by exact SubR.go) ⟨_,rfl,rfl⟩
theorem znU (n gf:Nat) (lb:List Value) (f:Nat->List UInt8) (w:World) (h1:1<=n) (h2:n<=100000) (h32: ∀i,(f i).length=32) (eg: ∀args w,(callFunc gf args).run Tryz.prog w= .ok (.enter gf args) w)
  (hit: ∀(w':World) (Mi:Nat->Prop),Keep No w w'->(∀b,Mi b->w.heap.size<=b)->IterE True Tryz.prog gf lb (numbered f ((n+31) / 32)) (ArgN 66) w' Mi []):
  Sy.Fn Tryz.prog 114 [.int .i64 n,.func (.func gf) #[] lb.toArray] w No (λv R=>∃a k,v= .slice a n k/\R= [.row (.slice a n k) 5 1 n ((firstN f n).map Sy.v8)]):=by
 refine zk Tryz.func114 rfl Tryz.ntmps114 (by simp) Holds.nil ?_
 repeat' (first|refine s_t ?_|refine zgO ?_|(refine za (id:=0) ?_;(refine zi ?_;intro _);refine zd ?_)|(refine za (id:=1) ?_;(refine zi ?_;intro _))|(refine za (id:=2) ?_;refine zb ?_)|fail)
 rename_i b2 b5
 have hq:32*((n+31) / 32)>=n:=by omega
 have hxl:=zcQ f ((n+31) / 32)
 have hrl:=zc1 f h32
 refine zbh (zaU 5 1) ?_
 refine ziq True (γ:=Nat×Option Addr×Nat) (xs:=numbered f ((n+31) / 32)) (Arg:=ArgN 66) zbA rfl eg rfl (λk s=>s.1=k/\32*k < n) (λcc k s=>cc= .exit 0/\s.1=k/\n<=32*k/\k<=(n+31) / 32)
  (λs=>[.blk b5 22 [.slice s.2.1 (32*s.1) s.2.2],.row (.slice s.2.1 (32*s.1) s.2.2) 5 1 (32*s.1) ((rows f s.1).map Sy.v8),.blk b2 3 [.int .i64 n]]) [] [] (0,none,0) ?_ ?_ ?_ ?_ ?_ ?_ ?_ ?_
 ·exact ⟨rfl,by omega⟩
 ·exact List.Perm.swap _ _ _
 ·exact λw' Mi X hk hm _ _=>hit w' Mi hk (λb hb=>(hm b hb).resolve_right (λh=>h))
 ·exact λ_ s h=>by
   obtain ⟨_,h⟩:=h
   rw [hxl] at h;omega
 ·rintro O x vs RA w' ⟨b,rfl,_⟩;rfl
 ·rintro lp k hk ⟨i,a,c⟩ vs RA W rec hrec ⟨hi,hlt⟩ harg hkW hmine
  rw [zfO] at harg
  obtain ⟨bx,rfl,rfl⟩:=harg
  rw [hxl] at hk
  dsimp only at hi hlt ⊢
  subst hi
  have hf:=h32 (i+1)
  have hys:(rows f i).map Sy.v8 ++ (f (i+1)).map Sy.v8=(rows f (i+1)).map Sy.v8:=by rw [zed,List.map_append]
  have hkm:32*i+32=32*(i+1):=by omega
  generalize f (i+1)=x at *
  by_cases hge:n<=32*(i+1)
  ·repeat' (first|refine s_t ?_|(apply zbr;(focus ((repeat (first|exact Rem.here|apply Rem.there));done));assumption)|(refine za (id:=3) ?_;refine zd ?_)|(refine za (id:=4) ?_;refine zD ?_;refine zb ?_;(refine ys (zaj (k:=32*i) (m:=32) (hn:=by rw [List.length_map,hf]) (hkm:=hkm) (hys:=hys)) (k:=?_);rintro _ _ ⟨rfl,aN,cN,rfl⟩);refine zB ?_)|(refine za (id:=5) ?_;refine zD ?_;refine zq ?_;refine zD ?_;refine zac ?_)|fail)
   refine zfR (i+1,aN,cN) ⟨rfl,rfl,hge,by omega⟩ ?_
   exact SubR.go
  ·repeat' (first|refine s_t ?_|(apply zbr;(focus ((repeat (first|exact Rem.here|apply Rem.there));done));assumption)|(refine za (id:=3) ?_;refine zd ?_)|(refine za (id:=4) ?_;refine zD ?_;refine zb ?_;(refine ys (zaj (k:=32*i) (m:=32) (hn:=by rw [List.length_map,hf]) (hkm:=hkm) (hys:=hys)) (k:=?_);rintro _ _ ⟨rfl,aN,cN,rfl⟩);refine zB ?_)|(refine za (id:=5) ?_;refine zD ?_;refine zq ?_;refine zD ?_;refine zac ?_)|fail)
   refine zdQ (i+1,aN,cN) ⟨rfl,by omega⟩ ?_
   exact SubR.go
 ·rintro s ⟨_,h⟩
  rw [hxl] at h;omega
 ·rintro _ k ⟨i,a,c⟩ hk ⟨rfl,hi,hge,hk2⟩
  dsimp only at hi hge ⊢
  subst hi
  refine zci (λw' hh=>(⟨Row.cap hh (Has.there Has.here),Row.nil hh (Has.there Has.here)⟩:32*i<=c/\(a=none->c=0/\32*i=0))) λhcn=>?_
  obtain ⟨hcap,hnl⟩:=hcn
  have hfn:=ziC f h32 n i hge
  have hrl':=hrl i
  generalize rows f i=rw at *
  repeat' (first|refine s_0 ?_|refine zeb ?_|(refine za (id:=6) ?_;refine zD ?_;refine zD ?_;refine yv (zbp (l:=0) (h:=n) (n':=n)) (k:=?_);(refine ys (zn (hc:=λw' X hk hh=>zoF a n c (rw.take n) w' (by rw [List.length_take];omega) (by omega) (by rw [List.map_take];exact ((Rd.row (Has.there Has.here)).take n) w' X hk hh) (λh=>⟨(hnl h).1,by have:=(hnl h).2;omega⟩))) (k:=?_);rintro _ _ ⟨R,rfl,ac,kc,rfl,rfl⟩);refine zd ?_)|fail)
  rw [hfn]
  exact ret1 rfl (resTmp rfl) (by exact SubR.go) ⟨_,_,rfl,rfl⟩
end Go.Proofs.YtcpjfilcilcekaaGreatDoor
end
section
namespace Go.Proofs.YtcpjfilcilcekaaGreatDoor
open Go Go.Sy Go.Sh Go.RowKit
attribute [local irreducible] Sy SyL SyX Sy.Fn callFunc Sh.sum kxor kpad kbase macA HashIs MacIs hmac
set_option maxRecDepth 10000
structure InOk (w:World) (a:Option Addr) (n c:Nat) (l:List UInt8):Prop where
 len:l.length=n
 cap:n<=c
 sla:SlA w a (l.map Sy.v8)
 nil:a=none->c=0
theorem InOk.keep {w w':World}{a:Option Addr}{n c:Nat}{l:List UInt8}(h:InOk w a n c l) (hk:Keep No w w'):InOk w' a n c l:=⟨h.len,h.cap,h.sla.keep hk (λ_ _ h=>h),h.nil⟩
theorem InOk.far {w w' w'':World}{Mi:Nat->Prop}{a:Option Addr}{n c:Nat}{l:List UInt8}(h:InOk w a n c l) (hk:Keep No w w') (hm: ∀b,Mi b->w.heap.size<=b) (hk2:Keep Mi w' w''):InOk w'' a n c l:=
 ⟨h.len,h.cap,((SlA.to (Mi:=Mi) h.sla hk (λb hb=> .inl (hm b hb))).to (Mi:=No) hk2 (λ_ h=>h.elim)).sla,h.nil⟩
theorem Tab.far {w w' w'':World}{Mi:Nat->Prop}(h:Tab w No) (hk:Keep No w w') (hm: ∀b,Mi b->w.heap.size<=b) (hk2:Keep Mi w' w''):Tab w'' No:=
 (h.to (Mi:=Mi) hk (λb hb=> .inl (hm b hb))).no hk2
def NumOf (v:Nat) (r:Value) (Nw:List Res):Prop:=∃b,r= .slice (some ⟨b,0,none⟩) 4 4/\Nw= [.blk b 5 ((four v).map Sy.v8)]
set_option maxHeartbeats 1000000 in
theorem zmr (a0 a1 a2:Option Addr) (n0 c0 n1 c1 n2 c2 n i:Nat) (key label ctx:List UInt8) (w:World) (h0:InOk w a0 n0 c0 key) (h1:InOk w a1 n1 c1 label) (h2:InOk w a2 n2 c2 ctx) (hb0:n0<=4096) (hb1:n1<=4096) (hb2:n2<=4096) (hn:n<=100000) (hi:i<=100000) (hT:Tab w No):
  Sy.Fn Tryz.prog 116 [.agg ([.slice a0 n0 c0,.slice a1 n1 c1,.slice a2 n2 c2,.int .i64 n]:List Value).toArray,.int .i64 i] w No (Gives (.agg ((dblock key label ctx n i).map Sy.v8).toArray)):=by
 refine zk Tryz.func116 rfl Tryz.ntmps116 (by simp) Holds.nil ?_
 have hs32:(dblock key label ctx n i).length=32:=zbJ _ _
 have hd:dblock key label ctx n i=hmac key (four i ++ label ++ [0] ++ ctx ++ four (8*n)):=rfl
 obtain ⟨s,hs⟩: ∃s,dblock key label ctx n i=s:=⟨_,rfl⟩
 rw [hs] at hs32 hd ⊢
 have hmul:IntKind.i64.wrap (8*(n:Int))=((8*n:Nat):Int):=by rw [IntWalk.i64_in _ (by omega)];omega
 repeat' (first|refine s_0 ?_|(refine za (id:=0) ?_;(refine zi ?_;intro _);(refine zi ?_;intro _))|fail)
 rename_i b2 b4
 refine zah (id:=1) mixed ?_
 (refine zab 21 21 [[],[0],[0,1],[],[3],[],[5],[],[],[8],[],[10],[10,11],[3,4,10,11,12],[3,4,5,6,7,8,9,10,11,12,13],[0,1,2,3,4,5,6,7,8,9,10,11,12,13,14],[0,1,2,3,4,5,6,7,8,9,10,11,12,13,14,15],[0,1,2,3,4,5,6,7,8,9,10,11,12,13,14,15,16],[0,1,2,3,4,5,6,7,8,9,10,11,12,13,14,15,16],[],[0,1,2,3,4,5,6,7,8,9,10,11,12,13,14,15,16,17,19],[0,1,2,3,4,5,6,7,8,9,10,11,12,13,14,15,16,17,18,19,20]] [[],[],[],[],[],[],[],[],[],[],[],[],[],[],[],[],[],[],[],[],[19],[]] none rfl ?_ ?_ ?_;kernel_rfl;kernel_rfl;refine zT ?_;refine zT ?_;refine zeH ?_;refine zS ?_;try refine z5 (h:=?_))
 refine z7 (R:=λ_=>NumOf i) (λ_ _ _=>rfl) (λρ hρ=>OpT.mono (zn (hc:=λw' X hk hh=>zh2 i w' (by omega))) λv L' h=>?_) (h:=?_)
 ·obtain ⟨R,rfl,h⟩:=h
  exact ⟨R,rfl,h⟩
 (skip;refine zT ?_;refine zeH ?_;try refine z5 (h:=?_))
 refine z7 (R:=λ_=>LitOf 5 [.int .u8 0]) (λ_ _ _=>rfl) (λρ hρ=>OpT.mono zt λv L' h=>?_) (h:=?_)
 ·obtain ⟨b,rfl,rfl⟩:=h
  exact ⟨[_],rfl,b,rfl,rfl⟩
 (skip;refine zT ?_;refine zeH ?_;refine zT ?_;refine zeH ?_;refine dcE (λ_ _=>zan (hr:=hmul)) (k:=?_);try refine z5 (h:=?_))
 refine z7 (R:=λ_=>NumOf (8*n)) (λ_ _ _=>rfl) (λρ hρ=>OpT.mono (zn (hc:=λw' X hk hh=>zh2 (8*n) w' (by omega))) λv L' h=>?_) (h:=?_)
 ·obtain ⟨R,rfl,h⟩:=h
  exact ⟨R,rfl,h⟩
 refine z7 (R:=λρ=>LitOf 22 [(ρ 4).1,.slice a1 n1 c1,(ρ 7).1,.slice a2 n2 c2,(ρ 13).1]) (λρ ρ' h=>by rw [h 4 (by decide),h 7 (by decide),h 13 (by decide)]) (λρ hρ=>?_) (h:=?_)
 ·obtain ⟨⟨b13,e13,f13⟩,⟨b7,e7,f7⟩,⟨b4',e4,f4⟩,-⟩:=hρ
  refine OpT.mono (zt (hc:=by show [(ρ 4).1,_,(ρ 7).1,_,(ρ 13).1].all _=true;rw [e4,e7,e13];rfl)) λv L' h=>?_
  obtain ⟨b,rfl,rfl⟩:=h
  exact ⟨[_],rfl,b,rfl,rfl⟩
 refine dcE (u:=.tuple #[.agg (s.map Sy.v8).toArray,.int .i64 0]) (λρ hρ=>?_) (k:=?_)
 ·obtain ⟨⟨b,e,f⟩,⟨b13,e13,f13⟩,⟨b7,e7,f7⟩,⟨b4',e4,f4⟩,-⟩:=hρ
  rw [e4,e7,e13] at f
  refine zf (vs:=[.slice a0 n0 c0,.slice (some ⟨b,0,none⟩) 5 5]) (ha:=by show (some [_,(ρ 14).1]:Option (List Value))=_;rw [e];rfl) (hc:=λw' X hk hh=>?_)
  obtain ⟨xs5,hx5⟩: ∃x:List Bs,x= [⟨some ⟨b4',0,none⟩,4,4,four i⟩,⟨a1,n1,c1,label⟩,⟨some ⟨b7,0,none⟩,1,1,[0]⟩,⟨a2,n2,c2,ctx⟩,⟨some ⟨b13,0,none⟩,4,4,four (8*n)⟩]:=⟨_,rfl⟩
  have hh':Holds w.heap.size No ([.blk b 22 (xs5.map Bs.val),.blk b13 5 ((four (8*n)).map Sy.v8),.blk b7 5 [.int .u8 0],.blk b4' 5 ((four i).map Sy.v8)] ++ ([.blk b4 66 (List.replicate 32 (.int .u8 0)),.blk b2 152 [.slice a0 n0 c0,.slice a1 n1 c1,.slice a2 n2 c2,.int .i64 n]] ++ X)) w':=by
   have h2:Holds w.heap.size No ((ρ 14).2 ++ ((ρ 13).2 ++ ((ρ 7).2 ++ ((ρ 4).2 ++ [.blk b4 66 (List.replicate 32 (.int .u8 0)),.blk b2 152 [.slice a0 n0 c0,.slice a1 n1 c1,.slice a2 n2 c2,.int .i64 n]]))) ++ X) w':=hh
   rw [f,f13,f7,f4] at h2
   rw [hx5];exact h2
  have hcat:Bs.cat xs5=four i ++ label ++ [0] ++ ctx ++ four (8*n):=by rw [hx5];simp [Bs.cat]
  have hp: ∀x∈xs5,x.l.length=x.n/\x.n<=x.c/\SlA w' x.a (x.l.map Sy.v8)/\x.n<=10000:=λx hx=>by
   rw [hx5] at hx
   have k1:=h1.keep hk
   have k2:=h2.keep hk
   rcases List.mem_cons.1 hx with rfl|hx
   ·exact ⟨zcr i,Nat.le_refl _,(Rd.of (Reads.blk (Has.there (Has.there (Has.there Has.here))) Seg.all)) w' _ hk hh',(show 4<=10000 by decide)⟩
   rcases List.mem_cons.1 hx with rfl|hx
   ·exact ⟨k1.len,k1.cap,k1.sla,(show n1<=10000 by omega)⟩
   rcases List.mem_cons.1 hx with rfl|hx
   ·exact ⟨rfl,Nat.le_refl _,(Rd.of (Reads.blk (Has.there (Has.there Has.here)) Seg.all)) w' _ hk hh',(show 1<=10000 by decide)⟩
   rcases List.mem_cons.1 hx with rfl|hx
   ·exact ⟨k2.len,k2.cap,k2.sla,(show n2<=10000 by omega)⟩
   obtain rfl:=List.mem_singleton.1 hx
   exact ⟨zcr (8*n),Nat.le_refl _,(Rd.of (Reads.blk (Has.there Has.here) Seg.all)) w' _ hk hh',(show 4<=10000 by decide)⟩
  have hpa:=znA (m:=5) hh' Has.here (by rw [hx5];rfl) (by decide) hp
  have:=zph a0 (some ⟨b,0,none⟩) n0 c0 5 5 key xs5 w' h0.len hb0 h0.cap (h0.keep hk).sla hpa.1 hpa.2.1 hpa.2.2.1 hpa.2.2.2 (hT.no hk)
  rw [hcat,<-hd] at this
  exact this
 (skip;refine zS ?_;refine zbS ?_;refine zbS ?_;try refine z5 (h:=?_))
 refine z7 (R:=λ_=>PtrOf 66 (List.replicate 32 (.int .u8 0))) (λ_ _ _=>rfl) (λρ hρ=>OpT.mono zaX λv L' h=>?_) (h:=?_)
 ·obtain ⟨b,rfl,rfl⟩:=h
  exact ⟨[_],rfl,b,rfl,rfl⟩
 refine zd7 (R:=λρ _ Nw=>∃b,(ρ 19).1= .pointer (some ⟨b,0,none⟩)/\Nw= [.blk b 66 (s.map Sy.v8)]) (λρ ρ' h=>by rw [h 19 (by decide)]) (λρ hρ=>?_) (h:=?_)
 ·obtain ⟨⟨b,f1,f2⟩,-⟩:=hρ
  refine OpT.mono (zM (hx:=by show some (ρ 19).1=_;rw [f1]) (h1:=by rw [List.length_map,hs32]) (hL:=by show Upd ((ρ 19).2 ++ _) _ _ _;rw [f2];exact Upd.here) (hC:=by rw [List.length_map,hs32,List.length_replicate])) λv L' h=>?_
  obtain ⟨rfl,rfl⟩:=h
  exact ⟨[_],rfl,b,f1,rfl⟩
 refine zaE (h:=?_)
 rintro ρ ⟨⟨b5,g1,g2⟩,-,⟨b,-,f⟩,⟨b13,-,f13⟩,⟨b7,-,f7⟩,⟨b4',-,f4⟩,-⟩
 (refine zag [[],[0],[0,1],[],[3],[],[5],[],[],[8],[],[10],[10,11],[3,4,10,11,12],[3,4,5,6,7,8,9,10,11,12,13],[0,1,2,3,4,5,6,7,8,9,10,11,12,13,14],[0,1,2,3,4,5,6,7,8,9,10,11,12,13,14,15],[0,1,2,3,4,5,6,7,8,9,10,11,12,13,14,15,16],[0,1,2,3,4,5,6,7,8,9,10,11,12,13,14,15,16],[],[0,1,2,3,4,5,6,7,8,9,10,11,12,13,14,15,16,17,19],[0,1,2,3,4,5,6,7,8,9,10,11,12,13,14,15,16,17,18,19,20]] ?_ ?_;kernel_rfl)
 refine SyL.weaken (fr':=[(25,.int .i64 0),(5,.pointer (some ⟨b5,0,none⟩)),(4,.pointer (some ⟨b4,0,none⟩))]) (L':=[.blk b5 66 (s.map Sy.v8),.blk b4 66 (List.replicate 32 (.int .u8 0))]) ?_ ?_ ?_
 ·repeat' (first|refine s_0 ?_|(refine za (id:=2) ?_;refine zD ?_;refine zB ?_)|(refine zC ?_;first|refine zd ?_|fail)|fail)
  exact ret1 rfl (resCells rfl (ty rfl) rfl Has.go Seg.all (by first|rfl|(simp only [List.length_map,List.length_set,List.length_replicate,List.length_append];omega)|(simp only [List.length_map];first|assumption|omega)|(simp;omega)|fail)) SubR.nil ⟨rfl,rfl⟩
 ·(repeat' (first|exact Sub.nil|refine Sub.cons rfl ?_ ?_|rfl))
  exact g1
 ·show SubR _ ((ρ 20).2 ++ ((ρ 14).2 ++ ((ρ 13).2 ++ ((ρ 7).2 ++ ((ρ 4).2 ++ _)))))
  rw [g2,f,f13,f7,f4]
  exact SubR.go2
theorem zln (z:Int) (a:Option Addr) (m d:Nat) (xs:List Bs) (w:World) (hm:xs.length=m) (hmb:m < 1000000) (hsx:SlA w a (xs.map Bs.val)):
  Sy.Fn Tryz.prog 113 [.int .i64 z,.slice a m d] w No (Gives (.bool (decide (∀s∈xs,s.n<=4096) && (decide (1<=z) && decide (z<=1024))))):=by
 refine zk Tryz.func113 rfl Tryz.ntmps113 (by simp) Holds.nil ?_
 repeat' (first|refine s_t ?_|(refine za (id:=0) ?_;refine zd ?_)|(refine za (id:=1) ?_;refine zb ?_;refine zq ?_;refine zb ?_)|fail)
 refine zE (γ:=Nat) (λi=>[(0,.int .i64 z),(7,.slice a m d),(8,.int .i64 m),(9,.int .i64 i)]) (λ_=>[]) (λi=>i<=m/\ ∀s∈xs.take i,s.n<=4096) (λi=>m - i) 0 ⟨Nat.zero_le _,λs hs=>(by simp at hs)⟩ ?_ ?_ ?_
 ·exact Sub.go
 ·exact SubR.go
 rintro i ⟨hi,hall⟩
 by_cases hlt:i < m
 ·obtain ⟨bl,ol,rfl,hcell⟩:=Bs.get hsx (hm ▸ hlt)
  have hci:=hcell i (hm ▸ hlt)
  have hmem:xs[i]∈xs:=List.getElem_mem _
  have htk: ∀s∈xs.take (i+1),s∈xs.take i\/s=xs[i]:=λs hs=>by
   rw [List.take_succ,List.getElem?_eq_getElem (hm ▸ hlt)] at hs
   rcases List.mem_append.1 hs with h|h
   ·exact .inl h
   ·exact .inr (by simpa using h)
  generalize xs[i]=s at *
  obtain ⟨sa,sn,sc,sl⟩:=s
  dsimp only at *
  by_cases hbig:4096 < sn
  ·have hno:decide (∀s∈xs,s.n<=4096)=false:=decide_eq_false (λh=>by have:sn<=4096:=h _ hmem;omega)
   rw [hno,Bool.false_and]
   repeat' (first|refine s_t ?_|(refine za (id:=2) ?_;refine zN ?_)|(refine za (id:=3) ?_;refine zr ?_;refine yv (zx (hv:=hci)) (k:=?_);refine zd ?_)|(refine za (id:=4) ?_;refine zb ?_;refine zq ?_;refine zaa ?_)|(refine za (id:=5) ?_;refine zd ?_)|fail)
   exact ret1 rfl (resTmp rfl) SubR.nil ⟨rfl,rfl⟩
  ·repeat' (first|refine s_t ?_|(refine za (id:=2) ?_;refine zN ?_)|(refine za (id:=3) ?_;refine zr ?_;refine yv (zx (hv:=hci)) (k:=?_);refine zd ?_)|(refine za (id:=4) ?_;refine zb ?_;refine zq ?_;refine zaa ?_)|(refine za (id:=6) ?_;refine zY ?_;refine zb ?_)|fail)
   refine zy (i+1) ⟨hlt,λs hs=>?_⟩ ?_ ?_ ?_
   ·rcases htk s hs with h|rfl
    ·exact hall s h
    ·exact (show sn<=4096 by omega)
   ·show m - (i+1) < m - i;omega
   ·exact Sub.go
   ·exact SubR.go
 obtain rfl:i=m:=by omega
 rw [List.take_of_length_le (by omega)] at hall
 rw [decide_eq_true hall,Bool.true_and]
 by_cases h1:1<=z
 ·rw [decide_eq_true h1,Bool.true_and]
  repeat' (first|refine s_0 ?_|(refine za (id:=2) ?_;refine zN ?_)|(refine za (id:=7) ?_;refine zb ?_;refine zac ?_;refine zb ?_;refine zb ?_;refine zdr ?_;refine zo ?_;refine zd ?_)|fail)
  exact ret1 rfl (resTmp rfl) SubR.nil ⟨rfl,rfl⟩
 ·rw [decide_eq_false h1,Bool.false_and]
  repeat' (first|refine s_0 ?_|(refine za (id:=2) ?_;refine zN ?_)|(refine za (id:=7) ?_;refine zb ?_;refine zac ?_;refine zb ?_;refine zj rfl rfl rfl ?_;refine zj rfl rfl rfl ?_;refine zo ?_;refine zd ?_)|fail)
  exact ret1 rfl (resTmp rfl) SubR.nil ⟨rfl,rfl⟩
end Go.Proofs.YtcpjfilcilcekaaGreatDoor
end
section
namespace Go.Proofs.YtcpjfilcilcekaaGreatDoor
open Go Go.Sy Go.Sh Go.RowKit
attribute [local irreducible] Sy SyL SyX Sy.Fn callFunc Sh.sum kxor kpad kbase macA HashIs MacIs hmac dblock firstN
set_option maxRecDepth 10000
theorem zlA (key label ctx:List UInt8) (n i:Nat):(dblock key label ctx n i).length=32:=by unfold dblock;exact zbJ _ _
theorem zmo (a0 a1 a2:Option Addr) (n0 c0 n1 c1 n2 c2 n:Nat) (key label ctx:List UInt8) (w:World) (h0:InOk w a0 n0 c0 key) (h1:InOk w a1 n1 c1 label) (h2:InOk w a2 n2 c2 ctx) (hb0:n0<=4096) (hb1:n1<=4096) (hb2:n2<=4096) (hn1:1<=n) (hn:n<=1024) (hT:Tab w No):
  Sy.Fn Tryz.prog 76 [.slice a0 n0 c0,.slice a1 n1 c1,.slice a2 n2 c2,.int .i64 n] w No (λv R=>∃a k,v= .tuple #[.slice a n k,.int .i64 0]/\R= [.row (.slice a n k) 5 1 n ((firstN (dblock key label ctx n) n).map Sy.v8)]):=by
 refine zk Tryz.func76 rfl Tryz.ntmps76 (by simp) Holds.nil ?_
 obtain ⟨xs,hx⟩: ∃x:List Bs,x= [⟨a0,n0,c0,[]⟩,⟨a1,n1,c1,[]⟩,⟨a2,n2,c2,[]⟩]:=⟨_,rfl⟩
 have hv:(decide (∀s∈xs,s.n<=4096) && (decide (1<=(n:Int)) && decide ((n:Int)<=1024)))=true:=by
  rw [Bool.and_eq_true,Bool.and_eq_true,decide_eq_true_eq,decide_eq_true_eq,decide_eq_true_eq]
  refine ⟨λs hs=>?_,by omega,by omega⟩
  rw [hx] at hs
  rcases List.mem_cons.1 hs with rfl|hs
  ·exact hb0
  rcases List.mem_cons.1 hs with rfl|hs
  ·exact hb1
  obtain rfl:=List.mem_singleton.1 hs
  exact hb2
 have hxv:xs.map Bs.val= [.slice a0 n0 c0,.slice a1 n1 c1,.slice a2 n2 c2]:=by rw [hx];rfl
 have hxl:xs.length=3:=by rw [hx];rfl
 repeat' (first|refine s_0 ?_|(refine za (id:=0) ?_;refine zd ?_;refine zd ?_)|(refine za (id:=1) ?_;refine zb ?_;refine zb ?_;refine zb ?_;refine zb ?_;(refine ys zt (k:=?_);rintro _ _ ⟨_,rfl,rfl⟩);refine yv (zf (hc:=λw' X hk hh=>hv ▸ zln n _ 3 3 xs w' hxl (by decide) (by rw [hxv];exact (Rd.of (Reads.blk Has.here Seg.all)) w' X hk hh))) (k:=?_);refine zal ?_)|(refine za (id:=3) ?_;refine zb ?_;refine za0 ?_;refine zb ?_;refine zb ?_;refine zb ?_;refine za0 ?_;(refine zi ?_;intro _);refine zB ?_)|(refine zC ?_;first|refine zb ?_|fail)|refine za ?_|fail)
 obtain ⟨agg,hagg⟩: ∃x:Value,x= .agg ([.slice a0 n0 c0,.slice a1 n1 c1,.slice a2 n2 c2,.int .i64 n]:List Value).toArray:=⟨_,rfl⟩
 have hq:=zlA key label ctx n
 have hbl: ∀(w1 w2 w3:World) (Mi:Nat->Prop) (i:Nat),Keep No w w1->Keep No w1 w2->(∀b,Mi b->w1.heap.size<=b)->Keep Mi w2 w3->i<=100000->Sy.Fn Tryz.prog 116 [agg,.int .i64 i] w3 No (Gives (.agg ((dblock key label ctx n i).map Sy.v8).toArray)):=λw1 w2 w3 Mi i k1 k2 hm k3 hi=>by
  rw [hagg]
  exact zmr a0 a1 a2 n0 c0 n1 c1 n2 c2 n i key label ctx w3 ((h0.keep k1).far k2 hm k3) ((h1.keep k1).far k2 hm k3) ((h2.keep k1).far k2 hm k3) hb0 hb1 hb2 (by omega) hi ((hT.no k1).far k2 hm k3)
 repeat' (first|refine s_0 ?_|(refine zC ?_;first|(refine ys (zn (hc:=λw' X hk hh=>zkt 116 [.agg ([.slice a0 n0 c0,.slice a1 n1 c1,.slice a2 n2 c2,.int .i64 n]:List Value).toArray] [] w')) (k:=?_);rintro _ _ ⟨R,rfl,b1,rfl,rfl⟩)|(refine ys (zn (hc:=λw' X hk hh=>znU n 148 [.pointer (some ⟨b1,0,none⟩)] (dblock key label ctx n) w' hn1 (by omega) hq (en rfl) (λw2 Mi k2 hm=>zjZ b1 116 [.agg ([.slice a0 n0 c0,.slice a1 n1 c1,.slice a2 n2 c2,.int .i64 n]:List Value).toArray] [] _ _ w2 Mi (k2.cell (blk_cell (hh.has Has.here) 0) (λh=>h)) (λh=>absurd (hm _ h) (Nat.not_le.2 (Res.own_lt (hh.has Has.here) rfl))) (by omega) hq (en rfl) (λw3 i k3 _ _=>hagg ▸ hbl w' w2 w3 Mi i hk k2 hm k3 (by omega))))) (k:=?_);rintro _ _ ⟨R,rfl,aF,kF,rfl,rfl⟩)|refine zd ?_|refine zD ?_|refine zW ?_|fail)|fail)
 exact ret2 rfl (resTmp rfl) (resTmp rfl) (by exact SubR.go) ⟨_,_,rfl,rfl⟩
end Go.Proofs.YtcpjfilcilcekaaGreatDoor
end
section
namespace Go.Proofs.YtcpjfilcilcekaaGreatDoor
open Go Go.Sy Go.Sh Go.Nt Go.RowKit
attribute [local irreducible] Sy SyL SyX Sy.Fn callFunc natC Sh.sum HashIs firstN dblock hmac
set_option maxRecDepth 10000
theorem zfb (b:Nat) (dig lab:List UInt8) (w:World) (hd:w.rangeAt b 3 (dig.map v8)) (hl:dig.length=32) (hlab:lab.length<=4096) (hT:Tab w No):
  Sy.Fn Tryz.prog 67 [.pointer (some ⟨b,0,none⟩),.string (str lab)] w No (λv R=>∃a k,v= .tuple #[.slice a 32 k,.int .i64 0]/\R= [.row (.slice a 32 k) 5 1 32 ((pkDer dig lab).map v8)]):=by
 refine zk Tryz.func67 rfl Tryz.ntmps67 (by simp) Holds.nil ?_
 have hkd:=λw' (hk:Keep No w w') bB cB (s1:(⟨some ⟨bB,0,none⟩,lab.length,cB,lab⟩:Bs).ok w')=>
  zmo (some ⟨b,3,none⟩) (some ⟨bB,0,none⟩) none 32 32 lab.length cB 0 0 32 dig lab [] w' ⟨hl,Nat.le_refl _,.inr ⟨b,3,rfl,zaC hd hk (λh=>h)⟩,λh=>by cases h⟩ ⟨s1.len,s1.cap,s1.sla,λh=>by cases h⟩ ⟨rfl,Nat.le_refl _,.inl rfl,λ_=>rfl⟩ (by decide) hlab (by decide) (by decide) (by decide) (hT.no hk)
 repeat' (first|refine s_0 ?_|(refine za (id:=0) ?_;refine zd ?_;refine zd ?_)|(refine za (id:=1) ?_;refine zb ?_;refine zA ?_;refine zm ?_;refine zap ?_;refine zb ?_)|(refine ys (zhi (l:=lab)) (k:=?_);rintro _ _ ⟨bB,cB,J,fz,hcB,rfl,rfl⟩)|(refine zC ?_;first|(refine ys (zn (f:=76) (hc:=λw' X hk hh=>hkd w' hk bB cB (zns hk hh hcB Has.here))) (k:=?_);rintro _ _ ⟨R,rfl,aK,kK,rfl,rfl⟩)|refine zd ?_|refine zh ?_|fail)|fail)
 exact ret2 rfl (resTmp rfl) (resTmp rfl) (by exact SubR.go) ⟨_,_,rfl,rfl⟩
theorem zfM (b b1 m d:Nat) (fs:List Nat) (w:World) (hm:fs.length=m) (hm2:m<=100) (hen: ∀f∈fs,∀args w,(callFunc f args).run Tryz.prog w= .ok (.enter f args) w)
  (hf: ∀f∈fs,∀w',Keep No w w'->Sy.Fn Tryz.prog f [.pointer (some ⟨b,0,none⟩)] w' No (Gives (.int .i64 0)))
  (hs:w.rangeAt b1 0 (fs.map λf=> .func (.func f) #[.pointer (some ⟨b,0,none⟩)] #[])):
  Sy.Fn Tryz.prog 54 [.slice (some ⟨b1,0,none⟩) m d] w No (Gives (.int .i64 0)):=by
 refine zk Tryz.func54 rfl Tryz.ntmps54 (by simp) Holds.nil ?_
 repeat' (first|refine s_t ?_|(refine za (id:=0) ?_;refine zd ?_)|(refine za (id:=1) ?_;refine zb ?_;refine zq ?_;refine zb ?_)|fail)
 refine zE (γ:=Nat) (λk=>[(6,.slice (some ⟨b1,0,none⟩) m d),(7,.int .i64 m),(8,.int .i64 k)]) (λ_=>[]) (λk=>k<=m) (λk=>m - k) 0 (Nat.zero_le _) ?_ ?_ ?_
 ·exact Sub.go
 ·exact SubR.go2
 rintro k hk
 rcases Nat.lt_or_ge k m with h|h
 ·obtain ⟨f,hx⟩: ∃f,fs[k]?=some f:=⟨_,List.getElem?_eq_getElem (by omega)⟩
  have hmem:=List.mem_of_getElem? hx
  have hcell:w.cell? ⟨b1,0+k,none⟩=some (.func (.func f) #[.pointer (some ⟨b,0,none⟩)] #[]):=hs k _ (by rw [List.getElem?_map,hx];rfl)
  have hff:=hf f hmem
  have hee:=hen f hmem
  have hlt:decide ((k:Int) < (m:Int))=true:=decide_eq_true (by omega)
  have g5:IntKind.i64.wrap ((k:Int)+1)=((k+1:Nat):Int):=by rw [IntWalk.i64_in _ (by omega)];omega
  repeat' (first|refine s_t ?_|(refine za (id:=2) ?_;refine yv (zP (hr:=hlt)) (k:=?_))|(refine za (id:=3) ?_;refine yv (z9 (j:=k)) (k:=?_);refine yv (zx (hv:=hcell)) (k:=?_);refine zd ?_)|(refine za (id:=4) ?_;refine zb ?_;refine yv (zaI (he:=hee) (fst:=[.pointer (some ⟨b,0,none⟩)]) (cap:=[]) (hc:=λw' X hk hh=>hff w' hk)) (k:=?_);refine zd ?_)|(refine za (id:=5) ?_;refine zb ?_;refine zV ?_)|(refine za (id:=7) ?_;refine yv (zL (hr:=g5)) (k:=?_);refine zb ?_)|fail)
  refine zy (k+1) h ?_ ?_ ?_
  ·show m - (k+1) < m - k;omega
  ·exact Sub.go
  ·exact SubR.go2
 have hlt:decide ((k:Int) < (m:Int))=false:=decide_eq_false (by omega)
 repeat' (first|refine s_0 ?_|(refine za (id:=2) ?_;refine yv (zP (hr:=hlt)) (k:=?_))|(refine za (id:=8) ?_;refine zd ?_)|fail)
 exact ret1 rfl (resTmp rfl) SubR.nil ⟨rfl,rfl⟩
theorem zk2 (b:Nat) (s:Int) (dig:List UInt8) (w:World) (hs:s≠0) (hc:w.cell? ⟨b,35,none⟩=some (.int .i64 s)) (hd:w.cell? ⟨b,2,none⟩=some (.bool true)) (hg:w.rangeAt b 3 (dig.map v8)) (hl:dig.length=32) (hT:Tab w No):
  Sy.Fn Tryz.prog 25 [.pointer (some ⟨b,0,none⟩)] w No (λv R=>∃a k,v= .tuple #[.slice a 32 k,.int .i64 0]/\R= [.row (.slice a 32 k) 5 1 32 ((pkDer dig pkKey).map v8)]):=by
 refine zk Tryz.func25 rfl Tryz.ntmps25 (by simp) Holds.nil ?_
 have hch:=λw' (hk:Keep No w w') b9 (h:w'.rangeAt b9 0 [Value.func (.func 46) #[.pointer (some ⟨b,0,none⟩)] #[],.func (.func 66) #[.pointer (some ⟨b,0,none⟩)] #[]])=>
  zfM b b9 2 2 [46,66] w' rfl (by decide) (λf hf=>by
   simp only [List.mem_cons,List.not_mem_nil,or_false] at hf
   rcases hf with rfl|rfl
   ·exact en rfl
   ·exact en rfl) (λf hf w'' hk2=>by
   simp only [List.mem_cons,List.not_mem_nil,or_false] at hf
   rcases hf with rfl|rfl
   ·exact zcg b s w'' hs (zaq (zaq hc hk) hk2)
   ·exact zgv b w'' (zaq (zaq hd hk) hk2)) h
 have hde:=λw' (hk:Keep No w w')=>zfb b dig pkKey w' (zaC hg hk (λh=>h)) hl (by decide) (hT.no hk)
 rw [show (str pkKey)=str [107,101,121] from rfl] at hde
 repeat' (first|refine s_0 ?_|(refine za (id:=0) ?_;refine zd ?_;refine zd ?_)|(refine za (id:=1) ?_;refine zb ?_;refine zW ?_;refine zb ?_;refine zW ?_;(refine ys zt (k:=?_);rintro _ _ ⟨_,rfl,rfl⟩);refine yv (zf (f:=54) (hc:=λw' X hk hh=>hch w' hk _ (zz (hh.has (Has.append Has.here)) Seg.all))) (k:=?_);refine zd ?_)|(refine za (id:=2) ?_;refine zb ?_;refine zV ?_)|(refine za (id:=4) ?_;refine zb ?_;refine zA ?_;refine zm ?_;(refine ys (zn (hc:=λw' X hk hh=>hde w' hk)) (k:=?_);rintro _ _ ⟨R,rfl,aK,kK,rfl,rfl⟩);refine zh ?_;refine zh ?_;refine zd ?_;refine zd ?_)|fail)
 exact ret2 rfl (resTmp rfl) (resTmp rfl) (by exact SubR.go) ⟨_,_,rfl,rfl⟩
end Go.Proofs.YtcpjfilcilcekaaGreatDoor
end
section
namespace Go.Sy
open Go
section
variable {P:Program}{ro:Option Nat}{N:Nat}{w0:World}{M:Nat->Prop}{ds:List Deferred}{g:Nat->Option Value}{L:List Res}{o:Oper}
variable {t t':TypeId}{x z:Operand}{y ye:Ty}
theorem zg1 {k cs m cx e:Nat}{b0 b1:Addr}{xs news:List Value}{xo so:Operand}(ho:o.op= .call { callee:=.builtin .append,args:=#[so,xo],argTypes:=#[t,t] } :=by exact rfl)
  (hs:ev g so=some (.slice (some b0) k cs)) (hx:ev g xo=some (.slice (some b1) m cx)) (ht:tyOf P t=some y:=by exact ty rfl) (hy:y.desc= .slice e:=by exact rfl) (he:tyOf P e=some ye:=by exact ty rfl) (hsz:ye.size=1:=by exact rfl) (hz:(zeroC P e).map (·.length)=some 1:=by (rw [zc rfl];rfl))
  (hrs:Rd w0 M L (some b0) xs) (hrx:Rd w0 M L (some b1) news) (hk:xs.length=k) (hm:news.length=m) (hkp:0 < k) (hmp:0 < m) (hg:cs < k+m) (b1':k+m<=1000000) (b2:ye.bytes=1:=by exact rfl):
  OpT P ro N w0 M ds o g L (λv' L'=>∃b J,v'= .slice (some ⟨b,0,none⟩) (k+m) (k+m+J.length)/\L'= .blk b e ((xs ++ news) ++ J)::L):=by
 refine OpT.run (by rw [ho];rfl) λa w X hst=>?_
 obtain ⟨d,i',hd,hi',hs',_⟩:=zF ht
 rw [hy] at hs'
 have:=zam hs';subst this
 obtain ⟨de,ie,hde,hie,_,hez,heb,_⟩:=zF he
 obtain ⟨zcells,hzc,hzl⟩:=Option.map_eq_some_iff.1 hz
 unfold zeroC at hzc
 rw [hie] at hzc
 simp only [Option.bind_some,Option.map_eq_some_iff] at hzc
 obtain ⟨zv,hzv,hze⟩:=hzc
 have hzs:zv.cells.size=1:=by rw [<-hze] at hzl;simpa using hzl
 have c0: ∀j u,xs[j]?=some u->w.cell? (b0.add j)=some u:=λj u hj=>by
  rcases hrs w X hst.keep hst.hold with h|⟨b,off,h,hrg⟩
  ·rw [h] at hj;simp at hj
  ·cases h;exact zc3 hrg j u hj
 have c1: ∀j u,news[j]?=some u->w.cell? (b1.add j)=some u:=λj u hj=>by
  rcases hrx w X hst.keep hst.hold with h|⟨b,off,h,hrg⟩
  ·rw [h] at hj;simp at hj
  ·cases h;exact zc3 hrg j u hj
 have hie1:ie.size=1:=by rw [hez,hsz]
 have hib1:ie.bytes=1:=by rw [heb,b2]
 have hrun:=run_append_grow (P:=P) w t o.type e ie zv hd hie hzv b0 k cs xs (by rw [hie1];omega) c0 b1 m cx news (by rw [hie1];omega) c1 hg (by omega) (growslice_fits (by omega) (by rw [hib1];omega))
 have hcap:=grownCap_ge w (k+m) cs e
 obtain ⟨J,hJ,hJl⟩: ∃J:List Value,xs.toArray ++ news.toArray ++ Builtin.zeroCells zv.cells (grownCap w (k+m) cs e - (k+m))=((xs ++ news) ++ J).toArray/\J.length=grownCap w (k+m) cs e - (k+m):=by
  refine ⟨(Builtin.zeroCells zv.cells (grownCap w (k+m) cs e - (k+m))).toList,by simp,?_⟩
  simp [Builtin.zeroCells,hzs]
 rw [hJ] at hrun
 have hk':Keep No w (w.drew.alloc (.cells ((xs ++ news) ++ J).toArray e)):=⟨rfl,rfl,rfl,by show w.heap.size<=(w.heap.push _).size;rw [Array.size_push];omega,λq hq _=>by
  show (w.heap.push _)[q]?=_
  rw [Array.getElem?_push,if_neg (by omega)]⟩
 refine ⟨_,_,w.drew.alloc (.cells ((xs ++ news) ++ J).toArray e),_,?_,.inl rfl,⟨w.heap.size,J,rfl,rfl⟩,hst.keep.trans hk' (λ_ h=>h.elim),?_⟩
 ·have e1: #[so,xo].map a.eval= #[.slice (some b0) k cs,.slice (some b1) m cx]:=by simp [hst.agr.eval hs,hst.agr.eval hx]
  simp only [execOp,ho,resolve,invoke,builtin,e1,Sem.run_bind,Sem.run_pure,Result.andThen_ok,hrun]
  rw [show grownCap w (k+m) cs e=k+m+J.length by omega]
 ·refine Holds.fresh hst.hold hk' ?_ (λb hb=>hb.symm) hst.keep.size
  show (w.heap.push _)[w.heap.size]?=_
  exact Array.getElem?_push_size
end
end Go.Sy
end
