/- The specification of the derivation of keys, walked. -/
import Derived.Test.YtcpjfilcilcekaaGreatDoorWRefMac2
import Derived.Test.YtcpjfilcilcekaaGreatDoorWJ32
set_option linter.all false
namespace Go.Sy
open Go
theorem zk9 {N:Nat}{w0:World}{M:Nat->Prop}{ds:List Deferred}{L L1:List Res}{a:Option Addr}{E s n n' c:Nat}{xs:List Value}(hr:Rem L (.row (.slice a n c) E s n xs) L1) (hn:n'<=n):Conv N w0 M ds L (.row (.slice a n' c) E s n' (xs.take (n'*s))::L1):=by
  intro g w0' w X hs
  have hp:=hs.perm (hr.perm.append_right X)
  have hb:w.ownsRow 0 E s (.slice a n c) n xs:=hp.hold.all _ List.mem_cons_self
  have hown: ∀b,(Value.slice a n' c).ownBlock=some b->(Value.slice a n c).ownBlock=some b:=λb hb=>by
    cases a with
    |none=>cases hb
    |some a=>exact hb
  refine ⟨hp.size,hp.agr,hp.keep,hp.hold.tail.cons ?_ (λr hr' b' hb'=>?_) (λb' hb'=>hp.hold.mine _ List.mem_cons_self b' (hown b' hb'))⟩
  · obtain ⟨h1,⟨h2,h3⟩|⟨g',cap,cur,h2,h3,h4,h5,h6,h7,h8⟩⟩:=hb
    · subst h3
      obtain rfl:n'=0:=by omega
      cases h2
      exact ⟨by simp,.inl ⟨rfl,rfl⟩⟩
    · cases h2
      have hm:n'*s<=n*s:=Nat.mul_le_mul_right s hn
      exact ⟨by rw [List.length_take];omega,.inr ⟨g',c,cur,rfl,h3,h4,by omega,h6,h7,by rw [<-h8,List.take_take,Nat.min_eq_left hm]⟩⟩
  · exact (List.pairwise_cons.1 hp.hold.apart).1 r hr' b' (hown b' hb')
end Go.Sy
namespace Go.Proofs.YtcpjfilcilcekaaGreatDoor
open Go Go.Sy Go.Sh Go.RowKit
attribute [local irreducible] Sy SyL SyX Sy.Fn callFunc Sh.sum kxor kpad kbase macA HashIs MacIs hmac
set_option maxRecDepth 10000
theorem zke (v:Nat) (w:World) (hv:v < 4294967296):Sy.Fn Tryz.prog 124 [.int .i64 v] w No (λr R=>∃b,r= .slice (some ⟨b,0,none⟩) 4 4/\R= [.blk b 5 ((four v).map Sy.v8)]):=by
  refine zk Tryz.func124 rfl Tryz.ntmps124 (by simp) Holds.nil ?_
  repeat' (first|refine s_0 ?_|(refine za (id:=0) ?_;refine zd ?_)|(refine za (id:=1) ?_;refine zb ?_;refine yv (zat (hr:=shrI v 24 _ (by decide))) (k:=?_);refine yv (z3 (hr:=zch _)) (k:=?_);refine zb ?_;refine yv (zat (hr:=shrI v 16 _ (by decide))) (k:=?_);refine yv (z3 (hr:=zch _)) (k:=?_);refine zb ?_;refine yv (zat (hr:=shrI v 8 _ (by decide))) (k:=?_);refine yv (z3 (hr:=zch _)) (k:=?_);refine zb ?_;refine yv (z3 (hr:=zch _)) (k:=?_);(refine ys zt (k:=?_);rintro _ _ ⟨_,rfl,rfl⟩);refine zd ?_)|fail)
  exact ret1 rfl (resTmp rfl) (by exact SubR.go) ⟨_,rfl,rfl⟩
theorem zmU (a0 a1 a2:Option Addr) (n0 c0 n1 c1 n2 c2 n i kb ko kc:Nat) (key label ctx:List UInt8) (w:World) (hl0:key.length=n0) (hc0:n0<=c0) (hs0:SlA w a0 (key.map Sy.v8)) (hz0:a0=none->c0=0) (hl1:label.length=n1) (hs1:SlA w a1 (label.map Sy.v8)) (hz1:a1=none->c1=0)
    (hl2:ctx.length=n2) (hs2:SlA w a2 (ctx.map Sy.v8)) (hz2:a2=none->c2=0) (hb0:n0<=4096) (hb1:n1<=4096) (hb2:n2<=4096) (hn:n<=100000) (hi:i<=100000) (hR:RTab w No kb ko kc):
    Sy.Fn Tryz.prog 85 [.slice a0 n0 c0,.slice a1 n1 c1,.slice a2 n2 c2,.int .i64 n,.int .i64 i] w No (λv R=>∃b,v= .slice (some ⟨b,0,none⟩) 32 32/\R= [.blk b 66 ((dblock key label ctx n i).map Sy.v8)]):=by
  refine zk Tryz.func85 rfl Tryz.ntmps85 (by simp) Holds.nil ?_
  have hmul:IntKind.i64.wrap (8*(n:Int))=((8*n:Nat):Int):=by rw [IntWalk.i64_in _ (by omega)];omega
  obtain ⟨t1,ht1⟩: ∃t,four i ++ label=t:=⟨_,rfl⟩
  have hy1:(four i).map Sy.v8 ++ label.map Sy.v8=t1.map Sy.v8:=by rw [<-ht1,List.map_append]
  have hl1':t1.length=4+n1:=by rw [<-ht1,List.length_append,zer,hl1]
  obtain ⟨t2,ht2⟩: ∃t,t1 ++ [0]=t:=⟨_,rfl⟩
  have hy2:t1.map Sy.v8 ++ [Value.int .u8 0]=t2.map Sy.v8:=by rw [<-ht2,List.map_append];rfl
  have hl2':t2.length=4+n1+1:=by rw [<-ht2,List.length_append,hl1'];rfl
  obtain ⟨t3,ht3⟩: ∃t,t2 ++ ctx=t:=⟨_,rfl⟩
  have hy3:t2.map Sy.v8 ++ ctx.map Sy.v8=t3.map Sy.v8:=by rw [<-ht3,List.map_append]
  have hl3':t3.length=4+n1+1+n2:=by rw [<-ht3,List.length_append,hl2',hl2]
  obtain ⟨t4,ht4⟩: ∃t,t3 ++ four (8*n)=t:=⟨_,rfl⟩
  have hy4:t3.map Sy.v8 ++ (four (8*n)).map Sy.v8=t4.map Sy.v8:=by rw [<-ht4,List.map_append]
  have hl4':t4.length=4+n1+1+n2+4:=by rw [<-ht4,List.length_append,hl3',zer]
  have hd:dblock key label ctx n i=hmac key t4:=by rw [<-ht4,<-ht3,<-ht2,<-ht1];rfl
  rw [hd]
  repeat' (first|refine s_0 ?_|(refine za (id:=0) ?_;refine zd ?_)|(refine za (id:=1) ?_;refine zb ?_;(refine ys (zn (hc:=λw' X hk hh=>zke i w' (by omega))) (k:=?_);rintro _ _ ⟨R,rfl,b1,rfl,rfl⟩);refine zb ?_;(refine ys (zbz (b:=b1) (k:=4) (m:=n1) (xs:=(four i).map Sy.v8) (hxn:=rfl) (hn:=by rw [List.length_map,Nat.mul_one,hl1]) (hnil:=hz1) (hkm:=rfl) (hys:=hy1)) (k:=?_);rintro _ _ ⟨rfl,aA,cA,rfl⟩);refine zd ?_)|(refine zB ?_;first|refine zb ?_|fail)|refine za ?_|fail)
  repeat' (first|refine s_0 ?_|(refine zB ?_;first|(refine ys (zac (k:=4+n1) (m:=1) (hkm:=rfl) (hys:=hy2)) (k:=?_);rintro _ _ ⟨rfl,aB,cB,rfl⟩)|(refine ys (zac (k:=4+n1+1) (m:=n2) (hn:=by rw [List.length_map,Nat.mul_one,hl2]) (hnil:=hz2) (hkm:=rfl) (hys:=hy3)) (k:=?_);rintro _ _ ⟨rfl,aC,cC,rfl⟩)|refine zd ?_|refine zb ?_|(refine ys zt (k:=?_);rintro _ _ ⟨_,rfl,rfl⟩)|fail)|refine za ?_|fail)
  repeat' (first|refine s_0 ?_|(refine zB ?_;first|refine yv (zag (hr:=hmul)) (k:=?_)|(refine ys (zn (hc:=λw' X hk hh=>zke (8*n) w' (by omega))) (k:=?_);rintro _ _ ⟨R,rfl,b2,rfl,rfl⟩)|(refine ys (zac (k:=4+n1+1+n2) (m:=4) (hn:=rfl) (hkm:=rfl) (hys:=hy4)) (k:=?_);rintro _ _ ⟨rfl,aD,cD,rfl⟩)|(refine ys (zn (hc:=λw' X hk hh=>ziM a0 _ n0 c0 (4+n1+1+n2+4) _ kb ko kc key t4 w' hl0 (by omega) hc0 (hs0.keep hk (λ_ _ h=>h)) hz0 hl4' (by omega) (Rd.row Has.here w' X hk hh) (λh=>(Row.nil hh Has.here h).1) (hR.no hk))) (k:=?_);rintro _ _ ⟨R,rfl,b3,rfl,rfl⟩)|refine zd ?_|fail)|fail)
  exact ret1 rfl (resTmp rfl) (by exact SubR.go) ⟨_,rfl,rfl⟩
theorem zpp (a0 a1 a2:Option Addr) (n0 c0 n1 c1 n2 c2 n kb ko kc:Nat) (key label ctx:List UInt8) (w:World) (h0:InOk w a0 n0 c0 key) (h1:InOk w a1 n1 c1 label) (h2:InOk w a2 n2 c2 ctx) (hb0:n0<=4096) (hb1:n1<=4096) (hb2:n2<=4096) (hn:n<=1024) (hR:RTab w No kb ko kc):
    Sy.Fn Tryz.prog 40 [.slice a0 n0 c0,.slice a1 n1 c1,.slice a2 n2 c2,.int .i64 n] w No (λv R=>∃a k,v= .slice a n k/\R= [.row (.slice a n k) 5 1 n ((firstN (dblock key label ctx n) n).map Sy.v8)]):=by
  refine zk Tryz.func40 rfl Tryz.ntmps40 (by simp) Holds.nil ?_
  have h32: ∀i,(dblock key label ctx n i).length=32:=λi=>zbC _ _
  have hbl: ∀(w':World) (i:Nat),Keep No w w'->i<=100000->Sy.Fn Tryz.prog 85 [.slice a0 n0 c0,.slice a1 n1 c1,.slice a2 n2 c2,.int .i64 n,.int .i64 i] w' No (λv R=>∃b,v= .slice (some ⟨b,0,none⟩) 32 32/\R= [.blk b 66 ((dblock key label ctx n i).map Sy.v8)]):=λw' i hk hi=>
    zmU a0 a1 a2 n0 c0 n1 c1 n2 c2 n i kb ko kc key label ctx w' h0.len h0.cap (h0.keep hk).sla h0.nil h1.len (h1.keep hk).sla h1.nil h2.len (h2.keep hk).sla h2.nil hb0 hb1 hb2 (by omega) hi (hR.no hk)
  generalize dblock key label ctx n=f at *
  have hrl:=zcO f h32
  repeat' (first|refine s_t ?_|(refine za (id:=0) ?_;refine zd ?_)|(refine za (id:=1) ?_;refine zd ?_)|(refine za (id:=2) ?_;refine zd ?_)|fail)
  refine zbk (zaZ 5 1) ?_
  refine zD (γ:=Nat×Option Addr×Nat) (λg=>[(0,.slice a0 n0 c0),(1,.slice a1 n1 c1),(2,.slice a2 n2 c2),(3,.int .i64 n),(9,.slice g.2.1 (32*g.1) g.2.2),(10,.int .i64 ((g.1+1:Nat):Int))]) (λg=>[.row (.slice g.2.1 (32*g.1) g.2.2) 5 1 (32*g.1) ((rows f g.1).map Sy.v8)])
    (λg=>g.1<=1024) (λg=>1024 - g.1) (0,none,0) (Nat.zero_le _) ?_ ?_ ?_
  · exact Sub.go
  · exact SubR.go
  rintro ⟨i,a,c⟩ hi
  dsimp only at hi ⊢
  by_cases hlt:32*i < n
  · have hf:=h32 (i+1)
    have hys:(rows f i).map Sy.v8 ++ (f (i+1)).map Sy.v8=(rows f (i+1)).map Sy.v8:=by rw [zd3,List.map_append]
    have hkm:32*i+32=32*(i+1):=by omega
    have hbl:=λw' hk=>hbl w' (i+1) hk (by omega)
    generalize f (i+1)=x at *
    repeat' (first|refine s_t ?_|(refine za (id:=3) ?_;refine zb ?_;refine zr ?_;refine zb ?_;refine zK ?_)|(refine za (id:=5) ?_;refine zb ?_;refine zb ?_;refine zb ?_;refine zb ?_;refine zb ?_;refine zb ?_;(refine ys (zn (hc:=λw' X hk hh=>hbl w' hk)) (k:=?_);rintro _ _ ⟨R,rfl,bB,rfl,rfl⟩);(refine ys (zac (k:=32*i) (m:=32) (hn:=by rw [List.length_map,hf]) (hkm:=hkm) (hys:=hys)) (k:=?_);rintro _ _ ⟨rfl,aN,cN,rfl⟩);refine zd ?_)|(refine za (id:=4) ?_;refine zb ?_;refine zV ?_;refine zd ?_)|fail)
    refine zu (i+1,aN,cN) (by show i+1<=1024;omega) ?_ ?_ ?_
    · show 1024 - (i+1) < 1024 - i;omega
    · exact Sub.go
    · exact SubR.go
  have hge:n<=32*i:=by omega
  have hfn:=zhS f h32 n i hge
  have hrl':=hrl i
  have htk:((rows f i).map Sy.v8).take (n*1)=(firstN f n).map Sy.v8:=by rw [Nat.mul_one,<-List.map_take,hfn]
  refine zb7 (λw' hh=>(Row.cap hh Has.here:32*i<=c)) λhcap=>?_
  refine zbk (zk9 (n':=n) Rem.here hge) ?_
  rw [htk]
  repeat' (first|refine s_0 ?_|(refine za (id:=3) ?_;refine zb ?_;refine zr ?_;refine zb ?_;refine zK ?_)|(refine za (id:=6) ?_;refine zb ?_;refine zb ?_;refine yv (zbe (l:=0) (h:=n) (n':=n)) (k:=?_);refine zd ?_)|fail)
  exact ret1 rfl (resTmp rfl) (by exact SubR.go) ⟨_,_,rfl,rfl⟩
end Go.Proofs.YtcpjfilcilcekaaGreatDoor
