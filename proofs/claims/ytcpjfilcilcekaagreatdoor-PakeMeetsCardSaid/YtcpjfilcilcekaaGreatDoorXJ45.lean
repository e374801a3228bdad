/- The laws of layer pake: what Finish does, whatever came in, on both sides. -/
import Derived.Test.YtcpjfilcilcekaaGreatDoorXJ44
set_option linter.all false
section
namespace Go.Sy
open Go
section
variable {P:Program}{f:FuncId}{args:List Value}{w:World}{b T:Nat}{C:List Value}{post post':Value->List Res->Prop}
theorem Fn.touch (hC:(Res.blk b T C).holds w) (h:Fn P f args w No post) (hp: ∀v R,post v R->R= []/\post' v [.blk b T C]):Fn P f args w (λx=>x=b) post':=
  Calls.mono h λ_ w' ⟨v,R,e,hv,hk,hh⟩=>by
    obtain ⟨rfl,hp'⟩:=hp v R hv
    have hb:(Res.blk b T C).holds w':=(hk.block b (Array.getElem?_eq_some_iff.1 hC).1 (λh=>h)).trans hC
    exact ⟨v,_,e,hp',hk.mono (λ_ h=>h.elim),Holds.cons Holds.nil hb (λ_ h=>absurd h List.not_mem_nil) (λx hx=> .inr (show x=b from Eq.symm hx))⟩
theorem Fn.shut {post post':Value->List Res->Prop}(h:Fn P f args w No post) (hp: ∀v R,post v R->(R= []/\post' v [.row (.slice none 0 0) T 1 0 []])\/ ∃b xs n,R= [.blk b T xs]/\xs.length=n/\n<=1000/\post' v [.row (.slice (some ⟨b,0,none⟩) n n) T 1 n xs]):Fn P f args w No post':=
  Calls.mono h λ_ w' ⟨v,R,e,hv,hk,hh⟩=>by
    rcases hp v R hv with ⟨rfl,hp'⟩|⟨b,xs,n,rfl,hn,hn2,hp'⟩
    · exact ⟨v,_,e,hp',hk,Holds.cons Holds.nil (World.ownsRow_nil w' 0 _ 1) (λ_ h=>absurd h List.not_mem_nil) (λx hx=>by cases hx)⟩
    · have hb:w'.heap[b]?=some (.cells xs.toArray T (0,0)):=hh.all _ List.mem_cons_self
      refine ⟨v,_,e,hp',hk,Holds.cons Holds.nil ?_ (λ_ h=>absurd h List.not_mem_nil) (λx hx=>hh.mine _ List.mem_cons_self x (by cases hx;rfl))⟩
      exact ⟨by rw [hn,Nat.mul_one],.inr ⟨b,n,_,rfl,Nat.zero_le _,hb,Nat.le_refl _,by unfold maxLen;omega,by simpa using hn,by simp [<-hn]⟩⟩
end
end Go.Sy
namespace Go.Proofs.YtcpjfilcilcekaaGreatDoor
open Go Go.Sy Go.Sh Go.Nt Go.RowKit
attribute [local irreducible] Sy SyL SyX Sy.Fn callFunc natC rowN refC iC gP gQ gL memB safeC fixB Sh.sum HashIs pkPt pkH pkQ firstN dblock hmac pkW pkX pkOwn pkDer pkSh pkD pkC pkName pkKey zG
set_option maxRecDepth 10000
def pkOk (i:Nat) (lp:List UInt8):Prop:=lp.length=gL i/\memB (gP i) (gQ i) (bev 256 (bn lp))=true/\bev 256 (bn lp)≠1
instance (i:Nat) (lp:List UInt8):Decidable (pkOk i lp):=by unfold pkOk;infer_instance
def pkDg (s:Bool) (i wv x:Nat) (ctx own lp:List UInt8):List UInt8:=pkD i ctx s own lp (fixB (gL i) (pkSh s i wv x (bev 256 (bn lp)))) (fixB (gL i) wv)
def pkFin (s:Bool) (i wv x:Nat) (ctx own hl lp:List UInt8):Int×List UInt8:=
  if hl= [] then (if pkOk i lp then (0,pkDg s i wv x ctx own lp) else (6,[])) else (8,hl)
def HOk (hl:List UInt8):Prop:=hl= []\/hl.length=32
def stG (hl:List UInt8):List Value:=if hl= [] then zG else hl.map v8
def stB (hl:List UInt8):Bool:=decide (hl≠[])
theorem zg8:zG.length=32:=by unfold zG;rfl
theorem ze4 (s:Bool) (i wv x:Nat) (ctx own lp:List UInt8):(pkDg s i wv x ctx own lp).length=32:=by unfold pkDg;exact zhF _ _ _ _ _ _ _
theorem zg6 {l:List UInt8}(h:l.length=32):l≠[]:=λe=>by rw [e] at h;cases h
theorem HOk.len {hl:List UInt8}(h:HOk hl) (hn:hl≠[]):hl.length=32:=h.resolve_left hn
theorem zjA {s:Bool}{i wv x:Nat}{ctx own hl lp:List UInt8}(h:HOk hl):HOk (pkFin s i wv x ctx own hl lp).2:=by
  unfold pkFin
  split
  · split
    · exact .inr (ze4 ..)
    · exact .inl rfl
  · exact h
theorem zk6 {hl:List UInt8}(h:HOk hl):(stG hl).length=32:=by
  unfold stG
  split
  · exact zg8
  · rw [List.length_map];exact h.len (by assumption)
theorem zdB:stG []=zG/\stB []=false:=⟨if_pos rfl,rfl⟩
theorem zcB {hl:List UInt8}(h:hl≠[]):stG hl=hl.map v8/\stB hl=true:=⟨if_neg h,decide_eq_true h⟩
theorem zp6 {i:Nat}{lp:List UInt8}(h0:1<=i) (h5:i<=4) (h: ¬pkOk i lp):(gel (i:Int) lp).1 < 18446744073709551616 ^ 16/\((gel (i:Int) lp).2≠0\/(gel (i:Int) lp).1=1):=by
  have w0:0 < 18446744073709551616 ^ 16:=Nat.pow_pos (by decide)
  unfold gel
  rw [if_pos ⟨by omega,by omega⟩,Int.toNat_natCast]
  split
  · exact ⟨w0,.inl (by decide)⟩
  · split
    · exact ⟨w0,.inl (by decide)⟩
    · split
      · rename_i h1 h2 h3
        refine ⟨zbH h0 h5 h3,.inr (Classical.byContradiction λhn=>h ⟨by omega,h3,hn⟩)⟩
      · exact ⟨w0,.inl (by decide)⟩
theorem zoZ (bx i:Nat) (sx so sp:Bs) (hl:List UInt8) (s:Bool) (x wv:Nat) (w:World) (h0:1<=i) (h5:i<=4) (hH:HOk hl) (hX:XIs bx i sx (stB hl) (stG hl) s x wv so w) (hx:x < gQ i) (hw:wv < gQ i)
    (hps: ∀t∈[sx,so,sp],SlF w (λz=>z=bx) t.a (t.l.map v8)/\t.l.length=t.n/\t.n<=t.c/\(t.a=none->t.c=0)/\t.n<=10000) (hT:Tab w (λz=>z=bx)) (hGT: ∀w',Keep (λz=>z=bx) w w'->GT w'):
    Sy.Fn Tryz.prog 15 [.pointer (some ⟨bx,0,none⟩),sp.val] w (λz=>z=bx) (λv R=>v= .int .i64 (pkFin s i wv x sx.l so.l hl sp.l).1/\
      R= [.blk bx 75 (pkC i sx (stB (pkFin s i wv x sx.l so.l hl sp.l).2) (stG (pkFin s i wv x sx.l so.l hl sp.l).2) s x wv so)]):=by
  by_cases hn:hl= []
  · subst hn
    obtain ⟨p1,p2,p3,p4,p5⟩:=hps sp (by simp)
    rw [zdB.1,zdB.2] at hX
    have hGT0:=λw' (hk:Keep No w w')=>hGT w' (hk.mono (λ_ h=>h.elim))
    by_cases ho:pkOk i sp.l
    · have hgel:=λw' (hk:Keep (λz=>z=bx) w w')=>zes i sp.a sp.n sp.c sp.l w' h0 h5 (hGT w' hk) (by rw [<-p2];exact ho.1) p2 p3 (p1.to (Mi:=No) hk (λ_ h=>h.elim)).sla ho.2.1
      have:=zkA bx i sx zG s x wv (bev 256 (bn sp.l)) so sp w h0 h5 zg8 hX ho.2.2 ho.2.1 hx hw hgel hps hT hGT
      have hD:pkDig i sx.l (if s then so else sp).l (if s then sp else so).l (fixB (gL i) (pkSh s i wv x (bev 256 (bn sp.l)))) (fixB (gL i) wv)=pkDg s i wv x sx.l so.l sp.l:=by
        unfold pkDg pkD;cases s <;> rfl
      rw [hD] at this
      have hne:=zg6 (ze4 s i wv x sx.l so.l sp.l)
      unfold pkFin
      rw [if_pos rfl,if_pos ho,(zcB hne).1,(zcB hne).2]
      exact this
    · obtain ⟨g1,g2⟩:=zp6 h0 h5 ho
      have hgel:=λw' (hk:Keep No w w')=>zqU (i:Int) sp.a sp.n sp.c sp.l w' (hGT0 w' hk) p2 p3 (p1.to (Mi:=No) (hk.mono (λ_ h=>h.elim)) (λ_ h=>h.elim)).sla
      have:=zk7 bx i sx zG s x wv (gel (i:Int) sp.l).1 (gel (i:Int) sp.l).2 so sp w zg8 hX g1 g2 hgel
      unfold pkFin
      rw [if_pos rfl,if_neg ho]
      refine Fn.touch hX this λv R h=>?_
      obtain ⟨rfl,rfl⟩:=h
      exact ⟨rfl,rfl,by rw [zdB.1,zdB.2]⟩
  · rw [(zcB hn).1,(zcB hn).2] at hX
    have hl32:=hH.len hn
    have:=zj1 (some ⟨bx,0,none⟩) 8 sp.val w (by decide) (zi8 bx s w (hX.c35 (by rw [List.length_map,hl32])) hX.c2)
    unfold pkFin
    rw [if_neg hn]
    refine Fn.touch hX this λv R h=>?_
    obtain ⟨rfl,rfl⟩:=h
    exact ⟨rfl,rfl,by rw [(zcB hn).1,(zcB hn).2]⟩
theorem zeM {B0:Nat}{w:World}{M:Nat->Prop}{E n c:Nat}{a:Option Addr}{l:List UInt8}{L:List Res}(hh:Holds B0 M L w) (hL:Has L (.row (.slice a n c) E 1 n (l.map v8))) (hl:l.length=n):(⟨a,n,c,l⟩:Bs).ok w:=
  ⟨hl,Row.cap hh hL,zu hh hL,Row.none hh hL⟩
def HS (w:World) (hl:List UInt8) (ah:Option Addr) (kh:Nat):Prop:=hl≠[]->hl.length<=kh/\SlA w ah (hl.map v8)
theorem zeH {B0:Nat}{w:World}{M:Nat->Prop}{E kh kr:Nat}{ah ar:Option Addr}{D:List UInt8}{L:List Res}(hh:Holds B0 M L w) (q:Has L (.row (.slice ar D.length kr) E 1 D.length (D.map v8))) (h:D= []\/ah=ar/\kh=kr):HS w D ah kh:=λhn=>by
  obtain ⟨rfl,rfl⟩:=h.resolve_left hn
  exact ⟨Row.cap hh q,zu hh q⟩
theorem zj6 (s:Bool) (i:Nat) (ac aw ax ao az ap:Option Addr) (n kc kw kx no ko kz np kp wv x kb kt kk:Nat) (ctx own lp:List UInt8) (w:World) (h0:1<=i) (h5:i<=4) (hR:RTab w No kb kt kk)
    (hc:(⟨ac,n,kc,ctx⟩:Bs).ok w) (ho:(⟨ao,no,ko,own⟩:Bs).ok w) (hp:(⟨ap,np,kp,lp⟩:Bs).ok w) (hn:n<=4096) (hno:no<=200) (hnp:np<=128) (hw:SlA w aw (refC wv)) (hx:SlA w ax (refC x)) (hqw:wv < gQ i) (hqx:x < gQ i):
    Sy.Fn Tryz.prog 14 [.agg (rxV (sideI s) (i:Int) (.slice ac n kc) (.slice aw (nd 65536 wv) kw) (.slice ax (nd 65536 x) kx) (.slice ao no ko) (.slice az 0 kz)).toArray,.slice ap np kp] w No (λv R=>∃ah kh ar kr,
      v= .tuple #[.agg (rxV (sideI s) (i:Int) (.slice ac n kc) (.slice aw (nd 65536 wv) kw) (.slice ax (nd 65536 x) kx) (.slice ao no ko) (.slice ah (pkFin s i wv x ctx own [] lp).2.length kh)).toArray,.int .i64 (pkFin s i wv x ctx own [] lp).1]/\
      R= [.row (.slice ar (pkFin s i wv x ctx own [] lp).2.length kr) 66 1 (pkFin s i wv x ctx own [] lp).2.length ((pkFin s i wv x ctx own [] lp).2.map v8)]/\((pkFin s i wv x ctx own [] lp).2= []\/ah=ar/\kh=kr)):=by
  unfold pkFin
  rw [if_pos rfl]
  by_cases hok:pkOk i lp
  · rw [if_pos hok]
    have hpl:lp.length=np:=hp.len
    refine Fn.shut (T:=66) (zpt s i ac aw ax ao az ap n kc kw kx no ko kz np kp wv x kb kt kk ctx own lp w h0 h5 hR hc ho hp hn hno hw hx hqw hqx (by rw [<-hpl];exact hok.1) hok.2.1 hok.2.2) ?_
    rintro v R ⟨b,rfl,rfl⟩
    have hl:=ze4 s i wv x ctx own lp
    refine .inr ⟨b,_,32,rfl,by rw [List.length_map];exact hl,by decide,some ⟨b,0,none⟩,32,some ⟨b,0,none⟩,32,?_,?_,.inr ⟨rfl,rfl⟩⟩
    · show _=Value.tuple #[.agg (rxV _ _ _ _ _ _ (.slice _ (pkDg s i wv x ctx own lp).length 32)).toArray,_]
      rw [hl]
    · show _= [Res.row (.slice _ (pkDg s i wv x ctx own lp).length 32) _ 1 (pkDg s i wv x ctx own lp).length ((pkDg s i wv x ctx own lp).map v8)]
      rw [hl];rfl
  · rw [if_neg hok]
    refine Fn.shut (T:=66) (zpO s i _ _ _ _ az ap kz np kp lp w h0 h5 hp.len hnp hp.sla rfl (λh=>hok ⟨by rw [hp.len];exact h.1,h.2⟩)) ?_
    rintro v R ⟨rfl,rfl⟩
    exact .inl ⟨rfl,az,kz,none,0,rfl,rfl,.inl rfl⟩
theorem zg5 (bx i:Nat) (sx so:Bs) (hl:List UInt8) (s:Bool) (x wv:Nat) (z:Int) (s1 s2 s3 s4:Value) (ah ak:Option Addr) (kh m ck kb kt kk:Nat) (l:List UInt8) (w:World) (hT:Tab w No) (hR:RTab w No kb kt kk)
    (hX:XIs bx i sx (stB hl) (stG hl) s x wv so w) (hH:HOk hl) (hs:HS w hl ah kh) (hm:l.length=m) (hm2:m < 1000000) (hsk:SlA w ak (l.map v8)):
    Sy.Fn Tryz.prog 16 [.pointer (some ⟨bx,0,none⟩),.agg (rxV (sideI s) z s1 s2 s3 s4 (.slice ah hl.length kh)).toArray,.slice ak m ck] w No (Gives (.bool true)):=by
  by_cases hn:hl= []
  · subst hn
    rw [zdB.1,zdB.2] at hX
    exact zmm bx i sx so zG s x wv (sideI s) z s1 s2 s3 s4 (.slice ak m ck) ah kh w zg8 hX
  · obtain ⟨h1,h2⟩:=hs hn
    have h32:=hH.len hn
    rw [(zcB hn).1,(zcB hn).2] at hX
    rw [h32] at h1 ⊢
    exact zl6 bx i sx so hl s x wv z s1 s2 s3 s4 ah ak kh m ck kb kt kk l w h32 hT hR hX h1 h2 hm hm2 hsk
section
variable {L X:List Res}{w0 w:World}{bx i:Nat}{ac ao:Option Addr}{n kc no ko x wv:Nat}{ctx own hl:List UInt8}{s:Bool}{sp:Bs}
theorem zlk (hk:Keep No w0 w) (hh:Holds w0.heap.size No (L ++ X) w) (hG:GT w0) (hT:Tab w0 No) (h0:1<=i) (h5:i<=4) (hx:x < gQ i) (hw:wv < gQ i) (hn:ctx.length=n) (hn2:n<=4096) (ho:own.length=no) (ho2:no<=200) (hH:HOk hl)
    (hX:Has L (.blk bx 75 (pkC i ⟨ac,n,kc,ctx⟩ (stB hl) (stG hl) s x wv ⟨ao,no,ko,own⟩))) (hrc:Has L (.row (.slice ac n kc) 5 1 n (ctx.map v8))) (hro:Has L (.row (.slice ao no ko) 5 1 no (own.map v8)))
    (hp:SlF w (λz=>z=bx) sp.a (sp.l.map v8)/\sp.l.length=sp.n/\sp.n<=sp.c/\(sp.a=none->sp.c=0)/\sp.n<=10000):
    Sy.Fn Tryz.prog 15 [.pointer (some ⟨bx,0,none⟩),sp.val] w (λz=>z=bx) (λv R=>v= .int .i64 (pkFin s i wv x ctx own hl sp.l).1/\
      R= [.blk bx 75 (pkC i ⟨ac,n,kc,ctx⟩ (stB (pkFin s i wv x ctx own hl sp.l).2) (stG (pkFin s i wv x ctx own hl sp.l).2) s x wv ⟨ao,no,ko,own⟩)]):=by
  refine zoZ bx i ⟨ac,n,kc,ctx⟩ ⟨ao,no,ko,own⟩ sp hl s x wv w h0 h5 hH (hh.has (Has.append hX)) hx hw (λt ht=>?_) (hT.to hk (hh.one hX)) (λw2 hk2=>zlD hG hk hh hX hk2)
  simp only [List.mem_cons,List.not_mem_nil,or_false] at ht
  rcases ht with rfl|rfl|rfl
  · exact ⟨SlF.rowB hh hX hrc,hn,Row.cap hh (Has.append hrc),λh=>(Row.nil hh (Has.append hrc) h).1,by show n<=10000;omega⟩
  · exact ⟨SlF.rowB hh hX hro,ho,Row.cap hh (Has.append hro),λh=>(Row.nil hh (Has.append hro) h).1,by show no<=10000;omega⟩
  · exact hp
theorem zha {s:Bool}{i wv x:Nat}{ctx own lp:List UInt8}(h:(pkFin s i wv x ctx own [] lp).1=0):(pkFin s i wv x ctx own [] lp).2.length=32:=by
  unfold pkFin at h ⊢
  rw [if_pos rfl] at h ⊢
  by_cases hok:pkOk i lp
  · rw [if_pos hok];exact ze4 ..
  · rw [if_neg hok] at h;cases h
end
end Go.Proofs.YtcpjfilcilcekaaGreatDoor
end
