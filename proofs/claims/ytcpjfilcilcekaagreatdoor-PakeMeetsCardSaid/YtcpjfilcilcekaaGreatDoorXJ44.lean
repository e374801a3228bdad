/- The laws of layer pake: copies, and whether an exchange agrees with the specification's. -/
import Derived.Test.YtcpjfilcilcekaaGreatDoorXJ36
import Derived.Test.YtcpjfilcilcekaaGreatDoorXJ43
set_option linter.all false
section
namespace Go.Sy
open Go
theorem SubR.one {r:Res}{L:List Res}(h:Has L r):SubR [r] L:=by
  obtain ⟨A,B,e⟩:=List.append_of_mem h.mem
  exact ⟨A ++ B,by rw [e];exact List.perm_middle⟩
end Go.Sy
namespace Go.Proofs.YtcpjfilcilcekaaGreatDoor
open Go Go.Sy Go.Sh Go.Nt Go.RowKit
attribute [local irreducible] Sy SyL SyX Sy.Fn callFunc natC rowN refC iC gP gQ gL memB safeC fixB Sh.sum HashIs pkPt pkH pkQ firstN dblock hmac pkW pkX pkOwn pkDer pkSh pkD pkC pkName pkKey
set_option maxRecDepth 10000
theorem zmm (bx i:Nat) (sx so:Bs) (G:List Value) (s:Bool) (x wv:Nat) (v z:Int) (s1 s2 s3 s4 p:Value) (ah:Option Addr) (kh:Nat) (w:World) (hGl:G.length=32) (hX:XIs bx i sx false G s x wv so w):
    Sy.Fn Tryz.prog 16 [.pointer (some ⟨bx,0,none⟩),.agg (rxV v z s1 s2 s3 s4 (.slice ah 0 kh)).toArray,p] w No (Gives (.bool true)):=by
  refine zk Tryz.func16 rfl Tryz.ntmps16 (by simp) Holds.nil ?_
  have hk:=λw' (hk:Keep No w w')=>zj8 (some ⟨bx,0,none⟩) 8 w' (by decide) (zek bx s w' ((hX.to hk).c35 hGl) (hX.to hk).c2)
  have hc:=λw' (hk:Keep No w w')=>zjI (some ⟨bx,0,none⟩) 8 w' (by decide) (zek bx s w' ((hX.to hk).c35 hGl) (hX.to hk).c2)
  have hv:=λw' (hk:Keep No w w')=>zks (some ⟨bx,0,none⟩) 8 p w' (by decide) (zek bx s w' ((hX.to hk).c35 hGl) (hX.to hk).c2)
  repeat' (first|refine s_0 ?_|(refine za (id:=0) ?_;(refine zj ?_;intro _);refine zd ?_)|(refine za (id:=1) ?_;refine zb ?_;refine yv (zf (f:=25) (hc:=λw' X hk' hh=>hk w' hk')) (k:=?_);refine zb ?_;refine zh ?_;refine zh ?_;refine zd ?_;refine zd ?_)|(refine za (id:=2) ?_;refine zb ?_;refine yv (zf (f:=26) (hc:=λw' X hk hh=>hc w' hk)) (k:=?_);refine zb ?_;refine zh ?_;refine zh ?_;refine zd ?_;refine zd ?_)|(refine za (id:=3) ?_;refine zb ?_;refine zb ?_;refine yv (zf (f:=27) (hc:=λw' X hk hh=>hv w' hk)) (k:=?_);refine zd ?_)|(refine za (id:=4) ?_;refine zm ?_;refine zD ?_;refine zq ?_;refine zX ?_)|(refine za (id:=5) ?_;refine zb ?_;refine zq ?_;refine zb ?_;refine zq ?_;refine zY ?_;refine zX ?_;refine zb ?_;refine zb ?_;refine zX ?_;refine zo ?_;refine zb ?_;refine zb ?_;refine zX ?_;refine zo ?_;refine zb ?_;refine zb ?_;refine zX ?_;refine zo ?_;refine zd ?_)|fail)
  exact ret1 rfl (resTmp rfl) SubR.nil ⟨rfl,rfl⟩
set_option maxHeartbeats 2000000 in
theorem zl6 (bx i:Nat) (sx so:Bs) (D:List UInt8) (s:Bool) (x wv:Nat) (z:Int) (s1 s2 s3 s4:Value) (ah ak:Option Addr) (kh m ck kb kt kk:Nat) (l:List UInt8) (w:World) (hD:D.length=32) (hT:Tab w No) (hR:RTab w No kb kt kk)
    (hX:XIs bx i sx true (D.map v8) s x wv so w) (hkh:32<=kh) (hsh:SlA w ah (D.map v8)) (hm:l.length=m) (hm2:m < 1000000) (hsk:SlA w ak (l.map v8)):
    Sy.Fn Tryz.prog 16 [.pointer (some ⟨bx,0,none⟩),.agg (rxV (sideI s) z s1 s2 s3 s4 (.slice ah 32 kh)).toArray,.slice ak m ck] w No (Gives (.bool true)):=by
  refine zk Tryz.func16 rfl Tryz.ntmps16 (by simp) Holds.nil ?_
  have n33:=λz w'=>zgG z w'
  have hDm:(D.map v8).length=32:=by rw [List.length_map,hD]
  have hk:=λw' (hk:Keep No w w')=>zkD bx (sideI s) D w' (zcX s) ((hX.to hk).c35 hDm) (hX.to hk).c2 (hX.to hk).r3 hD (hT.no hk)
  have hc:=λw' (hk:Keep No w w')=>zgs bx s D w' ((hX.to hk).c35 hDm) (hX.to hk).c2 (hX.to hk).r3 hD (hT.no hk)
  have hv:=λw' (hk:Keep No w w')=>zhc bx s D ak m ck l w' ((hX.to hk).c35 hDm) (hX.to hk).c2 (hX.to hk).r3 hD (hT.no hk) hm (by omega) ((SlF.of hsk).to (Mi:=No) hk (λ_ h=> .inr h)).sla
  have hder:=λlab (hl:lab.length<=4096) w' (hk:Keep No w w')=>zez (sideI s) z s1 s2 s3 s4 ah kh kb kt kk D lab w' hD hkh ((SlF.of hsh).to (Mi:=No) hk (λ_ h=> .inr h)).sla hl (hR.no hk)
  have hd1:=hder pkKey (by unfold pkKey;decide)
  have hd2:=hder (pkName s) (zcf s)
  have hd3:=hder (pkName (!s)) (zcf (!s))
  clear hder
  rw [show (str pkKey)=str [107,101,121] by unfold pkKey;rfl] at hd1
  have hn1:=λw'=>zjU s w'
  have hn2:=λw'=>zjU (!s) w'
  have hsub:IntKind.i64.wrap (3 - sideI s)=sideI (!s):=by cases s <;> rfl
  have l1:=zdb D pkKey
  have l2:=zdb D (pkName s)
  have l3:=zdb D (pkName (!s))
  generalize pkDer D pkKey=K1 at *
  generalize pkDer D (pkName s)=K2 at *
  generalize pkDer D (pkName (!s))=K3 at *
  generalize pkName s=N1 at *
  generalize pkName (!s)=N2 at *
  generalize sideI (!s)=o at *
  generalize hrB:rxV (sideI s) z s1 s2 s3 s4 (.slice ah 32 kh)=rB at *
  have hr0:rB[0]?=some (.int .i64 (sideI s)):=by rw [<-hrB];rfl
  have hr6:rB[6]?=some (.slice ah 32 kh):=by rw [<-hrB];rfl
  have hrl:rB.length=7:=by rw [<-hrB];rfl
  clear hrB
  obtain ⟨e,he⟩: ∃e:Int,e=if K3=l then 0 else 10:=⟨_,rfl⟩
  rw [<-he] at hv
  generalize sideI s=u at *
  repeat' (first|refine s_0 ?_|(refine za (id:=0) ?_;(refine zj ?_;intro _);refine zd ?_)|(refine za (id:=1) ?_;refine zb ?_;(refine ys (zn (f:=25) (hc:=λw' X hk' hh=>hk w' hk')) (k:=?_);rintro _ _ ⟨R,rfl,a1,c1,rfl,rfl⟩);refine zb ?_;refine zh ?_;refine zh ?_;refine zd ?_;refine zd ?_)|(refine za (id:=2) ?_;refine zb ?_;(refine ys (zn (f:=26) (hc:=λw' X hk hh=>hc w' hk)) (k:=?_);rintro _ _ ⟨R,rfl,a2,c2,rfl,rfl⟩);refine zb ?_;refine zh ?_;refine zh ?_;refine zd ?_;refine zd ?_)|(refine za (id:=3) ?_;refine zb ?_;refine zb ?_;refine yv (zf (f:=27) (hc:=λw' X hk hh=>hv w' hk)) (k:=?_);refine zd ?_)|(refine za (id:=4) ?_;refine zm ?_;refine yv (zw (hv:=hr6)) (k:=?_);refine zq ?_;refine zX ?_)|fail)
  rename_i b4
  refine zag (id:=6) mixed ?_
  (refine zab 6 6 [[],[0],[],[2],[2,3],[0,1,2,3,4],[0,1,2,3,4,5],[0,1,2,3,4,5,6],[0,1,2,3,4,5,6,7],[0,1,2,3,4,5,6],[0,1,2,3,4,5,6],[0,1,2,3,4,5,6,10],[0,1,2,3,4,5,6,10,11],[0,1,2,3,4,5,6,9,10,11,12],[0,1,2,3,4,5,6,9,10,11,12,13],[0,1,2,3,4,5,6,7,8,9,10,11,12,13,14],[0,1,2,3,4,5,6,7,8,9,10,11,12,13,14,15],[0,1,2,3,4,5,6,7,8,9,10,11,12,13,14,15,16],[0,1,2,3,4,5,6,7,8,9,10,11,12,13,14,15,16,17],[0,1,2,3,4,5,6,7,8,9,10,11,12,13,14,15,16,17,18],[0,1,2,3,4,5,6,7,8,9,10,11,12,13,14,15,16,17],[0,1,2,3,4,5,6,7,8,9,10,11,12,13,14,15,16,17,18,19,20],[0,1,2,3,4,5,6,7,8,9,10,11,12,13,14,15,16,17,18,19,20,21],[0,1,2,3,4,5,6,7,8,9,10,11,12,13,14,15,16,17,18,19,20,21,22],[0,1,2,3,4,5,6,7,8,9,10,11,12,13,14,15,16,17,18,19,20,21,22,23]] [[],[],[],[],[],[],[],[],[],[],[],[],[],[],[],[],[],[],[],[],[],[],[],[],[]] none rfl ?_ ?_ ?_;kernel_rfl;kernel_rfl;refine zU ?_;refine dcE (λ_ _=>zb3 (l:=K1) (hr:=Rd.row Has.go) (hn:=l1)) (k:=?_);refine dcE (λ_ _=>zg (B:=rB) (hz:=hrl.symm)) (k:=?_);try refine z5 (h:=?_))
  refine z7 (R:=λ_=>RowOf 5 32 (K1.map v8)) (λ_ _ _=>rfl) (λρ hρ=>zn (f:=17) (hc:=λw' X hk hh=>hd1 w' hk)) (h:=?_)
  refine dcE (u:=.string (str K1)) (λρ hρ=>zfG (v:=(ρ 3).1) (Nw:=(ρ 3).2) hρ.1 l1 (λr hr=>Has.append hr)) (k:=?_)
  (skip;refine dcE (λ_ _=>zcU (hr:=decide_eq_false (λh=>h rfl))) (k:=?_);try refine z5 (h:=?_))
  refine zaF (h:=?_)
  rintro ρ1 -
  (refine zab 11 17 [[],[0],[],[2],[2,3],[0,1,2,3,4],[0,1,2,3,4,5],[0,1,2,3,4,5,6],[0,1,2,3,4,5,6,7],[0,1,2,3,4,5,6],[0,1,2,3,4,5,6],[0,1,2,3,4,5,6,10],[0,1,2,3,4,5,6,10,11],[0,1,2,3,4,5,6,9,10,11,12],[0,1,2,3,4,5,6,9,10,11,12,13],[0,1,2,3,4,5,6,7,8,9,10,11,12,13,14],[0,1,2,3,4,5,6,7,8,9,10,11,12,13,14,15],[0,1,2,3,4,5,6,7,8,9,10,11,12,13,14,15,16],[0,1,2,3,4,5,6,7,8,9,10,11,12,13,14,15,16,17],[0,1,2,3,4,5,6,7,8,9,10,11,12,13,14,15,16,17,18],[0,1,2,3,4,5,6,7,8,9,10,11,12,13,14,15,16,17],[0,1,2,3,4,5,6,7,8,9,10,11,12,13,14,15,16,17,18,19,20],[0,1,2,3,4,5,6,7,8,9,10,11,12,13,14,15,16,17,18,19,20,21],[0,1,2,3,4,5,6,7,8,9,10,11,12,13,14,15,16,17,18,19,20,21,22],[0,1,2,3,4,5,6,7,8,9,10,11,12,13,14,15,16,17,18,19,20,21,22,23]] [[],[],[],[],[],[],[],[],[],[],[],[],[],[],[],[],[],[],[],[],[],[],[],[],[]] none rfl ?_ ?_ ?_;kernel_rfl;kernel_rfl;refine zU ?_;refine zU ?_;refine dcE (λ_ _=>zb3 (l:=K2) (hr:=Rd.row (Has.appR Has.go)) (hn:=l2)) (k:=?_);refine dcE (λ_ _=>zg (B:=rB) (hz:=hrl.symm) (hL:=Has.appR Has.go)) (k:=?_);refine zS ?_;refine dcE (λ_ _=>zw (hv:=hr0) (hL:=Has.appR Has.go)) (k:=?_);refine dcE (λ_ _=>zf (hc:=λ_ _ _ _=>(hn1 _))) (k:=?_);try refine z5 (h:=?_))
  refine z7 (R:=λ_=>RowOf 5 32 (K2.map v8)) (λ_ _ _=>rfl) (λρ hρ=>zn (f:=17) (hc:=λw' X hk hh=>hd2 w' hk)) (h:=?_)
  refine dcE (u:=.string (str K2)) (λρ hρ=>zfG (v:=(ρ 13).1) (Nw:=(ρ 13).2) hρ.1 l2 (λr hr=>Has.append hr)) (k:=?_)
  (skip;refine dcE (λ_ _=>zcU (hr:=decide_eq_false (λh=>h rfl))) (k:=?_);refine znj ?_;try refine z5 (h:=?_))
  refine zaF (h:=?_)
  rintro ρ2 -
  (refine zab 7 24 [[],[0],[],[2],[2,3],[0,1,2,3,4],[0,1,2,3,4,5],[0,1,2,3,4,5,6],[0,1,2,3,4,5,6,7],[0,1,2,3,4,5,6],[0,1,2,3,4,5,6],[0,1,2,3,4,5,6,10],[0,1,2,3,4,5,6,10,11],[0,1,2,3,4,5,6,9,10,11,12],[0,1,2,3,4,5,6,9,10,11,12,13],[0,1,2,3,4,5,6,7,8,9,10,11,12,13,14],[0,1,2,3,4,5,6,7,8,9,10,11,12,13,14,15],[0,1,2,3,4,5,6,7,8,9,10,11,12,13,14,15,16],[0,1,2,3,4,5,6,7,8,9,10,11,12,13,14,15,16,17],[0,1,2,3,4,5,6,7,8,9,10,11,12,13,14,15,16,17,18],[0,1,2,3,4,5,6,7,8,9,10,11,12,13,14,15,16,17],[0,1,2,3,4,5,6,7,8,9,10,11,12,13,14,15,16,17,18,19,20],[0,1,2,3,4,5,6,7,8,9,10,11,12,13,14,15,16,17,18,19,20,21],[0,1,2,3,4,5,6,7,8,9,10,11,12,13,14,15,16,17,18,19,20,21,22],[0,1,2,3,4,5,6,7,8,9,10,11,12,13,14,15,16,17,18,19,20,21,22,23]] [[],[],[],[],[],[],[],[],[],[],[],[],[],[],[],[],[],[],[],[],[],[],[],[],[]] none rfl ?_ ?_ ?_;kernel_rfl;kernel_rfl;refine zU ?_;refine zU ?_;refine dcE (λ_ _=>zf (hc:=λ_ _ _ _=>(n33 _ _))) (k:=?_);refine zU ?_;refine dcE (λ_ _=>zf (hc:=λ_ _ _ _=>(n33 _ _))) (k:=?_);refine zrn ?_;refine zrg ?_;try refine z5 (h:=?_))
  (refine zah [[],[0],[],[2],[2,3],[0,1,2,3,4],[0,1,2,3,4,5],[0,1,2,3,4,5,6],[0,1,2,3,4,5,6,7],[0,1,2,3,4,5,6],[0,1,2,3,4,5,6],[0,1,2,3,4,5,6,10],[0,1,2,3,4,5,6,10,11],[0,1,2,3,4,5,6,9,10,11,12],[0,1,2,3,4,5,6,9,10,11,12,13],[0,1,2,3,4,5,6,7,8,9,10,11,12,13,14],[0,1,2,3,4,5,6,7,8,9,10,11,12,13,14,15],[0,1,2,3,4,5,6,7,8,9,10,11,12,13,14,15,16],[0,1,2,3,4,5,6,7,8,9,10,11,12,13,14,15,16,17],[0,1,2,3,4,5,6,7,8,9,10,11,12,13,14,15,16,17,18],[0,1,2,3,4,5,6,7,8,9,10,11,12,13,14,15,16,17],[0,1,2,3,4,5,6,7,8,9,10,11,12,13,14,15,16,17,18,19,20],[0,1,2,3,4,5,6,7,8,9,10,11,12,13,14,15,16,17,18,19,20,21],[0,1,2,3,4,5,6,7,8,9,10,11,12,13,14,15,16,17,18,19,20,21,22],[0,1,2,3,4,5,6,7,8,9,10,11,12,13,14,15,16,17,18,19,20,21,22,23]] ?_ ?_;kernel_rfl)
  refine SyL.weaken (fr':=[(64,.bool false),(70,.bool false),(11,.int .i64 e),(4,.pointer (some ⟨b4,0,none⟩)),(2,.slice ak m ck)]) (L':=[.blk b4 32 rB]) ?_ (by exact Sub.go) (SubR.one (Has.appR (Has.appR Has.go)))
  repeat' (first|refine s_0 ?_|(refine zC ?_;first|refine zo ?_|fail)|fail)
  refine zag (id:=8) mixed ?_
  (refine zab 9 9 [[],[0],[],[],[3],[3,4],[3,4,5],[2,3,4,5,6],[2,3,4,5,6,7],[0,1,2,3,4,5,6,7,8]] [[],[],[],[],[],[],[],[],[],[]] none rfl ?_ ?_ ?_;kernel_rfl;kernel_rfl;refine zU ?_;refine dcE (λ_ _=>zb3 (l:=l) (hr:=Rd.old hsk (λ_ _ h=>h)) (hn:=hm)) (k:=?_);refine dcE (λ_ _=>zg (B:=rB) (hz:=hrl.symm)) (k:=?_);refine zS ?_;refine dcE (λ_ _=>zw (hv:=hr0)) (k:=?_);refine dcE (λ_ _=>zJ (hr:=hsub)) (k:=?_);refine dcE (λ_ _=>zf (hc:=λ_ _ _ _=>(hn2 _))) (k:=?_);try refine z5 (h:=?_))
  refine z7 (R:=λ_=>RowOf 5 32 (K3.map v8)) (λ_ _ _=>rfl) (λρ hρ=>zn (f:=17) (hc:=λw' X hk hh=>hd3 w' hk)) (h:=?_)
  refine dcE (u:=.string (str K3)) (λρ hρ=>zfG (v:=(ρ 7).1) (Nw:=(ρ 7).2) hρ.1 l3 (λr hr=>Has.append hr)) (k:=?_)
  refine zaF (h:=?_)
  rintro ρ3 -
  (refine zah [[],[0],[],[],[3],[3,4],[3,4,5],[2,3,4,5,6],[2,3,4,5,6,7],[0,1,2,3,4,5,6,7,8]] ?_ ?_;kernel_rfl)
  refine SyL.weaken (fr':=[(73,.string (str l)),(80,.string (str K3)),(11,.int .i64 e)]) (L':=[]) ?_ (by exact Sub.go) SubR.nil
  by_cases hq:K3=l
  · rw [if_pos hq] at he
    subst he
    repeat' (first|refine s_0 ?_|(refine za (id:=9) ?_;refine zb ?_;refine yv (zf (hc:=λ_ _ _ _=>(n33 _ _))) (k:=?_);refine zX ?_;refine zd ?_)|(refine zC ?_;first|refine yv (zbX (hr:=decide_eq_true hq.symm)) (k:=?_)|fail)|fail)
    exact ret1 rfl (resTmp rfl) SubR.nil ⟨rfl,rfl⟩
  · rw [if_neg hq] at he
    subst he
    repeat' (first|refine s_0 ?_|(refine za (id:=10) ?_;refine zb ?_;refine zX ?_;refine zd ?_)|(refine zC ?_;first|refine yv (zbX (hr:=decide_eq_false (λh=>hq h.symm))) (k:=?_)|fail)|fail)
    exact ret1 rfl (resTmp rfl) SubR.nil ⟨rfl,rfl⟩
end Go.Proofs.YtcpjfilcilcekaaGreatDoor
end
section
namespace Go.Proofs.YtcpjfilcilcekaaGreatDoor
open Go Go.Sy Go.Sh Go.Nt Go.RowKit
attribute [local irreducible] Sy SyL SyX Sy.Fn callFunc natC rowN refC iC gP gQ gL memB safeC fixB Sh.sum HashIs pkPt pkH pkQ firstN dblock hmac pkW pkX pkOwn pkDer pkSh pkD four
set_option maxRecDepth 10000
theorem zp4 {v z:Int}{a b c d e y:Value} :SetAt (rxV v z a b c d e) 6 y (rxV v z a b c d y):=⟨(by show 6 < 7;decide),rfl⟩
set_option maxHeartbeats 4000000 in
theorem zpt (s:Bool) (i:Nat) (ac aw ax ao az ap:Option Addr) (n kc kw kx no ko kz np kp wv x kb kt kk:Nat) (ctx own lp:List UInt8) (w:World) (h0:1<=i) (h5:i<=4) (hR:RTab w No kb kt kk)
    (hc:(⟨ac,n,kc,ctx⟩:Bs).ok w) (ho:(⟨ao,no,ko,own⟩:Bs).ok w) (hp:(⟨ap,np,kp,lp⟩:Bs).ok w) (hn:n<=4096) (hno:no<=200) (hw:SlA w aw (refC wv)) (hx:SlA w ax (refC x)) (hqw:wv < gQ i) (hqx:x < gQ i)
    (e1:np=gL i) (e2:memB (gP i) (gQ i) (bev 256 (bn lp))=true) (e3:bev 256 (bn lp)≠1):
    Sy.Fn Tryz.prog 14 [.agg (rxV (sideI s) (i:Int) (.slice ac n kc) (.slice aw (nd 65536 wv) kw) (.slice ax (nd 65536 x) kx) (.slice ao no ko) (.slice az 0 kz)).toArray,.slice ap np kp] w No (λv R=>∃b,v= .tuple #[.agg (rxV (sideI s) (i:Int) (.slice ac n kc) (.slice aw (nd 65536 wv) kw) (.slice ax (nd 65536 x) kx) (.slice ao no ko) (.slice (some ⟨b,0,none⟩) 32 32)).toArray,.int .i64 0]/\
      R= [.blk b 66 ((pkD i ctx s own lp (fixB (gL i) (pkSh s i wv x (bev 256 (bn lp)))) (fixB (gL i) wv)).map v8)]):=by
  refine zk Tryz.func14 rfl Tryz.ntmps14 (by simp) Holds.nil ?_
  have hui:=u8w i (by omega)
  have hgl:=(zds i h0 h5).2
  have hpl:lp.length=np:=hp.len
  have hps:SlA w ap (lp.map v8):=hp.sla
  have hfr:=λw' (hk:Keep No w w')=>zgh ap np kp lp w' hpl ((SlF.of hps).to (Mi:=No) hk (λ_ h=> .inr h)).sla (by omega)
  have hle:=λw'=>zhH i w' h0 h5
  have hpt:=λw' (hk:Keep No w w')=>zkG i s kb kt kk w' h0 h5 (hR.no hk)
  have hof:=λw'=>zdr 1 w' (by decide)
  have mn:=zhh i (!s) h0 h5
  have mh:=zc1 h0 h5 mn wv
  have mv:=zmU h0 h5 mh
  have mc:=zi1 h0 h5 e2 mv
  have ms:=zc1 h0 h5 mc x
  have nw:=zb2 (Nat.lt_trans hqw (za2 i h0 h5))
  have nx:=zb2 (Nat.lt_trans hqx (za2 i h0 h5))
  have nY:=zb2 (zbH h0 h5 e2)
  have hw':=λw' (hk:Keep No w w')=>((SlF.of hw).to (Mi:=No) hk (λ_ h=> .inr h)).sla
  have hx':=λw' (hk:Keep No w w')=>((SlF.of hx).to (Mi:=No) hk (λ_ h=> .inr h)).sla
  have hme:=λw' a k (h:SlA w' a (refC (bev 256 (bn lp))))=>zhv i a k (bev 256 (bn lp)) w' h0 h5 h nY
  rw [e2] at hme
  have hcm:=λw' a k b l (h:SlA w' a (refC (bev 256 (bn lp)))) (h':SlA w' b (refC 1))=>zbn a b k l (bev 256 (bn lp)) 1 w' h h' (by omega) (by have:=zaj 65536 1 1 (by decide) (by decide);omega)
  have g2:decide (cmpI (bev 256 (bn lp)) 1=(0:Int))=false:=decide_eq_false (λh=>e3 (zdw h))
  have hexp:=λw' (hk:Keep No w w') a k (h:SlA w' a (refC (pkPt i (!s))))=>zgl i a aw k kw (pkPt i (!s)) wv w' h0 h5 h (hw' w' hk) (zb2 (zbH h0 h5 mn)) nw
  have hinv:=λw' a k (h:SlA w' a (refC (pkPt i (!s) ^ wv % gP i)))=>zp5 i a k (pkPt i (!s) ^ wv % gP i) w' h0 h5 h (zb2 (zbH h0 h5 mh)) mh
  have hmul:=λw' a k b l (h:SlA w' a (refC (bev 256 (bn lp)))) (h':SlA w' b (refC (inv (gP i) (pkPt i (!s) ^ wv % gP i)).2))=>zhL i a b k l (bev 256 (bn lp)) (inv (gP i) (pkPt i (!s) ^ wv % gP i)).2 w' h0 h5 h h' nY (zb2 (zbH h0 h5 mv))
  have hexq:=λw' (hk:Keep No w w') a k (h:SlA w' a (refC (bev 256 (bn lp)*(inv (gP i) (pkPt i (!s) ^ wv % gP i)).2 % gP i)))=>zgl i a ax k kx _ x w' h0 h5 h (hx' w' hk) (zb2 (zbH h0 h5 mc)) nx
  have nds:=zeg h0 h5 (zaI.1 ms).2.1
  have hbs:=λw' a k (h:SlA w' a (refC ((bev 256 (bn lp)*(inv (gP i) (pkPt i (!s) ^ wv % gP i)).2 % gP i) ^ x % gP i)))=>zfU i a k _ w' h0 h5 h (zb2 (zbH h0 h5 ms)) nds
  have hbw:=λw' (hk:Keep No w w')=>zfU i aw kw wv w' h0 h5 (hw' w' hk) nw (ziX h0 h5 hqw)
  have ls:=zbs _ _ nds
  have lw:=zbs _ _ (ziX h0 h5 hqw)
  rw [show pkSh s i wv x (bev 256 (bn lp))=(bev 256 (bn lp)*(inv (gP i) (pkPt i (!s) ^ wv % gP i)).2 % gP i) ^ x % gP i by unfold pkSh;rfl]
  clear mn mh mv mc ms nY nds e2 e3
  unfold RefG at hfr hof
  unfold RefG2 at hpt
  generalize (bev 256 (bn lp)*(inv (gP i) (pkPt i (!s) ^ wv % gP i)).2 % gP i) ^ x % gP i=sh at *
  generalize bev 256 (bn lp)*(inv (gP i) (pkPt i (!s) ^ wv % gP i)).2 % gP i=c at *
  generalize (inv (gP i) (pkPt i (!s) ^ wv % gP i)).2=v at *
  generalize pkPt i (!s) ^ wv % gP i=h at *
  generalize pkPt i (!s)=pn at *
  generalize pkPt i s=ps at *
  generalize bev 256 (bn lp)=y at *
  generalize cmpI y 1=cy at *
  have g1:decide ((np:Int)≠((gL i:Nat):Int))=false:=decide_eq_false (by omega)
  generalize hrB:rxV (sideI s) (i:Int) (.slice ac n kc) (.slice aw (nd 65536 wv) kw) (.slice ax (nd 65536 x) kx) (.slice ao no ko) (.slice az 0 kz)=rB
  have hr0:rB[0]?=some (.int .i64 (sideI s)):=by rw [<-hrB];rfl
  have hr1:rB[1]?=some (.int .i64 (i:Int)):=by rw [<-hrB];rfl
  have hr2:rB[2]?=some (.slice ac n kc):=by rw [<-hrB];rfl
  have hr3:rB[3]?=some (.slice aw (nd 65536 wv) kw):=by rw [<-hrB];rfl
  have hr4:rB[4]?=some (.slice ax (nd 65536 x) kx):=by rw [<-hrB];rfl
  have hr5:rB[5]?=some (.slice ao no ko):=by rw [<-hrB];rfl
  have hr6:rB[6]?=some (.slice az 0 kz):=by rw [<-hrB];rfl
  repeat' (first|refine s_0 ?_|(refine za (id:=0) ?_;(refine zj ?_;intro _);(refine zj ?_;intro _);refine zd ?_)|(refine za (id:=1) ?_;refine zm ?_;refine yv (zw (hv:=hr6)) (k:=?_);refine zq ?_;refine zae ?_)|(refine za (id:=3) ?_;refine zb ?_;(refine ys (zn (f:=47) (hc:=λw' X hk hh=>hfr w' hk)) (k:=?_);rintro _ _ ⟨R,rfl,aY,kY,rfl,rfl⟩);refine zd ?_)|(refine za (id:=4) ?_;refine zb ?_;refine zq ?_;refine zm ?_;refine yv (zw (hv:=hr1)) (k:=?_);refine yv (zf (hc:=λ_ _ _ _=>(hle _))) (k:=?_);refine yv (zay (hr:=g1)) (k:=?_);refine zb ?_;refine zm ?_;refine yv (zw (hv:=hr1)) (k:=?_);refine zb ?_;refine yv (zf (f:=49) (hc:=λw' X hk hh=>hme w' _ _ (zu hh (by exact Has.append Has.go)))) (k:=?_);refine zal ?_;refine zo ?_;refine zb ?_;refine zb ?_;(refine ys (zn (f:=41) (hc:=λw' X hk hh=>hof w')) (k:=?_);rintro _ _ ⟨R,rfl,aO,kO,rfl,rfl⟩);refine yv (zf (f:=50) (hc:=λw' X hk hh=>hcm w' _ _ _ _ (zu hh (by exact Has.append Has.go)) (zu hh (by exact Has.append Has.go)))) (k:=?_);refine yv (z8 (hr:=g2)) (k:=?_);refine zo ?_)|(refine za (id:=6) ?_;refine zm ?_;refine yv (zw (hv:=hr0)) (k:=?_);refine zm ?_;refine yv (zw (hv:=hr1)) (k:=?_);(refine ys (zn (f:=42) (hc:=λw' X hk hh=>hpt w' hk)) (k:=?_);rintro _ _ ⟨R,rfl,aP,kP,aN,kN,rfl,rfl⟩);refine zb ?_;refine zh ?_;refine zh ?_;refine zd ?_;refine zd ?_)|fail)
  rename_i b2 b4
  refine Sy.weaken (fr':=[(8,.slice aN (nd 65536 pn) kN),(6,.slice aY (nd 65536 y) kY),(4,.pointer (some ⟨b4,0,none⟩)),(2,.pointer (some ⟨b2,0,none⟩)),(1,.slice ap np kp)]) (L':=[.row (.slice aN (nd 65536 pn) kN) 3 1 (nd 65536 pn) (refC pn),.row (.slice aY (nd 65536 y) kY) 3 1 (nd 65536 y) (refC y),.blk b4 32 rxZ,.blk b2 32 rB]) ?_ (by exact Sub.go) (by exact SubR.go2)
  clear hfr hle hpt hof hme hcm g1 g2
  refine zag (id:=7) mixed ?_
  (refine zab 13 13 [[],[0],[],[],[3],[],[5],[],[],[8],[5,6,7,8,9],[3,4,5,6,7,8,9,10],[0,1,2,3,4,5,6,7,8,9,10,11],[0,1,2,3,4,5,6,7,8,9,10,11,12]] [[],[],[],[],[],[],[],[],[],[],[],[],[],[]] none rfl ?_ ?_ ?_;kernel_rfl;kernel_rfl;refine zS ?_;refine dcE (λ_ _=>zw (hv:=hr1)) (k:=?_);refine zU ?_;refine zS ?_;refine dcE (λ_ _=>zw (hv:=hr1)) (k:=?_);refine zS ?_;refine dcE (λ_ _=>zw (hv:=hr1)) (k:=?_);refine zU ?_;refine zS ?_;refine dcE (λ_ _=>zw (hv:=hr3)) (k:=?_);try refine z5 (h:=?_))
  refine z7 (R:=λ_=>RefG h) (λ_ _ _=>rfl) (λρ hρ=>zn (f:=45) (hc:=λw' X hk hh=>hexp w' hk _ _ (zu hh (by exact Has.append Has.go)))) (h:=?_)
  refine z7 (R:=λ_=>RefG v) (λ_ _ _=>rfl) (λρ hρ=>?_) (h:=?_)
  · obtain ⟨⟨b0,d0,p1,p2⟩,-⟩:=hρ
    refine zn (f:=51) (vs:=[.int .i64 (i:Int),.slice b0 (nd 65536 h) d0]) (ha:=by show some [_,(ρ 10).1]=_;rw [p1]) (hc:=λw' X hk hh=>?_)
    have hh:Holds w.heap.size No (((ρ 10).2 ++ _) ++ X) w':=hh
    rw [p2] at hh
    exact hinv w' b0 d0 (zu hh (by exact Has.append Has.go))
  refine z7 (R:=λ_=>RefG c) (λ_ _ _=>rfl) (λρ hρ=>?_) (h:=?_)
  · obtain ⟨⟨b0,d0,p1,p2⟩,⟨b1,d1,q1,q2⟩,-⟩:=hρ
    refine zn (f:=43) (vs:=[.int .i64 (i:Int),.slice aY (nd 65536 y) kY,.slice b0 (nd 65536 v) d0]) (ha:=by show some [_,_,(ρ 11).1]=_;rw [p1]) (hc:=λw' X hk hh=>?_)
    have hh:Holds w.heap.size No (((ρ 11).2 ++ ((ρ 10).2 ++ _)) ++ X) w':=hh
    rw [p2,q2] at hh
    exact hmul w' aY kY b0 d0 (zu hh (by exact Has.append Has.go)) (zu hh (by exact Has.append Has.go))
  refine zaF (h:=?_)
  rintro ρ ⟨⟨aC,kC,p1,p2⟩,⟨aI,kI,q1,q2⟩,⟨aH,kH,r1,r2⟩,-⟩
  (refine zah [[],[0],[],[],[3],[],[5],[],[],[8],[5,6,7,8,9],[3,4,5,6,7,8,9,10],[0,1,2,3,4,5,6,7,8,9,10,11],[0,1,2,3,4,5,6,7,8,9,10,11,12]] ?_ ?_;kernel_rfl)
  refine SyL.weaken (fr':=[(64,.slice aC (nd 65536 c) kC),(4,.pointer (some ⟨b4,0,none⟩)),(2,.pointer (some ⟨b2,0,none⟩)),(1,.slice ap np kp)]) (L':=[.row (.slice aC (nd 65536 c) kC) 3 1 (nd 65536 c) (refC c),.blk b4 32 rxZ,.blk b2 32 rB]) ?_ ?_ ?_
  rotate_left
  · (repeat' (first|exact Sub.nil|refine Sub.cons rfl ?_ ?_|rfl))
    exact p1
  · show SubR _ ((ρ 12).2 ++ ((ρ 11).2 ++ ((ρ 10).2 ++ _)))
    rw [p2,q2,r2]
    exact SubR.go2
  clear p1 p2 q1 q2 r1 r2
  unfold RefG at hexq
  repeat' (first|refine s_0 ?_|(refine za (id:=8) ?_;refine zm ?_;refine yv (zw (hv:=hr1)) (k:=?_);refine zb ?_;refine zm ?_;refine yv (zw (hv:=hr4)) (k:=?_);(refine ys (zn (f:=45) (hc:=λw' X hk hh=>hexq w' hk _ _ (zu hh (by exact Has.append Has.go)))) (k:=?_);rintro _ _ ⟨R,rfl,aS,kS,rfl,rfl⟩);refine zd ?_)|(refine za (id:=9) ?_;refine zm ?_;refine yv (zw (hv:=hr5)) (k:=?_);refine zb ?_;refine zd ?_;refine zd ?_)|(refine zC ?_;first|refine zd ?_|fail)|fail)
  clear hexp hinv hmul hexq hx'
  obtain ⟨cl,hcl⟩: ∃cl:Bs,cl=if s then ⟨ao,no,ko,own⟩ else ⟨ap,np,kp,lp⟩:=⟨_,rfl⟩
  obtain ⟨sv,hsv⟩: ∃sv:Bs,sv=if s then ⟨ap,np,kp,lp⟩ else ⟨ao,no,ko,own⟩:=⟨_,rfl⟩
  have hclo:cl.ok w/\cl.n<=10000:=by
    rw [hcl];cases s
    · exact ⟨hp,by show np<=10000;omega⟩
    · exact ⟨ho,by show no<=10000;omega⟩
  have hsvo:sv.ok w/\sv.n<=10000:=by
    rw [hsv];cases s
    · exact ⟨ho,by show no<=10000;omega⟩
    · exact ⟨hp,by show np<=10000;omega⟩
  refine zlh (γ:=Unit) (λ_=>[(12,sv.val),(11,cl.val),(10,.slice aS (nd 65536 sh) kS),(4,.pointer (some ⟨b4,0,none⟩)),(2,.pointer (some ⟨b2,0,none⟩))]) (λ_=>[.row (.slice aS (nd 65536 sh) kS) 3 1 (nd 65536 sh) (refC sh),.blk b4 32 rxZ,.blk b2 32 rB]) (λ_=>True) ?_ ?_
  · cases s
    · rw [hcl,hsv]
      repeat' (first|refine s_0 ?_|(refine za (id:=10) ?_;refine zm ?_;refine yv (zw (hv:=hr0)) (k:=?_);refine zX ?_)|(refine zK (id:=11) 4 [[],[],[1],[0],[0,1,2,3]] mixed ?_ ?_;kernel_rfl;refine zp ?_;refine z3 ?_;refine dc (λ_ _=>zw (hv:=hr5)) (k:=?_);refine zdV ?_;refine zV ?_;refine zd ?_)|fail)
      exact zN () trivial (by exact Sub.go) (by exact SubR.go2)
    · rw [hcl,hsv]
      repeat' (first|refine s_0 ?_|(refine za (id:=10) ?_;refine zm ?_;refine yv (zw (hv:=hr0)) (k:=?_);refine zX ?_)|fail)
      exact zN () trivial (by exact Sub.go) (by exact SubR.go2)
  rintro ⟨⟩ -
  repeat' (first|refine s_0 ?_|(refine za (id:=12) ?_;refine zd ?_)|fail)
  refine zag (id:=13) mixed ?_
  (refine zab 18 18 [[],[0],[],[2],[2,3],[2,3,4],[],[],[],[8],[],[8,9,10],[],[12],[],[14],[8,9,10,11,12,13,14,15],[0,1,2,3,4,5,6,7,8,9,10,11,12,13,14,15,16],[0,1,2,3,4,5,6,7,8,9,10,11,12,13,14,15,16,17]] [[],[],[],[],[],[],[],[],[],[],[],[],[],[],[],[],[],[],[]] none rfl ?_ ?_ ?_;kernel_rfl;kernel_rfl;refine zS ?_;refine dcE (λ_ _=>zw (hv:=hr2)) (k:=?_);refine zS ?_;refine dcE (λ_ _=>zw (hv:=hr1)) (k:=?_);refine dcE (λ_ _=>zZ (hr:=hui)) (k:=?_);try refine z5 (h:=?_))
  refine z7 (R:=λ_=>LitOf 5 [v8 (UInt8.ofNat i)]) (λ_ _ _=>rfl) (λρ hρ=>OpT.mono zt λv L' h=>?_) (h:=?_)
  · obtain ⟨b,rfl,rfl⟩:=h
    exact ⟨[_],rfl,b,rfl,rfl⟩
  (skip;refine zU ?_;refine zU ?_;refine zS ?_;refine dcE (λ_ _=>zw (hv:=hr1)) (k:=?_);refine zU ?_;try refine z5 (h:=?_))
  refine z7 (R:=λ_=>RowOf 5 (gL i) ((fixB (gL i) sh).map v8)) (λ_ _ _=>rfl) (λρ hρ=>zn (f:=22) (hc:=λw' X hk hh=>hbs w' _ _ (zu hh (by exact Has.append Has.go)))) (h:=?_)
  (skip;refine zS ?_;refine dcE (λ_ _=>zw (hv:=hr1)) (k:=?_);refine zS ?_;refine dcE (λ_ _=>zw (hv:=hr3)) (k:=?_);try refine z5 (h:=?_))
  refine z7 (R:=λ_=>RowOf 5 (gL i) ((fixB (gL i) wv).map v8)) (λ_ _ _=>rfl) (λρ hρ=>zn (f:=22) (hc:=λw' X hk hh=>hbw w' hk)) (h:=?_)
  refine z7 (R:=λρ=>LitOf 22 [.slice ac n kc,(ρ 5).1,cl.val,sv.val,(ρ 11).1,(ρ 16).1]) (λρ ρ' h=>by rw [h 5 (by decide),h 11 (by decide),h 16 (by decide)]) (λρ hρ=>?_) (h:=?_)
  · obtain ⟨⟨a16,k16,e16,f16⟩,⟨a11,k11,e11,f11⟩,⟨b5,e5,f5⟩,-⟩:=hρ
    refine OpT.mono (zt (hc:=by show [_,(ρ 5).1,_,_,(ρ 11).1,(ρ 16).1].all _=true;rw [e5,e11,e16];rfl)) λv L' h=>?_
    obtain ⟨b,rfl,rfl⟩:=h
    exact ⟨[_],rfl,b,rfl,rfl⟩
  refine zaF (h:=?_)
  rintro ρ ⟨⟨b14,e14,f14⟩,⟨aW,kW,e16,f16⟩,⟨aF,kF,e11,f11⟩,⟨b5,e5,f5⟩,-⟩
  rw [e5,e11,e16] at f14
  rw [e11] at f11
  rw [e16] at f16
  obtain ⟨qs,hqs⟩: ∃qs:List Bs,qs= [⟨ac,n,kc,ctx⟩,⟨some ⟨b5,0,none⟩,1,1,[UInt8.ofNat i]⟩,cl,sv,⟨aF,gL i,kF,fixB (gL i) sh⟩,⟨aW,gL i,kW,fixB (gL i) wv⟩]:=⟨_,rfl⟩
  (refine zah [[],[0],[],[2],[2,3],[2,3,4],[],[],[],[8],[],[8,9,10],[],[12],[],[14],[8,9,10,11,12,13,14,15],[0,1,2,3,4,5,6,7,8,9,10,11,12,13,14,15,16],[0,1,2,3,4,5,6,7,8,9,10,11,12,13,14,15,16,17]] ?_ ?_;kernel_rfl)
  refine SyL.weaken (fr':=[(97,.slice (some ⟨b14,0,none⟩) 6 6),(13,.slice none 0 0),(4,.pointer (some ⟨b4,0,none⟩)),(2,.pointer (some ⟨b2,0,none⟩))])
    (L':=[.blk b14 22 (qs.map Bs.val),.blk b5 5 [v8 (UInt8.ofNat i)],.row (.slice aF (gL i) kF) 5 1 (gL i) ((fixB (gL i) sh).map v8),.row (.slice aW (gL i) kW) 5 1 (gL i) ((fixB (gL i) wv).map v8),.blk b4 32 rxZ,.blk b2 32 rB]) ?_ ?_ ?_
  rotate_left
  · (repeat' (first|exact Sub.nil|refine Sub.cons rfl ?_ ?_|rfl))
    exact e14
  · show SubR _ ((ρ 17).2 ++ ((ρ 16).2 ++ ((ρ 11).2 ++ ((ρ 5).2 ++ _))))
    rw [f14,f16,f11,f5,hqs]
    exact SubR.go2
  have hqok: ∀ {L w'},Keep No w w'->Holds w.heap.size No L w'->Has L (.blk b5 5 [v8 (UInt8.ofNat i)])->Has L (.row (.slice aF (gL i) kF) 5 1 (gL i) ((fixB (gL i) sh).map v8))->Has L (.row (.slice aW (gL i) kW) 5 1 (gL i) ((fixB (gL i) wv).map v8))-> ∀q∈qs,q.ok w'/\q.n<=10000:=λ{L w'} hk hh k5 kF' kW' q hq=>by
    rw [hqs] at hq
    simp only [List.mem_cons,List.not_mem_nil,or_false] at hq
    rcases hq with rfl|rfl|rfl|rfl|rfl|rfl
    · exact ⟨hc.keep hk,by show n<=10000;omega⟩
    · exact ⟨⟨rfl,Nat.le_refl _,.inr ⟨b5,0,rfl,zx (hh.has k5) Seg.all⟩,λh=>by cases h⟩,by show 1<=10000;decide⟩
    · exact ⟨hclo.1.keep hk,hclo.2⟩
    · exact ⟨hsvo.1.keep hk,hsvo.2⟩
    · exact ⟨⟨ls,Row.cap hh kF',zu hh kF',Row.none hh kF'⟩,by show gL i<=10000;omega⟩
    · exact ⟨⟨lw,Row.cap hh kW',zu hh kW',Row.none hh kW'⟩,by show gL i<=10000;omega⟩
  have hql: ∀q∈qs,q.l.length=q.n/\q.n<=10000:=λq hq=>by
    rw [hqs] at hq
    simp only [List.mem_cons,List.not_mem_nil,or_false] at hq
    rcases hq with rfl|rfl|rfl|rfl|rfl|rfl
    · exact ⟨hc.len,by show n<=10000;omega⟩
    · exact ⟨rfl,by show 1<=10000;decide⟩
    · exact ⟨hclo.1.len,hclo.2⟩
    · exact ⟨hsvo.1.len,hsvo.2⟩
    · exact ⟨ls,by show gL i<=10000;omega⟩
    · exact ⟨lw,by show gL i<=10000;omega⟩
  obtain ⟨FT,hFT⟩: ∃FT:Nat->List UInt8,FT=λk=>(qs.take k).flatMap λq=>pkFr q.l:=⟨_,rfl⟩
  have hcat:Sh.sum (FT 6)=pkD i ctx s own lp (fixB (gL i) sh) (fixB (gL i) wv):=by
    rw [hFT,hqs,hcl,hsv];cases s <;> (unfold pkD pkDig;simp [List.flatMap_cons])
  have hqlen:qs.length=6:=by rw [hqs];rfl
  have hF0:FT 0= []:=by rw [hFT];rfl
  have hFs: ∀k (hk:k < qs.length),FT (k+1)=FT k ++ pkFr qs[k].l:=λk hk=>by
    rw [hFT];show (qs.take (k+1)).flatMap _=_
    rw [List.take_succ_eq_append_getElem hk,List.flatMap_append];simp
  have hFl: ∀k,k<=6->(FT k).length<=k*10004:=by
    intro k
    induction k with
    |zero=>intro _;rw [hF0];exact Nat.zero_le _
    |succ k ih=>
      intro hk
      have h1:=ih (by omega)
      obtain ⟨h2,h3⟩:=hql qs[k] (List.getElem_mem (by omega))
      rw [hFs k (by omega),List.length_append]
      unfold pkFr
      rw [List.length_append,zcr];omega
  clear hqs hcl hsv hFT e14 f14 e16 f16 e11 f11 e5 f5 hbs hbw hclo hsvo
  refine zjO (zaV 5 1) ?_
  repeat' (first|refine s_t ?_|(refine za (id:=14) ?_;refine zd ?_)|(refine zC ?_;first|refine zd ?_|fail)|fail)
  refine zF (γ:=Nat×Option Addr×Nat) (λg=>[(15,.int .i64 (g.1:Int)),(14,.slice (some ⟨b14,0,none⟩) 6 6),(13,.slice g.2.1 (FT g.1).length g.2.2),(4,.pointer (some ⟨b4,0,none⟩)),(2,.pointer (some ⟨b2,0,none⟩))])
    (λg=>[.row (.slice g.2.1 (FT g.1).length g.2.2) 5 1 (FT g.1).length ((FT g.1).map v8),.blk b14 22 (qs.map Bs.val),.blk b5 5 [v8 (UInt8.ofNat i)],.row (.slice aF (gL i) kF) 5 1 (gL i) ((fixB (gL i) sh).map v8),.row (.slice aW (gL i) kW) 5 1 (gL i) ((fixB (gL i) wv).map v8),.blk b4 32 rxZ,.blk b2 32 rB])
    (λg=>g.1<=6) (λg=>6 - g.1) (0,none,0) (Nat.zero_le _) ?_ ?_ ?_
  · dsimp only
    rw [hF0]
    exact Sub.go
  · dsimp only
    rw [hF0]
    exact SubR.go2
  rintro ⟨k,ab,cb⟩ hk
  dsimp only at hk ⊢
  rcases Nat.lt_or_ge k 6 with hlt6|hge6
  · obtain ⟨l1,l2⟩:=hql qs[k] (List.getElem_mem (by omega))
    have hcell:(qs.map Bs.val)[0+k]?=some qs[k].val:=by rw [Nat.zero_add,List.getElem?_map,List.getElem?_eq_getElem (by omega)];rfl
    have hqk:=λ{L w'} (hk':Keep No w w') (hh:Holds w.heap.size No L w') k5 kF' kW'=>hqok hk' hh k5 kF' kW' qs[k] (List.getElem_mem (by omega))
    have hF:=hFs k (by omega)
    have hL:=hFl k hk
    have hlt:decide ((k:Int) < ((6:Nat):Int))=true:=decide_eq_true (by omega)
    have g5:IntKind.i64.wrap ((k:Int)+1)=((k+1:Nat):Int):=by rw [IntWalk.i64_in _ (by omega)];omega
    generalize qs[k]=q at *
    obtain ⟨qa,qn,qc,ql⟩:=q
    simp only [Bs.val] at hcell
    dsimp only at l1 l2 hF
    have hkm:(FT k).length+(4+qn)=(FT (k+1)).length:=by rw [hF,List.length_append];unfold pkFr;rw [List.length_append,zcr];omega
    have hys:(FT k).map v8 ++ (pkFr ql).map v8=(FT (k+1)).map v8:=by rw [hF,List.map_append]
    have hfl:(pkFr ql).length=4+qn:=by unfold pkFr;rw [List.length_append,zcr];omega
    repeat' (first|refine s_t ?_|(refine za (id:=15) ?_;refine zb ?_;refine zb ?_;refine zq ?_;refine yv (zR (hr:=hlt)) (k:=?_))|(refine za (id:=17) ?_;refine zb ?_;refine zb ?_;refine zb ?_;refine yv (zaw (j:=k)) (k:=?_);refine yv (zw (hv:=hcell)) (k:=?_);(refine ys (zn (f:=52) (hc:=λw' X hk hh=>zmi qa qn qc ql w' l1 (by omega) (hqk hk hh (by exact Has.append Has.go) (by exact Has.append Has.go) (by exact Has.append Has.go)).1.sla (hqk hk hh (by exact Has.append Has.go) (by exact Has.append Has.go) (by exact Has.append Has.go)).1.nil)) (k:=?_);rintro _ _ ⟨R,rfl,aR,kR,rfl,rfl⟩;refine zjB (λw' hh=>Row.none hh (a:=aR) (n:=4+qn) (c:=kR) Has.here) λhnR=>?_);(refine ys (zai (k:=(FT k).length) (m:=4+qn) (hn:=by rw [List.length_map,hfl,Nat.mul_one]) (hkm:=hkm) (hys:=hys)) (k:=?_);rintro _ _ ⟨rfl,aT,kT,rfl⟩);refine zd ?_)|(refine za (id:=16) ?_;refine zb ?_;refine yv (zM (hr:=g5)) (k:=?_);refine zd ?_)|fail)
    refine zy (k+1,aT,kT) hlt6 ?_ ?_ ?_
    · show 6 - (k+1) < 6 - k;omega
    · exact Sub.go
    · exact SubR.go2
  obtain rfl:k=6:=by omega
  have hlt:decide (((6:Nat):Int) < ((6:Nat):Int))=false:=rfl
  have hL:=hFl 6 (Nat.le_refl _)
  have hsum:=λw' (hk:Keep No w w') (h1:SlA w' ab ((FT 6).map v8)) (h2:ab=none->cb=0)=>zeb ab (FT 6).length cb kb kt kk (FT 6) w' rfl (by omega) h1 h2 (hR.no hk).cell (hR.no hk).row
  rw [hcat] at hsum
  have hDl:=zhF i ctx s own lp (fixB (gL i) sh) (fixB (gL i) wv)
  generalize pkD i ctx s own lp (fixB (gL i) sh) (fixB (gL i) wv)=D at *
  repeat' (first|refine s_0 ?_|(refine za (id:=15) ?_;refine zb ?_;refine zb ?_;refine zq ?_;refine yv (zR (hr:=hlt)) (k:=?_))|(refine za (id:=18) ?_;refine zb ?_;refine yv (zf (f:=53) (hc:=λw' X hk hh=>hsum w' hk (zu hh (by exact Has.append Has.go)) (Row.none hh (by exact Has.append Has.go)))) (k:=?_);(refine zj ?_;intro _);refine zz ?_)|fail)
  rename_i b16
  subst hrB
  repeat' (first|refine s_0 ?_|(refine za (id:=19) ?_;refine zao ?_;refine zm ?_;refine yn (zbJ (hC:=zp4)) (k:=?_))|(refine za (id:=20) ?_;refine yv (zg (B:=rxV (sideI s) (i:Int) (.slice ac n kc) (.slice aw (nd 65536 wv) kw) (.slice ax (nd 65536 x) kx) (.slice ao no ko) (.slice (some ⟨b16,0,none⟩) 32 32))) (k:=?_);refine yn (zO (B:=rxV (sideI s) (i:Int) (.slice ac n kc) (.slice aw (nd 65536 wv) kw) (.slice ax (nd 65536 x) kx) (.slice ao no ko) (.slice (some ⟨b16,0,none⟩) 32 32)) (C:=rxZ)) (k:=?_);refine zd ?_)|fail)
  exact ret2 rfl (resCells (b:=b4) (B:=rxV (sideI s) (i:Int) (.slice ac n kc) (.slice aw (nd 65536 wv) kw) (.slice ax (nd 65536 x) kx) (.slice ao no ko) (.slice (some ⟨b16,0,none⟩) 32 32)) rfl (ty rfl) rfl Has.go Seg.all rfl) (resTmp rfl) (by exact SubR.go2) ⟨b16,rfl,rfl⟩
end Go.Proofs.YtcpjfilcilcekaaGreatDoor
end
