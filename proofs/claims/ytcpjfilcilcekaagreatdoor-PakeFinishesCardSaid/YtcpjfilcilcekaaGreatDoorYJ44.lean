/- The laws of layer pake: copies, and whether an exchange agrees with the specification's. -/
import Derived.Test.YtcpjfilcilcekaaGreatDoorYJ36
import Derived.Test.YtcpjfilcilcekaaGreatDoorYJ43
set_option linter.all false
section
namespace Go.Sy
open Go
theorem SubR.one {r:Res}{L:List Res}(h:Has L r):SubR [r] L:=by
 obtain ⟨A,B,e⟩:=List.append_of_mem h.mem
 exact ⟨A ++ B,by rw [e];exact List.perm_middle⟩
end Go.Sy
namespace Go.Proofs.YtcpjfilcilcekaaGreatDoor
open Go Go.Sy Go.Sh Go.Nt Go.RowKit
theorem zoj {i:Nat}{sx:Bs}{d:Bool}{G:List Value}{s:Bool}{x wv:Nat}{so:Bs}(sx':Bs):SetAt (pkC i sx d G s x wv so) 1 sx'.val (pkC i sx' d G s x wv so):=by
 unfold pkC;exact SetAt.there SetAt.here
attribute [local irreducible] Sy SyL SyX Sy.Fn callFunc natC rowN refC iC gP gQ gL memB safeC fixB Sh.sum HashIs pkPt pkH pkQ firstN dblock hmac pkW pkX pkOwn pkDer pkSh pkD pkC pkName pkKey
set_option maxRecDepth 10000
theorem zom (bx i:Nat) (ac ao:Option Addr) (n kc no ko:Nat) (ctx own:List UInt8) (d:Bool) (G:List Value) (s:Bool) (x wv:Nat) (w:World) (hGl:G.length=32) (h1:G.all (·.oneCell')=true) (hX:XIs bx i ⟨ac,n,kc,ctx⟩ d G s x wv ⟨ao,no,ko,own⟩ w)
  (hc1:ctx.length=n) (hc2:n < 1000000) (hc3:SlA w ac (ctx.map v8)) (hc4:ac=none->kc=0/\n=0) (ho1:own.length=no) (ho2:no < 1000000) (ho3:SlA w ao (own.map v8)) (ho4:ao=none->ko=0/\no=0):
  Sy.Fn Tryz.prog 18 [.pointer (some ⟨bx,0,none⟩)] w No (λv R=>∃b a k a' k',v= .pointer (some ⟨b,0,none⟩)/\R= [.blk b 75 (pkC i ⟨a,n,k,ctx⟩ d G s x wv ⟨a',no,k',own⟩),.row (.slice a n k) 5 1 n (ctx.map v8),.row (.slice a' no k') 5 1 no (own.map v8)]):=by
 refine zk Tryz.func18 rfl Tryz.ntmps18 (by simp) Holds.nil ?_
 have hex:=λw' (hk:Keep No w w')=>zcg bx (sideI s) w' (zcG s) ((hX.to hk).c35 hGl)
 have hrg:w.rangeAt bx 0 (pkC i ⟨ac,n,kc,ctx⟩ d G s x wv ⟨ao,no,ko,own⟩):=zz hX Seg.all
 have hl:=zhD (i:=i) (sx:=⟨ac,n,kc,ctx⟩) (d:=d) (s:=s) (x:=x) (wv:=wv) (so:=⟨ao,no,ko,own⟩) hGl
 have hone:(pkC i ⟨ac,n,kc,ctx⟩ d G s x wv ⟨ao,no,ko,own⟩).all (·.oneCell')=true:=by
  unfold pkC
  simp only [List.all_cons,List.all_append,List.all_nil,Bs.val,h1,zbX,Bool.and_true,Bool.true_and]
  cases s <;> rfl
 have hk1:=λw' (hk:Keep No w w')=>zem ac n kc ctx w' hc1 (by omega) ((SlF.of hc3).to (Mi:=No) hk (λ_ h=> .inr h)).sla hc4
 have hk2:=λw' (hk:Keep No w w')=>zem ao no ko own w' ho1 (by omega) ((SlF.of ho3).to (Mi:=No) hk (λ_ h=> .inr h)).sla ho4
 have hp1:=λa k=>zoj (i:=i) (sx:=⟨ac,n,kc,ctx⟩) (d:=d) (G:=G) (s:=s) (x:=x) (wv:=wv) (so:=⟨ao,no,ko,own⟩) ⟨a,n,k,ctx⟩
 have hp2:=λa k a' k'=>zir (i:=i) (sx:=⟨a,n,k,ctx⟩) (d:=d) (G:=G) (s:=s) (x:=x) (wv:=wv) (so:=⟨ao,no,ko,own⟩) ⟨a',no,k',own⟩ hGl
 have hv1:w.cell? ⟨bx,1,none⟩=some (.slice ac n kc):=by rw [Sy.blk_cell hX];exact zro
 have hv2:w.cell? ⟨bx,68,none⟩=some (.slice ao no ko):=hX.c68 hGl
 repeat' (first|refine s_0 ?_|(refine za (id:=0) ?_;refine zd ?_)|(refine za (id:=1) ?_;refine zb ?_;refine yv (zf (f:=46) (hc:=λw' X hk hh=>hex w' hk)) (k:=?_);refine zV ?_)|(refine za (id:=3) ?_;refine zb ?_;refine zA ?_;refine yv (zaL (hv:=hrg) (hz:=hl.symm)) (k:=?_);(refine zi ?_;intro _);refine yn (zM (B:=pkC i ⟨ac,n,kc,ctx⟩ d G s x wv ⟨ao,no,ko,own⟩) (h1:=hl.symm) (hv:=hone) (hC:=by rw [hl];rfl)) (k:=?_))|fail)
 rename_i b3
 repeat' (first|refine s_0 ?_|(refine za (id:=4) ?_;refine zb ?_;refine zA ?_;refine zm ?_;refine zm ?_;refine yv (zx (hv:=hv1)) (k:=?_);(refine ys (zn (f:=30) (hc:=λw' X hk hh=>hk1 w' hk)) (k:=?_);rintro _ _ ⟨R,rfl,a1,k1,rfl,rfl⟩);refine zm ?_;refine zm ?_;refine yn (za5 (v:=.slice a1 n k1) (hC:=hp1 a1 k1)) (k:=?_))|fail)
 repeat' (first|refine s_0 ?_|(refine za (id:=5) ?_;refine zb ?_;refine zA ?_;refine zm ?_;refine yv (zx (hv:=hv2)) (k:=?_);(refine ys (zn (f:=30) (hc:=λw' X hk hh=>hk2 w' hk)) (k:=?_);rintro _ _ ⟨R,rfl,a2,k2,rfl,rfl⟩);refine zm ?_;refine yn (za5 (v:=.slice a2 no k2) (hC:=hp2 a1 k1 a2 k2)) (k:=?_))|(refine za (id:=6) ?_;refine zd ?_)|fail)
 exact ret1 rfl (resTmp rfl) (by exact SubR.go2) ⟨b3,a1,k1,a2,k2,rfl,rfl⟩
theorem zma (bx i:Nat) (sx so:Bs) (G:List Value) (s:Bool) (x wv:Nat) (v z:Int) (s1 s2 s3 s4 p:Value) (ah:Option Addr) (kh:Nat) (w:World) (hGl:G.length=32) (hX:XIs bx i sx false G s x wv so w):
  Sy.Fn Tryz.prog 16 [.pointer (some ⟨bx,0,none⟩),.agg (rxV v z s1 s2 s3 s4 (.slice ah 0 kh)).toArray,p] w No (Gives (.bool true)):=by
 refine zk Tryz.func16 rfl Tryz.ntmps16 (by simp) Holds.nil ?_
 have hk:=λw' (hk:Keep No w w')=>zjV (some ⟨bx,0,none⟩) 8 w' (by decide) (zeq bx s w' ((hX.to hk).c35 hGl) (hX.to hk).c2)
 have hc:=λw' (hk:Keep No w w')=>zjl (some ⟨bx,0,none⟩) 8 w' (by decide) (zeq bx s w' ((hX.to hk).c35 hGl) (hX.to hk).c2)
 have hv:=λw' (hk:Keep No w w')=>zkp (some ⟨bx,0,none⟩) 8 p w' (by decide) (zeq bx s w' ((hX.to hk).c35 hGl) (hX.to hk).c2)
 repeat' (first|refine s_0 ?_|(refine za (id:=0) ?_;(refine zi ?_;intro _);refine zd ?_)|(refine za (id:=1) ?_;refine zb ?_;refine yv (zf (f:=25) (hc:=λw' X hk' hh=>hk w' hk')) (k:=?_);refine zb ?_;refine zh ?_;refine zh ?_;refine zd ?_;refine zd ?_)|(refine za (id:=2) ?_;refine zb ?_;refine yv (zf (f:=26) (hc:=λw' X hk hh=>hc w' hk)) (k:=?_);refine zb ?_;refine zh ?_;refine zh ?_;refine zd ?_;refine zd ?_)|(refine za (id:=3) ?_;refine zb ?_;refine zb ?_;refine yv (zf (f:=27) (hc:=λw' X hk hh=>hv w' hk)) (k:=?_);refine zd ?_)|(refine za (id:=4) ?_;refine zm ?_;refine zD ?_;refine zq ?_;refine zX ?_)|(refine za (id:=5) ?_;refine zb ?_;refine zq ?_;refine zb ?_;refine zq ?_;refine zY ?_;refine zX ?_;refine zb ?_;refine zb ?_;refine zX ?_;refine zo ?_;refine zb ?_;refine zb ?_;refine zX ?_;refine zo ?_;refine zb ?_;refine zb ?_;refine zX ?_;refine zo ?_;refine zd ?_)|fail)
 exact ret1 rfl (resTmp rfl) SubR.nil ⟨rfl,rfl⟩
set_option maxHeartbeats 2000000 in
theorem zmp (bx i:Nat) (sx so:Bs) (D:List UInt8) (s:Bool) (x wv:Nat) (z:Int) (s1 s2 s3 s4:Value) (ah ak:Option Addr) (kh m ck kb kt kk:Nat) (l:List UInt8) (w:World) (hD:D.length=32) (hT:Tab w No) (hR:RTab w No kb kt kk)
  (hX:XIs bx i sx true (D.map v8) s x wv so w) (hkh:32<=kh) (hsh:SlA w ah (D.map v8)) (hm:l.length=m) (hm2:m < 1000000) (hsk:SlA w ak (l.map v8)):
  Sy.Fn Tryz.prog 16 [.pointer (some ⟨bx,0,none⟩),.agg (rxV (sideI s) z s1 s2 s3 s4 (.slice ah 32 kh)).toArray,.slice ak m ck] w No (Gives (.bool true)):=by
 refine zk Tryz.func16 rfl Tryz.ntmps16 (by simp) Holds.nil ?_
 have n33:=λz w'=>zgE z w'
 have hDm:(D.map v8).length=32:=by rw [List.length_map,hD]
 have hk:=λw' (hk:Keep No w w')=>zk2 bx (sideI s) D w' (zcG s) ((hX.to hk).c35 hDm) (hX.to hk).c2 (hX.to hk).r3 hD (hT.no hk)
 have hc:=λw' (hk:Keep No w w')=>zgk bx s D w' ((hX.to hk).c35 hDm) (hX.to hk).c2 (hX.to hk).r3 hD (hT.no hk)
 have hv:=λw' (hk:Keep No w w')=>zhe bx s D ak m ck l w' ((hX.to hk).c35 hDm) (hX.to hk).c2 (hX.to hk).r3 hD (hT.no hk) hm (by omega) ((SlF.of hsk).to (Mi:=No) hk (λ_ h=> .inr h)).sla
 have hder:=λlab (hl:lab.length<=4096) w' (hk:Keep No w w')=>zgu (sideI s) z s1 s2 s3 s4 ah kh kb kt kk D lab w' hD hkh ((SlF.of hsh).to (Mi:=No) hk (λ_ h=> .inr h)).sla hl (hR.no hk)
 have hd1:=hder pkKey (by unfold pkKey;decide)
 have hd2:=hder (pkName s) (zcH s)
 have hd3:=hder (pkName (!s)) (zcH (!s))
 clear hder
 rw [show (str pkKey)=str [107,101,121] by unfold pkKey;rfl] at hd1
 have hn1:=λw'=>zgJ s w'
 have hn2:=λw'=>zgJ (!s) w'
 have hsub:IntKind.i64.wrap (3 - sideI s)=sideI (!s):=by cases s <;> rfl
 have l1:=zdO D pkKey
 have l2:=zdO D (pkName s)
 have l3:=zdO D (pkName (!s))
 generalize pkDer D pkKey=K1 at *
 generalize pkDer D (pkName s)=K2 at *
 generalize pkDer D (pkName (!s))=K3 at *
 generalize pkName s=N1 at *
 generalize pkName (!s)=N2 at *
 generalize sideI (!s)=o at *
 generalize hrB:rxV (sideI s) z s1 s2 s3 s4 (.slice ah 32 kh)=rB at *
 have hr0:rB[0]?=some (.int .i64 (sideI s)):=by rw [<-hrB];rfl
 have hr6:rB[6]?=some (.slice ah 32 kh):=by rw [<-hrB];rfl
 have hrl:rB.length=7:=by rw [<-hrB];rfl
 clear hrB
 obtain ⟨e,he⟩: ∃e:Int,e=if K3=l then 0 else 10:=⟨_,rfl⟩
 rw [<-he] at hv
 generalize sideI s=u at *
 repeat' (first|refine s_0 ?_|(refine za (id:=0) ?_;(refine zi ?_;intro _);refine zd ?_)|(refine za (id:=1) ?_;refine zb ?_;(refine ys (zn (f:=25) (hc:=λw' X hk' hh=>hk w' hk')) (k:=?_);rintro _ _ ⟨R,rfl,a1,c1,rfl,rfl⟩);refine zb ?_;refine zh ?_;refine zh ?_;refine zd ?_;refine zd ?_)|(refine za (id:=2) ?_;refine zb ?_;(refine ys (zn (f:=26) (hc:=λw' X hk hh=>hc w' hk)) (k:=?_);rintro _ _ ⟨R,rfl,a2,c2,rfl,rfl⟩);refine zb ?_;refine zh ?_;refine zh ?_;refine zd ?_;refine zd ?_)|(refine za (id:=3) ?_;refine zb ?_;refine zb ?_;refine yv (zf (f:=27) (hc:=λw' X hk hh=>hv w' hk)) (k:=?_);refine zd ?_)|(refine za (id:=4) ?_;refine zm ?_;refine yv (zw (hv:=hr6)) (k:=?_);refine zq ?_;refine zX ?_)|fail)
 rename_i b4
 refine zah (id:=6) mixed ?_
 (refine zab 6 6 [[],[0],[],[2],[2,3],[0,1,2,3,4],[0,1,2,3,4,5],[0,1,2,3,4,5,6],[0,1,2,3,4,5,6,7],[0,1,2,3,4,5,6],[0,1,2,3,4,5,6],[0,1,2,3,4,5,6,10],[0,1,2,3,4,5,6,10,11],[0,1,2,3,4,5,6,9,10,11,12],[0,1,2,3,4,5,6,9,10,11,12,13],[0,1,2,3,4,5,6,7,8,9,10,11,12,13,14],[0,1,2,3,4,5,6,7,8,9,10,11,12,13,14,15],[0,1,2,3,4,5,6,7,8,9,10,11,12,13,14,15,16],[0,1,2,3,4,5,6,7,8,9,10,11,12,13,14,15,16,17],[0,1,2,3,4,5,6,7,8,9,10,11,12,13,14,15,16,17,18],[0,1,2,3,4,5,6,7,8,9,10,11,12,13,14,15,16,17],[0,1,2,3,4,5,6,7,8,9,10,11,12,13,14,15,16,17,18,19,20],[0,1,2,3,4,5,6,7,8,9,10,11,12,13,14,15,16,17,18,19,20,21],[0,1,2,3,4,5,6,7,8,9,10,11,12,13,14,15,16,17,18,19,20,21,22],[0,1,2,3,4,5,6,7,8,9,10,11,12,13,14,15,16,17,18,19,20,21,22,23]] [[],[],[],[],[],[],[],[],[],[],[],[],[],[],[],[],[],[],[],[],[],[],[],[],[]] none rfl ?_ ?_ ?_;kernel_rfl;kernel_rfl;refine zS ?_;refine dcE (λ_ _=>zb4 (l:=K1) (hr:=Rd.row Has.go) (hn:=l1)) (k:=?_);refine dcE (λ_ _=>zg (B:=rB) (hz:=hrl.symm)) (k:=?_);try refine z5 (h:=?_))
 refine z7 (R:=λ_=>RowOf 5 32 (K1.map v8)) (λ_ _ _=>rfl) (λρ hρ=>zn (f:=17) (hc:=λw' X hk hh=>hd1 w' hk)) (h:=?_)
 refine dcE (u:=.string (str K1)) (λρ hρ=>zfH (v:=(ρ 3).1) (Nw:=(ρ 3).2) hρ.1 l1 (λr hr=>Has.append hr)) (k:=?_)
 (skip;refine dcE (λ_ _=>zdd (hr:=decide_eq_false (λh=>h rfl))) (k:=?_);try refine z5 (h:=?_))
 refine zaE (h:=?_)
 rintro ρ1 -
 (refine zab 11 17 [[],[0],[],[2],[2,3],[0,1,2,3,4],[0,1,2,3,4,5],[0,1,2,3,4,5,6],[0,1,2,3,4,5,6,7],[0,1,2,3,4,5,6],[0,1,2,3,4,5,6],[0,1,2,3,4,5,6,10],[0,1,2,3,4,5,6,10,11],[0,1,2,3,4,5,6,9,10,11,12],[0,1,2,3,4,5,6,9,10,11,12,13],[0,1,2,3,4,5,6,7,8,9,10,11,12,13,14],[0,1,2,3,4,5,6,7,8,9,10,11,12,13,14,15],[0,1,2,3,4,5,6,7,8,9,10,11,12,13,14,15,16],[0,1,2,3,4,5,6,7,8,9,10,11,12,13,14,15,16,17],[0,1,2,3,4,5,6,7,8,9,10,11,12,13,14,15,16,17,18],[0,1,2,3,4,5,6,7,8,9,10,11,12,13,14,15,16,17],[0,1,2,3,4,5,6,7,8,9,10,11,12,13,14,15,16,17,18,19,20],[0,1,2,3,4,5,6,7,8,9,10,11,12,13,14,15,16,17,18,19,20,21],[0,1,2,3,4,5,6,7,8,9,10,11,12,13,14,15,16,17,18,19,20,21,22],[0,1,2,3,4,5,6,7,8,9,10,11,12,13,14,15,16,17,18,19,20,21,22,23]] [[],[],[],[],[],[],[],[],[],[],[],[],[],[],[],[],[],[],[],[],[],[],[],[],[]] none rfl ?_ ?_ ?_;kernel_rfl;kernel_rfl;refine zS ?_;refine zS ?_;refine dcE (λ_ _=>zb4 (l:=K2) (hr:=Rd.row (Has.appR Has.go)) (hn:=l2)) (k:=?_);refine dcE (λ_ _=>zg (B:=rB) (hz:=hrl.symm) (hL:=Has.appR Has.go)) (k:=?_);refine zT ?_;refine dcE (λ_ _=>zw (hv:=hr0) (hL:=Has.appR Has.go)) (k:=?_);refine dcE (λ_ _=>zf (hc:=λ_ _ _ _=>(hn1 _))) (k:=?_);try refine z5 (h:=?_))
 refine z7 (R:=λ_=>RowOf 5 32 (K2.map v8)) (λ_ _ _=>rfl) (λρ hρ=>zn (f:=17) (hc:=λw' X hk hh=>hd2 w' hk)) (h:=?_)
 refine dcE (u:=.string (str K2)) (λρ hρ=>zfH (v:=(ρ 13).1) (Nw:=(ρ 13).2) hρ.1 l2 (λr hr=>Has.append hr)) (k:=?_)
 (skip;refine dcE (λ_ _=>zdd (hr:=decide_eq_false (λh=>h rfl))) (k:=?_);refine zqZ ?_;try refine z5 (h:=?_))
 refine zaE (h:=?_)
 rintro ρ2 -
 (refine zab 7 24 [[],[0],[],[2],[2,3],[0,1,2,3,4],[0,1,2,3,4,5],[0,1,2,3,4,5,6],[0,1,2,3,4,5,6,7],[0,1,2,3,4,5,6],[0,1,2,3,4,5,6],[0,1,2,3,4,5,6,10],[0,1,2,3,4,5,6,10,11],[0,1,2,3,4,5,6,9,10,11,12],[0,1,2,3,4,5,6,9,10,11,12,13],[0,1,2,3,4,5,6,7,8,9,10,11,12,13,14],[0,1,2,3,4,5,6,7,8,9,10,11,12,13,14,15],[0,1,2,3,4,5,6,7,8,9,10,11,12,13,14,15,16],[0,1,2,3,4,5,6,7,8,9,10,11,12,13,14,15,16,17],[0,1,2,3,4,5,6,7,8,9,10,11,12,13,14,15,16,17,18],[0,1,2,3,4,5,6,7,8,9,10,11,12,13,14,15,16,17],[0,1,2,3,4,5,6,7,8,9,10,11,12,13,14,15,16,17,18,19,20],[0,1,2,3,4,5,6,7,8,9,10,11,12,13,14,15,16,17,18,19,20,21],[0,1,2,3,4,5,6,7,8,9,10,11,12,13,14,15,16,17,18,19,20,21,22],[0,1,2,3,4,5,6,7,8,9,10,11,12,13,14,15,16,17,18,19,20,21,22,23]] [[],[],[],[],[],[],[],[],[],[],[],[],[],[],[],[],[],[],[],[],[],[],[],[],[]] none rfl ?_ ?_ ?_;kernel_rfl;kernel_rfl;refine zS ?_;refine zS ?_;refine dcE (λ_ _=>zf (hc:=λ_ _ _ _=>(n33 _ _))) (k:=?_);refine zS ?_;refine dcE (λ_ _=>zf (hc:=λ_ _ _ _=>(n33 _ _))) (k:=?_);refine zrv ?_;refine zrx ?_;try refine z5 (h:=?_))
 (refine zag [[],[0],[],[2],[2,3],[0,1,2,3,4],[0,1,2,3,4,5],[0,1,2,3,4,5,6],[0,1,2,3,4,5,6,7],[0,1,2,3,4,5,6],[0,1,2,3,4,5,6],[0,1,2,3,4,5,6,10],[0,1,2,3,4,5,6,10,11],[0,1,2,3,4,5,6,9,10,11,12],[0,1,2,3,4,5,6,9,10,11,12,13],[0,1,2,3,4,5,6,7,8,9,10,11,12,13,14],[0,1,2,3,4,5,6,7,8,9,10,11,12,13,14,15],[0,1,2,3,4,5,6,7,8,9,10,11,12,13,14,15,16],[0,1,2,3,4,5,6,7,8,9,10,11,12,13,14,15,16,17],[0,1,2,3,4,5,6,7,8,9,10,11,12,13,14,15,16,17,18],[0,1,2,3,4,5,6,7,8,9,10,11,12,13,14,15,16,17],[0,1,2,3,4,5,6,7,8,9,10,11,12,13,14,15,16,17,18,19,20],[0,1,2,3,4,5,6,7,8,9,10,11,12,13,14,15,16,17,18,19,20,21],[0,1,2,3,4,5,6,7,8,9,10,11,12,13,14,15,16,17,18,19,20,21,22],[0,1,2,3,4,5,6,7,8,9,10,11,12,13,14,15,16,17,18,19,20,21,22,23]] ?_ ?_;kernel_rfl)
 refine SyL.weaken (fr':=[(64,.bool false),(70,.bool false),(11,.int .i64 e),(4,.pointer (some ⟨b4,0,none⟩)),(2,.slice ak m ck)]) (L':=[.blk b4 32 rB]) ?_ (by exact Sub.go) (SubR.one (Has.appR (Has.appR Has.go)))
 repeat' (first|refine s_0 ?_|(refine zC ?_;first|refine zo ?_|fail)|fail)
 refine zah (id:=8) mixed ?_
 (refine zab 9 9 [[],[0],[],[],[3],[3,4],[3,4,5],[2,3,4,5,6],[2,3,4,5,6,7],[0,1,2,3,4,5,6,7,8]] [[],[],[],[],[],[],[],[],[],[]] none rfl ?_ ?_ ?_;kernel_rfl;kernel_rfl;refine zS ?_;refine dcE (λ_ _=>zb4 (l:=l) (hr:=Rd.old hsk (λ_ _ h=>h)) (hn:=hm)) (k:=?_);refine dcE (λ_ _=>zg (B:=rB) (hz:=hrl.symm)) (k:=?_);refine zT ?_;refine dcE (λ_ _=>zw (hv:=hr0)) (k:=?_);refine dcE (λ_ _=>zJ (hr:=hsub)) (k:=?_);refine dcE (λ_ _=>zf (hc:=λ_ _ _ _=>(hn2 _))) (k:=?_);try refine z5 (h:=?_))
 refine z7 (R:=λ_=>RowOf 5 32 (K3.map v8)) (λ_ _ _=>rfl) (λρ hρ=>zn (f:=17) (hc:=λw' X hk hh=>hd3 w' hk)) (h:=?_)
 refine dcE (u:=.string (str K3)) (λρ hρ=>zfH (v:=(ρ 7).1) (Nw:=(ρ 7).2) hρ.1 l3 (λr hr=>Has.append hr)) (k:=?_)
 refine zaE (h:=?_)
 rintro ρ3 -
 (refine zag [[],[0],[],[],[3],[3,4],[3,4,5],[2,3,4,5,6],[2,3,4,5,6,7],[0,1,2,3,4,5,6,7,8]] ?_ ?_;kernel_rfl)
 refine SyL.weaken (fr':=[(73,.string (str l)),(80,.string (str K3)),(11,.int .i64 e)]) (L':=[]) ?_ (by exact Sub.go) SubR.nil
 by_cases hq:K3=l
 ·rw [if_pos hq] at he
  subst he
  repeat' (first|refine s_0 ?_|(refine za (id:=9) ?_;refine zb ?_;refine yv (zf (hc:=λ_ _ _ _=>(n33 _ _))) (k:=?_);refine zX ?_;refine zd ?_)|(refine zC ?_;first|refine yv (zbW (hr:=decide_eq_true hq.symm)) (k:=?_)|fail)|fail)
  exact ret1 rfl (resTmp rfl) SubR.nil ⟨rfl,rfl⟩
 ·rw [if_neg hq] at he
  subst he
  repeat' (first|refine s_0 ?_|(refine za (id:=10) ?_;refine zb ?_;refine zX ?_;refine zd ?_)|(refine zC ?_;first|refine yv (zbW (hr:=decide_eq_false (λh=>hq h.symm))) (k:=?_)|fail)|fail)
  exact ret1 rfl (resTmp rfl) SubR.nil ⟨rfl,rfl⟩
end Go.Proofs.YtcpjfilcilcekaaGreatDoor
end
