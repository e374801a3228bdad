/- PakeFinishes: the results of an exchange with any strings as the element of the other side. -/
import Derived.Test.YtcpjfilcilcekaaGreatDoorYJ45
set_option linter.all false
section
namespace Go.Proofs.YtcpjfilcilcekaaGreatDoor
open Go Go.Sy Go.Sh Go.Nt Go.RowKit
attribute [local irreducible] Sy SyL SyX Sy.Fn callFunc natC rowN refC iC gP gQ gL memB safeC fixB Sh.sum HashIs pkPt pkH pkQ firstN dblock hmac pkW pkX pkOwn pkDer pkSh pkD pkC pkName pkKey zG stB stG pkFin HS
set_option maxRecDepth 10000
theorem zqh (i:Nat) (sx so:Bs) (s:Bool) (x wv:Nat):pkC i sx false zG s x wv so=pkC i sx (stB []) (stG []) s x wv so:=by rw [zdu.1,zdu.2]
theorem zne {w:World}{hl:List UInt8}{ah:Option Addr}{kh:Nat}(h:hl= []):HS w hl ah kh:=by unfold HS;exact λhn=>absurd h hn
theorem zki {s:Bool}{i wv x:Nat}{ctx own hl lp:List UInt8}(h:hl≠[]):pkFin s i wv x ctx own hl lp=(8,hl):=by unfold pkFin;exact if_neg h
set_option maxHeartbeats 8000000 in
theorem zhr (hkn: ∀w,GT w->Tab w No->Sy.Fn Tryz.prog 8 [] w No (Gives (.bool true))) (v z:Int) (a1 a2 a3 a5 a6:Option Addr) (n1 n2 n3 n5 n6 c1 c2 c3 c5 c6 kb kt kk:Nat) (sec ctx prv:List UInt8) (xs:List Bs) (cf:List UInt8) (w:World) (hT:Tab w No) (hG:GT w) (hR:RTab w No kb kt kk)
  (k1:(⟨a1,n1,c1,sec⟩:Bs).ok w) (k2:(⟨a2,n2,c2,ctx⟩:Bs).ok w) (k3:(⟨a3,n3,c3,prv⟩:Bs).ok w) (hn5:xs.length=n5) (hs5:SlA w a5 (xs.map Bs.val)) (hx5: ∀t∈xs,t.ok w) (k6:(⟨a6,n6,c6,cf⟩:Bs).ok w):
  Sy.Fn Tryz.prog 5 [.int .i64 v,.int .i64 z,.slice a1 n1 c1,.slice a2 n2 c2,.slice a3 n3 c3,.slice a5 n5 c5,.slice a6 n6 c6] w No (Gives (.bool true)):=by
 refine zk Tryz.func5 rfl Tryz.ntmps5 (by simp) Holds.nil ?_
 have hkn':=λw' (hk:Keep No w w')=>hkn w' (hG.to hk) (hT.no hk)
 have n33:=λz w'=>zgE z w'
 have hl1:=λw'=>zlL (.int .i64 z) a1 a2 a3 n1 n2 n3 c1 c2 c3 w'
 have hv1:=λw'=>ziy v z a1 a2 a3 n1 n2 n3 c1 c2 c3 w'
 obtain ⟨b1,e1⟩: ∃b,b=decide (300 < n1\/40 < n3\/(300 < n2/\n2<=4096)\/5000 < n2):=⟨_,rfl⟩
 obtain ⟨b3,e3⟩: ∃b,b=decide ((v=1\/v=2)/\(1<=z/\z<=4)/\1<=n1/\n1<=256/\n2<=4096/\n3=32):=⟨_,rfl⟩
 rw [<-e1] at hl1
 rw [<-e3] at hv1
 have hcase:b1=true\/(b1=false/\3 < n5)\/(b1=false/\n5<=3/\40 < n6)\/(b1=false/\n5<=3/\n6<=40/\b3=false)\/(b1=false/\n5<=3/\n6<=40/\b3=true):=by
  cases b1 <;> cases b3 <;> simp <;> omega
 by_cases hgood:b1=false/\n5<=3/\n6<=40/\b3=true
 rotate_left
 ·have hbad:b1=true\/(b1=false/\3 < n5)\/(b1=false/\n5<=3/\40 < n6)\/(b1=false/\n5<=3/\n6<=40/\b3=false):=by
   rcases hcase with h|h|h|h|h
   ·exact .inl h
   ·exact .inr (.inl h)
   ·exact .inr (.inr (.inl h))
   ·exact .inr (.inr (.inr h))
   ·exact absurd h hgood
  rcases hbad with rfl|⟨rfl,h⟩|⟨rfl,h,h'⟩|⟨rfl,h,h',rfl⟩
  all_goals repeat' (first|refine s_0 ?_|(refine za (id:=0) ?_;refine zd ?_)|(refine za (id:=1) ?_;refine zb ?_;refine zb ?_;refine zb ?_;refine zb ?_;refine yv (zf (hc:=λ_ _ _ _=>(hl1 _))) (k:=?_);refine zb ?_;(first|refine zb ?_|refine zj rfl rfl rfl ?_|fail);(first|refine zq ?_|refine zj rfl rfl rfl ?_|fail);(first|refine zaa ?_|refine zj rfl rfl rfl ?_|fail);refine zo ?_;refine zb ?_;(first|refine zb ?_|refine zj rfl rfl rfl ?_|fail);(first|refine zq ?_|refine zj rfl rfl rfl ?_|fail);(first|refine zaa ?_|refine zj rfl rfl rfl ?_|fail);refine zo ?_;refine zb ?_;(first|refine zb ?_|refine zj rfl rfl rfl ?_|fail);(first|refine zb ?_|refine zj rfl rfl rfl ?_|fail);(first|refine zb ?_|refine zj rfl rfl rfl ?_|fail);(first|refine zb ?_|refine zj rfl rfl rfl ?_|fail);(first|refine zb ?_|refine zj rfl rfl rfl ?_|fail);(first|refine yv (zf (hc:=λ_ _ _ _=>(hv1 _))) (k:=?_)|refine zj rfl rfl rfl ?_|fail);(first|refine zal ?_|refine zj rfl rfl rfl ?_|fail);refine zo ?_)|(refine za (id:=2) ?_;refine yv (zf (f:=8) (hc:=λw' X hk hh=>hkn' w' hk)) (k:=?_);refine zd ?_)|fail)
  all_goals exact ret1 rfl (resTmp rfl) SubR.nil ⟨rfl,rfl⟩
 obtain ⟨rfl,hn53,hn64,rfl⟩:=hgood
 obtain ⟨hv,hz,g1,g2,g3,rfl⟩:=of_decide_eq_true e3.symm
 obtain ⟨s,rfl⟩: ∃s,v=sideI s:=by
  rcases hv with rfl|rfl
  ·exact ⟨true,rfl⟩
  ·exact ⟨false,rfl⟩
 obtain ⟨i,rfl⟩: ∃i:Nat,z=(i:Int):=⟨z.toNat,by omega⟩
 have h0:1<=i:=by omega
 have h5:i<=4:=by omega
 have q2:ctx.length=n2:=k2.len
 have p2:SlA w a2 (ctx.map v8):=k2.sla
 have p2n:a2=none->c2=0:=k2.nil
 have q6:cf.length=n6:=k6.len
 have p6:=λw' (hk:Keep No w w')=>(k6.keep hk).sla
 have hs1:=λw' aO cO (hk:Keep No w w') (hO:(⟨aO,n2,cO,ctx⟩:Bs).ok w')=>zfU s i a1 aO a3 n1 n2 c1 cO c3 sec ctx prv w' h0 h5 (hT.no hk) (hG.to hk) (k1.keep hk) hO (k3.keep hk) (by omega) g2 g3
 have hr1:=λw' (hk:Keep No w w')=>zm2 s i a1 a2 a3 n1 n2 c1 c2 c3 kb kt kk sec ctx prv w' h0 h5 (hR.no hk) (k1.keep hk) (k2.keep hk) (k3.keep hk) (by omega) g2 g3
 unfold XRes at hs1
 unfold rxRes rxC at hr1
 simp only [zqh] at hs1
 have hgl:=(zdq i h0 h5).2
 have lo:=zbM _ _ (zfz s i (pkW i sec) (pkX i prv) h0 h5)
 have hqw:=zhl h0 h5 sec
 have hqx:=zdv h0 h5 prv
 generalize fixB (gL i) (pkOwn s i (pkW i sec) (pkX i prv))=ow at *
 generalize pkW i sec=wv at *
 generalize pkX i prv=x at *
 repeat' (first|refine s_0 ?_|(refine za (id:=0) ?_;refine zd ?_)|(refine za (id:=1) ?_;refine zb ?_;refine zb ?_;refine zb ?_;refine zb ?_;refine yv (zf (hc:=λ_ _ _ _=>(hl1 _))) (k:=?_);refine zb ?_;refine zb ?_;refine zq ?_;refine zaa ?_;refine zo ?_;refine zb ?_;refine zb ?_;refine zq ?_;refine zaa ?_;refine zo ?_;refine zb ?_;refine zb ?_;refine zb ?_;refine zb ?_;refine zb ?_;refine zb ?_;refine yv (zf (hc:=λ_ _ _ _=>(hv1 _))) (k:=?_);refine zal ?_;refine zo ?_)|fail)
 repeat' (first|refine s_0 ?_|(refine za (id:=3) ?_;(refine ys zbu (k:=?_);rintro _ _ ⟨_,rfl,rfl⟩);refine zb ?_;(refine ys (zba (k:=0) (m:=n2) (hxn:=rfl) (hn:=by rw [List.length_map,q2,Nat.mul_one])) (k:=?_);rintro _ _ ⟨rfl,aO,cO,rfl⟩);refine zd ?_)|fail)
 repeat' (first|refine s_0 ?_|(refine za (id:=4) ?_;refine zb ?_;refine zb ?_;refine zb ?_;refine zb ?_;refine zb ?_;(refine ys (zn (f:=9) (hc:=λw' X hk hh=>hs1 w' aO cO hk (zjN hh (by exact Has.append Has.go) q2))) (k:=?_);rintro _ _ ⟨R,rfl,bx,ac,ao,kc,ko,rfl,rfl⟩);refine zb ?_;refine zh ?_;refine zh ?_;refine zd ?_;refine zd ?_)|fail)
 repeat' (first|refine s_0 ?_|(refine za (id:=5) ?_;refine zb ?_;refine zb ?_;refine zb ?_;refine zb ?_;refine zb ?_;(refine ys (zn (f:=10) (hc:=λw' X hk hh=>hr1 w' hk)) (k:=?_);rintro _ _ ⟨R,rfl,r,rfl,rfl⟩);refine zb ?_;refine zh ?_;refine zh ?_;(refine zi ?_;intro _);refine zB ?_;refine zd ?_)|fail)
 rename_i b18
 clear hs1 hr1 hl1 hv1 e1 e3 hcase
 obtain ⟨L1,hL1⟩: ∃L1:List Res,L1= [.blk bx 75 (pkC i ⟨ac,n2,kc,ctx⟩ (stB []) (stG []) s x wv ⟨ao,gL i,ko,ow⟩),.row (.slice ac n2 kc) 5 1 n2 (ctx.map v8),.row (.slice ao (gL i) ko) 5 1 (gL i) (ow.map v8),
   .blk b18 32 (rxV (sideI s) (i:Int) (.slice r.ac n2 r.kc) (.slice r.aw (nd 65536 wv) r.kw) (.slice r.ax (nd 65536 x) r.kx) (.slice r.ao (gL i) r.ko) (.slice none 0 0)),
   .row (.slice r.ac n2 r.kc) 5 1 n2 (ctx.map v8),.row (.slice r.aw (nd 65536 wv) r.kw) 3 1 (nd 65536 wv) (refC wv),.row (.slice r.ax (nd 65536 x) r.kx) 3 1 (nd 65536 x) (refC x),.row (.slice r.ao (gL i) r.ko) 5 1 (gL i) (ow.map v8)]:=⟨_,rfl⟩
 refine zhP (γ:=Unit) (λ_=>[(19,.int .i64 0),(18,.pointer (some ⟨b18,0,none⟩)),(17,.int .i64 0),(16,.pointer (some ⟨bx,0,none⟩)),(6,.slice a6 n6 c6),(5,.slice a5 n5 c5),(0,.int .i64 (sideI s))]) (λ_=>L1) (λ_=>True) ?_ ?_
 ·refine Sy.weaken (fr':=[(15,.slice aO n2 cO),(19,.int .i64 0),(18,.pointer (some ⟨b18,0,none⟩)),(17,.int .i64 0),(16,.pointer (some ⟨bx,0,none⟩)),(6,.slice a6 n6 c6),(5,.slice a5 n5 c5),(0,.int .i64 (sideI s))]) (L':=.row (.slice aO n2 cO) 5 1 n2 (ctx.map v8)::L1) ?_ (by exact Sub.go) (by rw [hL1];exact SubR.go2)
  clear hL1
  refine zm1 (Rem.here) ?_
  intro rr hrr
  rcases Nat.eq_zero_or_pos n2 with hz2|hz2
  ·have hlt:decide (((0:Nat):Int) < (n2:Int))=false:=decide_eq_false (by omega)
   repeat' (first|refine s_t ?_|(refine za (id:=6) ?_;refine zd ?_)|fail)
   refine zE (γ:=Unit) (λ_=>[(20,.int .i64 ((0:Nat):Int)),(15,.slice aO n2 cO),(19,.int .i64 0),(18,.pointer (some ⟨b18,0,none⟩)),(17,.int .i64 0),(16,.pointer (some ⟨bx,0,none⟩)),(6,.slice a6 n6 c6),(5,.slice a5 n5 c5),(0,.int .i64 (sideI s))]) (λ_=>L1) (λ_=>True) (λ_=>0) () trivial (by exact Sub.go) (SubR.skip SubR.refl) ?_
   rintro ⟨⟩ -
   repeat' (first|refine s_0 ?_|(refine za (id:=7) ?_;refine zb ?_;refine zb ?_;refine zq ?_;refine yv (zP (hr:=hlt)) (k:=?_))|fail)
   exact zO () trivial (by exact Sub.go) SubR.refl
  ·obtain ⟨bO,J,rfl,rfl⟩:=hrr hz2
   repeat' (first|refine s_t ?_|(refine za (id:=6) ?_;refine zd ?_)|fail)
   refine zE (γ:=Nat×List Int) (λg=>[(20,.int .i64 (g.1:Int)),(15,.slice (some ⟨bO,0,none⟩) n2 cO),(19,.int .i64 0),(18,.pointer (some ⟨b18,0,none⟩)),(17,.int .i64 0),(16,.pointer (some ⟨bx,0,none⟩)),(6,.slice a6 n6 c6),(5,.slice a5 n5 c5),(0,.int .i64 (sideI s))]) (λg=> .blk bO 5 (g.2.map (Value.int .u8) ++ J)::L1) (λg=>g.1<=n2/\g.2.length=n2) (λg=>n2 - g.1) (0,ctx.map Wd.n8) ⟨Nat.zero_le _,by rw [List.length_map];exact q2⟩ ?_ ?_ ?_
   ·exact Sub.go
   ·rw [List.map_map];exact SubR.refl
   rintro ⟨k,q⟩ ⟨hk,hq⟩
   dsimp only at hk hq ⊢
   rcases Nat.lt_or_ge k n2 with hkl|hkl
   ·have hlt:decide ((k:Int) < (n2:Int))=true:=decide_eq_true (by omega)
    have g5:IntKind.i64.wrap ((k:Int)+1)=((k+1:Nat):Int):=by rw [IntWalk.i64_in _ (by omega)];omega
    have hcl:(q.map (Value.int .u8) ++ J)[0+k]?=some (.int .u8 q[k]):=by
     rw [Nat.zero_add,List.getElem?_append_left (by rw [List.length_map];omega),List.getElem?_map,List.getElem?_eq_getElem (by omega)];rfl
    have hst: ∀y:Int,SetAt (q.map (Value.int .u8) ++ J) (0+k) (.int .u8 y) ((q.set k y).map (Value.int .u8) ++ J):=λy=>by
     refine ⟨by rw [List.length_append,List.length_map];omega,?_⟩
     rw [Nat.zero_add,List.set_append_left _ _ (by rw [List.length_map];omega),List.map_set]
    obtain ⟨y,hy⟩: ∃y,IntKind.u8.wrap (q[k]+1)=y:=⟨_,rfl⟩
    repeat' (first|refine s_t ?_|(refine za (id:=7) ?_;refine zb ?_;refine zb ?_;refine zq ?_;refine yv (zP (hr:=hlt)) (k:=?_))|(refine za (id:=9) ?_;refine zb ?_;refine zb ?_;refine yv (z9 (j:=k)) (k:=?_);refine yv (zw (hv:=hcl)) (k:=?_);refine yv (zL (hr:=hy)) (k:=?_);refine yv (z9 (j:=k)) (k:=?_);refine yn (za5 (v:=.int .u8 y) (hC:=hst y)) (k:=?_))|(refine za (id:=8) ?_;refine zb ?_;refine yv (zL (hr:=g5)) (k:=?_);refine zd ?_)|fail)
    refine zy (k+1,q.set k y) ⟨hkl,by rw [List.length_set];exact hq⟩ ?_ ?_ ?_
    ·show n2 - (k+1) < n2 - k;omega
    ·exact Sub.go
    ·exact SubR.refl
   ·obtain rfl:k=n2:=by omega
    have hlt:decide ((k:Int) < (k:Int))=false:=decide_eq_false (by omega)
    repeat' (first|refine s_0 ?_|(refine za (id:=7) ?_;refine zb ?_;refine zb ?_;refine zq ?_;refine yv (zP (hr:=hlt)) (k:=?_))|fail)
    exact zO () trivial (by exact Sub.go) (SubR.skip SubR.refl)
 rintro ⟨⟩ -
 subst hL1
 have ag:=λ{L X w' b ac kc ao ko} {hl:List UInt8}{ah ak:Option Addr}{kh m ck:Nat}{l:List UInt8}(hk:Keep No w w') (hh:Holds w.heap.size No (L ++ X) w') (hX:Has L (.blk b 75 (pkC i ⟨ac,n2,kc,ctx⟩ (stB hl) (stG hl) s x wv ⟨ao,gL i,ko,ow⟩))) (hH:HOk hl) (hs:HS w' hl ah kh) (hm:l.length=m) (hm2:m < 1000000) (hsk:SlA w' ak (l.map v8))=>
  zlO b i ⟨ac,n2,kc,ctx⟩ ⟨ao,gL i,ko,ow⟩ hl s x wv (i:Int) (.slice r.ac n2 r.kc) (.slice r.aw (nd 65536 wv) r.kw) (.slice r.ax (nd 65536 x) r.kx) (.slice r.ao (gL i) r.ko) ah ak kh m ck kb kt kk l w' (hT.no hk) (hR.no hk) (hh.has (Has.append hX)) hH hs hm hm2 hsk
 have dv:=λ{w'} {hl:List UInt8}{ah:Option Addr}{kh:Nat}(hk:Keep No w w') (h32:hl.length=32) (hs:HS w' hl ah kh)=>
  have hs':hl≠[]->hl.length<=kh/\SlA w' ah (hl.map v8):=by unfold HS at hs;exact hs
  zgu (sideI s) (i:Int) (.slice r.ac n2 r.kc) (.slice r.aw (nd 65536 wv) r.kw) (.slice r.ax (nd 65536 x) r.kx) (.slice r.ao (gL i) r.ko) ah kh kb kt kk hl (pkName (!s)) w' h32 (by rw [<-h32];exact (hs' (zlv h32)).1) (hs' (zlv h32)).2 (zcH (!s)) (hR.no hk)
 have rf:=λ{L X w'} {az ap:Option Addr}{kz np kp:Nat}{lp:List UInt8}(hk:Keep No w w') (hh:Holds w.heap.size No (L ++ X) w') (p1:Has L (.row (.slice r.ac n2 r.kc) 5 1 n2 (ctx.map v8))) (p2:Has L (.row (.slice r.aw (nd 65536 wv) r.kw) 3 1 (nd 65536 wv) (refC wv))) (p3:Has L (.row (.slice r.ax (nd 65536 x) r.kx) 3 1 (nd 65536 x) (refC x))) (p4:Has L (.row (.slice r.ao (gL i) r.ko) 5 1 (gL i) (ow.map v8))) (p5:(⟨ap,np,kp,lp⟩:Bs).ok w) (p6:np<=128)=>
  zor s i r.ac r.aw r.ax r.ao az ap n2 r.kc r.kw r.kx (gL i) r.ko kz np kp wv x kb kt kk ctx ow lp w' h0 h5 (hR.no hk) (zjN hh (Has.append p1) q2) (zjN hh (Has.append p4) lo) (p5.keep hk) g3 (by omega) p6 (zu hh (Has.append p2)) (zu hh (Has.append p3)) hqw hqx
 have xf:=λ{L X w'} {hl:List UInt8}{ap:Option Addr}{np kp:Nat}{lp:List UInt8}(hk:Keep No w w') (hh:Holds w.heap.size No (L ++ X) w') (hH:HOk hl) hX hrc hro (p5:(⟨ap,np,kp,lp⟩:Bs).ok w) (p6:np<=128)=>
  zqe (bx:=bx) (i:=i) (ac:=ac) (ao:=ao) (n:=n2) (kc:=kc) (no:=gL i) (ko:=ko) (x:=x) (wv:=wv) (ctx:=ctx) (own:=ow) (hl:=hl) (s:=s) (sp:=⟨ap,np,kp,lp⟩) (X:=X) (L:=L) hk hh hG hT h0 h5 hqx hqw q2 g3 lo (by omega) hH hX hrc hro ⟨SlF.oldB p5.sla hk hh hX,p5.len,p5.cap,p5.nil,by show np<=10000;omega⟩
 have cp:=λ{L X w'} {hl:List UInt8}(hh:Holds w.heap.size No (L ++ X) w') (hH:HOk hl) (hX:Has L (.blk bx 75 (pkC i ⟨ac,n2,kc,ctx⟩ (stB hl) (stG hl) s x wv ⟨ao,gL i,ko,ow⟩))) (hrc:Has L (.row (.slice ac n2 kc) 5 1 n2 (ctx.map v8))) (hro:Has L (.row (.slice ao (gL i) ko) 5 1 (gL i) (ow.map v8)))=>
  zom bx i ac ao n2 kc (gL i) ko ctx ow (stB hl) (stG hl) s x wv w' (zpq hH) zpX (hh.has (Has.append hX)) q2 (by omega) (zu hh (Has.append hrc)) (Row.nil hh (Has.append hrc)) lo (by omega) (zu hh (Has.append hro)) (Row.nil hh (Has.append hro))
 have hn2:=λw'=>zgJ (!s) w'
 have hsub:IntKind.i64.wrap (3 - sideI s)=sideI (!s):=by cases s <;> rfl
 repeat' (first|refine s_0 ?_|(refine za (id:=10) ?_;refine zb ?_;refine yv (zf (hc:=λ_ _ _ _=>(n33 _ _))) (k:=?_);refine zV ?_;refine zb ?_;refine zb ?_;refine zX ?_;refine zo ?_;refine zb ?_;refine zb ?_;refine zD ?_;refine zb ?_;refine yv (zf (f:=16) (hc:=λw' X hk hh=>ag (hl:=[]) (ah:=none) (kh:=0) hk hh (by exact Has.go) (.inl rfl) (zne rfl) q6 (by omega) (p6 w' hk))) (k:=?_);refine zal ?_;refine zo ?_)|fail)
 refine zbh (zaU 66 1) ?_
 repeat' (first|refine s_t ?_|(refine za (id:=12) ?_;refine zd ?_)|fail)
 obtain ⟨B,hB⟩: ∃B:Option Addr->Nat->Nat->List Value,B=λah nh kh=>rxV (sideI s) (i:Int) (.slice r.ac n2 r.kc) (.slice r.aw (nd 65536 wv) r.kw) (.slice r.ax (nd 65536 x) r.kx) (.slice r.ao (gL i) r.ko) (.slice ah nh kh):=⟨_,rfl⟩
 have hB7: ∀ah nh kh,(B ah nh kh).length=7:=λ_ _ _=>by rw [hB];rfl
 have hB1: ∀ah nh kh,(B ah nh kh).all (·.oneCell')=true:=λ_ _ _=>by rw [hB];rfl
 have hB6: ∀ah nh kh,(B ah nh kh)[6]?=some (.slice ah nh kh):=λ_ _ _=>by rw [hB];rfl
 have eB: ∀ah nh kh,rxV (sideI s) (i:Int) (.slice r.ac n2 r.kc) (.slice r.aw (nd 65536 wv) r.kw) (.slice r.ax (nd 65536 x) r.kx) (.slice r.ao (gL i) r.ko) (.slice ah nh kh)=B ah nh kh:=λ_ _ _=>by rw [hB]
 simp only [eB] at ag dv rf ⊢
 have eB2:=eB
 clear hB eB
 refine zE (γ:=Nat×List UInt8×(Option Addr×Nat)×(Option Addr×Nat)) (λg=>[(21,.int .i64 (g.1:Int)),(18,.pointer (some ⟨b18,0,none⟩)),(16,.pointer (some ⟨bx,0,none⟩)),(6,.slice a6 n6 c6),(5,.slice a5 n5 c5),(0,.int .i64 (sideI s))])
  (λg=>[.blk bx 75 (pkC i ⟨ac,n2,kc,ctx⟩ (stB g.2.1) (stG g.2.1) s x wv ⟨ao,gL i,ko,ow⟩),.row (.slice ac n2 kc) 5 1 n2 (ctx.map v8),.row (.slice ao (gL i) ko) 5 1 (gL i) (ow.map v8),
   .blk b18 32 (B g.2.2.1.1 g.2.1.length g.2.2.1.2),.row (.slice g.2.2.2.1 g.2.1.length g.2.2.2.2) 66 1 g.2.1.length (g.2.1.map v8),
   .row (.slice r.ac n2 r.kc) 5 1 n2 (ctx.map v8),.row (.slice r.aw (nd 65536 wv) r.kw) 3 1 (nd 65536 wv) (refC wv),.row (.slice r.ax (nd 65536 x) r.kx) 3 1 (nd 65536 x) (refC x),.row (.slice r.ao (gL i) r.ko) 5 1 (gL i) (ow.map v8)])
  (λg=>g.1<=n5/\HOk g.2.1/\(g.2.1= []\/g.2.2.1.1=g.2.2.2.1/\g.2.2.1.2=g.2.2.2.2)) (λg=>n5 - g.1) (0,[],(none,0),(none,0)) ⟨Nat.zero_le _,.inl rfl,.inl rfl⟩ ?_ ?_ ?_
 ·exact Sub.go
 ·exact SubR.go2
 rintro ⟨k,hl,⟨ah,kh⟩,ar,kr⟩ ⟨hk,hH,hrow⟩
 dsimp only at hk hH hrow ⊢
 rcases Nat.lt_or_ge k n5 with hkl|hkl
 rotate_left
 ·have hlt:decide ((k:Int) < (n5:Int))=false:=decide_eq_false (by omega)
  repeat' (first|refine s_0 ?_|(refine za (id:=13) ?_;refine zb ?_;refine zb ?_;refine zq ?_;refine yv (zP (hr:=hlt)) (k:=?_))|(refine za (id:=28) ?_;refine yv (zf (f:=8) (hc:=λw' X hk hh=>hkn' w' hk)) (k:=?_);refine zd ?_)|fail)
  exact ret1 rfl (resTmp rfl) SubR.nil ⟨rfl,rfl⟩
 have hlt:decide ((k:Int) < (n5:Int))=true:=decide_eq_true (by omega)
 have g5:IntKind.i64.wrap ((k:Int)+1)=((k+1:Nat):Int):=by rw [IntWalk.i64_in _ (by omega)];omega
 obtain ⟨bl,ol,rfl,hcell⟩:=Bs.get hs5 (hn5 ▸ hkl)
 have hci:=hcell k (hn5 ▸ hkl)
 have hpo:=hx5 xs[k] (List.getElem_mem _)
 generalize xs[k]=p at *
 obtain ⟨pa,pn,pc,pl⟩:=p
 dsimp only at hci
 clear hcell
 by_cases hbig:128 < pn
 ·repeat' (first|refine s_t ?_|(refine za (id:=13) ?_;refine zb ?_;refine zb ?_;refine zq ?_;refine yv (zP (hr:=hlt)) (k:=?_))|(refine za (id:=15) ?_;refine zb ?_;refine zb ?_;refine yv (z9 (j:=k)) (k:=?_);refine yv (zx (hv:=hci)) (k:=?_);refine zq ?_;refine zaa ?_)|(refine za (id:=16) ?_;refine yv (zf (f:=8) (hc:=λw' X hk hh=>hkn' w' hk)) (k:=?_);refine zd ?_)|fail)
  exact ret1 rfl (resTmp rfl) SubR.nil ⟨rfl,rfl⟩
 have hpn:pn<=128:=by omega
 have ok':=znX (s:=s) (i:=i) (wv:=wv) (x:=x) (ctx:=ctx) (own:=ow) (hl:=hl) (lp:=pl) hH
 repeat' (first|refine s_t ?_|(refine za (id:=13) ?_;refine zb ?_;refine zb ?_;refine zq ?_;refine yv (zP (hr:=hlt)) (k:=?_))|(refine za (id:=15) ?_;refine zb ?_;refine zb ?_;refine yv (z9 (j:=k)) (k:=?_);refine yv (zx (hv:=hci)) (k:=?_);refine zq ?_;refine zaa ?_)|fail)
 repeat' (first|refine s_0 ?_|(refine za (id:=17) ?_;refine zb ?_;(refine ys (zn (f:=18) (hc:=λw' X hk hh=>cp hh hH (by exact Has.go) (by exact Has.go) (by exact Has.go))) (k:=?_);rintro _ _ ⟨R,rfl,bC,acC,kcC,aoC,koC,rfl,rfl⟩);refine zd ?_)|fail)
 obtain ⟨Lr,hLr⟩: ∃Lr:List Res,Lr= [.row (.slice ac n2 kc) 5 1 n2 (ctx.map v8),.row (.slice ao (gL i) ko) 5 1 (gL i) (ow.map v8),.row (.slice r.ac n2 r.kc) 5 1 n2 (ctx.map v8),.row (.slice r.aw (nd 65536 wv) r.kw) 3 1 (nd 65536 wv) (refC wv),.row (.slice r.ax (nd 65536 x) r.kx) 3 1 (nd 65536 x) (refC x),.row (.slice r.ao (gL i) r.ko) 5 1 (gL i) (ow.map v8)]:=⟨_,rfl⟩
 refine zaJ (γ:=Nat×(Option Addr×Nat)×(Option Addr×Nat)) (λg=>[(24,.int .i64 (pkFin s i wv x ctx ow hl pl).1),(23,.pointer (some ⟨g.1,0,none⟩)),(22,.pointer (some ⟨bC,0,none⟩)),(21,.int .i64 (k:Int)),(18,.pointer (some ⟨b18,0,none⟩)),(16,.pointer (some ⟨bx,0,none⟩)),(6,.slice a6 n6 c6),(5,.slice (some ⟨bl,ol,none⟩) n5 c5),(0,.int .i64 (sideI s))])
  (λg=> .blk bx 75 (pkC i ⟨ac,n2,kc,ctx⟩ (stB hl) (stG hl) s x wv ⟨ao,gL i,ko,ow⟩):: .blk bC 75 (pkC i ⟨acC,n2,kcC,ctx⟩ (stB hl) (stG hl) s x wv ⟨aoC,gL i,koC,ow⟩)::
   .blk b18 32 (B ah hl.length kh):: .blk g.1 32 (B g.2.1.1 (pkFin s i wv x ctx ow hl pl).2.length g.2.1.2):: .row (.slice g.2.2.1 (pkFin s i wv x ctx ow hl pl).2.length g.2.2.2) 66 1 (pkFin s i wv x ctx ow hl pl).2.length ((pkFin s i wv x ctx ow hl pl).2.map v8)::Lr)
  (λg=>((pkFin s i wv x ctx ow hl pl).2= []\/g.2.1.1=g.2.2.1/\g.2.1.2=g.2.2.2)/\(hl= []\/ah=g.2.2.1/\kh=g.2.2.2/\(pkFin s i wv x ctx ow hl pl).2=hl)) ?_ ?_
 ·by_cases hnl:hl= []
  ·subst hnl
   have rf':=λ{L X w'} hk hh p1 p2 p3 p4=>rf (L:=L) (X:=X) (w':=w') (az:=ah) (kz:=kh) hk hh p1 p2 p3 p4 hpo hpn
   generalize pkFin s i wv x ctx ow [] pl=PF at *
   refine zah (id:=18) mixed ?_
   (refine zab 11 11 [[],[],[],[1,2],[1,2,3],[0,1,2,3,4],[0,1,2,3,4,5],[0,1,2,3,4,5,6],[0,1,2,3,4,5,6],[],[0,1,2,3,4,5,6,7,9],[0,1,2,3,4,5,6,7,8,9,10]] [[],[],[],[],[],[],[],[],[],[],[9],[]] none rfl ?_ ?_ ?_;kernel_rfl;kernel_rfl;refine dcE (λ_ _=>zg (B:=B ah 0 kh) (hz:=(hB7 _ _ _).symm)) (k:=?_);refine zS ?_;refine zS ?_;refine dcE (λ_ _=>z9 (j:=k)) (k:=?_);refine dcE (λ_ _=>zx (hv:=hci)) (k:=?_);try refine z5 (h:=?_))
   refine z7 (R:=λ_ v Nw=>∃ah' kh' ar' kr',v= .tuple #[.agg (B ah' PF.2.length kh').toArray,.int .i64 PF.1]/\Nw= [.row (.slice ar' PF.2.length kr') 66 1 PF.2.length (PF.2.map v8)]/\(PF.2= []\/ah'=ar'/\kh'=kr')) (λ_ _ _=>rfl) (λρ hρ=>zn (f:=14) (hc:=λw' X hk hh=>rf' hk hh (by exact Has.go) (by exact Has.go) (by exact Has.go) (by exact Has.go))) (h:=?_)
   refine zbf (u:=λρ=>(ρ 5).1) (λρ hρ=>zcw) (λ_=>rfl) rfl (λρ ρ' h=>by rw [h 5 (by decide)]) (h:=?_)
   refine zbf (u:=λρ=>tup (ρ 5).1 0) (λρ hρ=>?_) (λ_=>rfl) rfl (λρ ρ' h=>by rw [h 5 (by decide)]) (h:=?_)
   ·obtain ⟨⟨ah',kh',ar',kr',f1,f2,f3⟩,-⟩:=hρ
    refine OpT.mono (zaA (vs:=#[.agg (B ah' PF.2.length kh').toArray,.int .i64 PF.1]) (hx:=by show some (ρ 5).1=_;rw [f1])) λv L' h=>?_
    obtain ⟨rfl,rfl⟩:=h
    exact ⟨by rw [f1];rfl,rfl⟩
   refine dcE (u:=.int .i64 PF.1) (λρ hρ=>?_) (k:=?_)
   ·obtain ⟨⟨ah',kh',ar',kr',f1,f2,f3⟩,-⟩:=hρ
    exact zaA (vs:=#[.agg (B ah' PF.2.length kh').toArray,.int .i64 PF.1]) (hx:=by show some (ρ 5).1=_;rw [f1])
   refine z7 (R:=λ_=>PtrOf 32 rxZ) (λ_ _ _=>rfl) (λρ hρ=>OpT.mono (zaX (C:=rxZ)) λv L' h=>?_) (h:=?_)
   ·obtain ⟨b,rfl,rfl⟩:=h
    exact ⟨[_],rfl,b,rfl,rfl⟩
   refine zd7 (R:=λρ _ Nw=>∃b ah' kh',(ρ 9).1= .pointer (some ⟨b,0,none⟩)/\tup (ρ 5).1 0= .agg (B ah' PF.2.length kh').toArray/\Nw= [.blk b 32 (B ah' PF.2.length kh')]) (λρ ρ' h=>by rw [h 9 (by decide),h 5 (by decide)]) (λρ hρ=>?_) (h:=?_)
   ·obtain ⟨⟨b,f1,f2⟩,⟨ah',kh',ar',kr',f3,f4,f5⟩,-⟩:=hρ
    refine OpT.mono (zM (B:=B ah' PF.2.length kh') (C:=rxZ) (hx:=by show some (ρ 9).1=_;rw [f1]) (hz:=by show some (tup (ρ 5).1 0)=_;rw [f3];rfl) (h1:=(hB7 _ _ _).symm) (hv:=hB1 _ _ _) (hL:=by show Upd ((ρ 9).2 ++ _) _ _ _;rw [f2];exact Upd.here) (hC:=by rw [hB7];rfl)) λv L' h=>?_
    obtain ⟨rfl,rfl⟩:=h
    exact ⟨[_],rfl,b,ah',kh',f1,by rw [f3];rfl,rfl⟩
   refine zaE (h:=?_)
   rintro ρ ⟨⟨b23,ah1,kh1,f1,f6,f2⟩,-,⟨ah',kh',ar',kr',f3,f4,f5⟩,-⟩
   have f7:B ah1 PF.2.length kh1=B ah' PF.2.length kh':=by
    have h:Value.agg (B ah' PF.2.length kh').toArray= .agg (B ah1 PF.2.length kh1).toArray:=by rw [<-f6,f3];rfl
    injection h with h
    simpa using (congrArg Array.toList h).symm
   rw [f7] at f2
   (refine zag [[],[],[],[1,2],[1,2,3],[0,1,2,3,4],[0,1,2,3,4,5],[0,1,2,3,4,5,6],[0,1,2,3,4,5,6],[],[0,1,2,3,4,5,6,7,9],[0,1,2,3,4,5,6,7,8,9,10]] ?_ ?_;kernel_rfl)
   refine SyL.weaken (fr':=[(121,.int .i64 PF.1),(23,.pointer (some ⟨b23,0,none⟩)),(22,.pointer (some ⟨bC,0,none⟩)),(21,.int .i64 (k:Int)),(18,.pointer (some ⟨b18,0,none⟩)),(16,.pointer (some ⟨bx,0,none⟩)),(6,.slice a6 n6 c6),(5,.slice (some ⟨bl,ol,none⟩) n5 c5),(0,.int .i64 (sideI s))])
    (L':=.blk b23 32 (B ah' PF.2.length kh'):: .blk bx 75 (pkC i ⟨ac,n2,kc,ctx⟩ (stB []) (stG []) s x wv ⟨ao,gL i,ko,ow⟩):: .blk bC 75 (pkC i ⟨acC,n2,kcC,ctx⟩ (stB []) (stG []) s x wv ⟨aoC,gL i,koC,ow⟩):: .blk b18 32 (B ah 0 kh):: .row (.slice ar' PF.2.length kr') 66 1 PF.2.length (PF.2.map v8)::Lr) ?_ (by simp only [f1];exact Sub.go) (by show SubR _ ((ρ 10).2 ++ ((ρ 5).2 ++ _));rw [f2,f4,hLr];exact SubR.go2)
   repeat' (first|refine z6 ?_|refine zR ?_|(refine zC ?_;first|refine zd ?_|fail)|fail)
   exact zO (b23,(ah',kh'),(ar',kr')) ⟨f5,.inl rfl⟩ (by exact Sub.go) (by subst hLr;exact SubR.go2)
  ·have hst:=zki (s:=s) (i:=i) (wv:=wv) (x:=x) (ctx:=ctx) (own:=ow) (lp:=pl) hnl
   simp only [hst]
   have h32:=hH.len hnl
   have rs:=λw'=>zlt (sideI s) (i:Int) (.slice r.ac n2 r.kc) (.slice r.aw (nd 65536 wv) r.kw) (.slice r.ax (nd 65536 x) r.kx) (.slice r.ao (gL i) r.ko) ah hl.length kh (.slice pa pn pc) w' (by omega) rfl
   simp only [eB2] at rs
   refine zah (id:=18) mixed ?_
   (refine zab 11 11 [[],[],[],[1,2],[1,2,3],[0,1,2,3,4],[0,1,2,3,4,5],[0,1,2,3,4,5,6],[0,1,2,3,4,5,6],[],[0,1,2,3,4,5,6,7,9],[0,1,2,3,4,5,6,7,8,9,10]] [[],[],[],[],[],[],[],[],[],[],[9],[]] none rfl ?_ ?_ ?_;kernel_rfl;kernel_rfl;refine dcE (λ_ _=>zg (B:=B ah hl.length kh) (hz:=(hB7 _ _ _).symm)) (k:=?_);refine zS ?_;refine zS ?_;refine dcE (λ_ _=>z9 (j:=k)) (k:=?_);refine dcE (λ_ _=>zx (hv:=hci)) (k:=?_);refine dcE (λ_ _=>zf (hc:=λ_ _ _ _=>(rs _))) (k:=?_);refine zS ?_;refine zbS ?_;refine zbS ?_;try refine z5 (h:=?_))
   refine z7 (R:=λ_=>PtrOf 32 rxZ) (λ_ _ _=>rfl) (λρ hρ=>OpT.mono (zaX (C:=rxZ)) λv L' h=>?_) (h:=?_)
   ·obtain ⟨b,rfl,rfl⟩:=h
    exact ⟨[_],rfl,b,rfl,rfl⟩
   refine zd7 (R:=λρ _ Nw=>∃b,(ρ 9).1= .pointer (some ⟨b,0,none⟩)/\Nw= [.blk b 32 (B ah hl.length kh)]) (λρ ρ' h=>by rw [h 9 (by decide)]) (λρ hρ=>?_) (h:=?_)
   ·obtain ⟨⟨b,f1,f2⟩,-⟩:=hρ
    refine OpT.mono (zM (B:=B ah hl.length kh) (C:=rxZ) (hx:=by show some (ρ 9).1=_;rw [f1]) (h1:=(hB7 _ _ _).symm) (hv:=hB1 _ _ _) (hL:=by show Upd ((ρ 9).2 ++ _) _ _ _;rw [f2];exact Upd.here) (hC:=by rw [hB7];rfl)) λv L' h=>?_
    obtain ⟨rfl,rfl⟩:=h
    exact ⟨[_],rfl,b,f1,rfl⟩
   refine zaE (h:=?_)
   rintro ρ ⟨⟨b23,f1,f2⟩,-⟩
   (refine zag [[],[],[],[1,2],[1,2,3],[0,1,2,3,4],[0,1,2,3,4,5],[0,1,2,3,4,5,6],[0,1,2,3,4,5,6],[],[0,1,2,3,4,5,6,7,9],[0,1,2,3,4,5,6,7,8,9,10]] ?_ ?_;kernel_rfl)
   refine SyL.weaken (fr':=[(121,.int .i64 8),(23,.pointer (some ⟨b23,0,none⟩)),(22,.pointer (some ⟨bC,0,none⟩)),(21,.int .i64 (k:Int)),(18,.pointer (some ⟨b18,0,none⟩)),(16,.pointer (some ⟨bx,0,none⟩)),(6,.slice a6 n6 c6),(5,.slice (some ⟨bl,ol,none⟩) n5 c5),(0,.int .i64 (sideI s))])
    (L':=.blk b23 32 (B ah hl.length kh):: .blk bx 75 (pkC i ⟨ac,n2,kc,ctx⟩ (stB hl) (stG hl) s x wv ⟨ao,gL i,ko,ow⟩):: .blk bC 75 (pkC i ⟨acC,n2,kcC,ctx⟩ (stB hl) (stG hl) s x wv ⟨aoC,gL i,koC,ow⟩):: .blk b18 32 (B ah hl.length kh):: .row (.slice ar hl.length kr) 66 1 hl.length (hl.map v8)::Lr) ?_ (by simp only [f1];exact Sub.go) (by show SubR _ ((ρ 10).2 ++ _);rw [f2,hLr];exact SubR.go2)
   repeat' (first|refine z6 ?_|refine zR ?_|(refine zC ?_;first|refine zd ?_|fail)|fail)
   exact zO (b23,(ah,kh),(ar,kr)) ⟨hrow,.inr ⟨(hrow.resolve_left hnl).1,(hrow.resolve_left hnl).2,by trivial⟩⟩ (by exact Sub.go) (by subst hLr;exact SubR.go2)
 rintro ⟨b23,⟨ah',kh'⟩,ar',kr'⟩ ⟨hrow',hold⟩
 dsimp only at hrow' hold ⊢
 have xf':=λ{L X w'} hk hh hX hrc hro=>xf (L:=L) (X:=X) (w':=w') (hl:=hl) hk hh hH hX hrc hro hpo hpn
 dsimp only [Bs.val] at xf'
 generalize pkFin s i wv x ctx ow hl pl=PF at *
 obtain ⟨e,hl'⟩:=PF
 dsimp only at *
 have hsO:=λ{L X w'} (hh:Holds w.heap.size No (L ++ X) w') (q:Has L (.row (.slice ar' hl'.length kr') 66 1 hl'.length (hl'.map v8)))=>show HS w' hl ah kh by
  rcases hold with h|⟨rfl,rfl,rfl⟩
  ·exact zne h
  ·exact znb hh (Has.append q) (.inr ⟨rfl,rfl⟩)
 have hsN:=λ{L X w'} (hh:Holds w.heap.size No (L ++ X) w') (q:Has L (.row (.slice ar' hl'.length kr') 66 1 hl'.length (hl'.map v8)))=>show HS w' hl' ah' kh' from znb hh (Has.append q) hrow'
 subst hLr
 repeat' (first|refine s_0 ?_|(refine za (id:=19) ?_;refine zb ?_;refine zb ?_;refine zb ?_;refine yv (z9 (j:=k)) (k:=?_);refine yv (zx (hv:=hci)) (k:=?_);refine yv (zbj (b:=bx) (f:=15) (hc:=λw' X hk hh=>xf' hk hh (by exact Has.go) (by exact Has.go) (by exact Has.go))) (k:=?_);refine yv (zf (hc:=λ_ _ _ _=>(n33 _ _))) (k:=?_);refine zb ?_;refine zV ?_;refine zb ?_;refine zb ?_;refine zX ?_;refine zo ?_;refine zb ?_;refine zb ?_;refine yv (zg (B:=B ah hl.length kh) (hz:=(hB7 _ _ _).symm)) (k:=?_);refine zb ?_;refine yv (zf (f:=16) (hc:=λw' X hk hh=>ag (b:=bC) hk hh (by exact Has.go) hH (hsO hh (by exact Has.go)) q6 (by omega) (p6 w' hk))) (k:=?_);refine zal ?_;refine zo ?_)|fail)
 repeat' (first|refine s_0 ?_|(refine za (id:=21) ?_;refine yv (zg (B:=B ah' hl'.length kh') (hz:=(hB7 _ _ _).symm)) (k:=?_);refine yn (zM (B:=B ah' hl'.length kh') (h1:=(hB7 _ _ _).symm) (hv:=hB1 _ _ _) (C:=B ah hl.length kh) (hC:=by rw [hB7,hB7])) (k:=?_))|(refine za (id:=22) ?_;refine zb ?_;refine yv (zg (B:=B ah' hl'.length kh') (hz:=(hB7 _ _ _).symm)) (k:=?_);refine zb ?_;refine yv (zf (f:=16) (hc:=λw' X hk hh=>ag (b:=bx) hk hh (by exact Has.go) ok' (hsN hh (by exact Has.go)) q6 (by omega) (p6 w' hk))) (k:=?_);refine zal ?_)|fail)
 refine Sy.weaken (fr':=[(21,.int .i64 (k:Int)),(18,.pointer (some ⟨b18,0,none⟩)),(16,.pointer (some ⟨bx,0,none⟩)),(6,.slice a6 n6 c6),(5,.slice (some ⟨bl,ol,none⟩) n5 c5),(0,.int .i64 (sideI s))])
  (L':=[.blk bx 75 (pkC i ⟨ac,n2,kc,ctx⟩ (stB hl') (stG hl') s x wv ⟨ao,gL i,ko,ow⟩),.row (.slice ac n2 kc) 5 1 n2 (ctx.map v8),.row (.slice ao (gL i) ko) 5 1 (gL i) (ow.map v8),
   .blk b18 32 (B ah' hl'.length kh'),.row (.slice ar' hl'.length kr') 66 1 hl'.length (hl'.map v8),
   .row (.slice r.ac n2 r.kc) 5 1 n2 (ctx.map v8),.row (.slice r.aw (nd 65536 wv) r.kw) 3 1 (nd 65536 wv) (refC wv),.row (.slice r.ax (nd 65536 x) r.kx) 3 1 (nd 65536 x) (refC x),.row (.slice r.ao (gL i) r.ko) 5 1 (gL i) (ow.map v8)]) ?_ (by exact Sub.go) (by exact SubR.go2)
 have h6':=hB6 ah' hl'.length kh'
 by_cases hnl:hl'= []
 ·have hgt:decide ((0:Int) < (hl'.length:Int))=false:=decide_eq_false (by rw [hnl];decide)
  repeat' (first|refine s_0 ?_|(refine za (id:=24) ?_;refine zm ?_;refine yv (zw (hv:=h6')) (k:=?_);refine zq ?_;refine yv (zaf (hr:=hgt)) (k:=?_))|(refine za (id:=14) ?_;refine zb ?_;refine yv (zL (hr:=g5)) (k:=?_);refine zd ?_)|fail)
  refine zy (k+1,hl',(ah',kh'),(ar',kr')) ⟨hkl,ok',hrow'⟩ ?_ ?_ ?_
  ·show n5 - (k+1) < n5 - k;omega
  ·exact Sub.go
  ·exact SubR.go2
 have h32':=HOk.len ok' hnl
 have hgt:decide ((0:Int) < (hl'.length:Int))=true:=decide_eq_true (by omega)
 have dv':=λ{L X w'} (hk:Keep No w w') (hh:Holds w.heap.size No (L ++ X) w') (q:Has L (.row (.slice ar' hl'.length kr') 66 1 hl'.length (hl'.map v8)))=>dv hk h32' (hsN hh q)
 rw [show (32:Nat)=hl'.length from h32'.symm] at dv'
 have lK:=zdO hl' (pkName (!s))
 generalize pkDer hl' (pkName (!s))=K at *
 generalize pkName (!s)=N2 at *
 repeat' (first|refine s_0 ?_|(refine za (id:=24) ?_;refine zm ?_;refine yv (zw (hv:=h6')) (k:=?_);refine zq ?_;refine yv (zaf (hr:=hgt)) (k:=?_))|fail)
 refine zah (id:=25) mixed ?_
 (refine zab 5 5 [[],[],[1],[1,2],[0,1,2,3],[0,1,2,3,4]] [[],[],[],[],[],[]] none rfl ?_ ?_ ?_;kernel_rfl;kernel_rfl;refine dcE (λ_ _=>zg (B:=B ah' hl'.length kh') (hz:=(hB7 _ _ _).symm)) (k:=?_);refine zS ?_;refine dcE (λ_ _=>zJ (hr:=hsub)) (k:=?_);refine dcE (λ_ _=>zf (hc:=λ_ _ _ _=>(hn2 _))) (k:=?_);try refine z5 (h:=?_))
 refine z7 (R:=λ_=>RowOf 5 hl'.length (K.map v8)) (λ_ _ _=>rfl) (λρ hρ=>zn (f:=17) (hc:=λw' X hk hh=>dv' hk hh (by exact Has.go))) (h:=?_)
 refine zaE (h:=?_)
 rintro ρ ⟨⟨aK,kK,f1,f2⟩,-⟩
 rw [f1] at f2
 (refine zag [[],[],[1],[1,2],[0,1,2,3],[0,1,2,3,4]] ?_ ?_;kernel_rfl)
 refine SyL.weaken (fr':=[(156,.slice aK hl'.length kK),(21,.int .i64 (k:Int)),(18,.pointer (some ⟨b18,0,none⟩)),(16,.pointer (some ⟨bx,0,none⟩)),(6,.slice a6 n6 c6),(5,.slice (some ⟨bl,ol,none⟩) n5 c5),(0,.int .i64 (sideI s))])
  (L':=[.row (.slice aK hl'.length kK) 5 1 hl'.length (K.map v8),.blk bx 75 (pkC i ⟨ac,n2,kc,ctx⟩ (stB hl') (stG hl') s x wv ⟨ao,gL i,ko,ow⟩),.row (.slice ac n2 kc) 5 1 n2 (ctx.map v8),.row (.slice ao (gL i) ko) 5 1 (gL i) (ow.map v8),
   .blk b18 32 (B ah' hl'.length kh'),.row (.slice ar' hl'.length kr') 66 1 hl'.length (hl'.map v8),
   .row (.slice r.ac n2 r.kc) 5 1 n2 (ctx.map v8),.row (.slice r.aw (nd 65536 wv) r.kw) 3 1 (nd 65536 wv) (refC wv),.row (.slice r.ax (nd 65536 x) r.kx) 3 1 (nd 65536 x) (refC x),.row (.slice r.ao (gL i) r.ko) 5 1 (gL i) (ow.map v8)]) ?_ ?_ ?_
 rotate_left
 ·(repeat' (first|exact Sub.nil|refine Sub.cons rfl ?_ ?_|rfl))
  exact f1
 ·show SubR _ ((ρ 4).2 ++ _)
  rw [f2]
  exact SubR.go2
 repeat' (first|refine s_0 ?_|(refine za (id:=26) ?_;refine zb ?_;refine yv (zg (B:=B ah' hl'.length kh') (hz:=(hB7 _ _ _).symm)) (k:=?_);refine zb ?_;refine yv (zf (f:=16) (hc:=λw' X hk hh=>ag (b:=bx) (l:=K) hk hh (by exact Has.go) ok' (hsN hh (by exact Has.go)) (lK.trans h32'.symm) (by omega) (zu hh (by exact Has.append Has.go)))) (k:=?_);refine zal ?_)|(refine za (id:=14) ?_;refine zb ?_;refine yv (zL (hr:=g5)) (k:=?_);refine zd ?_)|(refine zC ?_;first|refine zd ?_|fail)|fail)
 refine zy (k+1,hl',(ah',kh'),(ar',kr')) ⟨hkl,ok',hrow'⟩ ?_ ?_ ?_
 ·show n5 - (k+1) < n5 - k;omega
 ·exact Sub.go
 ·exact SubR.go2
end Go.Proofs.YtcpjfilcilcekaaGreatDoor
end
