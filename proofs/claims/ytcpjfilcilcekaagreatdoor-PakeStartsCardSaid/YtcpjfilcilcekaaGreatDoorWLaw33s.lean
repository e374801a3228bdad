/- PakeStarts: which exchanges there are, and their elements, or the error. -/
import Derived.Test.YtcpjfilcilcekaaGreatDoorWLaw33a
set_option linter.all false
namespace Go.Proofs.YtcpjfilcilcekaaGreatDoor
open Go Go.Sy Go.Sh Go.Nt Go.RowKit
attribute [local irreducible] Sy SyL SyX Sy.Fn callFunc natC rowN refC iC gP gQ gL memB safeC fixB Sh.sum HashIs pkPt pkH pkQ firstN dblock hmac pkW pkX pkOwn pkDer pkSh pkD pkC pkName pkKey zG
set_option maxRecDepth 10000
theorem zlg (v z:Int) (a1 a2 a3:Option Addr) (n1 n2 n3 c1 c2 c3:Nat) (w:World) (hG:GT w) (h: ¬((v=1\/v=2)/\(1<=z/\z<=4)/\1<=n1/\n1<=256/\n2<=4096/\n3=32)):
    Sy.Fn Tryz.prog 9 [.int .i64 v,.int .i64 z,.slice a1 n1 c1,.slice a2 n2 c2,.slice a3 n3 c3] w No (Gives (.tuple #[.pointer none,.int .i64 2])):=by
  by_cases hv:v=1\/v=2
  · obtain ⟨s,rfl⟩: ∃s,v=sideI s:=by
      rcases hv with rfl|rfl
      · exact ⟨true,rfl⟩
      · exact ⟨false,rfl⟩
    refine zd5 s z a1 a2 a3 n1 n2 n3 c1 c2 c3 w hG ?_
    by_cases hz:1<=z/\z<=4
    · have:n1=0\/256 < n1\/4096 < n2\/n3≠32:=by
        refine Classical.byContradiction λhn=>h ⟨hv,hz,?_,?_,?_,?_⟩ <;> omega
      exact .inr this
    · exact .inl (by unfold glen;exact if_neg hz)
  · exact zgd v (λh=>hv (.inl h)) (λh=>hv (.inr h)) (.int .i64 z) a1 a2 a3 n1 n2 n3 c1 c2 c3 w
set_option maxHeartbeats 4000000 in
theorem zin (hkn: ∀w,GT w->Tab w No->Sy.Fn Tryz.prog 8 [] w No (Gives (.bool true))) (v z:Int) (a1 a2 a3:Option Addr) (n1 n2 n3 c1 c2 c3 kb kt kk:Nat) (sec ctx prv:List UInt8) (w:World) (hT:Tab w No) (hG:GT w) (hR:RTab w No kb kt kk)
    (k1:(⟨a1,n1,c1,sec⟩:Bs).ok w) (k2:(⟨a2,n2,c2,ctx⟩:Bs).ok w) (k3:(⟨a3,n3,c3,prv⟩:Bs).ok w):
    Sy.Fn Tryz.prog 3 [.int .i64 v,.int .i64 z,.slice a1 n1 c1,.slice a2 n2 c2,.slice a3 n3 c3] w No (Gives (.bool true)):=by
  refine zk Tryz.func3 rfl Tryz.ntmps3 (by simp) Holds.nil ?_
  have hkn':=λw' (hk:Keep No w w')=>hkn w' (hG.to hk) (hT.no hk)
  have n33:=λz w'=>zgx z w'
  have hl:=λw'=>zlk (.int .i64 z) a1 a2 a3 n1 n2 n3 c1 c2 c3 w'
  by_cases hlg:300 < n1\/40 < n3\/(300 < n2/\n2<=4096)\/5000 < n2
  · rw [decide_eq_true hlg] at hl
    repeat' (first|refine s_0 ?_|(refine za (id:=0) ?_;refine zd ?_)|(refine za (id:=1) ?_;refine zb ?_;refine zb ?_;refine zb ?_;refine zb ?_;refine yv (zf (hc:=λ_ _ _ _=>(hl _))) (k:=?_))|(refine za (id:=2) ?_;refine yv (zf (f:=8) (hc:=λw' X hk hh=>hkn' w' hk)) (k:=?_);refine zd ?_)|fail)
    exact ret1 rfl (resTmp rfl) SubR.nil ⟨rfl,rfl⟩
  rw [decide_eq_false hlg] at hl
  by_cases hv:(v=1\/v=2)/\(1<=z/\z<=4)/\1<=n1/\n1<=256/\n2<=4096/\n3=32
  · obtain ⟨hv1,hz,g1,g2,g3,rfl⟩:=hv
    obtain ⟨s,rfl⟩: ∃s,v=sideI s:=by
      rcases hv1 with rfl|rfl
      · exact ⟨true,rfl⟩
      · exact ⟨false,rfl⟩
    obtain ⟨i,rfl⟩: ∃i:Nat,z=(i:Int):=⟨z.toNat,by omega⟩
    have h0:1<=i:=by omega
    have h5:i<=4:=by omega
    have hs:=λw' (hk:Keep No w w')=>zfI s i a1 a2 a3 n1 n2 c1 c2 c3 sec ctx prv w' h0 h5 (hT.no hk) (hG.to hk) (k1.keep hk) (k2.keep hk) (k3.keep hk) (by omega) g2 g3
    have hr:=λw' (hk:Keep No w w')=>zlQ s i a1 a2 a3 n1 n2 c1 c2 c3 kb kt kk sec ctx prv w' h0 h5 (hR.no hk) (k1.keep hk) (k2.keep hk) (k3.keep hk) (by omega) g2 g3
    have hgl:=(zdl i h0 h5).2
    have lo:=zbD _ _ (zfk s i (pkW i sec) (pkX i prv) h0 h5)
    unfold XRes at hs
    unfold rxRes rxC at hr
    generalize fixB (gL i) (pkOwn s i (pkW i sec) (pkX i prv))=ow at *
    generalize pkW i sec=wv at *
    generalize pkX i prv=x at *
    repeat' (first|refine s_0 ?_|(refine za (id:=0) ?_;refine zd ?_)|(refine za (id:=1) ?_;refine zb ?_;refine zb ?_;refine zb ?_;refine zb ?_;refine yv (zf (hc:=λ_ _ _ _=>(hl _))) (k:=?_))|(refine za (id:=3) ?_;refine zb ?_;refine zb ?_;refine zb ?_;refine zb ?_;refine zb ?_;(refine ys (zn (f:=9) (hc:=λw' X hk hh=>hs w' hk)) (k:=?_);rintro _ _ ⟨R,rfl,bx,ac,ao,kc,ko,rfl,rfl⟩);refine zb ?_;refine zh ?_;refine zh ?_;refine zd ?_;refine zd ?_)|(refine za (id:=4) ?_;refine zb ?_;refine zb ?_;refine zb ?_;refine zb ?_;refine zb ?_;(refine ys (zn (f:=10) (hc:=λw' X hk hh=>hr w' hk)) (k:=?_);rintro _ _ ⟨R,rfl,r,rfl,rfl⟩);refine zb ?_;refine zh ?_;refine zh ?_;(refine zi ?_;intro _);refine zx ?_;refine zd ?_)|(refine za (id:=5) ?_;refine zb ?_;refine yv (zf (hc:=λ_ _ _ _=>(n33 _ _))) (k:=?_);refine zb ?_;refine zP ?_;refine zb ?_;refine zb ?_;refine zZ ?_;refine zb ?_;refine zP ?_;refine zP ?_;refine zp ?_)|fail)
    rename_i b13
    refine zai (id:=7) mixed ?_
    (refine zad 11 11 [[],[0],[0,1],[0,1,2],[0,1,2,3],[0,1,2,3,4],[0,1,2],[0,1,2,6],[0,1,2,6,7],[0,1,2,3,4,5,6,7,8],[0,1,2,3,4,5,6,7,8,9],[0,1,2,3,4,5,6,7,8,9,10],[0,1,2,3,4,5,6,7,8,9,10,11],[0,1,2,3,4,5,6,7,8,9,10,11,12],[0,1,2,3,4,5,6,7,8,9,10,11,12,13]] [[],[],[],[],[],[],[],[],[],[],[],[],[],[],[]] none rfl ?_ ?_ ?_;kernel_rfl;kernel_rfl;refine zU ?_;refine zqP ?_;refine zU ?_;refine zU ?_;try refine dh_0nE (h:=?_))
    refine z8 (R:=λ_=>RowOf 5 (gL i) (ow.map v8)) (λ_ _ _=>rfl) (λρ hρ=>zn (f:=12) (hc:=λw' X hk hh=>Fn.mono (zgh (bx:=bx) (i:=i) (d:=false) (G:=zG) (s:=s) (x:=x) (wv:=wv) (ao:=ao) (n:=gL i) (ko:=ko) (l:=ow) (sx:=⟨ac,n2,kc,ctx⟩) hh (by unfold zG;rfl) (by exact Has.go) (by exact Has.go) lo (by omega)) (λv R h=>zqm h))) (h:=?_)
    refine dcE (u:=.string (str ow)) (λρ hρ=>zfK (v:=(ρ 4).1) (Nw:=(ρ 4).2) hρ.1 lo (λr hr=>Has.append hr)) (k:=?_)
    (skip;refine z6 ?_;refine zdI ?_;refine dcE (λ_ _=>zb4 (a0:=r.ao) (l:=ow) (hr:=Rd.row Has.go) (hn:=lo)) (k:=?_);refine dcE (λ_ _=>zbE (hr:=decide_eq_true rfl)) (k:=?_);refine zmn ?_;try refine dh_0nE (h:=?_))
    refine zaT (h:=?_)
    rintro ρ -
    (refine zah [[],[0],[0,1],[0,1,2],[0,1,2,3],[0,1,2,3,4],[0,1,2],[0,1,2,6],[0,1,2,6,7],[0,1,2,3,4,5,6,7,8],[0,1,2,3,4,5,6,7,8,9],[0,1,2,3,4,5,6,7,8,9,10],[0,1,2,3,4,5,6,7,8,9,10,11],[0,1,2,3,4,5,6,7,8,9,10,11,12],[0,1,2,3,4,5,6,7,8,9,10,11,12,13]] ?_ ?_;kernel_rfl)
    refine SyL.weaken (fr':=[(60,.bool true)]) (L':=[]) ?_ (by exact Sub.go) SubR.nil
    repeat' (first|refine s_0 ?_|(refine zB ?_;first|refine yv (zf (f:=8) (hc:=λw' X hk hh=>hkn' w' hk)) (k:=?_)|refine zd ?_|refine zb ?_|refine zp ?_|fail)|fail)
    exact ret1 rfl (resTmp rfl) SubR.nil ⟨rfl,rfl⟩
  · have hs:=λw' (hk:Keep No w w')=>zlg v z a1 a2 a3 n1 n2 n3 c1 c2 c3 w' (hG.to hk) hv
    have hr:=λw'=>zmi v z a1 a2 a3 n1 n2 n3 c1 c2 c3 w' hv
    repeat' (first|refine s_0 ?_|(refine za (id:=0) ?_;refine zd ?_)|(refine za (id:=1) ?_;refine zb ?_;refine zb ?_;refine zb ?_;refine zb ?_;refine yv (zf (hc:=λ_ _ _ _=>(hl _))) (k:=?_))|(refine za (id:=3) ?_;refine zb ?_;refine zb ?_;refine zb ?_;refine zb ?_;refine zb ?_;refine yv (zf (f:=9) (hc:=λw' X hk hh=>hs w' hk)) (k:=?_);refine zb ?_;refine zh ?_;refine zh ?_;refine zd ?_;refine zd ?_)|(refine za (id:=4) ?_;refine zb ?_;refine zb ?_;refine zb ?_;refine zb ?_;refine zb ?_;refine yv (zf (hc:=λ_ _ _ _=>(hr _))) (k:=?_);refine zb ?_;refine zh ?_;refine zh ?_;(refine zi ?_;intro _);refine zx ?_;refine zd ?_)|(refine za (id:=5) ?_;refine zb ?_;refine yv (zf (hc:=λ_ _ _ _=>(n33 _ _))) (k:=?_);refine zb ?_;refine zP ?_;refine zb ?_;refine zb ?_;refine zZ ?_;refine zb ?_;refine zP ?_;refine zP ?_;refine zp ?_)|(refine zJ (id:=7) 9 [[],[0],[0,1],[0,1,2],[0,1,2,3],[0,1,2,3,4],[0,1,2],[0,1,2,6],[0,1,2,6,7],[0,1,2,3,4,5,6,7,8],[0,1,2,3,4,5,6,7,8,9],[0,1,2,3,4,5,6,7,8,9,10],[0,1,2,3,4,5,6,7,8,9,10,11],[0,1,2,3,4,5,6,7,8,9,10,11,12],[0,1,2,3,4,5,6,7,8,9,10,11,12,13]] mixed ?_ ?_;kernel_rfl;refine zo ?_;refine zk3 ?_;refine zo ?_;refine zbl (λ_=>rfl) rfl ?_;refine zbl (λ_=>rfl) rfl ?_;refine zbl (λ_=>rfl) rfl ?_;refine zbl (λ_=>rfl) rfl ?_;refine zbl (λ_=>rfl) rfl ?_;refine zbl (λ_=>rfl) rfl ?_;refine zS ?_;refine zl rfl rfl rfl ?_;refine zp ?_;refine zb ?_;refine yv (zf (f:=8) (hc:=λw' X hk hh=>hkn' w' hk)) (k:=?_);refine zp ?_;refine zd ?_)|fail)
    exact ret1 rfl (resTmp rfl) SubR.nil ⟨rfl,rfl⟩
end Go.Proofs.YtcpjfilcilcekaaGreatDoor
