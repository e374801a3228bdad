/- Layer pake, the specification walked: Finish with an element. -/
import Derived.Test.YtcpjfilcilcekaaGreatDoorYJ43
import Derived.Test.YtcpjfilcilcekaaGreatDoorYJ44
set_option linter.all false
section
namespace Go.Proofs.YtcpjfilcilcekaaGreatDoor
open Go Go.Sy Go.Sh Go.Nt Go.RowKit
attribute [local irreducible] Sy SyL SyX Sy.Fn callFunc natC rowN refC iC gP gQ gL memB safeC fixB Sh.sum HashIs pkPt pkH pkQ firstN dblock hmac pkW pkX pkOwn pkDer pkSh pkD four
set_option maxRecDepth 10000
theorem zqw {v z:Int}{a b c d e y:Value} :SetAt (rxV v z a b c d e) 6 y (rxV v z a b c d y):=⟨(by show 6 < 7;decide),rfl⟩
set_option maxHeartbeats 4000000 in
theorem zp3 (s:Bool) (i:Nat) (ac aw ax ao az ap:Option Addr) (n kc kw kx no ko kz np kp wv x kb kt kk:Nat) (ctx own lp:List UInt8) (w:World) (h0:1<=i) (h5:i<=4) (hR:RTab w No kb kt kk)
  (hc:(⟨ac,n,kc,ctx⟩:Bs).ok w) (ho:(⟨ao,no,ko,own⟩:Bs).ok w) (hp:(⟨ap,np,kp,lp⟩:Bs).ok w) (hn:n<=4096) (hno:no<=200) (hw:SlA w aw (refC wv)) (hx:SlA w ax (refC x)) (hqw:wv < gQ i) (hqx:x < gQ i)
  (e1:np=gL i) (e2:memB (gP i) (gQ i) (bev 256 (bn lp))=true) (e3:bev 256 (bn lp)≠1):
  Sy.Fn Tryz.prog 14 [.agg (rxV (sideI s) (i:Int) (.slice ac n kc) (.slice aw (nd 65536 wv) kw) (.slice ax (nd 65536 x) kx) (.slice ao no ko) (.slice az 0 kz)).toArray,.slice ap np kp] w No (λv R=>∃b,v= .tuple #[.agg (rxV (sideI s) (i:Int) (.slice ac n kc) (.slice aw (nd 65536 wv) kw) (.slice ax (nd 65536 x) kx) (.slice ao no ko) (.slice (some ⟨b,0,none⟩) 32 32)).toArray,.int .i64 0]/\
   R= [.blk b 66 ((pkD i ctx s own lp (fixB (gL i) (pkSh s i wv x (bev 256 (bn lp)))) (fixB (gL i) wv)).map v8)]):=by
 refine zk Tryz.func14 rfl Tryz.ntmps14 (by simp) Holds.nil ?_
 have hui:=u8w i (by omega)
 have hgl:=(zdq i h0 h5).2
 have hpl:lp.length=np:=hp.len
 have hps:SlA w ap (lp.map v8):=hp.sla
 have hfr:=λw' (hk:Keep No w w')=>zge ap np kp lp w' hpl ((SlF.of hps).to (Mi:=No) hk (λ_ h=> .inr h)).sla (by omega)
 have hle:=λw'=>zhU i w' h0 h5
 have hpt:=λw' (hk:Keep No w w')=>zkF i s kb kt kk w' h0 h5 (hR.no hk)
 have hof:=λw'=>zdl 1 w' (by decide)
 have mn:=zg2 i (!s) h0 h5
 have mh:=zc7 h0 h5 mn wv
 have mv:=zmu h0 h5 mh
 have mc:=zjh h0 h5 e2 mv
 have ms:=zc7 h0 h5 mc x
 have nw:=zb3 (Nat.lt_trans hqw (za3 i h0 h5))
 have nx:=zb3 (Nat.lt_trans hqx (za3 i h0 h5))
 have nY:=zb3 (zbI h0 h5 e2)
 have hw':=λw' (hk:Keep No w w')=>((SlF.of hw).to (Mi:=No) hk (λ_ h=> .inr h)).sla
 have hx':=λw' (hk:Keep No w w')=>((SlF.of hx).to (Mi:=No) hk (λ_ h=> .inr h)).sla
 have hme:=λw' a k (h:SlA w' a (refC (bev 256 (bn lp))))=>zhh i a k (bev 256 (bn lp)) w' h0 h5 h nY
 rw [e2] at hme
 have hcm:=λw' a k b l (h:SlA w' a (refC (bev 256 (bn lp)))) (h':SlA w' b (refC 1))=>zbq a b k l (bev 256 (bn lp)) 1 w' h h' (by omega) (by have:=zak 65536 1 1 (by decide) (by decide);omega)
 have g2:decide (cmpI (bev 256 (bn lp)) 1=(0:Int))=false:=decide_eq_false (λh=>e3 (zdw h))
 have hexp:=λw' (hk:Keep No w w') a k (h:SlA w' a (refC (pkPt i (!s))))=>zf7 i a aw k kw (pkPt i (!s)) wv w' h0 h5 h (hw' w' hk) (zb3 (zbI h0 h5 mn)) nw
 have hinv:=λw' a k (h:SlA w' a (refC (pkPt i (!s) ^ wv % gP i)))=>zpQ i a k (pkPt i (!s) ^ wv % gP i) w' h0 h5 h (zb3 (zbI h0 h5 mh)) mh
 have hmul:=λw' a k b l (h:SlA w' a (refC (bev 256 (bn lp)))) (h':SlA w' b (refC (inv (gP i) (pkPt i (!s) ^ wv % gP i)).2))=>zhW i a b k l (bev 256 (bn lp)) (inv (gP i) (pkPt i (!s) ^ wv % gP i)).2 w' h0 h5 h h' nY (zb3 (zbI h0 h5 mv))
 have hexq:=λw' (hk:Keep No w w') a k (h:SlA w' a (refC (bev 256 (bn lp)*(inv (gP i) (pkPt i (!s) ^ wv % gP i)).2 % gP i)))=>zf7 i a ax k kx _ x w' h0 h5 h (hx' w' hk) (zb3 (zbI h0 h5 mc)) nx
 have nds:=zej h0 h5 (zaK.1 ms).2.1
 have hbs:=λw' a k (h:SlA w' a (refC ((bev 256 (bn lp)*(inv (gP i) (pkPt i (!s) ^ wv % gP i)).2 % gP i) ^ x % gP i)))=>zfI i a k _ w' h0 h5 h (zb3 (zbI h0 h5 ms)) nds
 have hbw:=λw' (hk:Keep No w w')=>zfI i aw kw wv w' h0 h5 (hw' w' hk) nw (ziQ h0 h5 hqw)
 have ls:=zbM _ _ nds
 have lw:=zbM _ _ (ziQ h0 h5 hqw)
 rw [show pkSh s i wv x (bev 256 (bn lp))=(bev 256 (bn lp)*(inv (gP i) (pkPt i (!s) ^ wv % gP i)).2 % gP i) ^ x % gP i by unfold pkSh;rfl]
 clear mn mh mv mc ms nY nds e2 e3
 unfold RefG at hfr hof
 unfold RefG2 at hpt
 generalize (bev 256 (bn lp)*(inv (gP i) (pkPt i (!s) ^ wv % gP i)).2 % gP i) ^ x % gP i=sh at *
 generalize bev 256 (bn lp)*(inv (gP i) (pkPt i (!s) ^ wv % gP i)).2 % gP i=c at *
 generalize (inv (gP i) (pkPt i (!s) ^ wv % gP i)).2=v at *
 generalize pkPt i (!s) ^ wv % gP i=h at *
 generalize pkPt i (!s)=pn at *
 generalize pkPt i s=ps at *
 generalize bev 256 (bn lp)=y at *
 generalize cmpI y 1=cy at *
 have g1:decide ((np:Int)≠((gL i:Nat):Int))=false:=decide_eq_false (by omega)
 generalize hrB:rxV (sideI s) (i:Int) (.slice ac n kc) (.slice aw (nd 65536 wv) kw) (.slice ax (nd 65536 x) kx) (.slice ao no ko) (.slice az 0 kz)=rB
 have hr0:rB[0]?=some (.int .i64 (sideI s)):=by rw [<-hrB];rfl
 have hr1:rB[1]?=some (.int .i64 (i:Int)):=by rw [<-hrB];rfl
 have hr2:rB[2]?=some (.slice ac n kc):=by rw [<-hrB];rfl
 have hr3:rB[3]?=some (.slice aw (nd 65536 wv) kw):=by rw [<-hrB];rfl
 have hr4:rB[4]?=some (.slice ax (nd 65536 x) kx):=by rw [<-hrB];rfl
 have hr5:rB[5]?=some (.slice ao no ko):=by rw [<-hrB];rfl
 have hr6:rB[6]?=some (.slice az 0 kz):=by rw [<-hrB];rfl
 repeat' (first|refine s_0 ?_|(refine za (id:=0) ?_;(refine zi ?_;intro _);(refine zi ?_;intro _);refine zd ?_)|(refine za (id:=1) ?_;refine zm ?_;refine yv (zw (hv:=hr6)) (k:=?_);refine zq ?_;refine zaa ?_)|(refine za (id:=3) ?_;refine zb ?_;(refine ys (zn (f:=47) (hc:=λw' X hk hh=>hfr w' hk)) (k:=?_);rintro _ _ ⟨R,rfl,aY,kY,rfl,rfl⟩);refine zd ?_)|(refine za (id:=4) ?_;refine zb ?_;refine zq ?_;refine zm ?_;refine yv (zw (hv:=hr1)) (k:=?_);refine yv (zf (hc:=λ_ _ _ _=>(hle _))) (k:=?_);refine yv (zay (hr:=g1)) (k:=?_);refine zb ?_;refine zm ?_;refine yv (zw (hv:=hr1)) (k:=?_);refine zb ?_;refine yv (zf (f:=49) (hc:=λw' X hk hh=>hme w' _ _ (zu hh (by exact Has.append Has.go)))) (k:=?_);refine zal ?_;refine zo ?_;refine zb ?_;refine zb ?_;(refine ys (zn (f:=41) (hc:=λw' X hk hh=>hof w')) (k:=?_);rintro _ _ ⟨R,rfl,aO,kO,rfl,rfl⟩);refine yv (zf (f:=50) (hc:=λw' X hk hh=>hcm w' _ _ _ _ (zu hh (by exact Has.append Has.go)) (zu hh (by exact Has.append Has.go)))) (k:=?_);refine yv (z8 (hr:=g2)) (k:=?_);refine zo ?_)|(refine za (id:=6) ?_;refine zm ?_;refine yv (zw (hv:=hr0)) (k:=?_);refine zm ?_;refine yv (zw (hv:=hr1)) (k:=?_);(refine ys (zn (f:=42) (hc:=λw' X hk hh=>hpt w' hk)) (k:=?_);rintro _ _ ⟨R,rfl,aP,kP,aN,kN,rfl,rfl⟩);refine zb ?_;refine zh ?_;refine zh ?_;refine zd ?_;refine zd ?_)|fail)
 rename_i b2 b4
 refine Sy.weaken (fr':=[(8,.slice aN (nd 65536 pn) kN),(6,.slice aY (nd 65536 y) kY),(4,.pointer (some ⟨b4,0,none⟩)),(2,.pointer (some ⟨b2,0,none⟩)),(1,.slice ap np kp)]) (L':=[.row (.slice aN (nd 65536 pn) kN) 3 1 (nd 65536 pn) (refC pn),.row (.slice aY (nd 65536 y) kY) 3 1 (nd 65536 y) (refC y),.blk b4 32 rxZ,.blk b2 32 rB]) ?_ (by exact Sub.go) (by exact SubR.go2)
 clear hfr hle hpt hof hme hcm g1 g2
 refine zah (id:=7) mixed ?_
 (refine zab 13 13 [[],[0],[],[],[3],[],[5],[],[],[8],[5,6,7,8,9],[3,4,5,6,7,8,9,10],[0,1,2,3,4,5,6,7,8,9,10,11],[0,1,2,3,4,5,6,7,8,9,10,11,12]] [[],[],[],[],[],[],[],[],[],[],[],[],[],[]] none rfl ?_ ?_ ?_;kernel_rfl;kernel_rfl;refine zT ?_;refine dcE (λ_ _=>zw (hv:=hr1)) (k:=?_);refine zS ?_;refine zT ?_;refine dcE (λ_ _=>zw (hv:=hr1)) (k:=?_);refine zT ?_;refine dcE (λ_ _=>zw (hv:=hr1)) (k:=?_);refine zS ?_;refine zT ?_;refine dcE (λ_ _=>zw (hv:=hr3)) (k:=?_);try refine z5 (h:=?_))
 refine z7 (R:=λ_=>RefG h) (λ_ _ _=>rfl) (λρ hρ=>zn (f:=45) (hc:=λw' X hk hh=>hexp w' hk _ _ (zu hh (by exact Has.append Has.go)))) (h:=?_)
 refine z7 (R:=λ_=>RefG v) (λ_ _ _=>rfl) (λρ hρ=>?_) (h:=?_)
 ·obtain ⟨⟨b0,d0,p1,p2⟩,-⟩:=hρ
  refine zn (f:=51) (vs:=[.int .i64 (i:Int),.slice b0 (nd 65536 h) d0]) (ha:=by show some [_,(ρ 10).1]=_;rw [p1]) (hc:=λw' X hk hh=>?_)
  have hh:Holds w.heap.size No (((ρ 10).2 ++ _) ++ X) w':=hh
  rw [p2] at hh
  exact hinv w' b0 d0 (zu hh (by exact Has.append Has.go))
 refine z7 (R:=λ_=>RefG c) (λ_ _ _=>rfl) (λρ hρ=>?_) (h:=?_)
 ·obtain ⟨⟨b0,d0,p1,p2⟩,⟨b1,d1,q1,q2⟩,-⟩:=hρ
  refine zn (f:=43) (vs:=[.int .i64 (i:Int),.slice aY (nd 65536 y) kY,.slice b0 (nd 65536 v) d0]) (ha:=by show some [_,_,(ρ 11).1]=_;rw [p1]) (hc:=λw' X hk hh=>?_)
  have hh:Holds w.heap.size No (((ρ 11).2 ++ ((ρ 10).2 ++ _)) ++ X) w':=hh
  rw [p2,q2] at hh
  exact hmul w' aY kY b0 d0 (zu hh (by exact Has.append Has.go)) (zu hh (by exact Has.append Has.go))
 refine zaE (h:=?_)
 rintro ρ ⟨⟨aC,kC,p1,p2⟩,⟨aI,kI,q1,q2⟩,⟨aH,kH,r1,r2⟩,-⟩
 (refine zag [[],[0],[],[],[3],[],[5],[],[],[8],[5,6,7,8,9],[3,4,5,6,7,8,9,10],[0,1,2,3,4,5,6,7,8,9,10,11],[0,1,2,3,4,5,6,7,8,9,10,11,12]] ?_ ?_;kernel_rfl)
 refine SyL.weaken (fr':=[(64,.slice aC (nd 65536 c) kC),(4,.pointer (some ⟨b4,0,none⟩)),(2,.pointer (some ⟨b2,0,none⟩)),(1,.slice ap np kp)]) (L':=[.row (.slice aC (nd 65536 c) kC) 3 1 (nd 65536 c) (refC c),.blk b4 32 rxZ,.blk b2 32 rB]) ?_ ?_ ?_
 rotate_left
 ·(repeat' (first|exact Sub.nil|refine Sub.cons rfl ?_ ?_|rfl))
  exact p1
 ·show SubR _ ((ρ 12).2 ++ ((ρ 11).2 ++ ((ρ 10).2 ++ _)))
  rw [p2,q2,r2]
  exact SubR.go2
 clear p1 p2 q1 q2 r1 r2
 unfold RefG at hexq
 repeat' (first|refine s_0 ?_|(refine za (id:=8) ?_;refine zm ?_;refine yv (zw (hv:=hr1)) (k:=?_);refine zb ?_;refine zm ?_;refine yv (zw (hv:=hr4)) (k:=?_);(refine ys (zn (f:=45) (hc:=λw' X hk hh=>hexq w' hk _ _ (zu hh (by exact Has.append Has.go)))) (k:=?_);rintro _ _ ⟨R,rfl,aS,kS,rfl,rfl⟩);refine zd ?_)|(refine za (id:=9) ?_;refine zm ?_;refine yv (zw (hv:=hr5)) (k:=?_);refine zb ?_;refine zd ?_;refine zd ?_)|(refine zC ?_;first|refine zd ?_|fail)|fail)
 clear hexp hinv hmul hexq hx'
 obtain ⟨cl,hcl⟩: ∃cl:Bs,cl=if s then ⟨ao,no,ko,own⟩ else ⟨ap,np,kp,lp⟩:=⟨_,rfl⟩
 obtain ⟨sv,hsv⟩: ∃sv:Bs,sv=if s then ⟨ap,np,kp,lp⟩ else ⟨ao,no,ko,own⟩:=⟨_,rfl⟩
 have hclo:cl.ok w/\cl.n<=10000:=by
  rw [hcl];cases s
  ·exact ⟨hp,by show np<=10000;omega⟩
  ·exact ⟨ho,by show no<=10000;omega⟩
 have hsvo:sv.ok w/\sv.n<=10000:=by
  rw [hsv];cases s
  ·exact ⟨ho,by show no<=10000;omega⟩
  ·exact ⟨hp,by show np<=10000;omega⟩
 refine zhP (γ:=Unit) (λ_=>[(12,sv.val),(11,cl.val),(10,.slice aS (nd 65536 sh) kS),(4,.pointer (some ⟨b4,0,none⟩)),(2,.pointer (some ⟨b2,0,none⟩))]) (λ_=>[.row (.slice aS (nd 65536 sh) kS) 3 1 (nd 65536 sh) (refC sh),.blk b4 32 rxZ,.blk b2 32 rB]) (λ_=>True) ?_ ?_
 ·cases s
  ·rw [hcl,hsv]
   repeat' (first|refine s_0 ?_|(refine za (id:=10) ?_;refine zm ?_;refine yv (zw (hv:=hr0)) (k:=?_);refine zX ?_)|(refine zK (id:=11) 4 [[],[],[1],[0],[0,1,2,3]] mixed ?_ ?_;kernel_rfl;refine zp ?_;refine z3 ?_;refine dc (λ_ _=>zw (hv:=hr5)) (k:=?_);refine zd5 ?_;refine zU ?_;refine zd ?_)|fail)
   exact zO () trivial (by exact Sub.go) (by exact SubR.go2)
  ·rw [hcl,hsv]
   repeat' (first|refine s_0 ?_|(refine za (id:=10) ?_;refine zm ?_;refine yv (zw (hv:=hr0)) (k:=?_);refine zX ?_)|fail)
   exact zO () trivial (by exact Sub.go) (by exact SubR.go2)
 rintro ⟨⟩ -
 repeat' (first|refine s_0 ?_|(refine za (id:=12) ?_;refine zd ?_)|fail)
 refine zah (id:=13) mixed ?_
 (refine zab 18 18 [[],[0],[],[2],[2,3],[2,3,4],[],[],[],[8],[],[8,9,10],[],[12],[],[14],[8,9,10,11,12,13,14,15],[0,1,2,3,4,5,6,7,8,9,10,11,12,13,14,15,16],[0,1,2,3,4,5,6,7,8,9,10,11,12,13,14,15,16,17]] [[],[],[],[],[],[],[],[],[],[],[],[],[],[],[],[],[],[],[]] none rfl ?_ ?_ ?_;kernel_rfl;kernel_rfl;refine zT ?_;refine dcE (λ_ _=>zw (hv:=hr2)) (k:=?_);refine zT ?_;refine dcE (λ_ _=>zw (hv:=hr1)) (k:=?_);refine dcE (λ_ _=>zZ (hr:=hui)) (k:=?_);try refine z5 (h:=?_))
 refine z7 (R:=λ_=>LitOf 5 [v8 (UInt8.ofNat i)]) (λ_ _ _=>rfl) (λρ hρ=>OpT.mono zt λv L' h=>?_) (h:=?_)
 ·obtain ⟨b,rfl,rfl⟩:=h
  exact ⟨[_],rfl,b,rfl,rfl⟩
 (skip;refine zS ?_;refine zS ?_;refine zT ?_;refine dcE (λ_ _=>zw (hv:=hr1)) (k:=?_);refine zS ?_;try refine z5 (h:=?_))
 refine z7 (R:=λ_=>RowOf 5 (gL i) ((fixB (gL i) sh).map v8)) (λ_ _ _=>rfl) (λρ hρ=>zn (f:=22) (hc:=λw' X hk hh=>hbs w' _ _ (zu hh (by exact Has.append Has.go)))) (h:=?_)
 (skip;refine zT ?_;refine dcE (λ_ _=>zw (hv:=hr1)) (k:=?_);refine zT ?_;refine dcE (λ_ _=>zw (hv:=hr3)) (k:=?_);try refine z5 (h:=?_))
 refine z7 (R:=λ_=>RowOf 5 (gL i) ((fixB (gL i) wv).map v8)) (λ_ _ _=>rfl) (λρ hρ=>zn (f:=22) (hc:=λw' X hk hh=>hbw w' hk)) (h:=?_)
 refine z7 (R:=λρ=>LitOf 22 [.slice ac n kc,(ρ 5).1,cl.val,sv.val,(ρ 11).1,(ρ 16).1]) (λρ ρ' h=>by rw [h 5 (by decide),h 11 (by decide),h 16 (by decide)]) (λρ hρ=>?_) (h:=?_)
 ·obtain ⟨⟨a16,k16,e16,f16⟩,⟨a11,k11,e11,f11⟩,⟨b5,e5,f5⟩,-⟩:=hρ
  refine OpT.mono (zt (hc:=by show [_,(ρ 5).1,_,_,(ρ 11).1,(ρ 16).1].all _=true;rw [e5,e11,e16];rfl)) λv L' h=>?_
  obtain ⟨b,rfl,rfl⟩:=h
  exact ⟨[_],rfl,b,rfl,rfl⟩
 refine zaE (h:=?_)
 rintro ρ ⟨⟨b14,e14,f14⟩,⟨aW,kW,e16,f16⟩,⟨aF,kF,e11,f11⟩,⟨b5,e5,f5⟩,-⟩
 rw [e5,e11,e16] at f14
 rw [e11] at f11
 rw [e16] at f16
 obtain ⟨qs,hqs⟩: ∃qs:List Bs,qs= [⟨ac,n,kc,ctx⟩,⟨some ⟨b5,0,none⟩,1,1,[UInt8.ofNat i]⟩,cl,sv,⟨aF,gL i,kF,fixB (gL i) sh⟩,⟨aW,gL i,kW,fixB (gL i) wv⟩]:=⟨_,rfl⟩
 (refine zag [[],[0],[],[2],[2,3],[2,3,4],[],[],[],[8],[],[8,9,10],[],[12],[],[14],[8,9,10,11,12,13,14,15],[0,1,2,3,4,5,6,7,8,9,10,11,12,13,14,15,16],[0,1,2,3,4,5,6,7,8,9,10,11,12,13,14,15,16,17]] ?_ ?_;kernel_rfl)
 refine SyL.weaken (fr':=[(97,.slice (some ⟨b14,0,none⟩) 6 6),(13,.slice none 0 0),(4,.pointer (some ⟨b4,0,none⟩)),(2,.pointer (some ⟨b2,0,none⟩))])
  (L':=[.blk b14 22 (qs.map Bs.val),.blk b5 5 [v8 (UInt8.ofNat i)],.row (.slice aF (gL i) kF) 5 1 (gL i) ((fixB (gL i) sh).map v8),.row (.slice aW (gL i) kW) 5 1 (gL i) ((fixB (gL i) wv).map v8),.blk b4 32 rxZ,.blk b2 32 rB]) ?_ ?_ ?_
 rotate_left
 ·(repeat' (first|exact Sub.nil|refine Sub.cons rfl ?_ ?_|rfl))
  exact e14
 ·show SubR _ ((ρ 17).2 ++ ((ρ 16).2 ++ ((ρ 11).2 ++ ((ρ 5).2 ++ _))))
  rw [f14,f16,f11,f5,hqs]
  exact SubR.go2
 have hqok: ∀ {L w'},Keep No w w'->Holds w.heap.size No L w'->Has L (.blk b5 5 [v8 (UInt8.ofNat i)])->Has L (.row (.slice aF (gL i) kF) 5 1 (gL i) ((fixB (gL i) sh).map v8))->Has L (.row (.slice aW (gL i) kW) 5 1 (gL i) ((fixB (gL i) wv).map v8))-> ∀q∈qs,q.ok w'/\q.n<=10000:=λ{L w'} hk hh k5 kF' kW' q hq=>by
  rw [hqs] at hq
  simp only [List.mem_cons,List.not_mem_nil,or_false] at hq
  rcases hq with rfl|rfl|rfl|rfl|rfl|rfl
  ·exact ⟨hc.keep hk,by show n<=10000;omega⟩
  ·exact ⟨⟨rfl,Nat.le_refl _,.inr ⟨b5,0,rfl,zz (hh.has k5) Seg.all⟩,λh=>by cases h⟩,by show 1<=10000;decide⟩
  ·exact ⟨hclo.1.keep hk,hclo.2⟩
  ·exact ⟨hsvo.1.keep hk,hsvo.2⟩
  ·exact ⟨⟨ls,Row.cap hh kF',zu hh kF',Row.none hh kF'⟩,by show gL i<=10000;omega⟩
  ·exact ⟨⟨lw,Row.cap hh kW',zu hh kW',Row.none hh kW'⟩,by show gL i<=10000;omega⟩
 have hql: ∀q∈qs,q.l.length=q.n/\q.n<=10000:=λq hq=>by
  rw [hqs] at hq
  simp only [List.mem_cons,List.not_mem_nil,or_false] at hq
  rcases hq with rfl|rfl|rfl|rfl|rfl|rfl
  ·exact ⟨hc.len,by show n<=10000;omega⟩
  ·exact ⟨rfl,by show 1<=10000;decide⟩
  ·exact ⟨hclo.1.len,hclo.2⟩
  ·exact ⟨hsvo.1.len,hsvo.2⟩
  ·exact ⟨ls,by show gL i<=10000;omega⟩
  ·exact ⟨lw,by show gL i<=10000;omega⟩
 obtain ⟨FT,hFT⟩: ∃FT:Nat->List UInt8,FT=λk=>(qs.take k).flatMap λq=>pkFr q.l:=⟨_,rfl⟩
 have hcat:Sh.sum (FT 6)=pkD i ctx s own lp (fixB (gL i) sh) (fixB (gL i) wv):=by
  rw [hFT,hqs,hcl,hsv];cases s <;> (unfold pkD pkDig;simp [List.flatMap_cons])
 have hqlen:qs.length=6:=by rw [hqs];rfl
 have hF0:FT 0= []:=by rw [hFT];rfl
 have hFs: ∀k (hk:k < qs.length),FT (k+1)=FT k ++ pkFr qs[k].l:=λk hk=>by
  rw [hFT];show (qs.take (k+1)).flatMap _=_
  rw [List.take_succ_eq_append_getElem hk,List.flatMap_append];simp
 have hFl: ∀k,k<=6->(FT k).length<=k*10004:=by
  intro k
  induction k with
  |zero=>intro _;rw [hF0];exact Nat.zero_le _
  |succ k ih=>
   intro hk
   have h1:=ih (by omega)
   obtain ⟨h2,h3⟩:=hql qs[k] (List.getElem_mem (by omega))
   rw [hFs k (by omega),List.length_append]
   unfold pkFr
   rw [List.length_append,zcr];omega
 clear hqs hcl hsv hFT e14 f14 e16 f16 e11 f11 e5 f5 hbs hbw hclo hsvo
 refine zjC (zaU 5 1) ?_
 repeat' (first|refine s_t ?_|(refine za (id:=14) ?_;refine zd ?_)|(refine zC ?_;first|refine zd ?_|fail)|fail)
 refine zE (γ:=Nat×Option Addr×Nat) (λg=>[(15,.int .i64 (g.1:Int)),(14,.slice (some ⟨b14,0,none⟩) 6 6),(13,.slice g.2.1 (FT g.1).length g.2.2),(4,.pointer (some ⟨b4,0,none⟩)),(2,.pointer (some ⟨b2,0,none⟩))])
  (λg=>[.row (.slice g.2.1 (FT g.1).length g.2.2) 5 1 (FT g.1).length ((FT g.1).map v8),.blk b14 22 (qs.map Bs.val),.blk b5 5 [v8 (UInt8.ofNat i)],.row (.slice aF (gL i) kF) 5 1 (gL i) ((fixB (gL i) sh).map v8),.row (.slice aW (gL i) kW) 5 1 (gL i) ((fixB (gL i) wv).map v8),.blk b4 32 rxZ,.blk b2 32 rB])
  (λg=>g.1<=6) (λg=>6 - g.1) (0,none,0) (Nat.zero_le _) ?_ ?_ ?_
 ·dsimp only
  rw [hF0]
  exact Sub.go
 ·dsimp only
  rw [hF0]
  exact SubR.go2
 rintro ⟨k,ab,cb⟩ hk
 dsimp only at hk ⊢
 rcases Nat.lt_or_ge k 6 with hlt6|hge6
 ·obtain ⟨l1,l2⟩:=hql qs[k] (List.getElem_mem (by omega))
  have hcell:(qs.map Bs.val)[0+k]?=some qs[k].val:=by rw [Nat.zero_add,List.getElem?_map,List.getElem?_eq_getElem (by omega)];rfl
  have hqk:=λ{L w'} (hk':Keep No w w') (hh:Holds w.heap.size No L w') k5 kF' kW'=>hqok hk' hh k5 kF' kW' qs[k] (List.getElem_mem (by omega))
  have hF:=hFs k (by omega)
  have hL:=hFl k hk
  have hlt:decide ((k:Int) < ((6:Nat):Int))=true:=decide_eq_true (by omega)
  have g5:IntKind.i64.wrap ((k:Int)+1)=((k+1:Nat):Int):=by rw [IntWalk.i64_in _ (by omega)];omega
  generalize qs[k]=q at *
  obtain ⟨qa,qn,qc,ql⟩:=q
  simp only [Bs.val] at hcell
  dsimp only at l1 l2 hF
  have hkm:(FT k).length+(4+qn)=(FT (k+1)).length:=by rw [hF,List.length_append];unfold pkFr;rw [List.length_append,zcr];omega
  have hys:(FT k).map v8 ++ (pkFr ql).map v8=(FT (k+1)).map v8:=by rw [hF,List.map_append]
  have hfl:(pkFr ql).length=4+qn:=by unfold pkFr;rw [List.length_append,zcr];omega
  repeat' (first|refine s_t ?_|(refine za (id:=15) ?_;refine zb ?_;refine zb ?_;refine zq ?_;refine yv (zP (hr:=hlt)) (k:=?_))|(refine za (id:=17) ?_;refine zb ?_;refine zb ?_;refine zb ?_;refine yv (z9 (j:=k)) (k:=?_);refine yv (zw (hv:=hcell)) (k:=?_);(refine ys (zn (f:=52) (hc:=λw' X hk hh=>zlY qa qn qc ql w' l1 (by omega) (hqk hk hh (by exact Has.append Has.go) (by exact Has.append Has.go) (by exact Has.append Has.go)).1.sla (hqk hk hh (by exact Has.append Has.go) (by exact Has.append Has.go) (by exact Has.append Has.go)).1.nil)) (k:=?_);rintro _ _ ⟨R,rfl,aR,kR,rfl,rfl⟩;refine zjL (λw' hh=>Row.none hh (a:=aR) (n:=4+qn) (c:=kR) Has.here) λhnR=>?_);(refine ys (zaj (k:=(FT k).length) (m:=4+qn) (hn:=by rw [List.length_map,hfl,Nat.mul_one]) (hkm:=hkm) (hys:=hys)) (k:=?_);rintro _ _ ⟨rfl,aT,kT,rfl⟩);refine zd ?_)|(refine za (id:=16) ?_;refine zb ?_;refine yv (zL (hr:=g5)) (k:=?_);refine zd ?_)|fail)
  refine zy (k+1,aT,kT) hlt6 ?_ ?_ ?_
  ·show 6 - (k+1) < 6 - k;omega
  ·exact Sub.go
  ·exact SubR.go2
 obtain rfl:k=6:=by omega
 have hlt:decide (((6:Nat):Int) < ((6:Nat):Int))=false:=rfl
 have hL:=hFl 6 (Nat.le_refl _)
 have hsum:=λw' (hk:Keep No w w') (h1:SlA w' ab ((FT 6).map v8)) (h2:ab=none->cb=0)=>zd2 ab (FT 6).length cb kb kt kk (FT 6) w' rfl (by omega) h1 h2 (hR.no hk).cell (hR.no hk).row
 rw [hcat] at hsum
 have hDl:=zhF i ctx s own lp (fixB (gL i) sh) (fixB (gL i) wv)
 generalize pkD i ctx s own lp (fixB (gL i) sh) (fixB (gL i) wv)=D at *
 repeat' (first|refine s_0 ?_|(refine za (id:=15) ?_;refine zb ?_;refine zb ?_;refine zq ?_;refine yv (zP (hr:=hlt)) (k:=?_))|(refine za (id:=18) ?_;refine zb ?_;refine yv (zf (f:=53) (hc:=λw' X hk hh=>hsum w' hk (zu hh (by exact Has.append Has.go)) (Row.none hh (by exact Has.append Has.go)))) (k:=?_);(refine zi ?_;intro _);refine zB ?_)|fail)
 rename_i b16
 subst hrB
 repeat' (first|refine s_0 ?_|(refine za (id:=19) ?_;refine zap ?_;refine zm ?_;refine yn (za5 (hC:=zqw)) (k:=?_))|(refine za (id:=20) ?_;refine yv (zg (B:=rxV (sideI s) (i:Int) (.slice ac n kc) (.slice aw (nd 65536 wv) kw) (.slice ax (nd 65536 x) kx) (.slice ao no ko) (.slice (some ⟨b16,0,none⟩) 32 32))) (k:=?_);refine yn (zM (B:=rxV (sideI s) (i:Int) (.slice ac n kc) (.slice aw (nd 65536 wv) kw) (.slice ax (nd 65536 x) kx) (.slice ao no ko) (.slice (some ⟨b16,0,none⟩) 32 32)) (C:=rxZ)) (k:=?_);refine zd ?_)|fail)
 exact ret2 rfl (resCells (b:=b4) (B:=rxV (sideI s) (i:Int) (.slice ac n kc) (.slice aw (nd 65536 wv) kw) (.slice ax (nd 65536 x) kx) (.slice ao no ko) (.slice (some ⟨b16,0,none⟩) 32 32)) rfl (ty rfl) rfl Has.go Seg.all rfl) (resTmp rfl) (by exact SubR.go2) ⟨b16,rfl,rfl⟩
end Go.Proofs.YtcpjfilcilcekaaGreatDoor
end
section
namespace Go.Sy
open Go
section
variable {P:Program}{f:FuncId}{args:List Value}{w:World}{b T:Nat}{C:List Value}{post post':Value->List Res->Prop}
theorem Fn.touch (hC:(Res.blk b T C).holds w) (h:Fn P f args w No post) (hp: ∀v R,post v R->R= []/\post' v [.blk b T C]):Fn P f args w (λx=>x=b) post':=
 Calls.mono h λ_ w' ⟨v,R,e,hv,hk,hh⟩=>by
  obtain ⟨rfl,hp'⟩:=hp v R hv
  have hb:(Res.blk b T C).holds w':=(hk.block b (Array.getElem?_eq_some_iff.1 hC).1 (λh=>h)).trans hC
  exact ⟨v,_,e,hp',hk.mono (λ_ h=>h.elim),Holds.cons Holds.nil hb (λ_ h=>absurd h List.not_mem_nil) (λx hx=> .inr (show x=b from Eq.symm hx))⟩
theorem Fn.shut {post post':Value->List Res->Prop}(h:Fn P f args w No post) (hp: ∀v R,post v R->(R= []/\post' v [.row (.slice none 0 0) T 1 0 []])\/ ∃b xs n,R= [.blk b T xs]/\xs.length=n/\n<=1000/\post' v [.row (.slice (some ⟨b,0,none⟩) n n) T 1 n xs]):Fn P f args w No post':=
 Calls.mono h λ_ w' ⟨v,R,e,hv,hk,hh⟩=>by
  rcases hp v R hv with ⟨rfl,hp'⟩|⟨b,xs,n,rfl,hn,hn2,hp'⟩
  ·exact ⟨v,_,e,hp',hk,Holds.cons Holds.nil (World.ownsRow_nil w' 0 _ 1) (λ_ h=>absurd h List.not_mem_nil) (λx hx=>by cases hx)⟩
  ·have hb:w'.heap[b]?=some (.cells xs.toArray T (0,0)):=hh.all _ List.mem_cons_self
   refine ⟨v,_,e,hp',hk,Holds.cons Holds.nil ?_ (λ_ h=>absurd h List.not_mem_nil) (λx hx=>hh.mine _ List.mem_cons_self x (by cases hx;rfl))⟩
   exact ⟨by rw [hn,Nat.mul_one],.inr ⟨b,n,_,rfl,Nat.zero_le _,hb,Nat.le_refl _,by unfold maxLen;omega,by simpa using hn,by simp [<-hn]⟩⟩
end
end Go.Sy
namespace Go.Proofs.YtcpjfilcilcekaaGreatDoor
open Go Go.Sy Go.Sh Go.Nt Go.RowKit
attribute [local irreducible] Sy SyL SyX Sy.Fn callFunc natC rowN refC iC gP gQ gL memB safeC fixB Sh.sum HashIs pkPt pkH pkQ firstN dblock hmac pkW pkX pkOwn pkDer pkSh pkD pkC pkName pkKey zG
set_option maxRecDepth 10000
def pkOk (i:Nat) (lp:List UInt8):Prop:=lp.length=gL i/\memB (gP i) (gQ i) (bev 256 (bn lp))=true/\bev 256 (bn lp)≠1
instance (i:Nat) (lp:List UInt8):Decidable (pkOk i lp):=by unfold pkOk;infer_instance
def pkDg (s:Bool) (i wv x:Nat) (ctx own lp:List UInt8):List UInt8:=pkD i ctx s own lp (fixB (gL i) (pkSh s i wv x (bev 256 (bn lp)))) (fixB (gL i) wv)
def pkFin (s:Bool) (i wv x:Nat) (ctx own hl lp:List UInt8):Int×List UInt8:=
 if hl= [] then (if pkOk i lp then (0,pkDg s i wv x ctx own lp) else (6,[])) else (8,hl)
def HOk (hl:List UInt8):Prop:=hl= []\/hl.length=32
def stG (hl:List UInt8):List Value:=if hl= [] then zG else hl.map v8
def stB (hl:List UInt8):Bool:=decide (hl≠[])
theorem zht:zG.length=32:=by unfold zG;rfl
theorem zgI (s:Bool) (i wv x:Nat) (ctx own lp:List UInt8):(pkDg s i wv x ctx own lp).length=32:=by unfold pkDg;exact zhF _ _ _ _ _ _ _
theorem zlv {l:List UInt8}(h:l.length=32):l≠[]:=λe=>by rw [e] at h;cases h
theorem HOk.len {hl:List UInt8}(h:HOk hl) (hn:hl≠[]):hl.length=32:=h.resolve_left hn
theorem znX {s:Bool}{i wv x:Nat}{ctx own hl lp:List UInt8}(h:HOk hl):HOk (pkFin s i wv x ctx own hl lp).2:=by
 unfold pkFin
 split
 ·split
  ·exact .inr (zgI ..)
  ·exact .inl rfl
 ·exact h
theorem zpq {hl:List UInt8}(h:HOk hl):(stG hl).length=32:=by
 unfold stG
 split
 ·exact zht
 ·rw [List.length_map];exact h.len (by assumption)
theorem zpX {hl:List UInt8} :(stG hl).all (·.oneCell')=true:=by
 unfold stG
 split
 ·unfold zG;rfl
 ·exact one8 hl
theorem zdu:stG []=zG/\stB []=false:=⟨if_pos rfl,rfl⟩
theorem zcy {hl:List UInt8}(h:hl≠[]):stG hl=hl.map v8/\stB hl=true:=⟨if_neg h,decide_eq_true h⟩
theorem zpA {i:Nat}{lp:List UInt8}(h0:1<=i) (h5:i<=4) (h: ¬pkOk i lp):(gel (i:Int) lp).1 < 18446744073709551616 ^ 16/\((gel (i:Int) lp).2≠0\/(gel (i:Int) lp).1=1):=by
 have w0:0 < 18446744073709551616 ^ 16:=Nat.pow_pos (by decide)
 unfold gel
 rw [if_pos ⟨by omega,by omega⟩,Int.toNat_natCast]
 split
 ·exact ⟨w0,.inl (by decide)⟩
 ·split
  ·exact ⟨w0,.inl (by decide)⟩
  ·split
   ·rename_i h1 h2 h3
    refine ⟨zbI h0 h5 h3,.inr (Classical.byContradiction λhn=>h ⟨by omega,h3,hn⟩)⟩
   ·exact ⟨w0,.inl (by decide)⟩
theorem zoz (bx i:Nat) (sx so sp:Bs) (hl:List UInt8) (s:Bool) (x wv:Nat) (w:World) (h0:1<=i) (h5:i<=4) (hH:HOk hl) (hX:XIs bx i sx (stB hl) (stG hl) s x wv so w) (hx:x < gQ i) (hw:wv < gQ i)
  (hps: ∀t∈[sx,so,sp],SlF w (λz=>z=bx) t.a (t.l.map v8)/\t.l.length=t.n/\t.n<=t.c/\(t.a=none->t.c=0)/\t.n<=10000) (hT:Tab w (λz=>z=bx)) (hGT: ∀w',Keep (λz=>z=bx) w w'->GT w'):
  Sy.Fn Tryz.prog 15 [.pointer (some ⟨bx,0,none⟩),sp.val] w (λz=>z=bx) (λv R=>v= .int .i64 (pkFin s i wv x sx.l so.l hl sp.l).1/\
   R= [.blk bx 75 (pkC i sx (stB (pkFin s i wv x sx.l so.l hl sp.l).2) (stG (pkFin s i wv x sx.l so.l hl sp.l).2) s x wv so)]):=by
 by_cases hn:hl= []
 ·subst hn
  obtain ⟨p1,p2,p3,p4,p5⟩:=hps sp (by simp)
  rw [zdu.1,zdu.2] at hX
  have hGT0:=λw' (hk:Keep No w w')=>hGT w' (hk.mono (λ_ h=>h.elim))
  by_cases ho:pkOk i sp.l
  ·have hgel:=λw' (hk:Keep (λz=>z=bx) w w')=>zey i sp.a sp.n sp.c sp.l w' h0 h5 (hGT w' hk) (by rw [<-p2];exact ho.1) p2 p3 (p1.to (Mi:=No) hk (λ_ h=>h.elim)).sla ho.2.1
   have:=zkz bx i sx zG s x wv (bev 256 (bn sp.l)) so sp w h0 h5 zht hX ho.2.2 ho.2.1 hx hw hgel hps hT hGT
   have hD:pkDig i sx.l (if s then so else sp).l (if s then sp else so).l (fixB (gL i) (pkSh s i wv x (bev 256 (bn sp.l)))) (fixB (gL i) wv)=pkDg s i wv x sx.l so.l sp.l:=by
    unfold pkDg pkD;cases s <;> rfl
   rw [hD] at this
   have hne:=zlv (zgI s i wv x sx.l so.l sp.l)
   unfold pkFin
   rw [if_pos rfl,if_pos ho,(zcy hne).1,(zcy hne).2]
   exact this
  ·obtain ⟨g1,g2⟩:=zpA h0 h5 ho
   have hgel:=λw' (hk:Keep No w w')=>zqD (i:Int) sp.a sp.n sp.c sp.l w' (hGT0 w' hk) p2 p3 (p1.to (Mi:=No) (hk.mono (λ_ h=>h.elim)) (λ_ h=>h.elim)).sla
   have:=zkS bx i sx zG s x wv (gel (i:Int) sp.l).1 (gel (i:Int) sp.l).2 so sp w zht hX g1 g2 hgel
   unfold pkFin
   rw [if_pos rfl,if_neg ho]
   refine Fn.touch hX this λv R h=>?_
   obtain ⟨rfl,rfl⟩:=h
   exact ⟨rfl,rfl,by rw [zdu.1,zdu.2]⟩
 ·rw [(zcy hn).1,(zcy hn).2] at hX
  have hl32:=hH.len hn
  have:=zj1 (some ⟨bx,0,none⟩) 8 sp.val w (by decide) (zi0 bx s w (hX.c35 (by rw [List.length_map,hl32])) hX.c2)
  unfold pkFin
  rw [if_neg hn]
  refine Fn.touch hX this λv R h=>?_
  obtain ⟨rfl,rfl⟩:=h
  exact ⟨rfl,rfl,by rw [(zcy hn).1,(zcy hn).2]⟩
theorem zjN {B0:Nat}{w:World}{M:Nat->Prop}{E n c:Nat}{a:Option Addr}{l:List UInt8}{L:List Res}(hh:Holds B0 M L w) (hL:Has L (.row (.slice a n c) E 1 n (l.map v8))) (hl:l.length=n):(⟨a,n,c,l⟩:Bs).ok w:=
 ⟨hl,Row.cap hh hL,zu hh hL,Row.none hh hL⟩
def HS (w:World) (hl:List UInt8) (ah:Option Addr) (kh:Nat):Prop:=hl≠[]->hl.length<=kh/\SlA w ah (hl.map v8)
theorem znb {B0:Nat}{w:World}{M:Nat->Prop}{E kh kr:Nat}{ah ar:Option Addr}{D:List UInt8}{L:List Res}(hh:Holds B0 M L w) (q:Has L (.row (.slice ar D.length kr) E 1 D.length (D.map v8))) (h:D= []\/ah=ar/\kh=kr):HS w D ah kh:=λhn=>by
 obtain ⟨rfl,rfl⟩:=h.resolve_left hn
 exact ⟨Row.cap hh q,zu hh q⟩
theorem zor (s:Bool) (i:Nat) (ac aw ax ao az ap:Option Addr) (n kc kw kx no ko kz np kp wv x kb kt kk:Nat) (ctx own lp:List UInt8) (w:World) (h0:1<=i) (h5:i<=4) (hR:RTab w No kb kt kk)
  (hc:(⟨ac,n,kc,ctx⟩:Bs).ok w) (ho:(⟨ao,no,ko,own⟩:Bs).ok w) (hp:(⟨ap,np,kp,lp⟩:Bs).ok w) (hn:n<=4096) (hno:no<=200) (hnp:np<=128) (hw:SlA w aw (refC wv)) (hx:SlA w ax (refC x)) (hqw:wv < gQ i) (hqx:x < gQ i):
  Sy.Fn Tryz.prog 14 [.agg (rxV (sideI s) (i:Int) (.slice ac n kc) (.slice aw (nd 65536 wv) kw) (.slice ax (nd 65536 x) kx) (.slice ao no ko) (.slice az 0 kz)).toArray,.slice ap np kp] w No (λv R=>∃ah kh ar kr,
   v= .tuple #[.agg (rxV (sideI s) (i:Int) (.slice ac n kc) (.slice aw (nd 65536 wv) kw) (.slice ax (nd 65536 x) kx) (.slice ao no ko) (.slice ah (pkFin s i wv x ctx own [] lp).2.length kh)).toArray,.int .i64 (pkFin s i wv x ctx own [] lp).1]/\
   R= [.row (.slice ar (pkFin s i wv x ctx own [] lp).2.length kr) 66 1 (pkFin s i wv x ctx own [] lp).2.length ((pkFin s i wv x ctx own [] lp).2.map v8)]/\((pkFin s i wv x ctx own [] lp).2= []\/ah=ar/\kh=kr)):=by
 unfold pkFin
 rw [if_pos rfl]
 by_cases hok:pkOk i lp
 ·rw [if_pos hok]
  have hpl:lp.length=np:=hp.len
  refine Fn.shut (T:=66) (zp3 s i ac aw ax ao az ap n kc kw kx no ko kz np kp wv x kb kt kk ctx own lp w h0 h5 hR hc ho hp hn hno hw hx hqw hqx (by rw [<-hpl];exact hok.1) hok.2.1 hok.2.2) ?_
  rintro v R ⟨b,rfl,rfl⟩
  have hl:=zgI s i wv x ctx own lp
  refine .inr ⟨b,_,32,rfl,by rw [List.length_map];exact hl,by decide,some ⟨b,0,none⟩,32,some ⟨b,0,none⟩,32,?_,?_,.inr ⟨rfl,rfl⟩⟩
  ·show _=Value.tuple #[.agg (rxV _ _ _ _ _ _ (.slice _ (pkDg s i wv x ctx own lp).length 32)).toArray,_]
   rw [hl]
  ·show _= [Res.row (.slice _ (pkDg s i wv x ctx own lp).length 32) _ 1 (pkDg s i wv x ctx own lp).length ((pkDg s i wv x ctx own lp).map v8)]
   rw [hl];rfl
 ·rw [if_neg hok]
  refine Fn.shut (T:=66) (zpK s i _ _ _ _ az ap kz np kp lp w h0 h5 hp.len hnp hp.sla rfl (λh=>hok ⟨by rw [hp.len];exact h.1,h.2⟩)) ?_
  rintro v R ⟨rfl,rfl⟩
  exact .inl ⟨rfl,az,kz,none,0,rfl,rfl,.inl rfl⟩
theorem zlO (bx i:Nat) (sx so:Bs) (hl:List UInt8) (s:Bool) (x wv:Nat) (z:Int) (s1 s2 s3 s4:Value) (ah ak:Option Addr) (kh m ck kb kt kk:Nat) (l:List UInt8) (w:World) (hT:Tab w No) (hR:RTab w No kb kt kk)
  (hX:XIs bx i sx (stB hl) (stG hl) s x wv so w) (hH:HOk hl) (hs:HS w hl ah kh) (hm:l.length=m) (hm2:m < 1000000) (hsk:SlA w ak (l.map v8)):
  Sy.Fn Tryz.prog 16 [.pointer (some ⟨bx,0,none⟩),.agg (rxV (sideI s) z s1 s2 s3 s4 (.slice ah hl.length kh)).toArray,.slice ak m ck] w No (Gives (.bool true)):=by
 by_cases hn:hl= []
 ·subst hn
  rw [zdu.1,zdu.2] at hX
  exact zma bx i sx so zG s x wv (sideI s) z s1 s2 s3 s4 (.slice ak m ck) ah kh w zht hX
 ·obtain ⟨h1,h2⟩:=hs hn
  have h32:=hH.len hn
  rw [(zcy hn).1,(zcy hn).2] at hX
  rw [h32] at h1 ⊢
  exact zmp bx i sx so hl s x wv z s1 s2 s3 s4 ah ak kh m ck kb kt kk l w h32 hT hR hX h1 h2 hm hm2 hsk
section
variable {L X:List Res}{w0 w:World}{bx i:Nat}{ac ao:Option Addr}{n kc no ko x wv:Nat}{ctx own hl:List UInt8}{s:Bool}{sp:Bs}
theorem zqe (hk:Keep No w0 w) (hh:Holds w0.heap.size No (L ++ X) w) (hG:GT w0) (hT:Tab w0 No) (h0:1<=i) (h5:i<=4) (hx:x < gQ i) (hw:wv < gQ i) (hn:ctx.length=n) (hn2:n<=4096) (ho:own.length=no) (ho2:no<=200) (hH:HOk hl)
  (hX:Has L (.blk bx 75 (pkC i ⟨ac,n,kc,ctx⟩ (stB hl) (stG hl) s x wv ⟨ao,no,ko,own⟩))) (hrc:Has L (.row (.slice ac n kc) 5 1 n (ctx.map v8))) (hro:Has L (.row (.slice ao no ko) 5 1 no (own.map v8)))
  (hp:SlF w (λz=>z=bx) sp.a (sp.l.map v8)/\sp.l.length=sp.n/\sp.n<=sp.c/\(sp.a=none->sp.c=0)/\sp.n<=10000):
  Sy.Fn Tryz.prog 15 [.pointer (some ⟨bx,0,none⟩),sp.val] w (λz=>z=bx) (λv R=>v= .int .i64 (pkFin s i wv x ctx own hl sp.l).1/\
   R= [.blk bx 75 (pkC i ⟨ac,n,kc,ctx⟩ (stB (pkFin s i wv x ctx own hl sp.l).2) (stG (pkFin s i wv x ctx own hl sp.l).2) s x wv ⟨ao,no,ko,own⟩)]):=by
 refine zoz bx i ⟨ac,n,kc,ctx⟩ ⟨ao,no,ko,own⟩ sp hl s x wv w h0 h5 hH (hh.has (Has.append hX)) hx hw (λt ht=>?_) (hT.to hk (hh.one hX)) (λw2 hk2=>zlP hG hk hh hX hk2)
 simp only [List.mem_cons,List.not_mem_nil,or_false] at ht
 rcases ht with rfl|rfl|rfl
 ·exact ⟨SlF.rowB hh hX hrc,hn,Row.cap hh (Has.append hrc),λh=>(Row.nil hh (Has.append hrc) h).1,by show n<=10000;omega⟩
 ·exact ⟨SlF.rowB hh hX hro,ho,Row.cap hh (Has.append hro),λh=>(Row.nil hh (Has.append hro) h).1,by show no<=10000;omega⟩
 ·exact hp
end
end Go.Proofs.YtcpjfilcilcekaaGreatDoor
end
