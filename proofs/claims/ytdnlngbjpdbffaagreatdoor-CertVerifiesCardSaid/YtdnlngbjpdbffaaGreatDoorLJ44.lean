/- The laws of certificates: the examples' plain facts. -/
import Derived.Test.YtdnlngbjpdbffaaGreatDoorLJ43
import Derived.Test.YtdnlngbjpdbffaaGreatDoorLJ41
set_option maxHeartbeats 4000000
set_option maxRecDepth 10000
set_option linter.all false
section
namespace Go.Ct
open Go Go.Sy
def kP (s:List UInt8):Prin:=⟨[s],[82]⟩
def kC (s:List UInt8):Cert:=⟨1,kP [99,97],kP [97],10,100,false,1,[0,16],s⟩
def kD (s:List UInt8):Cert:=⟨2,kP [97],kP [98],10,100,false,1,[0,16],s⟩
def kA:Anch:=⟨kP [99,97],1,[4,193]⟩
def kR:Revo:=⟨kP [99,97],1⟩
theorem zpH:(kP [99,97]).ok=true:=by decide
theorem zrt:(kP [97]).ok=true:=by decide
theorem zsl:(kP [98]).ok=true:=by decide
theorem kI1:derI (1:Int).toNat= [2,1,1]:=by
 unfold derI;rw [zcc q_e];rfl
theorem kI2:derI (2:Int).toNat= [2,1,2]:=by
 unfold derI;rw [zcc q_e];rfl
theorem zhw (s:List UInt8):(kC s).body.length=76:=by
 have h:(kC s).body=derQ [derG 0 [2,1,1],derG 1 (kP [99,97]).der,derG 2 (kP [97]).der,derG 3 (derT 10),derG 4 (derT 100),derG 5 (derB false),derG 6 [2,1,1],derG 7 (derO [0,16])]:=by
  show derQ [derG 0 (derI (1:Int).toNat),_,_,_,_,_,derG 6 (derI (1:Int).toNat),_]=_;rw [kI1];rfl
 rw [h];decide
theorem zqM (s:List UInt8):(kD s).body.length<=100:=by
 have h:(kD s).body=derQ [derG 0 [2,1,2],derG 1 (kP [97]).der,derG 2 (kP [98]).der,derG 3 (derT 10),derG 4 (derT 100),derG 5 (derB false),derG 6 [2,1,1],derG 7 (derO [0,16])]:=by
  show derQ [derG 0 (derI (2:Int).toNat),_,_,_,_,_,derG 6 (derI (1:Int).toNat),_]=_;rw [kI1,kI2];rfl
 rw [h];decide
theorem zrR {s:List UInt8}(hs:s.length=4):(kC s).der.length=88:=by
 have hb:=zhw s;unfold Cert.der;generalize (kC s).body=b at *;have e:(kC s).sig=s:=rfl;rw [e];unfold derQ derG derO;simp only [List.flatten_cons,List.flatten_nil,List.append_nil,tlv,List.length_cons,List.length_append,hb,hs];have d4:(derL 4).length=1:=rfl;have d76:(derL 76).length=1:=rfl;have d6:(derL (4+1+1)).length=1:=rfl;rw [d4,d76];rfl
section
variable {sv:Int->List UInt8->Bool}{sf:Int->List UInt8->List UInt8->List UInt8->Bool}
theorem ziM {s:List UInt8}(hs:s.length<=192) (h:sv 1 [0,16]=true):(kC s).ok sv=true:=by
 show (decide (0<=(1:Int)) && decide ((1:Int)<=4611686018427387904) && (kP [99,97]).ok && (kP [97]).ok && decide (0<=(10:Int)) && decide ((10:Int)<=100) && decide ((100:Int)<=1099511627776) && decide (s.length<=192) && sv 1 [0,16])=true;rw [zpH,zrt,h,decide_eq_true hs];rfl
theorem zl2 {s:List UInt8}(hs:s.length<=192) (h:sv 1 [0,16]=true):(kD s).ok sv=true:=by
 show (decide (0<=(2:Int)) && decide ((2:Int)<=4611686018427387904) && (kP [97]).ok && (kP [98]).ok && decide (0<=(10:Int)) && decide ((10:Int)<=100) && decide ((100:Int)<=1099511627776) && decide (s.length<=192) && sv 1 [0,16])=true;rw [zsl,zrt,h,decide_eq_true hs];rfl
variable {s t:List UInt8}(hs:s.length<=192) (ht:t.length<=192) (h16:sv 1 [0,16]=true) (hA:sv 1 [4,193]=true) (hf:sf 1 [4,193] (kC s).body s=true)
theorem zpI (hA:sv 1 [4,193]=true):Anch.ok sv kA=true:=by
 show ((kP [99,97]).ok && sv 1 [4,193])=true;rw [zpH,hA];rfl
include hs h16 hA
theorem znh (an:List Anch) (rs:List Revo) (now:Int) (ha:an= [kA]\/an= []) (hr:rs.length<=64) (h0:0<=now) (h1:now<=1099511627776):vargs sv [kC s] an rs now=true:=by
 have e:an.length<=64/\an.all (Anch.ok sv)=true:=by
  rcases ha with rfl|rfl
  ·exact ⟨by decide,by rw [List.all_cons,zpI hA];rfl⟩
  ·exact ⟨by decide,rfl⟩
 have hc:chainOk sv [kC s]=true:=by unfold chainOk;rw [List.all_cons,ziM hs h16];rfl
 unfold vargs;rw [hc,e.2,decide_eq_true e.1,decide_eq_true hr,decide_eq_true h0,decide_eq_true h1];rfl
theorem zrH (now:Int) (h0:0<=now) (h1:now<=1099511627776):verify sf sv [kC s] [] [] now=(0,220):=by
 unfold verify;rw [if_pos (znh hs h16 hA [] [] now (.inr rfl) q_e h0 h1)];rfl
include hf
theorem zl8 (rs:List Revo) (now:Int) (hr:rs.length<=64) (h0:0<=now) (h1:now<=1099511627776):verify sf sv [kC s] [kA] rs now=(0,if now < 10\/100 < now then 222 else if revd rs (kC s) then 223 else 0):=by
 unfold verify;rw [if_pos (znh hs h16 hA [kA] rs now (.inl rfl) hr h0 h1)];show vwalk sf rs now [kC s] (anch [kA] (kP [99,97]))=_;have ha:anch [kA] (kP [99,97])=kA:=by
  unfold anch;have:([kA].find? λa=>a.name.same (kP [99,97]))=some kA:=by
   rw [List.find?_cons_of_pos];show (kP [99,97]).same (kP [99,97])=true;exact Prin.same_iff.2 rfl
  rw [this];rfl
 rw [ha];show (if vone sf (kC s) kA rs now true=0 then (0,0) else (0,vone sf (kC s) kA rs now true))=_;have hv:vone sf (kC s) kA rs now true=if now < 10\/100 < now then 222 else if revd rs (kC s) then 223 else 0:=by
  unfold vone;have h1:(kC s).issuer.same kA.name=true:=Prin.same_iff.2 rfl;have h2:sf kA.group kA.pub (kC s).body (kC s).sig=true:=hf;rw [h1,h2];show (if now < 10\/100 < now then 222 else if revd rs (kC s) then 223 else if (!true && !false)=true then 224 else 0)=_;simp
 rw [hv];generalize (if now < 10\/100 < now then (222:Int) else if revd rs (kC s) then 223 else 0)=E;by_cases hE:E=0
 ·rw [if_pos hE,hE]
 ·rw [if_neg hE]
include ht
theorem zsb:verify sf sv [kD t,kC s] [kA] [] 50=(1,224):=by
 unfold verify;have hc:chainOk sv [kD t,kC s]=true:=by unfold chainOk;rw [List.all_cons,List.all_cons,ziM hs h16,zl2 ht h16];rfl
 have hv:vargs sv [kD t,kC s] [kA] [] 50=true:=by
  unfold vargs;rw [hc,List.all_cons,zpI hA];rfl
 rw [if_pos hv];show vwalk sf [] 50 [kC s,kD t] (anch [kA] (kP [99,97]))=_;have ha:anch [kA] (kP [99,97])=kA:=by
  unfold anch;have:([kA].find? λa=>a.name.same (kP [99,97]))=some kA:=by
   rw [List.find?_cons_of_pos];show (kP [99,97]).same (kP [99,97])=true;exact Prin.same_iff.2 rfl
  rw [this];rfl
 rw [ha];show (if vone sf (kC s) kA [] 50 false=0 then vwalk sf [] 50 [kD t] _ else (1,vone sf (kC s) kA [] 50 false))=_;have hv:vone sf (kC s) kA [] 50 false=224:=by
  unfold vone;have h1:(kC s).issuer.same kA.name=true:=Prin.same_iff.2 rfl;have h2:sf kA.group kA.pub (kC s).body (kC s).sig=true:=hf;rw [h1,h2];rfl
 rw [hv];rfl
end
theorem zrU (s:List UInt8):revd [kR] (kC s)=true:=by
 have h:(kP [99,97]).same (kP [99,97])=true:=Prin.same_iff.2 rfl;show ((kP [99,97]).same (kP [99,97]) && decide ((1:Int)=1) || false)=true;rw [h];rfl
end Go.Ct
namespace Go.Proofs.YtdnlngbjpdbffaaGreatDoor
open Go Go.Sy Go.Ct Go.Nt Go.RowKit
theorem zj7:skey 1 [0,2]=true/\(gnum 1 [0,2]).1=2:=by
 have hg:gnum 1 [0,2]=(2,0):=by decide +kernel
 unfold skey;rw [hg];exact ⟨rfl,rfl⟩
theorem zrl:sPub 1 [0,2]=some [0,16]:=by
 unfold sPub;rw [if_pos zj7.1,zj7.2];have h:4 ^ 2 % gP (1:Int).toNat=0*256+16:=by decide +kernel
 rw [h];exact congrArg some (fix2 0 16 q_e q_e)
theorem zcV:svK 1 [0,16]=true:=by unfold svK;rw [zfY zrl];rfl
theorem zez:svK 1 [4,193]=true:=by unfold svK;rw [zfY zjn];rfl
theorem zrE (m:List UInt8) (hm:m.length<=65536): ∃s:List UInt8,sSig 1 [0,2] [7] m=some s/\s.length=4:=by
 have hg:gsca 1 [7]=(7,0):=by unfold gsca;rw [if_pos q_e];decide +kernel
 have hs:=zfo (z:=1) (pl:=[0,2]) (nl:=[7]) (ml:=m) zj7.1 (by rw [hg]) (by rw [hg];decide) hm;exact ⟨_,hs,zi0 hs⟩
attribute [local irreducible] Sy SyL SyX SyC SyF Sy.Fn callFunc
theorem zgq (e:Int) (w:World):Sy.Fn Tryz.prog 14 [.int .i64 e] w No (Gives (.int .i64 e)):=by
 refine zg Tryz.func14 rfl Tryz.ntmps14 q_p Holds.nil ?_;repeat' (first|refine s_0 ?_|(refine zB [0,1] ?_;refine za ?_))
 exact q_r
def PersR (l:List UInt8) (v:Value) (R:List Res):Prop:=∃b,v= .agg #[.slice (some ⟨b,0,none⟩) 1 1,.string (str [82])]/\R= [.blk b 9 [.string (str l)]]
theorem zmp (l:List UInt8) (w:World):Sy.Fn Tryz.prog 30 [.string (str l)] w No (PersR l):=by
 refine zg Tryz.func30 rfl Tryz.ntmps30 q_p Holds.nil ?_;repeat' (first|refine s_0 ?_|(refine zb 0 ?_;refine zj ?_;intro _)|(refine zb 1 (za ?_);(refine ys zt (k:=?_);rintro _ _ ⟨bL,rfl,rfl⟩);refine za4 ?_;refine zI ?_))
 exact ret1 rfl (resCells (B:=[.slice (some ⟨bL,0,none⟩) 1 1,.string (str [82])]) rfl (ty rfl) rfl Has.go Seg.all rfl) q_h ⟨bL,rfl,rfl⟩
theorem zoO (vs:List Value) (i e wi we:Int) (now:Int) (w:World) (v1 v2 v3:Value) (hv:vs= [v1,v2,v3,.int .i64 now]) (hc: ∀w',Keep No w w'->Sy.Fn Tryz.prog 25 vs w' No (Gives (.tuple #[.int .i64 i,.int .i64 e]))):
  Sy.Fn Tryz.prog 38 [v1,v2,v3,.int .i64 now,.int .i64 wi,.int .i64 we] w No (Gives (.bool (decide (i=wi) && decide (e=we)))):=by
 subst hv;refine zg Tryz.func38 rfl Tryz.ntmps38 q_p Holds.nil ?_;have hn:=λw'=>zgq e w';by_cases h:i=wi
 ·rw [decide_eq_true h,Bool.true_and];repeat' (first|refine s_0 ?_|(refine zb 0 (za ?_))|(refine zb 1 (za ?_);refine yv (zd (f:=25) (hc:=zr hc)) (k:=?_);refine za ?_)|(refine zb 2 (za ?_);refine yv (zX (hr:=decide_eq_true h)) (k:=za ?_);refine yv (zd (hc:=λ_ _ _ _=>(hn _))) (k:=?_);refine za ?_;refine zan ?_;refine za ?_))
  exact q_r
 ·rw [decide_eq_false h,Bool.false_and];repeat' (first|refine s_0 ?_|(refine zb 0 (za ?_))|(refine zb 1 (za ?_);refine yv (zd (f:=25) (hc:=zr hc)) (k:=?_);refine za ?_)|(refine zb 2 (za ?_);refine yv (zX (hr:=decide_eq_false h)) (k:=za ?_)))
  exact q_r
end Go.Proofs.YtdnlngbjpdbffaaGreatDoor
end
section
namespace Go.Sy
open Go
theorem Row.capmax {M:Nat->Prop}{B0:Nat}{w:World}{E n c s:Nat}{a:Option Addr}{xs:List Value}{L:List Res}(hh:Holds B0 M L w) (hL:Has L (.row (.slice a n c) E s n xs)):c<=maxLen:=by
 have hrow:w.ownsRow 0 E s (.slice a n c) n xs:=hh.has hL;obtain ⟨h1,⟨hv,h2⟩|⟨b,cc,cur,hv,_,h3,h4,h5,h6,h7⟩⟩:=hrow
 ·cases hv;exact Nat.zero_le _
 ·cases hv;exact h5
end Go.Sy
namespace Go.Ct
open Go Go.Sy
theorem lst0 {α β:Type}{cell:β->α->List Value}{At:World->β->α->Prop}{w:World} :LstAt cell At w none 0 [] []:=⟨rfl,Nat.le_refl _,λ_=>rfl,.inl rfl,λi p x h=>by simp at h⟩
theorem lst1 {α β:Type}{cell:β->α->List Value}{At:World->β->α->Prop}{w:World}{b:Nat}{p:β}{x:α}(h:w.rangeAt b 0 (cell p x)) (hx:At w p x):LstAt cell At w (some ⟨b,0,none⟩) 1 [p] [x]:=
 ⟨rfl,Nat.le_refl _,(λh=>by cases h),.inr ⟨b,0,rfl,by
  show w.rangeAt b 0 (cell p x ++ []);rw [List.append_nil];exact h⟩,λi p' x' e1 e2=>by
  cases i with
  |zero=>cases e1;cases e2;exact hx
  |succ i=>simp at e1⟩
theorem lst2 {α β:Type}{cell:β->α->List Value}{At:World->β->α->Prop}{w:World}{b:Nat}{p q:β}{x y:α}(h:w.rangeAt b 0 (cell p x ++ cell q y)) (hx:At w p x) (hy:At w q y):LstAt cell At w (some ⟨b,0,none⟩) 2 [p,q] [x,y]:=
 ⟨rfl,Nat.le_refl _,(λh=>by cases h),.inr ⟨b,0,rfl,by
  show w.rangeAt b 0 (cell p x ++ (cell q y ++ []));rw [List.append_nil];exact h⟩,λi p' x' e1 e2=>by
  match i,e1,e2 with
  |0,e1,e2=>cases e1;cases e2;exact hx
  |1,e1,e2=>cases e1;cases e2;exact hy
  |i+2,e1,e2=>simp at e1⟩
theorem ziO {w:World}{b:Nat}{s:List UInt8}(h:w.rangeAt b 0 [.string (str s)]) (hs:s.length<=1000):PrinIn w (prinL (some ⟨b,0,none⟩) 1 (kP s)) (kP s):=
 ⟨⟨some ⟨b,0,none⟩,1,rfl,Nat.le_refl _,by unfold maxLen;decide,.inr ⟨b,0,rfl,h⟩,λh=>by cases h⟩,by show 1<=maxLen;unfold maxLen;decide,λx hx=>by
  rw [List.mem_singleton.1 hx];unfold maxLen;omega⟩
theorem zet {w:World}{b n:Nat}{l:List UInt8}(h:w.rangeAt b 0 (l.map v8)) (hl:l.length=n):(⟨some ⟨b,0,none⟩,n,n,l⟩:Bs).ok w:=⟨hl,Nat.le_refl _,.inr ⟨b,0,rfl,h⟩,λh=>by cases h⟩
theorem zru {w:World} :(⟨none,0,0,[]⟩:Bs).ok w:=⟨rfl,Nat.le_refl _,.inl rfl,λ_=>rfl⟩
def kG (n:Int) (x y s:List UInt8):Cert:=⟨n,kP x,kP y,10,100,false,1,[0,16],s⟩
def kPl (bI bS bU:Nat):Pl:=⟨some ⟨bI,0,none⟩,1,some ⟨bS,0,none⟩,1,some ⟨bU,0,none⟩,2,none,0⟩
theorem zpG {w:World}{bI bS bU:Nat}{n:Int}{x y:List UInt8}(hn:(Lit.int .i64 n).wf=true) (h1:w.rangeAt bI 0 [.string (str x)]) (h2:w.rangeAt bS 0 [.string (str y)]) (h3:w.rangeAt bU 0 [.int .u8 0,.int .u8 16]) (hx:x.length<=1000) (hy:y.length<=1000):CertAt w (kPl bI bS bU) (kG n x y []):=
 ⟨ziO h1 hx,ziO h2 hy,zet (l:=[0,16]) h3 rfl,zru,hn,(by show (Lit.int .i64 10).wf=true;decide),(by show (Lit.int .i64 100).wf=true;decide),(by show (Lit.int .i64 1).wf=true;decide)⟩
theorem zfS (n:Int) (x y s:List UInt8) (hx:x.length<=1000) (hy:y.length<=1000):(kG n x y s).fine:=
 ⟨⟨by show 1 < 1000000;decide,by show 1 < 1000000000;decide,λz hz=>by rw [List.mem_singleton.1 hz];omega⟩,⟨by show 1 < 1000000;decide,by show 1 < 1000000000;decide,λz hz=>by rw [List.mem_singleton.1 hz];omega⟩⟩
end Go.Ct
namespace Go.Proofs.YtdnlngbjpdbffaaGreatDoor
open Go Go.Sy Go.Ct Go.Nt Go.RowKit
attribute [local irreducible] Sy SyL SyX SyC SyF Sy.Fn callFunc
section
variable {ro:Option Nat}{N:Nat}{w0:World}{M:Nat->Prop}{ds:List Deferred}{g:Nat->Option Value}{L:List Res}{o:Oper}
theorem zg6 {z0 z1 z2 z3 z4 z6 z7:Operand}{n f u k:Int}{x1 y1 x2 y2:Value}{a:Option Addr}{m c:Nat}(ho:o.op= .build 45 #[(0,z0),(1,z1),(2,z2),(3,z3),(4,z4),(6,z6),(7,z7)]:=by exact rfl) (h0:ev g z0=some (.int .i64 n):=by exact rfl) (h1:ev g z1=some (.agg #[x1,y1]):=by exact rfl) (h2:ev g z2=some (.agg #[x2,y2]):=by exact rfl) (h3:ev g z3=some (.int .i64 f):=by exact rfl) (h4:ev g z4=some (.int .i64 u):=by exact rfl) (h6:ev g z6=some (.int .i64 k):=by exact rfl) (h7:ev g z7=some (.slice a m c):=by exact rfl):
  OpT Tryz.prog ro N w0 M ds o g L (Det (.agg ([.int .i64 n,x1,y1,x2,y2,.int .i64 f,.int .i64 u,.bool false,.int .i64 k,.slice a m c,.slice none 0 0]:List Value).toArray) L):=
 zed (parts:=#[(0,z0),(1,z1),(2,z2),(3,z3),(4,z4),(6,z6),(7,z7)]) (vs:=[.int .i64 n,.agg #[x1,y1],.agg #[x2,y2],.int .i64 f,.int .i64 u,.int .i64 k,.slice a m c]) (C:=[.int .i64 n,x1,y1,x2,y2,.int .i64 f,.int .i64 u,.bool false,.int .i64 k,.slice a m c,.slice none 0 0]) (by exact (.cons (cs:=[.int .i64 n]) (off:=0) (n:=1) rfl rfl rfl (Nat.le_of_ble_eq_true rfl) (.cons (cs:=[x1,y1]) (off:=1) (n:=2) rfl rfl rfl (Nat.le_of_ble_eq_true rfl) (.cons (cs:=[x2,y2]) (off:=3) (n:=2) rfl rfl rfl (Nat.le_of_ble_eq_true rfl) (.cons (cs:=[.int .i64 f]) (off:=5) (n:=1) rfl rfl rfl (Nat.le_of_ble_eq_true rfl) (.cons (cs:=[.int .i64 u]) (off:=6) (n:=1) rfl rfl rfl (Nat.le_of_ble_eq_true rfl) (.cons (cs:=[.int .i64 k]) (off:=8) (n:=1) rfl rfl rfl (Nat.le_of_ble_eq_true rfl) (.cons (cs:=[.slice a m c]) (off:=9) (n:=1) rfl rfl rfl (Nat.le_of_ble_eq_true rfl) .nil)))))))) ho (by simp [evs,h0,h1,h2,h3,h4,h6,h7]) (ty rfl) rfl rfl (zc rfl)
end
theorem zpN {w w0:World}{M:Nat->Prop}{L X:List Res}{q:Pl}{c:Cert}(hh:Holds w0.heap.size M (L ++ X) w) (hL: ∀r∈certRows q c,r∈L) (hi:c.issuer.parts.length<=maxLen) (hrng:((Lit.int .i64 c.serial).wf=true/\(Lit.int .i64 c.fr).wf=true/\(Lit.int .i64 c.til).wf=true/\(Lit.int .i64 c.group).wf=true))
  (h1:c.issuer.realm.length<=maxLen/\ ∀x∈c.issuer.parts,x.length<=maxLen) (h2:c.subject.realm.length<=maxLen/\ ∀x∈c.subject.parts,x.length<=maxLen):CertAt w q c:=by
 have m1:Has (L ++ X) (.row (.slice q.a1 c.issuer.parts.length q.k1) 9 1 c.issuer.parts.length (c.issuer.parts.map strV)):=List.mem_append_left _ (hL _ (by simp [certRows]));have m2:Has (L ++ X) (.row (.slice q.a2 c.subject.parts.length q.k2) 9 1 c.subject.parts.length (c.subject.parts.map strV)):=List.mem_append_left _ (hL _ (by simp [certRows]));have m3:Has (L ++ X) (.row (.slice q.a3 c.pub.length q.k3) 5 1 c.pub.length (c.pub.map v8)):=List.mem_append_left _ (hL _ (by simp [certRows]));have m4:Has (L ++ X) (.row (.slice q.a4 c.sig.length q.k4) 5 1 c.sig.length (c.sig.map v8)):=List.mem_append_left _ (hL _ (by simp [certRows]));exact ⟨⟨⟨q.a1,q.k1,rfl,Row.cap hh m1,Row.capmax hh m1,(SlF.row (Mi:=No) hh m1 (λ_ h=>h.elim)).sla,λh=>(Row.nil hh m1 h).1⟩,h1⟩,⟨⟨q.a2,q.k2,rfl,Row.cap hh m2,Row.capmax hh m2,(SlF.row (Mi:=No) hh m2 (λ_ h=>h.elim)).sla,λh=>(Row.nil hh m2 h).1⟩,h2⟩,rowBs hh rfl m3,rowBs hh rfl m4,hrng⟩
theorem zkR {w w0:World}{M:Nat->Prop}{L X:List Res}{q:Pl}{n:Int}{x y s:List UInt8}(hn:(Lit.int .i64 n).wf=true) (hx:x.length<=1000) (hy:y.length<=1000) (hh:Holds w0.heap.size M (L ++ X) w) (hL: ∀r∈certRows q (kG n x y s),r∈L):CertAt w q (kG n x y s):=
 zpN hh hL (by show 1<=maxLen;unfold maxLen;decide) ⟨hn,(by show (Lit.int .i64 10).wf=true;decide),(by show (Lit.int .i64 100).wf=true;decide),(by show (Lit.int .i64 1).wf=true;decide)⟩ ⟨by show 1<=maxLen;unfold maxLen;decide,λz hz=>by rw [List.mem_singleton.1 hz];unfold maxLen;omega⟩ ⟨by show 1<=maxLen;unfold maxLen;decide,λz hz=>by rw [List.mem_singleton.1 hz];unfold maxLen;omega⟩
theorem zl5 (w:World) (hG:GT w) (hT:Tab w No) (hS:ST w):Sy.Fn Tryz.prog 11 [] w No (Gives (.bool true)):=by
 refine zg Tryz.func11 rfl Tryz.ntmps11 q_p Holds.nil ?_;have hp:=λl w'=>zmp l w';unfold PersR at hp;have hca:=hp [99,97];have ha:=hp [97];have hbb:=hp [98];obtain ⟨s,hs1,hs4,hsv,-⟩:=zr2 (kG 1 [99,97] [97] []).body (by have:=zhw [];rw [show (kG 1 [99,97] [97] []).body=(kC []).body from rfl];omega);obtain ⟨t,ht1,ht4⟩:=zrE (kG 2 [97] [98] []).body (by have:=zqM [];rw [show (kG 2 [97] [98] []).body=(kD []).body from rfl];omega);have hiss1: ∀w' (_:Keep No w w') p (_:CertAt w' p (kG 1 [99,97] [97] [])) (pr no:Bs) (_:pr.ok w') (_:no.ok w') (_:pr.l= [0,6]) (_:no.l= [7]) (_:no.n<=1000),Sy.Fn Tryz.prog 20 [.agg (certL p (kG 1 [99,97] [97] [])).toArray,.int .i64 1,pr.val,no.val] w' No (CertE (kG 1 [99,97] [97] s)):=λw' hk p h pr no hpr hno e1 e2 e3=>zhX p (kG 1 [99,97] [97] []) 1 pr no s w' (hG.to hk) (hT.no hk) h (zfS _ _ _ _ q_e q_e) hpr hno e3 (ziM (s:=[]) q_e zcV) (by rw [e1,e2];exact hs1);have hiss2: ∀w' (_:Keep No w w') p (_:CertAt w' p (kG 2 [97] [98] [])) (pr no:Bs) (_:pr.ok w') (_:no.ok w') (_:pr.l= [0,2]) (_:no.l= [7]) (_:no.n<=1000),Sy.Fn Tryz.prog 20 [.agg (certL p (kG 2 [97] [98] [])).toArray,.int .i64 1,pr.val,no.val] w' No (CertE (kG 2 [97] [98] t)):=λw' hk p h pr no hpr hno e1 e2 e3=>zhX p (kG 2 [97] [98] []) 1 pr no t w' (hG.to hk) (hT.no hk) h (zfS _ _ _ _ q_e q_e) hpr hno e3 (zl2 (s:=[]) q_e zcV) (by rw [e1,e2];exact ht1);unfold CertE at hiss1 hiss2;have hl1:s.length<=192:=q_o;have hl2:t.length<=192:=q_o;have ok1:(kG 1 [99,97] [97] s).ok svK=true:=ziM hl1 zcV;have ok2:(kG 2 [97] [98] t).ok svK=true:=zl2 hl2 zcV;have fine1:=zfS 1 [99,97] [97] s q_e q_e;have fine2:=zfS 2 [97] [98] t q_e q_e;have hsf:sfK 1 [4,193] (kG 1 [99,97] [97] s).body s=true:=by unfold sfK;exact decide_eq_true hsv
 have hder:(kG 1 [99,97] [97] s).der.length=88:=zrR hs4;have hbod:(kG 1 [99,97] [97] s).body.length=76:=zhw s;have hv1:verify sfK svK [kG 1 [99,97] [97] s] [kA] [] 10=(0,0):=zl8 hl1 zcV zez hsf [] 10 q_e q_e q_e;have hv2:verify sfK svK [kG 1 [99,97] [97] s] [kA] [] 101=(0,222):=zl8 hl1 zcV zez hsf [] 101 q_e q_e q_e;have hv3:verify sfK svK [kG 1 [99,97] [97] s] [kA] [kR] 50=(0,223):=by
  have:=zl8 hl1 zcV zez hsf [kR] 50 q_e q_e q_e;rw [zrU] at this;exact this
 have hv4:verify sfK svK [kG 1 [99,97] [97] s] [] [] 50=(0,220):=zrH hl1 zcV zez 50 q_e q_e;have hv5:verify sfK svK [kG 2 [97] [98] t,kG 1 [99,97] [97] s] [kA] [] 50=(1,224):=zsb hl1 hl2 zcV zez hsf;have hfa: ∀x∈[kA],x.name.fine:=λx hx=>by rw [List.mem_singleton.1 hx];exact ⟨by show 1 < 1000000;decide,by show 1 < 1000000000;decide,λz hz=>by rw [List.mem_singleton.1 hz];decide⟩
 have hfr: ∀x∈[kR],x.issuer.fine:=λx hx=>by rw [List.mem_singleton.1 hx];exact ⟨by show 1 < 1000000;decide,by show 1 < 1000000000;decide,λz hz=>by rw [List.mem_singleton.1 hz];decide⟩
 -- what is asked of Verify
 have hver: ∀w' (_:Keep No w w') (l:List Cert) (ps:List Pl) (an:List Anch) (pas:List Pa) (rs:List Revo) (prs:List (Option Addr×Nat)) (a aa ar:Option Addr) (n c na ca nr cr:Nat) (now i e wi we:Int),l.length=n->an.length=na->rs.length=nr->ChainAt w' a c ps l->AnchsAt w' aa ca pas an->RevosAt w' ar cr prs rs->(∀x∈l,x.fine)->(∀x∈an,x.name.fine)->(∀x∈rs,x.issuer.fine)->n < 1000->na < 1000->nr < 1000->verify sfK svK l an rs now=(i,e)->i=wi->e=we->
   Sy.Fn Tryz.prog 38 [.slice a n c,.slice aa na ca,.slice ar nr cr,.int .i64 now,.int .i64 wi,.int .i64 we] w' No (Gives (.bool true)):=by
  intro w' hk l ps an pas rs prs a aa ar n c na ca nr cr now i e wi we h1 h2 h3 hc hA hR f1 f2 f3 b1 b2 b3 hv hi he;subst hi;subst he;have:=zoO [.slice a n c,.slice aa na ca,.slice ar nr cr,.int .i64 now] i e i e now w' _ _ _ rfl (λw'' hk'=>by
   have:=zgU a aa ar n c na ca nr cr ps l pas an prs rs now w'' ((hG.to hk).to hk') ((hT.no hk).no hk') ((hS.to hk).to hk') h1 h2 h3 (hc.keep hk' (λp x hx=>hx.keep hk')) (hA.keep hk' (λp x hx=>hx.keep hk')) (hR.keep hk' (λp x hx=>hx.keep hk')) f1 f2 f3 b1 b2 b3;rw [hv] at this;exact this)
  rw [decide_eq_true rfl,decide_eq_true rfl] at this;exact this
 repeat' (first|refine s_0 ?_|(refine zb 0 (za ?_)))
 repeat' (first|refine s_0 ?_|(refine zb 1 ?_;(refine ys (zh (f:=30) (hc:=λw' X hk hh=>hca w')) (k:=?_);rintro _ _ ⟨R,rfl,bP,rfl,rfl⟩);(refine ys (zt (vs:=[.int .u8 4,.int .u8 193])) (k:=?_);rintro _ _ ⟨bX,rfl,rfl⟩);refine za4 ?_;(refine ys (zby (vs:=[.agg [.slice (some ⟨bP,0,none⟩) 1 1,.string (str [82]),.int .i64 1,.slice (some ⟨bX,0,none⟩) 2 2].toArray]) (zdS (s:=4) rfl rfl)) (k:=?_);rintro _ _ ⟨bA,rfl,rfl⟩);refine za ?_))
 repeat' (first|(refine zb 2 ?_;(refine ys (zh (f:=30) (hc:=λw' X hk hh=>hca w')) (k:=?_);rintro _ _ ⟨R,rfl,bI,rfl,rfl⟩);(refine ys (zh (f:=30) (hc:=λw' X hk hh=>ha w')) (k:=?_);rintro _ _ ⟨R,rfl,bS,rfl,rfl⟩);(refine ys (zt (vs:=[.int .u8 0,.int .u8 16])) (k:=?_);rintro _ _ ⟨bU,rfl,rfl⟩);refine yv zg6 (k:=?_);(refine ys (zt (vs:=[.int .u8 0,.int .u8 6])) (k:=?_);rintro _ _ ⟨bK,rfl,rfl⟩);(refine ys (zt (vs:=[.int .u8 7])) (k:=?_);rintro _ _ ⟨bN,rfl,rfl⟩)))
 refine ys (zh (f:=20) (vs:=[.agg (certL (kPl bI bS bU) (kG 1 [99,97] [97] [])).toArray,.int .i64 1,.slice (some ⟨bK,0,none⟩) 2 2,.slice (some ⟨bN,0,none⟩) 1 1]) (hc:=λw' X hk hh=>hiss1 w' hk (kPl bI bS bU) (zpG q_e (zp (hh.has (r:=.blk bI 9 [.string (str [99,97])]) q_h) Seg.all) (zp (hh.has (r:=.blk bS 9 [.string (str [97])]) q_h) Seg.all) (zp (hh.has (r:=.blk bU 5 [.int .u8 0,.int .u8 16]) q_h) Seg.all) q_e q_e)
  ⟨some ⟨bK,0,none⟩,2,2,[0,6]⟩ ⟨some ⟨bN,0,none⟩,1,1,[7]⟩ (zet (l:=[0,6]) (zp (hh.has (r:=.blk bK 5 [.int .u8 0,.int .u8 6]) q_h) Seg.all) rfl) (zet (l:=[7]) (zp (hh.has (r:=.blk bN 5 [.int .u8 7]) q_h) Seg.all) rfl) rfl rfl (by show 1<=1000;decide))) (k:=?_)
 rintro _ _ ⟨R,rfl,q,rfl,rfl⟩;repeat' (first|refine s_0 ?_|(refine zP ?_;first|refine yn (zE (B:=certL q (kG 1 [99,97] [97] s)) (h1:=rfl) (hC:=by exact rfl)) (k:=?_)|refine zx ?_|refine zaP ?_|refine zaH ?_|(refine zj ?_;intro _)|fail)|fail)
 rename_i b2;refine Sy.weaken (fr':=[(0,.bool false),(1,.slice (some ⟨bA,0,none⟩) 1 1),(2,.pointer (some ⟨b2,0,none⟩)),(3,.int .i64 0)]) (L':=.blk b2 45 (certL q (kG 1 [99,97] [97] s))::(certRows q (kG 1 [99,97] [97] s) ++ [.blk bA 65 [.slice (some ⟨bP,0,none⟩) 1 1,.string (str [82]),.int .i64 1,.slice (some ⟨bX,0,none⟩) 2 2],.blk bX 5 [.int .u8 4,.int .u8 193],.blk bP 9 [.string (str [99,97])]])) ?_ q_h ?_;rotate_left
 ·unfold certRows;exact q_h
 repeat' (first|(refine zb 3 ?_;(refine ys (zh (f:=30) (hc:=λw' X hk hh=>ha w')) (k:=?_);rintro _ _ ⟨R,rfl,bI,rfl,rfl⟩);(refine ys (zh (f:=30) (hc:=λw' X hk hh=>hbb w')) (k:=?_);rintro _ _ ⟨R,rfl,bS,rfl,rfl⟩);(refine ys (zt (vs:=[.int .u8 0,.int .u8 16])) (k:=?_);rintro _ _ ⟨bU,rfl,rfl⟩);refine yv zg6 (k:=?_);(refine ys (zt (vs:=[.int .u8 0,.int .u8 2])) (k:=?_);rintro _ _ ⟨bK,rfl,rfl⟩);(refine ys (zt (vs:=[.int .u8 7])) (k:=?_);rintro _ _ ⟨bN,rfl,rfl⟩)))
 refine ys (zh (f:=20) (vs:=[.agg (certL (kPl bI bS bU) (kG 2 [97] [98] [])).toArray,.int .i64 1,.slice (some ⟨bK,0,none⟩) 2 2,.slice (some ⟨bN,0,none⟩) 1 1]) (hc:=λw' X hk hh=>hiss2 w' hk (kPl bI bS bU) (zpG q_e (zp (hh.has (r:=.blk bI 9 [.string (str [97])]) q_h) Seg.all) (zp (hh.has (r:=.blk bS 9 [.string (str [98])]) q_h) Seg.all) (zp (hh.has (r:=.blk bU 5 [.int .u8 0,.int .u8 16]) q_h) Seg.all) q_e q_e)
  ⟨some ⟨bK,0,none⟩,2,2,[0,2]⟩ ⟨some ⟨bN,0,none⟩,1,1,[7]⟩ (zet (l:=[0,2]) (zp (hh.has (r:=.blk bK 5 [.int .u8 0,.int .u8 2]) q_h) Seg.all) rfl) (zet (l:=[7]) (zp (hh.has (r:=.blk bN 5 [.int .u8 7]) q_h) Seg.all) rfl) rfl rfl (by show 1<=1000;decide))) (k:=?_)
 rintro _ _ ⟨R,rfl,r,rfl,rfl⟩;repeat' (first|refine s_0 ?_|(refine zP ?_;first|refine yn (zE (B:=certL r (kG 2 [97] [98] t)) (h1:=rfl) (hC:=by exact rfl)) (k:=?_)|refine zx ?_|refine zaP ?_|refine zaH ?_|(refine zj ?_;intro _)|fail)|fail)
 rename_i b4;refine Sy.weaken (fr':=[(0,.bool false),(1,.slice (some ⟨bA,0,none⟩) 1 1),(2,.pointer (some ⟨b2,0,none⟩)),(3,.int .i64 0),(4,.pointer (some ⟨b4,0,none⟩)),(5,.int .i64 0)]) (L':=.blk b4 45 (certL r (kG 2 [97] [98] t)):: .blk b2 45 (certL q (kG 1 [99,97] [97] s))::(certRows r (kG 2 [97] [98] t) ++ (certRows q (kG 1 [99,97] [97] s) ++ [.blk bA 65 [.slice (some ⟨bP,0,none⟩) 1 1,.string (str [82]),.int .i64 1,.slice (some ⟨bX,0,none⟩) 2 2],.blk bX 5 [.int .u8 4,.int .u8 193],.blk bP 9 [.string (str [99,97])]]))) ?_ q_h ?_;rotate_left
 ·unfold certRows;exact q_h
 clear hiss1 hiss2;have hAn: ∀ {w':World},w'.rangeAt bA 0 [.slice (some ⟨bP,0,none⟩) 1 1,.string (str [82]),.int .i64 1,.slice (some ⟨bX,0,none⟩) 2 2]->w'.rangeAt bX 0 [.int .u8 4,.int .u8 193]->w'.rangeAt bP 0 [.string (str [99,97])]->AnchsAt w' (some ⟨bA,0,none⟩) 1 [⟨some ⟨bP,0,none⟩,1,some ⟨bX,0,none⟩,2⟩] [kA]:=
  λr1 r2 r3=>lst1 (cell:=anchL) r1 ⟨ziO r3 q_e,zet (l:=[4,193]) r2 rfl,by show (Lit.int .i64 1).wf=true;decide⟩
 have hRv: ∀ {w':World}{bR bQ:Nat},w'.rangeAt bR 0 [.slice (some ⟨bQ,0,none⟩) 1 1,.string (str [82]),.int .i64 1]->w'.rangeAt bQ 0 [.string (str [99,97])]->RevosAt w' (some ⟨bR,0,none⟩) 1 [(some ⟨bQ,0,none⟩,1)] [kR]:=
  λr1 r2=>lst1 (cell:=revoL) r1 ⟨ziO r2 q_e,by show (Lit.int .i64 1).wf=true;decide⟩
 have henc:=λw' (hk:Keep No w w') (h:CertAt w' q (kG 1 [99,97] [97] s))=>zqs q (kG 1 [99,97] [97] s) w' (hG.to hk) h fine1 ok1;have hbd:=λw' (hk:Keep No w w') (h:CertAt w' q (kG 1 [99,97] [97] s))=>zj5 q (kG 1 [99,97] [97] s) w' h (Cert.ok_small zdH ok1);have hf1: ∀x∈[kG 1 [99,97] [97] s],x.fine:=λx hx=>by rw [List.mem_singleton.1 hx];exact fine1
 have hf2: ∀x∈[kG 2 [97] [98] t,kG 1 [99,97] [97] s],x.fine:=λx hx=>by
  rcases List.mem_cons.1 hx with rfl|hx
  ·exact fine2
  ·rw [List.mem_singleton.1 hx];exact fine1
 have hq: ∀ {w':World}{L X:List Res},Holds w.heap.size No (L ++ X) w'->(∀x∈certRows q (kG 1 [99,97] [97] s),x∈L)->CertAt w' q (kG 1 [99,97] [97] s):=λhh hm=>zkR q_e q_e q_e hh hm;have hr: ∀ {w':World}{L X:List Res},Holds w.heap.size No (L ++ X) w'->(∀x∈certRows r (kG 2 [97] [98] t),x∈L)->CertAt w' r (kG 2 [97] [98] t):=λhh hm=>zkR q_e q_e q_e hh hm;have hn0:=λw'=>zgq 0 w';generalize (kG 1 [99,97] [97] s).der=D at *;generalize hcb:(kG 1 [99,97] [97] s).body=BD at *;generalize hC:kG 1 [99,97] [97] s=C at *;generalize hD':kG 2 [97] [98] t=C' at *;clear hcb hC hD' ok1 ok2;have k88:decide ((D.length:Int)≠88)=false:=decide_eq_false (λh=>h q_o);have k76:decide ((BD.length:Int)≠76)=false:=decide_eq_false (λh=>h q_o);repeat' (first|(refine zb 4 ?_;refine yv (zf (B:=certL q C) (hz:=by exact rfl)) (k:=?_)))
 refine ys (zh (f:=21) (hc:=λw' X hk hh=>henc w' hk (hq hh (by intro x hx;(repeat (first|exact List.mem_append_left _ hx|apply List.mem_append_right|apply List.mem_cons_of_mem)))))) (k:=?_);rintro _ _ ⟨R,rfl,aE,kE,rfl,rfl⟩;repeat' (first|refine s_0 ?_|(refine zb 5 (za ?_);refine yv (zd (hc:=λ_ _ _ _=>(hn0 _))) (k:=?_);refine za ?_;refine yv (zd (hc:=λ_ _ _ _=>(hn0 _))) (k:=?_);refine zaj ?_;refine za ?_;refine yv (zd (hc:=λ_ _ _ _=>(hn0 _))) (k:=?_);refine zaj ?_;refine z8 ?_;refine za ?_;refine yv (zag (hr:=k88)) (k:=za ?_);refine yv (zf (B:=certL q C) (hz:=by exact rfl)) (k:=?_);(refine ys (zh (f:=37) (hc:=λw' X hk hh=>hbd w' hk (hq hh (by intro x hx;(repeat (first|exact List.mem_append_left _ hx|apply List.mem_append_right|apply List.mem_cons_of_mem)))))) (k:=?_);rintro _ _ ⟨R,rfl,aB,kB,rfl,rfl⟩);refine za ?_;refine yv (zag (hr:=k76)) (k:=za ?_))|(refine zP ?_;first|refine zx ?_|refine zaP ?_|refine zaH ?_|fail)|fail)
 refine Sy.weaken (fr':=[(0,.bool false),(1,.slice (some ⟨bA,0,none⟩) 1 1),(2,.pointer (some ⟨b2,0,none⟩)),(4,.pointer (some ⟨b4,0,none⟩))]) (L':=.blk b4 45 (certL r C'):: .blk b2 45 (certL q C)::(certRows r C' ++ (certRows q C ++ [.blk bA 65 [.slice (some ⟨bP,0,none⟩) 1 1,.string (str [82]),.int .i64 1,.slice (some ⟨bX,0,none⟩) 2 2],.blk bX 5 [.int .u8 4,.int .u8 193],.blk bP 9 [.string (str [99,97])]]))) ?_ q_h (SubR.skip (SubR.skip SubR.refl));repeat' (first|refine s_0 ?_|(refine zb 7 ?_;refine yv (zf (B:=certL q C) (hz:=by exact rfl)) (k:=?_);(refine ys (zby (vs:=[.agg (certL q C).toArray]) (zdS (s:=11) rfl rfl)) (k:=?_);rintro _ _ ⟨bL,rfl,rfl⟩);refine za ?_))
 repeat' (first|refine s_0 ?_|(refine zb 8 (za ?_);refine yv (zd (f:=38) (hc:=λw' X hk hh=>hver w' hk [C] _ [kA] _ [] _ _ _ _ 1 _ 1 _ 0 _ 10 0 0 _ _ rfl rfl rfl (lst1 (cell:=certL) (zp (hh.has (r:=.blk bL 45 (certL q C)) q_h) Seg.all) (hq hh (by intro x hx;(repeat (first|exact List.mem_append_left _ hx|apply List.mem_append_right|apply List.mem_cons_of_mem))))) (hAn (zp (hh.has (r:=.blk bA 65 [.slice (some ⟨bP,0,none⟩) 1 1,.string (str [82]),.int .i64 1,.slice (some ⟨bX,0,none⟩) 2 2]) q_h) Seg.all) (zp (hh.has (r:=.blk bX 5 [.int .u8 4,.int .u8 193]) q_h) Seg.all) (zp (hh.has (r:=.blk bP 9 [.string (str [99,97])]) q_h) Seg.all)) lst0 hf1 hfa (λx hx=>by cases hx) q_e q_e q_e hv1 rfl rfl)) (k:=?_);refine za ?_;refine yv (zd (f:=38) (hc:=λw' X hk hh=>hver w' hk [C] _ [kA] _ [] _ _ _ _ 1 _ 1 _ 0 _ 101 0 222 _ _ rfl rfl rfl (lst1 (cell:=certL) (zp (hh.has (r:=.blk bL 45 (certL q C)) q_h) Seg.all) (hq hh (by intro x hx;(repeat (first|exact List.mem_append_left _ hx|apply List.mem_append_right|apply List.mem_cons_of_mem))))) (hAn (zp (hh.has (r:=.blk bA 65 [.slice (some ⟨bP,0,none⟩) 1 1,.string (str [82]),.int .i64 1,.slice (some ⟨bX,0,none⟩) 2 2]) q_h) Seg.all) (zp (hh.has (r:=.blk bX 5 [.int .u8 4,.int .u8 193]) q_h) Seg.all) (zp (hh.has (r:=.blk bP 9 [.string (str [99,97])]) q_h) Seg.all)) lst0 hf1 hfa (λx hx=>by cases hx) q_e q_e q_e hv2 rfl rfl)) (k:=?_);refine za ?_;(refine ys (zh (f:=30) (hc:=λw' X hk hh=>hca w')) (k:=?_);rintro _ _ ⟨R,rfl,bQ,rfl,rfl⟩);refine za4 ?_;(refine ys (zby (vs:=[.agg [.slice (some ⟨bQ,0,none⟩) 1 1,.string (str [82]),.int .i64 1].toArray]) (zdS (s:=3) rfl rfl)) (k:=?_);rintro _ _ ⟨bR,rfl,rfl⟩);refine yv (zd (f:=38) (hc:=λw' X hk hh=>hver w' hk [C] _ [kA] _ [kR] _ _ _ _ 1 _ 1 _ 1 _ 50 0 223 _ _ rfl rfl rfl (lst1 (cell:=certL) (zp (hh.has (r:=.blk bL 45 (certL q C)) q_h) Seg.all) (hq hh (by intro x hx;(repeat (first|exact List.mem_append_left _ hx|apply List.mem_append_right|apply List.mem_cons_of_mem))))) (hAn (zp (hh.has (r:=.blk bA 65 [.slice (some ⟨bP,0,none⟩) 1 1,.string (str [82]),.int .i64 1,.slice (some ⟨bX,0,none⟩) 2 2]) q_h) Seg.all) (zp (hh.has (r:=.blk bX 5 [.int .u8 4,.int .u8 193]) q_h) Seg.all) (zp (hh.has (r:=.blk bP 9 [.string (str [99,97])]) q_h) Seg.all)) (hRv (zp (hh.has (r:=.blk bR 67 [.slice (some ⟨bQ,0,none⟩) 1 1,.string (str [82]),.int .i64 1]) q_h) Seg.all) (zp (hh.has (r:=.blk bQ 9 [.string (str [99,97])]) q_h) Seg.all)) hf1 hfa hfr q_e q_e q_e hv3 rfl rfl)) (k:=?_);refine za ?_;refine yv (zd (f:=38) (hc:=λw' X hk hh=>hver w' hk [C] _ [] _ [] _ _ _ _ 1 _ 0 _ 0 _ 50 0 220 _ _ rfl rfl rfl (lst1 (cell:=certL) (zp (hh.has (r:=.blk bL 45 (certL q C)) q_h) Seg.all) (hq hh (by intro x hx;(repeat (first|exact List.mem_append_left _ hx|apply List.mem_append_right|apply List.mem_cons_of_mem))))) lst0 lst0 hf1 (λx hx=>by cases hx) (λx hx=>by cases hx) q_e q_e q_e hv4 rfl rfl)) (k:=?_);refine za ?_;refine yv (zf (B:=certL r C') (hz:=by exact rfl)) (k:=?_);refine yv (zf (B:=certL q C) (hz:=by exact rfl)) (k:=?_);(refine ys (zby (vs:=[.agg (certL r C').toArray,.agg (certL q C).toArray]) (zn1 (s:=11) rfl rfl rfl)) (k:=?_);rintro _ _ ⟨bM,rfl,rfl⟩);refine za ?_;refine yv (zd (f:=38) (hc:=λw' X hk hh=>hver w' hk [C',C] _ [kA] _ [] _ _ _ _ 2 _ 1 _ 0 _ 50 1 224 _ _ rfl rfl rfl (lst2 (cell:=certL) (zp (hh.has (r:=.blk bM 45 (certL r C' ++ certL q C)) q_h) Seg.all) (hr hh (by intro x hx;(repeat (first|exact List.mem_append_left _ hx|apply List.mem_append_right|apply List.mem_cons_of_mem)))) (hq hh (by intro x hx;(repeat (first|exact List.mem_append_left _ hx|apply List.mem_append_right|apply List.mem_cons_of_mem))))) (hAn (zp (hh.has (r:=.blk bA 65 [.slice (some ⟨bP,0,none⟩) 1 1,.string (str [82]),.int .i64 1,.slice (some ⟨bX,0,none⟩) 2 2]) q_h) Seg.all) (zp (hh.has (r:=.blk bX 5 [.int .u8 4,.int .u8 193]) q_h) Seg.all) (zp (hh.has (r:=.blk bP 9 [.string (str [99,97])]) q_h) Seg.all)) lst0 hf2 hfa (λx hx=>by cases hx) q_e q_e q_e hv5 rfl rfl)) (k:=?_);refine za ?_))
 exact q_r
end Go.Proofs.YtdnlngbjpdbffaaGreatDoor
end
