/- Lemmas of this proof. -/
import Derived.Test.YtdnlngbjpdbffaaGreatDoorHJ38
import Derived.Test.YtdnlngbjpdbffaaGreatDoorHJ35
set_option maxHeartbeats 4000000
set_option maxRecDepth 10000
set_option linter.all false
namespace Go.Sy
open Go
theorem Row.capmax{M:Nat->Prop}{q:Nat}{w:World}{E n c s:Nat}{a:Option Addr}{xs:List Value}{L:List Res}(hh:Holds q M L w)(hL:Has L (.row (.slice a n c) E s n xs)):c<=maxLen:=by
 have j:w.ownsRow 0 E s (.slice a n c) n xs:=hh.has hL;obtain⟨F,⟨m,G⟩|⟨b,B,r,m,_,H,I,A,J,K⟩⟩:=j
 ·cases m;exact AE _
 ·cases m;exact A
def Fl:=@Row.capmax
end Go.Sy
namespace Go.Ct
open Go Go.Sy
theorem zn8{α β:Type}{cell:β->α->List Value}{j:World->β->α->Prop}{w:World} :LstAt cell j w none 0 [] []:=⟨rfl,A8 _,λ_=>rfl,.inl rfl,λi p x h=>by simp at h⟩
theorem zlo{α β:Type}{cell:β->α->List Value}{j:World->β->α->Prop}{w:World}{b:Nat}{p:β}{x:α}(h:w.rangeAt b 0 (cell p x))(hx:j w p x):LstAt cell j w (some ⟨b,0,none⟩) 1 [p] [x]:=
 ⟨rfl,A8 _,(λh=>by cases h),.inr ⟨b,0,rfl,by
  show w.rangeAt b 0 (cell p x++[]);rw[AH];exact h⟩,λi r A m q=>by
  cases i with
  |zero=>cases m;cases q;exact hx
  |succ i=>simp at m⟩
theorem zyo{α β:Type}{cell:β->α->List Value}{r:World->β->α->Prop}{w:World}{b:Nat}{p q:β}{x y:α}(h:w.rangeAt b 0 (cell p x++cell q y))(hx:r w p x)(A:r w q y):LstAt cell r w (some ⟨b,0,none⟩) 2 [p,q] [x,y]:=
 ⟨rfl,A8 _,(λh=>by cases h),.inr ⟨b,0,rfl,by
  show w.rangeAt b 0 (cell p x++(cell q y++[]));rw[AH];exact h⟩,λi B E j m=>by
  match i,j,m with
  |0,j,m=>cases j;cases m;exact hx
  |1,j,m=>cases j;cases m;exact A
  |i+2,j,m=>simp at j⟩
theorem zmr{w:World}{b:Nat}{s:List UInt8}(h:w.rangeAt b 0 [.string (str s)])(m:s.length<=1000):PrinIn w (za1 (some ⟨b,0,none⟩) 1 (kP s)) (kP s):=
 ⟨⟨some ⟨b,0,none⟩,1,rfl,A8 _,by unfold maxLen;decide,.inr ⟨b,0,rfl,h⟩,λh=>by cases h⟩,by show 1<=maxLen;unfold maxLen;decide,λx j=>by
  rw[AC.1 j];unfold maxLen;omega⟩
theorem zg6{w:World}{b n:Nat}{l:List UInt8}(h:w.rangeAt b 0 (l.map v8))(j:l.length=n):(⟨some ⟨b,0,none⟩,n,n,l⟩:Bs).ok w:=⟨j,A8 _,.inr ⟨b,0,rfl,h⟩,λh=>by cases h⟩
theorem zwJ{w:World} :(⟨none,0,0,[]⟩:Bs).ok w:=⟨rfl,A8 _,.inl rfl,λ_=>rfl⟩
def kG(n:Int)(x y s:List UInt8):Cert:=⟨n,kP x,kP y,10,100,false,1,[0,16],s⟩
def kPl(bI bS bU:Nat):Pl:=⟨some ⟨bI,0,none⟩,1,some ⟨bS,0,none⟩,1,some ⟨bU,0,none⟩,2,none,0⟩
theorem zuE{w:World}{j m q:Nat}{n:Int}{x y:List UInt8}(hn:(Lit.int .i64 n).wf=true)(h1:w.rangeAt j 0 [.string (str x)])(h2:w.rangeAt m 0 [.string (str y)])(r:w.rangeAt q 0 [.int .u8 0,.int .u8 16])(hx:x.length<=1000)(A:y.length<=1000):CertAt w (kPl j m q) (kG n x y []):=
 ⟨zmr h1 hx,zmr h2 A,zg6 (l:=[0,16]) r rfl,zwJ,hn,(by show(Lit.int .i64 10).wf=true;decide),(by show(Lit.int .i64 100).wf=true;decide),(by show(Lit.int .i64 1).wf=true;decide)⟩
theorem ziW(n:Int)(x y s:List UInt8)(hx:x.length<=1000)(m:y.length<=1000):(kG n x y s).fine:=
 ⟨⟨by show 1<1000000;decide,by show 1<1000000000;decide,λz j=>by rw[AC.1 j];omega⟩,⟨by show 1<1000000;decide,by show 1<1000000000;decide,λz j=>by rw[AC.1 j];omega⟩⟩
end Go.Ct
namespace Go.Proofs.YtdnlngbjpdbffaaGreatDoor
open Go Go.Sy Go.Ct Go.Nt Go.RowKit
attribute [local irreducible] Sy SyL SyX SyC SyF Sy.Fn callFunc
variable {ro:Option Nat}{N:Nat}{w0:World}{M:Nat->Prop}{ds:List Deferred}{g:Nat->Option Value}{L:List Res}{o:Oper}
theorem zj1{z0 A B z3 z4 E F:Operand}{n f u k:Int}{j r q w:Value}{a:Option Addr}{m c:Nat}(K:o.op= .build 45 #[(0,z0),(1,A),(2,B),(3,z3),(4,z4),(6,E),(7,F)]:=by exact rfl)(h0:ev g z0=some (.int .i64 n):=by exact rfl)(h1:ev g A=some (.agg #[j,r]):=by exact rfl)(h2:ev g B=some (.agg #[q,w]):=by exact rfl)(G:ev g z3=some (.int .i64 f):=by exact rfl)(H:ev g z4=some (.int .i64 u):=by exact rfl)(I:ev g E=some (.int .i64 k):=by exact rfl)(J:ev g F=some (.slice a m c):=by exact rfl):
  OpT Tryz.prog ro N w0 M ds o g L (Det (.agg ([.int .i64 n,j,r,q,w,.int .i64 f,.int .i64 u,.bool false,.int .i64 k,.slice a m c,.slice none 0 0]:List Value).toArray) L):=
 zgJ (parts:=#[(0,z0),(1,A),(2,B),(3,z3),(4,z4),(6,E),(7,F)]) (vs:=[.int .i64 n,.agg #[j,r],.agg #[q,w],.int .i64 f,.int .i64 u,.int .i64 k,.slice a m c]) (C:=[.int .i64 n,j,r,q,w,.int .i64 f,.int .i64 u,.bool false,.int .i64 k,.slice a m c,.slice none 0 0]) (by exact(.cons (cs:=[.int .i64 n]) (off:=0) (n:=1) rfl rfl rfl (A6 rfl) (.cons (cs:=[j,r]) (off:=1) (n:=2) rfl rfl rfl (A6 rfl) (.cons (cs:=[q,w]) (off:=3) (n:=2) rfl rfl rfl (A6 rfl) (.cons (cs:=[.int .i64 f]) (off:=5) (n:=1) rfl rfl rfl (A6 rfl) (.cons (cs:=[.int .i64 u]) (off:=6) (n:=1) rfl rfl rfl (A6 rfl) (.cons (cs:=[.int .i64 k]) (off:=8) (n:=1) rfl rfl rfl (A6 rfl) (.cons (cs:=[.slice a m c]) (off:=9) (n:=1) rfl rfl rfl (A6 rfl) .nil)))))))) K (by simp[evs,h0,h1,h2,G,H,I,J]) (ty rfl) rfl rfl (zc rfl)
theorem zk1{w w0:World}{M:Nat->Prop}{L X:List Res}{q:Pl}{c:Cert}(hh:Holds w0.heap.size M (L++X) w)(hL:∀r∈zac q c,r∈L)(F:c.issuer.parts.length<=maxLen)(j:((Lit.int .i64 c.serial).wf=true/\(Lit.int .i64 c.fr).wf=true/\(Lit.int .i64 c.til).wf=true/\(Lit.int .i64 c.group).wf=true))
  (h1:c.issuer.realm.length<=maxLen/\∀x∈c.issuer.parts,x.length<=maxLen)(h2:c.subject.realm.length<=maxLen/\∀x∈c.subject.parts,x.length<=maxLen):CertAt w q c:=by
 have m:Has (L++X) (.row (.slice q.a1 c.issuer.parts.length q.k1) 9 1 c.issuer.parts.length (c.issuer.parts.map zW)):=A7 _ (hL _ (by simp[zac]));have A:Has (L++X) (.row (.slice q.a2 c.subject.parts.length q.k2) 9 1 c.subject.parts.length (c.subject.parts.map zW)):=A7 _ (hL _ (by simp[zac]));have B:Has (L++X) (.row (.slice q.a3 c.pub.length q.k3) 5 1 c.pub.length (c.pub.map v8)):=A7 _ (hL _ (by simp[zac]));have E:Has (L++X) (.row (.slice q.a4 c.sig.length q.k4) 5 1 c.sig.length (c.sig.map v8)):=A7 _ (hL _ (by simp[zac]));exact⟨⟨⟨q.a1,q.k1,rfl,FD hh m,Fl hh m,(GZ (Mi:=No) hh m (λ_ h=>h.elim)).sla,λh=>(FV hh m h).1⟩,h1⟩,⟨⟨q.a2,q.k2,rfl,FD hh A,Fl hh A,(GZ (Mi:=No) hh A (λ_ h=>h.elim)).sla,λh=>(FV hh A h).1⟩,h2⟩,zau hh rfl B,zau hh rfl E,j⟩
theorem zo9{w w0:World}{M:Nat->Prop}{L X:List Res}{q:Pl}{n:Int}{x y s:List UInt8}(hn:(Lit.int .i64 n).wf=true)(hx:x.length<=1000)(m:y.length<=1000)(hh:Holds w0.heap.size M (L++X) w)(hL:∀r∈zac q (kG n x y s),r∈L):CertAt w q (kG n x y s):=
 zk1 hh hL (by show 1<=maxLen;unfold maxLen;decide) ⟨hn,(by show(Lit.int .i64 10).wf=true;decide),(by show(Lit.int .i64 100).wf=true;decide),(by show(Lit.int .i64 1).wf=true;decide)⟩ ⟨by show 1<=maxLen;unfold maxLen;decide,λz j=>by rw[AC.1 j];unfold maxLen;omega⟩ ⟨by show 1<=maxLen;unfold maxLen;decide,λz j=>by rw[AC.1 j];unfold maxLen;omega⟩
theorem zqq(w:World)(hG:GT w)(hT:Tab w No)(hS:ST w):q_G 11 [] w (.bool true):=by
 refine zz Tryz.func11 Tryz.ntmps11 ?_;have hp:=λl j=>zqY l j;unfold zuM at hp;have a7:=hp [99,97];have ha:=hp [97];have c2:=hp [98];obtain⟨s,c7,c8,c9,-⟩:=zx3 (kG 1 [99,97] [97] []).body (by have:=zk8 [];rw[show(kG 1 [99,97] [97] []).body=(kC []).body from rfl];omega);obtain⟨t,d8,h5⟩:=zxg (kG 2 [97] [98] []).body (by have:=zu3 [];rw[show(kG 2 [97] [98] []).body=(kD []).body from rfl];omega);have K:∀j (_:Keep No w j) p (_:CertAt j p (kG 1 [99,97] [97] [])) (pr no:Bs) (_:pr.ok j) (_:no.ok j) (_:pr.l= [0,6]) (_:no.l= [7]) (_:no.n<=1000),Sy.Fn Tryz.prog 20 [.agg (zE p (kG 1 [99,97] [97] [])).toArray,.int .i64 1,pr.val,no.val] j No (zi8 (kG 1 [99,97] [97] s)):=λj E p h pr no b0 a9 e1 e2 e3=>zh9 p (kG 1 [99,97] [97] []) 1 pr no s j (hG.to E) (hT.no E) h (ziW _ _ _ _ q_e q_e) b0 a9 e3 (zmq (s:=[]) q_e zeS) (by rw[e1,e2];exact c7);have O:∀j (_:Keep No w j) p (_:CertAt j p (kG 2 [97] [98] [])) (pr no:Bs) (_:pr.ok j) (_:no.ok j) (_:pr.l= [0,2]) (_:no.l= [7]) (_:no.n<=1000),Sy.Fn Tryz.prog 20 [.agg (zE p (kG 2 [97] [98] [])).toArray,.int .i64 1,pr.val,no.val] j No (zi8 (kG 2 [97] [98] t)):=λj E p h pr no b0 a9 e1 e2 e3=>zh9 p (kG 2 [97] [98] []) 1 pr no t j (hG.to E) (hT.no E) h (ziW _ _ _ _ q_e q_e) b0 a9 e3 (zqb (s:=[]) q_e zeS) (by rw[e1,e2];exact d8);unfold zi8 at K O;have P:s.length<=192:=q_o;have b9:t.length<=192:=q_o;have b5:(kG 1 [99,97] [97] s).ok svK=true:=zmq P zeS;have e9:(kG 2 [97] [98] t).ok svK=true:=zqb b9 zeS;have J:=ziW 1 [99,97] [97] s q_e q_e;have a6:=ziW 2 [97] [98] t q_e q_e;have V:sfK 1 [4,193] (kG 1 [99,97] [97] s).body s=true:=by unfold sfK;exact decide_eq_true c9
 have h4:(kG 1 [99,97] [97] s).der.length=88:=zxc c8;have f9:(kG 1 [99,97] [97] s).body.length=76:=zk8 s;have d9:verify sfK svK [kG 1 [99,97] [97] s] [kA] [] 10=(0,0):=zp4 P zeS zfW V [] 10 q_e q_e q_e;have e0:verify sfK svK [kG 1 [99,97] [97] s] [kA] [] 101=(0,222):=zp4 P zeS zfW V [] 101 q_e q_e q_e;have e4:verify sfK svK [kG 1 [99,97] [97] s] [kA] [kR] 50=(0,223):=by
  have:=zp4 P zeS zfW V [kR] 50 q_e q_e q_e;rw[zxe] at this;exact this
 have e5:verify sfK svK [kG 1 [99,97] [97] s] [] [] 50=(0,220):=zwF P zeS zfW 50 q_e q_e;have e6:verify sfK svK [kG 2 [97] [98] t,kG 1 [99,97] [97] s] [kA] [] 50=(1,224):=zxV P b9 zeS zfW V;have U:∀x∈[kA],x.name.fine:=λx A=>by rw[AC.1 A];exact⟨by show 1<1000000;decide,by show 1<1000000000;decide,λz hz=>by rw[AC.1 hz];decide⟩
 have c6:∀x∈[kR],x.issuer.fine:=λx A=>by rw[AC.1 A];exact⟨by show 1<1000000;decide,by show 1<1000000000;decide,λz hz=>by rw[AC.1 hz];decide⟩
 -- what is asked of Verify
 have I:∀j (_:Keep No w j) (l:List Cert) (ps:List Pl) (an:List Anch) (b6:List Pa) (rs:List Revo) (b7:List (Option Addr×Nat)) (a aa ar:Option Addr) (n c na ca nr cr:Nat) (now i e wi we:Int),l.length=n->an.length=na->rs.length=nr->zck j a c ps l->zeI j aa ca b6 an->zcP j ar cr b7 rs->(∀x∈l,x.fine)->(∀x∈an,x.name.fine)->(∀x∈rs,x.issuer.fine)->n<1000->na<1000->nr<1000->verify sfK svK l an rs now=(i,e)->i=wi->e=we->
   q_G 38 [.slice a n c,.slice aa na ca,.slice ar nr cr,.int .i64 now,.int .i64 wi,.int .i64 we] j (.bool true):=by
  intro j E l ps an b6 rs b7 a aa ar n c na ca nr cr now i e wi we h1 h2 h3 hc hA hR f1 f2 f3 b1 W b3 hv hi he;subst hi;subst he;have:=zto [.slice a n c,.slice aa na ca,.slice ar nr cr,.int .i64 now] i e i e now j _ _ _ rfl (λf8 F=>by
   have:=zhs a aa ar n c na ca nr cr ps l b6 an b7 rs now f8 ((hG.to E).to F) ((hT.no E).no F) ((hS.to E).to F) h1 h2 h3 (hc.keep F (λp x A=>A.keep F)) (hA.keep F (λp x A=>A.keep F)) (hR.keep F (λp x A=>A.keep F)) f1 f2 f3 b1 W b3;rw[hv] at this;exact this)
  rw[decide_eq_true rfl,decide_eq_true rfl] at this;exact this
 repeat' (first|refine s_0 ?_|refine q_k 0 ?_)
 repeat' (first|refine s_0 ?_|refine ze 1 ?_;(refine q_s (zn (hc:=λj X E m=>a7 j)) ?_;rintro _ _ ⟨R,rfl,G,rfl,rfl⟩);(refine q_s (zD (vs:=[.int .u8 4,.int .u8 193])) ?_;rintro _ _ ⟨H,rfl,rfl⟩);refine za4 ?_;(refine q_s (zb6 (vs:=[.agg [.slice (some ⟨G,0,none⟩) 1 1,.string (str [82]),.int .i64 1,.slice (some ⟨H,0,none⟩) 2 2].toArray]) (zfg (s:=4) rfl rfl)) ?_;rintro _ _ ⟨Q,rfl,rfl⟩);refine zf ?_)
 repeat' (first|refine ze 2 ?_;(refine q_s (zn (hc:=λj X E m=>a7 j)) ?_;rintro _ _ ⟨R,rfl,Y,rfl,rfl⟩);(refine q_s (zn (hc:=λj X E m=>ha j)) ?_;rintro _ _ ⟨R,rfl,bS,rfl,rfl⟩);(refine q_s (zD (vs:=[.int .u8 0,.int .u8 16])) ?_;rintro _ _ ⟨bU,rfl,rfl⟩);refine q_v zj1 ?_;(refine q_s (zD (vs:=[.int .u8 0,.int .u8 6])) ?_;rintro _ _ ⟨Z,rfl,rfl⟩);(refine q_s (zD (vs:=[.int .u8 7])) ?_;rintro _ _ ⟨bN,rfl,rfl⟩))
 refine q_s (zn (f:=20) (vs:=[.agg (zE (kPl Y bS bU) (kG 1 [99,97] [97] [])).toArray,.int .i64 1,.slice (some ⟨Z,0,none⟩) 2 2,.slice (some ⟨bN,0,none⟩) 1 1]) (hc:=λj X E m=>K j E (kPl Y bS bU) (zuE q_e (zq (m.has (r:=.blk Y 9 [.string (str [99,97])]) q_h) Em) (zq (m.has (r:=.blk bS 9 [.string (str [97])]) q_h) Em) (zq (m.has (r:=.blk bU 5 [.int .u8 0,.int .u8 16]) q_h) Em) q_e q_e)
  ⟨some ⟨Z,0,none⟩,2,2,[0,6]⟩ ⟨some ⟨bN,0,none⟩,1,1,[7]⟩ (zg6 (l:=[0,6]) (zq (m.has (r:=.blk Z 5 [.int .u8 0,.int .u8 6]) q_h) Em) rfl) (zg6 (l:=[7]) (zq (m.has (r:=.blk bN 5 [.int .u8 7]) q_h) Em) rfl) rfl rfl (by show 1<=1000;decide))) ?_
 rintro _ _ ⟨R,rfl,q,rfl,rfl⟩;repeat' (first|refine s_0 ?_|(refine zx ?_;first|refine q_n (zA (B:=zE q (kG 1 [99,97] [97] s)) (h1:=rfl) (hC:=by exact rfl)) ?_|refine zo ?_|refine zC ?_|refine zw ?_|refine zi ?_;intro _|fail)|fail)
 rename_i W;refine F8 (fr':=[(0,.bool false),(1,.slice (some ⟨Q,0,none⟩) 1 1),(2,.pointer (some ⟨W,0,none⟩)),(3,.int .i64 0)]) (L':=.blk W 45 (zE q (kG 1 [99,97] [97] s))::(zac q (kG 1 [99,97] [97] s)++[.blk Q 65 [.slice (some ⟨G,0,none⟩) 1 1,.string (str [82]),.int .i64 1,.slice (some ⟨H,0,none⟩) 2 2],.blk H 5 [.int .u8 4,.int .u8 193],.blk G 9 [.string (str [99,97])]])) ?_ q_h ?_;rotate_left
 ·unfold zac;exact q_h
 repeat' (first|refine ze 3 ?_;(refine q_s (zn (hc:=λj X E m=>ha j)) ?_;rintro _ _ ⟨R,rfl,Y,rfl,rfl⟩);(refine q_s (zn (hc:=λj X E m=>c2 j)) ?_;rintro _ _ ⟨R,rfl,bS,rfl,rfl⟩);(refine q_s (zD (vs:=[.int .u8 0,.int .u8 16])) ?_;rintro _ _ ⟨bU,rfl,rfl⟩);refine q_v zj1 ?_;(refine q_s (zD (vs:=[.int .u8 0,.int .u8 2])) ?_;rintro _ _ ⟨Z,rfl,rfl⟩);(refine q_s (zD (vs:=[.int .u8 7])) ?_;rintro _ _ ⟨bN,rfl,rfl⟩))
 refine q_s (zn (f:=20) (vs:=[.agg (zE (kPl Y bS bU) (kG 2 [97] [98] [])).toArray,.int .i64 1,.slice (some ⟨Z,0,none⟩) 2 2,.slice (some ⟨bN,0,none⟩) 1 1]) (hc:=λj X E m=>O j E (kPl Y bS bU) (zuE q_e (zq (m.has (r:=.blk Y 9 [.string (str [97])]) q_h) Em) (zq (m.has (r:=.blk bS 9 [.string (str [98])]) q_h) Em) (zq (m.has (r:=.blk bU 5 [.int .u8 0,.int .u8 16]) q_h) Em) q_e q_e)
  ⟨some ⟨Z,0,none⟩,2,2,[0,2]⟩ ⟨some ⟨bN,0,none⟩,1,1,[7]⟩ (zg6 (l:=[0,2]) (zq (m.has (r:=.blk Z 5 [.int .u8 0,.int .u8 2]) q_h) Em) rfl) (zg6 (l:=[7]) (zq (m.has (r:=.blk bN 5 [.int .u8 7]) q_h) Em) rfl) rfl rfl (by show 1<=1000;decide))) ?_
 rintro _ _ ⟨R,rfl,r,rfl,rfl⟩;repeat' (first|refine s_0 ?_|(refine zx ?_;first|refine q_n (zA (B:=zE r (kG 2 [97] [98] t)) (h1:=rfl) (hC:=by exact rfl)) ?_|refine zo ?_|refine zC ?_|refine zw ?_|refine zi ?_;intro _|fail)|fail)
 rename_i b4;refine F8 (fr':=[(0,.bool false),(1,.slice (some ⟨Q,0,none⟩) 1 1),(2,.pointer (some ⟨W,0,none⟩)),(3,.int .i64 0),(4,.pointer (some ⟨b4,0,none⟩)),(5,.int .i64 0)]) (L':=.blk b4 45 (zE r (kG 2 [97] [98] t)):: .blk W 45 (zE q (kG 1 [99,97] [97] s))::(zac r (kG 2 [97] [98] t)++(zac q (kG 1 [99,97] [97] s)++[.blk Q 65 [.slice (some ⟨G,0,none⟩) 1 1,.string (str [82]),.int .i64 1,.slice (some ⟨H,0,none⟩) 2 2],.blk H 5 [.int .u8 4,.int .u8 193],.blk G 9 [.string (str [99,97])]]))) ?_ q_h ?_;rotate_left
 ·unfold zac;exact q_h
 clear K O;have S:∀ {j:World},j.rangeAt Q 0 [.slice (some ⟨G,0,none⟩) 1 1,.string (str [82]),.int .i64 1,.slice (some ⟨H,0,none⟩) 2 2]->j.rangeAt H 0 [.int .u8 4,.int .u8 193]->j.rangeAt G 0 [.string (str [99,97])]->zeI j (some ⟨Q,0,none⟩) 1 [⟨some ⟨G,0,none⟩,1,some ⟨H,0,none⟩,2⟩] [kA]:=
  λr1 r2 r3=>zlo (cell:=zb0) r1 ⟨zmr r3 q_e,zg6 (l:=[4,193]) r2 rfl,by show(Lit.int .i64 1).wf=true;decide⟩
 have c1:∀ {j:World}{bR bQ:Nat},j.rangeAt bR 0 [.slice (some ⟨bQ,0,none⟩) 1 1,.string (str [82]),.int .i64 1]->j.rangeAt bQ 0 [.string (str [99,97])]->zcP j (some ⟨bR,0,none⟩) 1 [(some ⟨bQ,0,none⟩,1)] [kR]:=
  λr1 r2=>zlo (cell:=zbu) r1 ⟨zmr r2 q_e,by show(Lit.int .i64 1).wf=true;decide⟩
 have b8:=λj (E:Keep No w j) (h:CertAt j q (kG 1 [99,97] [97] s))=>zoV q (kG 1 [99,97] [97] s) j (hG.to E) h J b5;have c3:=λj (E:Keep No w j) (h:CertAt j q (kG 1 [99,97] [97] s))=>ztE q (kG 1 [99,97] [97] s) j h (F1 svK_law b5);have T:∀x∈[kG 1 [99,97] [97] s],x.fine:=λx A=>by rw[AC.1 A];exact J
 have c5:∀x∈[kG 2 [97] [98] t,kG 1 [99,97] [97] s],x.fine:=λx A=>by
  rcases AQ.1 A with rfl|A
  ·exact a6
  ·rw[AC.1 A];exact J
 have hq:∀ {j:World}{L X:List Res},Holds w.heap.size No (L++X) j->(∀x∈zac q (kG 1 [99,97] [97] s),x∈L)->CertAt j q (kG 1 [99,97] [97] s):=λm hm=>zo9 q_e q_e q_e m hm;have hr:∀ {j:World}{L X:List Res},Holds w.heap.size No (L++X) j->(∀x∈zac r (kG 2 [97] [98] t),x∈L)->CertAt j r (kG 2 [97] [98] t):=λm hm=>zo9 q_e q_e q_e m hm;have a8:=λj=>zjt 0 j;generalize c0:kG 2 [97] [98] t=C',hC:kG 1 [99,97] [97] s=C,c4:(kG 1 [99,97] [97] s).body=BD,(kG 1 [99,97] [97] s).der=D at*;clear c4 hC c0 b5 e9;have e8:decide ((D.length:Int)≠88)=false:=decide_eq_false (λh=>h q_o);have e7:decide ((BD.length:Int)≠76)=false:=decide_eq_false (λh=>h q_o);repeat' (first|refine ze 4 ?_;refine q_v (zd (B:=zE q C) (hz:=by exact rfl)) ?_)
 refine q_s (zn (hc:=λj X E m=>b8 j E (hq m (by intro x A;(repeat (first|exact A7 _ A|apply AB|apply A0)))))) ?_;rintro _ _ ⟨R,rfl,aE,kE,rfl,rfl⟩;repeat' (first|refine s_0 ?_|refine q_k 5 ?_;refine q_v (za (hc:=q_c a8)) ?_;refine zf ?_;refine q_v (za (hc:=q_c a8)) ?_;refine za9 ?_;refine zf ?_;refine q_v (za (hc:=q_c a8)) ?_;refine za9 ?_;refine zat ?_;refine zf ?_;refine q_x (zV (hr:=e8)) ?_;refine q_v (zd (B:=zE q C) (hz:=by exact rfl)) ?_;(refine q_s (zn (hc:=λj X E m=>c3 j E (hq m (by intro x A;(repeat (first|exact A7 _ A|apply AB|apply A0)))))) ?_;rintro _ _ ⟨R,rfl,aB,kB,rfl,rfl⟩);refine zf ?_;refine q_x (zV (hr:=e7)) ?_|(refine zx ?_;first|refine zo ?_|refine zC ?_|refine zw ?_|fail)|fail)
 refine F8 (fr':=[(0,.bool false),(1,.slice (some ⟨Q,0,none⟩) 1 1),(2,.pointer (some ⟨W,0,none⟩)),(4,.pointer (some ⟨b4,0,none⟩))]) (L':=.blk b4 45 (zE r C'):: .blk W 45 (zE q C)::(zac r C'++(zac q C++[.blk Q 65 [.slice (some ⟨G,0,none⟩) 1 1,.string (str [82]),.int .i64 1,.slice (some ⟨H,0,none⟩) 2 2],.blk H 5 [.int .u8 4,.int .u8 193],.blk G 9 [.string (str [99,97])]]))) ?_ q_h (Ex (Ex Ep));repeat' (first|refine s_0 ?_|refine ze 7 ?_;refine q_v (zd (B:=zE q C) (hz:=by exact rfl)) ?_;(refine q_s (zb6 (vs:=[.agg (zE q C).toArray]) (zfg (s:=11) rfl rfl)) ?_;rintro _ _ ⟨bL,rfl,rfl⟩);refine zf ?_)
 repeat' (first|refine s_0 ?_|refine q_k 8 ?_;refine q_v (za (hc:=λj X E m=>I j E [C] _ [kA] _ [] _ _ _ _ 1 _ 1 _ 0 _ 10 0 0 _ _ rfl rfl rfl (zlo (cell:=zE) (zq (m.has (r:=.blk bL 45 (zE q C)) q_h) Em) (hq m (by intro x A;(repeat (first|exact A7 _ A|apply AB|apply A0))))) (S (zq (m.has (r:=.blk Q 65 [.slice (some ⟨G,0,none⟩) 1 1,.string (str [82]),.int .i64 1,.slice (some ⟨H,0,none⟩) 2 2]) q_h) Em) (zq (m.has (r:=.blk H 5 [.int .u8 4,.int .u8 193]) q_h) Em) (zq (m.has (r:=.blk G 9 [.string (str [99,97])]) q_h) Em)) zn8 T U (λx A=>by cases A) q_e q_e q_e d9 rfl rfl)) ?_;refine zf ?_;refine q_v (za (hc:=λj X E m=>I j E [C] _ [kA] _ [] _ _ _ _ 1 _ 1 _ 0 _ 101 0 222 _ _ rfl rfl rfl (zlo (cell:=zE) (zq (m.has (r:=.blk bL 45 (zE q C)) q_h) Em) (hq m (by intro x A;(repeat (first|exact A7 _ A|apply AB|apply A0))))) (S (zq (m.has (r:=.blk Q 65 [.slice (some ⟨G,0,none⟩) 1 1,.string (str [82]),.int .i64 1,.slice (some ⟨H,0,none⟩) 2 2]) q_h) Em) (zq (m.has (r:=.blk H 5 [.int .u8 4,.int .u8 193]) q_h) Em) (zq (m.has (r:=.blk G 9 [.string (str [99,97])]) q_h) Em)) zn8 T U (λx A=>by cases A) q_e q_e q_e e0 rfl rfl)) ?_;refine zf ?_;(refine q_s (zn (hc:=λj X E m=>a7 j)) ?_;rintro _ _ ⟨R,rfl,bQ,rfl,rfl⟩);refine za4 ?_;(refine q_s (zb6 (vs:=[.agg [.slice (some ⟨bQ,0,none⟩) 1 1,.string (str [82]),.int .i64 1].toArray]) (zfg (s:=3) rfl rfl)) ?_;rintro _ _ ⟨bR,rfl,rfl⟩);refine q_v (za (hc:=λj X E m=>I j E [C] _ [kA] _ [kR] _ _ _ _ 1 _ 1 _ 1 _ 50 0 223 _ _ rfl rfl rfl (zlo (cell:=zE) (zq (m.has (r:=.blk bL 45 (zE q C)) q_h) Em) (hq m (by intro x A;(repeat (first|exact A7 _ A|apply AB|apply A0))))) (S (zq (m.has (r:=.blk Q 65 [.slice (some ⟨G,0,none⟩) 1 1,.string (str [82]),.int .i64 1,.slice (some ⟨H,0,none⟩) 2 2]) q_h) Em) (zq (m.has (r:=.blk H 5 [.int .u8 4,.int .u8 193]) q_h) Em) (zq (m.has (r:=.blk G 9 [.string (str [99,97])]) q_h) Em)) (c1 (zq (m.has (r:=.blk bR 67 [.slice (some ⟨bQ,0,none⟩) 1 1,.string (str [82]),.int .i64 1]) q_h) Em) (zq (m.has (r:=.blk bQ 9 [.string (str [99,97])]) q_h) Em)) T U c6 q_e q_e q_e e4 rfl rfl)) ?_;refine zf ?_;refine q_v (za (hc:=λj X E m=>I j E [C] _ [] _ [] _ _ _ _ 1 _ 0 _ 0 _ 50 0 220 _ _ rfl rfl rfl (zlo (cell:=zE) (zq (m.has (r:=.blk bL 45 (zE q C)) q_h) Em) (hq m (by intro x A;(repeat (first|exact A7 _ A|apply AB|apply A0))))) zn8 zn8 T (λx A=>by cases A) (λx A=>by cases A) q_e q_e q_e e5 rfl rfl)) ?_;refine zf ?_;refine q_v (zd (B:=zE r C') (hz:=by exact rfl)) ?_;refine q_v (zd (B:=zE q C) (hz:=by exact rfl)) ?_;(refine q_s (zb6 (vs:=[.agg (zE r C').toArray,.agg (zE q C).toArray]) (zsW (s:=11) rfl rfl rfl)) ?_;rintro _ _ ⟨bM,rfl,rfl⟩);refine zf ?_;refine q_v (za (hc:=λj X E m=>I j E [C',C] _ [kA] _ [] _ _ _ _ 2 _ 1 _ 0 _ 50 1 224 _ _ rfl rfl rfl (zyo (cell:=zE) (zq (m.has (r:=.blk bM 45 (zE r C'++zE q C)) q_h) Em) (hr m (by intro x A;(repeat (first|exact A7 _ A|apply AB|apply A0)))) (hq m (by intro x A;(repeat (first|exact A7 _ A|apply AB|apply A0))))) (S (zq (m.has (r:=.blk Q 65 [.slice (some ⟨G,0,none⟩) 1 1,.string (str [82]),.int .i64 1,.slice (some ⟨H,0,none⟩) 2 2]) q_h) Em) (zq (m.has (r:=.blk H 5 [.int .u8 4,.int .u8 193]) q_h) Em) (zq (m.has (r:=.blk G 9 [.string (str [99,97])]) q_h) Em)) zn8 c5 U (λx A=>by cases A) q_e q_e q_e e6 rfl rfl)) ?_;refine zf ?_)
 exact q_r
end Go.Proofs.YtdnlngbjpdbffaaGreatDoor
namespace Go.Ct
open Go Go.Sy
def Prin.short(p:Prin):Bool:=p.parts.all (λx=>decide (x.length<=40))&&(decide (p.parts.length<=6)&&decide (p.realm.length<=40))
def Cert.tiny(c:Cert):Bool:=c.issuer.short&&c.subject.short&&decide (c.pub.length<=300)&&decide (c.sig.length<=300)
theorem Prin.short_iff{p:Prin}(h:p.short=true):p.parts.length<1000000/\p.realm.length<1000000000/\∀x∈p.parts,x.length<1000000000:=by
 simp only[Prin.short,A5,decide_eq_true_eq,AD] at h;exact⟨by omega,by omega,λx j=>by have:=h.1 x j;omega⟩
def FJ:=@Prin.short_iff
theorem Cert.tiny_fine{c:Cert}(h:c.tiny=true):c.fine/\c.pub.length<=300/\c.sig.length<=300:=by
 simp only[Cert.tiny,A5,decide_eq_true_eq] at h;exact⟨⟨FJ h.1.1.1,FJ h.1.1.2⟩,h.1.2,h.2⟩
end Go.Ct
namespace Go.Proofs.YtdnlngbjpdbffaaGreatDoor
open Go Go.Sy Go.Ct Go.Nt Go.RowKit
attribute [local irreducible] Sy SyL SyX SyC SyF Sy.Fn callFunc
theorem zhz(a:Option Addr)(k:Nat)(p:Prin)(w:World)(h:PrinIn w (za1 a k p) p):q_G 48 [.agg (za1 a k p).toArray] w (.bool p.short):=by
 obtain⟨⟨G,J,F,O,K,s1,Q⟩,hr,E⟩:=h;cases F;refine zz Tryz.func48 Tryz.ntmps48 ?_;unfold Prin.short za1 zW at*;obtain⟨m,B⟩:=p;dsimp only at*;unfold maxLen at*;repeat' (first|refine s_t ?_|refine ze 0 ?_;refine z9 ?_;intro _|refine q_k 1 ?_)
 rename_i b;refine zX (γ:=Nat) (λi=>[(1,.pointer (some ⟨b,0,none⟩)),(2,.bool false),(3,.int .i64 (i:Int))]) (λ_=>[.blk b 43 [.slice a m.length k,.string (str B)]]) (λi=>i<=m.length/\(m.take i).all (λx=>decide (x.length<=40))=true) (λi=>m.length-i) 0 ⟨AE _,rfl⟩ ?_ ?_ ?_
 ·exact q_h
 ·exact q_h
 rintro i ⟨I,A⟩;by_cases hlt:i<m.length
 ·obtain⟨H,P,rfl,q⟩:=zdb s1 (i:=i) (by rw[A1];omega);have r:=q i _ (zdw zW q_o);unfold zW at r;have g2:decide ((i:Int)<(m.length:Int))=true:=q_d;have g5:IntKind.i64.wrap ((i:Int)+1)=((i+1:Nat):Int):=q_w;have t1:m.take (i+1)=m.take i++[m[i]]:=zaI q_o;by_cases E:m[i].length<=40
  ·have g3:decide ((m[i].length:Int)>40)=false:=q_f;repeat' (first|refine s_t ?_|refine q_k 2 ?_;refine zl ?_;refine zf ?_;refine q_v (zm (hr:=g2)) ?_|refine q_k 4 ?_;refine zl ?_;refine zf ?_;refine q_v (zG (j:=i)) ?_;refine q_x (zp (hv:=r)) ?_;refine q_v (zF (hr:=g3)) ?_|refine q_k 3 ?_;refine q_x (zN (hr:=g5)) ?_)
   refine zQ (i+1) ⟨hlt,by rw[t1,BK,A];simp[E]⟩ ?_ ?_ ?_
   ·show m.length-(i+1)<m.length-i;omega
   ·exact q_h
   ·exact q_h
  ·have g3:decide ((m[i].length:Int)>40)=true:=q_d;have e:m.all (λx=>decide (x.length<=40))=false:=by
    rw[BT];exact⟨m[i],AX _,by simpa using E⟩
   rw[e,BC];repeat' (first|refine s_t ?_|refine q_k 2 ?_;refine zl ?_;refine zf ?_;refine q_v (zm (hr:=g2)) ?_|refine q_k 4 ?_;refine zl ?_;refine zf ?_;refine q_v (zG (j:=i)) ?_;refine q_x (zp (hv:=r)) ?_;refine q_v (zF (hr:=g3)) ?_|refine q_k 5 ?_)
   exact q_r
 obtain rfl:i=m.length:=q_o;rw[CG] at A;rw[A,B1];have g2:decide ((m.length:Int)<(m.length:Int))=false:=q_f;have g6:decide ((m.length:Int)<=6)=decide (m.length<=6):=decide_eq_decide.2 q_o;have g7:decide ((B.length:Int)<=40)=decide (B.length<=40):=decide_eq_decide.2 q_o;generalize decide (B.length<=40)=y,decide (m.length<=6)=x at*;cases x;all_goals repeat' (first|refine s_0 ?_|refine q_k 2 ?_;refine zl ?_;refine zf ?_;refine q_v (zm (hr:=g2)) ?_|refine q_k 6 ?_;refine zl ?_;refine zf ?_;refine q_x (zaP (hr:=g6)) ?_;(first|refine zl ?_|skip|fail);(try refine zf ?_);(first|refine q_v (zaP (hr:=g7)) ?_|skip|fail);(try refine zf ?_))
 all_goals exact q_r
theorem zsz(p:Pl)(c:Cert)(w:World)(h:CertAt w p c):q_G 26 [.agg (zE p c).toArray] w (.bool c.tiny):=by
 refine zz Tryz.func26 Tryz.ntmps26 ?_;have I:=λA (G:Keep No w A)=>zhz _ _ _ A (h.iss.keep G);have J:=λA (G:Keep No w A)=>zhz _ _ _ A (h.sub.keep G);have g3:decide ((c.pub.length:Int)<=300)=decide (c.pub.length<=300):=decide_eq_decide.2 q_o;have g4:decide ((c.sig.length:Int)<=300)=decide (c.sig.length<=300):=decide_eq_decide.2 q_o;unfold zE za1 Cert.tiny at*;clear h;obtain⟨serial,⟨j,m⟩,⟨q,r⟩,fr,til,auth,group,pub,sig⟩:=c;dsimp only at*;generalize decide (sig.length<=300)=K,decide (pub.length<=300)=H,Prin.short ⟨q,r⟩=F,Prin.short ⟨j,m⟩=E at*;have hc:E=false\/(E=true/\F=false)\/(E=true/\F=true/\H=false)\/(E=true/\F=true/\H=true):=by
  cases E <;> cases F <;> cases H <;> simp
 rcases hc with rfl|⟨rfl,rfl⟩|⟨rfl,rfl,rfl⟩|⟨rfl,rfl,rfl⟩;all_goals repeat' (first|refine s_0 ?_|refine ze 0 ?_;refine z9 ?_;intro _|refine q_k 1 ?_;refine q_v (zd (B:=[.slice p.a1 j.length p.k1,zW m]) (hv:=FB rfl)) ?_;refine q_v (za (hc:=zr I)) ?_;refine zf ?_;(first|refine q_v (zd (B:=[.slice p.a2 q.length p.k2,zW r]) (hv:=FB rfl)) ?_|skip|fail);(first|refine q_v (za (hc:=zr J)) ?_|refine zt rfl rfl rfl ?_|skip);(try refine zf ?_);(first|refine zl ?_|skip|fail);(try refine zf ?_);(first|refine q_v (zaP (hr:=g3)) ?_|skip|fail);(try refine zf ?_);(first|refine zl ?_|skip|fail);(try refine zf ?_);(first|refine q_v (zaP (hr:=g4)) ?_|skip|fail);(try refine zf ?_))
 all_goals exact q_r
theorem zgC(a1 a2:Option Addr)(q A r B:Nat)(j m:List UInt8)(w:World)(h1:j.length=q)(h2:m.length=r)(s1:SlA w a1 (j.map v8))(s2:SlA w a2 (m.map v8)):
  q_G 74 [.slice a1 q A,.slice a2 r B] w (.bool (j==m)):=by
 refine zz Tryz.func74 Tryz.ntmps74 ?_;have g:decide (j=m)=(j==m):=by
  by_cases h:j=m <;> simp[h]
 repeat' (first|refine s_0 ?_|refine q_k 0 ?_|refine q_k 1 ?_;refine q_x (zcE (l:=j) (hr:=F4 s1 (λ_ _ h=>h)) (hn:=h1)) ?_;refine q_v (zcE (l:=m) (hr:=F4 s2 (λ_ _ h=>h)) (hn:=h2)) ?_;refine q_x (zbb (hr:=g)) ?_)
 exact q_r
theorem zlt(a1 a2:Option Addr)(k1 k2:Nat)(p q:Prin)(w:World)(h1:PrinIn w (za1 a1 k1 p) p)(h2:PrinIn w (za1 a2 k2 q) q)(hb:p.parts.length<1000000):q_G 54 [.agg (za1 a1 k1 p).toArray,.agg (za1 a2 k2 q).toArray] w (.bool (p.same q)):=by
 obtain⟨⟨P,T,V,n1,Y,s1,z1⟩,-⟩:=h1;obtain⟨⟨Q,U,W,n2,Z,s2,z2⟩,-⟩:=h2;cases V;cases W;refine zz Tryz.func54 Tryz.ntmps54 ?_;unfold Prin.same za1 zW at*;obtain⟨m,H⟩:=p;obtain⟨r,I⟩:=q;dsimp only at*;by_cases hr:H≠I
 ·have g:decide (H≠I)=true:=decide_eq_true hr;have e:(H==I)=false:=beq_eq_false_iff_ne.2 hr;rw[e,Bool.false_and];repeat' (first|refine s_0 ?_|refine ze 0 ?_;refine zi ?_;intro _;refine z9 ?_;intro _|refine q_k 1 ?_;refine zl ?_;refine zf ?_;refine zl ?_;refine q_x (zdT (hr:=g)) ?_|refine q_k 2 ?_)
  exact q_r
 have J:H=I:=DO.1 hr;have g:decide (H≠I)=false:=decide_eq_false hr;rw[beq_iff_eq.2 J,B1];by_cases hn:¬m.length=r.length
 ·have g1:decide ((m.length:Int)≠(r.length:Int))=true:=q_d;have e:(m==r)=false:=by
   rw[beq_eq_false_iff_ne];intro e;exact hn (by rw[e])
  rw[e];repeat' (first|refine s_0 ?_|refine ze 0 ?_;refine zi ?_;intro _;refine z9 ?_;intro _|refine q_k 1 ?_;refine zl ?_;refine zf ?_;refine zl ?_;refine q_x (zdT (hr:=g)) ?_;refine zl ?_;refine zf ?_;refine zl ?_;refine zf ?_;refine q_x (zV (hr:=g1)) ?_|refine q_k 2 ?_)
  exact q_r
 have g1:decide ((m.length:Int)≠(r.length:Int))=false:=q_f;repeat' (first|refine s_t ?_|refine ze 0 ?_;refine zi ?_;intro _;refine z9 ?_;intro _|refine q_k 1 ?_;refine zl ?_;refine zf ?_;refine zl ?_;refine q_x (zdT (hr:=g)) ?_;refine zl ?_;refine zf ?_;refine zl ?_;refine zf ?_;refine q_x (zV (hr:=g1)) ?_|refine q_k 3 ?_)
 rename_i K O;refine zX (γ:=Nat) (λi=>[(2,.pointer (some ⟨K,0,none⟩)),(3,.pointer (some ⟨O,0,none⟩)),(5,.int .i64 (i:Int))]) (λ_=>[.blk K 43 [.slice a1 m.length k1,.string (str H)],.blk O 43 [.slice a2 r.length k2,.string (str I)]]) (λi=>i<=m.length/\m.take i=r.take i) (λi=>m.length-i) 0 ⟨AE _,rfl⟩ ?_ ?_ ?_
 ·exact q_h
 ·exact q_h
 rintro i ⟨X,G⟩;by_cases hlt:i<m.length
 ·obtain⟨R,o1,rfl,A⟩:=zdb s1 (i:=i) (by rw[A1];omega);obtain⟨S,o2,rfl,B⟩:=zdb s2 (i:=i) (by rw[A1];omega);have E:=A i _ (zdw zW q_o);have F:=B i _ (zdw zW q_o);unfold zW at E F;have g2:decide ((i:Int)<(m.length:Int))=true:=q_d;have g5:IntKind.i64.wrap ((i:Int)+1)=((i+1:Nat):Int):=q_w;have t1:m.take (i+1)=m.take i++[m[i]]:=zaI q_o;have t2:r.take (i+1)=r.take i++[r[i]]:=zaI q_o;by_cases hx:m[i]=r[i]
  ·have g3:decide (m[i]≠r[i])=false:=decide_eq_false (λh=>h hx);repeat' (first|refine s_t ?_|refine q_k 4 ?_;refine zl ?_;refine zf ?_;refine q_v (zm (hr:=g2)) ?_|refine zal (id:=6) 10 [[],[0],[],[0,1,2],[0,1,2,3],[],[5],[],[5,6,7],[5,6,7,8],[0,1,2,3,4,5,6,7,8,9]] mixed ?_ ?_;kernel_rfl;refine q_D zP ?_;refine zc6 ?_;refine zO ?_;refine q_D (zG (j:=i)) ?_;refine q_D (zp (hv:=E)) ?_;refine q_D zP ?_;refine zc6 ?_;refine zO ?_;refine q_D (zG (j:=i)) ?_;refine q_D (zp (hv:=F)) ?_;refine zaG ?_;refine q_v (zdT (hr:=g3)) ?_|refine q_k 5 ?_;refine q_x (zN (hr:=g5)) ?_)
   refine zQ (i+1) ⟨hlt,by rw[t1,t2,G,hx]⟩ ?_ ?_ ?_
   ·show m.length-(i+1)<m.length-i;omega
   ·exact q_h
   ·exact q_h
  ·have g3:decide (m[i]≠r[i])=true:=decide_eq_true hx;have e:(m==r)=false:=by
    rw[beq_eq_false_iff_ne];intro e;subst e;exact hx rfl
   rw[e];repeat' (first|refine s_t ?_|refine q_k 4 ?_;refine zl ?_;refine zf ?_;refine q_v (zm (hr:=g2)) ?_|refine zal (id:=6) 10 [[],[0],[],[0,1,2],[0,1,2,3],[],[5],[],[5,6,7],[5,6,7,8],[0,1,2,3,4,5,6,7,8,9]] mixed ?_ ?_;kernel_rfl;refine q_D zP ?_;refine zc6 ?_;refine zO ?_;refine q_D (zG (j:=i)) ?_;refine q_D (zp (hv:=E)) ?_;refine q_D zP ?_;refine zc6 ?_;refine zO ?_;refine q_D (zG (j:=i)) ?_;refine q_D (zp (hv:=F)) ?_;refine zaG ?_;refine q_v (zdT (hr:=g3)) ?_|refine q_k 7 ?_)
   exact q_r
 obtain rfl:i=m.length:=q_o;have e:(m==r)=true:=by
  rw[beq_iff_eq];rw[A9 q_o,A9 q_o] at G;exact G
 rw[e];have g2:decide ((m.length:Int)<(m.length:Int))=false:=q_f;repeat' (first|refine s_0 ?_|refine q_k 4 ?_;refine zl ?_;refine zf ?_;refine q_v (zm (hr:=g2)) ?_|refine q_k 8 ?_)
 exact q_r
end Go.Proofs.YtdnlngbjpdbffaaGreatDoor
