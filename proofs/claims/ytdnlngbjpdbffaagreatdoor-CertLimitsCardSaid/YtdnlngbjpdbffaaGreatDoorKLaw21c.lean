/- Lemmas of this proof. -/
import Derived.Test.YtdnlngbjpdbffaaGreatDoorKJ41
set_option maxHeartbeats 2000000
set_option maxRecDepth 10000
set_option linter.all false
namespace Go.Sy
open Go
theorem SlA.rowS{t:Nat}{w:World}{M:Nat->Prop}{E n m c s:Nat}{a:Option Addr}{xs:List Value}{L:List Res}(hh:Holds t M L w)(hL:Has L (.row (.slice a m c) E s n xs)):SlA w a xs:=by
 have q:w.ownsRow 0 E s (.slice a m c) n xs:=hh.has hL;obtain⟨B,⟨_,C⟩|⟨b,I,A,H,_,F,J,K,N,G⟩⟩:=q
 ·exact .inl (BF.1 (by rw[B,C,BJ]))
 ·cases H;refine .inr ⟨b,0,rfl,λj v r=>?_⟩;rw[<-G,Bt] at r;split at r
  ·simp only[World.cell?,F,AR];simpa using r
  ·cases r
end Go.Sy
namespace Go.Ct
open Go Go.Sy
def kX:Anch:=⟨kP [120],1,[0,16]⟩
def zfG:List (Nat×Nat)->List Value
 | []=>[]
 |b::r=>zfG r++[.slice (some ⟨b.1,0,none⟩) 1 1,.string (str [82]),.int .i64 1,.slice (some ⟨b.2,0,none⟩) 2 2]
def zgi:List (Nat×Nat)->List Pa
 | []=>[]
 |b::r=>zgi r++[⟨some ⟨b.1,0,none⟩,1,some ⟨b.2,0,none⟩,2⟩]
def zfH(S U:Nat):List (Nat×Nat)->List Res
 | []=>[]
 |b::r=> .blk b.2 U [.int .u8 0,.int .u8 16]:: .blk b.1 S [.string (str [120])]::zfH S U r
def zdC:List (Nat×Nat)->List Anch
 | []=>[]
 |_::r=>zdC r++[kX]
theorem ze0:∀r,(zgi r).length=r.length
 | []=>rfl
 |_::r=>by rw[zgi,A2,ze0 r];rfl
theorem zcO:∀r,(zdC r).length=r.length
 | []=>rfl
 |_::r=>by rw[zdC,A2,zcO r];rfl
theorem zo0:∀r,(List.zipWith zb5 (zgi r) (zdC r)).flatten=zfG r
 | []=>rfl
 |b::r=>by
  rw[zgi,zdC,Es (by rw[ze0,zcO]),DP,zo0 r];rfl
theorem znu{w:World}{S U:Nat} :∀r,(∀x∈zfH S U r,x.holds w)->∀(i:Nat) (p:Pa) (x:Anch),(zgi r)[i]?=some p->(zdC r)[i]?=some x->AnchAt w p x
 | [],_,i,p,x,h,_=>by simp[zgi] at h
 |b::r,hm,i,p,x,h1,h2=>by
  rw[zgi] at h1;rw[zdC] at h2;rcases AH i r.length with h|h
  ·rw[Aq (by rw[ze0];exact h)] at h1;rw[Aq (by rw[zcO];exact h)] at h2;exact znu r (λx t=>hm x (A9 _ (A9 _ t))) i p x h1 h2
  ·rw[BA (by rw[ze0];exact h),ze0] at h1;rw[BA (by rw[zcO];exact h),zcO] at h2;have q:i-r.length=0:=by
    have:=(AQ.1 h1).1;simpa using this
   rw[q] at h1 h2;cases h1;cases h2;have j:(Res.blk b.2 U [.int .u8 0,.int .u8 16]).holds w:=hm _ A5;have m:(Res.blk b.1 S [.string (str [120])]).holds w:=hm _ (A9 _ A5);exact⟨zgr (zp m F0) q_e,zfv (l:=[0,16]) (zp j F0) rfl,by show(Lit.int .i64 1).wf=true;decide⟩
theorem zhq:∀r,∀x∈zdC r,x=kX
 | [],x,h=>by cases h
 |b::r,x,h=>by
  rcases BE.1 h with h|h
  ·exact zhq r x h
  ·exact AF.1 h
def zgY:List Nat->List Value
 | []=>[]
 |b::r=>zgY r++[.slice (some ⟨b,0,none⟩) 1 1,.string (str [82]),.int .i64 (r.length:Nat)]
def zgm:List Nat->List (Option Addr×Nat)
 | []=>[]
 |b::r=>zgm r++[(some ⟨b,0,none⟩,1)]
def zhK(S:Nat):List Nat->List Res
 | []=>[]
 |b::r=> .blk b S [.string (str [120])]::zhK S r
def zd8:List Nat->List Revo
 | []=>[]
 |_::r=>zd8 r++[⟨kP [120],(r.length:Nat)⟩]
theorem zeM:∀r,(zgm r).length=r.length
 | []=>rfl
 |_::r=>by rw[zgm,A2,zeM r];rfl
theorem zcR:∀r,(zd8 r).length=r.length
 | []=>rfl
 |_::r=>by rw[zd8,A2,zcR r];rfl
theorem zoW:∀r,(List.zipWith zdq (zgm r) (zd8 r)).flatten=zgY r
 | []=>rfl
 |b::r=>by
  rw[zgm,zd8,Es (by rw[zeM,zcR]),DP,zoW r];rfl
theorem zmx{w:World}{S:Nat} :∀r,r.length<1000->(∀x∈zhK S r,x.holds w)->∀(i:Nat) (p:Option Addr×Nat) (x:Revo),(zgm r)[i]?=some p->(zd8 r)[i]?=some x->RevoAt w p x
 | [],_,_,i,p,x,h,_=>by simp[zgm] at h
 |b::r,hl,hm,i,p,x,h1,h2=>by
  rw[zgm] at h1;rw[zd8] at h2;rw[Ac] at hl;rcases AH i r.length with h|h
  ·rw[Aq (by rw[zeM];exact h)] at h1;rw[Aq (by rw[zcR];exact h)] at h2;exact zmx r q_o (λx q=>hm x (A9 _ q)) i p x h1 h2
  ·rw[BA (by rw[zeM];exact h),zeM] at h1;rw[BA (by rw[zcR];exact h),zcR] at h2;have m:i-r.length=0:=by
    have:=(AQ.1 h1).1;simpa using this
   rw[m] at h1 h2;cases h1;cases h2;have j:(Res.blk b S [.string (str [120])]).holds w:=hm _ A5;exact⟨zgr (zp j F0) q_e,by
    show(decide (IntKind.i64.min<=(r.length:Int))&&decide ((r.length:Int)<=IntKind.i64.max))=true;rw[show IntKind.i64.min=(-9223372036854775808:Int) from by decide,show IntKind.i64.max=(9223372036854775807:Int) from by decide,decide_eq_true (show(-9223372036854775808:Int)<=(r.length:Int) by omega),decide_eq_true (show(r.length:Int)<=9223372036854775807 by omega)];rfl⟩
theorem znr:∀r,∀x∈zd8 r,x.issuer=kP [120]
 | [],x,h=>by cases h
 |b::r,x,h=>by
  rcases BE.1 h with h|h
  ·exact znr r x h
  ·rw[AF.1 h]
def kL:Cert:=⟨0,kP [99,97],kP [97],0,0,false,1,[0,16],[]⟩
theorem ztc{sv:Int->List UInt8->Bool}{sf:Int->List UInt8->List UInt8->List UInt8->Bool}(h:sv 1 [0,16]=true)(bs:List (Nat×Nat))(j:List Nat):zcf sf sv [kL] (zdC bs) (zd8 j) 0=(0,if bs.length<=64/\j.length<=64 then 220 else 2):=by
 have q:kL.ok sv=true:=by
  show(decide (0<=(0:Int))&&decide ((0:Int)<=4611686018427387904)&&(kP [99,97]).ok&&(kP [97]).ok&&decide (0<=(0:Int))&&decide ((0:Int)<=0)&&decide ((0:Int)<=1099511627776)&&decide (0<=192)&&sv 1 [0,16])=true;rw[zpN,zsg,h];rfl
 have A:zbo sv [kL]=true:=by unfold zbo;rw[BP,q];rfl
 have w:(zdC bs).all (Anch.ok sv)=true:=by
  rw[AT];intro x t;rw[zhq bs x t];show((kP [120]).ok&&sv 1 [0,16])=true;rw[zxc,h];rfl
 unfold zcf;by_cases hl:bs.length<=64/\j.length<=64
 ·have r:zeE sv [kL] (zdC bs) (zd8 j) 0=true:=by
   unfold zeE;rw[A,w,zcO,zcR,decide_eq_true hl.1,decide_eq_true hl.2];rfl
  rw[if_pos r,if_pos hl];show zfq sf (zd8 j) 0 [kL] (zdn (zdC bs) (kP [99,97]))=_;have B:zdn (zdC bs) (kP [99,97])=noAnch:=by
   unfold zdn;rw[EF.2 (λx t=>by rw[zhq bs x t];decide)];rfl
  rw[B];rfl
 ·have r:zeE sv [kL] (zdC bs) (zd8 j) 0=false:=by
   unfold zeE;rw[zcO,zcR];rw[Ci];intro m;simp only[AB,decide_eq_true_eq] at m;exact hl ⟨m.1.1.1.1.2,m.1.1.2⟩
  rw[r,if_neg hl];rfl
end Go.Ct
namespace Go.Proofs.YtdnlngbjpdbffaaGreatDoor
open Go Go.Sy Go.Ct Go.Nt Go.RowKit
attribute [local irreducible] Sy SyL SyX SyC SyF Sy.Fn callFunc
theorem zlY(z0 V:Int)(w:World)(hG:GT w)(hT:Tab w No)(hS:ST w):q_G 7 [.int .i64 z0,.int .i64 V] w (.bool true):=by
  refine zo Tryz.func7 Tryz.ntmps7 ?_;have C:=λq (A:Keep No w q)=>zhv q (hG.to A) (hT.no A) (hS.to A);have Z:z0<0\/(0<=z0/\70<z0)\/(0<=z0/\z0<=70/\V<0)\/(0<=z0/\z0<=70/\0<=V/\70<V)\/(0<=z0/\z0<=70/\0<=V/\V<=70):=q_o;rcases Z with h|h|h|h|h
  · repeat' (first|refine s_0 ?_|refine q_k 0 ?_|refine q_k 1 ?_;refine zR ?_;refine zb ?_|refine zg 2 ?_;refine q_v (za (hc:=zq C)) ?_;refine zb ?_)
    exact q_r
  · repeat' (first|refine s_0 ?_|refine q_k 0 ?_|refine q_k 1 ?_;refine zR ?_;refine zb ?_;refine q_x zF ?_|refine zg 2 ?_;refine q_v (za (hc:=zq C)) ?_;refine zb ?_)
    exact q_r
  · repeat' (first|refine s_0 ?_|refine q_k 0 ?_|refine q_k 1 ?_;refine zR ?_;refine zb ?_;refine q_x zF ?_;refine zR ?_;refine zb ?_|refine zg 2 ?_;refine q_v (za (hc:=zq C)) ?_;refine zb ?_)
    exact q_r
  · repeat' (first|refine s_0 ?_|refine q_k 0 ?_|refine q_k 1 ?_;refine zR ?_;refine zb ?_;refine q_x zF ?_;refine zR ?_;refine zb ?_;refine q_x zF ?_|refine zg 2 ?_;refine q_v (za (hc:=zq C)) ?_;refine zb ?_)
    exact q_r
  obtain⟨n,rfl⟩:∃n:Nat,z0=(n:Int):=⟨z0.toNat,by omega⟩;obtain⟨m,rfl⟩:∃m:Nat,V=(m:Int):=⟨V.toNat,by omega⟩;have hp:=λl q=>zlp l q;unfold zp3 at hp;have B:=hp [120];have a7:=hp [99,97];have ha:=hp [97];repeat' (first|refine s_t ?_|refine zK [0,3,4,5] ?_;refine zb ?_|refine q_k 1 ?_;refine zR ?_;refine zb ?_;refine q_x zF ?_;refine zR ?_;refine zb ?_;refine q_x zF ?_)
  refine zbn (zaO 65 4) ?_;refine zE (γ:=List (Nat×Nat)×Option Addr×Nat) (λg=>[(0,.int .i64 (n:Int)),(1,.int .i64 (m:Int)),(7,.int .i64 (g.1.length:Int)),(5,.slice g.2.1 g.1.length g.2.2),(6,.slice none 0 0)]) (λg=> .row (.slice g.2.1 g.1.length g.2.2) 65 4 g.1.length (zfG g.1)::zfH 9 5 g.1) (λg=>g.1.length<=n) (λg=>n-g.1.length) ([],none,0) (AE _) ?_ ?_ ?_
  · exact q_h
  · exact q_h
  rintro⟨bs,E,G⟩ a9;dsimp only at a9 ⊢;by_cases hlt:bs.length<n
  · have g1:decide ((bs.length:Int)<(n:Int))=true:=q_d
    have g5:IntKind.i64.wrap ((bs.length:Int)+1)=((bs.length+1:Nat):Int):=q_w;have hys:∀r F:Nat,zfG bs++[.slice (some ⟨r,0,none⟩) 1 1,.string (str [82]),.int .i64 1,.slice (some ⟨F,0,none⟩) 2 2]=zfG ((r,F)::bs):=λ_ _=>rfl;have hkm:∀b:Nat×Nat,bs.length+1=(b::bs).length:=λ_=>rfl;repeat' (first|refine s_t ?_|refine q_k 6 ?_;refine q_v (zl (hr:=g1)) ?_|refine q_k 8 ?_;(refine q_s (zh (hc:=λq X A t=>B q)) ?_;rintro _ _ ⟨R,rfl,r,rfl,rfl⟩);(refine q_s (zw (vs:=[.int .u8 0,.int .u8 16])) ?_;rintro _ _ ⟨F,rfl,rfl⟩);refine zbj ?_;(refine q_s (zbu (vs:=[.agg [.slice (some ⟨r,0,none⟩) 1 1,.string (str [82]),.int .i64 1,.slice (some ⟨F,0,none⟩) 2 2].toArray]) (zdB (s:=4) rfl rfl)) ?_;rintro _ _ ⟨bL,rfl,rfl⟩);(refine q_s (zak (size:=4) (m:=1) (hys:=hys r F) (hkm:=hkm (r,F))) ?_;rintro _ _ ⟨rfl,W,Y,rfl⟩);refine zb ?_)
    refine FJ (fr':=[(0,.int .i64 (n:Int)),(1,.int .i64 (m:Int)),(7,.int .i64 (bs.length:Int)),(5,.slice W ((r,F)::bs).length Y),(6,.slice none 0 0)]) (L':=.row (.slice W ((r,F)::bs).length Y) 65 4 ((r,F)::bs).length (zfG ((r,F)::bs))::zfH 9 5 ((r,F)::bs)) ?_ q_h ?_;rotate_left
    · show SubR (_:: .blk F 5 [.int .u8 0,.int .u8 16]:: .blk r 9 [.string (str [120])]::zfH 9 5 bs) _
      (repeat' (first|exact F2|apply F9;with_reducible (focus ((repeat (first|exact F1|apply F3));done))|apply FC;(focus ((repeat (first|exact F1|apply F3));done))|apply F9;(focus ((repeat (first|exact F1|apply F3));done))|apply FA;(focus ((repeat (first|exact F1|apply F3));done))|rfl))
      all_goals exact FE F8
    repeat' (first|refine zav ?_|refine zai ?_|refine q_k 7 ?_;refine q_x (zA (hr:=g5)) ?_)
    refine zy ((r,F)::bs,W,Y) hlt ?_ ?_ ?_
    · show n-(bs.length+1)<n-bs.length;omega
    · exact q_h
    · exact F8
  obtain rfl:bs.length=n:=q_o;have g1:decide ((bs.length:Int)<(bs.length:Int))=false:=q_f;repeat' (first|refine s_t ?_|refine q_k 6 ?_;refine q_v (zl (hr:=g1)) ?_|refine q_k 9 ?_)
  refine zbn (zaO 67 3) ?_;refine zE (γ:=List Nat×Option Addr×Nat) (λg=>[(0,.int .i64 (bs.length:Int)),(1,.int .i64 (m:Int)),(5,.slice E bs.length G),(8,.int .i64 (g.1.length:Int)),(6,.slice g.2.1 g.1.length g.2.2)]) (λg=> .row (.slice g.2.1 g.1.length g.2.2) 67 3 g.1.length (zgY g.1):: .row (.slice E bs.length G) 65 4 bs.length (zfG bs)::(zhK 9 g.1++zfH 9 5 bs)) (λg=>g.1.length<=m) (λg=>m-g.1.length) ([],none,0) (AE _) ?_ ?_ ?_
  · exact q_h
  · exact F8
  rintro⟨j,K,P⟩ b0;dsimp only at b0 ⊢;by_cases hlt:j.length<m
  · have g1:decide ((j.length:Int)<(m:Int))=true:=q_d
    have g5:IntKind.i64.wrap ((j.length:Int)+1)=((j.length+1:Nat):Int):=q_w;have hys:∀r:Nat,zgY j++[.slice (some ⟨r,0,none⟩) 1 1,.string (str [82]),.int .i64 (j.length:Nat)]=zgY (r::j):=λ_=>rfl;have hkm:∀b:Nat,j.length+1=(b::j).length:=λ_=>rfl;repeat' (first|refine s_t ?_|refine q_k 10 ?_;refine q_v (zl (hr:=g1)) ?_|refine q_k 12 ?_;(refine q_s (zh (hc:=λq X A t=>B q)) ?_;rintro _ _ ⟨R,rfl,r,rfl,rfl⟩);refine zb ?_;refine zbj ?_;(refine q_s (zbu (vs:=[.agg [.slice (some ⟨r,0,none⟩) 1 1,.string (str [82]),.int .i64 (j.length:Int)].toArray]) (zdB (s:=3) rfl rfl)) ?_;rintro _ _ ⟨bL,rfl,rfl⟩);(refine q_s (zak (size:=3) (m:=1) (hys:=hys r) (hkm:=hkm r)) ?_;rintro _ _ ⟨rfl,W,Y,rfl⟩);refine zb ?_)
    refine FJ (fr':=[(0,.int .i64 (bs.length:Int)),(1,.int .i64 (m:Int)),(5,.slice E bs.length G),(8,.int .i64 (j.length:Int)),(6,.slice W (r::j).length Y)]) (L':=.row (.slice W (r::j).length Y) 67 3 (r::j).length (zgY (r::j)):: .row (.slice E bs.length G) 65 4 bs.length (zfG bs)::(zhK 9 (r::j)++zfH 9 5 bs)) ?_ q_h ?_;rotate_left
    · show SubR (_::_:: .blk r 9 [.string (str [120])]::(zhK 9 j++zfH 9 5 bs)) _
      (repeat' (first|exact F2|apply F9;with_reducible (focus ((repeat (first|exact F1|apply F3));done))|apply FC;(focus ((repeat (first|exact F1|apply F3));done))|apply F9;(focus ((repeat (first|exact F1|apply F3));done))|apply FA;(focus ((repeat (first|exact F1|apply F3));done))|rfl))
      all_goals exact FE F8
    repeat' (first|refine zav ?_|refine zai ?_|refine q_k 11 ?_;refine q_x (zA (hr:=g5)) ?_)
    refine zy (r::j,W,Y) hlt ?_ ?_ ?_
    · show m-(j.length+1)<m-j.length;omega
    · exact q_h
    · exact F8
  obtain rfl:j.length=m:=q_o;have g1:decide ((j.length:Int)<(j.length:Int))=false:=q_f;have U:=ztc (sv:=svK) (sf:=sfK) zdP bs j;have H:∀q (_:Keep No w q) (a:Option Addr) (ps:List Pl),ze5 q a 1 ps [kL]->ze6 q E G (zgi bs) (zdC bs)->ze8 q K P (zgm j) (zd8 j)->q_G 25 [.slice a 1 1,.slice E bs.length G,.slice K j.length P,.int .i64 0] q (.tuple #[.int .i64 0,.int .i64 (if bs.length<=64/\j.length<=64 then 220 else 2)]):=by
    intro q A a ps Q S h3;have:=zj7 a E K 1 1 bs.length G j.length P ps [kL] (zgi bs) (zdC bs) (zgm j) (zd8 j) 0 q (hG.to A) (hT.no A) (hS.to A) rfl (zcO bs) (zcR j) Q S h3 (λx B=>by
      rw[AF.1 B];exact⟨⟨by show 1<1000000;decide,by show 1<1000000000;decide,λz hz=>by rw[AF.1 hz];decide⟩,⟨by show 1<1000000;decide,by show 1<1000000000;decide,λz hz=>by rw[AF.1 hz];decide⟩⟩) (λx B=>by
      rw[zhq bs x B];exact⟨by show 1<1000000;decide,by show 1<1000000000;decide,λz hz=>by rw[AF.1 hz];decide⟩) (λx B=>by
      rw[znr j x B];exact⟨by show 1<1000000;decide,by show 1<1000000000;decide,λz hz=>by rw[AF.1 hz];decide⟩) q_e q_o q_o
    rw[U] at this;exact this
  repeat' (first|refine s_0 ?_|refine q_k 10 ?_;refine q_v (zl (hr:=g1)) ?_|refine zg 13 ?_;(refine q_s (zh (hc:=λq X A t=>a7 q)) ?_;rintro _ _ ⟨R,rfl,M,rfl,rfl⟩);(refine q_s (zh (hc:=λq X A t=>ha q)) ?_;rintro _ _ ⟨R,rfl,N,rfl,rfl⟩);(refine q_s (zw (vs:=[.int .u8 0,.int .u8 16])) ?_;rintro _ _ ⟨O,rfl,rfl⟩);refine q_v zpP ?_;(refine q_s (zbu (vs:=[.agg (zx (kPl M N O) kL).toArray]) (zdB (s:=11) rfl rfl)) ?_;rintro _ _ ⟨bC,rfl,rfl⟩);refine zb ?_)
  refine FJ (fr':=[(0,.int .i64 (bs.length:Int)),(1,.int .i64 (j.length:Int)),(5,.slice E bs.length G),(6,.slice K j.length P),(9,.slice (some ⟨bC,0,none⟩) 1 1)]) (L':=.blk bC 45 (zx (kPl M N O) kL):: .blk O 5 [.int .u8 0,.int .u8 16]:: .blk N 9 [.string (str [97])]:: .blk M 9 [.string (str [99,97])]:: .row (.slice K j.length P) 67 3 j.length (zgY j):: .row (.slice E bs.length G) 65 4 bs.length (zfG bs)::(zhK 9 j++zfH 9 5 bs)) ?_ q_h ?_;rotate_left
  · exact F8
  have J:∀ {q:World}{X:List Res}{L:List Res},Holds w.heap.size No (L++X) q->(∀x∈zhK 9 j++zfH 9 5 bs,x∈L)->Has L (.row (.slice K j.length P) 67 3 j.length (zgY j))->Has L (.row (.slice E bs.length G) 65 4 bs.length (zfG bs))->ze6 q E G (zgi bs) (zdC bs)/\ze8 q K P (zgm j) (zd8 j):=λ{q X L} t hm Q S=>
    ⟨⟨by rw[ze0,zcO],by rw[zcO];exact FR t (F5 S),λh=>(Fv t (F5 S) h).1,by rw[zo0];exact SlA.rowS t (F5 S),znu bs (λx B=>t.all x (AX _ (hm x (Ar _ B))))⟩,
     ⟨by rw[zeM,zcR],by rw[zcR];exact FR t (F5 Q),λh=>(Fv t (F5 Q) h).1,by rw[zoW];exact SlA.rowS t (F5 Q),zmx j q_o (λx B=>t.all x (AX _ (hm x (AX _ B))))⟩⟩
  have T:∀ {q:World},q.rangeAt bC 0 (zx (kPl M N O) kL)->q.rangeAt O 0 [.int .u8 0,.int .u8 16]->q.rangeAt N 0 [.string (str [97])]->q.rangeAt M 0 [.string (str [99,97])]->ze5 q (some ⟨bC,0,none⟩) 1 [kPl M N O] [kL]:=λr1 r2 r3 r4=>
    zjR (cell:=zx) r1 ⟨zgr r4 q_e,zgr r3 q_e,zfv (l:=[0,16]) r2 rfl,zrj,(by show(Lit.int .i64 0).wf=true;decide),(by show(Lit.int .i64 0).wf=true;decide),(by show(Lit.int .i64 0).wf=true;decide),(by show(Lit.int .i64 1).wf=true;decide)⟩
  have I:∀ {q:World}{X:List Res}{L:List Res},Keep No w q->Holds w.heap.size No (L++X) q->(∀x∈zhK 9 j++zfH 9 5 bs,x∈L)->Has L (.row (.slice K j.length P) 67 3 j.length (zgY j))->Has L (.row (.slice E bs.length G) 65 4 bs.length (zfG bs))->Has L (.blk bC 45 (zx (kPl M N O) kL))->Has L (.blk O 5 [.int .u8 0,.int .u8 16])->Has L (.blk N 9 [.string (str [97])])->Has L (.blk M 9 [.string (str [99,97])])->q_G 25 [.slice (some ⟨bC,0,none⟩) 1 1,.slice E bs.length G,.slice K j.length P,.int .i64 0] q (.tuple #[.int .i64 0,.int .i64 (if bs.length<=64/\j.length<=64 then 220 else 2)]):=λ{q X L} A t hm Q S h3 h4 h5 h6=>
    H q A _ _ (T (zp (t.has (F5 h3)) F0) (zp (t.has (F5 h4)) F0) (zp (t.has (F5 h5)) F0) (zp (t.has (F5 h6)) F0)) (J t hm Q S).1 (J t hm Q S).2
  clear H J T U a7 B ha hp;generalize zhK 9 j++zfH 9 5 bs=MM,zfG bs=AC,zgY j=RC,zx (kPl M N O) kL=CL at*;have a8:=λq=>zgf 2 q;have a6:=λq=>zgf 220 q;by_cases hl:bs.length<=64/\j.length<=64
  · simp only[if_pos hl] at I
    have k1:decide ((bs.length:Int)>64)=false:=q_f;have k2:decide ((j.length:Int)>64)=false:=q_f;repeat' (first|refine s_0 ?_|refine q_k 14 ?_;refine q_v (za (hc:=λq X A t=>I A t (by intro x B;(repeat (first|exact B|apply A9))) (by exact F4) (by exact F4) (by exact F4) (by exact F4) (by exact F4) (by exact F4))) ?_;refine zb ?_|refine q_k 15 ?_;refine q_x (zF (hr:=k1)) ?_;refine q_x (zF (hr:=k2)) ?_|refine q_k 17 ?_;refine zaH ?_;refine zb ?_;refine q_v (za (hc:=q_c a6)) ?_;refine zaH ?_;refine zb ?_;refine q_v (za (hc:=zq C)) ?_;refine zb ?_)
    exact q_r
  simp only[if_neg hl] at I;by_cases hl1:bs.length<=64
  · have k1:decide ((bs.length:Int)>64)=false:=q_f
    have k2:decide ((j.length:Int)>64)=true:=q_d;repeat' (first|refine s_0 ?_|refine q_k 14 ?_;refine q_v (za (hc:=λq X A t=>I A t (by intro x B;(repeat (first|exact B|apply A9))) (by exact F4) (by exact F4) (by exact F4) (by exact F4) (by exact F4) (by exact F4))) ?_;refine zb ?_|refine q_k 15 ?_;refine q_x (zF (hr:=k1)) ?_;refine q_x (zF (hr:=k2)) ?_|refine q_k 16 ?_;refine zaH ?_;refine zb ?_;refine q_v (za (hc:=q_c a8)) ?_;refine zaH ?_;refine zb ?_;refine q_v (za (hc:=zq C)) ?_;refine zb ?_)
    exact q_r
  · have k1:decide ((bs.length:Int)>64)=true:=q_d
    repeat' (first|refine s_0 ?_|refine q_k 14 ?_;refine q_v (za (hc:=λq X A t=>I A t (by intro x B;(repeat (first|exact B|apply A9))) (by exact F4) (by exact F4) (by exact F4) (by exact F4) (by exact F4) (by exact F4))) ?_;refine zb ?_|refine q_k 15 ?_;refine q_x (zF (hr:=k1)) ?_|refine q_k 16 ?_;refine zaH ?_;refine zb ?_;refine q_v (za (hc:=q_c a8)) ?_;refine zaH ?_;refine zb ?_;refine q_v (za (hc:=zq C)) ?_;refine zb ?_)
    exact q_r
end Go.Proofs.YtdnlngbjpdbffaaGreatDoor
