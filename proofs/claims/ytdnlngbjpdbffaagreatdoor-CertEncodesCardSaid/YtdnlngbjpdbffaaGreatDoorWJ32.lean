/- Lemmas of this proof. -/
import Derived.Test.YtdnlngbjpdbffaaGreatDoorWJ31
import Derived.MapKept
set_option maxHeartbeats 1000000
set_option maxRecDepth 10000
set_option linter.all false
namespace Go.Proofs.YtdnlngbjpdbffaaGreatDoor
open Go Go.Sy Go.Ct Go.Nt Go.RowKit
attribute [local irreducible] Sy SyL SyX SyC SyF Sy.Fn callFunc
theorem zoH(p:Pl)(c:Cert)(w:World)(h:CertAt w p c)(B:c.small):Sy.Fn Tryz.prog 51 [.agg (zG p c).toArray] w No (zbi c.der):=by
 refine zt Tryz.func51 Tryz.ntmps51 ?_;have Y:=λj (C:Keep No w j)=>zlF p c j (h.keep C) B;have S:=B.sig;have Q:=B.pub;have Z:=λj (C:Keep No w j)=>zp1 ⟨p.a4,c.sig.length,p.k4,c.sig⟩ j (h.sig.keep C) (by show c.sig.length<16777216;omega);have p0:0<c.body.length:=by rw[FN];exact zbC
 have p1:0<(za8 c.sig).length:=zbC;have m0:c.body.length<=605+c.pub.length:=by rw[FN];have:=(zX 0x30 c.flat).2;have:=GZ B;omega
 have m1:(za8 c.sig).length<=c.sig.length+5:=zco (A6 _);obtain⟨q,F⟩:∃G,G=zaw 0 c.body:=⟨_,rfl⟩;obtain⟨r,H⟩:∃G,G=zaw 1 (za8 c.sig):=⟨_,rfl⟩;have l0:q.length<=c.body.length+5:=by rw[F];exact(zX (0xa0+0) _).2
 have l1:r.length<=(za8 c.sig).length+5:=by rw[H];exact(zX (0xa0+1) _).2
 have E:c.der=tlv 0x30 (q++r):=by rw[F,H];simp[Cert.der,zdv]
 generalize za8 c.sig=J,c.body=I,c.der=T at*;have hC:(zG p c).drop 10= [.slice p.a4 c.sig.length p.k4]:=rfl;unfold zG at*;repeat' (first|refine s_0 ?_|refine zf 0 ?_;refine zW ?_;intro _)
 (refine zdC (id:=1) [0,3,4] [1,2,5,6,7,8,9] mixed ?_ ?_;kernel_rfl;refine yfv ze (k:=?_);refine yfv zM (k:=?_);refine yfv zL (k:=?_);refine yf0 ?_;try refine yc0 (k:=?_))
 refine ycs (zi (hc:=zu Y)) (k:=?_);rintro _ _ ⟨R,rfl,a0,V,rfl,rfl⟩;refine ycs (zi (hc:=λj X C A=>zcz 0 a0 I.length V I q j q_e (zaz A rfl q_h) p0 q_o F)) (k:=?_);rintro _ _ ⟨R,rfl,K,d0,rfl,rfl⟩;refine ycs (zi (hc:=zu Z)) (k:=?_);rintro _ _ ⟨R,rfl,a1,W,rfl,rfl⟩;refine ycs (zi (hc:=λj X C A=>zcz 1 a1 J.length W J r j q_e (zaz A rfl q_h) p1 q_o H)) (k:=?_);rintro _ _ ⟨R,rfl,O,d1,rfl,rfl⟩;refine ycs zz (k:=?_);rintro _ _ ⟨U,rfl,rfl⟩;refine ycs (zi (hc:=λj X C A=>zkt U 2 [⟨K,q.length,d0,q⟩,⟨O,r.length,d1,r⟩] j rfl q_e (zp (A.has q_h) Et) (λs B=>by
   simp only[AS,BC,or_false] at B;rcases B with rfl|rfl
   ·exact zaz A rfl q_h
   ·exact zaz A rfl q_h) (by rw[show Bs.cat [⟨K,q.length,d0,q⟩,⟨O,r.length,d1,r⟩]=q++r by simp[Bs.cat]];simp only[A2];omega) T (by rw[E];simp[Bs.cat]))) (k:=?_)
 rintro _ _ ⟨R,rfl,aW,cW,rfl,rfl⟩;refine ycv za6 (k:=?_);refine yc0 (k:=?_);repeat' (first|refine s_0 ?_|fail)
 exact zap rfl (zh rfl) (F3 Es rfl Er) ⟨_,_,rfl,rfl⟩
theorem zpT(p:Pl)(c:Cert)(w:World)(F:GT w)(h:CertAt w p c)(G:c.fine)(j:c.ok svK=true):Sy.Fn Tryz.prog 21 [.agg (zG p c).toArray] w No (λv R=>∃a k,v= .tuple #[.slice a c.der.length k,.int .i64 0]/\R= [.row (.slice a c.der.length k) 5 1 c.der.length (c.der.map v8)]):=by
 refine zt Tryz.func21 Tryz.ntmps21 ?_;have E:=λq (r:Keep No w q)=>zd9 p c q (F.to r) (h.keep r) G;rw[j] at E;have H:=λq (r:Keep No w q)=>zoH p c q (h.keep r) (F9 zef j);have A:(zG p c).length=11:=rfl;generalize zG p c=C at*;repeat' (first|refine s_0 ?_|refine zf 0 ?_;refine zW ?_;intro _|refine zf 1 ?_;refine q_v (ze (B:=C) (hz:=A.symm)) ?_;refine q_v (za (hc:=zu E)) ?_;refine zJ ?_|refine zf 3 ?_;refine q_v (ze (B:=C) (hz:=A.symm)) ?_;(refine q_s (zi (hc:=zu H)) ?_;rintro _ _ ⟨R,rfl,I,J,rfl,rfl⟩);refine zb ?_)
 exact zU rfl (zh rfl) (zh rfl) q_h ⟨_,_,rfl,rfl⟩
theorem zwE(p:Pl)(c:Cert)(w:World)(F:GT w)(h:CertAt w p c)(G:c.fine)(j:c.ok svK=false):q_G 21 [.agg (zG p c).toArray] w (.tuple #[.slice none 0 0,.int .i64 2]):=by
 refine zt Tryz.func21 Tryz.ntmps21 ?_;have r:=λA (q:Keep No w A)=>zd9 p c A (F.to q) (h.keep q) G;rw[j] at r;have E:(zG p c).length=11:=rfl;generalize zG p c=C at*;repeat' (first|refine s_0 ?_|refine zf 0 ?_;refine zW ?_;intro _|refine zf 1 ?_;refine q_v (ze (B:=C) (hz:=E.symm)) ?_;refine q_v (za (hc:=zu r)) ?_;refine zJ ?_|refine q_k 2 ?_)
 exact q_r
def zaa(p:Pl)(c:Cert):List Res:=[.row (.slice p.a1 c.issuer.parts.length p.k1) 9 1 c.issuer.parts.length (c.issuer.parts.map zT),.row (.slice p.a2 c.subject.parts.length p.k2) 9 1 c.subject.parts.length (c.subject.parts.map zT),.row (.slice p.a3 c.pub.length p.k3) 5 1 c.pub.length (c.pub.map v8),.row (.slice p.a4 c.sig.length p.k4) 5 1 c.sig.length (c.sig.map v8)]
def zhj(c:Cert)(v:Value)(R:List Res):Prop:=∃p,v= .agg (zG p c).toArray/\R=zaa p c
theorem ztN(p:Pl)(c:Cert)(w:World)(h:CertAt w p c)(E:c.fine)(hp:c.pub.length<1000000)(Q:c.sig.length<1000000):Sy.Fn Tryz.prog 32 [.agg (zG p c).toArray] w No (zhj c):=by
 refine zt Tryz.func32 Tryz.ntmps32 ?_;have K:=λC (F:Keep No w C)=>zof _ _ C (h.iss.keep F) E.i.1;have O:=λC (F:Keep No w C)=>zof _ _ C (h.sub.keep F) E.s.1;have I:=h.pub.sla;have J:=h.sig.sla;have G:=h.pub.nil;have H:=h.sig.nil;dsimp only at I J G H;unfold zG zba zhj zaa at*;clear h E;obtain⟨serial,⟨j,q⟩,⟨r,A⟩,fr,til,auth,group,pub,sig⟩:=c;dsimp only at*;repeat' (first|refine s_0 ?_|refine zf 0 ?_;refine zj ?_;intro _;refine zj ?_;intro _|refine q_k 1 ?_;refine q_v (ze (B:=[.slice p.a1 j.length p.k1,zT q]) (hv:=FF rfl)) ?_;(refine q_s (zi (hc:=zu K)) ?_;rintro _ _ ⟨R,rfl,a1,k1,rfl,rfl⟩);refine zb ?_;refine q_n (zdx (hC:=A5 rfl)) ?_|refine q_k 2 ?_;refine q_v (ze (B:=[.slice p.a2 r.length p.k2,zT A]) (hv:=FF rfl)) ?_;(refine q_s (zi (hc:=zu O)) ?_;rintro _ _ ⟨R,rfl,a2,k2,rfl,rfl⟩);refine zb ?_;refine q_n (zdx (hC:=A5 rfl)) ?_|refine q_k 3 ?_;refine zm ?_;(refine q_s (zgl (hr:=FM I (λ_ _ h=>h)) (hn:=by rw[A0,Ak]) (hnil:=G)) ?_;rintro _ _ ⟨rfl,a3,k3,rfl⟩);refine zb ?_;refine q_n (zaM (hC:=⟨A5 rfl,rfl⟩)) ?_|refine q_k 4 ?_;refine zm ?_;(refine q_s (zgl (hr:=FM J (λ_ _ h=>h)) (hn:=by rw[A0,Ak]) (hnil:=H)) ?_;rintro _ _ ⟨rfl,a4,k4,rfl⟩);refine zb ?_;refine q_n (zaM (hC:=⟨A5 rfl,rfl⟩)) ?_|refine zf 5 ?_;refine zm ?_;refine q_n (zdx (hC:=A5 rfl)) ?_)
 exact zap rfl (zB (B:=[.int .i64 serial,.slice a1 j.length k1,zT q,.slice a2 r.length k2,zT A,.int .i64 fr,.int .i64 til,.bool auth,.int .i64 group,.slice a3 pub.length k3,.slice a4 sig.length k4]) rfl (ty rfl) rfl Ev Et rfl) q_h ⟨⟨a1,k1,a2,k2,a3,k3,a4,k4⟩,rfl,rfl⟩
end Go.Proofs.YtdnlngbjpdbffaaGreatDoor
namespace Go.Sy
open Go Instr Go.MapKept
variable {P:Program}{ro:Option Nat}{N:Nat}{w0:World}{M:Nat->Prop}{ds:List Deferred}{g:Nat->Option Value}{L:List Res}{o:Oper}{t k e:TypeId}{d:TypeDesc}{m x:Operand}
def zdW(b:Nat)(es:List MapEntry)(c:Nat):Res:=.obj b (.map es.toArray c)
theorem zqF(q:o.op= .makeMap t none:=by exact rfl):OpT P ro N w0 M ds o g L (λv r=>∃b,v= .map (some b)/\r=zdW b [] 0::L):=
 FC (by rw[q];rfl) λa w X j=>by
  refine⟨_,_,w.alloc (.map #[] 0),zdW w.heap.size [] 0::L,?_,.inl rfl,⟨w.heap.size,rfl,rfl⟩,j.keep.trans (FY No w _) (λ_ h=>h.elim),j.hold.newObj j.keep.size _⟩;simp[execOp,q,Instr.makeMap]
theorem Keep.setObj(w:World)(b:Nat)(q:Obj):Keep (· =b) w { w with heap:=w.heap.setIfInBounds b q } :=
 ⟨rfl,rfl,rfl,by simp,λj _ r=>by
  show(w.heap.setIfInBounds b q)[j]?=_;rw[Bt (λh=>r h.symm)]⟩
theorem zsd{z:Operand}{b c:Nat}{es:List MapEntry}{key v:Value}{L':List Res}(K:P.underlying t=some (.map k e))(F:P.underlying k=some d)(hk:IsKey d key)(I:findNow d key es 0=some none)(G:o.op= .mapUpdate t m x z:=by exact rfl)
  (hm:ev g m=some (.map (some b)):=by exact rfl)(hx:ev g x=some key:=by exact rfl)(hz:ev g z=some v:=by exact rfl)
  (hL:Upd L (zdW b es c) (zdW b (es++[MapEntry.mk key v c]) (c+1)) L':=by repeat (first|exact FT|apply FR)):OpT P ro N w0 M ds o g L (Det undef L'):=
 FC (by rw[G];rfl) λa w X j=>by
  have q:w.heap[b]?=some (.map es.toArray c):=j.hold.has (r:=zdW b es c) (by obtain⟨A,B,e,_⟩:=hL;subst e;simp[Has]);have E:=j.hold.mine (zdW b es c) (by obtain⟨A,B,e,_⟩:=hL;subst e;simp) b rfl;obtain⟨s1,s2⟩:=heap_set (o':=.map (es++[MapEntry.mk key v c]).toArray (c+1)) q;refine⟨_,_,{ w with heap:=w.heap.setIfInBounds b (.map (es++[MapEntry.mk key v c]).toArray (c+1)) },L',?_,.inr ⟨rfl,rfl⟩,⟨rfl,rfl⟩,zhd j.keep (Keep.setObj w b _) E,?_⟩
  ·have J:(getObj b).run P w= .ok (.map es.toArray c) w:=by simp[getObj,Sem.run,q]
   have H:(es.toArray.push (MapEntry.mk key v c))=(es++[MapEntry.mk key v c]).toArray:=by simp
   simp[execOp,G,j.agr.eval hm,j.agr.eval hx,j.agr.eval hz,Instr.mapUpdate,run_underlying K,J,run_checkKey F hk,run_findKey F I,run_setObj_map _ q,H]
  ·exact j.hold.upd hL.append (λO C=> .inl C) s1 ((Keep.setObj w b _).mono (λx hx=>by subst hx;exact rfl))
theorem zsv{b c i:Nat}{es:List MapEntry}{key v:Value}(F:P.underlying t=some (.map k e))(q:P.underlying k=some d)(hk:IsKey d key)(C:findNow d key es 0=some (some (i,v)))(A:o.op= .lookup t m x false:=by exact rfl)
  (hm:ev g m=some (.map (some b)):=by exact rfl)(hx:ev g x=some key:=by exact rfl)(hL:Has L (zdW b es c):=by repeat (first|exact F1|apply F4)):OpT P ro N w0 M ds o g L (Det v L):=
 F0 (by rw[A];rfl) λa w X j=>by
  have B:w.heap[b]?=some (.map es.toArray c):=j.hold.has (r:=zdW b es c) (Ey hL);have E:(getObj b).run P w= .ok (.map es.toArray c) w:=by simp[getObj,Sem.run,B]
  simp[execOp,A,j.agr.eval hm,j.agr.eval hx,Instr.lookup,run_underlying F,E,run_checkKey q hk,run_findKey q C]
theorem zpx{b c:Nat}{es:List MapEntry}{key zv:Value}(G:P.underlying t=some (.map k e))(A:P.underlying k=some d)(hk:IsKey d key)(E:findNow d key es 0=some none)(q:∀w:World,(zeroValue e).run P w= .ok zv w)(B:o.op= .lookup t m x false:=by exact rfl)
  (hm:ev g m=some (.map (some b)):=by exact rfl)(hx:ev g x=some key:=by exact rfl)(hL:Has L (zdW b es c):=by repeat (first|exact F1|apply F4)):OpT P ro N w0 M ds o g L (Det zv L):=
 F0 (by rw[B];rfl) λa w X j=>by
  have C:w.heap[b]?=some (.map es.toArray c):=j.hold.has (r:=zdW b es c) (Ey hL);have F:(getObj b).run P w= .ok (.map es.toArray c) w:=by simp[getObj,Sem.run,C]
  simp[execOp,B,j.agr.eval hm,j.agr.eval hx,Instr.lookup,run_underlying G,F,run_checkKey A hk,run_findKey A E,q]
variable {y:Ty}
theorem zt7(Z:List Value)(s n:Nat)(j:Z.length=s)(h0:0<s):madeCells Z.toArray (n*s)=(List.replicate n Z).flatten.toArray:=by
 have E:(List.replicate n Z).flatten.length=n*s:=by simp[j]
 apply Array.ext
 ·rw[size_madeCells];simp[j]
 ·intro k q G;rw[size_madeCells] at q;have w:k%s<s:=AC _ h0;have B:k/s<n:=(AW h0).2 q;have C:k/s*s+k%s=k:=by rw[AK];exact Aa k s
  have:=zgQ (f:=λ(z:List Value)=>z) (k:=s) (List.replicate n Z) (λx F=>by rw[(List.mem_replicate.1 F).2];exact j) (k/s) (k%s) w;rw[C,List.flatMap_id'] at this;simp only[madeCells,Array.getElem_map,Array.getElem_range,DP,j,List.getElem_toArray];have r:(List.replicate n Z).flatten[k]?=Z[k%s]?:=by
   rw[this,CI,if_pos B];rfl
  rw[A1 (by rw[E];exact q),A1 q_o] at r;have A:=Am r;rw[A];simp[j,w]
theorem zcK{len e:Nat}{parts:Array (Nat×Operand)}{vs C Z:List Value}{ye:Ty}(Y:FillTo (λi=>some (i*ye.size,ye.size)) (List.zip (parts.toList.map (·.1)) vs) (List.replicate len Z).flatten C)(K:o.op= .buildSlice t len parts:=by exact rfl)(hv:evs g (parts.toList.map (·.2))=some vs:=by exact rfl)(ht:zah P t=some y:=by exact ty rfl)(hy:y.desc= .slice e:=by exact rfl)(he:zah P e=some ye:=by exact ty rfl)(hz:za9 P e=some Z:=by exact zc rfl)(U:Z.length=ye.size:=by exact rfl)
  (hs:len*ye.size<=16777216:=by exact A5 rfl)(r:0<len*ye.size:=by exact A5 rfl):
  OpT P ro N w0 M ds o g L (λv O=>∃b,v= .slice (some ⟨b,0,none⟩) len len/\O= .blk b e C::L):=
 FC (by rw[K];rfl) λa w X E=>by
  obtain⟨d,i',V,a6,B,_⟩:=zV ht;rw[hy] at B;have:=zbm B;subst this;obtain⟨de,J,W,q,_,j,_⟩:=zV he;obtain⟨R,S⟩:=zbQ E e C;unfold za9 at hz;rw[q] at hz;simp only[Ac,Ah] at hz;obtain⟨F,I,G⟩:=hz;have H:F.cells=Z.toArray:=BA.1 (by rw[G]);have hp:((parts.map λ(i,x)=>(i,a.eval x)).toList)=List.zip (parts.toList.map (·.1)) vs:=by
   have:=E.agr.evals hv;rw[<-this,Bg,D8];generalize parts.toList=l
   induction l with
   |nil=>rfl
   |cons p l ih=>simp only[Aw,DF,ih];rfl
  have hm:madeCells F.cells (len*J.size)=(List.replicate len Z).flatten.toArray:=by
   rw[H,j];exact zt7 Z _ len U (Nat.pos_of_mul_pos_left r)
  have A:=run_buildSlice (P:=P) w t e len (parts.map λ(i,x)=>(i,a.eval x)) C.toArray J F V q I (by rw[j];omega) (by rw[j];omega) (by
   rw[hp];have T:=zjG Y;have Q:(Array.range (len*J.size)).map (F.cells[· % F.cells.size]!)=(List.replicate len Z).flatten.toArray:=hm;rw[Q,j];exact T)
  refine⟨_,_,w.alloc (.cells C.toArray e),_,?_,.inl rfl,⟨w.heap.size,rfl,rfl⟩,R,S⟩;simp[execOp,K,A]
theorem zgM{s:Nat}{C D:List Value}(hC:C.length=s)(j:D.length=s):FillTo (λi=>some (i*s,s)) [(0,.agg C.toArray)] D C:=by
 refine .cons (cs:=C) (off:=0*s) (n:=s) rfl rfl hC (by rw[BF];omega) ?_;rw[BF,zhS q_o];exact .nil
theorem zvd{s:Nat}{C C' D:List Value}(hC:C.length=s)(j:C'.length=s)(q:D.length=2*s):FillTo (λi=>some (i*s,s)) [(0,.agg C.toArray),(1,.agg C'.toArray)] D (C++C'):=by
 refine .cons (cs:=C) (off:=0*s) (n:=s) rfl rfl hC q_o ?_;refine .cons (cs:=C') (off:=1*s) (n:=s) rfl rfl j (by unfold zaI;simp;omega) ?_;have:zaI (zaI D (0*s) C) (1*s) C'=C++C':=by
  unfold zaI;rw[BF,Bo,Bu,Af,Dk hC,AH,BX (by simp;omega),AG]
 rw[this];exact .nil
def zb1:List Int->Nat->List MapEntry
 | [],_=>[]
 |z::r,i=>⟨.int .i64 z,.bool true,i⟩::zb1 r (i+1)
theorem zmI(z:Int):∀(l:List Int) (i:Nat),zb1 (l++[z]) i=zb1 l i++[⟨.int .i64 z,.bool true,i+l.length⟩]
 | [],i=>rfl
 |y::l,i=>by
  rw[Ab,zb1,zmI z l (i+1),zb1,AQ,show i+(l.length+1)=i+1+l.length by omega];rfl
theorem zf7(z:Int):∀(l:List Int) (i j:Nat),(z∉l->findNow (.int .i64) (.int .i64 z) (zb1 l i) j=some none)/\(z∈l->∃m,findNow (.int .i64) (.int .i64 z) (zb1 l i) j=some (some (j+m,.bool true))/\(zb1 l i)[m]?=some ⟨.int .i64 z,.bool true,i+m⟩)
 | [],i,j=>⟨λ_=>rfl,λh=>by cases h⟩
 |y::l,i,j=>by
  have A:=zf7 z l (i+1) (j+1);have r:sameNow (.int .i64) (.int .i64 z) (.int .i64 y)=some (decide (z=y)):=by simp[sameNow];rfl
  by_cases h:z=y
  ·subst h;refine⟨λw=>absurd A3 w,λ_=>⟨0,?_,rfl⟩⟩;rw[zb1,findNow,r,decide_eq_true rfl];rfl
  ·rw[decide_eq_false h] at r;refine⟨λw=>?_,λE=>?_⟩
   ·rw[zb1,findNow,r];exact A.1 (λq=>w (A4 _ q))
   ·rcases AS.1 E with q|q
    ·exact absurd q h
    ·obtain⟨m,B,C⟩:=A.2 q;refine⟨m+1,?_,?_⟩
     ·rw[zb1,findNow,r,show j+(m+1)=j+1+m by omega];exact B
     ·rw[zb1,B9,C,show i+(m+1)=i+1+m by omega]
theorem zsA{z:Operand}{b:Nat}{l:List Int}{u:Int}{L':List Res}(S:P.underlying t=some (.map k e))(Q:P.underlying k=some (.int .i64))(R:o.op= .mapUpdate t m x z:=by exact rfl)
  (hm:ev g m=some (.map (some b)):=by exact rfl)(hx:ev g x=some (.int .i64 u):=by exact rfl)(hz:ev g z=some (.bool true):=by exact rfl)
  (hL:Upd L (zdW b (zb1 l 0) l.length) (zdW b (zb1 (if u∈l then l else l++[u]) 0) (if u∈l then l else l++[u]).length) L':=by repeat (first|exact FT|apply FR)):OpT P ro N w0 M ds o g L (Det undef L'):=by
 by_cases hu:u∈l
 ·rw[if_pos hu] at hL;refine FC (by rw[R];rfl) λa w X E=>?_;have K:w.heap[b]?=some (.map (zb1 l 0).toArray l.length):=E.hold.has (r:=zdW b (zb1 l 0) l.length) (by obtain⟨A,B,e,_⟩:=hL;subst e;simp[Has]);have O:L'=L:=by obtain⟨A,B,T,U⟩:=hL;rw[T,U]
  subst O;obtain⟨i,I,J⟩:=(zf7 u l 0 0).2 hu;rw[AZ] at I J;have V:(getObj b).run P w= .ok (.map (zb1 l 0).toArray l.length) w:=by simp[getObj,Sem.run,K]
  have G:((zb1 l 0).toArray.modify i λe=> { e with key:=.int .i64 u,val:=.bool true })=(zb1 l 0).toArray:=by
   apply Array.ext_getElem?;intro j;rw[DV];split
   ·rename_i h;subst h;rw[BH,J];rfl
   ·rfl
  have C:((zb1 l 0).modify i λe=> { e with key:=.int .i64 u,val:=.bool true })=zb1 l 0:=by
   have:=congrArg Array.toList G;simpa using this
  have H:w.heap.setIfInBounds b (.map (zb1 l 0).toArray l.length)=w.heap:=by
   apply Array.ext_getElem?;intro j;by_cases h:b=j
   ·subst h;rw[K];exact(heap_set K).1
   ·rw[Bt h]
  refine⟨_,_,w,L',?_,.inr ⟨rfl,rfl⟩,⟨rfl,rfl⟩,E.keep,E.hold⟩;have F:((zb1 l 0).toArray[i]?.map (·.key)).getD (.int .i64 u)= .int .i64 u:=by rw[BH,J];rfl
  have q:sameBits 10000 (.int .i64 u) (.int .i64 u)=true:=by simp[sameBits]
  simp[execOp,R,E.agr.eval hm,E.agr.eval hx,E.agr.eval hz,Instr.mapUpdate,run_underlying S,V,run_checkKey Q (show IsKey (.int .i64) (.int .i64 u) from rfl),run_findKey Q I,F,keyThatStays,q,run_setObj_map _ K,C,H,J]
 ·rw[if_neg hu] at hL;have I:=(zf7 u l 0 0).1 hu;have e:zb1 (l++[u]) 0=zb1 l 0++[MapEntry.mk (.int .i64 u) (.bool true) l.length]:=by rw[zmI,AZ]
  rw[e,A2] at hL;exact zsd S Q (show IsKey (.int .i64) (.int .i64 u) from rfl) I R hm hx hz hL
theorem zsZ{b:Nat}{l:List Int}{u:Int}(A:P.underlying t=some (.map k e))(q:P.underlying k=some (.int .i64))(j:∀w:World,(zeroValue e).run P w= .ok (.bool false) w)(r:o.op= .lookup t m x false:=by exact rfl)
  (hm:ev g m=some (.map (some b)):=by exact rfl)(hx:ev g x=some (.int .i64 u):=by exact rfl)(hL:Has L (zdW b (zb1 l 0) l.length):=by repeat (first|exact F1|apply F4)):OpT P ro N w0 M ds o g L (Det (.bool (decide (u∈l))) L):=by
 by_cases hu:u∈l
 ·obtain⟨i,B,_⟩:=(zf7 u l 0 0).2 hu;rw[decide_eq_true hu];exact zsv A q (show IsKey (.int .i64) (.int .i64 u) from rfl) B r hm hx hL
 ·rw[decide_eq_false hu];exact zpx A q (show IsKey (.int .i64) (.int .i64 u) from rfl) ((zf7 u l 0 0).1 hu) j r hm hx hL
end Go.Sy
namespace Go.Proofs.YtdnlngbjpdbffaaGreatDoor
open Go Go.Sy Go.Nt Go.RowKit
attribute [local irreducible] Sy SyL SyX Sy.Fn callFunc zg zae zac iC gP gQ gL zaH zai za7 za1 gel zaU zbX Sh.sum zbh
theorem ztQ{i x:Nat}(h0:1<=i)(j:i<=4)(h:mem i x)(e:Nat):mem i (x^e%gP i):=zot h0 j (by
 have:=(ziQ h0 j h.2.2).pow e;rwa[EY,<-BE,AK,BE] at this)
theorem zxk{i x y:Nat}(h0:1<=i)(j:i<=4)(h:mem i x)(q:mem i y):mem i (x*y%gP i):=zot h0 j (by
 have:=(ziQ h0 j h.2.2).mul (ziQ h0 j q.2.2);rwa[Ak,<-Nat.mul_pow] at this)
theorem zoF(x y:Nat):decide (zbx x y<0)=decide (x<y):=by
 apply decide_eq_decide.2;unfold zbx;constructor
 ·intro h;rcases Cm x y with j|j|j
  ·exact j
  ·rw[if_neg q_o,if_pos j] at h;omega
  ·rw[if_neg q_o,if_neg q_o] at h;omega
 ·intro h;rw[if_pos h];decide
theorem zu5(x y:Nat):decide (zbx x y=0)=decide (x=y):=by
 apply decide_eq_decide.2;unfold zbx;constructor
 ·intro h;rcases Cm x y with j|j|j
  ·rw[if_pos j] at h;omega
  ·exact j
  ·rw[if_neg q_o,if_neg q_o] at h;omega
 ·rintro rfl;rw[if_neg (Em _),if_pos rfl]
theorem zpG(b n c:Nat)(E:List Value)(bs:List Bool)(w:World)(hn:E.length=n)(hb:bs.length=n)(K:n<=1000)(O:w.rangeAt b 0 E)
  (J:∀k v,bs[k]?=some v->(bs.take k).all id=true->∃(f:Nat) (cap:List Value),E[k]?=some (.func (.func f) #[] cap.toArray)/\(∀args w,(callFunc f args).run Tryz.prog w= .ok (.enter f args) w)/\∀H,Keep No w H->q_G f cap H (.bool v)):
  q_G 131 [.slice (some ⟨b,0,none⟩) n c] w (.bool (bs.all id)):=by
 refine zt Tryz.func131 Tryz.ntmps131 ?_;repeat' (first|refine s_t ?_|refine zD [0,1] ?_;refine zb ?_)
 refine zN (γ:=Nat) (λk=>[(5,.slice (some ⟨b,0,none⟩) n c),(6,.int .i64 n),(7,.int .i64 k)]) (λ_=>[]) (λk=>k<=n/\(bs.take k).all id=true) (λk=>n-k) 0 ⟨A9 _,rfl⟩ ?_ ?_ ?_
 ·exact q_h
 ·exact q_h
 rintro k ⟨Q,q⟩;rcases AF k n with h|h
 ·obtain⟨v,hv⟩:∃v,bs[k]?=some v:=⟨_,A1 q_o⟩;obtain⟨f,cap,I,C,hc⟩:=J k v hv q;have r:w.cell? ⟨b,0+k,none⟩=some (.func (.func f) #[] cap.toArray):=O k _ I;have A:decide ((k:Int)<(n:Int))=true:=q_d;have B:IntKind.i64.wrap ((k:Int)+1)=((k+1:Nat):Int):=q_w;have G:bs.take (k+1)=bs.take k++[v]:=by rw[CE,hv];rfl
  cases v with
  |false=>
   have F:bs.all id=false:=by
    rw[Bk];exact⟨false,BY hv,by decide⟩
   rw[F];repeat' (first|refine s_t ?_|refine zf 2 ?_;refine q_v (zo (hr:=A)) ?_|refine zf 3 ?_;refine q_v (zq (j:=k)) ?_;refine q_x (zn (hv:=r)) ?_|refine q_k 4 ?_;(refine q_v (za (f:=f) (cap:=cap) (vs:=[]) (he:=C) (hc:=zu hc)) ?_);refine zJ ?_|refine q_k 5 ?_)
   exact q_r
  |true=>
   repeat' (first|refine s_t ?_|refine zf 2 ?_;refine q_v (zo (hr:=A)) ?_|refine zf 3 ?_;refine q_v (zq (j:=k)) ?_;refine q_x (zn (hv:=r)) ?_|refine q_k 4 ?_;(refine q_v (za (f:=f) (cap:=cap) (vs:=[]) (he:=C) (hc:=zu hc)) ?_);refine zJ ?_|refine zf 6 ?_;refine q_x (zF (hr:=B)) ?_)
   refine zE (k+1) ⟨h,by rw[G,BW,q];rfl⟩ ?_ ?_ ?_
   ·show n-(k+1)<n-k;omega
   ·exact q_h
   ·exact q_h
 ·obtain rfl:k=n:=q_o;rw[A8 q_o] at q;have A:decide ((k:Int)<(k:Int))=false:=q_f;rw[q];repeat' (first|refine s_0 ?_|refine zf 2 ?_;refine q_v (zo (hr:=A)) ?_|refine q_k 7 ?_)
  exact q_r
theorem zpP(j k r:Nat)(q:Option Addr)(w:World)(A:w.cell? ⟨j,0,none⟩=some (.slice q k r)):
  q_G 132 [.pointer (some ⟨j,0,none⟩)] w (.bool (decide ((k:Int)=2))):=by
 refine zt Tryz.func132 Tryz.ntmps132 ?_;repeat' (first|refine s_0 ?_|refine q_k 0 ?_|refine zf 1 ?_;refine q_x (zn (hv:=A)) ?_;refine q_x (zS (hr:=rfl)) ?_)
 exact q_r
theorem zwB(H C G J A r I q:Nat)(w:World)(K:w.cell? ⟨H,0,none⟩=some (.slice (some ⟨C,G,none⟩) 2 J))(hr:w.rangeAt C G (zae [r,I]))(E:w.rangeAt A 0 (zg q))
  (hx:r<18446744073709551616^16)(T:q<18446744073709551616^16):
  q_G 133 [.pointer (some ⟨H,0,none⟩),.pointer (some ⟨A,0,none⟩)] w (.bool (decide (r<q))):=by
 refine zt Tryz.func133 Tryz.ntmps133 ?_;have F:w.rangeAt C (G+0*16) (zg r):=λj v Q=>by
  have:=hr (0*16+j) v (zd3 (l:=[r,I]) (i:=0) rfl j v Q);rwa[<-BI] at this
 have R:=zd r;have S:=zd q;have hc:=λU=>zdJ r q U hx T;have O:=zoF r q;repeat' (first|refine s_0 ?_|refine q_k 0 ?_|refine zaj (id:=1) 4 [[],[0],[0,1],[],[0,1,2,3],[0,1,2,3,4],[0,1,2,3,4,5]] mixed ?_ ?_;kernel_rfl;refine q_D (zn (hv:=K)) ?_;refine q_D (zbr (j:=0)) ?_;refine q_D (zad (B:=zg r) (hv:=F)) ?_;refine q_D (zad (B:=zg q) (hv:=E)) ?_;refine zaB ?_;refine q_v (za (hc:=q_c hc)) ?_;refine q_v (zo (hr:=O)) ?_;refine zw ?_|fail)
 exact q_r
theorem zxx(H C G J A I r q:Nat)(w:World)(K:w.cell? ⟨H,0,none⟩=some (.slice (some ⟨C,G,none⟩) 2 J))(hr:w.rangeAt C G (zae [I,r]))(E:w.rangeAt A 0 (zg q))
  (hx:r<18446744073709551616^16)(T:q<18446744073709551616^16):
  q_G 135 [.pointer (some ⟨H,0,none⟩),.pointer (some ⟨A,0,none⟩)] w (.bool (decide (r<q))):=by
 refine zt Tryz.func135 Tryz.ntmps135 ?_;have F:w.rangeAt C (G+1*16) (zg r):=λj v Q=>by
  have:=hr (1*16+j) v (zd3 (l:=[I,r]) (i:=1) rfl j v Q);rwa[<-BI] at this
 have R:=zd r;have S:=zd q;have hc:=λU=>zdJ r q U hx T;have O:=zoF r q;repeat' (first|refine s_0 ?_|refine q_k 0 ?_|refine zaj (id:=1) 4 [[],[0],[0,1],[],[0,1,2,3],[0,1,2,3,4],[0,1,2,3,4,5]] mixed ?_ ?_;kernel_rfl;refine q_D (zn (hv:=K)) ?_;refine q_D (zbr (j:=1)) ?_;refine q_D (zad (B:=zg r) (hv:=F)) ?_;refine q_D (zad (B:=zg q) (hv:=E)) ?_;refine zaB ?_;refine q_v (za (hc:=q_c hc)) ?_;refine q_v (zo (hr:=O)) ?_;refine zw ?_|fail)
 exact q_r
theorem zwP(i b4 S b9 bP oP cP T b5 b6 A E y pn pc mn mc:Nat)(pa ma:Option Addr)(pl ml:List UInt8)(w:World)(h0:1<=i)(G:i<=4)(hG:GT w)(hT:Tab w No)(h4:w.cell? ⟨b4,0,none⟩=some (.int .i64 (i:Int)))(a8:w.rangeAt S 0 (zg y))
  (h9:w.cell? ⟨b9,0,none⟩=some (.slice (some ⟨bP,oP,none⟩) 2 cP))(hr:w.rangeAt bP oP (zae [A,E]))(a9:w.rangeAt T 0 (zg (gQ i)))(c9:w.cell? ⟨b5,0,none⟩=some (.slice pa pn pc))(c6:w.cell? ⟨b6,0,none⟩=some (.slice ma mn mc))
  (hp:(⟨pa,pn,pc,pl⟩:Bs).ok w)(hm:(⟨ma,mn,mc,ml⟩:Bs).ok w)(d8:pn<=1000)(c7:mn<=100000)(Z:A<gQ i)(a6:E<gQ i)(hy:zaH (gP i) (gQ i) y=true):
  q_G 136 [.pointer (some ⟨b4,0,none⟩),.pointer (some ⟨S,0,none⟩),.pointer (some ⟨b9,0,none⟩),.pointer (some ⟨T,0,none⟩),.pointer (some ⟨b5,0,none⟩),.pointer (some ⟨b6,0,none⟩)] w (.bool (decide (zbX i pl (sR i y A E) ml=A))):=by
 refine zt Tryz.func136 Tryz.ntmps136 ?_;have Y:w.rangeAt bP (oP+0*16) (zg A):=λj v hj=>by
  have:=hr (0*16+j) v (zd3 (l:=[A,E]) (i:=0) rfl j v hj);rwa[<-BI] at this
 have d9:w.rangeAt bP (oP+1*16) (zg E):=λj v hj=>by
  have:=hr (1*16+j) v (zd3 (l:=[A,E]) (i:=1) rfl j v hj);rwa[<-BI] at this
 have b0:0<gQ i:=AI q_e (zbH i h0 G);have U:=zcb i h0 G;have J:=Ai Z U;have a7:=Ai a6 U;have e0:=Ai (zej hy) (zcg i h0 G);have F:=λC=>zxn 0 A (gQ i) C (B1 (A9 _) J) J U;unfold zcC at F;rw[if_neg q_o] at F;have c5:dm (gQ i) 0 A=(gQ i-A)%gQ i:=by unfold dm;rw[A7 Z,AZ]
 rw[c5] at F;have V:(gQ i-A)%gQ i<gQ i:=AC _ b0;have W:=λC (H:Keep No w C)=>zxD i y ((gQ i-A)%gQ i) C h0 G (hG.to H) e0 (Ai V U) hy V;have O:zaH (gP i) (gQ i) (y^((gQ i-A)%gQ i)%gP i)=true:=zdE.2 (ztQ h0 G (zdE.1 hy) _);have X:=λC (H:Keep No w C)=>zjg i E C h0 G (hG.to H) a7 a6;have Q:zaH (gP i) (gQ i) (4^E%gP i)=true:=zdE.2 (zjr h0 G _);have K:=λC (H:Keep No w C)=>zxf i (4^E%gP i) (y^((gQ i-A)%gQ i)%gP i) C h0 G (hG.to H) (Ai (zej Q) (zcg i h0 G)) (Ai (zej O) (zcg i h0 G)) (by rw[Q,O];rfl);have c8:zaH (gP i) (gQ i) (sR i y A E)=true:=zdE.2 (zxk h0 G (zdE.1 Q) (zdE.1 O));have hR:sR i y A E=(4^E%gP i)*(y^((gQ i-A)%gQ i)%gP i)%gP i:=rfl;rw[<-hR] at K;have b1:=λC (H:Keep No w C)=>zi4 i pa ma pn pc mn mc (sR i y A E) pl ml C h0 G (hG.to H) (hT.no H) (hp.keep H) (hm.keep H) d8 c7 c8;have b3:zbX i pl (sR i y A E) ml<gQ i:=zjI h0 G _ _ _;have b2:=λC=>zdJ (zbX i pl (sR i y A E) ml) A C (Ai b3 U) J;have c0:=zu5 (zbX i pl (sR i y A E) ml) A;have c1:=λC=>zdj ((gQ i-A)%gQ i) 0 C;have c2:=λC=>zdj (y^((gQ i-A)%gQ i)%gP i) 0 C;have c3:=λC=>zdj (4^E%gP i) 0 C;have c4:=λC=>zdj (sR i y A E) 0 C;have l0:=zd A;have l1:=zd E;have ly:=zd y;have lq:=zd (gQ i);have lb:=zd (y^((gQ i-A)%gQ i)%gP i);have lr:=zd (sR i y A E);generalize gQ i=q,(gQ i-A)%gQ i=ne,y^((gQ i-A)%gQ i)%gP i=I,4^E%gP i=ps,sR i y A E=r,zbX i pl (sR i y A E) ml=e at*;repeat' (first|refine s_0 ?_|refine q_k 0 ?_)
 refine zcQ (id:=1) mixed ?_
 (refine zcX 16 16 [[],[],[],[],[3],[3,4],[],[2,3,4,5,6],[2,3,4,5,6,7],[2,3,4,5,6,7],[2,3,4,5,6,7,8,9],[0,1,2,3,4,5,6,7,8,9,10],[0,1,2,3,4,5,6,7,8,9,10,11],[0,1,2,3,4,5,6,7,8,9,10,11],[0,1,2,3,4,5,6,7,8,9,10,11,12,13],[],[0,1,2,3,4,5,6,7,8,9,10,11,12,13,14,15]] [[],[],[],[],[],[],[],[],[],[],[],[],[],[],[],[],[]] none rfl ?_ ?_ ?_;kernel_rfl;kernel_rfl;refine q_E (zn (hv:=h4)) ?_;refine q_E (zad (B:=zg y) (hv:=a8)) ?_;refine q_E zdk ?_;refine q_E (zn (hv:=h9)) ?_;refine q_E (zbr (j:=0)) ?_;refine q_E (zad (B:=zg A) (hv:=Y)) ?_;refine q_E (zad (B:=zg q) (hv:=a9)) ?_;refine q_E (za (hc:=q_c F)) ?_;refine q_E zar ?_;refine q_E zar ?_;refine q_E (za (hc:=q_c c1)) ?_;refine q_E (za (hc:=zu W)) ?_;refine q_E zar ?_;refine q_E zar ?_;refine q_E (za (hc:=q_c c2)) ?_;try refine dh_0nE (h:=?_))
 refine zf1 (R:=λ_=>zjN 133 (List.replicate 16 (.int .u64 0))) (λ_ _ _=>rfl) (λρ hρ=>FH zeI λv L' h=>?_) (h:=?_)
 ·obtain⟨b,rfl,rfl⟩:=h;exact⟨[_],rfl,b,rfl,rfl⟩
 refine ze1 (h:=?_);rintro ρ ⟨⟨b7,p1,p2⟩,-⟩
 (refine zcW [[],[],[],[],[3],[3,4],[],[2,3,4,5,6],[2,3,4,5,6,7],[2,3,4,5,6,7],[2,3,4,5,6,7,8,9],[0,1,2,3,4,5,6,7,8,9,10],[0,1,2,3,4,5,6,7,8,9,10,11],[0,1,2,3,4,5,6,7,8,9,10,11],[0,1,2,3,4,5,6,7,8,9,10,11,12,13],[],[0,1,2,3,4,5,6,7,8,9,10,11,12,13,14,15]] ?_ ?_;kernel_rfl)
 refine FI (fr':=[(7,.pointer (some ⟨b7,0,none⟩)),(23,zr I),(0,.pointer (some ⟨b4,0,none⟩)),(2,.pointer (some ⟨b9,0,none⟩)),(4,.pointer (some ⟨b5,0,none⟩)),(5,.pointer (some ⟨b6,0,none⟩))]) (L':=[.blk b7 133 (List.replicate 16 (.int .u64 0))]) ?_ ?_ ?_;rotate_left
 ·(repeat' (first|exact FP|refine FX rfl ?_ ?_|rfl))
  exact p1
 ·show SubR _ ((ρ 15).2++_);rw[p2];exact q_h
 repeat' (first|refine s_0 ?_|(refine zy ?_;first|refine q_n (zl (n:=I)) ?_|fail)|fail)
 refine zcQ (id:=2) mixed ?_
 (refine zcX 15 15 [[],[],[],[2],[2,3],[1,2,3,4],[1,2,3,4,5],[1,2,3,4,5],[1,2,3,4,5,6,7],[],[0,1,2,3,4,5,6,7,8,9],[0,1,2,3,4,5,6,7,8,9,10],[0,1,2,3,4,5,6,7,8,9,10],[0,1,2,3,4,5,6,7,8,9,10,11,12],[],[0,1,2,3,4,5,6,7,8,9,10,11,12,13,14]] [[],[],[],[],[],[],[],[],[],[],[],[],[],[],[],[]] none rfl ?_ ?_ ?_;kernel_rfl;kernel_rfl;refine q_E (zn (hv:=h4)) ?_;refine q_E (zn (hv:=h4)) ?_;refine q_E (zn (hv:=h9)) ?_;refine q_E (zbr (j:=1)) ?_;refine q_E (zad (B:=zg E) (hv:=d9)) ?_;refine q_E (za (hc:=zu X)) ?_;refine q_E zar ?_;refine q_E zar ?_;refine q_E (za (hc:=q_c c3)) ?_;refine q_E (ze (B:=zg I)) ?_;refine q_E (za (hc:=zu K)) ?_;refine q_E zar ?_;refine q_E zar ?_;refine q_E (za (hc:=q_c c4)) ?_;try refine dh_0nE (h:=?_))
 refine zf1 (R:=λ_=>zjN 133 (List.replicate 16 (.int .u64 0))) (λ_ _ _=>rfl) (λρ hρ=>FH zeI λv L' h=>?_) (h:=?_)
 ·obtain⟨b,rfl,rfl⟩:=h;exact⟨[_],rfl,b,rfl,rfl⟩
 refine ze1 (h:=?_);rintro ρ ⟨⟨b8,p1,p2⟩,-⟩
 (refine zcW [[],[],[],[2],[2,3],[1,2,3,4],[1,2,3,4,5],[1,2,3,4,5],[1,2,3,4,5,6,7],[],[0,1,2,3,4,5,6,7,8,9],[0,1,2,3,4,5,6,7,8,9,10],[0,1,2,3,4,5,6,7,8,9,10],[0,1,2,3,4,5,6,7,8,9,10,11,12],[],[0,1,2,3,4,5,6,7,8,9,10,11,12,13,14]] ?_ ?_;kernel_rfl)
 refine FI (fr':=[(8,.pointer (some ⟨b8,0,none⟩)),(37,zr r),(0,.pointer (some ⟨b4,0,none⟩)),(2,.pointer (some ⟨b9,0,none⟩)),(4,.pointer (some ⟨b5,0,none⟩)),(5,.pointer (some ⟨b6,0,none⟩))]) (L':=[.blk b8 133 (List.replicate 16 (.int .u64 0))]) ?_ ?_ ?_;rotate_left
 ·(repeat' (first|exact FP|refine FX rfl ?_ ?_|rfl))
  exact p1
 ·show SubR _ ((ρ 14).2++_);rw[p2];exact q_h
 repeat' (first|refine s_0 ?_|refine zaj (id:=3) 8 [[],[],[],[],[0,1,2,3],[],[5],[5,6],[0,1,2,3,4,5,6,7],[0,1,2,3,4,5,6,7,8],[0,1,2,3,4,5,6,7,8,9]] mixed ?_ ?_;kernel_rfl;refine q_D (zn (hv:=h4)) ?_;refine q_D (zn (hv:=c9)) ?_;refine q_D (ze (B:=zg r)) ?_;refine q_D (zn (hv:=c6)) ?_;refine q_D (za (hc:=λC _ H _=>b1 C H)) ?_;refine q_D (zn (hv:=h9)) ?_;refine q_D (zbr (j:=0)) ?_;refine q_D (zad (B:=zg A) (hv:=Y)) ?_;refine zaB ?_;refine q_v (za (hc:=q_c b2)) ?_;refine q_v (zS (hr:=c0)) ?_;refine zw ?_|(refine zy ?_;first|refine q_n (zl (n:=r)) ?_|fail)|fail)
 exact q_r
end Go.Proofs.YtdnlngbjpdbffaaGreatDoor
