/- Lemmas of this proof. -/
import Derived.Test.YtdnlngbjpdbffaaGreatDoorKJ34
import Derived.MapKept
set_option maxHeartbeats 2000000
set_option maxRecDepth 10000
set_option linter.all false
namespace Go.Proofs.YtdnlngbjpdbffaaGreatDoor
open Go Go.Sy Go.Ct Go.Nt Go.RowKit
attribute [local irreducible] Sy SyL SyX SyC SyF Sy.Fn callFunc
theorem zth(p:Pl)(c:Cert)(w:World)(h:CertAt w p c)(B:c.small):Sy.Fn Tryz.prog 51 [.agg (zx p c).toArray] w No (zcw c.der):=by
 refine zo Tryz.func51 Tryz.ntmps51 ?_;have Y:=λj (C:Keep No w j)=>ziT p c j (h.keep C) B;have S:=B.sig;have Q:=B.pub;have Z:=λj (C:Keep No w j)=>zoL ⟨p.a4,c.sig.length,p.k4,c.sig⟩ j (h.sig.keep C) (by show c.sig.length<16777216;omega);have p0:0<c.body.length:=by rw[Ct.Fd];exact zbF
 have p1:0<(zbQ c.sig).length:=zbF;have m0:c.body.length<=605+c.pub.length:=by rw[Ct.Fd];have:=(zae 0x30 c.flat).2;have:=Fm B;omega
 have m1:(zbQ c.sig).length<=c.sig.length+5:=zcA (A4 _);obtain⟨q,F⟩:∃G,G=zan 0 c.body:=⟨_,rfl⟩;obtain⟨r,H⟩:∃G,G=zan 1 (zbQ c.sig):=⟨_,rfl⟩;have l0:q.length<=c.body.length+5:=by rw[F];exact(zae (0xa0+0) _).2
 have l1:r.length<=(zbQ c.sig).length+5:=by rw[H];exact(zae (0xa0+1) _).2
 have E:c.der=tlv 0x30 (q++r):=by rw[F,H];simp[Cert.der,zdl]
 generalize zbQ c.sig=J,c.body=I,c.der=T at*;have hC:(zx p c).drop 10= [.slice p.a4 c.sig.length p.k4]:=rfl;unfold zx at*;repeat' (first|refine s_0 ?_|refine zg 0 ?_;refine zV ?_;intro _)
 (refine zdc (id:=1) [0,3,4] [1,2,5,6,7,8,9] mixed ?_ ?_;kernel_rfl;refine yfv ze (k:=?_);refine yfv zO (k:=?_);refine yfv zM (k:=?_);refine yf0 ?_;try refine yc0 (k:=?_))
 refine ycs (zh (hc:=zq Y)) (k:=?_);rintro _ _ ⟨R,rfl,a0,V,rfl,rfl⟩;refine ycs (zh (hc:=λj X C A=>zcm 0 a0 I.length V I q j q_e (zaq A rfl q_h) p0 q_o F)) (k:=?_);rintro _ _ ⟨R,rfl,K,d0,rfl,rfl⟩;refine ycs (zh (hc:=zq Z)) (k:=?_);rintro _ _ ⟨R,rfl,a1,W,rfl,rfl⟩;refine ycs (zh (hc:=λj X C A=>zcm 1 a1 J.length W J r j q_e (zaq A rfl q_h) p1 q_o H)) (k:=?_);rintro _ _ ⟨R,rfl,O,d1,rfl,rfl⟩;refine ycs zw (k:=?_);rintro _ _ ⟨U,rfl,rfl⟩;refine ycs (zh (hc:=λj X C A=>zjJ U 2 [⟨K,q.length,d0,q⟩,⟨O,r.length,d1,r⟩] j rfl q_e (zp (A.has q_h) F0) (λs B=>by
   simp only[Ag,Bm,or_false] at B;rcases B with rfl|rfl
   ·exact zaq A rfl q_h
   ·exact zaq A rfl q_h) (by rw[show Bs.cat [⟨K,q.length,d0,q⟩,⟨O,r.length,d1,r⟩]=q++r by simp[Bs.cat]];simp only[A2];omega) T (by rw[E];simp[Bs.cat]))) (k:=?_)
 rintro _ _ ⟨R,rfl,aW,cW,rfl,rfl⟩;refine ycv zbM (k:=?_);refine yc0 (k:=?_);repeat' (first|refine s_0 ?_|fail)
 exact zaw rfl (zr rfl) (FA F1 rfl F2) ⟨_,_,rfl,rfl⟩
theorem zuO(p:Pl)(c:Cert)(w:World)(F:GT w)(h:CertAt w p c)(G:c.fine)(j:c.ok svK=true):Sy.Fn Tryz.prog 21 [.agg (zx p c).toArray] w No (λv R=>∃a k,v= .tuple #[.slice a c.der.length k,.int .i64 0]/\R= [.row (.slice a c.der.length k) 5 1 c.der.length (c.der.map v8)]):=by
 refine zo Tryz.func21 Tryz.ntmps21 ?_;have E:=λq (r:Keep No w q)=>zfy p c q (F.to r) (h.keep r) G;rw[j] at E;have H:=λq (r:Keep No w q)=>zth p c q (h.keep r) (FM zdE j);have A:(zx p c).length=11:=rfl;generalize zx p c=C at*;repeat' (first|refine s_0 ?_|refine zg 0 ?_;refine zV ?_;intro _|refine zg 1 ?_;refine q_v (ze (B:=C) (hz:=A.symm)) ?_;refine q_v (za (hc:=zq E)) ?_;refine zJ ?_|refine zg 3 ?_;refine q_v (ze (B:=C) (hz:=A.symm)) ?_;(refine q_s (zh (hc:=zq H)) ?_;rintro _ _ ⟨R,rfl,I,J,rfl,rfl⟩);refine zb ?_)
 exact zad rfl (zr rfl) (zr rfl) q_h ⟨_,_,rfl,rfl⟩
def zaB(p:Pl)(c:Cert):List Res:=[.row (.slice p.a1 c.issuer.parts.length p.k1) 9 1 c.issuer.parts.length (c.issuer.parts.map zX),.row (.slice p.a2 c.subject.parts.length p.k2) 9 1 c.subject.parts.length (c.subject.parts.map zX),.row (.slice p.a3 c.pub.length p.k3) 5 1 c.pub.length (c.pub.map v8),.row (.slice p.a4 c.sig.length p.k4) 5 1 c.sig.length (c.sig.map v8)]
def zku(c:Cert)(v:Value)(R:List Res):Prop:=∃p,v= .agg (zx p c).toArray/\R=zaB p c
theorem zni(p:Pl)(c:Cert)(w:World)(h:CertAt w p c)(E:c.fine)(Q:c.pub.length<1000000)(S:c.sig.length<1000000):Sy.Fn Tryz.prog 32 [.agg (zx p c).toArray] w No (zku c):=by
 refine zo Tryz.func32 Tryz.ntmps32 ?_;have K:=λC (F:Keep No w C)=>zns _ _ C (h.iss.keep F) E.i.1;have O:=λC (F:Keep No w C)=>zns _ _ C (h.sub.keep F) E.s.1;have I:=h.pub.sla;have J:=h.sig.sla;have G:=h.pub.nil;have H:=h.sig.nil;dsimp only at I J G H;unfold zx za7 zku zaB at*;clear h E;obtain⟨serial,⟨j,q⟩,⟨r,A⟩,fr,til,auth,group,pub,sig⟩:=c;dsimp only at*;repeat' (first|refine s_0 ?_|refine zg 0 ?_;refine zi ?_;intro _;refine zi ?_;intro _|refine q_k 1 ?_;refine q_v (ze (B:=[.slice p.a1 j.length p.k1,zX q]) (hv:=FG rfl)) ?_;(refine q_s (zh (hc:=zq K)) ?_;rintro _ _ ⟨R,rfl,a1,k1,rfl,rfl⟩);refine zb ?_;refine q_n (zeo (hC:=AO rfl)) ?_|refine q_k 2 ?_;refine q_v (ze (B:=[.slice p.a2 r.length p.k2,zX A]) (hv:=FG rfl)) ?_;(refine q_s (zh (hc:=zq O)) ?_;rintro _ _ ⟨R,rfl,a2,k2,rfl,rfl⟩);refine zb ?_;refine q_n (zeo (hC:=AO rfl)) ?_|refine q_k 3 ?_;refine zk ?_;(refine q_s (zfJ (hr:=FZ I (λ_ _ h=>h)) (hn:=by rw[A0,Af]) (hnil:=G)) ?_;rintro _ _ ⟨rfl,a3,k3,rfl⟩);refine zb ?_;refine q_n (zcn (hC:=⟨AO rfl,rfl⟩)) ?_|refine q_k 4 ?_;refine zk ?_;(refine q_s (zfJ (hr:=FZ J (λ_ _ h=>h)) (hn:=by rw[A0,Af]) (hnil:=H)) ?_;rintro _ _ ⟨rfl,a4,k4,rfl⟩);refine zb ?_;refine q_n (zcn (hC:=⟨AO rfl,rfl⟩)) ?_|refine zg 5 ?_;refine zk ?_;refine q_n (zeo (hC:=AO rfl)) ?_)
 exact zaw rfl (zz (B:=[.int .i64 serial,.slice a1 j.length k1,zX q,.slice a2 r.length k2,zX A,.int .i64 fr,.int .i64 til,.bool auth,.int .i64 group,.slice a3 pub.length k3,.slice a4 sig.length k4]) rfl (ty rfl) rfl F4 F0 rfl) q_h ⟨⟨a1,k1,a2,k2,a3,k3,a4,k4⟩,rfl,rfl⟩
end Go.Proofs.YtdnlngbjpdbffaaGreatDoor
namespace Go.Sy
open Go Instr Go.MapKept
variable {P:Program}{ro:Option Nat}{N:Nat}{w0:World}{M:Nat->Prop}{ds:List Deferred}{g:Nat->Option Value}{L:List Res}{o:Oper}{t k e:TypeId}{d:TypeDesc}{m x:Operand}
def zdo(b:Nat)(es:List MapEntry)(c:Nat):Res:=.obj b (.map es.toArray c)
theorem zpG(q:o.op= .makeMap t none:=by exact rfl):OpT P ro N w0 M ds o g L (λv r=>∃b,v= .map (some b)/\r=zdo b [] 0::L):=
 FK (by rw[q];rfl) λa w X j=>by
  refine⟨_,_,w.alloc (.map #[] 0),zdo w.heap.size [] 0::L,?_,.inl rfl,⟨w.heap.size,rfl,rfl⟩,j.keep.trans (Fe No w _) (λ_ h=>h.elim),j.hold.newObj j.keep.size _⟩;simp[execOp,q,Instr.makeMap]
theorem Keep.setObj(w:World)(b:Nat)(q:Obj):Keep (· =b) w { w with heap:=w.heap.setIfInBounds b q } :=
 ⟨rfl,rfl,rfl,by simp,λj _ r=>by
  show(w.heap.setIfInBounds b q)[j]?=_;rw[BY (λh=>r h.symm)]⟩
theorem zqv{z:Operand}{b c:Nat}{es:List MapEntry}{key v:Value}{L':List Res}(K:P.underlying t=some (.map k e))(F:P.underlying k=some d)(hk:IsKey d key)(I:findNow d key es 0=some none)(G:o.op= .mapUpdate t m x z:=by exact rfl)
  (hm:ev g m=some (.map (some b)):=by exact rfl)(hx:ev g x=some key:=by exact rfl)(hz:ev g z=some v:=by exact rfl)
  (hL:Upd L (zdo b es c) (zdo b (es++[MapEntry.mk key v c]) (c+1)) L':=by repeat (first|exact FU|apply FY)):OpT P ro N w0 M ds o g L (Det undef L'):=
 FK (by rw[G];rfl) λa w X j=>by
  have q:w.heap[b]?=some (.map es.toArray c):=j.hold.has (r:=zdo b es c) (by obtain⟨A,B,e,_⟩:=hL;subst e;simp[Has]);have E:=j.hold.mine (zdo b es c) (by obtain⟨A,B,e,_⟩:=hL;subst e;simp) b rfl;obtain⟨s1,s2⟩:=heap_set (o':=.map (es++[MapEntry.mk key v c]).toArray (c+1)) q;refine⟨_,_,{ w with heap:=w.heap.setIfInBounds b (.map (es++[MapEntry.mk key v c]).toArray (c+1)) },L',?_,.inr ⟨rfl,rfl⟩,⟨rfl,rfl⟩,zgA j.keep (Keep.setObj w b _) E,?_⟩
  ·have J:(getObj b).run P w= .ok (.map es.toArray c) w:=by simp[getObj,Sem.run,q]
   have H:(es.toArray.push (MapEntry.mk key v c))=(es++[MapEntry.mk key v c]).toArray:=by simp
   simp[execOp,G,j.agr.eval hm,j.agr.eval hx,j.agr.eval hz,Instr.mapUpdate,run_underlying K,J,run_checkKey F hk,run_findKey F I,run_setObj_map _ q,H]
  ·exact j.hold.upd hL.append (λO C=> .inl C) s1 ((Keep.setObj w b _).mono (λx hx=>by subst hx;exact rfl))
theorem zrC{b c i:Nat}{es:List MapEntry}{key v:Value}(F:P.underlying t=some (.map k e))(q:P.underlying k=some d)(hk:IsKey d key)(C:findNow d key es 0=some (some (i,v)))(A:o.op= .lookup t m x false:=by exact rfl)
  (hm:ev g m=some (.map (some b)):=by exact rfl)(hx:ev g x=some key:=by exact rfl)(hL:Has L (zdo b es c):=by repeat (first|exact F6|apply FB)):OpT P ro N w0 M ds o g L (Det v L):=
 F7 (by rw[A];rfl) λa w X j=>by
  have B:w.heap[b]?=some (.map es.toArray c):=j.hold.has (r:=zdo b es c) (F5 hL);have E:(getObj b).run P w= .ok (.map es.toArray c) w:=by simp[getObj,Sem.run,B]
  simp[execOp,A,j.agr.eval hm,j.agr.eval hx,Instr.lookup,run_underlying F,E,run_checkKey q hk,run_findKey q C]
theorem zoj{b c:Nat}{es:List MapEntry}{key C:Value}(H:P.underlying t=some (.map k e))(A:P.underlying k=some d)(hk:IsKey d key)(F:findNow d key es 0=some none)(q:∀w:World,(zeroValue e).run P w= .ok C w)(B:o.op= .lookup t m x false:=by exact rfl)
  (hm:ev g m=some (.map (some b)):=by exact rfl)(hx:ev g x=some key:=by exact rfl)(hL:Has L (zdo b es c):=by repeat (first|exact F6|apply FB)):OpT P ro N w0 M ds o g L (Det C L):=
 F7 (by rw[B];rfl) λa w X j=>by
  have E:w.heap[b]?=some (.map es.toArray c):=j.hold.has (r:=zdo b es c) (F5 hL);have G:(getObj b).run P w= .ok (.map es.toArray c) w:=by simp[getObj,Sem.run,E]
  simp[execOp,B,j.agr.eval hm,j.agr.eval hx,Instr.lookup,run_underlying H,G,run_checkKey A hk,run_findKey A F,q]
variable {y:Ty}
theorem ztC(Z:List Value)(s n:Nat)(j:Z.length=s)(h0:0<s):madeCells Z.toArray (n*s)=(List.replicate n Z).flatten.toArray:=by
 have E:(List.replicate n Z).flatten.length=n*s:=by simp[j]
 apply Array.ext
 ·rw[size_madeCells];simp[j]
 ·intro k q G;rw[size_madeCells] at q;have w:k%s<s:=A7 _ h0;have B:k/s<n:=(AW h0).2 q;have C:k/s*s+k%s=k:=by rw[A8];exact AV k s
  have:=zf4 (f:=λ(z:List Value)=>z) (k:=s) (List.replicate n Z) (λx F=>by rw[(DX.1 F).2];exact j) (k/s) (k%s) w;rw[C,List.flatMap_id'] at this;simp only[madeCells,Array.getElem_map,Array.getElem_range,Df,j,List.getElem_toArray];have r:(List.replicate n Z).flatten[k]?=Z[k%s]?:=by
   rw[this,Br,if_pos B];rfl
  rw[A1 (by rw[E];exact q),A1 q_o] at r;have A:=Ap r;rw[A];simp[j,w]
theorem zbu{len e:Nat}{parts:Array (Nat×Operand)}{vs C Z:List Value}{ye:Ty}(Y:FillTo (λi=>some (i*ye.size,ye.size)) (List.zip (parts.toList.map (·.1)) vs) (List.replicate len Z).flatten C)(K:o.op= .buildSlice t len parts:=by exact rfl)(hv:evs g (parts.toList.map (·.2))=some vs:=by exact rfl)(ht:zac P t=some y:=by exact ty rfl)(hy:y.desc= .slice e:=by exact rfl)(he:zac P e=some ye:=by exact ty rfl)(hz:zaV P e=some Z:=by exact zc rfl)(U:Z.length=ye.size:=by exact rfl)
  (hs:len*ye.size<=16777216:=by exact AO rfl)(r:0<len*ye.size:=by exact AO rfl):
  OpT P ro N w0 M ds o g L (λv O=>∃b,v= .slice (some ⟨b,0,none⟩) len len/\O= .blk b e C::L):=
 FK (by rw[K];rfl) λa w X E=>by
  obtain⟨d,i',V,a6,B,_⟩:=zU ht;rw[hy] at B;have:=za6 B;subst this;obtain⟨de,J,W,q,_,j,_⟩:=zU he;obtain⟨R,S⟩:=zbG E e C;unfold zaV at hz;rw[q] at hz;simp only[BB,Ai] at hz;obtain⟨F,I,G⟩:=hz;have H:F.cells=Z.toArray:=BC.1 (by rw[G]);have hp:((parts.map λ(i,x)=>(i,a.eval x)).toList)=List.zip (parts.toList.map (·.1)) vs:=by
   have:=E.agr.evals hv;rw[<-this,Bn,Ch];generalize parts.toList=l
   induction l with
   |nil=>rfl
   |cons p l ih=>simp only[Ay,DV,ih];rfl
  have hm:madeCells F.cells (len*J.size)=(List.replicate len Z).flatten.toArray:=by
   rw[H,j];exact ztC Z _ len U (Nat.pos_of_mul_pos_left r)
  have A:=run_buildSlice (P:=P) w t e len (parts.map λ(i,x)=>(i,a.eval x)) C.toArray J F V q I (by rw[j];omega) (by rw[j];omega) (by
   rw[hp];have T:=ziW Y;have Q:(Array.range (len*J.size)).map (F.cells[· % F.cells.size]!)=(List.replicate len Z).flatten.toArray:=hm;rw[Q,j];exact T)
  refine⟨_,_,w.alloc (.cells C.toArray e),_,?_,.inl rfl,⟨w.heap.size,rfl,rfl⟩,R,S⟩;simp[execOp,K,A]
theorem zdB{s:Nat}{C D:List Value}(hC:C.length=s)(j:D.length=s):FillTo (λi=>some (i*s,s)) [(0,.agg C.toArray)] D C:=by
 refine .cons (cs:=C) (off:=0*s) (n:=s) rfl rfl hC (by rw[BJ];omega) ?_;rw[BJ,zhI q_o];exact .nil
theorem zta{s:Nat}{C C' D:List Value}(hC:C.length=s)(j:C'.length=s)(q:D.length=2*s):FillTo (λi=>some (i*s,s)) [(0,.agg C.toArray),(1,.agg C'.toArray)] D (C++C'):=by
 refine .cons (cs:=C) (off:=0*s) (n:=s) rfl rfl hC q_o ?_;refine .cons (cs:=C') (off:=1*s) (n:=s) rfl rfl j (by unfold zaz;simp;omega) ?_;have:zaz (zaz D (0*s) C) (1*s) C'=C++C':=by
  unfold zaz;rw[BJ,BN,CO,B3,E0 hC,AL,Bd (by simp;omega),AZ]
 rw[this];exact .nil
def zbP:List Int->Nat->List MapEntry
 | [],_=>[]
 |z::r,i=>⟨.int .i64 z,.bool true,i⟩::zbP r (i+1)
theorem zlI(z:Int):∀(l:List Int) (i:Nat),zbP (l++[z]) i=zbP l i++[⟨.int .i64 z,.bool true,i+l.length⟩]
 | [],i=>rfl
 |y::l,i=>by
  rw[An,zbP,zlI z l (i+1),zbP,Ac,show i+(l.length+1)=i+1+l.length by omega];rfl
theorem zfA(z:Int):∀(l:List Int) (i j:Nat),(z∉l->findNow (.int .i64) (.int .i64 z) (zbP l i) j=some none)/\(z∈l->∃m,findNow (.int .i64) (.int .i64 z) (zbP l i) j=some (some (j+m,.bool true))/\(zbP l i)[m]?=some ⟨.int .i64 z,.bool true,i+m⟩)
 | [],i,j=>⟨λ_=>rfl,λh=>by cases h⟩
 |y::l,i,j=>by
  have A:=zfA z l (i+1) (j+1);have r:sameNow (.int .i64) (.int .i64 z) (.int .i64 y)=some (decide (z=y)):=by simp[sameNow];rfl
  by_cases h:z=y
  ·subst h;refine⟨λw=>absurd A5 w,λ_=>⟨0,?_,rfl⟩⟩;rw[zbP,findNow,r,decide_eq_true rfl];rfl
  ·rw[decide_eq_false h] at r;refine⟨λw=>?_,λE=>?_⟩
   ·rw[zbP,findNow,r];exact A.1 (λq=>w (A9 _ q))
   ·rcases Ag.1 E with q|q
    ·exact absurd q h
    ·obtain⟨m,B,C⟩:=A.2 q;refine⟨m+1,?_,?_⟩
     ·rw[zbP,findNow,r,show j+(m+1)=j+1+m by omega];exact B
     ·rw[zbP,Bq,C,show i+(m+1)=i+1+m by omega]
theorem zrM{z:Operand}{b:Nat}{l:List Int}{u:Int}{L':List Res}(S:P.underlying t=some (.map k e))(Q:P.underlying k=some (.int .i64))(R:o.op= .mapUpdate t m x z:=by exact rfl)
  (hm:ev g m=some (.map (some b)):=by exact rfl)(hx:ev g x=some (.int .i64 u):=by exact rfl)(hz:ev g z=some (.bool true):=by exact rfl)
  (hL:Upd L (zdo b (zbP l 0) l.length) (zdo b (zbP (if u∈l then l else l++[u]) 0) (if u∈l then l else l++[u]).length) L':=by repeat (first|exact FU|apply FY)):OpT P ro N w0 M ds o g L (Det undef L'):=by
 by_cases hu:u∈l
 ·rw[if_pos hu] at hL;refine FK (by rw[R];rfl) λa w X E=>?_;have K:w.heap[b]?=some (.map (zbP l 0).toArray l.length):=E.hold.has (r:=zdo b (zbP l 0) l.length) (by obtain⟨A,B,e,_⟩:=hL;subst e;simp[Has]);have O:L'=L:=by obtain⟨A,B,T,U⟩:=hL;rw[T,U]
  subst O;obtain⟨i,I,J⟩:=(zfA u l 0 0).2 hu;rw[AR] at I J;have V:(getObj b).run P w= .ok (.map (zbP l 0).toArray l.length) w:=by simp[getObj,Sem.run,K]
  have G:((zbP l 0).toArray.modify i λe=> { e with key:=.int .i64 u,val:=.bool true })=(zbP l 0).toArray:=by
   apply Array.ext_getElem?;intro j;rw[Cv];split
   ·rename_i h;subst h;rw[BM,J];rfl
   ·rfl
  have C:((zbP l 0).modify i λe=> { e with key:=.int .i64 u,val:=.bool true })=zbP l 0:=by
   have:=congrArg Array.toList G;simpa using this
  have H:w.heap.setIfInBounds b (.map (zbP l 0).toArray l.length)=w.heap:=by
   apply Array.ext_getElem?;intro j;by_cases h:b=j
   ·subst h;rw[K];exact(heap_set K).1
   ·rw[BY h]
  refine⟨_,_,w,L',?_,.inr ⟨rfl,rfl⟩,⟨rfl,rfl⟩,E.keep,E.hold⟩;have F:((zbP l 0).toArray[i]?.map (·.key)).getD (.int .i64 u)= .int .i64 u:=by rw[BM,J];rfl
  have q:sameBits 10000 (.int .i64 u) (.int .i64 u)=true:=by simp[sameBits]
  simp[execOp,R,E.agr.eval hm,E.agr.eval hx,E.agr.eval hz,Instr.mapUpdate,run_underlying S,V,run_checkKey Q (show IsKey (.int .i64) (.int .i64 u) from rfl),run_findKey Q I,F,keyThatStays,q,run_setObj_map _ K,C,H,J]
 ·rw[if_neg hu] at hL;have I:=(zfA u l 0 0).1 hu;have e:zbP (l++[u]) 0=zbP l 0++[MapEntry.mk (.int .i64 u) (.bool true) l.length]:=by rw[zlI,AR]
  rw[e,A2] at hL;exact zqv S Q (show IsKey (.int .i64) (.int .i64 u) from rfl) I R hm hx hz hL
theorem zq2{b:Nat}{l:List Int}{u:Int}(A:P.underlying t=some (.map k e))(q:P.underlying k=some (.int .i64))(j:∀w:World,(zeroValue e).run P w= .ok (.bool false) w)(r:o.op= .lookup t m x false:=by exact rfl)
  (hm:ev g m=some (.map (some b)):=by exact rfl)(hx:ev g x=some (.int .i64 u):=by exact rfl)(hL:Has L (zdo b (zbP l 0) l.length):=by repeat (first|exact F6|apply FB)):OpT P ro N w0 M ds o g L (Det (.bool (decide (u∈l))) L):=by
 by_cases hu:u∈l
 ·obtain⟨i,B,_⟩:=(zfA u l 0 0).2 hu;rw[decide_eq_true hu];exact zrC A q (show IsKey (.int .i64) (.int .i64 u) from rfl) B r hm hx hL
 ·rw[decide_eq_false hu];exact zoj A q (show IsKey (.int .i64) (.int .i64 u) from rfl) ((zfA u l 0 0).1 hu) j r hm hx hL
end Go.Sy
namespace Go.Proofs.YtdnlngbjpdbffaaGreatDoor
open Go Go.Sy Go.Nt Go.RowKit
attribute [local irreducible] Sy SyL SyX Sy.Fn callFunc zf z8 zG iC gP gQ gL zap zab zaF zaK gel zaJ zaZ Sh.sum
theorem zbS{x:Nat}(h:x<18446744073709551616^16):nd 65536 x<20000:=Av (ndW h) q_e
theorem zhQ(i:Nat)(pa ma ra:Option Addr)(F pc E mc rc r kb ko kc:Nat)(pl ml:List UInt8)(w:World)(h0:1<=i)(A:i<=4)(hR:RTab w No kb ko kc)(V:(⟨pa,F,pc,pl⟩:Bs).ok w)(hm:(⟨ma,E,mc,ml⟩:Bs).ok w)(a7:SlA w ra (zG r))(b1:F<=1000)(a9:E<=100000)(hr:zap (gP i) (gQ i) r=true):
  Sy.Fn Tryz.prog 150 [.int .i64 (i:Int),.slice pa F pc,.slice ra (nd 65536 r) rc,.slice ma E mc] w No (zaW (zaZ i pl r ml)):=by
 refine zo Tryz.func150 Tryz.ntmps150 ?_;have hu:=zoC i A;have U:=zbS (AS (zbE hr) (zbw i h0 A));have K:=λj (q:Keep No w j)=>zgB i ra rc r j h0 A (a7.to q (λ_ h=> .inr h)).sla U (zfN h0 A (zbE hr));have O:=zbZ (gL i) r (zfN h0 A (zbE hr));have a8:gL i<=96:=by have:=zdp (z:=(i:Int)) ⟨by omega,by omega⟩;rwa[B6] at this
 have W:pl.length=F:=V.len;have Q:ml.length=E:=hm.len;have Z:=V.sla;have T:=hm.sla;have Y:pa=none->pc=0:=V.nil;have S:ma=none->mc=0:=hm.nil;dsimp only at Z T;rw[zoD];have J:(zbm i pl r ml).length=1+F+gL i+E:=by
  unfold zbm;rw[Ac,A2,A2,O,W,Q];omega
 have I:=λj (q:Keep No w j) a c (hs:SlA j a ((zbm i pl r ml).map v8)) (hn:a=none->c=0)=>zsd a (1+F+gL i+E) c kb ko kc (zbm i pl r ml) j J q_o hs hn (hR.no q).cell (hR.no q).row;have G:=zoS (zbm i pl r ml);have a6:=λj b (h:j.rangeAt b 0 ((Sh.sum (zbm i pl r ml)).map v8))=>zjT i (some ⟨b,0,none⟩) 32 32 (Sh.sum (zbm i pl r ml)) j h0 A G (.inr ⟨b,0,rfl,h⟩) q_e;generalize Sh.sum (zbm i pl r ml)=H at*;have hX:Value.int .u8 (Wd.n8 (UInt8.ofNat i))::(((List.append [] (pl.map v8)).append ((zaF (gL i) r).map v8)).append (ml.map v8))=(zbm i pl r ml).map v8:=by
  unfold zbm;rw[Ay,Aw,Aw,<-AL];rfl
 generalize gL i=len,zaF (gL i) r=lb,zbm i pl r ml=B at*;repeat' (first|refine s_0 ?_|refine q_k 0 ?_|refine q_k 1 ?_;refine q_v (zal (hr:=hu)) ?_;(refine q_s zw ?_;rintro _ _ ⟨_,rfl,rfl⟩);refine zb ?_;(refine q_s zbH ?_;rintro _ _ ⟨rfl,_,_,rfl⟩);refine zb ?_|refine q_k 2 ?_;(refine q_s (zh (hc:=zq K)) ?_;rintro _ _ ⟨R,rfl,aB,cB,rfl,rfl⟩;refine zf7 (λj C=>(Fi C (a:=aB) (n:=len) (c:=cB) F4:aB=none->cB=0)) λb0=>?_);(refine q_s zak ?_;rintro _ _ ⟨rfl,_,_,rfl⟩);refine zb ?_;(refine q_s zak ?_;rintro _ _ ⟨rfl,_,_,rfl⟩);refine zb ?_)
 rw[hX];repeat' (first|refine s_0 ?_|refine q_k 3 ?_;refine q_v (za (hc:=λj X q C=>I j q _ _ (zI C q_h) (Fi C q_h))) ?_;refine zi ?_;intro _;refine zS ?_|refine q_k 4 ?_;refine zcC ?_;(refine q_s (zh (hc:=λj X q C=>a6 j _ (zp (C.has q_h) F0))) ?_;rintro _ _ ⟨R,rfl,aS,cS,rfl,rfl⟩);refine zb ?_)
 exact q_r
theorem znf(z:Int)(pa na ma:Option Addr)(pn pc nn nc J mc kb ko kc:Nat)(pl nl ml:List UInt8)(w:World)(hR:RTab w No kb ko kc)(hp:(⟨pa,pn,pc,pl⟩:Bs).ok w)(hn:(⟨na,nn,nc,nl⟩:Bs).ok w)(hm:(⟨ma,J,mc,ml⟩:Bs).ok w)(c4:nn<=1000)(b6:J<=100000):
  Sy.Fn Tryz.prog 68 [.int .i64 z,.slice pa pn pc,.slice na nn nc,.slice ma J mc] w No (BR (zc4 z pl nl ml)):=by
 refine zo Tryz.func68 Tryz.ntmps68 ?_;have F:=λj (A:Keep No w j)=>zol z pa pn pc pl j hp.len (hp.keep A).sla;have b9:=zkD z pl;have c2:ml.length=J:=hm.len;unfold ziD at F;cases A:zcp z pl with
 |false=>
  rw[show zc4 z pl nl ml=none from if_neg (λh=>by rw[A] at h;exact Bool.noConfusion h.1)];rw[A] at F;generalize (zbi z pl).1=x at*;repeat' (first|refine s_0 ?_|refine zK [0,3] ?_;refine zb ?_|refine q_k 1 ?_;(refine q_s (zh (hc:=zq F)) ?_;rintro _ _ ⟨R,rfl,aX,cX,rfl,rfl⟩);refine zb ?_|refine q_k 2 ?_;refine zJ ?_;refine zb ?_)
  refine zbK (zaO 5 1) ?_;exact zad rfl (zr rfl) (zr rfl) q_h ⟨_,_,_,rfl,rfl,rfl⟩
 |true=>
  have Y:=A;have b7:=zs3 A;obtain⟨i,rfl,hi,h0,q,a8⟩:=zpl A;rw[A] at F;have U:=zm3 h0 q nl;have B:=λj (A:Keep No w j)=>zjT i na nn nc nl j h0 q hn.len (hn.keep A).sla q_o;have K:0<gQ i:=AG q_e (za3 i h0 q);have S:bev 256 (bn nl)%gQ i<gQ i:=A7 _ K;unfold zaW at B;by_cases hk0:bev 256 (bn nl)%gQ i=0
  ·rw[show zc4 (i:Int) pl nl ml=none from if_neg (λh=>h.2.2.1 (by rw[U];exact hk0))];have G:=λj a1 C (h:SlA j a1 (zG (bev 256 (bn nl)%gQ i)))=>zjE a1 C _ j h (zbS (AS S (zba i h0 q)));rw[decide_eq_true hk0] at G;clear U;generalize (zbi (i:Int) pl).1=x,bev 256 (bn nl)%gQ i=k at*;repeat' (first|refine s_0 ?_|refine zK [0,3] ?_;refine zb ?_|refine q_k 1 ?_;(refine q_s (zh (hc:=zq F)) ?_;rintro _ _ ⟨R,rfl,aX,cX,rfl,rfl⟩);refine zb ?_|refine q_k 2 ?_;refine zJ ?_;refine zb ?_;(refine q_s (zh (hc:=zq B)) ?_;rintro _ _ ⟨R,rfl,aK,cK,rfl,rfl⟩);refine q_v (za (hc:=λj X A r=>G j _ _ (zI r q_h))) ?_;refine zb ?_)
   refine zbK (zaO 5 1) ?_;exact zad rfl (zr rfl) (zr rfl) q_h ⟨_,_,_,rfl,rfl,rfl⟩
  have G:=λj a1 C (h:SlA j a1 (zG (bev 256 (bn nl)%gQ i)))=>zjE a1 C _ j h (zbS (AS S (zba i h0 q)));rw[decide_eq_false hk0] at G;by_cases hlong:65536<J
  ·rw[show zc4 (i:Int) pl nl ml=none from if_neg (λh=>by have:=h.2.2.2;omega)];have gm:decide (65536<(J:Int))=true:=q_d;clear U;generalize (zbi (i:Int) pl).1=x,bev 256 (bn nl)%gQ i=k at*;repeat' (first|refine s_0 ?_|refine zK [0,3] ?_;refine zb ?_|refine q_k 1 ?_;(refine q_s (zh (hc:=zq F)) ?_;rintro _ _ ⟨R,rfl,aX,cX,rfl,rfl⟩);refine zb ?_|refine q_k 2 ?_;refine zJ ?_;refine zb ?_;(refine q_s (zh (hc:=zq B)) ?_;rintro _ _ ⟨R,rfl,aK,cK,rfl,rfl⟩);refine q_v (za (hc:=λj X A r=>G j _ _ (zI r q_h))) ?_;refine zb ?_;refine q_x (zF (hr:=gm)) ?_)
   refine zbK (zaO 5 1) ?_;exact zad rfl (zr rfl) (zr rfl) q_h ⟨_,_,_,rfl,rfl,rfl⟩
  have gm:decide (65536<(J:Int))=false:=q_f;rw[zgD Y (by rw[U]) (by rw[U];exact hk0) q_o,hi,U];dsimp only;rw[<-b7] at a8 ⊢;generalize (zbi (i:Int) pl).1=x,bev 256 (bn nl)%gQ i=k at*;have a7:=AS a8 (zba i h0 q);have W:=AS S (zba i h0 q);have a6:=λj a1 C (h:SlA j a1 (zG x))=>zia i a1 C x j h0 q h (zbS a7);have Z:=λj a1 C (h:SlA j a1 (zG k))=>zia i a1 C k j h0 q h (zbS W);have mx:zap (gP i) (gQ i) (4^x%gP i)=true:=zbq.2 (zeU h0 q _);have mk:zap (gP i) (gQ i) (4^k%gP i)=true:=zbq.2 (zeU h0 q _);have b2:=λj a1 C (h:SlA j a1 (zG (4^x%gP i)))=>zgB i a1 C _ j h0 q h (zbS (AS (zbE mx) (zbw i h0 q))) (zfN h0 q (zbE mx));have b4:=zbZ (gL i) (4^x%gP i) (zfN h0 q (zbE mx));have c0:gL i<=96:=by have:=zdp (z:=(i:Int)) ⟨by omega,by omega⟩;rwa[B6] at this
  have hE:sE i x k ml=zaZ i (zaF (gL i) (4^x%gP i)) (4^k%gP i) ml:=rfl;have Q:sE i x k ml<gQ i:=zfV h0 q _ _ _;have T:sS i x k ml<gQ i:=A7 _ K;have hS:sS i x k ml=(k+sE i x k ml*x%gQ i)%gQ i:=rfl;have O:=λj (A:Keep No w j) a c ra rc (hb:(⟨a,gL i,c,zaF (gL i) (4^x%gP i)⟩:Bs).ok j) (hr:SlA j ra (zG (4^k%gP i)))=>zhQ i a ma ra (gL i) c J mc rc (4^k%gP i) kb ko kc (zaF (gL i) (4^x%gP i)) ml j h0 q (hR.no A) hb (hm.keep A) hr q_o b6 mk;rw[<-hE] at O;generalize sE i x k ml=e at*;have V:=AS Q (zba i h0 q);have I:=λj a c a1 C (h:SlA j a (zG e)) (h1:SlA j a1 (zG x))=>zsb i a a1 c C e x j h0 q h h1 (zbS V) (zbS a7);have b8:e*x%gQ i<gQ i:=A7 _ K;have H:=λj a c a1 C (h:SlA j a (zG k)) (h1:SlA j a1 (zG (e*x%gQ i)))=>zmH i a a1 c C k (e*x%gQ i) j h0 q h h1 (zbS W) (zbS (AS b8 (zba i h0 q)));rw[<-hS] at H;generalize sS i x k ml=s at*;have b0:=λj a1 C (h:SlA j a1 (zG e))=>zgB i a1 C _ j h0 q h (zbS V) (zfc h0 q Q);have b1:=λj a1 C (h:SlA j a1 (zG s))=>zgB i a1 C _ j h0 q h (zbS (AS T (zba i h0 q))) (zfc h0 q T);have b3:=zbZ (gL i) e (zfc h0 q Q);have b5:=zbZ (gL i) s (zfc h0 q T);unfold zaW at a6 Z O I H;generalize gL i=len,e*x%gQ i=em,4^k%gP i=yk,4^x%gP i=yx,zaF (gL i) s=lS,zaF (gL i) e=lE,zaF (gL i) (4^x%gP i)=lb at*;repeat' (first|refine s_0 ?_|refine q_k 0 ?_|refine q_k 1 ?_;(refine q_s (zh (hc:=zq F)) ?_;rintro _ _ ⟨R,rfl,aX,cX,rfl,rfl⟩);refine zb ?_|refine q_k 2 ?_;refine zJ ?_;refine zb ?_;(refine q_s (zh (hc:=zq B)) ?_;rintro _ _ ⟨R,rfl,aK,cK,rfl,rfl⟩);refine q_v (za (hc:=λj X A r=>G j _ _ (zI r q_h))) ?_;refine zb ?_;refine q_x (zF (hr:=gm)) ?_|refine q_k 4 ?_;(refine q_s (zh (hc:=zq B)) ?_;rintro _ _ ⟨R,rfl,aK,cK,rfl,rfl⟩);refine zb ?_)
  repeat' (first|refine s_0 ?_|refine q_k 5 ?_;(refine q_s (zh (hc:=λj X A r=>a6 j _ _ (zI r q_h))) ?_;rintro _ _ ⟨R,rfl,aY,cY,rfl,rfl⟩);(refine q_s (zh (hc:=λj X A r=>b2 j _ _ (zI r q_h))) ?_;rintro _ _ ⟨R,rfl,aB,cB,rfl,rfl⟩);refine zb ?_)
  repeat' (first|refine s_0 ?_|refine q_k 6 ?_;(refine q_s (zh (hc:=λj X A r=>Z j _ _ (zI r q_h))) ?_;rintro _ _ ⟨R,rfl,aR,cR,rfl,rfl⟩);refine zb ?_;(refine q_s (zh (hc:=λj X A r=>O j A aB cB _ _ (znz (E:=5) r b4 q_h) (zI r q_h))) ?_;rintro _ _ ⟨R,rfl,aE,cE,rfl,rfl⟩);refine zb ?_)
  repeat' (first|refine s_0 ?_|refine q_k 7 ?_;(refine q_s (zh (hc:=λj X A r=>I j _ _ _ _ (zI r q_h) (zI r q_h))) ?_;rintro _ _ ⟨R,rfl,aM,cM,rfl,rfl⟩);(refine q_s (zh (hc:=λj X A r=>H j _ _ _ _ (zI r q_h) (zI r q_h))) ?_;rintro _ _ ⟨R,rfl,aS,cS,rfl,rfl⟩);refine zb ?_)
  repeat' (first|refine s_0 ?_|refine q_k 8 ?_;(refine q_s (zh (hc:=λj X A r=>b0 j _ _ (zI r q_h))) ?_;rintro _ _ ⟨R,rfl,aF,cF,rfl,rfl⟩);refine zb ?_;(refine q_s (zh (hc:=λj X A r=>b1 j _ _ (zI r q_h))) ?_;rintro _ _ ⟨R,rfl,aG,cG,rfl,rfl⟩;refine zf7 (λj r=>(Fi r (a:=aG) (n:=len) (c:=cG) F4:aG=none->cG=0)) λc3=>?_);(refine q_s zak ?_;rintro _ _ ⟨rfl,_,_,rfl⟩);refine zb ?_)
  have a9:(lE.map v8).append (lS.map v8)=(lE++lS).map v8:=Aw.symm;rw[a9];exact zad rfl (zr rfl) (zr rfl) q_h ⟨_,_,_,rfl,by show len+len=(lE++lS).length;rw[A2,b3,b5],rfl⟩
end Go.Proofs.YtdnlngbjpdbffaaGreatDoor
