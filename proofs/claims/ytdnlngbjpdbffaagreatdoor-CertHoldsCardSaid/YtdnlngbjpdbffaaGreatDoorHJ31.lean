/- Lemmas of this proof. -/
import Derived.Test.YtdnlngbjpdbffaaGreatDoorHJ30
import Derived.MapKept
set_option maxHeartbeats 1000000
set_option maxRecDepth 10000
set_option linter.all false
namespace Go.Proofs.YtdnlngbjpdbffaaGreatDoor
open Go Go.Sy Go.Ct Go.Nt Go.RowKit
attribute [local irreducible] Sy SyL SyX SyC SyF Sy.Fn callFunc
theorem zjT(p:Pl)(c:Cert)(w:World)(h:CertAt w p c)(B:c.small):Sy.Fn Tryz.prog 51 [.agg (zE p c).toArray] w No (zbA c.der):=by
 refine zz Tryz.func51 Tryz.ntmps51 ?_;have Z:=λj (E:Keep No w j)=>ziY p c j (h.keep E) B;have T:=B.sig;have S:=B.pub;have ho:=λj (E:Keep No w j)=>zoQ ⟨p.a4,c.sig.length,p.k4,c.sig⟩ j (h.sig.keep E) (by show c.sig.length<16777216;omega);have p0:0<c.body.length:=by rw[FM];exact zbJ
 have p1:0<(zbz c.sig).length:=zbJ;have m0:c.body.length<=605+c.pub.length:=by rw[FM];have:=(zae 0x30 c.flat).2;have:=FU B;omega
 have m1:(zbz c.sig).length<=c.sig.length+5:=zcv (A8 _);obtain⟨q,H⟩:∃G,G=zap 0 c.body:=⟨_,rfl⟩;obtain⟨r,I⟩:∃G,G=zap 1 (zbz c.sig):=⟨_,rfl⟩;have l0:q.length<=c.body.length+5:=by rw[H];exact(zae (0xa0+0) _).2
 have l1:r.length<=(zbz c.sig).length+5:=by rw[I];exact(zae (0xa0+1) _).2
 have F:c.der=tlv 0x30 (q++r):=by rw[H,I];simp[Cert.der,zdt]
 generalize zbz c.sig=K,c.body=J,c.der=U at*;have hC:(zE p c).drop 10= [.slice p.a4 c.sig.length p.k4]:=rfl;unfold zE at*;repeat' (first|refine s_0 ?_|refine ze 0 ?_;refine z9 ?_;intro _)
 (refine zdq (id:=1) [0,3,4] [1,2,5,6,7,8,9] mixed ?_ ?_;kernel_rfl;refine yfv zd (k:=?_);refine yfv zP (k:=?_);refine yfv zM (k:=?_);refine yf0 ?_;try refine yc0 (k:=?_))
 refine ycs (zn (hc:=zr Z)) (k:=?_);rintro _ _ ⟨R,rfl,a0,W,rfl,rfl⟩;refine ycs (zn (hc:=λj X E A=>zcl 0 a0 J.length W J q j q_e (zau A rfl q_h) p0 q_o H)) (k:=?_);rintro _ _ ⟨R,rfl,O,d0,rfl,rfl⟩;refine ycs (zn (hc:=zr ho)) (k:=?_);rintro _ _ ⟨R,rfl,a1,Y,rfl,rfl⟩;refine ycs (zn (hc:=λj X E A=>zcl 1 a1 K.length Y K r j q_e (zau A rfl q_h) p1 q_o I)) (k:=?_);rintro _ _ ⟨R,rfl,Q,d1,rfl,rfl⟩;refine ycs zD (k:=?_);rintro _ _ ⟨V,rfl,rfl⟩;refine ycs (zn (hc:=λj X E A=>zjA V 2 [⟨O,q.length,d0,q⟩,⟨Q,r.length,d1,r⟩] j rfl q_e (zq (A.has q_h) Em) (λs B=>by
   simp only[AQ,BB,or_false] at B;rcases B with rfl|rfl
   ·exact zau A rfl q_h
   ·exact zau A rfl q_h) (by rw[show Bs.cat [⟨O,q.length,d0,q⟩,⟨Q,r.length,d1,r⟩]=q++r by simp[Bs.cat]];simp only[A3];omega) U (by rw[F];simp[Bs.cat]))) (k:=?_)
 rintro _ _ ⟨R,rfl,aW,cW,rfl,rfl⟩;refine ycv zbl (k:=?_);refine yc0 (k:=?_);repeat' (first|refine s_0 ?_|fail)
 exact zaq rfl (zj rfl) (Ew Ej rfl El) ⟨_,_,rfl,rfl⟩
theorem zoV(p:Pl)(c:Cert)(w:World)(F:GT w)(h:CertAt w p c)(G:c.fine)(j:c.ok svK=true):Sy.Fn Tryz.prog 21 [.agg (zE p c).toArray] w No (λv R=>∃a k,v= .tuple #[.slice a c.der.length k,.int .i64 0]/\R= [.row (.slice a c.der.length k) 5 1 c.der.length (c.der.map v8)]):=by
 refine zz Tryz.func21 Tryz.ntmps21 ?_;have E:=λq (r:Keep No w q)=>zez p c q (F.to r) (h.keep r) G;rw[j] at E;have H:=λq (r:Keep No w q)=>zjT p c q (h.keep r) (F1 svK_law j);have A:(zE p c).length=11:=rfl;generalize zE p c=C at*;repeat' (first|refine s_0 ?_|refine ze 0 ?_;refine z9 ?_;intro _|refine ze 1 ?_;refine q_v (zd (B:=C) (hz:=A.symm)) ?_;refine q_v (za (hc:=zr E)) ?_;refine zI ?_|refine ze 3 ?_;refine q_v (zd (B:=C) (hz:=A.symm)) ?_;(refine q_s (zn (hc:=zr H)) ?_;rintro _ _ ⟨R,rfl,I,J,rfl,rfl⟩);refine zf ?_)
 exact zT rfl (zj rfl) (zj rfl) q_h ⟨_,_,rfl,rfl⟩
def zac(p:Pl)(c:Cert):List Res:=[.row (.slice p.a1 c.issuer.parts.length p.k1) 9 1 c.issuer.parts.length (c.issuer.parts.map zW),.row (.slice p.a2 c.subject.parts.length p.k2) 9 1 c.subject.parts.length (c.subject.parts.map zW),.row (.slice p.a3 c.pub.length p.k3) 5 1 c.pub.length (c.pub.map v8),.row (.slice p.a4 c.sig.length p.k4) 5 1 c.sig.length (c.sig.map v8)]
def zkK(c:Cert)(v:Value)(R:List Res):Prop:=∃p,v= .agg (zE p c).toArray/\R=zac p c
theorem zs0(p:Pl)(c:Cert)(w:World)(h:CertAt w p c)(F:c.fine)(hp:c.pub.length<1000000)(S:c.sig.length<1000000):Sy.Fn Tryz.prog 32 [.agg (zE p c).toArray] w No (zkK c):=by
 refine zz Tryz.func32 Tryz.ntmps32 ?_;have O:=λE (G:Keep No w E)=>zm0 _ _ E (h.iss.keep G) F.i.1;have Q:=λE (G:Keep No w E)=>zm0 _ _ E (h.sub.keep G) F.s.1;have J:=h.pub.sla;have K:=h.sig.sla;have H:=h.pub.nil;have I:=h.sig.nil;dsimp only at J K H I;unfold zE za1 zkK zac at*;clear h F;obtain⟨serial,⟨j,q⟩,⟨r,A⟩,fr,til,auth,group,pub,sig⟩:=c;dsimp only at*;repeat' (first|refine s_0 ?_|refine ze 0 ?_;refine zi ?_;intro _;refine zi ?_;intro _|refine q_k 1 ?_;refine q_v (zd (B:=[.slice p.a1 j.length p.k1,zW q]) (hv:=FB rfl)) ?_;(refine q_s (zn (hc:=zr O)) ?_;rintro _ _ ⟨R,rfl,a1,k1,rfl,rfl⟩);refine zf ?_;refine q_n (zdi (hC:=A6 rfl)) ?_|refine q_k 2 ?_;refine q_v (zd (B:=[.slice p.a2 r.length p.k2,zW A]) (hv:=FB rfl)) ?_;(refine q_s (zn (hc:=zr Q)) ?_;rintro _ _ ⟨R,rfl,a2,k2,rfl,rfl⟩);refine zf ?_;refine q_n (zdi (hC:=A6 rfl)) ?_|refine q_k 3 ?_;refine zl ?_;(refine q_s (zdl (hr:=F4 J (λ_ _ h=>h)) (hn:=by rw[A1,Al]) (hnil:=H)) ?_;rintro _ _ ⟨rfl,a3,k3,rfl⟩);refine zf ?_;refine q_n (zaK (hC:=⟨A6 rfl,rfl⟩)) ?_|refine q_k 4 ?_;refine zl ?_;(refine q_s (zdl (hr:=F4 K (λ_ _ h=>h)) (hn:=by rw[A1,Al]) (hnil:=I)) ?_;rintro _ _ ⟨rfl,a4,k4,rfl⟩);refine zf ?_;refine q_n (zaK (hC:=⟨A6 rfl,rfl⟩)) ?_|refine ze 5 ?_;refine zl ?_;refine q_n (zdi (hC:=A6 rfl)) ?_)
 exact zaq rfl (zB (B:=[.int .i64 serial,.slice a1 j.length k1,zW q,.slice a2 r.length k2,zW A,.int .i64 fr,.int .i64 til,.bool auth,.int .i64 group,.slice a3 pub.length k3,.slice a4 sig.length k4]) rfl (ty rfl) rfl En Em rfl) q_h ⟨⟨a1,k1,a2,k2,a3,k3,a4,k4⟩,rfl,rfl⟩
end Go.Proofs.YtdnlngbjpdbffaaGreatDoor
namespace Go.Sy
open Go Instr Go.MapKept
variable {P:Program}{ro:Option Nat}{N:Nat}{w0:World}{M:Nat->Prop}{ds:List Deferred}{g:Nat->Option Value}{L:List Res}{o:Oper}{t k e:TypeId}{d:TypeDesc}{m x:Operand}
def zdG(b:Nat)(es:List MapEntry)(c:Nat):Res:=.obj b (.map es.toArray c)
theorem zp6(q:o.op= .makeMap t none:=by exact rfl):OpT P ro N w0 M ds o g L (λv r=>∃b,v= .map (some b)/\r=zdG b [] 0::L):=
 F5 (by rw[q];rfl) λa w X j=>by
  refine⟨_,_,w.alloc (.map #[] 0),zdG w.heap.size [] 0::L,?_,.inl rfl,⟨w.heap.size,rfl,rfl⟩,j.keep.trans (FN No w _) (λ_ h=>h.elim),j.hold.newObj j.keep.size _⟩;simp[execOp,q,Instr.makeMap]
theorem Keep.setObj(w:World)(b:Nat)(q:Obj):Keep (· =b) w { w with heap:=w.heap.setIfInBounds b q } :=
 ⟨rfl,rfl,rfl,by simp,λj _ r=>by
  show(w.heap.setIfInBounds b q)[j]?=_;rw[Bk (λh=>r h.symm)]⟩
theorem zrX{z:Operand}{b c:Nat}{es:List MapEntry}{key v:Value}{L':List Res}(O:P.underlying t=some (.map k e))(G:P.underlying k=some d)(hk:IsKey d key)(J:findNow d key es 0=some none)(H:o.op= .mapUpdate t m x z:=by exact rfl)
  (hm:ev g m=some (.map (some b)):=by exact rfl)(hx:ev g x=some key:=by exact rfl)(hz:ev g z=some v:=by exact rfl)
  (hL:Upd L (zdG b es c) (zdG b (es++[MapEntry.mk key v c]) (c+1)) L':=by repeat (first|exact FI|apply FH)):OpT P ro N w0 M ds o g L (Det undef L'):=
 F5 (by rw[H];rfl) λa w X j=>by
  have q:w.heap[b]?=some (.map es.toArray c):=j.hold.has (r:=zdG b es c) (by obtain⟨A,B,e,_⟩:=hL;subst e;simp[Has]);have F:=j.hold.mine (zdG b es c) (by obtain⟨A,B,e,_⟩:=hL;subst e;simp) b rfl;obtain⟨s1,s2⟩:=heap_set (o':=.map (es++[MapEntry.mk key v c]).toArray (c+1)) q;refine⟨_,_,{ w with heap:=w.heap.setIfInBounds b (.map (es++[MapEntry.mk key v c]).toArray (c+1)) },L',?_,.inr ⟨rfl,rfl⟩,⟨rfl,rfl⟩,zgF j.keep (Keep.setObj w b _) F,?_⟩
  ·have K:(getObj b).run P w= .ok (.map es.toArray c) w:=by simp[getObj,Sem.run,q]
   have I:(es.toArray.push (MapEntry.mk key v c))=(es++[MapEntry.mk key v c]).toArray:=by simp
   simp[execOp,H,j.agr.eval hm,j.agr.eval hx,j.agr.eval hz,Instr.mapUpdate,run_underlying O,K,run_checkKey G hk,run_findKey G J,run_setObj_map _ q,I]
  ·exact j.hold.upd hL.append (λQ E=> .inl E) s1 ((Keep.setObj w b _).mono (λx hx=>by subst hx;exact rfl))
theorem zqS{b c i:Nat}{es:List MapEntry}{key v:Value}(G:P.underlying t=some (.map k e))(q:P.underlying k=some d)(hk:IsKey d key)(E:findNow d key es 0=some (some (i,v)))(A:o.op= .lookup t m x false:=by exact rfl)
  (hm:ev g m=some (.map (some b)):=by exact rfl)(hx:ev g x=some key:=by exact rfl)(hL:Has L (zdG b es c):=by repeat (first|exact Ev|apply Ey)):OpT P ro N w0 M ds o g L (Det v L):=
 Eu (by rw[A];rfl) λa w X j=>by
  have B:w.heap[b]?=some (.map es.toArray c):=j.hold.has (r:=zdG b es c) (Et hL);have F:(getObj b).run P w= .ok (.map es.toArray c) w:=by simp[getObj,Sem.run,B]
  simp[execOp,A,j.agr.eval hm,j.agr.eval hx,Instr.lookup,run_underlying G,F,run_checkKey q hk,run_findKey q E]
theorem zox{b c:Nat}{es:List MapEntry}{key zv:Value}(H:P.underlying t=some (.map k e))(A:P.underlying k=some d)(hk:IsKey d key)(F:findNow d key es 0=some none)(q:∀w:World,(zeroValue e).run P w= .ok zv w)(B:o.op= .lookup t m x false:=by exact rfl)
  (hm:ev g m=some (.map (some b)):=by exact rfl)(hx:ev g x=some key:=by exact rfl)(hL:Has L (zdG b es c):=by repeat (first|exact Ev|apply Ey)):OpT P ro N w0 M ds o g L (Det zv L):=
 Eu (by rw[B];rfl) λa w X j=>by
  have E:w.heap[b]?=some (.map es.toArray c):=j.hold.has (r:=zdG b es c) (Et hL);have G:(getObj b).run P w= .ok (.map es.toArray c) w:=by simp[getObj,Sem.run,E]
  simp[execOp,B,j.agr.eval hm,j.agr.eval hx,Instr.lookup,run_underlying H,G,run_checkKey A hk,run_findKey A F,q]
variable {y:Ty}
theorem zte(Z:List Value)(s n:Nat)(j:Z.length=s)(h0:0<s):madeCells Z.toArray (n*s)=(List.replicate n Z).flatten.toArray:=by
 have F:(List.replicate n Z).flatten.length=n*s:=by simp[j]
 apply Array.ext
 ·rw[size_madeCells];simp[j]
 ·intro k q H;rw[size_madeCells] at q;have w:k%s<s:=AG _ h0;have B:k/s<n:=(Af h0).2 q;have E:k/s*s+k%s=k:=by rw[AN];exact Ae k s
  have:=zf7 (f:=λ(z:List Value)=>z) (k:=s) (List.replicate n Z) (λx G=>by rw[(List.mem_replicate.1 G).2];exact j) (k/s) (k%s) w;rw[E,List.flatMap_id'] at this;simp only[madeCells,Array.getElem_map,Array.getElem_range,DM,j,List.getElem_toArray];have r:(List.replicate n Z).flatten[k]?=Z[k%s]?:=by
   rw[this,CX,if_pos B];rfl
  rw[A2 (by rw[F];exact q),A2 q_o] at r;have A:=An r;rw[A];simp[j,w]
theorem zb6{len e:Nat}{parts:Array (Nat×Operand)}{vs C Z:List Value}{ye:Ty}(Y:FillTo (λi=>some (i*ye.size,ye.size)) (List.zip (parts.toList.map (·.1)) vs) (List.replicate len Z).flatten C)(K:o.op= .buildSlice t len parts:=by exact rfl)(hv:evs g (parts.toList.map (·.2))=some vs:=by exact rfl)(ht:zag P t=some y:=by exact ty rfl)(hy:y.desc= .slice e:=by exact rfl)(he:zag P e=some ye:=by exact ty rfl)(hz:za8 P e=some Z:=by exact zc rfl)(U:Z.length=ye.size:=by exact rfl)
  (hs:len*ye.size<=16777216:=by exact A6 rfl)(r:0<len*ye.size:=by exact A6 rfl):
  OpT P ro N w0 M ds o g L (λv O=>∃b,v= .slice (some ⟨b,0,none⟩) len len/\O= .blk b e C::L):=
 F5 (by rw[K];rfl) λa w X E=>by
  obtain⟨d,i',V,a6,B,_⟩:=zU ht;rw[hy] at B;have:=zbg B;subst this;obtain⟨de,J,W,q,_,j,_⟩:=zU he;obtain⟨R,S⟩:=zbL E e C;unfold za8 at hz;rw[q] at hz;simp only[AW,AV] at hz;obtain⟨F,I,G⟩:=hz;have H:F.cells=Z.toArray:=B5.1 (by rw[G]);have hp:((parts.map λ(i,x)=>(i,a.eval x)).toList)=List.zip (parts.toList.map (·.1)) vs:=by
   have:=E.agr.evals hv;rw[<-this,BZ,DJ];generalize parts.toList=l
   induction l with
   |nil=>rfl
   |cons p l ih=>simp only[As,DA,ih];rfl
  have hm:madeCells F.cells (len*J.size)=(List.replicate len Z).flatten.toArray:=by
   rw[H,j];exact zte Z _ len U (Nat.pos_of_mul_pos_left r)
  have A:=run_buildSlice (P:=P) w t e len (parts.map λ(i,x)=>(i,a.eval x)) C.toArray J F V q I (by rw[j];omega) (by rw[j];omega) (by
   rw[hp];have T:=zi2 Y;have Q:(Array.range (len*J.size)).map (F.cells[· % F.cells.size]!)=(List.replicate len Z).flatten.toArray:=hm;rw[Q,j];exact T)
  refine⟨_,_,w.alloc (.cells C.toArray e),_,?_,.inl rfl,⟨w.heap.size,rfl,rfl⟩,R,S⟩;simp[execOp,K,A]
theorem zfg{s:Nat}{C D:List Value}(hC:C.length=s)(j:D.length=s):FillTo (λi=>some (i*s,s)) [(0,.agg C.toArray)] D C:=by
 refine .cons (cs:=C) (off:=0*s) (n:=s) rfl rfl hC (by rw[BA];omega) ?_;rw[BA,zhn q_o];exact .nil
theorem zsW{s:Nat}{C C' D:List Value}(hC:C.length=s)(j:C'.length=s)(q:D.length=2*s):FillTo (λi=>some (i*s,s)) [(0,.agg C.toArray),(1,.agg C'.toArray)] D (C++C'):=by
 refine .cons (cs:=C) (off:=0*s) (n:=s) rfl rfl hC q_o ?_;refine .cons (cs:=C') (off:=1*s) (n:=s) rfl rfl j (by unfold zaz;simp;omega) ?_;have:zaz (zaz D (0*s) C) (1*s) C'=C++C':=by
  unfold zaz;rw[BA,Bm,Bb,AY,Df hC,AF,Bp (by simp;omega),AH]
 rw[this];exact .nil
def zbU:List Int->Nat->List MapEntry
 | [],_=>[]
 |z::r,i=>⟨.int .i64 z,.bool true,i⟩::zbU r (i+1)
theorem zlT(z:Int):∀(l:List Int) (i:Nat),zbU (l++[z]) i=zbU l i++[⟨.int .i64 z,.bool true,i+l.length⟩]
 | [],i=>rfl
 |y::l,i=>by
  rw[Aa,zbU,zlT z l (i+1),zbU,AO,show i+(l.length+1)=i+1+l.length by omega];rfl
theorem zfD(z:Int):∀(l:List Int) (i j:Nat),(z∉l->findNow (.int .i64) (.int .i64 z) (zbU l i) j=some none)/\(z∈l->∃m,findNow (.int .i64) (.int .i64 z) (zbU l i) j=some (some (j+m,.bool true))/\(zbU l i)[m]?=some ⟨.int .i64 z,.bool true,i+m⟩)
 | [],i,j=>⟨λ_=>rfl,λh=>by cases h⟩
 |y::l,i,j=>by
  have A:=zfD z l (i+1) (j+1);have r:sameNow (.int .i64) (.int .i64 z) (.int .i64 y)=some (decide (z=y)):=by simp[sameNow];rfl
  by_cases h:z=y
  ·subst h;refine⟨λw=>absurd A4 w,λ_=>⟨0,?_,rfl⟩⟩;rw[zbU,findNow,r,decide_eq_true rfl];rfl
  ·rw[decide_eq_false h] at r;refine⟨λw=>?_,λF=>?_⟩
   ·rw[zbU,findNow,r];exact A.1 (λq=>w (A0 _ q))
   ·rcases AQ.1 F with q|q
    ·exact absurd q h
    ·obtain⟨m,B,E⟩:=A.2 q;refine⟨m+1,?_,?_⟩
     ·rw[zbU,findNow,r,show j+(m+1)=j+1+m by omega];exact B
     ·rw[zbU,BS,E,show i+(m+1)=i+1+m by omega]
theorem zq7{z:Operand}{b:Nat}{l:List Int}{u:Int}{L':List Res}(T:P.underlying t=some (.map k e))(R:P.underlying k=some (.int .i64))(S:o.op= .mapUpdate t m x z:=by exact rfl)
  (hm:ev g m=some (.map (some b)):=by exact rfl)(hx:ev g x=some (.int .i64 u):=by exact rfl)(hz:ev g z=some (.bool true):=by exact rfl)
  (hL:Upd L (zdG b (zbU l 0) l.length) (zdG b (zbU (if u∈l then l else l++[u]) 0) (if u∈l then l else l++[u]).length) L':=by repeat (first|exact FI|apply FH)):OpT P ro N w0 M ds o g L (Det undef L'):=by
 by_cases hu:u∈l
 ·rw[if_pos hu] at hL;refine F5 (by rw[S];rfl) λa w X F=>?_;have O:w.heap[b]?=some (.map (zbU l 0).toArray l.length):=F.hold.has (r:=zdG b (zbU l 0) l.length) (by obtain⟨A,B,e,_⟩:=hL;subst e;simp[Has]);have Q:L'=L:=by obtain⟨A,B,U,V⟩:=hL;rw[U,V]
  subst Q;obtain⟨i,J,K⟩:=(zfD u l 0 0).2 hu;rw[AU] at J K;have W:(getObj b).run P w= .ok (.map (zbU l 0).toArray l.length) w:=by simp[getObj,Sem.run,O]
  have H:((zbU l 0).toArray.modify i λe=> { e with key:=.int .i64 u,val:=.bool true })=(zbU l 0).toArray:=by
   apply Array.ext_getElem?;intro j;rw[DU];split
   ·rename_i h;subst h;rw[Bv,K];rfl
   ·rfl
  have E:((zbU l 0).modify i λe=> { e with key:=.int .i64 u,val:=.bool true })=zbU l 0:=by
   have:=congrArg Array.toList H;simpa using this
  have I:w.heap.setIfInBounds b (.map (zbU l 0).toArray l.length)=w.heap:=by
   apply Array.ext_getElem?;intro j;by_cases h:b=j
   ·subst h;rw[O];exact(heap_set O).1
   ·rw[Bk h]
  refine⟨_,_,w,L',?_,.inr ⟨rfl,rfl⟩,⟨rfl,rfl⟩,F.keep,F.hold⟩;have G:((zbU l 0).toArray[i]?.map (·.key)).getD (.int .i64 u)= .int .i64 u:=by rw[Bv,K];rfl
  have q:sameBits 10000 (.int .i64 u) (.int .i64 u)=true:=by simp[sameBits]
  simp[execOp,S,F.agr.eval hm,F.agr.eval hx,F.agr.eval hz,Instr.mapUpdate,run_underlying T,W,run_checkKey R (show IsKey (.int .i64) (.int .i64 u) from rfl),run_findKey R J,G,keyThatStays,q,run_setObj_map _ O,E,I,K]
 ·rw[if_neg hu] at hL;have J:=(zfD u l 0 0).1 hu;have e:zbU (l++[u]) 0=zbU l 0++[MapEntry.mk (.int .i64 u) (.bool true) l.length]:=by rw[zlT,AU]
  rw[e,A3] at hL;exact zrX T R (show IsKey (.int .i64) (.int .i64 u) from rfl) J S hm hx hz hL
theorem zrm{b:Nat}{l:List Int}{u:Int}(A:P.underlying t=some (.map k e))(q:P.underlying k=some (.int .i64))(j:∀w:World,(zeroValue e).run P w= .ok (.bool false) w)(r:o.op= .lookup t m x false:=by exact rfl)
  (hm:ev g m=some (.map (some b)):=by exact rfl)(hx:ev g x=some (.int .i64 u):=by exact rfl)(hL:Has L (zdG b (zbU l 0) l.length):=by repeat (first|exact Ev|apply Ey)):OpT P ro N w0 M ds o g L (Det (.bool (decide (u∈l))) L):=by
 by_cases hu:u∈l
 ·obtain⟨i,B,_⟩:=(zfD u l 0 0).2 hu;rw[decide_eq_true hu];exact zqS A q (show IsKey (.int .i64) (.int .i64 u) from rfl) B r hm hx hL
 ·rw[decide_eq_false hu];exact zox A q (show IsKey (.int .i64) (.int .i64 u) from rfl) ((zfD u l 0 0).1 hu) j r hm hx hL
end Go.Sy
namespace Go.Proofs.YtdnlngbjpdbffaaGreatDoor
open Go Go.Sy Go.Nt Go.RowKit
attribute [local irreducible] Sy SyL SyX Sy.Fn callFunc zg zad gP gQ gL zaR zaf za7 za2 gel zaQ zbP Sh.sum zbd
theorem ztt{i x:Nat}(h0:1<=i)(j:i<=4)(h:mem i x)(e:Nat):mem i (x^e%gP i):=zmK h0 j (by
 have:=(ziE h0 j h.2.2).pow e;rwa[EL,<-BO,AN,BO] at this)
theorem zvZ{i x y:Nat}(h0:1<=i)(j:i<=4)(h:mem i x)(q:mem i y):mem i (x*y%gP i):=zmK h0 j (by
 have:=(ziE h0 j h.2.2).mul (ziE h0 j q.2.2);rwa[Al,<-Nat.mul_pow] at this)
theorem zmD(x y:Nat):decide (zcc x y<0)=decide (x<y):=by
 apply decide_eq_decide.2;unfold zcc;constructor
 ·intro h;rcases DL x y with j|j|j
  ·exact j
  ·rw[if_neg q_o,if_pos j] at h;omega
  ·rw[if_neg q_o,if_neg q_o] at h;omega
 ·intro h;rw[if_pos h];decide
theorem zt8(x y:Nat):decide (zcc x y=0)=decide (x=y):=by
 apply decide_eq_decide.2;unfold zcc;constructor
 ·intro h;rcases DL x y with j|j|j
  ·rw[if_pos j] at h;omega
  ·exact j
  ·rw[if_neg q_o,if_neg q_o] at h;omega
 ·rintro rfl;rw[if_neg (Eb _),if_pos rfl]
theorem zpH(b n c:Nat)(F:List Value)(bs:List Bool)(w:World)(hn:F.length=n)(hb:bs.length=n)(O:n<=1000)(Q:w.rangeAt b 0 F)
  (K:∀k v,bs[k]?=some v->(bs.take k).all id=true->∃(f:Nat) (cap:List Value),F[k]?=some (.func (.func f) #[] cap.toArray)/\(∀args w,(callFunc f args).run Tryz.prog w= .ok (.enter f args) w)/\∀I,Keep No w I->q_G f cap I (.bool v)):
  q_G 131 [.slice (some ⟨b,0,none⟩) n c] w (.bool (bs.all id)):=by
 refine zz Tryz.func131 Tryz.ntmps131 ?_;repeat' (first|refine s_t ?_|refine zL [0,1] ?_;refine zf ?_)
 refine zX (γ:=Nat) (λk=>[(5,.slice (some ⟨b,0,none⟩) n c),(6,.int .i64 n),(7,.int .i64 k)]) (λ_=>[]) (λk=>k<=n/\(bs.take k).all id=true) (λk=>n-k) 0 ⟨AE _,rfl⟩ ?_ ?_ ?_
 ·exact q_h
 ·exact q_h
 rintro k ⟨R,q⟩;rcases AK k n with h|h
 ·obtain⟨v,hv⟩:∃v,bs[k]?=some v:=⟨_,A2 q_o⟩;obtain⟨f,cap,J,E,hc⟩:=K k v hv q;have r:w.cell? ⟨b,0+k,none⟩=some (.func (.func f) #[] cap.toArray):=Q k _ J;have A:decide ((k:Int)<(n:Int))=true:=q_d;have B:IntKind.i64.wrap ((k:Int)+1)=((k+1:Nat):Int):=q_w;have H:bs.take (k+1)=bs.take k++[v]:=by rw[CA,hv];rfl
  cases v with
  |false=>
   have G:bs.all id=false:=by
    rw[BT];exact⟨false,BE hv,by decide⟩
   rw[G];repeat' (first|refine s_t ?_|refine ze 2 ?_;refine q_v (zm (hr:=A)) ?_|refine ze 3 ?_;refine q_v (zG (j:=k)) ?_;refine q_x (zp (hv:=r)) ?_|refine q_k 4 ?_;(refine q_v (za (f:=f) (cap:=cap) (vs:=[]) (he:=E) (hc:=zr hc)) ?_);refine zI ?_|refine q_k 5 ?_)
   exact q_r
  |true=>
   repeat' (first|refine s_t ?_|refine ze 2 ?_;refine q_v (zm (hr:=A)) ?_|refine ze 3 ?_;refine q_v (zG (j:=k)) ?_;refine q_x (zp (hv:=r)) ?_|refine q_k 4 ?_;(refine q_v (za (f:=f) (cap:=cap) (vs:=[]) (he:=E) (hc:=zr hc)) ?_);refine zI ?_|refine ze 6 ?_;refine q_x (zN (hr:=B)) ?_)
   refine zQ (k+1) ⟨h,by rw[H,BK,q];rfl⟩ ?_ ?_ ?_
   ·show n-(k+1)<n-k;omega
   ·exact q_h
   ·exact q_h
 ·obtain rfl:k=n:=q_o;rw[A9 q_o] at q;have A:decide ((k:Int)<(k:Int))=false:=q_f;rw[q];repeat' (first|refine s_0 ?_|refine ze 2 ?_;refine q_v (zm (hr:=A)) ?_|refine q_k 7 ?_)
  exact q_r
theorem zpc(j k r:Nat)(q:Option Addr)(w:World)(A:w.cell? ⟨j,0,none⟩=some (.slice q k r)):
  q_G 132 [.pointer (some ⟨j,0,none⟩)] w (.bool (decide ((k:Int)=2))):=by
 refine zz Tryz.func132 Tryz.ntmps132 ?_;repeat' (first|refine s_0 ?_|refine q_k 0 ?_|refine ze 1 ?_;refine q_x (zp (hv:=A)) ?_;refine q_x (zY (hr:=rfl)) ?_)
 exact q_r
theorem zvA(I E H K A r J q:Nat)(w:World)(O:w.cell? ⟨I,0,none⟩=some (.slice (some ⟨E,H,none⟩) 2 K))(hr:w.rangeAt E H (zad [r,J]))(F:w.rangeAt A 0 (zg q))
  (hx:r<18446744073709551616^16)(U:q<18446744073709551616^16):
  q_G 133 [.pointer (some ⟨I,0,none⟩),.pointer (some ⟨A,0,none⟩)] w (.bool (decide (r<q))):=by
 refine zz Tryz.func133 Tryz.ntmps133 ?_;have G:w.rangeAt E (H+0*16) (zg r):=λj v R=>by
  have:=hr (0*16+j) v (zdN (l:=[r,J]) (i:=0) rfl j v R);rwa[<-BH] at this
 have S:=zb r;have T:=zb q;have hc:=λV=>zdn r q V hx U;have Q:=zmD r q;repeat' (first|refine s_0 ?_|refine q_k 0 ?_|refine zal (id:=1) 4 [[],[0],[0,1],[],[0,1,2,3],[0,1,2,3,4],[0,1,2,3,4,5]] mixed ?_ ?_;kernel_rfl;refine q_D (zp (hv:=O)) ?_;refine q_D (zbk (j:=0)) ?_;refine q_D (zK (B:=zg r) (hv:=G)) ?_;refine q_D (zK (B:=zg q) (hv:=F)) ?_;refine zaG ?_;refine q_v (za (hc:=q_c hc)) ?_;refine q_v (zm (hr:=Q)) ?_;refine zo ?_|fail)
 exact q_r
theorem zvV(I E H K A J r q:Nat)(w:World)(O:w.cell? ⟨I,0,none⟩=some (.slice (some ⟨E,H,none⟩) 2 K))(hr:w.rangeAt E H (zad [J,r]))(F:w.rangeAt A 0 (zg q))
  (hx:r<18446744073709551616^16)(U:q<18446744073709551616^16):
  q_G 135 [.pointer (some ⟨I,0,none⟩),.pointer (some ⟨A,0,none⟩)] w (.bool (decide (r<q))):=by
 refine zz Tryz.func135 Tryz.ntmps135 ?_;have G:w.rangeAt E (H+1*16) (zg r):=λj v R=>by
  have:=hr (1*16+j) v (zdN (l:=[J,r]) (i:=1) rfl j v R);rwa[<-BH] at this
 have S:=zb r;have T:=zb q;have hc:=λV=>zdn r q V hx U;have Q:=zmD r q;repeat' (first|refine s_0 ?_|refine q_k 0 ?_|refine zal (id:=1) 4 [[],[0],[0,1],[],[0,1,2,3],[0,1,2,3,4],[0,1,2,3,4,5]] mixed ?_ ?_;kernel_rfl;refine q_D (zp (hv:=O)) ?_;refine q_D (zbk (j:=1)) ?_;refine q_D (zK (B:=zg r) (hv:=G)) ?_;refine q_D (zK (B:=zg q) (hv:=F)) ?_;refine zaG ?_;refine q_v (za (hc:=q_c hc)) ?_;refine q_v (zm (hr:=Q)) ?_;refine zo ?_|fail)
 exact q_r
theorem zu6(i b4 T b9 bP oP cP U b5 b6 A F y pn pc mn mc:Nat)(pa ma:Option Addr)(pl ml:List UInt8)(w:World)(h0:1<=i)(H:i<=4)(hG:GT w)(hT:Tab w No)(h4:w.cell? ⟨b4,0,none⟩=some (.int .i64 (i:Int)))(a9:w.rangeAt T 0 (zg y))
  (h9:w.cell? ⟨b9,0,none⟩=some (.slice (some ⟨bP,oP,none⟩) 2 cP))(hr:w.rangeAt bP oP (zad [A,F]))(b0:w.rangeAt U 0 (zg (gQ i)))(d8:w.cell? ⟨b5,0,none⟩=some (.slice pa pn pc))(c7:w.cell? ⟨b6,0,none⟩=some (.slice ma mn mc))
  (hp:(⟨pa,pn,pc,pl⟩:Bs).ok w)(hm:(⟨ma,mn,mc,ml⟩:Bs).ok w)(d9:pn<=1000)(c8:mn<=100000)(a6:A<gQ i)(a7:F<gQ i)(hy:zaR (gP i) (gQ i) y=true):
  q_G 136 [.pointer (some ⟨b4,0,none⟩),.pointer (some ⟨T,0,none⟩),.pointer (some ⟨b9,0,none⟩),.pointer (some ⟨U,0,none⟩),.pointer (some ⟨b5,0,none⟩),.pointer (some ⟨b6,0,none⟩)] w (.bool (decide (zbP i pl (sR i y A F) ml=A))):=by
 refine zz Tryz.func136 Tryz.ntmps136 ?_;have Z:w.rangeAt bP (oP+0*16) (zg A):=λj v hj=>by
  have:=hr (0*16+j) v (zdN (l:=[A,F]) (i:=0) rfl j v hj);rwa[<-BH] at this
 have e0:w.rangeAt bP (oP+1*16) (zg F):=λj v hj=>by
  have:=hr (1*16+j) v (zdN (l:=[A,F]) (i:=1) rfl j v hj);rwa[<-BH] at this
 have b1:0<gQ i:=AZ q_e (zbD i h0 H);have V:=zb7 i h0 H;have K:=Ah a6 V;have a8:=Ah a7 V;have e1:=Ah (zd2 hy) (zcr i h0 H);have G:=λE=>zvX 0 A (gQ i) E (BQ (AE _) K) K V;unfold zco at G;rw[if_neg q_o] at G;have c6:dm (gQ i) 0 A=(gQ i-A)%gQ i:=by unfold dm;rw[AA a6,AU]
 rw[c6] at G;have W:(gQ i-A)%gQ i<gQ i:=AG _ b1;have X:=λE (I:Keep No w E)=>zvp i y ((gQ i-A)%gQ i) E h0 H (hG.to I) e1 (Ah W V) hy W;have Q:zaR (gP i) (gQ i) (y^((gQ i-A)%gQ i)%gP i)=true:=zdm.2 (ztt h0 H (zdm.1 hy) _);have Y:=λE (I:Keep No w E)=>zh5 i F E h0 H (hG.to I) a8 a7;have S:zaR (gP i) (gQ i) (4^F%gP i)=true:=zdm.2 (zi4 h0 H _);have O:=λE (I:Keep No w E)=>zv1 i (4^F%gP i) (y^((gQ i-A)%gQ i)%gP i) E h0 H (hG.to I) (Ah (zd2 S) (zcr i h0 H)) (Ah (zd2 Q) (zcr i h0 H)) (by rw[S,Q];rfl);have c9:zaR (gP i) (gQ i) (sR i y A F)=true:=zdm.2 (zvZ h0 H (zdm.1 S) (zdm.1 Q));have hR:sR i y A F=(4^F%gP i)*(y^((gQ i-A)%gQ i)%gP i)%gP i:=rfl;rw[<-hR] at O;have b2:=λE (I:Keep No w E)=>zh7 i pa ma pn pc mn mc (sR i y A F) pl ml E h0 H (hG.to I) (hT.no I) (hp.keep I) (hm.keep I) d9 c8 c9;have c0:zbP i pl (sR i y A F) ml<gQ i:=ziK h0 H _ _ _;have b3:=λE=>zdn (zbP i pl (sR i y A F) ml) A E (Ah c0 V) K;have c1:=zt8 (zbP i pl (sR i y A F) ml) A;have c2:=λE=>zc1 ((gQ i-A)%gQ i) 0 E;have c3:=λE=>zc1 (y^((gQ i-A)%gQ i)%gP i) 0 E;have c4:=λE=>zc1 (4^F%gP i) 0 E;have c5:=λE=>zc1 (sR i y A F) 0 E;have l0:=zb A;have l1:=zb F;have ly:=zb y;have lq:=zb (gQ i);have lb:=zb (y^((gQ i-A)%gQ i)%gP i);have lr:=zb (sR i y A F);generalize gQ i=q,(gQ i-A)%gQ i=ne,y^((gQ i-A)%gQ i)%gP i=J,4^F%gP i=ps,sR i y A F=r,zbP i pl (sR i y A F) ml=e at*;repeat' (first|refine s_0 ?_|refine q_k 0 ?_)
 refine zcB (id:=1) mixed ?_
 (refine zcC 16 16 [[],[],[],[],[3],[3,4],[],[2,3,4,5,6],[2,3,4,5,6,7],[2,3,4,5,6,7],[2,3,4,5,6,7,8,9],[0,1,2,3,4,5,6,7,8,9,10],[0,1,2,3,4,5,6,7,8,9,10,11],[0,1,2,3,4,5,6,7,8,9,10,11],[0,1,2,3,4,5,6,7,8,9,10,11,12,13],[],[0,1,2,3,4,5,6,7,8,9,10,11,12,13,14,15]] [[],[],[],[],[],[],[],[],[],[],[],[],[],[],[],[],[]] none rfl ?_ ?_ ?_;kernel_rfl;kernel_rfl;refine q_E (zp (hv:=h4)) ?_;refine q_E (zK (B:=zg y) (hv:=a9)) ?_;refine q_E zc0 ?_;refine q_E (zp (hv:=h9)) ?_;refine q_E (zbk (j:=0)) ?_;refine q_E (zK (B:=zg A) (hv:=Z)) ?_;refine q_E (zK (B:=zg q) (hv:=b0)) ?_;refine q_E (za (hc:=q_c G)) ?_;refine q_E zan ?_;refine q_E zan ?_;refine q_E (za (hc:=q_c c2)) ?_;refine q_E (za (hc:=zr X)) ?_;refine q_E zan ?_;refine q_E zan ?_;refine q_E (za (hc:=q_c c3)) ?_;try refine dh_0nE (h:=?_))
 refine zfq (R:=λ_=>zja 133 (List.replicate 16 (.int .u64 0))) (λ_ _ _=>rfl) (λρ hρ=>FA zem λv L' h=>?_) (h:=?_)
 ·obtain⟨b,rfl,rfl⟩:=h;exact⟨[_],rfl,b,rfl,rfl⟩
 refine zeJ (h:=?_);rintro ρ ⟨⟨b7,p1,p2⟩,-⟩
 (refine zcD [[],[],[],[],[3],[3,4],[],[2,3,4,5,6],[2,3,4,5,6,7],[2,3,4,5,6,7],[2,3,4,5,6,7,8,9],[0,1,2,3,4,5,6,7,8,9,10],[0,1,2,3,4,5,6,7,8,9,10,11],[0,1,2,3,4,5,6,7,8,9,10,11],[0,1,2,3,4,5,6,7,8,9,10,11,12,13],[],[0,1,2,3,4,5,6,7,8,9,10,11,12,13,14,15]] ?_ ?_;kernel_rfl)
 refine F9 (fr':=[(7,.pointer (some ⟨b7,0,none⟩)),(23,zu J),(0,.pointer (some ⟨b4,0,none⟩)),(2,.pointer (some ⟨b9,0,none⟩)),(4,.pointer (some ⟨b5,0,none⟩)),(5,.pointer (some ⟨b6,0,none⟩))]) (L':=[.blk b7 133 (List.replicate 16 (.int .u64 0))]) ?_ ?_ ?_;rotate_left
 ·(repeat' (first|exact FL|refine Fa rfl ?_ ?_|rfl))
  exact p1
 ·show SubR _ ((ρ 15).2++_);rw[p2];exact q_h
 repeat' (first|refine s_0 ?_|(refine zx ?_;first|refine q_n (zk (n:=J)) ?_|fail)|fail)
 refine zcB (id:=2) mixed ?_
 (refine zcC 15 15 [[],[],[],[2],[2,3],[1,2,3,4],[1,2,3,4,5],[1,2,3,4,5],[1,2,3,4,5,6,7],[],[0,1,2,3,4,5,6,7,8,9],[0,1,2,3,4,5,6,7,8,9,10],[0,1,2,3,4,5,6,7,8,9,10],[0,1,2,3,4,5,6,7,8,9,10,11,12],[],[0,1,2,3,4,5,6,7,8,9,10,11,12,13,14]] [[],[],[],[],[],[],[],[],[],[],[],[],[],[],[],[]] none rfl ?_ ?_ ?_;kernel_rfl;kernel_rfl;refine q_E (zp (hv:=h4)) ?_;refine q_E (zp (hv:=h4)) ?_;refine q_E (zp (hv:=h9)) ?_;refine q_E (zbk (j:=1)) ?_;refine q_E (zK (B:=zg F) (hv:=e0)) ?_;refine q_E (za (hc:=zr Y)) ?_;refine q_E zan ?_;refine q_E zan ?_;refine q_E (za (hc:=q_c c4)) ?_;refine q_E (zd (B:=zg J)) ?_;refine q_E (za (hc:=zr O)) ?_;refine q_E zan ?_;refine q_E zan ?_;refine q_E (za (hc:=q_c c5)) ?_;try refine dh_0nE (h:=?_))
 refine zfq (R:=λ_=>zja 133 (List.replicate 16 (.int .u64 0))) (λ_ _ _=>rfl) (λρ hρ=>FA zem λv L' h=>?_) (h:=?_)
 ·obtain⟨b,rfl,rfl⟩:=h;exact⟨[_],rfl,b,rfl,rfl⟩
 refine zeJ (h:=?_);rintro ρ ⟨⟨b8,p1,p2⟩,-⟩
 (refine zcD [[],[],[],[2],[2,3],[1,2,3,4],[1,2,3,4,5],[1,2,3,4,5],[1,2,3,4,5,6,7],[],[0,1,2,3,4,5,6,7,8,9],[0,1,2,3,4,5,6,7,8,9,10],[0,1,2,3,4,5,6,7,8,9,10],[0,1,2,3,4,5,6,7,8,9,10,11,12],[],[0,1,2,3,4,5,6,7,8,9,10,11,12,13,14]] ?_ ?_;kernel_rfl)
 refine F9 (fr':=[(8,.pointer (some ⟨b8,0,none⟩)),(37,zu r),(0,.pointer (some ⟨b4,0,none⟩)),(2,.pointer (some ⟨b9,0,none⟩)),(4,.pointer (some ⟨b5,0,none⟩)),(5,.pointer (some ⟨b6,0,none⟩))]) (L':=[.blk b8 133 (List.replicate 16 (.int .u64 0))]) ?_ ?_ ?_;rotate_left
 ·(repeat' (first|exact FL|refine Fa rfl ?_ ?_|rfl))
  exact p1
 ·show SubR _ ((ρ 14).2++_);rw[p2];exact q_h
 repeat' (first|refine s_0 ?_|refine zal (id:=3) 8 [[],[],[],[],[0,1,2,3],[],[5],[5,6],[0,1,2,3,4,5,6,7],[0,1,2,3,4,5,6,7,8],[0,1,2,3,4,5,6,7,8,9]] mixed ?_ ?_;kernel_rfl;refine q_D (zp (hv:=h4)) ?_;refine q_D (zp (hv:=d8)) ?_;refine q_D (zd (B:=zg r)) ?_;refine q_D (zp (hv:=c7)) ?_;refine q_D (za (hc:=λE _ I _=>b2 E I)) ?_;refine q_D (zp (hv:=h9)) ?_;refine q_D (zbk (j:=0)) ?_;refine q_D (zK (B:=zg A) (hv:=Z)) ?_;refine zaG ?_;refine q_v (za (hc:=q_c b3)) ?_;refine q_v (zY (hr:=c1)) ?_;refine zo ?_|(refine zx ?_;first|refine q_n (zk (n:=r)) ?_|fail)|fail)
 exact q_r
end Go.Proofs.YtdnlngbjpdbffaaGreatDoor
