/- Lemmas of this proof. -/
import Derived.Lib.AppendZerosOnto
import Derived.Test.YtdnlngbjpdbffaaGreatDoorHJ16
set_option maxHeartbeats 1000000
set_option maxRecDepth 10000
set_option linter.all false
namespace Go.Sy
open Go
theorem zhZ(z0:Value)(n:Nat):(Builtin.zeroCells #[z0] n).toList=List.replicate n z0:=by
 unfold Builtin.zeroCells;apply Cl;intro i;simp[CX];by_cases h:i<n
 ·simp[h,CZ]
 ·simp[h]
variable {P:Program}
theorem zjs(w:World){t tn ty e bytes:Nat}{i:TypeInfo}{zv z0:Value}{kq kn:IntKind}(Q:P.underlying t=some (.slice e))(E:P.underlying tn=some (.int kn))(R:P.info? e=some i)(hz:i.zero=some zv)(G:i.size=1)(Y:i.bytes=bytes)(K:zv.cells= #[z0])(hone:z0.oneCell'=true)
  {v:Value}{k m:Nat}{xs:List Value}(q:w.ownsRow 0 e 1 v k xs)(b1:k+m<=maxLen)(b2:(k+m)*bytes<=140737488355328):
  ∃v' w',(Builtin.append_ #[t,tn] ty #[v,.int kq (m:Int)]).run P w= .ok v' w'/\w'.ownsRow 0 e 1 v' (k+m) (xs++List.replicate m z0)/\w.grownBy w' v.ownBlock/\∀b,v'.ownBlock=some b->v.ownBlock=some b\/w.heap.size<=b:=by
 subst Y
 have U:k+m<=9223372036854775807:=by simp only[maxLen] at b1;omega
 have A:(xs++List.replicate m z0).length=(k+m)*1:=by rw[A3,q.1,AJ];omega
 have S:m*i.bytes<=281474976710656:=by have:m*i.bytes<=(k+m)*i.bytes:=AP _ q_o;omega
 have hw:IntKind.i64.wrap (m:Int)=m:=by rw[IntKind.wrap_i64];omega
 have T:¬((m:Int)<0):=q_o;have O:¬(281474976710656<(m:Int)*(i.bytes:Int)):=by rw[<-BW];omega
 have grown:∀(old:Nat),old<k+m->∀(row:Option Nat),
   (w.drew.alloc (.cells (xs.toArray++Builtin.zeroCells zv.cells m++Builtin.zeroCells zv.cells (grownCap w (k+m) old e-(k+m))) e)).ownsRow 0 e 1
    (.slice (some ⟨w.heap.size,0,none⟩) (k+m) (grownCap w (k+m) old e)) (k+m) (xs++List.replicate m z0)/\
   w.grownBy (w.drew.alloc (.cells (xs.toArray++Builtin.zeroCells zv.cells m++Builtin.zeroCells zv.cells (grownCap w (k+m) old e-(k+m))) e)) row:=by
  intro old ho row;have a6:=grownCap_ge w (k+m) old e;have I:grownCap w (k+m) old e<=maxLen:=grownCap_le_maxLen w (k+m) old e b1;refine⟨⟨A,.inr ⟨w.heap.size,_,_,rfl,AE _,heap_alloc_new w.drew _,a6,I,?_,?_⟩⟩,⟨rfl,rfl,rfl,by simp,λj hj _=>heap_alloc_old w.drew _ hj⟩⟩
  ·simp only[Array.size_append,DM,size_zeroCells,K,q.1];simp;omega
  ·simp only[Array.toList_append,K,zhZ];rw[<-A];exact Dx
 rcases q.2 with ⟨rfl,rfl⟩|⟨g,cap,r,rfl,X,hg,a7,I,Z,J⟩
 ·have hx:xs= []:=Dc (by simpa using q.1);subst hx;by_cases hm:m=0
  ·subst hm;refine⟨.slice none 0 0,w,?_,World.ownsRow_nil w 0 e 1,⟨rfl,rfl,rfl,A8 _,λ_ _ _=>rfl⟩,λb H=> .inl H⟩;simp[Builtin.append_,run_underlying Q,run_underlying E,sizeOf,typeInfo,R,asInt,asIntOf,IntKind.wrap_i64]
  ·have hr:=Lib.run_append_grow_zeros (P:=P) w t tn ty e i zv kq kn Q E R hz none 0 0 [] (by simp[Builtin.firstCells]) m q_o q_o q_o q_o S (growslice_fits q_o b2);obtain⟨V,W⟩:=grown 0 q_o (Value.ownBlock (.slice none 0 0));exact⟨_,_,hr,V,W,λb H=> .inr (by simp[Value.ownBlock] at H;omega)⟩
 ·by_cases hroom:k+m<=cap
  ·have b0:k+m<=r.size:=by rw[Z];omega
   have F:=run_storeCells_at P g (k*1) e (List.replicate m z0) 0 r w hg (by simp;omega) (by intro u hu;rw[List.eq_of_mem_replicate hu];exact hone);simp only[Bi] at F;refine⟨.slice (some ⟨g,0,none⟩) (k+m) cap,w.setRow g (r.toList.take (k*1)++List.replicate m z0++r.toList.drop (k*1+(List.replicate m z0).length)).toArray,?_,⟨A,.inr ⟨g,cap,_,rfl,X,setRow_heap w g r _ e _ hg,hroom,I,?_,?_⟩⟩,⟨rfl,rfl,rfl,by simp,λj _ hj=>setRow_other w g j _ (λe=>hj (by simp[Value.ownBlock,e]))⟩,λb H=> .inl H⟩
   ·by_cases hm:m=0
    ·subst hm;simp only[CV,AH,Cd,Bi,BV] at F ⊢;simp[Builtin.append_,run_underlying Q,run_underlying E,sizeOf,typeInfo,R,asInt,asIntOf,IntKind.wrap_i64,a7,G,Addr.add_lit];have B:Sem.run P (storeCells { block:=g,off:=k } []) w=Result.ok () (w.setRow g r):=by simpa using F
     rw[B];rfl
    ·have a9:(Builtin.zeroCells zv.cells m).toList=List.replicate m z0:=by rw[K,zhZ]
     have a8:¬(m*i.size=0):=by rw[G];omega
     simp[Builtin.append_,run_underlying Q,run_underlying E,sizeOf,typeInfo,zeroValue,R,hz,asInt,asIntOf,hw,T,O,hroom,a8,Addr.add_lit,a9,G,hm];have B:Sem.run P (storeCells { block:=g,off:=k } (List.replicate m z0)) w=Result.ok () (w.setRow g (List.take k r.toList++(List.replicate m z0++List.drop (k+m) r.toList)).toArray):=by simpa using F
     rw[B];rfl
   ·simp only[DM,A3,Ad,Az,AJ,Array.length_toList];omega
   ·rw[J,<-A];exact Dx
  ·have holds:∀j u,xs[j]?=some u->w.cell? ((⟨g,0,none⟩:Addr).add j)=some u:=q.cells (g:=g) rfl;have hf:=run_firstCells_some (P:=P) w.drew i.size k ⟨g,0,none⟩ k cap xs (by rw[G];exact q.1) holds;have hr:=Lib.run_append_grow_zeros (P:=P) w t tn ty e i zv kq kn Q E R hz (some ⟨g,0,none⟩) k cap xs hf m q_o q_o q_o q_o S (growslice_fits q_o b2);obtain⟨V,W⟩:=grown cap q_o (Value.ownBlock (.slice (some ⟨g,0,none⟩) k cap));exact⟨_,_,hr,V,W,λb H=> .inr (by simp[Value.ownBlock] at H;omega)⟩
variable {ro:Option Nat}{N:Nat}{w0:World}{M:Nat->Prop}{ds:List Deferred}{g:Nat->Option Value}{L:List Res}{o:Oper}{t tn:TypeId}{y ye:Ty}
theorem zkq{k m e:Nat}{v z0:Value}{kq kn:IntKind}{xs:List Value}{L1:List Res}{xo so:Operand}{l:Int}(hm:l=(m:Int))(hL:Rem L (.row v e 1 k xs) L1)(ho:o.op= .call { callee:=.builtin .append,args:=#[so,xo],argTypes:=#[t,tn] } :=by exact rfl)
  (hs:ev g so=some v:=by exact rfl)(hx:ev g xo=some (.int kq l):=by exact rfl)(T:zag P t=some y:=by exact ty rfl)(hy:y.desc= .slice e:=by exact rfl)(Z:P.underlying tn=some (.int kn):=by exact tyI rfl rfl)(he:zag P e=some ye:=by exact ty rfl)(Y:ye.size=1:=by exact rfl)(hz:za8 P e=some [z0]:=by exact zc rfl)(hone:z0.oneCell'=true:=by exact rfl)(b1:k+m<=maxLen:=by first|(unfold maxLen;omega)|fail)(b2:(k+m)*ye.bytes<=140737488355328:=by first|(dsimp only;omega)|omega|fail){km:Nat}{ys:List Value}(hkm:k+m=km:=by exact rfl)(hys:xs++List.replicate m z0=ys:=by exact rfl):
  OpT P ro N w0 M ds o g L (λS L'=>L'= .row S e 1 km ys::L1/\∃a c,S= .slice a km c):=by
 subst hkm;subst hys;subst hm;refine F5 (by rw[ho];rfl) λa w X q=>?_;obtain⟨d,i',hd,b0,R,_⟩:=zU T;rw[hy] at R;have:=zbg R;subst this;obtain⟨de,ie,a9,I,_,V,U,_⟩:=zU he;unfold za8 at hz;rw[I] at hz;simp only[AW,AV] at hz;obtain⟨zv,a7,a6⟩:=hz;have K:=q.perm (hL.append (X:=X)).perm;have O:w.ownsRow 0 e 1 v k xs:=K.hold.all _ A4;have j:=λb A=>K.hold.mine (.row v e 1 k xs) A4 b A;obtain⟨S,w',Q,G,W,F⟩:=zjs (P:=P) (ty:=o.type) (kq:=kq) w hd Z I a7 (V.trans Y) U (B5.1 a6) hone O b1 b2;have J:Keep (λb=>v.ownBlock=some b) w w':=Keep.grown W;have H:Keep M w0 w':=q.keep.trans J (λb A=>j b A);refine⟨.value S,S,w',_,?_,.inl rfl,⟨rfl,?_⟩,H,?_⟩
 ·have e1: #[so,xo].map a.eval= #[v,.int kq (m:Int)]:=by simp[q.agr.eval hs,q.agr.eval hx]
  simp only[execOp,ho,resolve,invoke,builtin,e1,Sem.run_bind,Sem.run_pure,Result.andThen_ok,Q]
 ·obtain⟨_,⟨h2,h3⟩|⟨b,c,a8,hv,_⟩⟩:=G
  ·exact⟨none,0,by rw[h2,h3]⟩
  ·exact⟨_,c,hv⟩
 ·have T:=K.hold.tail;refine Holds.cons (L:=L1++X) (T.keep J (λr E b A B=>(Ai.1 K.hold.apart).1 r E b B A)) G (λr E b A B=>?_) (λb A=>?_)
  ·rcases F b A with h|h
   ·exact(Ai.1 K.hold.apart).1 r E b h B
   ·have:=F2 (T.all r E) B;omega
  ·rcases F b A with h|h
   ·exact j b h
   ·exact .inl (BM q.keep.size h)
end Go.Sy
namespace Go.Nt
open Go Go.Sy
theorem zr7{a b:Nat}(h:nd 2 a+nd 2 b<=1024):a*b<18446744073709551616^16:=by
 refine zxa h ?_;have j:=zcg 2 a q_e;have m:=zcg 2 b q_e;rw[B6];exact Nat.mul_lt_mul'' j m
theorem zwU(l m:List UInt8):bn (l++m)=bn l++bn m:=by unfold bn;rw[B2]
theorem znJ(l:List UInt8):(bn l).length=l.length:=by unfold bn;rw[A1]
theorem zim(k:Nat)(l:List UInt8):bev 256 (bn (List.replicate k 0++l))=bev 256 (bn l):=by
 induction k with
 |zero=>rfl
 |succ k ih=>
  rw[<-ih,Cx,Aa];show 0*256^_+bev 256 (bn (List.replicate k 0++l))=_;omega
theorem zls(z:Nat):bev 256 (bn (1::List.replicate z 0))=256^z:=by
 show 1*256^(bn (List.replicate z 0)).length+bev 256 (bn (List.replicate z 0))=_;have:=zim z [];rw[AH] at this;rw[this,znJ,AJ,Bm];rfl
theorem zlW(D:List UInt8)(i z:Nat)(h:i+z<=D.length):bev 256 (bn (D.take (i+z)))=bev 256 (bn (D.take i))*256^z+bev 256 (bn ((D.take (i+z)).drop i)):=by
 have e:D.take (i+z)=D.take i++(D.take (i+z)).drop i:=by
  conv=>lhs;rw[<-BV i (D.take (i+z))]
  rw[List.take_take,BX q_o]
 conv=>lhs;rw[e]
 rw[zwU,zhh,znJ];congr 3;rw[Az,Ad,BX h];omega
theorem ztM(D:List UInt8)(i z:Nat)(h:i+z<=D.length):bev 256 (bn ((D.take (i+z)).drop i))<256^z:=by
 have j:=zfA 256 (bn ((D.take (i+z)).drop i)) (zhr _);rw[znJ,Az,Ad,BX h,Bx] at j;exact j
theorem zq5(m a X R d:Nat):(a*X%m*R%m+a*d%m)%m=a*(X*R+d)%m:=by
 have j:Cg m (a*X%m*R%m+a*d%m) (a*X*R+a*d):=((zeb m _).trans ((zeb m (a*X)).mul (Ff m R))).add (zeb m _);rw[j.mod,Ca,BN]
theorem zsi{m z:Nat}(h0:0<m)(hz:z=(1024-nd 2 m)/8):nd 2 m+8*z<=1024\/z=0:=q_o
theorem zxO(z:Nat):256^z=2^(8*z):=by rw[BO]
theorem ziz{m z x y:Nat}(hz:nd 2 m+8*z<=1024)(hx:x<m)(q:y<=256^z):x*y<18446744073709551616^16:=by
 refine zxa hz ?_;have j:=zcg 2 m q_e;rw[B6,<-zxO];exact AZ (Bj (Ah hx j) (Ab q_e) |> λh=>BQ (CT x q) h) (A8 _)
theorem zwX(z n:Nat)(h:0<z):∃c,(z-n%z)%z+n=z*c:=by
 have m:=Ae n z;have q:=AG n h;rcases AM (n%z) with j|j
 ·refine⟨n/z,?_⟩;rw[j,C0,Nat.mod_self,AU];omega
 ·refine⟨n/z+1,?_⟩;rw[AA q_o,Ca];omega
end Go.Nt
namespace Go.Proofs.YtdnlngbjpdbffaaGreatDoor
open Go Go.Sy Go.Nt Go.RowKit
variable {ro:Option Nat}{N:Nat}{w0:World}{M:Nat->Prop}{ds:List Deferred}{g:Nat->Option Value}{L:List Res}{o:Oper}
theorem zc0(j:o.op= .build 133 #[]:=by exact rfl):OpT Tryz.prog ro N w0 M ds o g L (Det (zu 0) L):=by
 rw[<-zeY];exact zeE j (ty rfl) (.inl ⟨rfl,rfl⟩) (zc rfl)
attribute [local irreducible] Sy SyL SyX Sy.Fn callFunc zg zad
theorem zmd(m a b:Nat)(w:World)(hm:m<18446744073709551616^16)(ha:a<m)(hb:b<m)(hs:nd 2 a+nd 2 b<=1024):
  q_G 244 [zu m,zu a,zu b] w (zu (a*b%m)):=by
 refine zz Tryz.func244 Tryz.ntmps244 ?_;have Y:=zb m;have V:=zb a;have W:=zb b;have E:=Ah ha hm;have F:=Ah hb hm;have Q:=λq=>zca a q E;have S:=λq=>zca b q F;have a6:=zeM E;have a7:=zeM F;have O:=zr7 hs;have A:=λq=>zno a b q E F;rw[if_pos O] at A;have hr:=λq K (h:q.rangeAt K 0 (zad [a*b]))=>zeN m (a*b) K q hm q_o O h;have U:=zb (a*b);have Z:=zb (a*b%m);generalize nd 2 b=J,nd 2 a=I,a*b=p,a*b%m=r at*;have G:IntKind.i64.wrap ((I:Int)+(J:Int))=((I+J:Nat):Int):=q_w;have H:decide (((I+J:Nat):Int)<=1024)=true:=q_d;repeat' (first|refine s_0 ?_|refine ze 0 ?_;refine zi ?_;intro _;refine zi ?_;intro _;refine zi ?_;intro _;refine zi ?_;intro _|refine zal (id:=1) 3 [[],[0],[],[0,1,2],[0,1,2,3],[0,1,2,3,4]] mixed ?_ ?_;kernel_rfl;refine q_D (zd (B:=zg a)) ?_;refine q_D (za (hc:=q_c Q)) ?_;refine q_D (zd (B:=zg b)) ?_;refine zaG ?_;refine q_v (za (hc:=q_c S)) ?_;refine q_v (zN (hr:=G)) ?_;refine q_v (zaP (hr:=H)) ?_|refine ze 2 ?_;refine q_v (zd (B:=zg a)) ?_;refine q_v (zd (B:=zg b)) ?_;refine q_v (za (hc:=q_c A)) ?_;refine zf ?_;refine zi ?_;intro _;refine q_y (zk (n:=p)) ?_|refine ze 3 ?_;refine q_v (zd (B:=zg m)) ?_;refine q_v (zd (B:=zg p)) ?_|refine q_s (zbX (x:=p)) ?_;rintro _ _ ⟨bb,rfl,rfl⟩|(refine zx ?_;first|refine q_s (zn (hc:=λq X hk T=>hr q _ (zq (T.has (by exact Et Ev)) Em))) ?_;rintro _ _ ⟨R,rfl,bc,rfl,rfl⟩|refine q_v (zbk (j:=0)) ?_|refine q_v (zd (B:=zg r)) ?_|refine q_n (zk (n:=r)) ?_|fail)|fail)
 exact zaq rfl (zB (B:=zg r) rfl (ty rfl) rfl En Em (zb _).symm) El ⟨rfl,rfl⟩
theorem znF(m a b:Nat)(w:World)(hm:m<18446744073709551616^16)(ha:a<m)(hb:b<m)(hs:¬nd 2 a+nd 2 b<=1024)(hz:(1024-nd 2 m)/8=0):
  q_G 244 [zu m,zu a,zu b] w (zu (a*b%m)):=by
 refine zz Tryz.func244 Tryz.ntmps244 ?_;have a6:=zb m;have Y:=zb a;have Z:=zb b;have F:=Ah ha hm;have E:=Ah hb hm;have T:=λj=>zca a j F;have U:=λj=>zca b j E;have W:=λj=>zca m j hm;have a8:=zeM F;have a9:=zeM E;have b0:=zeM hm;have h0:0<m:=q_o;obtain⟨V,q⟩:∃V:Nat->Nat,∀k,V k=k*a%m:=⟨λk=>k*a%m,λ_=>rfl⟩;have S:∀k j,q_G 293 ([zu m]++[zu (V k)]++[]) j (zu (V (2*k))):=λk j=>by
  have:=zrg m (V k) j hm (by rw[q];exact AG _ h0);rw[show(V k+V k)%m=V (2*k) by rw[q,q,<-Nat.add_mod,<-BL,Nat.two_mul]] at this;exact this
 have R:∀k j,q_G 245 ([zu m]++[zu (V k),zu a]++[]) j (zu (V (k+1))):=λk j=>by
  have:=zki m (V k) a j hm (by rw[q];exact AG _ h0) ha;rw[show(V k+a)%m=V (k+1) by rw[q,q,Nat.mod_add_mod,BL,Bm]] at this;exact this
 have A:=λj=>zlG b a V 293 245 [zu m] [] [zu m] [] j E (en rfl) (en rfl) S R;rw[show V 0=0 by rw[q,BA,C3],show V b=a*b%m by rw[q,AN]] at A;have a7:=zb (a*b%m);have X:=zb 0;clear S R q;generalize nd 2 m=J,nd 2 b=Q,nd 2 a=O,a*b%m=r at*;have G:IntKind.i64.wrap ((O:Int)+(Q:Int))=((O+Q:Nat):Int):=q_w;have K:decide (((O+Q:Nat):Int)<=1024)=false:=q_f;have I:IntKind.i64.wrap (1024-(J:Int))=((1024-J:Nat):Int):=q_w;have H:IntKind.i64.wrap ((((1024-J:Nat)):Int).tdiv 8)=((0:Nat):Int):=by
  have:=zfJ (p:=1024-J) (k:=8) q_o;rw[hz] at this;exact this
 repeat' (first|refine s_0 ?_|refine ze 0 ?_;refine zi ?_;intro _;refine zi ?_;intro _;refine zi ?_;intro _;refine zi ?_;intro _|refine zal (id:=1) 3 [[],[0],[],[0,1,2],[0,1,2,3],[0,1,2,3,4]] mixed ?_ ?_;kernel_rfl;refine q_D (zd (B:=zg a)) ?_;refine q_D (za (hc:=q_c T)) ?_;refine q_D (zd (B:=zg b)) ?_;refine zaG ?_;refine q_v (za (hc:=q_c U)) ?_;refine q_v (zN (hr:=G)) ?_;refine q_v (zaP (hr:=K)) ?_|refine q_k 4 ?_;refine q_v (zd (B:=zg m)) ?_;refine q_v (za (hc:=q_c W)) ?_;refine q_v (zab (hr:=I)) ?_;refine q_x (zcp (hr:=H)) ?_|refine q_k 5 ?_;refine zaH ?_|refine ze 6 ?_;refine q_v (zd (B:=zg b)) ?_;refine q_v zc0 ?_;refine q_v (zd (B:=zg a)) ?_;refine q_v (zd (B:=zg m)) ?_;refine q_v zZ ?_;refine q_v (zd (B:=zg m)) ?_;refine q_v zZ ?_;refine q_v (za (hc:=q_c A)) ?_;refine q_n (zk (n:=r)) ?_)
 exact zaq rfl (zB (B:=zg r) rfl (ty rfl) rfl En Em (zb _).symm) El ⟨rfl,rfl⟩
theorem zmg(m a b:Nat)(w:World)(hm:m<18446744073709551616^16)(ha:a<m)(hb:b<m)(hs:¬nd 2 a+nd 2 b<=1024)(hz:(1024-nd 2 m)/8≠0):
  q_G 244 [zu m,zu a,zu b] w (zu (a*b%m)):=by
 refine zz Tryz.func244 Tryz.ntmps244 ?_;have j3:=zb m;have j1:=zb a;have j2:=zb b;have a7:=Ah ha hm;have O:=Ah hb hm;have h1:=λq=>zca a q a7;have h2:=λq=>zca b q O;have h3:=λq=>zca m q hm;have j6:=zeM a7;have j7:=zeM O;have j9:=zeM hm;have h0:0<m:=q_o;obtain⟨z,c3⟩:∃z,z=(1024-nd 2 m)/8:=⟨_,rfl⟩;rw[<-c3] at hz;have c1:0<z:=q_o;have c2:nd 2 m+8*z<=1024:=(zsi h0 c3).resolve_right hz;have e7:z<=128:=q_o;have a6:256^z<18446744073709551616^16:=by
  have:=ziz (x:=1) (y:=256^z) c2 (by
   rcases AK 1 m with h|h
   ·exact h
   ·exfalso;have e1:a=0:=q_o;have e2:b=0:=q_o;subst e1;subst e2;rw[ziQ] at hs;omega) (A8 _)
  rwa[Bm] at this
 have H:=λq aR cR (h:SlA q aR ((1::List.replicate z 0:List UInt8).map v8)) (hc:z+1<=cR)=>zb9 aR (z+1) cR (1::List.replicate z 0) q q_p hc h q_o;rw[zls,if_pos a6] at H;have U:IntKind.i64.wrap ((((1024-nd 2 m:Nat)):Int).tdiv 8)=((z:Nat):Int):=by
  rw[c3];exact zfJ (p:=1024-nd 2 m) (k:=8) q_o
 generalize f9:nd 2 b=nb,f8:nd 2 a=na at*;have A:IntKind.i64.wrap ((na:Int)+(nb:Int))=((na+nb:Nat):Int):=q_w;have d8:decide (((na+nb:Nat):Int)<=1024)=false:=q_f;have V:IntKind.i64.wrap (1024-((nd 2 m:Nat):Int))=((1024-nd 2 m:Nat):Int):=q_w;have e6:decide ((z:Int)=0)=false:=q_f;have hys: [Value.int IntKind.u8 1]++List.replicate z (Value.int IntKind.u8 0)=(1::List.replicate z 0:List UInt8).map v8:=by
  rw[As,BU];rfl
 have j0:=zb (256^z);repeat' (first|refine s_0 ?_|refine ze 0 ?_;refine zi ?_;intro _;refine zi ?_;intro _;refine zi ?_;intro _;refine zi ?_;intro _|refine zal (id:=1) 3 [[],[0],[],[0,1,2],[0,1,2,3],[0,1,2,3,4]] mixed ?_ ?_;kernel_rfl;refine q_D (zd (B:=zg a)) ?_;refine q_D (za (hc:=q_c h1)) ?_;refine q_D (zd (B:=zg b)) ?_;refine zaG ?_;refine q_v (za (hc:=q_c h2)) ?_;refine q_v (zN (hr:=A)) ?_;refine q_v (zaP (hr:=d8)) ?_|refine q_k 4 ?_;refine q_v (zd (B:=zg m)) ?_;refine q_v (za (hc:=q_c h3)) ?_;refine q_v (zab (hr:=V)) ?_;refine q_x (zcp (hr:=U)) ?_|refine q_k 5 ?_;refine q_v (zY (hr:=e6)) ?_|refine ze 7 ?_;(refine q_s zD ?_;rintro _ _ ⟨_,rfl,rfl⟩);refine zf ?_;(refine q_s (Fh (zgv (n:=1) (s:=1) (by repeat (first|exact Ej|apply Ek)) rfl (by unfold maxLen;omega)) (zkq (k:=1) (m:=z) (km:=z+1) (hm:=rfl) (hL:=Ej) (hkm:=(by omega:1+z=z+1)) (hys:=hys))) ?_;rintro _ _ ⟨rfl,aR,cR,rfl⟩);refine q_v (za (hc:=λq _ _ I=>H q _ _ (zc9 I q_h) (FD (n:=z+1) I q_h))) ?_;refine zf ?_;refine zi ?_;intro _;refine q_y (zk (n:=256^z)) ?_)
 rename_i b3 b4 b5 b6 wx E;clear H h1 h2 h3 A d8 V U hys;refine F8 (fr':=[(3,.pointer (some ⟨b3,0,none⟩)),(4,.pointer (some ⟨b4,0,none⟩)),(5,.pointer (some ⟨b5,0,none⟩)),(6,.pointer (some ⟨b6,0,none⟩)),(9,.int .i64 z),(10,.pointer (some ⟨E,0,none⟩))])
  (L':=[.blk b3 227 (zg m),.blk b4 133 (zg a),.blk b5 133 (zg b),.blk b6 133 (List.replicate 16 (Value.int IntKind.u64 0)),.blk E 133 (zg (256^z))]) ?_ q_h q_h
 have c7:=λq=>zmO b q O;have j8:=zcI 256 b 128 q_e (by rw[<-zht 256 8 128 q_e q_e];exact O);have a8:=zi1 b;have S:=zpF b;generalize nd 256 b=F,byt b=D0 at*;obtain⟨c,hc⟩:=zwX z F c1;obtain⟨Q,b7⟩:∃Q,Q=(z-F%z)%z:=⟨_,rfl⟩;rw[<-b7] at hc;have e9:Q<z:=by rw[b7];exact AG _ c1
 have q1:(F:Int).tmod (z:Int)=((F%z:Nat):Int):=zjY F z;have j5:=AG F c1;have q2:IntKind.i64.wrap ((z:Int)-((F%z:Nat):Int))=((z-F%z:Nat):Int):=q_w;have q3:((z-F%z:Nat):Int).tmod (z:Int)=((Q:Nat):Int):=by rw[b7];exact zjY _ z
 obtain⟨D,hD⟩:∃D,D=List.replicate Q 0++D0:=⟨_,rfl⟩;have h4:D.length=z*c:=by rw[hD,A3,AJ,a8,hc]
 have c4:bev 256 (bn D)=b:=by rw[hD,zim,S]
 have hys:List.replicate Q (Value.int IntKind.u8 0)++D0.map v8=D.map v8:=by
  rw[hD,B2,BU];rfl
 have k5:z*c<300:=q_o;have d9:Q+F=z*c:=hc;generalize F%z=n1 at*;generalize z-n1=n2 at*;repeat' (first|refine s_t ?_|refine ze 8 ?_;refine q_v (zd (B:=zg b)) ?_;(refine q_s (zn (hc:=λq X hk I=>c7 q)) ?_;rintro _ _ ⟨R,rfl,bB,rfl,rfl⟩);refine zf ?_|refine q_k 9 ?_;refine q_v (zcU (hr:=q1)) ?_;refine q_x (zab (hr:=q2)) ?_;refine q_v (zcU (hr:=q3)) ?_|refine ze 10 ?_;refine zi ?_;intro _|refine q_k 11 ?_|refine q_s (zhm (n:=Q)) ?_;rintro _ _ ⟨bz,rfl,rfl⟩|(refine zx ?_;first|refine q_s (zbp (k:=Q) (m:=F) (hxn:=by rw[AJ,Al]) (hr:=Rd.of (FP (C:=D0.map v8) (T:=5) En Em)) (hn:=by rw[A1,a8,Al]) (hkm:=d9) (hys:=hys)) ?_;rintro _ _ ⟨rfl,Y,Z,rfl⟩|refine zo ?_|refine zw ?_|fail)|fail)
 rename_i K;have h6:=zb 0;rw[natC0];refine zX (γ:=Nat) (λj=>[(3,.pointer (some ⟨b3,0,none⟩)),(4,.pointer (some ⟨b4,0,none⟩)),(6,.pointer (some ⟨b6,0,none⟩)),(9,.int .i64 z),(10,.pointer (some ⟨E,0,none⟩)),(12,.slice Y (z*c) Z),(13,.pointer (some ⟨K,0,none⟩)),(14,.int .i64 ((z*j:Nat):Int))])
  (λj=>[.blk K 133 (zg (a*bev 256 (bn (D.take (z*j)))%m)),.row (.slice Y (z*c) Z) 5 1 (z*c) (D.map v8),.blk b3 227 (zg m),.blk b4 133 (zg a),.blk E 133 (zg (256^z)),.blk b6 133 (zg 0)])
  (λj=>j<=c) (λj=>c-j) 0 (AE _) ?_ ?_ ?_
 ·exact q_h
 ·show SubR [.blk K 133 (zg (a*bev 256 (bn (D.take 0))%m)),.row (.slice Y (z*c) Z) 5 1 (z*c) (D.map v8),.blk b3 227 (zg m),.blk b4 133 (zg a),.blk E 133 (zg (256^z)),.blk b6 133 (zg 0)] _;rw[Bb,show bev 256 (bn [])=0 from rfl,Ed,C3];exact q_h
 clear c7 hys a8 S;intro j hj;refine zo4 (λq I=>(FD (a:=Y) (n:=z*c) (c:=Z) I En:z*c<=Z)) λh5=>?_;rcases AK j c with h|h
 ·have k6:z*j+z<=z*c:=by rw[<-Ee];exact CT z h
  have b8:decide (((z*j:Nat):Int)<((z*c:Nat):Int))=true:=q_d;have A:IntKind.i64.wrap (((z*j:Nat):Int)+(z:Int))=((z*j+z:Nat):Int):=q_w;have c8:=zlW D (z*j) z q_o;have b0:=ztM D (z*j) z q_o;have b9:=zq5 m a (bev 256 (bn (D.take (z*j)))) (256^z) (bev 256 (bn ((D.take (z*j+z)).drop (z*j))));rw[<-c8] at b9;have a9:bev 256 (bn ((D.take (z*j+z)).drop (z*j)))<18446744073709551616^16:=Ah b0 a6;have c9:=λq (hs:SlA q Y (D.map v8)) (e8:z*c<=Z)=>zb9 (zbB Y (z*j) (z*j+z) 1) z z ((D.take (z*j+z)).drop (z*j)) q (by rw[Az,Ad];omega) (A8 _) (by
   rw[Cf,CS];exact(hs.take _).mov (by rw[Ad];omega)) q_o
  rw[if_pos a9] at c9;have c0:=AG (a*bev 256 (bn (D.take (z*j)))) h0;have b1:=ziz c2 c0 (A8 _);have b2:=ziz c2 ha (Bh b0);have c5:=λq=>zno (a*bev 256 (bn (D.take (z*j)))%m) (256^z) q (Ah c0 hm) a6;have c6:=λq=>zno a (bev 256 (bn ((D.take (z*j+z)).drop (z*j)))) q a7 a9;rw[if_pos b1] at c5;rw[if_pos b2] at c6;have G:a*bev 256 (bn (D.take (z*(j+1))))%m=a*bev 256 (bn (D.take (z*j+z)))%m:=by rw[Ee]
  have e4:((z*(j+1):Nat):Int)=((z*j+z:Nat):Int):=by rw[Ee]
  rw[<-b9] at G;generalize a*bev 256 (bn (D.take (z*j)))%m=J,bev 256 (bn ((D.take (z*j+z)).drop (z*j)))=d at*;have e3:=λq b' (hs:q.rangeAt b' 0 (zad [J*256^z,a*d]))=>zis m (J*256^z) (a*d) b' q hm h0 b1 b2 hs;have W:=λq=>zki m (J*256^z%m) (a*d%m) q hm (AG _ h0) (AG _ h0);rw[<-G] at W;have h7:=zb J;have h8:=zb d;have h9:=zb (J*256^z);have i5:=zb (a*d);have i7:=zb (J*256^z%m);have i8:=zb (a*d%m);have i9:=zb (a*bev 256 (bn (D.take (z*(j+1))))%m);generalize e0:a*bev 256 (bn (D.take (z*(j+1))))%m=R1 at*;clear G b1 b2 a9 b9 c8 b0 c0 c4;generalize 256^z=e5,a*d=p2,J*256^z=p1,a*d%m=r2,J*256^z%m=r1 at*;repeat' (first|refine s_t ?_|refine q_k 12 ?_;refine q_v (zm (hr:=b8)) ?_|refine q_k 14 ?_;refine q_x (zN (hr:=A)) ?_;refine q_v (zN (hr:=A)) ?_;refine q_v (zdd (l:=z*j) (h:=z*j+z) (m:=z*j+z) (n':=z) (c':=z) (hn':=by omega) (hc':=by omega)) ?_;refine q_v (za (hc:=λq _ _ I=>c9 q (zc9 I q_h) (FD (n:=z*c) I q_h))) ?_;refine zf ?_;refine zi ?_;intro _;refine q_y (zk (n:=d)) ?_)
  repeat' (first|refine s_0 ?_|refine ze 15 ?_;refine q_v (zd (B:=zg J)) ?_;refine q_v (zd (B:=zg e5)) ?_;refine q_v (za (hc:=q_c c5)) ?_;refine zf ?_;refine zi ?_;intro _;refine q_y (zk (n:=p1)) ?_|refine ze 16 ?_;refine q_v (zd (B:=zg a)) ?_;refine q_v (zd (B:=zg d)) ?_;refine q_v (za (hc:=q_c c6)) ?_;refine zf ?_;refine zi ?_;intro _;refine q_y (zk (n:=p2)) ?_|refine ze 17 ?_;refine q_v (zd (B:=zg m)) ?_;refine q_v (zd (B:=zg p1)) ?_;refine q_v (zd (B:=zg p2)) ?_|refine zal (id:=18) 7 [[],[],[1],[1,2],[],[4],[4,5],[0,1,2,3,4,5,6],[0,1,2,3,4,5,6,7]] mixed ?_ ?_;kernel_rfl;refine q_D (zd (B:=zg m)) ?_;refine zO ?_;refine q_D (zbk (j:=0)) ?_;refine q_D (zd (B:=zg r1) (hv:=(zqG r1 r2).1)) ?_;refine zO ?_;refine q_D (zbk (j:=1)) ?_;refine q_D (zd (B:=zg r2) (hv:=(zqG r1 r2).2)) ?_;refine zaG ?_;refine q_v (za (hc:=q_c W)) ?_;refine q_n (zk (n:=R1)) ?_|refine q_k 13 ?_;refine q_x (zN (hr:=A)) ?_|refine q_s (zeO (x:=p1) (x':=p2)) ?_;rintro _ _ ⟨bb,rfl,rfl⟩|(refine zx ?_;first|refine q_s (zn (hc:=λq X hk I=>e3 q _ (zq (I.has (by exact Et Ev)) Em))) ?_;rintro _ _ ⟨R,rfl,bc,rfl,rfl⟩|refine zo ?_|fail)|fail)
  refine zQ (j+1) ?_ ?_ ?_ ?_
  ·show j+1<=c;omega
  ·show c-(j+1)<c-j;omega
  ·rw[e4];exact q_h
  ·show SubR [.blk K 133 (zg (a*bev 256 (bn (D.take (z*(j+1))))%m)),.row (.slice Y (z*c) Z) 5 1 (z*c) (D.map v8),.blk b3 227 (zg m),.blk b4 133 (zg a),.blk E 133 (zg e5),.blk b6 133 (zg 0)] _;rw[e0];exact q_h
 ·obtain rfl:j=c:=q_o;have b8:decide (((z*j:Nat):Int)<((z*j:Nat):Int))=false:=q_f;rw[A9 q_o,c4];have j4:=zb (a*b%m);generalize a*b%m=r at*;repeat' (first|refine s_0 ?_|refine q_k 12 ?_;refine q_v (zm (hr:=b8)) ?_|refine ze 19 ?_;refine q_v (zd (B:=zg r)) ?_;refine q_n (zk (n:=r)) ?_)
  exact zaq rfl (zB (B:=zg r) rfl (ty rfl) rfl En Em (zb _).symm) El ⟨rfl,rfl⟩
theorem zhI(m a b:Nat)(w:World)(hm:m<18446744073709551616^16)(ha:a<m)(hb:b<m):
  q_G 244 [zu m,zu a,zu b] w (zu (a*b%m)):=by
 by_cases h1:nd 2 a+nd 2 b<=1024
 ·exact zmd m a b w hm ha hb h1
 ·by_cases h2:(1024-nd 2 m)/8=0
  ·exact znF m a b w hm ha hb h1 h2
  ·exact zmg m a b w hm ha hb h1 h2
theorem zse(m a:Nat)(w:World)(hm:m<18446744073709551616^16)(ha:a<m):
  q_G 300 [zu m,zu a] w (zu (a*a%m)):=by
 refine zz Tryz.func300 Tryz.ntmps300 ?_;have q:=zb m;have j:=zb a;have A:=λE=>zhI m a a E hm ha ha;have r:=zb (a*a%m);generalize a*a%m=s at*;repeat' (first|refine s_0 ?_|refine ze 0 ?_;refine zi ?_;intro _;refine zi ?_;intro _;refine zi ?_;intro _|refine ze 1 ?_;refine q_v (zd (B:=zg m)) ?_;refine q_v (zd (B:=zg a)) ?_;refine q_v (zd (B:=zg a)) ?_;refine q_v (za (hc:=q_c A)) ?_;refine q_n (zk (n:=s)) ?_)
 exact zaq rfl (zB (B:=zg s) rfl (ty rfl) rfl En Em (zb _).symm) El ⟨rfl,rfl⟩
end Go.Proofs.YtdnlngbjpdbffaaGreatDoor
