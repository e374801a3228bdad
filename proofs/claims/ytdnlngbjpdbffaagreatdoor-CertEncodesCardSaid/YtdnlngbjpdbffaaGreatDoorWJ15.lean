/- Lemmas of this proof. -/
import Derived.Test.YtdnlngbjpdbffaaGreatDoorWJ14
set_option maxHeartbeats 1000000
set_option maxRecDepth 10000
set_option linter.all false
namespace Go.Sy
open Go
variable {P:Program}{ro:Option Nat}{N:Nat}{w0:World}{M:Nat->Prop}{ds:List Deferred}{o:Oper}{g:Nat->Option Value}{L:List Res}{t:TypeId}{y:Ty}
theorem zmG(z0:Value)(s n:Nat):madeCells (List.replicate s z0).toArray n=(List.replicate n z0).toArray\/s=0:=by
 rcases AD s with h|h
 ·exact .inr h
 ·left
  unfold madeCells;apply Array.ext
  ·simp
  ·intro k m q;have j:k%s<s:=AC _ h;simp[j]
theorem zhE{len e:Nat}{parts:Array (Nat×Operand)}{vs C:List Value}{z0:Value}{ye:Ty}(he:zah P e=some ye)(hz:za9 P e=some (List.replicate ye.size z0))(V:FillTo (λi=>some (i*ye.size,ye.size)) (List.zip (parts.toList.map (·.1)) vs) (List.replicate (len*ye.size) z0) C)
  (hs:len*ye.size<=16777216)(q:0<len*ye.size)(J:o.op= .buildSlice t len parts:=by exact rfl)(hv:evs g (parts.toList.map (·.2))=some vs:=by exact rfl)(ht:zah P t=some y:=by exact ty rfl)(hy:y.desc= .slice e:=by exact rfl):
  OpT P ro N w0 M ds o g L (λv K=>∃b,v= .slice (some ⟨b,0,none⟩) len len/\K= .blk b e C::L):=
 FC (by rw[J];rfl) λa w X B=>by
  obtain⟨d,i',T,W,A,_⟩:=zV ht;rw[hy] at A;have:=zbm A;subst this;obtain⟨de,I,U,m,_,j,_⟩:=zV he;obtain⟨Q,R⟩:=zbQ B e C;unfold za9 at hz;rw[m] at hz;simp only[Ac,Ah] at hz;obtain⟨E,H,F⟩:=hz;have G:E.cells=(List.replicate ye.size z0).toArray:=BA.1 (by rw[F]);have Z:((parts.map λ(i,x)=>(i,a.eval x)).toList)=List.zip (parts.toList.map (·.1)) vs:=by
   have:=B.agr.evals hv;rw[<-this,Bg,D8];generalize parts.toList=l
   induction l with
   |nil=>rfl
   |cons p l ih=>simp only[Aw,DF,ih];rfl
  have Y:madeCells E.cells (len*I.size)=(List.replicate (len*ye.size) z0).toArray:=by
   rw[G,j];rcases zmG z0 ye.size (len*ye.size) with h|h
   ·exact h
   ·rw[h,Cy] at q;omega
  have r:=run_buildSlice (P:=P) w t e len (parts.map λ(i,x)=>(i,a.eval x)) C.toArray I E T m H (by rw[j];omega) (by rw[j];omega) (by
   rw[Z];have S:=zjG V;have O:(Array.range (len*I.size)).map (E.cells[· % E.cells.size]!)=(List.replicate (len*ye.size) z0).toArray:=Y;rw[O,j];exact S)
  refine⟨_,_,w.alloc (.cells C.toArray e),_,?_,.inl rfl,⟨w.heap.size,rfl,rfl⟩,Q,R⟩;simp[execOp,J,r]
theorem zvq{e n:Nat}{lo co:Operand}{k1 k2:IntKind}{z0:Value}{l c:Int}{ye:Ty}(hz:za9 P e=some (List.replicate ye.size z0))(he:zah P e=some ye)(hb:ye.bytes*n<=281474976710656)(hm:n<=maxLen)(Z:0<ye.size)(C:l=(n:Int):=by exact rfl)(r:c=(n:Int):=by exact rfl)
  (J:o.op= .makeSlice t lo co:=by exact rfl)(W:ev g lo=some (.int k1 l):=by exact rfl)(hc:ev g co=some (.int k2 c):=by exact rfl)(ht:zah P t=some y:=by exact ty rfl)(hy:y.desc= .slice e:=by exact rfl):
  OpT P ro N w0 M ds o g L (λv O=>∃b,v= .slice (some ⟨b,0,none⟩) n n/\O= .blk b e (List.replicate (n*ye.size) z0)::L):=
 FC (by rw[J];rfl) λa w X j=>by
  obtain⟨d,i',T,V,q,_⟩:=zV ht;rw[hy] at q;have:=zbm q;subst this;obtain⟨de,K,U,m,_,B,A,_⟩:=zV he;unfold za9 at hz;rw[m] at hz;simp only[Ac,Ah] at hz;obtain⟨I,H,F⟩:=hz;subst C;subst r;obtain⟨R,S⟩:=zbQ j e (List.replicate (n*ye.size) z0);refine⟨_,_,w.alloc (.cells (List.replicate (n*ye.size) z0).toArray e),_,?_,.inl rfl,⟨w.heap.size,rfl,rfl⟩,R,S⟩;have Y:n<=9223372036854775807:=by unfold maxLen at hm;omega
  have G:I.cells=(List.replicate ye.size z0).toArray:=BA.1 (by rw[F]);have E:=run_make (P:=P) w t e K I T m H k1 k2 n n q_o q_o (by rw[A,<-Bd];omega) q_o;simp only[Bj] at E;have Q:madeCells I.cells (n*K.size)=(List.replicate (n*ye.size) z0).toArray:=by
   rw[B,G];rcases zmG z0 ye.size (n*ye.size) with h|h
   ·exact h
   ·omega
  rw[Q] at E;simp[execOp,J,j.agr.eval W,j.agr.eval hc,E]
end Go.Sy
namespace Go.Nt
open Go Go.Sy
def zae(l:List Nat):List Value:=l.flatMap zg
theorem zfD(l:List Nat):(zae l).length=l.length*16:=by
 induction l with
 |nil=>rfl
 |cons x l ih=>
  show(zg x++zae l).length=_;rw[A2,zd,ih,AQ];omega
theorem zkg(l m:List Nat):zae (l++m)=zae l++zae m:=CM
theorem zhb(x:Nat)(l:List Nat):zae (x::l)=zg x++zae l:=rfl
theorem zpY{l:List Nat}{i x:Nat}(h:l[i]?=some x):zae l=zae (l.take i)++zg x++zae (l.drop (i+1))/\(zae (l.take i)).length=i*16:=by
 obtain⟨m,j⟩:=AU.1 h;have e:l=l.take i++x::l.drop (i+1):=by
  rw[<-j,List.getElem_cons_drop,Bb]
 refine⟨?_,by rw[zfD,AR];omega⟩
 conv=>lhs;rw[e]
 rw[zkg,zhb,AH]
theorem zd3{l:List Nat}{i x:Nat}(h:l[i]?=some x):Seg (zae l) (i*16) (zg x):=by
 obtain⟨e,j⟩:=zpY h;rw[e,<-j];exact Seg.mid
theorem zhT{l:List Nat}{i:Nat}(x:Nat)(h:i<l.length):zaI (zae l) (i*16) (zg x)=zae (l.set i x):=by
 obtain⟨e,m⟩:=zpY (A1 h);have j:l.set i x=l.take i++x::l.drop (i+1):=by
  rw[List.set_eq_take_append_cons_drop,if_pos h]
 rw[j,zkg,zhb];unfold zaI;rw[zd,e,<-m];have t1:(zae (l.take i)++zg l[i]++zae (l.drop (i+1))).take (zae (l.take i)).length=zae (l.take i):=by rw[AH,Cx]
 have t2:(zae (l.take i)++zg l[i]++zae (l.drop (i+1))).drop ((zae (l.take i)).length+16)=zae (l.drop (i+1)):=by
  rw[show(zae (l.take i)).length+16=(zae (l.take i)++zg l[i]).length by rw[A2,zd],DO]
 rw[t1,t2,AH]
theorem zh2(n:Nat):List.replicate (n*16) (Value.int IntKind.u64 0)=zae (List.replicate n 0):=by
 induction n with
 |zero=>rfl
 |succ n ih=>
  rw[DA,zhb,<-ih,show(n+1)*16=16+n*16 by omega,<-DT];unfold zg;rw[zgs,BT];rfl
theorem zuu(x:Nat):zae [x]=zg x:=AG _
end Go.Nt
namespace Go.Proofs.YtdnlngbjpdbffaaGreatDoor
open Go Go.Sy Go.Nt Go.RowKit
attribute [local irreducible] Sy SyL SyX Sy.Fn callFunc zg zae
variable {ro:Option Nat}{N:Nat}{w0:World}{M:Nat->Prop}{ds:List Deferred}{g:Nat->Option Value}{L:List Res}{o:Oper}{z z':Operand}
theorem zb3{x:Nat}(m:o.op= .buildSlice 150 1 #[(0,z)]:=by exact rfl)(hz:ev g z=some (zr x):=by exact rfl):
  OpT Tryz.prog ro N w0 M ds o g L (λv j=>∃b,v= .slice (some ⟨b,0,none⟩) 1 1/\j= .blk b 133 (zae [x])::L):=
 zhE (parts:=#[(0,z)]) (vs:=[zr x]) (z0:=.int .u64 0) (ty rfl) (zc rfl) (by
  refine .cons (cs:=zg x) rfl rfl (zd x) (A5 rfl) ?_;have:=zhT (l:=[0]) (i:=0) x q_e;rw[show[0].set 0 x= [x] from rfl] at this;rw[<-this,show[0]=List.replicate 1 0 from rfl,<-zh2];exact .nil) q_e q_e m (by simp[evs,hz])
theorem zff{x x':Nat}(r:o.op= .buildSlice 150 2 #[(0,z),(1,z')]:=by exact rfl)(hz:ev g z=some (zr x):=by exact rfl)(j:ev g z'=some (zr x'):=by exact rfl):
  OpT Tryz.prog ro N w0 M ds o g L (λv q=>∃b,v= .slice (some ⟨b,0,none⟩) 2 2/\q= .blk b 133 (zae [x,x'])::L):=
 zhE (parts:=#[(0,z),(1,z')]) (vs:=[zr x,zr x']) (z0:=.int .u64 0) (ty rfl) (zc rfl) (by
  have h0:=zhT (l:=[0,0]) (i:=0) x q_e;have m:=zhT (l:=[x,0]) (i:=1) x' q_p;rw[show[0,0].set 0 x= [x,0] from rfl] at h0;rw[show[x,0].set 1 x'= [x,x'] from rfl] at m;refine .cons (cs:=zg x) rfl rfl (zd x) (A5 rfl) ?_;rw[show List.replicate (2*_) (Value.int IntKind.u64 0)=zae [0,0] from zh2 2];refine .cons (cs:=zg x') rfl rfl (zd x') (by
   show 1*16+16<=(zaI (zae [0,0]) (0*16) (zg x)).length;rw[h0,zfD];simp) ?_
  show FillTo _ _ (zaI (zaI (zae [0,0]) (0*16) (zg x)) (1*16) (zg x')) _;rw[h0,m];exact .nil) q_e q_e r (by simp[evs,hz,j])
theorem zvf{n:Nat}{k1 k2:IntKind}{l c:Int}(hn:n<=1000)(m:l=(n:Int):=by exact rfl)(j:c=(n:Int):=by exact rfl)(w:o.op= .makeSlice 150 z z':=by exact rfl)(r:ev g z=some (.int k1 l):=by exact rfl)(hc:ev g z'=some (.int k2 c):=by exact rfl):
  OpT Tryz.prog ro N w0 M ds o g L (λv q=>∃b,v= .slice (some ⟨b,0,none⟩) n n/\q= .blk b 133 (zae (List.replicate n 0))::L):=by
 have h:=zvq (P:=Tryz.prog) (ro:=ro) (N:=N) (w0:=w0) (M:=M) (ds:=ds) (o:=o) (g:=g) (L:=L) (t:=150) (e:=133) (n:=n) (lo:=z) (co:=z') (z0:=.int .u64 0) (zc rfl) (ty rfl) (show 128*n<=_ by omega) (by unfold maxLen;omega) (show 0<16 by decide) m j w r hc (ty rfl) rfl;rw[<-zh2];exact h
theorem zbr{b off n c j:Nat}{k:IntKind}{i:Int}(q:o.op= .indexAddr 150 z z':=by exact rfl)(hx:ev g z=some (.slice (some ⟨b,off,none⟩) n c):=by exact rfl)(hz:ev g z'=some (.int k i):=by exact rfl)(m:i=(j:Int):=by exact rfl)(hj:j<n:=by omega):
  OpT Tryz.prog ro N w0 M ds o g L (Det (.pointer (some ⟨b,off+j*16,none⟩)) L):=
 zaG (ye:=_) q hx hz (ty rfl) rfl (ty rfl) m hj
theorem zjV(m n c:Nat)(l:List Nat)(J K:Nat)(w:World)(hm:m<18446744073709551616^16)(h0:0<m)(X:l.length=n)(hn:n<=1000)(G:∀x∈l,x<18446744073709551616^16)(hs:w.rangeAt J K (zae l)):
  Sy.Fn Tryz.prog 243 [zr m,.slice (some ⟨J,K,none⟩) n c] w No (λv R=>∃b,v= .slice (some ⟨b,0,none⟩) n n/\R= [.blk b 133 (zae (l.map (· % m)))]):=by
 refine zt Tryz.func243 Tryz.ntmps243 ?_;have Y:=zd m;repeat' (first|refine s_0 ?_|refine zf 0 ?_;refine zW ?_;intro _|refine q_k 1 ?_)
 refine q_s (zvf (n:=n) hn) ?_;rintro _ _ ⟨A,rfl,rfl⟩;repeat' (first|refine s_t ?_|refine q_k 2 ?_|(refine zy ?_;first|refine zw ?_|fail)|fail)
 rename_i O;refine zN (γ:=Nat) (λk=>[(2,.pointer (some ⟨O,0,none⟩)),(5,.slice (some ⟨A,0,none⟩) n n),(11,.slice (some ⟨J,K,none⟩) n c),(12,.int .i64 n),(13,.int .i64 k)])
  (λk=>[.blk A 133 (zae ((l.map (· % m)).take k++List.replicate (n-k) 0)),.blk O 227 (zg m)])
  (λk=>k<=n) (λk=>n-k) 0 (A9 _) ?_ ?_ ?_
 ·exact q_h
 ·show SubR [.blk A 133 (zae (List.replicate n 0)),.blk O 227 (zg m)] _;exact q_h
 intro k hk;rcases AF k n with h|h
 ·obtain⟨x,S⟩:∃x,l[k]?=some x:=⟨_,A1 q_o⟩;have T:=G x (BY S);have I:w.rangeAt J (K+k*16) (zg x):=λj v W=>by
   have:=hs (k*16+j) v (zd3 S j v W);rwa[<-BI] at this
  have V:=λw'=>zsG x m w' T hm h0;have a7:=zd x;have Z:=zd (x/m);have a6:=zd (x%m);have F:decide ((k:Int)<(n:Int))=true:=q_d;have E:=zhT (l:=(l.map (· % m)).take k++List.replicate (n-k) 0) (i:=k) (x%m) (by simp;omega);rw[zh3 (l.map (· % m)) 0 (x%m) n k (by rw[AY,S];rfl) h (by simpa using X)] at E;have H:=zfD ((l.map (· % m)).take k++List.replicate (n-k) 0);have U:((l.map (· % m)).take k++List.replicate (n-k) 0).length=n:=by simp;omega
  rw[U] at H;generalize x%m=r,x/m=q,Q:zae ((l.map (· % m)).take (k+1)++List.replicate (n-(k+1)) 0)=C',zae ((l.map (· % m)).take k++List.replicate (n-k) 0)=C at*;repeat' (first|refine s_t ?_|refine zf 3 ?_;refine q_v (zo (hr:=F)) ?_|refine q_k 4 ?_;refine q_v (zbr (j:=k)) ?_;refine q_v (zad (B:=zg x) (hv:=I)) ?_;refine zW ?_;intro _;refine q_n (zl (n:=x)) ?_|refine q_k 5 ?_;refine q_x (ze (B:=zg x)) ?_;refine q_v (ze (B:=zg m)) ?_;refine q_v (za (hc:=q_c V)) ?_;refine zb ?_;refine q_v (zbr (j:=k)) ?_;refine q_n (zdx (B:=zg r) (hv:=zfE r) (h1:=(zd r).symm)) ?_|refine zf 6 ?_;refine za4 ?_;refine zb ?_)
  refine zE (k+1) ?_ ?_ ?_ ?_
  ·show k+1<=n;omega
  ·show n-(k+1)<n-k;omega
  ·exact q_h
  ·show SubR [.blk A 133 (zae ((l.map (· % m)).take (k+1)++List.replicate (n-(k+1)) 0)),.blk O 227 (zg m)] _;rw[Q,<-E]
   (repeat' (first|exact Er|apply F2;with_reducible (focus ((repeat (first|exact Es|apply Eu));done))|apply F7;(focus ((repeat (first|exact Es|apply Eu));done))|apply F3;(focus ((repeat (first|exact Es|apply Eu));done))|rfl))
   rw[AZ]
 ·obtain rfl:k=n:=q_o;have F:decide ((k:Int)<(k:Int))=false:=q_f;rw[A8 (by rw[A0];omega),C5,CZ,AG];repeat' (first|refine s_0 ?_|refine zf 3 ?_;refine q_v (zo (hr:=F)) ?_|refine q_k 7 ?_)
  exact zap rfl (zh rfl) q_h ⟨A,rfl,rfl⟩
theorem zlL{x y:Nat}(h:y<=x):zbx x y>=0:=by
 unfold zbx;rw[if_neg q_o];split <;> omega
theorem ze7(m x b:Nat)(w:World)(hm:m<18446744073709551616^16)(h0:0<m)(hx:x<18446744073709551616^16)(j:w.rangeAt b 0 (zae [x])):
  Sy.Fn Tryz.prog 243 [zr m,.slice (some ⟨b,0,none⟩) 1 1] w No (λv R=>∃b,v= .slice (some ⟨b,0,none⟩) 1 1/\R= [.blk b 133 (zg (x%m))]):=by
 have h:=zjV m 1 1 [x] b 0 w hm h0 rfl q_e (λy q=>by rw[AE.1 q];exact hx) j;rw[show[x].map (· % m)= [x%m] from rfl,zuu] at h;exact h
theorem ziS(m x y b:Nat)(w:World)(hm:m<18446744073709551616^16)(h0:0<m)(hx:x<18446744073709551616^16)(r:y<18446744073709551616^16)(q:w.rangeAt b 0 (zae [x,y])):
  Sy.Fn Tryz.prog 243 [zr m,.slice (some ⟨b,0,none⟩) 2 2] w No (λv R=>∃b,v= .slice (some ⟨b,0,none⟩) 2 2/\R= [.blk b 133 (zae [x%m,y%m])]):=
 zjV m 2 2 [x,y] b 0 w hm h0 rfl q_e (λz j=>by
  rcases AS.1 j with rfl|j
  ·exact hx
  ·rw[AE.1 j];exact r) q
theorem zrB(x y:Nat):Seg (zae [x,y]) (0*16) (zg x)/\Seg (zae [x,y]) (1*16) (zg y):=⟨zd3 rfl,zd3 rfl⟩
theorem zyA(m:Nat)(w:World)(hm:m<18446744073709551616^16)(h0:0<m):
  q_G 299 [zr m] w (zr (1%m)):=by
 refine zt Tryz.func299 Tryz.ntmps299 ?_;have G:=zd m;have F:=zd 1;have C:=λq=>zh5 1 q q_e;have A:1<18446744073709551616^16:=by decide
 have H:=zd (1%m);have I:=λq b (h:q.rangeAt b 0 (zae [1]))=>ze7 m 1 b q hm h0 A h;generalize 1%m=r at*;repeat' (first|refine s_0 ?_|refine zf 0 ?_;refine zj ?_;intro _;refine zj ?_;intro _|refine zf 1 ?_;refine q_v (za (hc:=q_c C)) ?_;refine zb ?_;refine zj ?_;intro _;refine q_y (zl (n:=1)) ?_|refine zf 2 ?_;refine q_v (ze (B:=zg m)) ?_;refine q_v (ze (B:=zg 1)) ?_|refine q_s (zb3 (x:=1)) ?_;rintro _ _ ⟨J,rfl,rfl⟩|(refine zy ?_;first|refine q_s (zi (hc:=λq X K E=>I q _ (zp (E.has (by exact Ey F1)) Et))) ?_;rintro _ _ ⟨R,rfl,bc,rfl,rfl⟩|refine q_v (zbr (j:=0)) ?_|refine q_v (ze (B:=zg r)) ?_|refine q_n (zl (n:=r)) ?_|fail)|fail)
 exact zap rfl (zB (B:=zg r) rfl (ty rfl) rfl Ev Et (zd _).symm) Er ⟨rfl,rfl⟩
theorem zk5(m a b:Nat)(w:World)(hm:m<18446744073709551616^16)(ha:a<m)(hb:b<m):
  q_G 245 [zr m,zr a,zr b] w (zr ((a+b)%m)):=by
 refine zt Tryz.func245 Tryz.ntmps245 ?_;have O:=zd m;have J:=zd a;have K:=zd b;have q:=Ai ha hm;have r:=Ai hb hm;have G:=λj=>zdA b j r;rcases AD b with h|h
 ·subst h;rw[BU,A7 ha];repeat' (first|refine s_0 ?_|refine zf 0 ?_;refine zj ?_;intro _;refine zj ?_;intro _;refine zj ?_;intro _;refine zj ?_;intro _|refine zf 1 ?_;refine q_v (ze (B:=zg 0)) ?_;refine q_v (za (hc:=q_c G)) ?_|refine zf 2 ?_;refine q_v (ze (B:=zg a)) ?_;refine q_n (zl (n:=a)) ?_)
  exact zap rfl (zB (B:=zg a) rfl (ty rfl) rfl Ev Et (zd _).symm) Er ⟨rfl,rfl⟩
 ·simp only[decide_eq_false (show ¬b=0 by omega)] at G;have I:=λj=>zlh m b j hm r;rw[if_pos (BP hb)] at I;have E:m-b<18446744073709551616^16:=B1 (EL _ _) hm;have hc:=λj=>zdJ a (m-b) j q E;have Q:=zd (m-b);rcases AF a (m-b) with F|F
  ·rw[zhJ F] at hc;have C:=λj=>ztb a b j q r;rw[if_pos (Ai (show a+b<m by omega) hm)] at C;rw[A7 (show a+b<m by omega)];have H:=zd (a+b);generalize a+b=s,m-b=o at*;repeat' (first|refine s_0 ?_|refine zf 0 ?_;refine zj ?_;intro _;refine zj ?_;intro _;refine zj ?_;intro _;refine zj ?_;intro _|refine zf 1 ?_;refine q_v (ze (B:=zg b)) ?_;refine q_v (za (hc:=q_c G)) ?_|refine q_k 3 ?_;refine q_v (ze (B:=zg m)) ?_;refine q_v (ze (B:=zg b)) ?_;refine q_v (za (hc:=q_c I)) ?_;refine zb ?_;refine zj ?_;intro _;refine q_y (zl (n:=o)) ?_|refine zf 4 ?_;refine q_v (ze (B:=zg a)) ?_;refine q_v (ze (B:=zg o)) ?_;refine q_v (za (hc:=q_c hc)) ?_;refine q_v zP ?_|refine zf 7 ?_;refine q_v (ze (B:=zg a)) ?_;refine q_v (ze (B:=zg b)) ?_;refine q_v (za (hc:=q_c C)) ?_;refine zb ?_;refine zj ?_;intro _;refine q_y (zl (n:=s)) ?_|refine zf 8 ?_;refine q_v (ze (B:=zg s)) ?_;refine q_n (zl (n:=s)) ?_)
   exact zap rfl (zB (B:=zg s) rfl (ty rfl) rfl Ev Et (zd _).symm) Er ⟨rfl,rfl⟩
  ·have A:decide (zbx a (m-b)>=0)=true:=decide_eq_true (zlL F);have C:=λj=>zlh a (m-b) j q E;rw[if_pos F] at C;rw[show a+b=a-(m-b)+m by omega,Nat.add_mod_right,A7 (show a-(m-b)<m by omega)];have H:=zd (a-(m-b));generalize m-b=o,a-(m-b)=s,zbx a (m-b)=R at*;repeat' (first|refine s_0 ?_|refine zf 0 ?_;refine zj ?_;intro _;refine zj ?_;intro _;refine zj ?_;intro _;refine zj ?_;intro _|refine zf 1 ?_;refine q_v (ze (B:=zg b)) ?_;refine q_v (za (hc:=q_c G)) ?_|refine q_k 3 ?_;refine q_v (ze (B:=zg m)) ?_;refine q_v (ze (B:=zg b)) ?_;refine q_v (za (hc:=q_c I)) ?_;refine zb ?_;refine zj ?_;intro _;refine q_y (zl (n:=o)) ?_|refine zf 4 ?_;refine q_v (ze (B:=zg a)) ?_;refine q_v (ze (B:=zg o)) ?_;refine q_v (za (hc:=q_c hc)) ?_;refine q_v (zP (hr:=A)) ?_|refine zf 5 ?_;refine q_v (ze (B:=zg a)) ?_;refine q_v (ze (B:=zg o)) ?_;refine q_v (za (hc:=q_c C)) ?_;refine zb ?_;refine zj ?_;intro _;refine q_y (zl (n:=s)) ?_|refine zf 6 ?_;refine q_v (ze (B:=zg s)) ?_;refine q_n (zl (n:=s)) ?_)
   exact zap rfl (zB (B:=zg s) rfl (ty rfl) rfl Ev Et (zd _).symm) Er ⟨rfl,rfl⟩
theorem zm0(m a b:Nat)(w:World)(hm:m<18446744073709551616^16)(ha:a<m)(hb:b<m):
  q_G 215 [zr m,zr a,zr b] w (zr (dm m a b)):=by
 refine zt Tryz.func215 Tryz.ntmps215 ?_;have Q:=zd m;have K:=zd a;have O:=zd b;have j:=Ai ha hm;have q:=Ai hb hm;have hc:=λr=>zdJ a b r j q;rcases AF a b with F|F
 ·rw[zhJ F] at hc;have J:=λr=>zlh m b r hm q;rw[if_pos (BP hb)] at J;have I:m-b<18446744073709551616^16:=B1 (EL _ _) hm;have R:=zd (m-b);have C:=λr=>ztb a (m-b) r j I;have E:a+(m-b)<m:=q_o;rw[if_pos (Ai E hm)] at C;have G:dm m a b=a+(m-b):=by unfold dm;rw[A7 hb,A7 E]
  rw[G];have H:=zd (a+(m-b));generalize m-b=o,a+(m-b)=s at*;repeat' (first|refine s_0 ?_|refine zf 0 ?_;refine zj ?_;intro _;refine zj ?_;intro _;refine zj ?_;intro _;refine zj ?_;intro _|refine zf 1 ?_;refine q_v (ze (B:=zg a)) ?_;refine q_v (ze (B:=zg b)) ?_;refine q_v (za (hc:=q_c hc)) ?_;refine q_v zP ?_|refine q_k 4 ?_;refine q_v (ze (B:=zg m)) ?_;refine q_v (ze (B:=zg b)) ?_;refine q_v (za (hc:=q_c J)) ?_;refine zb ?_;refine zj ?_;intro _;refine q_y (zl (n:=o)) ?_|refine zf 5 ?_;refine q_v (ze (B:=zg a)) ?_;refine q_v (ze (B:=zg o)) ?_;refine q_v (za (hc:=q_c C)) ?_;refine zb ?_;refine zj ?_;intro _;refine q_y (zl (n:=s)) ?_|refine zf 6 ?_;refine q_v (ze (B:=zg s)) ?_;refine q_n (zl (n:=s)) ?_)
  exact zap rfl (zB (B:=zg s) rfl (ty rfl) rfl Ev Et (zd _).symm) Er ⟨rfl,rfl⟩
 ·have A:decide (zbx a b>=0)=true:=decide_eq_true (zlL F);have C:=λr=>zlh a b r j q;rw[if_pos F] at C;have G:dm m a b=a-b:=by
   unfold dm;rw[A7 hb,show a+(m-b)=a-b+m by omega,Nat.add_mod_right,A7 q_o]
  rw[G];have H:=zd (a-b);generalize a-b=s,zbx a b=S at*;repeat' (first|refine s_0 ?_|refine zf 0 ?_;refine zj ?_;intro _;refine zj ?_;intro _;refine zj ?_;intro _;refine zj ?_;intro _|refine zf 1 ?_;refine q_v (ze (B:=zg a)) ?_;refine q_v (ze (B:=zg b)) ?_;refine q_v (za (hc:=q_c hc)) ?_;refine q_v (zP (hr:=A)) ?_|refine zf 2 ?_;refine q_v (ze (B:=zg a)) ?_;refine q_v (ze (B:=zg b)) ?_;refine q_v (za (hc:=q_c C)) ?_;refine zb ?_;refine zj ?_;intro _;refine q_y (zl (n:=s)) ?_|refine zf 3 ?_;refine q_v (ze (B:=zg s)) ?_;refine q_n (zl (n:=s)) ?_)
  exact zap rfl (zB (B:=zg s) rfl (ty rfl) rfl Ev Et (zd _).symm) Er ⟨rfl,rfl⟩
theorem zs2(m a:Nat)(w:World)(hm:m<18446744073709551616^16)(ha:a<m):
  q_G 293 [zr m,zr a] w (zr ((a+a)%m)):=by
 refine zt Tryz.func293 Tryz.ntmps293 ?_;have q:=zd m;have j:=zd a;have A:=λC=>zk5 m a a C hm ha ha;have r:=zd ((a+a)%m);generalize (a+a)%m=s at*;repeat' (first|refine s_0 ?_|refine zf 0 ?_;refine zj ?_;intro _;refine zj ?_;intro _;refine zj ?_;intro _|refine zf 1 ?_;refine q_v (ze (B:=zg m)) ?_;refine q_v (ze (B:=zg a)) ?_;refine q_v (ze (B:=zg a)) ?_;refine q_v (za (hc:=q_c A)) ?_;refine q_n (zl (n:=s)) ?_)
 exact zap rfl (zB (B:=zg s) rfl (ty rfl) rfl Ev Et (zd _).symm) Er ⟨rfl,rfl⟩
end Go.Proofs.YtdnlngbjpdbffaaGreatDoor
namespace Go.Nt
open Go Go.Sy
theorem zuO{x k p q:Nat}(hk:k<(zbB x).length)(H:x-left k x=q*2^p)(hp:left k x<2^p):
  (zbB x)[k]<p/\left (k+1) x<2^(zbB x)[k]/\x-left (k+1) x=(q*2^(p-(zbB x)[k])+1)*2^(zbB x)[k]:=by
 obtain⟨r,B⟩:=zgP hk;obtain⟨F,G,A⟩:=zhw _ r;have j:=zf8 k x;have E:=zqC k x q_o;rw[B];generalize left k x=y at*;generalize nd 2 y=m at*;obtain⟨i,rfl⟩:∃i,m=i+1:=⟨m-1,by omega⟩;rw[Au] at*;rw[AN] at A;have w:i<p:=by
  rcases AF i p with h|h
  ·exact h
  ·have:=AB (n:=2) q_e h;omega
 refine⟨w,by rw[j];omega,?_⟩;have C:q*2^p=q*2^(p-i)*2^i:=by rw[B7,<-Av,show p-i+i=p by omega]
 rw[B2,Bo,<-C,j];omega
end Go.Nt
namespace Go.Sy
open Go
theorem Holds.both{B:Nat}{M:Nat->Prop}{L X:List Res}{w:World}{m T1 q T2:Nat}{C1 C2:List Value}(hh:Holds B M (L++X) w)(h1:Has L (.blk m T1 C1))(h2:Has L (.blk q T2 C2))(r:Res.blk m T1 C1≠ .blk q T2 C2):
  Holds w.heap.size (λx=>x=m\/x=q) [.blk m T1 C1,.blk q T2 C2] w:=by
 have C:=hh.two (Ey h1) (Ey h2) r;refine⟨λx j=>?_,?_,λx j y A=>?_⟩
 ·rcases AS.1 j with rfl|j
  ·exact hh.has (Ey h1)
  ·rw[AE.1 j];exact hh.has (Ey h2)
 ·exact Ag.2 ⟨λx j=>by rw[AE.1 j];exact C,Bi _ _⟩
 ·rcases AS.1 j with rfl|j
  ·exact .inr (.inl (De A))
  ·rw[AE.1 j] at A;exact .inr (.inr (De A))
theorem Holds.ne{r:Nat}{M:Nat->Prop}{L X:List Res}{w:World}{j T1 m T2:Nat}{C1 C2:List Value}(hh:Holds r M (L++X) w)(h1:Has L (.blk j T1 C1))(h2:Has L (.blk m T2 C2))(q:Res.blk j T1 C1≠ .blk m T2 C2):j≠m:=λh=>
 hh.two (Ey h1) (Ey h2) q j rfl h.symm
theorem zgy{b T j T':Nat}{C C':List Value}(h:T≠T'):Res.blk b T C≠ .blk j T' C':=λe=>h (by injection e)
end Go.Sy
namespace Go.Proofs.YtdnlngbjpdbffaaGreatDoor
open Go Go.Sy Go.Nt Go.RowKit
attribute [local irreducible] Sy SyL SyX Sy.Fn callFunc zg zae
theorem zlg(m F r p q:Nat)(to:Nat)(V:Nat->Nat)(fd:Nat)(K cd:List Value)(w:World)(hp:p<=4000)(J:to<=p)
  (I:∀args w,(callFunc fd args).run Tryz.prog w= .ok (.enter fd args) w)(H:∀k w,q_G fd (K++[zr (V k)]++cd) w (zr (V (2*k))))
  (S:Holds w.heap.size (λx=>x=m\/x=r) [.blk m 3 [.int .i64 p],.blk r 133 (zg (V q))] w)(hc:w.cell? ⟨F,0,none⟩=some (.func (.func fd) K.toArray cd.toArray))(hn:¬(F=m\/F=r)):
  Sy.Fn Tryz.prog 322 [.int .i64 to,.pointer (some ⟨m,0,none⟩),.pointer (some ⟨F,0,none⟩),.pointer (some ⟨r,0,none⟩)] w (λx=>x=m\/x=r)
   (λ_ R=>R= [.blk m 3 [.int .i64 to],.blk r 133 (zg (V (q*2^(p-to))))]):=by
 refine zaW Tryz.func322 rfl Tryz.ntmps322 q_p S ?_;repeat' (first|refine zeC ?_|fail)
 refine zN (γ:=Nat×Nat) (λ_=>[(0,.int .i64 to),(1,.pointer (some ⟨m,0,none⟩)),(2,.pointer (some ⟨F,0,none⟩)),(3,.pointer (some ⟨r,0,none⟩))])
  (λg=>[.blk m 3 [.int .i64 g.1],.blk r 133 (zg (V g.2))])
  (λg=>to<=g.1/\g.1<=4000/\g.2*2^(g.1-to)=q*2^(p-to)) (λg=>g.1) (p,q) ⟨J,hp,rfl⟩ ?_ ?_ ?_
 ·exact q_h
 ·exact q_h
 rintro⟨j,A⟩ ⟨O,Q,E⟩;dsimp only at O Q E ⊢;rcases AF to j with h|h
 ·have C:decide ((j:Int)>(to:Int))=true:=q_d;have G:IntKind.i64.wrap ((j:Int)-1)=((j-1:Nat):Int):=q_w;have U:=zd (V A);have W:=zd (V (2*A));have H:=H A;have E:2*A*2^(j-1-to)=q*2^(p-to):=by
   rw[<-E,show j-to=(j-1-to)+1 by omega,AN];ac_rfl
  generalize V A=v,T:V (2*A)=Y at*;repeat' (first|refine s_t ?_|refine zf 0 ?_;refine zm ?_;refine zb ?_;refine q_v (zH (hr:=C)) ?_|refine zf 2 ?_;refine q_v (zn (hv:=hc) (hn:=hn)) ?_;refine q_v (ze (B:=zg v)) ?_;refine q_v (zeV (he:=I) (hc:=λZ X hk hh=>H Z)) ?_;refine q_n (zl (n:=Y)) ?_|refine zf 1 ?_;refine zm ?_;refine q_v (zI (hr:=G)) ?_;refine zO ?_)
  refine zE (j-1,2*A) ⟨by show to<=j-1;omega,by show j-1<=_;omega,E⟩ ?_ ?_ ?_
  ·show j-1<j;omega
  ·exact q_h
  ·show SubR [.blk m 3 [.int .i64 ((j-1:Nat):Int)],.blk r 133 (zg (V (2*A)))] _;rw[T];exact q_h
 ·obtain rfl:j=to:=q_o;have C:decide ((j:Int)>(j:Int))=false:=q_f;rw[C5,An,Ak] at E;rw[<-E];repeat' (first|refine s_0 ?_|refine zf 0 ?_;refine zm ?_;refine zb ?_;refine q_v (zH (hr:=C)) ?_)
  exact zfo rfl q_h rfl
theorem zmM(x v:Nat)(V:Nat->Nat)(fd S:Nat)(A cd Z Y:List Value)(w:World)(hx:x<18446744073709551616^16)
  (H:∀args w,(callFunc fd args).run Tryz.prog w= .ok (.enter fd args) w)(U:∀args w,(callFunc S args).run Tryz.prog w= .ok (.enter S args) w)
  (hD:∀k w,q_G fd (A++[zr (V k)]++cd) w (zr (V (2*k))))(hA:∀k w,q_G S (Z++[zr (V k),zr v]++Y) w (zr (V (k+1)))):
  q_G 292 [zr x,zr (V 0),zr v,.func (.func fd) A.toArray cd.toArray,.func (.func S) Z.toArray Y.toArray] w (zr (V x)):=by
 refine zt Tryz.func292 Tryz.ntmps292 ?_;have c5:=zd x;have c4:=zd v;have c1:=zd (V 0);have a8:=λE=>zcp x E hx;have b1:=zaS 2 x q_e;have b2:=ze2 hx;generalize nd 2 x=p0,b0:V 0=v0 at*;repeat' (first|refine s_0 ?_|refine zf 0 ?_;refine zj ?_;intro _;refine zj ?_;intro _;refine zj ?_;intro _;refine zj ?_;intro _;refine zj ?_;intro _;refine zj ?_;intro _)
 rename_i b5 b6 b7 G b9 I;refine zcQ (id:=1) mixed ?_
 (refine zcX 5 5 [[],[],[1],[],[],[0,1,2,3,4],[0,1,2,3,4,5]] [[],[],[],[],[],[],[]] none rfl ?_ ?_ ?_;kernel_rfl;kernel_rfl;refine q_E (ze (B:=zg v0)) ?_;refine q_E (ze (B:=zg x)) ?_;refine q_E (za (hc:=q_c a8)) ?_;try refine dh_0nE (h:=?_))
 refine zf1 (R:=λ_=>zjN 133 (List.replicate 16 (.int .u64 0))) (λ_ _ _=>rfl) (λρ hρ=>FH zeI λv L' h=>?_) (h:=?_)
 ·obtain⟨b,rfl,rfl⟩:=h;exact⟨[_],rfl,b,rfl,rfl⟩
 refine zf1 (R:=λ_=>zjN 3 [.int .i64 0]) (λ_ _ _=>rfl) (λρ hρ=>FH zeI λv L' h=>?_) (h:=?_)
 ·obtain⟨b,rfl,rfl⟩:=h;exact⟨[_],rfl,b,rfl,rfl⟩
 refine ze1 (h:=?_);rintro ρ ⟨⟨m,g1,g2⟩,⟨j,g3,g4⟩,-⟩
 (refine zcW [[],[],[1],[],[],[0,1,2,3,4],[0,1,2,3,4,5]] ?_ ?_;kernel_rfl)
 refine FI (fr':=[(11,.pointer (some ⟨j,0,none⟩)),(12,.pointer (some ⟨m,0,none⟩)),(15,zr v0),(17,.int .i64 p0),(5,.pointer (some ⟨b5,0,none⟩)),(7,.pointer (some ⟨b7,0,none⟩)),(8,.pointer (some ⟨G,0,none⟩)),(9,.pointer (some ⟨b9,0,none⟩)),(10,.pointer (some ⟨I,0,none⟩))])
  (L':=[.blk j 133 (List.replicate 16 (.int .u64 0)),.blk m 3 [.int .i64 0],.blk b5 133 (zg x),.blk b7 133 (zg v),.blk G 296 [.func (.func fd) A.toArray cd.toArray],.blk b9 206 [.func (.func S) Z.toArray Y.toArray],.blk I 133 (List.replicate 16 (.int .u64 0))]) ?_ ?_ ?_
 rotate_left
 ·(repeat' (first|exact FP|refine FX rfl ?_ ?_|rfl))
  ·exact g3
  ·exact g1
 ·show SubR _ ((ρ 4).2++((ρ 3).2++_));rw[g2,g4];exact q_h
 repeat' (first|refine s_0 ?_|refine zf 2 ?_;refine q_v zab ?_;refine zj ?_;intro _;refine zO ?_|refine zf 3 ?_;refine q_v (ze (B:=zg x)) ?_|(refine zy ?_;first|refine q_n (zl (n:=v0)) ?_|refine zO ?_|fail)|fail)
 rename_i a6;refine q_s (zi (hc:=λE X J F=>zp5 x E)) ?_;rintro _ _ ⟨R,rfl,b,rfl,rfl⟩;repeat' (first|refine s_t ?_|fail)
 rw[<-b0];refine zgS (γ:=Nat×Nat) (xs:=zbB x) (Arg:=zvw) zdb rfl (en rfl) rfl (λk s=>x-left k x=s.2*2^s.1/\left k x<2^s.1/\s.1<=1024) (λ_ _ _=>False)
  (λs=>[.blk j 133 (zg (V s.2)),.blk m 3 [.int .i64 s.1],.blk a6 326 [.func (.func 322) #[] #[.pointer (some ⟨m,0,none⟩),.pointer (some ⟨G,0,none⟩),.pointer (some ⟨j,0,none⟩)]],.blk b7 133 (zg v),.blk G 296 [.func (.func fd) A.toArray cd.toArray],.blk b9 206 [.func (.func S) Z.toArray Y.toArray]])
  [.blk b 133 (zg x)] [.blk b5 133 (zg x),.blk I 133 (List.replicate 16 (.int .u64 0))] (p0,0) ⟨by rw[show left 0 x=x from rfl,C5,BF],b1,b2⟩ ?_ ?_ ?_ ?_ ?_ ?_
 ·((try simp only[Ab,Af,AG]);(repeat' (first|exact List.Perm.nil|exact B5 _|apply zhh;with_reducible (focus ((repeat (first|exact Es|apply Eu));done))|apply zhh;(focus ((repeat (first|exact Es|apply Eu));done)))))
 ·exact λE Mi X J hm _ _=>zoi b x E Mi hx
 ·rintro O x vs RA E ⟨rfl,_⟩;rfl
 ·rintro lp k J ⟨p,q⟩ vs RA W rec b4 ⟨T,hp,Q⟩ ⟨rfl,rfl⟩ c0 K;dsimp only at T hp Q ⊢;clear K;obtain⟨hi,a9,a7⟩:=zuO J T hp;generalize (zbB x)[k]=i at*;have c3:=zd (V (q*2^(p-i)));have b3:=zd (V (q*2^(p-i)+1));have hA:=hA (q*2^(p-i));repeat' (first|refine s_t ?_|apply zcH;(focus ((repeat (first|exact Es|apply Eu));done));assumption|refine q_k 4 ?_|refine zf 5 ?_;refine zm ?_;refine zb ?_)
  refine q_s (zeg (vs:=[.int .i64 i]) (cap:=[.pointer (some ⟨m,0,none⟩),.pointer (some ⟨G,0,none⟩),.pointer (some ⟨j,0,none⟩)]) (C:=[.blk m 3 [.int .i64 p],.blk j 133 (zg (V q))]) (M':=λx=>x=m\/x=j)
   (hC:=Ew (by repeat (first|exact Es|apply Eu)) rfl (Ew (by repeat (first|exact Es|apply Eu)) rfl Ez)) (hM:=λb hb=>by
    rcases hb with rfl|rfl
    ·exact⟨_,A3 ..,rfl⟩
    ·exact⟨_,A4 _ (AE.2 rfl),rfl⟩)
   (hc:=λE X J F=>zlg m G j p q i V fd A cd E q_o q_o H hD (F.both Ev Ev (zgy q_e)) (zp (F.has (r:=.blk G 296 [.func (.func fd) A.toArray cd.toArray]) q_h) Et 0 _ rfl)
    (λe=>e.elim (F.ne (C1:=[.func (.func fd) A.toArray cd.toArray]) (T1:=296) (C2:=[.int .i64 p]) (T2:=3) Ev Ev (zgy q_e)) (F.ne (C1:=[.func (.func fd) A.toArray cd.toArray]) (T1:=296) (C2:=zg (V q)) (T2:=133) Ev Ev (zgy q_e))))) ?_
  rintro _ _ ⟨R,rfl,rfl⟩;repeat' (first|refine s_0 ?_|refine zf 6 ?_;refine zm ?_;refine q_v (ze (B:=zg (V (q*2^(p-i))))) ?_;refine q_v (ze (B:=zg v)) ?_;refine q_v (zeV (he:=U) (hc:=λE X J F=>hA E)) ?_;refine q_n (zl (n:=V (q*2^(p-i)+1))) ?_)
  refine zgv (i,q*2^(p-i)+1) ⟨a7,a9,by show i<=1024;omega⟩ ?_;dsimp only;exact q_h
 ·rintro⟨p,q⟩ ⟨T,-,Q⟩;rw[zku,Nat.sub_zero] at T;dsimp only at T Q ⊢;repeat' (first|refine zc9 ?_|refine zhI ?_|refine zf 7 ?_;refine zm ?_)
  refine q_s (zeg (vs:=[.int .i64 (0:Nat)]) (cap:=[.pointer (some ⟨m,0,none⟩),.pointer (some ⟨G,0,none⟩),.pointer (some ⟨j,0,none⟩)]) (C:=[.blk m 3 [.int .i64 p],.blk j 133 (zg (V q))]) (M':=λx=>x=m\/x=j)
   (hC:=Ew (by repeat (first|exact Es|apply Eu)) rfl (Ew (by repeat (first|exact Es|apply Eu)) rfl Ez)) (hM:=λb hb=>by
    rcases hb with rfl|rfl
    ·exact⟨_,A3 ..,rfl⟩
    ·exact⟨_,A4 _ (AE.2 rfl),rfl⟩)
   (hc:=λE X J F=>zlg m G j p q 0 V fd A cd E q_o q_o H hD (F.both Ev Ev (zgy q_e)) (zp (F.has (r:=.blk G 296 [.func (.func fd) A.toArray cd.toArray]) q_h) Et 0 _ rfl)
    (λe=>e.elim (F.ne (C1:=[.func (.func fd) A.toArray cd.toArray]) (T1:=296) (C2:=[.int .i64 p]) (T2:=3) Ev Ev (zgy q_e)) (F.ne (C1:=[.func (.func fd) A.toArray cd.toArray]) (T1:=296) (C2:=zg (V q)) (T2:=133) Ev Ev (zgy q_e))))) ?_
  rintro _ _ ⟨R,rfl,rfl⟩;rw[CD,<-T];have c2:=zd (V x);repeat' (first|refine s_0 ?_|refine zf 8 ?_;refine q_v (ze (B:=zg (V x))) ?_;refine q_n (zl (n:=V x)) ?_)
  exact zap rfl (zB (B:=zg (V x)) rfl (ty rfl) rfl Ev Et (zd _).symm) Er ⟨rfl,rfl⟩
 ·rintro _ k s J h;exact h.elim
end Go.Proofs.YtdnlngbjpdbffaaGreatDoor
