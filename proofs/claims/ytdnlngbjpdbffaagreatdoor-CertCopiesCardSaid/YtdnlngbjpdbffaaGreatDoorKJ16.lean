/- Lemmas of this proof. -/
import Derived.Test.YtdnlngbjpdbffaaGreatDoorKJ15
set_option maxHeartbeats 1000000
set_option maxRecDepth 10000
set_option linter.all false
namespace Go.Sy
open Go
variable {P:Program}{ro:Option Nat}{N:Nat}{w0:World}{M:Nat->Prop}{ds:List Deferred}{o:Oper}{g:Nat->Option Value}{L:List Res}{t:TypeId}{y:Ty}
theorem zlG(z0:Value)(s n:Nat):madeCells (List.replicate s z0).toArray n=(List.replicate n z0).toArray\/s=0:=by
 rcases AD s with h|h
 ·exact .inr h
 ·left
  unfold madeCells;apply Array.ext
  ·simp
  ·intro k m q;have j:k%s<s:=A7 _ h;simp[j]
theorem zhe{len e:Nat}{parts:Array (Nat×Operand)}{vs C:List Value}{z0:Value}{ye:Ty}(he:zac P e=some ye)(hz:zaV P e=some (List.replicate ye.size z0))(V:FillTo (λi=>some (i*ye.size,ye.size)) (List.zip (parts.toList.map (·.1)) vs) (List.replicate (len*ye.size) z0) C)
  (hs:len*ye.size<=16777216)(q:0<len*ye.size)(J:o.op= .buildSlice t len parts:=by exact rfl)(hv:evs g (parts.toList.map (·.2))=some vs:=by exact rfl)(ht:zac P t=some y:=by exact ty rfl)(hy:y.desc= .slice e:=by exact rfl):
  OpT P ro N w0 M ds o g L (λv K=>∃b,v= .slice (some ⟨b,0,none⟩) len len/\K= .blk b e C::L):=
 FK (by rw[J];rfl) λa w X B=>by
  obtain⟨d,i',T,W,A,_⟩:=zU ht;rw[hy] at A;have:=za6 A;subst this;obtain⟨de,I,U,m,_,j,_⟩:=zU he;obtain⟨Q,R⟩:=zbG B e C;unfold zaV at hz;rw[m] at hz;simp only[BB,Ai] at hz;obtain⟨E,H,F⟩:=hz;have G:E.cells=(List.replicate ye.size z0).toArray:=BC.1 (by rw[F]);have Z:((parts.map λ(i,x)=>(i,a.eval x)).toList)=List.zip (parts.toList.map (·.1)) vs:=by
   have:=B.agr.evals hv;rw[<-this,Bn,Ch];generalize parts.toList=l
   induction l with
   |nil=>rfl
   |cons p l ih=>simp only[Ay,DV,ih];rfl
  have Y:madeCells E.cells (len*I.size)=(List.replicate (len*ye.size) z0).toArray:=by
   rw[G,j];rcases zlG z0 ye.size (len*ye.size) with h|h
   ·exact h
   ·rw[h,Bx] at q;omega
  have r:=run_buildSlice (P:=P) w t e len (parts.map λ(i,x)=>(i,a.eval x)) C.toArray I E T m H (by rw[j];omega) (by rw[j];omega) (by
   rw[Z];have S:=ziW V;have O:(Array.range (len*I.size)).map (E.cells[· % E.cells.size]!)=(List.replicate (len*ye.size) z0).toArray:=Y;rw[O,j];exact S)
  refine⟨_,_,w.alloc (.cells C.toArray e),_,?_,.inl rfl,⟨w.heap.size,rfl,rfl⟩,Q,R⟩;simp[execOp,J,r]
theorem ztz{e n:Nat}{lo co:Operand}{k1 k2:IntKind}{z0:Value}{l c:Int}{ye:Ty}(hz:zaV P e=some (List.replicate ye.size z0))(he:zac P e=some ye)(hb:ye.bytes*n<=281474976710656)(hm:n<=maxLen)(Z:0<ye.size)(C:l=(n:Int):=by exact rfl)(r:c=(n:Int):=by exact rfl)
  (J:o.op= .makeSlice t lo co:=by exact rfl)(W:ev g lo=some (.int k1 l):=by exact rfl)(hc:ev g co=some (.int k2 c):=by exact rfl)(ht:zac P t=some y:=by exact ty rfl)(hy:y.desc= .slice e:=by exact rfl):
  OpT P ro N w0 M ds o g L (λv O=>∃b,v= .slice (some ⟨b,0,none⟩) n n/\O= .blk b e (List.replicate (n*ye.size) z0)::L):=
 FK (by rw[J];rfl) λa w X j=>by
  obtain⟨d,i',T,V,q,_⟩:=zU ht;rw[hy] at q;have:=za6 q;subst this;obtain⟨de,K,U,m,_,B,A,_⟩:=zU he;unfold zaV at hz;rw[m] at hz;simp only[BB,Ai] at hz;obtain⟨I,H,F⟩:=hz;subst C;subst r;obtain⟨R,S⟩:=zbG j e (List.replicate (n*ye.size) z0);refine⟨_,_,w.alloc (.cells (List.replicate (n*ye.size) z0).toArray e),_,?_,.inl rfl,⟨w.heap.size,rfl,rfl⟩,R,S⟩;have Y:n<=9223372036854775807:=by unfold maxLen at hm;omega
  have G:I.cells=(List.replicate ye.size z0).toArray:=BC.1 (by rw[F]);have E:=run_make (P:=P) w t e K I T m H k1 k2 n n q_o q_o (by rw[A,<-BW];omega) q_o;simp only[B6] at E;have Q:madeCells I.cells (n*K.size)=(List.replicate (n*ye.size) z0).toArray:=by
   rw[B,G];rcases zlG z0 ye.size (n*ye.size) with h|h
   ·exact h
   ·omega
  rw[Q] at E;simp[execOp,J,j.agr.eval W,j.agr.eval hc,E]
end Go.Sy
namespace Go.Nt
open Go Go.Sy
def z8(l:List Nat):List Value:=l.flatMap zf
theorem zeL(l:List Nat):(z8 l).length=l.length*16:=by
 induction l with
 |nil=>rfl
 |cons x l ih=>
  show(zf x++z8 l).length=_;rw[A2,zd,ih,Ac];omega
theorem zjL(l m:List Nat):z8 (l++m)=z8 l++z8 m:=CS
theorem zgz(x:Nat)(l:List Nat):z8 (x::l)=zf x++z8 l:=rfl
theorem zoY{l:List Nat}{i x:Nat}(h:l[i]?=some x):z8 l=z8 (l.take i)++zf x++z8 (l.drop (i+1))/\(z8 (l.take i)).length=i*16:=by
 obtain⟨m,j⟩:=AQ.1 h;have e:l=l.take i++x::l.drop (i+1):=by
  rw[<-j,List.getElem_cons_drop,B7]
 refine⟨?_,by rw[zeL,AU];omega⟩
 conv=>lhs;rw[e]
 rw[zjL,zgz,AL]
theorem zdw{l:List Nat}{i x:Nat}(h:l[i]?=some x):Seg (z8 l) (i*16) (zf x):=by
 obtain⟨e,j⟩:=zoY h;rw[e,<-j];exact Seg.mid
theorem zhu{l:List Nat}{i:Nat}(x:Nat)(h:i<l.length):zaz (z8 l) (i*16) (zf x)=z8 (l.set i x):=by
 obtain⟨e,m⟩:=zoY (A1 h);have j:l.set i x=l.take i++x::l.drop (i+1):=by
  rw[List.set_eq_take_append_cons_drop,if_pos h]
 rw[j,zjL,zgz];unfold zaz;rw[zd,e,<-m];have t1:(z8 (l.take i)++zf l[i]++z8 (l.drop (i+1))).take (z8 (l.take i)).length=z8 (l.take i):=by rw[AL,El]
 have t2:(z8 (l.take i)++zf l[i]++z8 (l.drop (i+1))).drop ((z8 (l.take i)).length+16)=z8 (l.drop (i+1)):=by
  rw[show(z8 (l.take i)).length+16=(z8 (l.take i)++zf l[i]).length by rw[A2,zd],List.drop_left]
 rw[t1,t2,AL]
theorem zhs(n:Nat):List.replicate (n*16) (Value.int IntKind.u64 0)=z8 (List.replicate n 0):=by
 induction n with
 |zero=>rfl
 |succ n ih=>
  rw[CT,zgz,<-ih,show(n+1)*16=16+n*16 by omega,<-Di];unfold zf;rw[zf1,Ba];rfl
theorem zs6(x:Nat):z8 [x]=zf x:=AZ _
end Go.Nt
namespace Go.Proofs.YtdnlngbjpdbffaaGreatDoor
open Go Go.Sy Go.Nt Go.RowKit
attribute [local irreducible] Sy SyL SyX Sy.Fn callFunc zf z8
variable {ro:Option Nat}{N:Nat}{w0:World}{M:Nat->Prop}{ds:List Deferred}{g:Nat->Option Value}{L:List Res}{o:Oper}{z z':Operand}
theorem zbR{x:Nat}(m:o.op= .buildSlice 150 1 #[(0,z)]:=by exact rfl)(hz:ev g z=some (zm x):=by exact rfl):
  OpT Tryz.prog ro N w0 M ds o g L (λv j=>∃b,v= .slice (some ⟨b,0,none⟩) 1 1/\j= .blk b 133 (z8 [x])::L):=
 zhe (parts:=#[(0,z)]) (vs:=[zm x]) (z0:=.int .u64 0) (ty rfl) (zc rfl) (by
  refine .cons (cs:=zf x) rfl rfl (zd x) (AO rfl) ?_;have:=zhu (l:=[0]) (i:=0) x q_e;rw[show[0].set 0 x= [x] from rfl] at this;rw[<-this,show[0]=List.replicate 1 0 from rfl,<-zhs];exact .nil) q_e q_e m (by simp[evs,hz])
theorem zes{x x':Nat}(r:o.op= .buildSlice 150 2 #[(0,z),(1,z')]:=by exact rfl)(hz:ev g z=some (zm x):=by exact rfl)(j:ev g z'=some (zm x'):=by exact rfl):
  OpT Tryz.prog ro N w0 M ds o g L (λv q=>∃b,v= .slice (some ⟨b,0,none⟩) 2 2/\q= .blk b 133 (z8 [x,x'])::L):=
 zhe (parts:=#[(0,z),(1,z')]) (vs:=[zm x,zm x']) (z0:=.int .u64 0) (ty rfl) (zc rfl) (by
  have h0:=zhu (l:=[0,0]) (i:=0) x q_e;have m:=zhu (l:=[x,0]) (i:=1) x' q_p;rw[show[0,0].set 0 x= [x,0] from rfl] at h0;rw[show[x,0].set 1 x'= [x,x'] from rfl] at m;refine .cons (cs:=zf x) rfl rfl (zd x) (AO rfl) ?_;rw[show List.replicate (2*_) (Value.int IntKind.u64 0)=z8 [0,0] from zhs 2];refine .cons (cs:=zf x') rfl rfl (zd x') (by
   show 1*16+16<=(zaz (z8 [0,0]) (0*16) (zf x)).length;rw[h0,zeL];simp) ?_
  show FillTo _ _ (zaz (zaz (z8 [0,0]) (0*16) (zf x)) (1*16) (zf x')) _;rw[h0,m];exact .nil) q_e q_e r (by simp[evs,hz,j])
theorem zso{n:Nat}{k1 k2:IntKind}{l c:Int}(hn:n<=1000)(m:l=(n:Int):=by exact rfl)(j:c=(n:Int):=by exact rfl)(w:o.op= .makeSlice 150 z z':=by exact rfl)(r:ev g z=some (.int k1 l):=by exact rfl)(hc:ev g z'=some (.int k2 c):=by exact rfl):
  OpT Tryz.prog ro N w0 M ds o g L (λv q=>∃b,v= .slice (some ⟨b,0,none⟩) n n/\q= .blk b 133 (z8 (List.replicate n 0))::L):=by
 have h:=ztz (P:=Tryz.prog) (ro:=ro) (N:=N) (w0:=w0) (M:=M) (ds:=ds) (o:=o) (g:=g) (L:=L) (t:=150) (e:=133) (n:=n) (lo:=z) (co:=z') (z0:=.int .u64 0) (zc rfl) (ty rfl) (show 128*n<=_ by omega) (by unfold maxLen;omega) (show 0<16 by decide) m j w r hc (ty rfl) rfl;rw[<-zhs];exact h
theorem zbc{b off n c j:Nat}{k:IntKind}{i:Int}(q:o.op= .indexAddr 150 z z':=by exact rfl)(hx:ev g z=some (.slice (some ⟨b,off,none⟩) n c):=by exact rfl)(hz:ev g z'=some (.int k i):=by exact rfl)(m:i=(j:Int):=by exact rfl)(hj:j<n:=by omega):
  OpT Tryz.prog ro N w0 M ds o g L (Det (.pointer (some ⟨b,off+j*16,none⟩)) L):=
 zay (ye:=_) q hx hz (ty rfl) rfl (ty rfl) m hj
theorem zjj(m n c:Nat)(l:List Nat)(J K:Nat)(w:World)(hm:m<18446744073709551616^16)(h0:0<m)(X:l.length=n)(hn:n<=1000)(G:∀x∈l,x<18446744073709551616^16)(hs:w.rangeAt J K (z8 l)):
  Sy.Fn Tryz.prog 243 [zm m,.slice (some ⟨J,K,none⟩) n c] w No (λv R=>∃b,v= .slice (some ⟨b,0,none⟩) n n/\R= [.blk b 133 (z8 (l.map (· % m)))]):=by
 refine zo Tryz.func243 Tryz.ntmps243 ?_;have Y:=zd m;repeat' (first|refine s_0 ?_|refine zg 0 ?_;refine zV ?_;intro _|refine q_k 1 ?_)
 refine q_s (zso (n:=n) hn) ?_;rintro _ _ ⟨A,rfl,rfl⟩;repeat' (first|refine s_t ?_|refine q_k 2 ?_|(refine zW ?_;first|refine zB ?_|fail)|fail)
 rename_i O;refine zE (γ:=Nat) (λk=>[(2,.pointer (some ⟨O,0,none⟩)),(5,.slice (some ⟨A,0,none⟩) n n),(11,.slice (some ⟨J,K,none⟩) n c),(12,.int .i64 n),(13,.int .i64 k)])
  (λk=>[.blk A 133 (z8 ((l.map (· % m)).take k++List.replicate (n-k) 0)),.blk O 227 (zf m)])
  (λk=>k<=n) (λk=>n-k) 0 (AE _) ?_ ?_ ?_
 ·exact q_h
 ·show SubR [.blk A 133 (z8 (List.replicate n 0)),.blk O 227 (zf m)] _;exact q_h
 intro k hk;rcases AH k n with h|h
 ·obtain⟨x,S⟩:∃x,l[k]?=some x:=⟨_,A1 q_o⟩;have T:=G x (Bk S);have I:w.rangeAt J (K+k*16) (zf x):=λj v W=>by
   have:=hs (k*16+j) v (zdw S j v W);rwa[<-Az] at this
  have V:=λw'=>zru x m w' T hm h0;have a7:=zd x;have Z:=zd (x/m);have a6:=zd (x%m);have F:decide ((k:Int)<(n:Int))=true:=q_d;have E:=zhu (l:=(l.map (· % m)).take k++List.replicate (n-k) 0) (i:=k) (x%m) (by simp;omega);rw[zhF (l.map (· % m)) 0 (x%m) n k (by rw[AY,S];rfl) h (by simpa using X)] at E;have H:=zeL ((l.map (· % m)).take k++List.replicate (n-k) 0);have U:((l.map (· % m)).take k++List.replicate (n-k) 0).length=n:=by simp;omega
  rw[U] at H;generalize x%m=r,x/m=q,Q:z8 ((l.map (· % m)).take (k+1)++List.replicate (n-(k+1)) 0)=C',z8 ((l.map (· % m)).take k++List.replicate (n-k) 0)=C at*;repeat' (first|refine s_t ?_|refine zg 3 ?_;refine q_v (zl (hr:=F)) ?_|refine q_k 4 ?_;refine q_v (zbc (j:=k)) ?_;refine q_v (z9 (B:=zf x) (hv:=I)) ?_;refine zV ?_;intro _;refine q_n (zj (n:=x)) ?_|refine q_k 5 ?_;refine q_x (ze (B:=zf x)) ?_;refine q_v (ze (B:=zf m)) ?_;refine q_v (za (hc:=q_c V)) ?_;refine zb ?_;refine q_v (zbc (j:=k)) ?_;refine q_n (zeo (B:=zf r) (hv:=zeK r) (h1:=(zd r).symm)) ?_|refine zg 6 ?_;refine zaI ?_;refine zb ?_)
  refine zy (k+1) ?_ ?_ ?_ ?_
  ·show k+1<=n;omega
  ·show n-(k+1)<n-k;omega
  ·exact q_h
  ·show SubR [.blk A 133 (z8 ((l.map (· % m)).take (k+1)++List.replicate (n-(k+1)) 0)),.blk O 227 (zf m)] _;rw[Q,<-E]
   (repeat' (first|exact F2|apply F9;with_reducible (focus ((repeat (first|exact F1|apply F3));done))|apply FC;(focus ((repeat (first|exact F1|apply F3));done))|apply FA;(focus ((repeat (first|exact F1|apply F3));done))|rfl))
   rw[AR]
 ·obtain rfl:k=n:=q_o;have F:decide ((k:Int)<(k:Int))=false:=q_f;rw[A6 (by rw[A0];omega),C5,Cp,AZ];repeat' (first|refine s_0 ?_|refine zg 3 ?_;refine q_v (zl (hr:=F)) ?_|refine q_k 7 ?_)
  exact zaw rfl (zr rfl) q_h ⟨A,rfl,rfl⟩
theorem zkJ{x y:Nat}(h:y<=x):za0 x y>=0:=by
 unfold za0;rw[if_neg q_o];split <;> omega
theorem zeA(m x b:Nat)(w:World)(hm:m<18446744073709551616^16)(h0:0<m)(hx:x<18446744073709551616^16)(j:w.rangeAt b 0 (z8 [x])):
  Sy.Fn Tryz.prog 243 [zm m,.slice (some ⟨b,0,none⟩) 1 1] w No (λv R=>∃b,v= .slice (some ⟨b,0,none⟩) 1 1/\R= [.blk b 133 (zf (x%m))]):=by
 have h:=zjj m 1 1 [x] b 0 w hm h0 rfl q_e (λy q=>by rw[AF.1 q];exact hx) j;rw[show[x].map (· % m)= [x%m] from rfl,zs6] at h;exact h
theorem zit(m x y b:Nat)(w:World)(hm:m<18446744073709551616^16)(h0:0<m)(hx:x<18446744073709551616^16)(r:y<18446744073709551616^16)(q:w.rangeAt b 0 (z8 [x,y])):
  Sy.Fn Tryz.prog 243 [zm m,.slice (some ⟨b,0,none⟩) 2 2] w No (λv R=>∃b,v= .slice (some ⟨b,0,none⟩) 2 2/\R= [.blk b 133 (z8 [x%m,y%m])]):=
 zjj m 2 2 [x,y] b 0 w hm h0 rfl q_e (λz j=>by
  rcases Ag.1 j with rfl|j
  ·exact hx
  ·rw[AF.1 j];exact r) q
theorem zp6(x y:Nat):Seg (z8 [x,y]) (0*16) (zf x)/\Seg (z8 [x,y]) (1*16) (zf y):=⟨zdw rfl,zdw rfl⟩
theorem zv0(m:Nat)(w:World)(hm:m<18446744073709551616^16)(h0:0<m):
  q_G 299 [zm m] w (zm (1%m)):=by
 refine zo Tryz.func299 Tryz.ntmps299 ?_;have G:=zd m;have F:=zd 1;have C:=λq=>zhw 1 q q_e;have A:1<18446744073709551616^16:=by decide
 have H:=zd (1%m);have I:=λq b (h:q.rangeAt b 0 (z8 [1]))=>zeA m 1 b q hm h0 A h;generalize 1%m=r at*;repeat' (first|refine s_0 ?_|refine zg 0 ?_;refine zi ?_;intro _;refine zi ?_;intro _|refine zg 1 ?_;refine q_v (za (hc:=q_c C)) ?_;refine zb ?_;refine zi ?_;intro _;refine q_y (zj (n:=1)) ?_|refine zg 2 ?_;refine q_v (ze (B:=zf m)) ?_;refine q_v (ze (B:=zf 1)) ?_|refine q_s (zbR (x:=1)) ?_;rintro _ _ ⟨J,rfl,rfl⟩|(refine zW ?_;first|refine q_s (zh (hc:=λq X K E=>I q _ (zp (E.has (by exact F5 F6)) F0))) ?_;rintro _ _ ⟨R,rfl,bc,rfl,rfl⟩|refine q_v (zbc (j:=0)) ?_|refine q_v (ze (B:=zf r)) ?_|refine q_n (zj (n:=r)) ?_|fail)|fail)
 exact zaw rfl (zz (B:=zf r) rfl (ty rfl) rfl F4 F0 (zd _).symm) F2 ⟨rfl,rfl⟩
theorem zjS(m a b:Nat)(w:World)(hm:m<18446744073709551616^16)(ha:a<m)(hb:b<m):
  q_G 245 [zm m,zm a,zm b] w (zm ((a+b)%m)):=by
 refine zo Tryz.func245 Tryz.ntmps245 ?_;have O:=zd m;have J:=zd a;have K:=zd b;have q:=AS ha hm;have r:=AS hb hm;have G:=λj=>zc6 b j r;rcases AD b with h|h
 ·subst h;rw[BI,A3 ha];repeat' (first|refine s_0 ?_|refine zg 0 ?_;refine zi ?_;intro _;refine zi ?_;intro _;refine zi ?_;intro _;refine zi ?_;intro _|refine zg 1 ?_;refine q_v (ze (B:=zf 0)) ?_;refine q_v (za (hc:=q_c G)) ?_|refine zg 2 ?_;refine q_v (ze (B:=zf a)) ?_;refine q_n (zj (n:=a)) ?_)
  exact zaw rfl (zz (B:=zf a) rfl (ty rfl) rfl F4 F0 (zd _).symm) F2 ⟨rfl,rfl⟩
 ·simp only[decide_eq_false (show ¬b=0 by omega)] at G;have I:=λj=>zj8 m b j hm r;rw[if_pos (BH hb)] at I;have E:m-b<18446744073709551616^16:=Av (EE _ _) hm;have hc:=λj=>zc7 a (m-b) j q E;have Q:=zd (m-b);rcases AH a (m-b) with F|F
  ·rw[zha F] at hc;have C:=λj=>zrl a b j q r;rw[if_pos (AS (show a+b<m by omega) hm)] at C;rw[A3 (show a+b<m by omega)];have H:=zd (a+b);generalize a+b=s,m-b=o at*;repeat' (first|refine s_0 ?_|refine zg 0 ?_;refine zi ?_;intro _;refine zi ?_;intro _;refine zi ?_;intro _;refine zi ?_;intro _|refine zg 1 ?_;refine q_v (ze (B:=zf b)) ?_;refine q_v (za (hc:=q_c G)) ?_|refine q_k 3 ?_;refine q_v (ze (B:=zf m)) ?_;refine q_v (ze (B:=zf b)) ?_;refine q_v (za (hc:=q_c I)) ?_;refine zb ?_;refine zi ?_;intro _;refine q_y (zj (n:=o)) ?_|refine zg 4 ?_;refine q_v (ze (B:=zf a)) ?_;refine q_v (ze (B:=zf o)) ?_;refine q_v (za (hc:=q_c hc)) ?_;refine q_v zP ?_|refine zg 7 ?_;refine q_v (ze (B:=zf a)) ?_;refine q_v (ze (B:=zf b)) ?_;refine q_v (za (hc:=q_c C)) ?_;refine zb ?_;refine zi ?_;intro _;refine q_y (zj (n:=s)) ?_|refine zg 8 ?_;refine q_v (ze (B:=zf s)) ?_;refine q_n (zj (n:=s)) ?_)
   exact zaw rfl (zz (B:=zf s) rfl (ty rfl) rfl F4 F0 (zd _).symm) F2 ⟨rfl,rfl⟩
  ·have A:decide (za0 a (m-b)>=0)=true:=decide_eq_true (zkJ F);have C:=λj=>zj8 a (m-b) j q E;rw[if_pos F] at C;rw[show a+b=a-(m-b)+m by omega,Nat.add_mod_right,A3 (show a-(m-b)<m by omega)];have H:=zd (a-(m-b));generalize m-b=o,a-(m-b)=s,za0 a (m-b)=R at*;repeat' (first|refine s_0 ?_|refine zg 0 ?_;refine zi ?_;intro _;refine zi ?_;intro _;refine zi ?_;intro _;refine zi ?_;intro _|refine zg 1 ?_;refine q_v (ze (B:=zf b)) ?_;refine q_v (za (hc:=q_c G)) ?_|refine q_k 3 ?_;refine q_v (ze (B:=zf m)) ?_;refine q_v (ze (B:=zf b)) ?_;refine q_v (za (hc:=q_c I)) ?_;refine zb ?_;refine zi ?_;intro _;refine q_y (zj (n:=o)) ?_|refine zg 4 ?_;refine q_v (ze (B:=zf a)) ?_;refine q_v (ze (B:=zf o)) ?_;refine q_v (za (hc:=q_c hc)) ?_;refine q_v (zP (hr:=A)) ?_|refine zg 5 ?_;refine q_v (ze (B:=zf a)) ?_;refine q_v (ze (B:=zf o)) ?_;refine q_v (za (hc:=q_c C)) ?_;refine zb ?_;refine zi ?_;intro _;refine q_y (zj (n:=s)) ?_|refine zg 6 ?_;refine q_v (ze (B:=zf s)) ?_;refine q_n (zj (n:=s)) ?_)
   exact zaw rfl (zz (B:=zf s) rfl (ty rfl) rfl F4 F0 (zd _).symm) F2 ⟨rfl,rfl⟩
theorem zlR(m a b:Nat)(w:World)(hm:m<18446744073709551616^16)(ha:a<m)(hb:b<m):
  q_G 215 [zm m,zm a,zm b] w (zm (dm m a b)):=by
 refine zo Tryz.func215 Tryz.ntmps215 ?_;have Q:=zd m;have K:=zd a;have O:=zd b;have j:=AS ha hm;have q:=AS hb hm;have hc:=λr=>zc7 a b r j q;rcases AH a b with F|F
 ·rw[zha F] at hc;have J:=λr=>zj8 m b r hm q;rw[if_pos (BH hb)] at J;have I:m-b<18446744073709551616^16:=Av (EE _ _) hm;have R:=zd (m-b);have C:=λr=>zrl a (m-b) r j I;have E:a+(m-b)<m:=q_o;rw[if_pos (AS E hm)] at C;have G:dm m a b=a+(m-b):=by unfold dm;rw[A3 hb,A3 E]
  rw[G];have H:=zd (a+(m-b));generalize m-b=o,a+(m-b)=s at*;repeat' (first|refine s_0 ?_|refine zg 0 ?_;refine zi ?_;intro _;refine zi ?_;intro _;refine zi ?_;intro _;refine zi ?_;intro _|refine zg 1 ?_;refine q_v (ze (B:=zf a)) ?_;refine q_v (ze (B:=zf b)) ?_;refine q_v (za (hc:=q_c hc)) ?_;refine q_v zP ?_|refine q_k 4 ?_;refine q_v (ze (B:=zf m)) ?_;refine q_v (ze (B:=zf b)) ?_;refine q_v (za (hc:=q_c J)) ?_;refine zb ?_;refine zi ?_;intro _;refine q_y (zj (n:=o)) ?_|refine zg 5 ?_;refine q_v (ze (B:=zf a)) ?_;refine q_v (ze (B:=zf o)) ?_;refine q_v (za (hc:=q_c C)) ?_;refine zb ?_;refine zi ?_;intro _;refine q_y (zj (n:=s)) ?_|refine zg 6 ?_;refine q_v (ze (B:=zf s)) ?_;refine q_n (zj (n:=s)) ?_)
  exact zaw rfl (zz (B:=zf s) rfl (ty rfl) rfl F4 F0 (zd _).symm) F2 ⟨rfl,rfl⟩
 ·have A:decide (za0 a b>=0)=true:=decide_eq_true (zkJ F);have C:=λr=>zj8 a b r j q;rw[if_pos F] at C;have G:dm m a b=a-b:=by
   unfold dm;rw[A3 hb,show a+(m-b)=a-b+m by omega,Nat.add_mod_right,A3 q_o]
  rw[G];have H:=zd (a-b);generalize a-b=s,za0 a b=S at*;repeat' (first|refine s_0 ?_|refine zg 0 ?_;refine zi ?_;intro _;refine zi ?_;intro _;refine zi ?_;intro _;refine zi ?_;intro _|refine zg 1 ?_;refine q_v (ze (B:=zf a)) ?_;refine q_v (ze (B:=zf b)) ?_;refine q_v (za (hc:=q_c hc)) ?_;refine q_v (zP (hr:=A)) ?_|refine zg 2 ?_;refine q_v (ze (B:=zf a)) ?_;refine q_v (ze (B:=zf b)) ?_;refine q_v (za (hc:=q_c C)) ?_;refine zb ?_;refine zi ?_;intro _;refine q_y (zj (n:=s)) ?_|refine zg 3 ?_;refine q_v (ze (B:=zf s)) ?_;refine q_n (zj (n:=s)) ?_)
  exact zaw rfl (zz (B:=zf s) rfl (ty rfl) rfl F4 F0 (zd _).symm) F2 ⟨rfl,rfl⟩
theorem zrx(m a:Nat)(w:World)(hm:m<18446744073709551616^16)(ha:a<m):
  q_G 293 [zm m,zm a] w (zm ((a+a)%m)):=by
 refine zo Tryz.func293 Tryz.ntmps293 ?_;have q:=zd m;have j:=zd a;have A:=λC=>zjS m a a C hm ha ha;have r:=zd ((a+a)%m);generalize (a+a)%m=s at*;repeat' (first|refine s_0 ?_|refine zg 0 ?_;refine zi ?_;intro _;refine zi ?_;intro _;refine zi ?_;intro _|refine zg 1 ?_;refine q_v (ze (B:=zf m)) ?_;refine q_v (ze (B:=zf a)) ?_;refine q_v (ze (B:=zf a)) ?_;refine q_v (za (hc:=q_c A)) ?_;refine q_n (zj (n:=s)) ?_)
 exact zaw rfl (zz (B:=zf s) rfl (ty rfl) rfl F4 F0 (zd _).symm) F2 ⟨rfl,rfl⟩
end Go.Proofs.YtdnlngbjpdbffaaGreatDoor
namespace Go.Nt
open Go Go.Sy
theorem ztB{x k p q:Nat}(hk:k<(zbl x).length)(H:x-left k x=q*2^p)(I:left k x<2^p):
  (zbl x)[k]<p/\left (k+1) x<2^(zbl x)[k]/\x-left (k+1) x=(q*2^(p-(zbl x)[k])+1)*2^(zbl x)[k]:=by
 obtain⟨r,B⟩:=zf6 hk;obtain⟨F,G,A⟩:=zg8 _ r;have j:=zft k x;have E:=zo2 k x q_o;rw[B];generalize left k x=y at*;generalize nd 2 y=m at*;obtain⟨i,rfl⟩:∃i,m=i+1:=⟨m-1,by omega⟩;rw[B4] at*;rw[AJ] at A;have w:i<p:=by
  rcases AH i p with h|h
  ·exact h
  ·have:=AA (n:=2) q_e h;omega
 refine⟨w,by rw[j];omega,?_⟩;have C:q*2^p=q*2^(p-i)*2^i:=by rw[Ao,<-As,show p-i+i=p by omega]
 rw[AM,BN,<-C,j];omega
end Go.Nt
namespace Go.Sy
open Go
theorem Holds.both{B:Nat}{M:Nat->Prop}{L X:List Res}{w:World}{m T1 q T2:Nat}{C1 C2:List Value}(hh:Holds B M (L++X) w)(h1:Has L (.blk m T1 C1))(h2:Has L (.blk q T2 C2))(r:Res.blk m T1 C1≠ .blk q T2 C2):
  Holds w.heap.size (λx=>x=m\/x=q) [.blk m T1 C1,.blk q T2 C2] w:=by
 have C:=hh.two (F5 h1) (F5 h2) r;refine⟨λx j=>?_,?_,λx j y A=>?_⟩
 ·rcases Ag.1 j with rfl|j
  ·exact hh.has (F5 h1)
  ·rw[AF.1 j];exact hh.has (F5 h2)
 ·exact Am.2 ⟨λx j=>by rw[AF.1 j];exact C,Bh _ _⟩
 ·rcases Ag.1 j with rfl|j
  ·exact .inr (.inl (E7 A))
  ·rw[AF.1 j] at A;exact .inr (.inr (E7 A))
theorem Holds.ne{r:Nat}{M:Nat->Prop}{L X:List Res}{w:World}{j T1 m T2:Nat}{C1 C2:List Value}(hh:Holds r M (L++X) w)(h1:Has L (.blk j T1 C1))(h2:Has L (.blk m T2 C2))(q:Res.blk j T1 C1≠ .blk m T2 C2):j≠m:=λh=>
 hh.two (F5 h1) (F5 h2) q j rfl h.symm
theorem zfZ{b T j T':Nat}{C C':List Value}(h:T≠T'):FD b T C≠ .blk j T' C':=λe=>h (by injection e)
end Go.Sy
namespace Go.Proofs.YtdnlngbjpdbffaaGreatDoor
open Go Go.Sy Go.Nt Go.RowKit
attribute [local irreducible] Sy SyL SyX Sy.Fn callFunc zf z8
theorem zkb(m F r p q:Nat)(to:Nat)(V:Nat->Nat)(fd:Nat)(K cd:List Value)(w:World)(Y:p<=4000)(J:to<=p)
  (I:∀args w,(callFunc fd args).run Tryz.prog w= .ok (.enter fd args) w)(H:∀k w,q_G fd (K++[zm (V k)]++cd) w (zm (V (2*k))))
  (S:Holds w.heap.size (λx=>x=m\/x=r) [.blk m 3 [.int .i64 p],.blk r 133 (zf (V q))] w)(hc:w.cell? ⟨F,0,none⟩=some (.func (.func fd) K.toArray cd.toArray))(hn:¬(F=m\/F=r)):
  Sy.Fn Tryz.prog 322 [.int .i64 to,.pointer (some ⟨m,0,none⟩),.pointer (some ⟨F,0,none⟩),.pointer (some ⟨r,0,none⟩)] w (λx=>x=m\/x=r)
   (λ_ R=>R= [.blk m 3 [.int .i64 to],.blk r 133 (zf (V (q*2^(p-to))))]):=by
 refine zcl Tryz.func322 rfl Tryz.ntmps322 q_p S ?_;repeat' (first|refine zd4 ?_|fail)
 refine zE (γ:=Nat×Nat) (λ_=>[(0,.int .i64 to),(1,.pointer (some ⟨m,0,none⟩)),(2,.pointer (some ⟨F,0,none⟩)),(3,.pointer (some ⟨r,0,none⟩))])
  (λg=>[.blk m 3 [.int .i64 g.1],.blk r 133 (zf (V g.2))])
  (λg=>to<=g.1/\g.1<=4000/\g.2*2^(g.1-to)=q*2^(p-to)) (λg=>g.1) (p,q) ⟨J,Y,rfl⟩ ?_ ?_ ?_
 ·exact q_h
 ·exact q_h
 rintro⟨j,A⟩ ⟨O,Q,E⟩;dsimp only at O Q E ⊢;rcases AH to j with h|h
 ·have C:decide ((j:Int)>(to:Int))=true:=q_d;have G:IntKind.i64.wrap ((j:Int)-1)=((j-1:Nat):Int):=q_w;have U:=zd (V A);have W:=zd (V (2*A));have H:=H A;have E:2*A*2^(j-1-to)=q*2^(p-to):=by
   rw[<-E,show j-to=(j-1-to)+1 by omega,AJ];ac_rfl
  generalize V A=v,T:V (2*A)=Z at*;repeat' (first|refine s_t ?_|refine zg 0 ?_;refine zk ?_;refine zb ?_;refine q_v (zF (hr:=C)) ?_|refine zg 2 ?_;refine q_v (zn (hv:=hc) (hn:=hn)) ?_;refine q_v (ze (B:=zf v)) ?_;refine q_v (zem (he:=I) (hc:=λw' X hk hh=>H w')) ?_;refine q_n (zj (n:=Z)) ?_|refine zg 1 ?_;refine zk ?_;refine q_v (zH (hr:=G)) ?_;refine zS ?_)
  refine zy (j-1,2*A) ⟨by show to<=j-1;omega,by show j-1<=_;omega,E⟩ ?_ ?_ ?_
  ·show j-1<j;omega
  ·exact q_h
  ·show SubR [.blk m 3 [.int .i64 ((j-1:Nat):Int)],.blk r 133 (zf (V (2*A)))] _;rw[T];exact q_h
 ·obtain rfl:j=to:=q_o;have C:decide ((j:Int)>(j:Int))=false:=q_f;rw[C5,Ad,Af] at E;rw[<-E];repeat' (first|refine s_0 ?_|refine zg 0 ?_;refine zk ?_;refine zb ?_;refine q_v (zF (hr:=C)) ?_)
  exact ze4 rfl q_h rfl
theorem zlf(x v:Nat)(V:Nat->Nat)(fd S:Nat)(A cd Z Y:List Value)(w:World)(hx:x<18446744073709551616^16)
  (H:∀args w,(callFunc fd args).run Tryz.prog w= .ok (.enter fd args) w)(U:∀args w,(callFunc S args).run Tryz.prog w= .ok (.enter S args) w)
  (hD:∀k w,q_G fd (A++[zm (V k)]++cd) w (zm (V (2*k))))(hA:∀k w,q_G S (Z++[zm (V k),zm v]++Y) w (zm (V (k+1)))):
  q_G 292 [zm x,zm (V 0),zm v,.func (.func fd) A.toArray cd.toArray,.func (.func S) Z.toArray Y.toArray] w (zm (V x)):=by
 refine zo Tryz.func292 Tryz.ntmps292 ?_;have c5:=zd x;have c4:=zd v;have c1:=zd (V 0);have a8:=λE=>zca x E hx;have b1:=zaE 2 x q_e;have b2:=zew hx;generalize nd 2 x=p0,b0:V 0=v0 at*;repeat' (first|refine s_0 ?_|refine zg 0 ?_;refine zi ?_;intro _;refine zi ?_;intro _;refine zi ?_;intro _;refine zi ?_;intro _;refine zi ?_;intro _;refine zi ?_;intro _)
 rename_i b5 b6 b7 G b9 I;refine zb2 (id:=1) mixed ?_
 (refine zbY 5 5 [[],[],[1],[],[],[0,1,2,3,4],[0,1,2,3,4,5]] [[],[],[],[],[],[],[]] none rfl ?_ ?_ ?_;kernel_rfl;kernel_rfl;refine q_E (ze (B:=zf v0)) ?_;refine q_E (ze (B:=zf x)) ?_;refine q_E (za (hc:=q_c a8)) ?_;try refine dh_0nE (h:=?_))
 refine zcW (R:=λ_=>zgK 133 (List.replicate 16 (.int .u64 0))) (λ_ _ _=>rfl) (λρ hρ=>FF zc8 λv L' h=>?_) (h:=?_)
 ·obtain⟨b,rfl,rfl⟩:=h;exact⟨[_],rfl,b,rfl,rfl⟩
 refine zcW (R:=λ_=>zgK 3 [.int .i64 0]) (λ_ _ _=>rfl) (λρ hρ=>FF zc8 λv L' h=>?_) (h:=?_)
 ·obtain⟨b,rfl,rfl⟩:=h;exact⟨[_],rfl,b,rfl,rfl⟩
 refine zdI (h:=?_);rintro ρ ⟨⟨m,g1,g2⟩,⟨j,g3,g4⟩,-⟩
 (refine zb1 [[],[],[1],[],[],[0,1,2,3,4],[0,1,2,3,4,5]] ?_ ?_;kernel_rfl)
 refine FI (fr':=[(11,.pointer (some ⟨j,0,none⟩)),(12,.pointer (some ⟨m,0,none⟩)),(15,zm v0),(17,.int .i64 p0),(5,.pointer (some ⟨b5,0,none⟩)),(7,.pointer (some ⟨b7,0,none⟩)),(8,.pointer (some ⟨G,0,none⟩)),(9,.pointer (some ⟨b9,0,none⟩)),(10,.pointer (some ⟨I,0,none⟩))])
  (L':=[.blk j 133 (List.replicate 16 (.int .u64 0)),.blk m 3 [.int .i64 0],.blk b5 133 (zf x),.blk b7 133 (zf v),.blk G 296 [.func (.func fd) A.toArray cd.toArray],.blk b9 206 [.func (.func S) Z.toArray Y.toArray],.blk I 133 (List.replicate 16 (.int .u64 0))]) ?_ ?_ ?_
 rotate_left
 ·(repeat' (first|exact FQ|refine FX rfl ?_ ?_|rfl))
  ·exact g3
  ·exact g1
 ·show SubR _ ((ρ 4).2++((ρ 3).2++_));rw[g2,g4];exact q_h
 repeat' (first|refine s_0 ?_|refine zg 2 ?_;refine q_v zaj ?_;refine zi ?_;intro _;refine zS ?_|refine zg 3 ?_;refine q_v (ze (B:=zf x)) ?_|(refine zW ?_;first|refine q_n (zj (n:=v0)) ?_|refine zS ?_|fail)|fail)
 rename_i a6;refine q_s (zh (hc:=λE X J F=>zoy x E)) ?_;rintro _ _ ⟨R,rfl,b,rfl,rfl⟩;repeat' (first|refine s_t ?_|fail)
 rw[<-b0];refine zf8 (γ:=Nat×Nat) (xs:=zbl x) (Arg:=ztK) zcM rfl (en rfl) rfl (λk s=>x-left k x=s.2*2^s.1/\left k x<2^s.1/\s.1<=1024) (λ_ _ _=>False)
  (λs=>[.blk j 133 (zf (V s.2)),.blk m 3 [.int .i64 s.1],.blk a6 326 [.func (.func 322) #[] #[.pointer (some ⟨m,0,none⟩),.pointer (some ⟨G,0,none⟩),.pointer (some ⟨j,0,none⟩)]],.blk b7 133 (zf v),.blk G 296 [.func (.func fd) A.toArray cd.toArray],.blk b9 206 [.func (.func S) Z.toArray Y.toArray]])
  [.blk b 133 (zf x)] [.blk b5 133 (zf x),.blk I 133 (List.replicate 16 (.int .u64 0))] (p0,0) ⟨by rw[show left 0 x=x from rfl,C5,BJ],b1,b2⟩ ?_ ?_ ?_ ?_ ?_ ?_
 ·((try simp only[An,B3,AZ]);(repeat' (first|exact List.Perm.nil|exact CA _|apply zgH;with_reducible (focus ((repeat (first|exact F1|apply F3));done))|apply zgH;(focus ((repeat (first|exact F1|apply F3));done)))))
 ·exact λE Mi X J hm _ _=>zmR b x E Mi hx
 ·rintro O x vs RA E ⟨rfl,_⟩;rfl
 ·rintro lp k J ⟨p,q⟩ vs RA W rec b4 ⟨T,hp,Q⟩ ⟨rfl,rfl⟩ c0 K;dsimp only at T hp Q ⊢;clear K;obtain⟨hi,a9,a7⟩:=ztB J T hp;generalize (zbl x)[k]=i at*;have c3:=zd (V (q*2^(p-i)));have b3:=zd (V (q*2^(p-i)+1));have hA:=hA (q*2^(p-i));repeat' (first|refine s_t ?_|apply zbT;(focus ((repeat (first|exact F1|apply F3));done));assumption|refine q_k 4 ?_|refine zg 5 ?_;refine zk ?_;refine zb ?_)
  refine q_s (zei (vs:=[.int .i64 i]) (cap:=[.pointer (some ⟨m,0,none⟩),.pointer (some ⟨G,0,none⟩),.pointer (some ⟨j,0,none⟩)]) (C:=[.blk m 3 [.int .i64 p],.blk j 133 (zf (V q))]) (M':=λx=>x=m\/x=j)
   (hC:=FH (by repeat (first|exact F1|apply F3)) rfl (FH (by repeat (first|exact F1|apply F3)) rfl FP)) (hM:=λb hb=>by
    rcases hb with rfl|rfl
    ·exact⟨_,A5 ..,rfl⟩
    ·exact⟨_,A9 _ (AF.2 rfl),rfl⟩)
   (hc:=λE X J F=>zkb m G j p q i V fd A cd E q_o q_o H hD (F.both F4 F4 (zfZ q_e)) (zp (F.has (r:=.blk G 296 [.func (.func fd) A.toArray cd.toArray]) q_h) F0 0 _ rfl)
    (λe=>e.elim (F.ne (C1:=[.func (.func fd) A.toArray cd.toArray]) (T1:=296) (C2:=[.int .i64 p]) (T2:=3) F4 F4 (zfZ q_e)) (F.ne (C1:=[.func (.func fd) A.toArray cd.toArray]) (T1:=296) (C2:=zf (V q)) (T2:=133) F4 F4 (zfZ q_e))))) ?_
  rintro _ _ ⟨R,rfl,rfl⟩;repeat' (first|refine s_0 ?_|refine zg 6 ?_;refine zk ?_;refine q_v (ze (B:=zf (V (q*2^(p-i))))) ?_;refine q_v (ze (B:=zf v)) ?_;refine q_v (zem (he:=U) (hc:=λE X J F=>hA E)) ?_;refine q_n (zj (n:=V (q*2^(p-i)+1))) ?_)
  refine zfR (i,q*2^(p-i)+1) ⟨a7,a9,by show i<=1024;omega⟩ ?_;dsimp only;exact q_h
 ·rintro⟨p,q⟩ ⟨T,-,Q⟩;rw[zjK,Nat.sub_zero] at T;dsimp only at T Q ⊢;repeat' (first|refine zb0 ?_|refine zg9 ?_|refine zg 7 ?_;refine zk ?_)
  refine q_s (zei (vs:=[.int .i64 (0:Nat)]) (cap:=[.pointer (some ⟨m,0,none⟩),.pointer (some ⟨G,0,none⟩),.pointer (some ⟨j,0,none⟩)]) (C:=[.blk m 3 [.int .i64 p],.blk j 133 (zf (V q))]) (M':=λx=>x=m\/x=j)
   (hC:=FH (by repeat (first|exact F1|apply F3)) rfl (FH (by repeat (first|exact F1|apply F3)) rfl FP)) (hM:=λb hb=>by
    rcases hb with rfl|rfl
    ·exact⟨_,A5 ..,rfl⟩
    ·exact⟨_,A9 _ (AF.2 rfl),rfl⟩)
   (hc:=λE X J F=>zkb m G j p q 0 V fd A cd E q_o q_o H hD (F.both F4 F4 (zfZ q_e)) (zp (F.has (r:=.blk G 296 [.func (.func fd) A.toArray cd.toArray]) q_h) F0 0 _ rfl)
    (λe=>e.elim (F.ne (C1:=[.func (.func fd) A.toArray cd.toArray]) (T1:=296) (C2:=[.int .i64 p]) (T2:=3) F4 F4 (zfZ q_e)) (F.ne (C1:=[.func (.func fd) A.toArray cd.toArray]) (T1:=296) (C2:=zf (V q)) (T2:=133) F4 F4 (zfZ q_e))))) ?_
  rintro _ _ ⟨R,rfl,rfl⟩;rw[CM,<-T];have c2:=zd (V x);repeat' (first|refine s_0 ?_|refine zg 8 ?_;refine q_v (ze (B:=zf (V x))) ?_;refine q_n (zj (n:=V x)) ?_)
  exact zaw rfl (zz (B:=zf (V x)) rfl (ty rfl) rfl F4 F0 (zd _).symm) F2 ⟨rfl,rfl⟩
 ·rintro _ k s J h;exact h.elim
end Go.Proofs.YtdnlngbjpdbffaaGreatDoor
