/- Lemmas of this proof. -/
import Derived.Test.YtdnlngbjpdbffaaGreatDoorHJ15
set_option maxHeartbeats 1000000
set_option maxRecDepth 10000
set_option linter.all false
namespace Go.Sy
open Go
variable {P:Program}{ro:Option Nat}{N:Nat}{w0:World}{M:Nat->Prop}{ds:List Deferred}{o:Oper}{g:Nat->Option Value}{L:List Res}{t:TypeId}{y:Ty}
theorem zly(z0:Value)(s n:Nat):madeCells (List.replicate s z0).toArray n=(List.replicate n z0).toArray\/s=0:=by
 rcases AM s with h|h
 ·exact .inr h
 ·left
  unfold madeCells;apply Array.ext
  ·simp
  ·intro k m q;have j:k%s<s:=AG _ h;simp[j]
theorem zhc{len e:Nat}{parts:Array (Nat×Operand)}{vs C:List Value}{z0:Value}{ye:Ty}(he:zag P e=some ye)(hz:za8 P e=some (List.replicate ye.size z0))(V:FillTo (λi=>some (i*ye.size,ye.size)) (List.zip (parts.toList.map (·.1)) vs) (List.replicate (len*ye.size) z0) C)
  (hs:len*ye.size<=16777216)(q:0<len*ye.size)(J:o.op= .buildSlice t len parts:=by exact rfl)(hv:evs g (parts.toList.map (·.2))=some vs:=by exact rfl)(ht:zag P t=some y:=by exact ty rfl)(hy:y.desc= .slice e:=by exact rfl):
  OpT P ro N w0 M ds o g L (λv K=>∃b,v= .slice (some ⟨b,0,none⟩) len len/\K= .blk b e C::L):=
 F5 (by rw[J];rfl) λa w X B=>by
  obtain⟨d,i',T,W,A,_⟩:=zU ht;rw[hy] at A;have:=zbg A;subst this;obtain⟨de,I,U,m,_,j,_⟩:=zU he;obtain⟨Q,R⟩:=zbL B e C;unfold za8 at hz;rw[m] at hz;simp only[AW,AV] at hz;obtain⟨E,H,F⟩:=hz;have G:E.cells=(List.replicate ye.size z0).toArray:=B5.1 (by rw[F]);have Z:((parts.map λ(i,x)=>(i,a.eval x)).toList)=List.zip (parts.toList.map (·.1)) vs:=by
   have:=B.agr.evals hv;rw[<-this,BZ,DJ];generalize parts.toList=l
   induction l with
   |nil=>rfl
   |cons p l ih=>simp only[As,DA,ih];rfl
  have Y:madeCells E.cells (len*I.size)=(List.replicate (len*ye.size) z0).toArray:=by
   rw[G,j];rcases zly z0 ye.size (len*ye.size) with h|h
   ·exact h
   ·rw[h,Ed] at q;omega
  have r:=run_buildSlice (P:=P) w t e len (parts.map λ(i,x)=>(i,a.eval x)) C.toArray I E T m H (by rw[j];omega) (by rw[j];omega) (by
   rw[Z];have S:=zi2 V;have O:(Array.range (len*I.size)).map (E.cells[· % E.cells.size]!)=(List.replicate (len*ye.size) z0).toArray:=Y;rw[O,j];exact S)
  refine⟨_,_,w.alloc (.cells C.toArray e),_,?_,.inl rfl,⟨w.heap.size,rfl,rfl⟩,Q,R⟩;simp[execOp,J,r]
theorem zs8{e n:Nat}{lo co:Operand}{k1 k2:IntKind}{z0:Value}{l c:Int}{ye:Ty}(hz:za8 P e=some (List.replicate ye.size z0))(he:zag P e=some ye)(hb:ye.bytes*n<=281474976710656)(hm:n<=maxLen)(a6:0<ye.size)(E:l=(n:Int):=by exact rfl)(r:c=(n:Int):=by exact rfl)
  (K:o.op= .makeSlice t lo co:=by exact rfl)(Y:ev g lo=some (.int k1 l):=by exact rfl)(hc:ev g co=some (.int k2 c):=by exact rfl)(ht:zag P t=some y:=by exact ty rfl)(hy:y.desc= .slice e:=by exact rfl):
  OpT P ro N w0 M ds o g L (λv Q=>∃b,v= .slice (some ⟨b,0,none⟩) n n/\Q= .blk b e (List.replicate (n*ye.size) z0)::L):=
 F5 (by rw[K];rfl) λa w X j=>by
  obtain⟨d,i',U,W,q,_⟩:=zU ht;rw[hy] at q;have:=zbg q;subst this;obtain⟨de,O,V,m,_,B,A,_⟩:=zU he;unfold za8 at hz;rw[m] at hz;simp only[AW,AV] at hz;obtain⟨J,I,G⟩:=hz;subst E;subst r;obtain⟨S,T⟩:=zbL j e (List.replicate (n*ye.size) z0);refine⟨_,_,w.alloc (.cells (List.replicate (n*ye.size) z0).toArray e),_,?_,.inl rfl,⟨w.heap.size,rfl,rfl⟩,S,T⟩;have Z:n<=9223372036854775807:=by unfold maxLen at hm;omega
  have H:J.cells=(List.replicate ye.size z0).toArray:=B5.1 (by rw[G]);have F:=run_make (P:=P) w t e O J U m I k1 k2 n n q_o q_o (by rw[A,<-BW];omega) q_o;simp only[Bc] at F;have R:madeCells J.cells (n*O.size)=(List.replicate (n*ye.size) z0).toArray:=by
   rw[B,H];rcases zly z0 ye.size (n*ye.size) with h|h
   ·exact h
   ·omega
  rw[R] at F;simp[execOp,K,j.agr.eval Y,j.agr.eval hc,F]
end Go.Sy
namespace Go.Nt
open Go Go.Sy
def zad(l:List Nat):List Value:=l.flatMap zg
theorem zfk(l:List Nat):(zad l).length=l.length*16:=by
 induction l with
 |nil=>rfl
 |cons x l ih=>
  show(zg x++zad l).length=_;rw[A3,zb,ih,AO];omega
theorem zjN(l m:List Nat):zad (l++m)=zad l++zad m:=CD
theorem zgx(x:Nat)(l:List Nat):zad (x::l)=zg x++zad l:=rfl
theorem zps{l:List Nat}{i x:Nat}(h:l[i]?=some x):zad l=zad (l.take i)++zg x++zad (l.drop (i+1))/\(zad (l.take i)).length=i*16:=by
 obtain⟨m,j⟩:=AL.1 h;have e:l=l.take i++x::l.drop (i+1):=by
  rw[<-j,List.getElem_cons_drop,BV]
 refine⟨?_,by rw[zfk,Ad];omega⟩
 conv=>lhs;rw[e]
 rw[zjN,zgx,AF]
theorem zdN{l:List Nat}{i x:Nat}(h:l[i]?=some x):Seg (zad l) (i*16) (zg x):=by
 obtain⟨e,j⟩:=zps h;rw[e,<-j];exact Seg.mid
theorem zhK{l:List Nat}{i:Nat}(x:Nat)(h:i<l.length):zaz (zad l) (i*16) (zg x)=zad (l.set i x):=by
 obtain⟨e,m⟩:=zps (A2 h);have j:l.set i x=l.take i++x::l.drop (i+1):=by
  rw[List.set_eq_take_append_cons_drop,if_pos h]
 rw[j,zjN,zgx];unfold zaz;rw[zb,e,<-m];have t1:(zad (l.take i)++zg l[i]++zad (l.drop (i+1))).take (zad (l.take i)).length=zad (l.take i):=by rw[AF,Dx]
 have t2:(zad (l.take i)++zg l[i]++zad (l.drop (i+1))).drop ((zad (l.take i)).length+16)=zad (l.drop (i+1)):=by
  rw[show(zad (l.take i)).length+16=(zad (l.take i)++zg l[i]).length by rw[A3,zb],ES]
 rw[t1,t2,AF]
theorem zhj(n:Nat):List.replicate (n*16) (Value.int IntKind.u64 0)=zad (List.replicate n 0):=by
 induction n with
 |zero=>rfl
 |succ n ih=>
  rw[Cx,zgx,<-ih,show(n+1)*16=16+n*16 by omega,<-DR];unfold zg;rw[zg9,BU];rfl
theorem zua(x:Nat):zad [x]=zg x:=AH _
end Go.Nt
namespace Go.Proofs.YtdnlngbjpdbffaaGreatDoor
open Go Go.Sy Go.Nt Go.RowKit
attribute [local irreducible] Sy SyL SyX Sy.Fn callFunc zg zad
variable {ro:Option Nat}{N:Nat}{w0:World}{M:Nat->Prop}{ds:List Deferred}{g:Nat->Option Value}{L:List Res}{o:Oper}{z z':Operand}
theorem zbX{x:Nat}(m:o.op= .buildSlice 150 1 #[(0,z)]:=by exact rfl)(hz:ev g z=some (zu x):=by exact rfl):
  OpT Tryz.prog ro N w0 M ds o g L (λv j=>∃b,v= .slice (some ⟨b,0,none⟩) 1 1/\j= .blk b 133 (zad [x])::L):=
 zhc (parts:=#[(0,z)]) (vs:=[zu x]) (z0:=.int .u64 0) (ty rfl) (zc rfl) (by
  refine .cons (cs:=zg x) rfl rfl (zb x) (A6 rfl) ?_;have:=zhK (l:=[0]) (i:=0) x q_e;rw[show[0].set 0 x= [x] from rfl] at this;rw[<-this,show[0]=List.replicate 1 0 from rfl,<-zhj];exact .nil) q_e q_e m (by simp[evs,hz])
theorem zeO{x x':Nat}(r:o.op= .buildSlice 150 2 #[(0,z),(1,z')]:=by exact rfl)(hz:ev g z=some (zu x):=by exact rfl)(j:ev g z'=some (zu x'):=by exact rfl):
  OpT Tryz.prog ro N w0 M ds o g L (λv q=>∃b,v= .slice (some ⟨b,0,none⟩) 2 2/\q= .blk b 133 (zad [x,x'])::L):=
 zhc (parts:=#[(0,z),(1,z')]) (vs:=[zu x,zu x']) (z0:=.int .u64 0) (ty rfl) (zc rfl) (by
  have h0:=zhK (l:=[0,0]) (i:=0) x q_e;have m:=zhK (l:=[x,0]) (i:=1) x' q_p;rw[show[0,0].set 0 x= [x,0] from rfl] at h0;rw[show[x,0].set 1 x'= [x,x'] from rfl] at m;refine .cons (cs:=zg x) rfl rfl (zb x) (A6 rfl) ?_;rw[show List.replicate (2*_) (Value.int IntKind.u64 0)=zad [0,0] from zhj 2];refine .cons (cs:=zg x') rfl rfl (zb x') (by
   show 1*16+16<=(zaz (zad [0,0]) (0*16) (zg x)).length;rw[h0,zfk];simp) ?_
  show FillTo _ _ (zaz (zaz (zad [0,0]) (0*16) (zg x)) (1*16) (zg x')) _;rw[h0,m];exact .nil) q_e q_e r (by simp[evs,hz,j])
theorem zs3{n:Nat}{k1 k2:IntKind}{l c:Int}(hn:n<=1000)(m:l=(n:Int):=by exact rfl)(j:c=(n:Int):=by exact rfl)(w:o.op= .makeSlice 150 z z':=by exact rfl)(r:ev g z=some (.int k1 l):=by exact rfl)(hc:ev g z'=some (.int k2 c):=by exact rfl):
  OpT Tryz.prog ro N w0 M ds o g L (λv q=>∃b,v= .slice (some ⟨b,0,none⟩) n n/\q= .blk b 133 (zad (List.replicate n 0))::L):=by
 have h:=zs8 (P:=Tryz.prog) (ro:=ro) (N:=N) (w0:=w0) (M:=M) (ds:=ds) (o:=o) (g:=g) (L:=L) (t:=150) (e:=133) (n:=n) (lo:=z) (co:=z') (z0:=.int .u64 0) (zc rfl) (ty rfl) (show 128*n<=_ by omega) (by unfold maxLen;omega) (show 0<16 by decide) m j w r hc (ty rfl) rfl;rw[<-zhj];exact h
theorem zbk{b off n c j:Nat}{k:IntKind}{i:Int}(q:o.op= .indexAddr 150 z z':=by exact rfl)(hx:ev g z=some (.slice (some ⟨b,off,none⟩) n c):=by exact rfl)(hz:ev g z'=some (.int k i):=by exact rfl)(m:i=(j:Int):=by exact rfl)(hj:j<n:=by omega):
  OpT Tryz.prog ro N w0 M ds o g L (Det (.pointer (some ⟨b,off+j*16,none⟩)) L):=
 zS (ye:=_) q hx hz (ty rfl) rfl (ty rfl) m hj
theorem zjf(m n c:Nat)(l:List Nat)(J K:Nat)(w:World)(hm:m<18446744073709551616^16)(h0:0<m)(X:l.length=n)(hn:n<=1000)(G:∀x∈l,x<18446744073709551616^16)(hs:w.rangeAt J K (zad l)):
  Sy.Fn Tryz.prog 243 [zu m,.slice (some ⟨J,K,none⟩) n c] w No (λv R=>∃b,v= .slice (some ⟨b,0,none⟩) n n/\R= [.blk b 133 (zad (l.map (· % m)))]):=by
 refine zz Tryz.func243 Tryz.ntmps243 ?_;have Y:=zb m;repeat' (first|refine s_0 ?_|refine ze 0 ?_;refine z9 ?_;intro _|refine q_k 1 ?_)
 refine q_s (zs3 (n:=n) hn) ?_;rintro _ _ ⟨A,rfl,rfl⟩;repeat' (first|refine s_t ?_|refine q_k 2 ?_|(refine zx ?_;first|refine zo ?_|fail)|fail)
 rename_i O;refine zX (γ:=Nat) (λk=>[(2,.pointer (some ⟨O,0,none⟩)),(5,.slice (some ⟨A,0,none⟩) n n),(11,.slice (some ⟨J,K,none⟩) n c),(12,.int .i64 n),(13,.int .i64 k)])
  (λk=>[.blk A 133 (zad ((l.map (· % m)).take k++List.replicate (n-k) 0)),.blk O 227 (zg m)])
  (λk=>k<=n) (λk=>n-k) 0 (AE _) ?_ ?_ ?_
 ·exact q_h
 ·show SubR [.blk A 133 (zad (List.replicate n 0)),.blk O 227 (zg m)] _;exact q_h
 intro k hk;rcases AK k n with h|h
 ·obtain⟨x,S⟩:∃x,l[k]?=some x:=⟨_,A2 q_o⟩;have T:=G x (BE S);have I:w.rangeAt J (K+k*16) (zg x):=λj v W=>by
   have:=hs (k*16+j) v (zdN S j v W);rwa[<-BH] at this
  have V:=λw'=>zr5 x m w' T hm h0;have a7:=zb x;have Z:=zb (x/m);have a6:=zb (x%m);have F:decide ((k:Int)<(n:Int))=true:=q_d;have E:=zhK (l:=(l.map (· % m)).take k++List.replicate (n-k) 0) (i:=k) (x%m) (by simp;omega);rw[zhy (l.map (· % m)) 0 (x%m) n k (by rw[Ak,S];rfl) h (by simpa using X)] at E;have H:=zfk ((l.map (· % m)).take k++List.replicate (n-k) 0);have U:((l.map (· % m)).take k++List.replicate (n-k) 0).length=n:=by simp;omega
  rw[U] at H;generalize x%m=r,x/m=q,Q:zad ((l.map (· % m)).take (k+1)++List.replicate (n-(k+1)) 0)=C',zad ((l.map (· % m)).take k++List.replicate (n-k) 0)=C at*;repeat' (first|refine s_t ?_|refine ze 3 ?_;refine q_v (zm (hr:=F)) ?_|refine q_k 4 ?_;refine q_v (zbk (j:=k)) ?_;refine q_v (zK (B:=zg x) (hv:=I)) ?_;refine z9 ?_;intro _;refine q_n (zk (n:=x)) ?_|refine q_k 5 ?_;refine q_x (zd (B:=zg x)) ?_;refine q_v (zd (B:=zg m)) ?_;refine q_v (za (hc:=q_c V)) ?_;refine zf ?_;refine q_v (zbk (j:=k)) ?_;refine q_n (zdi (B:=zg r) (hv:=zfa r) (h1:=(zb r).symm)) ?_|refine ze 6 ?_;refine za9 ?_;refine zf ?_)
  refine zQ (k+1) ?_ ?_ ?_ ?_
  ·show k+1<=n;omega
  ·show n-(k+1)<n-k;omega
  ·exact q_h
  ·show SubR [.blk A 133 (zad ((l.map (· % m)).take (k+1)++List.replicate (n-(k+1)) 0)),.blk O 227 (zg m)] _;rw[Q,<-E]
   (repeat' (first|exact El|apply Es;with_reducible (focus ((repeat (first|exact Ej|apply Ek));done))|apply Ez;(focus ((repeat (first|exact Ej|apply Ek));done))|apply Ew;(focus ((repeat (first|exact Ej|apply Ek));done))|rfl))
   rw[AU]
 ·obtain rfl:k=n:=q_o;have F:decide ((k:Int)<(k:Int))=false:=q_f;rw[A9 (by rw[A1];omega),C5,CV,AH];repeat' (first|refine s_0 ?_|refine ze 3 ?_;refine q_v (zm (hr:=F)) ?_|refine q_k 7 ?_)
  exact zaq rfl (zj rfl) q_h ⟨A,rfl,rfl⟩
theorem zo8{x y:Nat}(h:y<=x):zcc x y>=0:=by
 unfold zcc;rw[if_neg q_o];split <;> omega
theorem zeN(m x b:Nat)(w:World)(hm:m<18446744073709551616^16)(h0:0<m)(hx:x<18446744073709551616^16)(j:w.rangeAt b 0 (zad [x])):
  Sy.Fn Tryz.prog 243 [zu m,.slice (some ⟨b,0,none⟩) 1 1] w No (λv R=>∃b,v= .slice (some ⟨b,0,none⟩) 1 1/\R= [.blk b 133 (zg (x%m))]):=by
 have h:=zjf m 1 1 [x] b 0 w hm h0 rfl q_e (λy q=>by rw[AC.1 q];exact hx) j;rw[show[x].map (· % m)= [x%m] from rfl,zua] at h;exact h
theorem zis(m x y b:Nat)(w:World)(hm:m<18446744073709551616^16)(h0:0<m)(hx:x<18446744073709551616^16)(r:y<18446744073709551616^16)(q:w.rangeAt b 0 (zad [x,y])):
  Sy.Fn Tryz.prog 243 [zu m,.slice (some ⟨b,0,none⟩) 2 2] w No (λv R=>∃b,v= .slice (some ⟨b,0,none⟩) 2 2/\R= [.blk b 133 (zad [x%m,y%m])]):=
 zjf m 2 2 [x,y] b 0 w hm h0 rfl q_e (λz j=>by
  rcases AQ.1 j with rfl|j
  ·exact hx
  ·rw[AC.1 j];exact r) q
theorem zqG(x y:Nat):Seg (zad [x,y]) (0*16) (zg x)/\Seg (zad [x,y]) (1*16) (zg y):=⟨zdN rfl,zdN rfl⟩
theorem zxf(m:Nat)(w:World)(hm:m<18446744073709551616^16)(h0:0<m):
  q_G 299 [zu m] w (zu (1%m)):=by
 refine zz Tryz.func299 Tryz.ntmps299 ?_;have H:=zb m;have G:=zb 1;have E:=λq=>zhB 1 q q_e;have A:1<18446744073709551616^16:=by decide
 have I:=zb (1%m);have J:=λq b (h:q.rangeAt b 0 (zad [1]))=>zeN m 1 b q hm h0 A h;generalize 1%m=r at*;repeat' (first|refine s_0 ?_|refine ze 0 ?_;refine zi ?_;intro _;refine zi ?_;intro _|refine ze 1 ?_;refine q_v (za (hc:=q_c E)) ?_;refine zf ?_;refine zi ?_;intro _;refine q_y (zk (n:=1)) ?_|refine ze 2 ?_;refine q_v (zd (B:=zg m)) ?_;refine q_v (zd (B:=zg 1)) ?_|refine q_s (zbX (x:=1)) ?_;rintro _ _ ⟨K,rfl,rfl⟩|(refine zx ?_;first|refine q_s (zn (hc:=λq X O F=>J q _ (zq (F.has (by exact Et Ev)) Em))) ?_;rintro _ _ ⟨R,rfl,bc,rfl,rfl⟩|refine q_v (zbk (j:=0)) ?_|refine q_v (zd (B:=zg r)) ?_|refine q_n (zk (n:=r)) ?_|fail)|fail)
 exact zaq rfl (zB (B:=zg r) rfl (ty rfl) rfl En Em (zb _).symm) El ⟨rfl,rfl⟩
theorem zki(m a b:Nat)(w:World)(hm:m<18446744073709551616^16)(ha:a<m)(hb:b<m):
  q_G 245 [zu m,zu a,zu b] w (zu ((a+b)%m)):=by
 refine zz Tryz.func245 Tryz.ntmps245 ?_;have Q:=zb m;have K:=zb a;have O:=zb b;have q:=Ah ha hm;have r:=Ah hb hm;have H:=λj=>zdg b j r;rcases AM b with h|h
 ·subst h;rw[Bi,AA ha];repeat' (first|refine s_0 ?_|refine ze 0 ?_;refine zi ?_;intro _;refine zi ?_;intro _;refine zi ?_;intro _;refine zi ?_;intro _|refine ze 1 ?_;refine q_v (zd (B:=zg 0)) ?_;refine q_v (za (hc:=q_c H)) ?_|refine ze 2 ?_;refine q_v (zd (B:=zg a)) ?_;refine q_n (zk (n:=a)) ?_)
  exact zaq rfl (zB (B:=zg a) rfl (ty rfl) rfl En Em (zb _).symm) El ⟨rfl,rfl⟩
 ·simp only[decide_eq_false (show ¬b=0 by omega)] at H;have J:=λj=>zj4 m b j hm r;rw[if_pos (Bh hb)] at J;have F:m-b<18446744073709551616^16:=BQ (Ec _ _) hm;have hc:=λj=>zdn a (m-b) j q F;have R:=zb (m-b);rcases AK a (m-b) with G|G
  ·rw[zk2 G] at hc;have E:=λj=>zrM a b j q r;rw[if_pos (Ah (show a+b<m by omega) hm)] at E;rw[AA (show a+b<m by omega)];have I:=zb (a+b);generalize a+b=s,m-b=o at*;repeat' (first|refine s_0 ?_|refine ze 0 ?_;refine zi ?_;intro _;refine zi ?_;intro _;refine zi ?_;intro _;refine zi ?_;intro _|refine ze 1 ?_;refine q_v (zd (B:=zg b)) ?_;refine q_v (za (hc:=q_c H)) ?_|refine q_k 3 ?_;refine q_v (zd (B:=zg m)) ?_;refine q_v (zd (B:=zg b)) ?_;refine q_v (za (hc:=q_c J)) ?_;refine zf ?_;refine zi ?_;intro _;refine q_y (zk (n:=o)) ?_|refine ze 4 ?_;refine q_v (zd (B:=zg a)) ?_;refine q_v (zd (B:=zg o)) ?_;refine q_v (za (hc:=q_c hc)) ?_;refine q_v zai ?_|refine ze 7 ?_;refine q_v (zd (B:=zg a)) ?_;refine q_v (zd (B:=zg b)) ?_;refine q_v (za (hc:=q_c E)) ?_;refine zf ?_;refine zi ?_;intro _;refine q_y (zk (n:=s)) ?_|refine ze 8 ?_;refine q_v (zd (B:=zg s)) ?_;refine q_n (zk (n:=s)) ?_)
   exact zaq rfl (zB (B:=zg s) rfl (ty rfl) rfl En Em (zb _).symm) El ⟨rfl,rfl⟩
  ·have A:decide (zcc a (m-b)>=0)=true:=decide_eq_true (zo8 G);have E:=λj=>zj4 a (m-b) j q F;rw[if_pos G] at E;rw[show a+b=a-(m-b)+m by omega,Nat.add_mod_right,AA (show a-(m-b)<m by omega)];have I:=zb (a-(m-b));generalize m-b=o,a-(m-b)=s,zcc a (m-b)=S at*;repeat' (first|refine s_0 ?_|refine ze 0 ?_;refine zi ?_;intro _;refine zi ?_;intro _;refine zi ?_;intro _;refine zi ?_;intro _|refine ze 1 ?_;refine q_v (zd (B:=zg b)) ?_;refine q_v (za (hc:=q_c H)) ?_|refine q_k 3 ?_;refine q_v (zd (B:=zg m)) ?_;refine q_v (zd (B:=zg b)) ?_;refine q_v (za (hc:=q_c J)) ?_;refine zf ?_;refine zi ?_;intro _;refine q_y (zk (n:=o)) ?_|refine ze 4 ?_;refine q_v (zd (B:=zg a)) ?_;refine q_v (zd (B:=zg o)) ?_;refine q_v (za (hc:=q_c hc)) ?_;refine q_v (zai (hr:=A)) ?_|refine ze 5 ?_;refine q_v (zd (B:=zg a)) ?_;refine q_v (zd (B:=zg o)) ?_;refine q_v (za (hc:=q_c E)) ?_;refine zf ?_;refine zi ?_;intro _;refine q_y (zk (n:=s)) ?_|refine ze 6 ?_;refine q_v (zd (B:=zg s)) ?_;refine q_n (zk (n:=s)) ?_)
   exact zaq rfl (zB (B:=zg s) rfl (ty rfl) rfl En Em (zb _).symm) El ⟨rfl,rfl⟩
theorem zmi(m a b:Nat)(w:World)(hm:m<18446744073709551616^16)(ha:a<m)(hb:b<m):
  q_G 215 [zu m,zu a,zu b] w (zu (dm m a b)):=by
 refine zz Tryz.func215 Tryz.ntmps215 ?_;have R:=zb m;have O:=zb a;have Q:=zb b;have j:=Ah ha hm;have q:=Ah hb hm;have hc:=λr=>zdn a b r j q;rcases AK a b with G|G
 ·rw[zk2 G] at hc;have K:=λr=>zj4 m b r hm q;rw[if_pos (Bh hb)] at K;have J:m-b<18446744073709551616^16:=BQ (Ec _ _) hm;have S:=zb (m-b);have E:=λr=>zrM a (m-b) r j J;have F:a+(m-b)<m:=q_o;rw[if_pos (Ah F hm)] at E;have H:dm m a b=a+(m-b):=by unfold dm;rw[AA hb,AA F]
  rw[H];have I:=zb (a+(m-b));generalize m-b=o,a+(m-b)=s at*;repeat' (first|refine s_0 ?_|refine ze 0 ?_;refine zi ?_;intro _;refine zi ?_;intro _;refine zi ?_;intro _;refine zi ?_;intro _|refine ze 1 ?_;refine q_v (zd (B:=zg a)) ?_;refine q_v (zd (B:=zg b)) ?_;refine q_v (za (hc:=q_c hc)) ?_;refine q_v zai ?_|refine q_k 4 ?_;refine q_v (zd (B:=zg m)) ?_;refine q_v (zd (B:=zg b)) ?_;refine q_v (za (hc:=q_c K)) ?_;refine zf ?_;refine zi ?_;intro _;refine q_y (zk (n:=o)) ?_|refine ze 5 ?_;refine q_v (zd (B:=zg a)) ?_;refine q_v (zd (B:=zg o)) ?_;refine q_v (za (hc:=q_c E)) ?_;refine zf ?_;refine zi ?_;intro _;refine q_y (zk (n:=s)) ?_|refine ze 6 ?_;refine q_v (zd (B:=zg s)) ?_;refine q_n (zk (n:=s)) ?_)
  exact zaq rfl (zB (B:=zg s) rfl (ty rfl) rfl En Em (zb _).symm) El ⟨rfl,rfl⟩
 ·have A:decide (zcc a b>=0)=true:=decide_eq_true (zo8 G);have E:=λr=>zj4 a b r j q;rw[if_pos G] at E;have H:dm m a b=a-b:=by
   unfold dm;rw[AA hb,show a+(m-b)=a-b+m by omega,Nat.add_mod_right,AA q_o]
  rw[H];have I:=zb (a-b);generalize a-b=s,zcc a b=T at*;repeat' (first|refine s_0 ?_|refine ze 0 ?_;refine zi ?_;intro _;refine zi ?_;intro _;refine zi ?_;intro _;refine zi ?_;intro _|refine ze 1 ?_;refine q_v (zd (B:=zg a)) ?_;refine q_v (zd (B:=zg b)) ?_;refine q_v (za (hc:=q_c hc)) ?_;refine q_v (zai (hr:=A)) ?_|refine ze 2 ?_;refine q_v (zd (B:=zg a)) ?_;refine q_v (zd (B:=zg b)) ?_;refine q_v (za (hc:=q_c E)) ?_;refine zf ?_;refine zi ?_;intro _;refine q_y (zk (n:=s)) ?_|refine ze 3 ?_;refine q_v (zd (B:=zg s)) ?_;refine q_n (zk (n:=s)) ?_)
  exact zaq rfl (zB (B:=zg s) rfl (ty rfl) rfl En Em (zb _).symm) El ⟨rfl,rfl⟩
theorem zrg(m a:Nat)(w:World)(hm:m<18446744073709551616^16)(ha:a<m):
  q_G 293 [zu m,zu a] w (zu ((a+a)%m)):=by
 refine zz Tryz.func293 Tryz.ntmps293 ?_;have q:=zb m;have j:=zb a;have A:=λE=>zki m a a E hm ha ha;have r:=zb ((a+a)%m);generalize (a+a)%m=s at*;repeat' (first|refine s_0 ?_|refine ze 0 ?_;refine zi ?_;intro _;refine zi ?_;intro _;refine zi ?_;intro _|refine ze 1 ?_;refine q_v (zd (B:=zg m)) ?_;refine q_v (zd (B:=zg a)) ?_;refine q_v (zd (B:=zg a)) ?_;refine q_v (za (hc:=q_c A)) ?_;refine q_n (zk (n:=s)) ?_)
 exact zaq rfl (zB (B:=zg s) rfl (ty rfl) rfl En Em (zb _).symm) El ⟨rfl,rfl⟩
end Go.Proofs.YtdnlngbjpdbffaaGreatDoor
namespace Go.Nt
open Go Go.Sy
theorem zt3{x k p q:Nat}(hk:k<(zbt x).length)(I:x-left k x=q*2^p)(hp:left k x<2^p):
  (zbt x)[k]<p/\left (k+1) x<2^(zbt x)[k]/\x-left (k+1) x=(q*2^(p-(zbt x)[k])+1)*2^(zbt x)[k]:=by
 obtain⟨r,B⟩:=zf6 hk;obtain⟨G,H,A⟩:=zg8 _ r;have j:=zfB k x;have F:=zoR k x q_o;rw[B];generalize left k x=y at*;generalize nd 2 y=m at*;obtain⟨i,rfl⟩:∃i,m=i+1:=⟨m-1,by omega⟩;rw[B8] at*;rw[AS] at A;have w:i<p:=by
  rcases AK i p with h|h
  ·exact h
  ·have:=AR (n:=2) q_e h;omega
 refine⟨w,by rw[j];omega,?_⟩;have E:q*2^p=q*2^(p-i)*2^i:=by rw[BN,<-B6,show p-i+i=p by omega]
 rw[BL,Bm,<-E,j];omega
end Go.Nt
namespace Go.Sy
open Go
theorem Holds.both{B:Nat}{M:Nat->Prop}{L X:List Res}{w:World}{m T1 q T2:Nat}{C1 C2:List Value}(hh:Holds B M (L++X) w)(h1:Has L (.blk m T1 C1))(h2:Has L (.blk q T2 C2))(r:Res.blk m T1 C1≠ .blk q T2 C2):
  Holds w.heap.size (λx=>x=m\/x=q) [.blk m T1 C1,.blk q T2 C2] w:=by
 have E:=hh.two (Et h1) (Et h2) r;refine⟨λx j=>?_,?_,λx j y A=>?_⟩
 ·rcases AQ.1 j with rfl|j
  ·exact hh.has (Et h1)
  ·rw[AC.1 j];exact hh.has (Et h2)
 ·exact Ai.2 ⟨λx j=>by rw[AC.1 j];exact E,Ba _ _⟩
 ·rcases AQ.1 j with rfl|j
  ·exact .inr (.inl (Da A))
  ·rw[AC.1 j] at A;exact .inr (.inr (Da A))
theorem Holds.ne{r:Nat}{M:Nat->Prop}{L X:List Res}{w:World}{j T1 m T2:Nat}{C1 C2:List Value}(hh:Holds r M (L++X) w)(h1:Has L (.blk j T1 C1))(h2:Has L (.blk m T2 C2))(q:Res.blk j T1 C1≠ .blk m T2 C2):j≠m:=λh=>
 hh.two (Et h1) (Et h2) q j rfl h.symm
theorem zf1{b T m j:Nat}{C C':List Value}(h:T≠j):Res.blk b T C≠ .blk m j C':=λe=>h (by injection e)
end Go.Sy
namespace Go.Proofs.YtdnlngbjpdbffaaGreatDoor
open Go Go.Sy Go.Nt Go.RowKit
attribute [local irreducible] Sy SyL SyX Sy.Fn callFunc zg zad
theorem zkB(m G r p q:Nat)(to:Nat)(V:Nat->Nat)(fd:Nat)(O cd:List Value)(w:World)(hp:p<=4000)(K:to<=p)
  (J:∀args w,(callFunc fd args).run Tryz.prog w= .ok (.enter fd args) w)(I:∀k w,q_G fd (O++[zu (V k)]++cd) w (zu (V (2*k))))
  (T:Holds w.heap.size (λx=>x=m\/x=r) [.blk m 3 [.int .i64 p],.blk r 133 (zg (V q))] w)(hc:w.cell? ⟨G,0,none⟩=some (.func (.func fd) O.toArray cd.toArray))(hn:¬(G=m\/G=r)):
  Sy.Fn Tryz.prog 322 [.int .i64 to,.pointer (some ⟨m,0,none⟩),.pointer (some ⟨G,0,none⟩),.pointer (some ⟨r,0,none⟩)] w (λx=>x=m\/x=r)
   (λ_ R=>R= [.blk m 3 [.int .i64 to],.blk r 133 (zg (V (q*2^(p-to))))]):=by
 refine zaT Tryz.func322 rfl Tryz.ntmps322 q_p T ?_;repeat' (first|refine zfh ?_|fail)
 refine zX (γ:=Nat×Nat) (λ_=>[(0,.int .i64 to),(1,.pointer (some ⟨m,0,none⟩)),(2,.pointer (some ⟨G,0,none⟩)),(3,.pointer (some ⟨r,0,none⟩))])
  (λg=>[.blk m 3 [.int .i64 g.1],.blk r 133 (zg (V g.2))])
  (λg=>to<=g.1/\g.1<=4000/\g.2*2^(g.1-to)=q*2^(p-to)) (λg=>g.1) (p,q) ⟨K,hp,rfl⟩ ?_ ?_ ?_
 ·exact q_h
 ·exact q_h
 rintro⟨j,A⟩ ⟨Q,S,F⟩;dsimp only at Q S F ⊢;rcases AK to j with h|h
 ·have E:decide ((j:Int)>(to:Int))=true:=q_d;have H:IntKind.i64.wrap ((j:Int)-1)=((j-1:Nat):Int):=q_w;have W:=zb (V A);have Y:=zb (V (2*A));have I:=I A;have F:2*A*2^(j-1-to)=q*2^(p-to):=by
   rw[<-F,show j-to=(j-1-to)+1 by omega,AS];ac_rfl
  generalize V A=v,U:V (2*A)=Z at*;repeat' (first|refine s_t ?_|refine ze 0 ?_;refine zl ?_;refine zf ?_;refine q_v (zF (hr:=E)) ?_|refine ze 2 ?_;refine q_v (zp (hv:=hc) (hn:=hn)) ?_;refine q_v (zd (B:=zg v)) ?_;refine q_v (zeu (he:=J) (hc:=λw' X hk hh=>I w')) ?_;refine q_n (zk (n:=Z)) ?_|refine ze 1 ?_;refine zl ?_;refine q_v (zab (hr:=H)) ?_;refine zJ ?_)
  refine zQ (j-1,2*A) ⟨by show to<=j-1;omega,by show j-1<=_;omega,F⟩ ?_ ?_ ?_
  ·show j-1<j;omega
  ·exact q_h
  ·show SubR [.blk m 3 [.int .i64 ((j-1:Nat):Int)],.blk r 133 (zg (V (2*A)))] _;rw[U];exact q_h
 ·obtain rfl:j=to:=q_o;have E:decide ((j:Int)>(j:Int))=false:=q_f;rw[C5,Ax,Al] at F;rw[<-F];repeat' (first|refine s_0 ?_|refine ze 0 ?_;refine zl ?_;refine zf ?_;refine q_v (zF (hr:=E)) ?_)
  exact ze2 rfl q_h rfl
theorem zlG(x v:Nat)(V:Nat->Nat)(fd S:Nat)(A cd Z Y:List Value)(w:World)(hx:x<18446744073709551616^16)
  (H:∀args w,(callFunc fd args).run Tryz.prog w= .ok (.enter fd args) w)(U:∀args w,(callFunc S args).run Tryz.prog w= .ok (.enter S args) w)
  (hD:∀k w,q_G fd (A++[zu (V k)]++cd) w (zu (V (2*k))))(hA:∀k w,q_G S (Z++[zu (V k),zu v]++Y) w (zu (V (k+1)))):
  q_G 292 [zu x,zu (V 0),zu v,.func (.func fd) A.toArray cd.toArray,.func (.func S) Z.toArray Y.toArray] w (zu (V x)):=by
 refine zz Tryz.func292 Tryz.ntmps292 ?_;have c5:=zb x;have c4:=zb v;have c1:=zb (V 0);have a8:=λE=>zca x E hx;have b1:=zcg 2 x q_e;have b2:=zeM hx;generalize nd 2 x=p0,b0:V 0=v0 at*;repeat' (first|refine s_0 ?_|refine ze 0 ?_;refine zi ?_;intro _;refine zi ?_;intro _;refine zi ?_;intro _;refine zi ?_;intro _;refine zi ?_;intro _;refine zi ?_;intro _)
 rename_i b5 b6 b7 G b9 I;refine zcB (id:=1) mixed ?_
 (refine zcC 5 5 [[],[],[1],[],[],[0,1,2,3,4],[0,1,2,3,4,5]] [[],[],[],[],[],[],[]] none rfl ?_ ?_ ?_;kernel_rfl;kernel_rfl;refine q_E (zd (B:=zg v0)) ?_;refine q_E (zd (B:=zg x)) ?_;refine q_E (za (hc:=q_c a8)) ?_;try refine dh_0nE (h:=?_))
 refine zfq (R:=λ_=>zja 133 (List.replicate 16 (.int .u64 0))) (λ_ _ _=>rfl) (λρ hρ=>FA zem λv L' h=>?_) (h:=?_)
 ·obtain⟨b,rfl,rfl⟩:=h;exact⟨[_],rfl,b,rfl,rfl⟩
 refine zfq (R:=λ_=>zja 3 [.int .i64 0]) (λ_ _ _=>rfl) (λρ hρ=>FA zem λv L' h=>?_) (h:=?_)
 ·obtain⟨b,rfl,rfl⟩:=h;exact⟨[_],rfl,b,rfl,rfl⟩
 refine zeJ (h:=?_);rintro ρ ⟨⟨m,g1,g2⟩,⟨j,g3,g4⟩,-⟩
 (refine zcD [[],[],[1],[],[],[0,1,2,3,4],[0,1,2,3,4,5]] ?_ ?_;kernel_rfl)
 refine F9 (fr':=[(11,.pointer (some ⟨j,0,none⟩)),(12,.pointer (some ⟨m,0,none⟩)),(15,zu v0),(17,.int .i64 p0),(5,.pointer (some ⟨b5,0,none⟩)),(7,.pointer (some ⟨b7,0,none⟩)),(8,.pointer (some ⟨G,0,none⟩)),(9,.pointer (some ⟨b9,0,none⟩)),(10,.pointer (some ⟨I,0,none⟩))])
  (L':=[.blk j 133 (List.replicate 16 (.int .u64 0)),.blk m 3 [.int .i64 0],.blk b5 133 (zg x),.blk b7 133 (zg v),.blk G 296 [.func (.func fd) A.toArray cd.toArray],.blk b9 206 [.func (.func S) Z.toArray Y.toArray],.blk I 133 (List.replicate 16 (.int .u64 0))]) ?_ ?_ ?_
 rotate_left
 ·(repeat' (first|exact FL|refine Fa rfl ?_ ?_|rfl))
  ·exact g3
  ·exact g1
 ·show SubR _ ((ρ 4).2++((ρ 3).2++_));rw[g2,g4];exact q_h
 repeat' (first|refine s_0 ?_|refine ze 2 ?_;refine q_v zZ ?_;refine zi ?_;intro _;refine zJ ?_|refine ze 3 ?_;refine q_v (zd (B:=zg x)) ?_|(refine zx ?_;first|refine q_n (zk (n:=v0)) ?_|refine zJ ?_|fail)|fail)
 rename_i a6;refine q_s (zn (hc:=λE X J F=>zpo x E)) ?_;rintro _ _ ⟨R,rfl,b,rfl,rfl⟩;repeat' (first|refine s_t ?_|fail)
 rw[<-b0];refine zgb (γ:=Nat×Nat) (xs:=zbt x) (Arg:=zum) zcO rfl (en rfl) rfl (λk s=>x-left k x=s.2*2^s.1/\left k x<2^s.1/\s.1<=1024) (λ_ _ _=>False)
  (λs=>[.blk j 133 (zg (V s.2)),.blk m 3 [.int .i64 s.1],.blk a6 326 [.func (.func 322) #[] #[.pointer (some ⟨m,0,none⟩),.pointer (some ⟨G,0,none⟩),.pointer (some ⟨j,0,none⟩)]],.blk b7 133 (zg v),.blk G 296 [.func (.func fd) A.toArray cd.toArray],.blk b9 206 [.func (.func S) Z.toArray Y.toArray]])
  [.blk b 133 (zg x)] [.blk b5 133 (zg x),.blk I 133 (List.replicate 16 (.int .u64 0))] (p0,0) ⟨by rw[show left 0 x=x from rfl,C5,BA],b1,b2⟩ ?_ ?_ ?_ ?_ ?_ ?_
 ·((try simp only[Aa,AY,AH]);(repeat' (first|exact List.Perm.nil|exact Aq _|apply zgP;with_reducible (focus ((repeat (first|exact Ej|apply Ek));done))|apply zgP;(focus ((repeat (first|exact Ej|apply Ek));done)))))
 ·exact λE Mi X J hm _ _=>zmU b x E Mi hx
 ·rintro O x vs RA E ⟨rfl,_⟩;rfl
 ·rintro lp k J ⟨p,q⟩ vs RA W rec b4 ⟨T,hp,Q⟩ ⟨rfl,rfl⟩ c0 K;dsimp only at T hp Q ⊢;clear K;obtain⟨hi,a9,a7⟩:=zt3 J T hp;generalize (zbt x)[k]=i at*;have c3:=zb (V (q*2^(p-i)));have b3:=zb (V (q*2^(p-i)+1));have hA:=hA (q*2^(p-i));repeat' (first|refine s_t ?_|apply zaJ;(focus ((repeat (first|exact Ej|apply Ek));done));assumption|refine q_k 4 ?_|refine ze 5 ?_;refine zl ?_;refine zf ?_)
  refine q_s (zd1 (vs:=[.int .i64 i]) (cap:=[.pointer (some ⟨m,0,none⟩),.pointer (some ⟨G,0,none⟩),.pointer (some ⟨j,0,none⟩)]) (C:=[.blk m 3 [.int .i64 p],.blk j 133 (zg (V q))]) (M':=λx=>x=m\/x=j)
   (hC:=Eo (by repeat (first|exact Ej|apply Ek)) rfl (Eo (by repeat (first|exact Ej|apply Ek)) rfl Er)) (hM:=λb hb=>by
    rcases hb with rfl|rfl
    ·exact⟨_,A4 ..,rfl⟩
    ·exact⟨_,A0 _ (AC.2 rfl),rfl⟩)
   (hc:=λE X J F=>zkB m G j p q i V fd A cd E q_o q_o H hD (F.both En En (zf1 q_e)) (zq (F.has (r:=.blk G 296 [.func (.func fd) A.toArray cd.toArray]) q_h) Em 0 _ rfl)
    (λe=>e.elim (F.ne (C1:=[.func (.func fd) A.toArray cd.toArray]) (T1:=296) (C2:=[.int .i64 p]) (T2:=3) En En (zf1 q_e)) (F.ne (C1:=[.func (.func fd) A.toArray cd.toArray]) (T1:=296) (C2:=zg (V q)) (T2:=133) En En (zf1 q_e))))) ?_
  rintro _ _ ⟨R,rfl,rfl⟩;repeat' (first|refine s_0 ?_|refine ze 6 ?_;refine zl ?_;refine q_v (zd (B:=zg (V (q*2^(p-i))))) ?_;refine q_v (zd (B:=zg v)) ?_;refine q_v (zeu (he:=U) (hc:=λE X J F=>hA E)) ?_;refine q_n (zk (n:=V (q*2^(p-i)+1))) ?_)
  refine zfY (i,q*2^(p-i)+1) ⟨a7,a9,by show i<=1024;omega⟩ ?_;dsimp only;exact q_h
 ·rintro⟨p,q⟩ ⟨T,-,Q⟩;rw[zjI,Nat.sub_zero] at T;dsimp only at T Q ⊢;repeat' (first|refine zd4 ?_|refine zhd ?_|refine ze 7 ?_;refine zl ?_)
  refine q_s (zd1 (vs:=[.int .i64 (0:Nat)]) (cap:=[.pointer (some ⟨m,0,none⟩),.pointer (some ⟨G,0,none⟩),.pointer (some ⟨j,0,none⟩)]) (C:=[.blk m 3 [.int .i64 p],.blk j 133 (zg (V q))]) (M':=λx=>x=m\/x=j)
   (hC:=Eo (by repeat (first|exact Ej|apply Ek)) rfl (Eo (by repeat (first|exact Ej|apply Ek)) rfl Er)) (hM:=λb hb=>by
    rcases hb with rfl|rfl
    ·exact⟨_,A4 ..,rfl⟩
    ·exact⟨_,A0 _ (AC.2 rfl),rfl⟩)
   (hc:=λE X J F=>zkB m G j p q 0 V fd A cd E q_o q_o H hD (F.both En En (zf1 q_e)) (zq (F.has (r:=.blk G 296 [.func (.func fd) A.toArray cd.toArray]) q_h) Em 0 _ rfl)
    (λe=>e.elim (F.ne (C1:=[.func (.func fd) A.toArray cd.toArray]) (T1:=296) (C2:=[.int .i64 p]) (T2:=3) En En (zf1 q_e)) (F.ne (C1:=[.func (.func fd) A.toArray cd.toArray]) (T1:=296) (C2:=zg (V q)) (T2:=133) En En (zf1 q_e))))) ?_
  rintro _ _ ⟨R,rfl,rfl⟩;rw[C0,<-T];have c2:=zb (V x);repeat' (first|refine s_0 ?_|refine ze 8 ?_;refine q_v (zd (B:=zg (V x))) ?_;refine q_n (zk (n:=V x)) ?_)
  exact zaq rfl (zB (B:=zg (V x)) rfl (ty rfl) rfl En Em (zb _).symm) El ⟨rfl,rfl⟩
 ·rintro _ k s J h;exact h.elim
end Go.Proofs.YtdnlngbjpdbffaaGreatDoor
namespace Go.Nt
open Go Go.Sy
theorem zc9{j:Nat}{w:World}{M:Nat->Prop}{E n m c:Nat}{a:Option Addr}{xs:List Value}{L:List Res}(hh:Holds j M L w)(hL:Has L (.row (.slice a m c) E 1 n xs)):SlA w a xs:=(GZ (Mi:=No) hh hL (λ_ h=>h.elim)).sla
end Go.Nt
