/- Lemmas. -/
import Derived.Test.YtdnlngbjpdbffaaGreatDoorZJ14
set_option maxHeartbeats 1000000
set_option maxRecDepth 10000
set_option linter.all false
namespace Go.Sy
open Go
variable {P:Program}{ro:Option Nat}{N:Nat}{w0:World}{M:Nat->Prop}{ds:List Deferred}{o:Oper}{g:Nat->Option Value}{L:List Res}{t:TypeId}{y:Ty}
theorem zmD(z0:Value)(s n:Nat):madeCells (List.replicate s z0).toArray n=(List.replicate n z0).toArray\/s=0:=by
 rcases AE s with h|h
 ·exact .inr h
 ·left
  unfold madeCells;apply Array.ext
  ·simp
  ·intro k m q;have j:k%s<s:=AC _ h;simp[j]
theorem zhV{len e:Nat}{parts:Array (Nat×Operand)}{vs C:List Value}{z0:Value}{ye:Ty}(he:zah P e=some ye)(hz:zbd P e=some (List.replicate ye.size z0))(V:FillTo (λi=>some (i*ye.size,ye.size)) (List.zip (parts.toList.map (·.1)) vs) (List.replicate (len*ye.size) z0) C)
  (hs:len*ye.size<=16777216)(q:0<len*ye.size)(J:o.op= .buildSlice t len parts:=by exact rfl)(hv:evs g (parts.toList.map (·.2))=some vs:=by exact rfl)(ht:zah P t=some y:=by exact ty rfl)(hy:y.desc= .slice e:=by exact rfl):
  OpT P ro N w0 M ds o g L (λv K=>∃b,v= .slice (some ⟨b,0,none⟩) len len/\K= .blk b e C::L):=
 FH (by rw[J];rfl) λa w X B=>by
  obtain⟨d,i',T,W,A,_⟩:=zX ht;rw[hy] at A;have:=zbp A;subst this;obtain⟨de,I,U,m,_,j,_⟩:=zX he;obtain⟨Q,R⟩:=zbT B e C;unfold zbd at hz;rw[m] at hz;simp only[Ac,Ab] at hz;obtain⟨E,H,F⟩:=hz;have G:E.cells=(List.replicate ye.size z0).toArray:=B9.1 (by rw[F]);have Z:((parts.map λ(i,x)=>(i,a.eval x)).toList)=List.zip (parts.toList.map (·.1)) vs:=by
   have:=B.agr.evals hv;rw[<-this,Bj,CY];generalize parts.toList=l
   induction l with
   |nil=>rfl
   |cons p l ih=>simp only[Au,DG,ih];rfl
  have Y:madeCells E.cells (len*I.size)=(List.replicate (len*ye.size) z0).toArray:=by
   rw[G,j];rcases zmD z0 ye.size (len*ye.size) with h|h
   ·exact h
   ·rw[h,D8] at q;omega
  have r:=run_buildSlice (P:=P) w t e len (parts.map λ(i,x)=>(i,a.eval x)) C.toArray I E T m H (by rw[j];omega) (by rw[j];omega) (by
   rw[Z];have S:=zjK V;have O:(Array.range (len*I.size)).map (E.cells[· % E.cells.size]!)=(List.replicate (len*ye.size) z0).toArray:=Y;rw[O,j];exact S)
  refine⟨_,_,w.alloc (.cells C.toArray e),_,?_,.inl rfl,⟨w.heap.size,rfl,rfl⟩,Q,R⟩;simp[execOp,J,r]
theorem zvt{e n:Nat}{lo co:Operand}{k1 k2:IntKind}{z0:Value}{l c:Int}{ye:Ty}(hz:zbd P e=some (List.replicate ye.size z0))(he:zah P e=some ye)(hb:ye.bytes*n<=281474976710656)(hm:n<=maxLen)(a6:0<ye.size)(E:l=(n:Int):=by exact rfl)(r:c=(n:Int):=by exact rfl)
  (K:o.op= .makeSlice t lo co:=by exact rfl)(Y:ev g lo=some (.int k1 l):=by exact rfl)(hc:ev g co=some (.int k2 c):=by exact rfl)(ht:zah P t=some y:=by exact ty rfl)(hy:y.desc= .slice e:=by exact rfl):
  OpT P ro N w0 M ds o g L (λv Q=>∃b,v= .slice (some ⟨b,0,none⟩) n n/\Q= .blk b e (List.replicate (n*ye.size) z0)::L):=
 FH (by rw[K];rfl) λa w X j=>by
  obtain⟨d,i',U,W,q,_⟩:=zX ht;rw[hy] at q;have:=zbp q;subst this;obtain⟨de,O,V,m,_,B,A,_⟩:=zX he;unfold zbd at hz;rw[m] at hz;simp only[Ac,Ab] at hz;obtain⟨J,I,G⟩:=hz;subst E;subst r;obtain⟨S,T⟩:=zbT j e (List.replicate (n*ye.size) z0);refine⟨_,_,w.alloc (.cells (List.replicate (n*ye.size) z0).toArray e),_,?_,.inl rfl,⟨w.heap.size,rfl,rfl⟩,S,T⟩;have Z:n<=9223372036854775807:=by unfold maxLen at hm;omega
  have H:J.cells=(List.replicate ye.size z0).toArray:=B9.1 (by rw[G]);have F:=run_make (P:=P) w t e O J U m I k1 k2 n n q_o q_o (by rw[A,<-Bg];omega) q_o;simp only[Bn] at F;have R:madeCells J.cells (n*O.size)=(List.replicate (n*ye.size) z0).toArray:=by
   rw[B,H];rcases zmD z0 ye.size (n*ye.size) with h|h
   ·exact h
   ·omega
  rw[R] at F;simp[execOp,K,j.agr.eval Y,j.agr.eval hc,F]
end Go.Sy
namespace Go.Nt
open Go Go.Sy
def zae(l:List Nat):List Value:=l.flatMap zg
theorem zfy(l:List Nat):(zae l).length=l.length*16:=by
 induction l with
 |nil=>rfl
 |cons x l ih=>
  show(zg x++zae l).length=_;rw[A4,zd,ih,AQ];omega
theorem zkB(l m:List Nat):zae (l++m)=zae l++zae m:=CO
theorem zhq(x:Nat)(l:List Nat):zae (x::l)=zg x++zae l:=rfl
theorem zp6{l:List Nat}{i x:Nat}(h:l[i]?=some x):zae l=zae (l.take i)++zg x++zae (l.drop (i+1))/\(zae (l.take i)).length=i*16:=by
 obtain⟨m,j⟩:=AR.1 h;have e:l=l.take i++x::l.drop (i+1):=by
  rw[<-j,List.getElem_cons_drop,Bc]
 refine⟨?_,by rw[zfy,AS];omega⟩
 conv=>lhs;rw[e]
 rw[zkB,zhq,AI]
theorem zej{l:List Nat}{i x:Nat}(h:l[i]?=some x):Seg (zae l) (i*16) (zg x):=by
 obtain⟨e,j⟩:=zp6 h;rw[e,<-j];exact Seg.mid
theorem zic{l:List Nat}{i:Nat}(x:Nat)(h:i<l.length):zaK (zae l) (i*16) (zg x)=zae (l.set i x):=by
 obtain⟨e,m⟩:=zp6 (A2 h);have j:l.set i x=l.take i++x::l.drop (i+1):=by
  rw[List.set_eq_take_append_cons_drop,if_pos h]
 rw[j,zkB,zhq];unfold zaK;rw[zd,e,<-m];have t1:(zae (l.take i)++zg l[i]++zae (l.drop (i+1))).take (zae (l.take i)).length=zae (l.take i):=by rw[AI,Cv]
 have t2:(zae (l.take i)++zg l[i]++zae (l.drop (i+1))).drop ((zae (l.take i)).length+16)=zae (l.drop (i+1)):=by
  rw[show(zae (l.take i)).length+16=(zae (l.take i)++zg l[i]).length by rw[A4,zd],DP]
 rw[t1,t2,AI]
theorem zia(n:Nat):List.replicate (n*16) (Value.int IntKind.u64 0)=zae (List.replicate n 0):=by
 induction n with
 |zero=>rfl
 |succ n ih=>
  rw[DA,zhq,<-ih,show(n+1)*16=16+n*16 by omega,<-DT];unfold zg;rw[zgI,BY];rfl
theorem zuu(x:Nat):zae [x]=zg x:=AJ _
end Go.Nt
namespace Go.Proofs.YtdnlngbjpdbffaaGreatDoor
open Go Go.Sy Go.Nt Go.RowKit
attribute [local irreducible] Sy SyL SyX Sy.Fn callFunc zg zae
variable {ro:Option Nat}{N:Nat}{w0:World}{M:Nat->Prop}{ds:List Deferred}{g:Nat->Option Value}{L:List Res}{o:Oper}{z z':Operand}
theorem zcb{x:Nat}(m:o.op= .buildSlice 150 1 #[(0,z)]:=by exact rfl)(hz:ev g z=some (zu x):=by exact rfl):
  OpT Tryz.prog ro N w0 M ds o g L (λv j=>∃b,v= .slice (some ⟨b,0,none⟩) 1 1/\j= .blk b 133 (zae [x])::L):=
 zhV (parts:=#[(0,z)]) (vs:=[zu x]) (z0:=.int .u64 0) (ty rfl) (zc rfl) (by
  refine .cons (cs:=zg x) rfl rfl (zd x) (A5 rfl) ?_;have:=zic (l:=[0]) (i:=0) x q_e;rw[show[0].set 0 x= [x] from rfl] at this;rw[<-this,show[0]=List.replicate 1 0 from rfl,<-zia];exact .nil) q_e q_e m (by simp[evs,hz])
theorem zff{x x':Nat}(r:o.op= .buildSlice 150 2 #[(0,z),(1,z')]:=by exact rfl)(hz:ev g z=some (zu x):=by exact rfl)(j:ev g z'=some (zu x'):=by exact rfl):
  OpT Tryz.prog ro N w0 M ds o g L (λv q=>∃b,v= .slice (some ⟨b,0,none⟩) 2 2/\q= .blk b 133 (zae [x,x'])::L):=
 zhV (parts:=#[(0,z),(1,z')]) (vs:=[zu x,zu x']) (z0:=.int .u64 0) (ty rfl) (zc rfl) (by
  have h0:=zic (l:=[0,0]) (i:=0) x q_e;have m:=zic (l:=[x,0]) (i:=1) x' q_p;rw[show[0,0].set 0 x= [x,0] from rfl] at h0;rw[show[x,0].set 1 x'= [x,x'] from rfl] at m;refine .cons (cs:=zg x) rfl rfl (zd x) (A5 rfl) ?_;rw[show List.replicate (2*_) (Value.int IntKind.u64 0)=zae [0,0] from zia 2];refine .cons (cs:=zg x') rfl rfl (zd x') (by
   show 1*16+16<=(zaK (zae [0,0]) (0*16) (zg x)).length;rw[h0,zfy];simp) ?_
  show FillTo _ _ (zaK (zaK (zae [0,0]) (0*16) (zg x)) (1*16) (zg x')) _;rw[h0,m];exact .nil) q_e q_e r (by simp[evs,hz,j])
theorem zud{n:Nat}{k1 k2:IntKind}{l c:Int}(hn:n<=1000)(m:l=(n:Int):=by exact rfl)(j:c=(n:Int):=by exact rfl)(w:o.op= .makeSlice 150 z z':=by exact rfl)(r:ev g z=some (.int k1 l):=by exact rfl)(hc:ev g z'=some (.int k2 c):=by exact rfl):
  OpT Tryz.prog ro N w0 M ds o g L (λv q=>∃b,v= .slice (some ⟨b,0,none⟩) n n/\q= .blk b 133 (zae (List.replicate n 0))::L):=by
 have h:=zvt (P:=Tryz.prog) (ro:=ro) (N:=N) (w0:=w0) (M:=M) (ds:=ds) (o:=o) (g:=g) (L:=L) (t:=150) (e:=133) (n:=n) (lo:=z) (co:=z') (z0:=.int .u64 0) (zc rfl) (ty rfl) (show 128*n<=_ by omega) (by unfold maxLen;omega) (show 0<16 by decide) m j w r hc (ty rfl) rfl;rw[<-zia];exact h
theorem zbv{b off n c j:Nat}{k:IntKind}{i:Int}(q:o.op= .indexAddr 150 z z':=by exact rfl)(hx:ev g z=some (.slice (some ⟨b,off,none⟩) n c):=by exact rfl)(hz:ev g z'=some (.int k i):=by exact rfl)(m:i=(j:Int):=by exact rfl)(hj:j<n:=by omega):
  OpT Tryz.prog ro N w0 M ds o g L (Det (.pointer (some ⟨b,off+j*16,none⟩)) L):=
 zal (ye:=_) q hx hz (ty rfl) rfl (ty rfl) m hj
theorem zkd(m n c:Nat)(l:List Nat)(J K:Nat)(w:World)(hm:m<18446744073709551616^16)(h0:0<m)(X:l.length=n)(hn:n<=1000)(G:∀x∈l,x<18446744073709551616^16)(hs:w.rangeAt J K (zae l)):
  Sy.Fn Tryz.prog 243 [zu m,.slice (some ⟨J,K,none⟩) n c] w No (λv R=>∃b,v= .slice (some ⟨b,0,none⟩) n n/\R= [.blk b 133 (zae (l.map (· % m)))]):=by
 refine zt Tryz.func243 Tryz.ntmps243 ?_;have Y:=zd m;repeat' (first|refine s_0 ?_|refine zf 0 ?_;refine z9 ?_;intro _|refine q_k 1 ?_)
 refine q_s (zud (n:=n) hn) ?_;rintro _ _ ⟨A,rfl,rfl⟩;repeat' (first|refine s_t ?_|refine q_k 2 ?_|(refine zx ?_;first|refine zw ?_|fail)|fail)
 rename_i O;refine zL (γ:=Nat) (λk=>[(2,.pointer (some ⟨O,0,none⟩)),(5,.slice (some ⟨A,0,none⟩) n n),(11,.slice (some ⟨J,K,none⟩) n c),(12,.int .i64 n),(13,.int .i64 k)])
  (λk=>[.blk A 133 (zae ((l.map (· % m)).take k++List.replicate (n-k) 0)),.blk O 227 (zg m)])
  (λk=>k<=n) (λk=>n-k) 0 (AA _) ?_ ?_ ?_
 ·exact q_h
 ·show SubR [.blk A 133 (zae (List.replicate n 0)),.blk O 227 (zg m)] _;exact q_h
 intro k hk;rcases AG k n with h|h
 ·obtain⟨x,S⟩:∃x,l[k]?=some x:=⟨_,A2 q_o⟩;have T:=G x (BB S);have I:w.rangeAt J (K+k*16) (zg x):=λj v W=>by
   have:=hs (k*16+j) v (zej S j v W);rwa[<-BK] at this
  have V:=λw'=>zss x m w' T hm h0;have a7:=zd x;have Z:=zd (x/m);have a6:=zd (x%m);have F:decide ((k:Int)<(n:Int))=true:=q_d;have E:=zic (l:=(l.map (· % m)).take k++List.replicate (n-k) 0) (i:=k) (x%m) (by simp;omega);rw[zif (l.map (· % m)) 0 (x%m) n k (by rw[AW,S];rfl) h (by simpa using X)] at E;have H:=zfy ((l.map (· % m)).take k++List.replicate (n-k) 0);have U:((l.map (· % m)).take k++List.replicate (n-k) 0).length=n:=by simp;omega
  rw[U] at H;generalize x%m=r,x/m=q,Q:zae ((l.map (· % m)).take (k+1)++List.replicate (n-(k+1)) 0)=C',zae ((l.map (· % m)).take k++List.replicate (n-k) 0)=C at*;repeat' (first|refine s_t ?_|refine zf 3 ?_;refine q_v (zn (hr:=F)) ?_|refine q_k 4 ?_;refine q_v (zbv (j:=k)) ?_;refine q_v (zW (B:=zg x) (hv:=I)) ?_;refine z9 ?_;intro _;refine q_n (zl (n:=x)) ?_|refine q_k 5 ?_;refine q_x (ze (B:=zg x)) ?_;refine q_v (ze (B:=zg m)) ?_;refine q_v (za (hc:=q_c V)) ?_;refine zb ?_;refine q_v (zbv (j:=k)) ?_;refine q_n (zdI (B:=zg r) (hv:=zfG r) (h1:=(zd r).symm)) ?_|refine zf 6 ?_;refine zba ?_;refine zb ?_)
  refine zC (k+1) ?_ ?_ ?_ ?_
  ·show k+1<=n;omega
  ·show n-(k+1)<n-k;omega
  ·exact q_h
  ·show SubR [.blk A 133 (zae ((l.map (· % m)).take (k+1)++List.replicate (n-(k+1)) 0)),.blk O 227 (zg m)] _;rw[Q,<-E]
   (repeat' (first|exact Ev|apply F3;with_reducible (focus ((repeat (first|exact Eu|apply Ew));done))|apply F9;(focus ((repeat (first|exact Eu|apply Ew));done))|apply F6;(focus ((repeat (first|exact Eu|apply Ew));done))|rfl))
   rw[Aa]
 ·obtain rfl:k=n:=q_o;have F:decide ((k:Int)<(k:Int))=false:=q_f;rw[A6 (by rw[A0];omega),C7,Cf,AJ];repeat' (first|refine s_0 ?_|refine zf 3 ?_;refine q_v (zn (hr:=F)) ?_|refine q_k 7 ?_)
  exact zar rfl (zh rfl) q_h ⟨A,rfl,rfl⟩
theorem zlS{x y:Nat}(h:y<=x):zbA x y>=0:=by
 unfold zbA;rw[if_neg q_o];split <;> omega
theorem zfl(m x b:Nat)(w:World)(hm:m<18446744073709551616^16)(h0:0<m)(hx:x<18446744073709551616^16)(j:w.rangeAt b 0 (zae [x])):
  Sy.Fn Tryz.prog 243 [zu m,.slice (some ⟨b,0,none⟩) 1 1] w No (λv R=>∃b,v= .slice (some ⟨b,0,none⟩) 1 1/\R= [.blk b 133 (zg (x%m))]):=by
 have h:=zkd m 1 1 [x] b 0 w hm h0 rfl q_e (λy q=>by rw[AD.1 q];exact hx) j;rw[show[x].map (· % m)= [x%m] from rfl,zuu] at h;exact h
theorem zjA(m x y b:Nat)(w:World)(hm:m<18446744073709551616^16)(h0:0<m)(hx:x<18446744073709551616^16)(r:y<18446744073709551616^16)(q:w.rangeAt b 0 (zae [x,y])):
  Sy.Fn Tryz.prog 243 [zu m,.slice (some ⟨b,0,none⟩) 2 2] w No (λv R=>∃b,v= .slice (some ⟨b,0,none⟩) 2 2/\R= [.blk b 133 (zae [x%m,y%m])]):=
 zkd m 2 2 [x,y] b 0 w hm h0 rfl q_e (λz j=>by
  rcases AV.1 j with rfl|j
  ·exact hx
  ·rw[AD.1 j];exact r) q
theorem zr9(x y:Nat):Seg (zae [x,y]) (0*16) (zg x)/\Seg (zae [x,y]) (1*16) (zg y):=⟨zej rfl,zej rfl⟩
theorem zyH(m:Nat)(w:World)(hm:m<18446744073709551616^16)(h0:0<m):
  q_G 299 [zu m] w (zu (1%m)):=by
 refine zt Tryz.func299 Tryz.ntmps299 ?_;have H:=zd m;have G:=zd 1;have E:=λq=>zit 1 q q_e;have A:1<18446744073709551616^16:=by decide
 have I:=zd (1%m);have J:=λq b (h:q.rangeAt b 0 (zae [1]))=>zfl m 1 b q hm h0 A h;generalize 1%m=r at*;repeat' (first|refine s_0 ?_|refine zf 0 ?_;refine zk ?_;intro _;refine zk ?_;intro _|refine zf 1 ?_;refine q_v (za (hc:=q_c E)) ?_;refine zb ?_;refine zk ?_;intro _;refine q_y (zl (n:=1)) ?_|refine zf 2 ?_;refine q_v (ze (B:=zg m)) ?_;refine q_v (ze (B:=zg 1)) ?_|refine q_s (zcb (x:=1)) ?_;rintro _ _ ⟨K,rfl,rfl⟩|(refine zx ?_;first|refine q_s (zi (hc:=λq X O F=>J q _ (zp (F.has (by exact F1 F5)) Ex))) ?_;rintro _ _ ⟨R,rfl,bc,rfl,rfl⟩|refine q_v (zbv (j:=0)) ?_|refine q_v (ze (B:=zg r)) ?_|refine q_n (zl (n:=r)) ?_|fail)|fail)
 exact zar rfl (zE (B:=zg r) rfl (ty rfl) rfl Ey Ex (zd _).symm) Ev ⟨rfl,rfl⟩
theorem zlt(m a b:Nat)(w:World)(hm:m<18446744073709551616^16)(ha:a<m)(hb:b<m):
  q_G 245 [zu m,zu a,zu b] w (zu ((a+b)%m)):=by
 refine zt Tryz.func245 Tryz.ntmps245 ?_;have Q:=zd m;have K:=zd a;have O:=zd b;have q:=Ai ha hm;have r:=Ai hb hm;have H:=λj=>zdH b j r;rcases AE b with h|h
 ·subst h;rw[BZ,A9 ha];repeat' (first|refine s_0 ?_|refine zf 0 ?_;refine zk ?_;intro _;refine zk ?_;intro _;refine zk ?_;intro _;refine zk ?_;intro _|refine zf 1 ?_;refine q_v (ze (B:=zg 0)) ?_;refine q_v (za (hc:=q_c H)) ?_|refine zf 2 ?_;refine q_v (ze (B:=zg a)) ?_;refine q_n (zl (n:=a)) ?_)
  exact zar rfl (zE (B:=zg a) rfl (ty rfl) rfl Ey Ex (zd _).symm) Ev ⟨rfl,rfl⟩
 ·simp only[decide_eq_false (show ¬b=0 by omega)] at H;have J:=λj=>zlx m b j hm r;rw[if_pos (BT hb)] at J;have F:m-b<18446744073709551616^16:=B3 (EL _ _) hm;have hc:=λj=>zdM a (m-b) j q F;have R:=zd (m-b);rcases AG a (m-b) with G|G
  ·rw[zhZ G] at hc;have E:=λj=>zsI a b j q r;rw[if_pos (Ai (show a+b<m by omega) hm)] at E;rw[A9 (show a+b<m by omega)];have I:=zd (a+b);generalize a+b=s,m-b=o at*;repeat' (first|refine s_0 ?_|refine zf 0 ?_;refine zk ?_;intro _;refine zk ?_;intro _;refine zk ?_;intro _;refine zk ?_;intro _|refine zf 1 ?_;refine q_v (ze (B:=zg b)) ?_;refine q_v (za (hc:=q_c H)) ?_|refine q_k 3 ?_;refine q_v (ze (B:=zg m)) ?_;refine q_v (ze (B:=zg b)) ?_;refine q_v (za (hc:=q_c J)) ?_;refine zb ?_;refine zk ?_;intro _;refine q_y (zl (n:=o)) ?_|refine zf 4 ?_;refine q_v (ze (B:=zg a)) ?_;refine q_v (ze (B:=zg o)) ?_;refine q_v (za (hc:=q_c hc)) ?_;refine q_v zO ?_|refine zf 7 ?_;refine q_v (ze (B:=zg a)) ?_;refine q_v (ze (B:=zg b)) ?_;refine q_v (za (hc:=q_c E)) ?_;refine zb ?_;refine zk ?_;intro _;refine q_y (zl (n:=s)) ?_|refine zf 8 ?_;refine q_v (ze (B:=zg s)) ?_;refine q_n (zl (n:=s)) ?_)
   exact zar rfl (zE (B:=zg s) rfl (ty rfl) rfl Ey Ex (zd _).symm) Ev ⟨rfl,rfl⟩
  ·have A:decide (zbA a (m-b)>=0)=true:=decide_eq_true (zlS G);have E:=λj=>zlx a (m-b) j q F;rw[if_pos G] at E;rw[show a+b=a-(m-b)+m by omega,Nat.add_mod_right,A9 (show a-(m-b)<m by omega)];have I:=zd (a-(m-b));generalize m-b=o,a-(m-b)=s,zbA a (m-b)=S at*;repeat' (first|refine s_0 ?_|refine zf 0 ?_;refine zk ?_;intro _;refine zk ?_;intro _;refine zk ?_;intro _;refine zk ?_;intro _|refine zf 1 ?_;refine q_v (ze (B:=zg b)) ?_;refine q_v (za (hc:=q_c H)) ?_|refine q_k 3 ?_;refine q_v (ze (B:=zg m)) ?_;refine q_v (ze (B:=zg b)) ?_;refine q_v (za (hc:=q_c J)) ?_;refine zb ?_;refine zk ?_;intro _;refine q_y (zl (n:=o)) ?_|refine zf 4 ?_;refine q_v (ze (B:=zg a)) ?_;refine q_v (ze (B:=zg o)) ?_;refine q_v (za (hc:=q_c hc)) ?_;refine q_v (zO (hr:=A)) ?_|refine zf 5 ?_;refine q_v (ze (B:=zg a)) ?_;refine q_v (ze (B:=zg o)) ?_;refine q_v (za (hc:=q_c E)) ?_;refine zb ?_;refine zk ?_;intro _;refine q_y (zl (n:=s)) ?_|refine zf 6 ?_;refine q_v (ze (B:=zg s)) ?_;refine q_n (zl (n:=s)) ?_)
   exact zar rfl (zE (B:=zg s) rfl (ty rfl) rfl Ey Ex (zd _).symm) Ev ⟨rfl,rfl⟩
theorem znt(m a b:Nat)(w:World)(hm:m<18446744073709551616^16)(ha:a<m)(hb:b<m):
  q_G 215 [zu m,zu a,zu b] w (zu (dm m a b)):=by
 refine zt Tryz.func215 Tryz.ntmps215 ?_;have R:=zd m;have O:=zd a;have Q:=zd b;have j:=Ai ha hm;have q:=Ai hb hm;have hc:=λr=>zdM a b r j q;rcases AG a b with G|G
 ·rw[zhZ G] at hc;have K:=λr=>zlx m b r hm q;rw[if_pos (BT hb)] at K;have J:m-b<18446744073709551616^16:=B3 (EL _ _) hm;have S:=zd (m-b);have E:=λr=>zsI a (m-b) r j J;have F:a+(m-b)<m:=q_o;rw[if_pos (Ai F hm)] at E;have H:dm m a b=a+(m-b):=by unfold dm;rw[A9 hb,A9 F]
  rw[H];have I:=zd (a+(m-b));generalize m-b=o,a+(m-b)=s at*;repeat' (first|refine s_0 ?_|refine zf 0 ?_;refine zk ?_;intro _;refine zk ?_;intro _;refine zk ?_;intro _;refine zk ?_;intro _|refine zf 1 ?_;refine q_v (ze (B:=zg a)) ?_;refine q_v (ze (B:=zg b)) ?_;refine q_v (za (hc:=q_c hc)) ?_;refine q_v zO ?_|refine q_k 4 ?_;refine q_v (ze (B:=zg m)) ?_;refine q_v (ze (B:=zg b)) ?_;refine q_v (za (hc:=q_c K)) ?_;refine zb ?_;refine zk ?_;intro _;refine q_y (zl (n:=o)) ?_|refine zf 5 ?_;refine q_v (ze (B:=zg a)) ?_;refine q_v (ze (B:=zg o)) ?_;refine q_v (za (hc:=q_c E)) ?_;refine zb ?_;refine zk ?_;intro _;refine q_y (zl (n:=s)) ?_|refine zf 6 ?_;refine q_v (ze (B:=zg s)) ?_;refine q_n (zl (n:=s)) ?_)
  exact zar rfl (zE (B:=zg s) rfl (ty rfl) rfl Ey Ex (zd _).symm) Ev ⟨rfl,rfl⟩
 ·have A:decide (zbA a b>=0)=true:=decide_eq_true (zlS G);have E:=λr=>zlx a b r j q;rw[if_pos G] at E;have H:dm m a b=a-b:=by
   unfold dm;rw[A9 hb,show a+(m-b)=a-b+m by omega,Nat.add_mod_right,A9 q_o]
  rw[H];have I:=zd (a-b);generalize a-b=s,zbA a b=T at*;repeat' (first|refine s_0 ?_|refine zf 0 ?_;refine zk ?_;intro _;refine zk ?_;intro _;refine zk ?_;intro _;refine zk ?_;intro _|refine zf 1 ?_;refine q_v (ze (B:=zg a)) ?_;refine q_v (ze (B:=zg b)) ?_;refine q_v (za (hc:=q_c hc)) ?_;refine q_v (zO (hr:=A)) ?_|refine zf 2 ?_;refine q_v (ze (B:=zg a)) ?_;refine q_v (ze (B:=zg b)) ?_;refine q_v (za (hc:=q_c E)) ?_;refine zb ?_;refine zk ?_;intro _;refine q_y (zl (n:=s)) ?_|refine zf 3 ?_;refine q_v (ze (B:=zg s)) ?_;refine q_n (zl (n:=s)) ?_)
  exact zar rfl (zE (B:=zg s) rfl (ty rfl) rfl Ey Ex (zd _).symm) Ev ⟨rfl,rfl⟩
theorem ztP(m a:Nat)(w:World)(hm:m<18446744073709551616^16)(ha:a<m):
  q_G 293 [zu m,zu a] w (zu ((a+a)%m)):=by
 refine zt Tryz.func293 Tryz.ntmps293 ?_;have q:=zd m;have j:=zd a;have A:=λE=>zlt m a a E hm ha ha;have r:=zd ((a+a)%m);generalize (a+a)%m=s at*;repeat' (first|refine s_0 ?_|refine zf 0 ?_;refine zk ?_;intro _;refine zk ?_;intro _;refine zk ?_;intro _|refine zf 1 ?_;refine q_v (ze (B:=zg m)) ?_;refine q_v (ze (B:=zg a)) ?_;refine q_v (ze (B:=zg a)) ?_;refine q_v (za (hc:=q_c A)) ?_;refine q_n (zl (n:=s)) ?_)
 exact zar rfl (zE (B:=zg s) rfl (ty rfl) rfl Ey Ex (zd _).symm) Ev ⟨rfl,rfl⟩
end Go.Proofs.YtdnlngbjpdbffaaGreatDoor
namespace Go.Nt
open Go Go.Sy
theorem zvf{x k p q:Nat}(hk:k<(zbE x).length)(I:x-left k x=q*2^p)(hp:left k x<2^p):
  (zbE x)[k]<p/\left (k+1) x<2^(zbE x)[k]/\x-left (k+1) x=(q*2^(p-(zbE x)[k])+1)*2^(zbE x)[k]:=by
 obtain⟨r,B⟩:=zgO hk;obtain⟨G,H,A⟩:=zhP _ r;have j:=zge k x;have F:=zqf k x q_o;rw[B];generalize left k x=y at*;generalize nd 2 y=m at*;obtain⟨i,rfl⟩:∃i,m=i+1:=⟨m-1,by omega⟩;rw[Aw] at*;rw[AN] at A;have w:i<p:=by
  rcases AG i p with h|h
  ·exact h
  ·have:=AB (n:=2) q_e h;omega
 refine⟨w,by rw[j];omega,?_⟩;have E:q*2^p=q*2^(p-i)*2^i:=by rw[B8,<-Ax,show p-i+i=p by omega]
 rw[B5,Bu,<-E,j];omega
end Go.Nt
namespace Go.Sy
open Go
theorem Holds.both{B:Nat}{M:Nat->Prop}{L X:List Res}{w:World}{m T1 q T2:Nat}{C1 C2:List Value}(hh:Holds B M (L++X) w)(h1:Has L (.blk m T1 C1))(h2:Has L (.blk q T2 C2))(r:Res.blk m T1 C1≠ .blk q T2 C2):
  Holds w.heap.size (λx=>x=m\/x=q) [.blk m T1 C1,.blk q T2 C2] w:=by
 have E:=hh.two (F1 h1) (F1 h2) r;refine⟨λx j=>?_,?_,λx j y A=>?_⟩
 ·rcases AV.1 j with rfl|j
  ·exact hh.has (F1 h1)
  ·rw[AD.1 j];exact hh.has (F1 h2)
 ·exact Ah.2 ⟨λx j=>by rw[AD.1 j];exact E,Bl _ _⟩
 ·rcases AV.1 j with rfl|j
  ·exact .inr (.inl (Dd A))
  ·rw[AD.1 j] at A;exact .inr (.inr (Dd A))
theorem Holds.ne{r:Nat}{M:Nat->Prop}{L X:List Res}{w:World}{j T1 m T2:Nat}{C1 C2:List Value}(hh:Holds r M (L++X) w)(h1:Has L (.blk j T1 C1))(h2:Has L (.blk m T2 C2))(q:Res.blk j T1 C1≠ .blk m T2 C2):j≠m:=λh=>
 hh.two (F1 h1) (F1 h2) q j rfl h.symm
theorem zgC{b T j T':Nat}{C C':List Value}(h:T≠T'):Res.blk b T C≠ .blk j T' C':=λe=>h (by injection e)
end Go.Sy
namespace Go.Proofs.YtdnlngbjpdbffaaGreatDoor
open Go Go.Sy Go.Nt Go.RowKit
attribute [local irreducible] Sy SyL SyX Sy.Fn callFunc zg zae
theorem zlF(m G r p q:Nat)(to:Nat)(V:Nat->Nat)(fd:Nat)(O cd:List Value)(w:World)(hp:p<=4000)(K:to<=p)
  (J:∀args w,(callFunc fd args).run Tryz.prog w= .ok (.enter fd args) w)(I:∀k w,q_G fd (O++[zu (V k)]++cd) w (zu (V (2*k))))
  (T:Holds w.heap.size (λx=>x=m\/x=r) [.blk m 3 [.int .i64 p],.blk r 133 (zg (V q))] w)(hc:w.cell? ⟨G,0,none⟩=some (.func (.func fd) O.toArray cd.toArray))(hn:¬(G=m\/G=r)):
  Sy.Fn Tryz.prog 322 [.int .i64 to,.pointer (some ⟨m,0,none⟩),.pointer (some ⟨G,0,none⟩),.pointer (some ⟨r,0,none⟩)] w (λx=>x=m\/x=r)
   (λ_ R=>R= [.blk m 3 [.int .i64 to],.blk r 133 (zg (V (q*2^(p-to))))]):=by
 refine zaX Tryz.func322 rfl Tryz.ntmps322 q_p T ?_;repeat' (first|refine zeJ ?_|fail)
 refine zL (γ:=Nat×Nat) (λ_=>[(0,.int .i64 to),(1,.pointer (some ⟨m,0,none⟩)),(2,.pointer (some ⟨G,0,none⟩)),(3,.pointer (some ⟨r,0,none⟩))])
  (λg=>[.blk m 3 [.int .i64 g.1],.blk r 133 (zg (V g.2))])
  (λg=>to<=g.1/\g.1<=4000/\g.2*2^(g.1-to)=q*2^(p-to)) (λg=>g.1) (p,q) ⟨K,hp,rfl⟩ ?_ ?_ ?_
 ·exact q_h
 ·exact q_h
 rintro⟨j,A⟩ ⟨Q,S,F⟩;dsimp only at Q S F ⊢;rcases AG to j with h|h
 ·have E:decide ((j:Int)>(to:Int))=true:=q_d;have H:IntKind.i64.wrap ((j:Int)-1)=((j-1:Nat):Int):=q_w;have W:=zd (V A);have Y:=zd (V (2*A));have I:=I A;have F:2*A*2^(j-1-to)=q*2^(p-to):=by
   rw[<-F,show j-to=(j-1-to)+1 by omega,AN];ac_rfl
  generalize V A=v,U:V (2*A)=Z at*;repeat' (first|refine s_t ?_|refine zf 0 ?_;refine zm ?_;refine zb ?_;refine q_v (zH (hr:=E)) ?_|refine zf 2 ?_;refine q_v (zo (hv:=hc) (hn:=hn)) ?_;refine q_v (ze (B:=zg v)) ?_;refine q_v (zeZ (he:=J) (hc:=λw' X hk hh=>I w')) ?_;refine q_n (zl (n:=Z)) ?_|refine zf 1 ?_;refine zm ?_;refine q_v (zK (hr:=H)) ?_;refine zP ?_)
  refine zC (j-1,2*A) ⟨by show to<=j-1;omega,by show j-1<=_;omega,F⟩ ?_ ?_ ?_
  ·show j-1<j;omega
  ·exact q_h
  ·show SubR [.blk m 3 [.int .i64 ((j-1:Nat):Int)],.blk r 133 (zg (V (2*A)))] _;rw[U];exact q_h
 ·obtain rfl:j=to:=q_o;have E:decide ((j:Int)>(j:Int))=false:=q_f;rw[C7,Ao,Al] at F;rw[<-F];repeat' (first|refine s_0 ?_|refine zf 0 ?_;refine zm ?_;refine zb ?_;refine q_v (zH (hr:=E)) ?_)
  exact zft rfl q_h rfl
theorem zmI(x v:Nat)(V:Nat->Nat)(fd S:Nat)(A cd Z Y:List Value)(w:World)(hx:x<18446744073709551616^16)
  (H:∀args w,(callFunc fd args).run Tryz.prog w= .ok (.enter fd args) w)(U:∀args w,(callFunc S args).run Tryz.prog w= .ok (.enter S args) w)
  (hD:∀k w,q_G fd (A++[zu (V k)]++cd) w (zu (V (2*k))))(hA:∀k w,q_G S (Z++[zu (V k),zu v]++Y) w (zu (V (k+1)))):
  q_G 292 [zu x,zu (V 0),zu v,.func (.func fd) A.toArray cd.toArray,.func (.func S) Z.toArray Y.toArray] w (zu (V x)):=by
 refine zt Tryz.func292 Tryz.ntmps292 ?_;have c5:=zd x;have c4:=zd v;have c1:=zd (V 0);have a8:=λE=>zcv x E hx;have b1:=zaV 2 x q_e;have b2:=zfh hx;generalize nd 2 x=p0,b0:V 0=v0 at*;repeat' (first|refine s_0 ?_|refine zf 0 ?_;refine zk ?_;intro _;refine zk ?_;intro _;refine zk ?_;intro _;refine zk ?_;intro _;refine zk ?_;intro _;refine zk ?_;intro _)
 rename_i b5 b6 b7 G b9 I;refine zc0 (id:=1) mixed ?_
 (refine zc1 5 5 [[],[],[1],[],[],[0,1,2,3,4],[0,1,2,3,4,5]] [[],[],[],[],[],[],[]] none rfl ?_ ?_ ?_;kernel_rfl;kernel_rfl;refine q_E (ze (B:=zg v0)) ?_;refine q_E (ze (B:=zg x)) ?_;refine q_E (za (hc:=q_c a8)) ?_;try refine dh_0nE (h:=?_))
 refine zfX (R:=λ_=>zj5 133 (List.replicate 16 (.int .u64 0))) (λ_ _ _=>rfl) (λρ hρ=>FM zeR λv L' h=>?_) (h:=?_)
 ·obtain⟨b,rfl,rfl⟩:=h;exact⟨[_],rfl,b,rfl,rfl⟩
 refine zfX (R:=λ_=>zj5 3 [.int .i64 0]) (λ_ _ _=>rfl) (λρ hρ=>FM zeR λv L' h=>?_) (h:=?_)
 ·obtain⟨b,rfl,rfl⟩:=h;exact⟨[_],rfl,b,rfl,rfl⟩
 refine zfm (h:=?_);rintro ρ ⟨⟨m,g1,g2⟩,⟨j,g3,g4⟩,-⟩
 (refine zc2 [[],[],[1],[],[],[0,1,2,3,4],[0,1,2,3,4,5]] ?_ ?_;kernel_rfl)
 refine FL (fr':=[(11,.pointer (some ⟨j,0,none⟩)),(12,.pointer (some ⟨m,0,none⟩)),(15,zu v0),(17,.int .i64 p0),(5,.pointer (some ⟨b5,0,none⟩)),(7,.pointer (some ⟨b7,0,none⟩)),(8,.pointer (some ⟨G,0,none⟩)),(9,.pointer (some ⟨b9,0,none⟩)),(10,.pointer (some ⟨I,0,none⟩))])
  (L':=[.blk j 133 (List.replicate 16 (.int .u64 0)),.blk m 3 [.int .i64 0],.blk b5 133 (zg x),.blk b7 133 (zg v),.blk G 296 [.func (.func fd) A.toArray cd.toArray],.blk b9 206 [.func (.func S) Z.toArray Y.toArray],.blk I 133 (List.replicate 16 (.int .u64 0))]) ?_ ?_ ?_
 rotate_left
 ·(repeat' (first|exact GZ|refine Fb rfl ?_ ?_|rfl))
  ·exact g3
  ·exact g1
 ·show SubR _ ((ρ 4).2++((ρ 3).2++_));rw[g2,g4];exact q_h
 repeat' (first|refine s_0 ?_|refine zf 2 ?_;refine q_v zab ?_;refine zk ?_;intro _;refine zP ?_|refine zf 3 ?_;refine q_v (ze (B:=zg x)) ?_|(refine zx ?_;first|refine q_n (zl (n:=v0)) ?_|refine zP ?_|fail)|fail)
 rename_i a6;refine q_s (zi (hc:=λE X J F=>zqe x E)) ?_;rintro _ _ ⟨R,rfl,b,rfl,rfl⟩;repeat' (first|refine s_t ?_|fail)
 rw[<-b0];refine zgQ (γ:=Nat×Nat) (xs:=zbE x) (Arg:=zv8) zde rfl (en rfl) rfl (λk s=>x-left k x=s.2*2^s.1/\left k x<2^s.1/\s.1<=1024) (λ_ _ _=>False)
  (λs=>[.blk j 133 (zg (V s.2)),.blk m 3 [.int .i64 s.1],.blk a6 326 [.func (.func 322) #[] #[.pointer (some ⟨m,0,none⟩),.pointer (some ⟨G,0,none⟩),.pointer (some ⟨j,0,none⟩)]],.blk b7 133 (zg v),.blk G 296 [.func (.func fd) A.toArray cd.toArray],.blk b9 206 [.func (.func S) Z.toArray Y.toArray]])
  [.blk b 133 (zg x)] [.blk b5 133 (zg x),.blk I 133 (List.replicate 16 (.int .u64 0))] (p0,0) ⟨by rw[show left 0 x=x from rfl,C7,BF],b1,b2⟩ ?_ ?_ ?_ ?_ ?_ ?_
 ·((try simp only[Ae,Ag,AJ]);(repeat' (first|exact List.Perm.nil|exact Ay _|apply zhu;with_reducible (focus ((repeat (first|exact Eu|apply Ew));done))|apply zhu;(focus ((repeat (first|exact Eu|apply Ew));done)))))
 ·exact λE Mi X J hm _ _=>zo0 b x E Mi hx
 ·rintro O x vs RA E ⟨rfl,_⟩;rfl
 ·rintro lp k J ⟨p,q⟩ vs RA W rec b4 ⟨T,hp,Q⟩ ⟨rfl,rfl⟩ c0 K;dsimp only at T hp Q ⊢;clear K;obtain⟨hi,a9,a7⟩:=zvf J T hp;generalize (zbE x)[k]=i at*;have c3:=zd (V (q*2^(p-i)));have b3:=zd (V (q*2^(p-i)+1));have hA:=hA (q*2^(p-i));repeat' (first|refine s_t ?_|apply zcR;(focus ((repeat (first|exact Eu|apply Ew));done));assumption|refine q_k 4 ?_|refine zf 5 ?_;refine zm ?_;refine zb ?_)
  refine q_s (zeq (vs:=[.int .i64 i]) (cap:=[.pointer (some ⟨m,0,none⟩),.pointer (some ⟨G,0,none⟩),.pointer (some ⟨j,0,none⟩)]) (C:=[.blk m 3 [.int .i64 p],.blk j 133 (zg (V q))]) (M':=λx=>x=m\/x=j)
   (hC:=F0 (by repeat (first|exact Eu|apply Ew)) rfl (F0 (by repeat (first|exact Eu|apply Ew)) rfl F2)) (hM:=λb hb=>by
    rcases hb with rfl|rfl
    ·exact⟨_,A3 ..,rfl⟩
    ·exact⟨_,A1 _ (AD.2 rfl),rfl⟩)
   (hc:=λE X J F=>zlF m G j p q i V fd A cd E q_o q_o H hD (F.both Ey Ey (zgC q_e)) (zp (F.has (r:=.blk G 296 [.func (.func fd) A.toArray cd.toArray]) q_h) Ex 0 _ rfl)
    (λe=>e.elim (F.ne (C1:=[.func (.func fd) A.toArray cd.toArray]) (T1:=296) (C2:=[.int .i64 p]) (T2:=3) Ey Ey (zgC q_e)) (F.ne (C1:=[.func (.func fd) A.toArray cd.toArray]) (T1:=296) (C2:=zg (V q)) (T2:=133) Ey Ey (zgC q_e))))) ?_
  rintro _ _ ⟨R,rfl,rfl⟩;repeat' (first|refine s_0 ?_|refine zf 6 ?_;refine zm ?_;refine q_v (ze (B:=zg (V (q*2^(p-i))))) ?_;refine q_v (ze (B:=zg v)) ?_;refine q_v (zeZ (he:=U) (hc:=λE X J F=>hA E)) ?_;refine q_n (zl (n:=V (q*2^(p-i)+1))) ?_)
  refine zgE (i,q*2^(p-i)+1) ⟨a7,a9,by show i<=1024;omega⟩ ?_;dsimp only;exact q_h
 ·rintro⟨p,q⟩ ⟨T,-,Q⟩;rw[zkV,Nat.sub_zero] at T;dsimp only at T Q ⊢;repeat' (first|refine zdf ?_|refine zh3 ?_|refine zf 7 ?_;refine zm ?_)
  refine q_s (zeq (vs:=[.int .i64 (0:Nat)]) (cap:=[.pointer (some ⟨m,0,none⟩),.pointer (some ⟨G,0,none⟩),.pointer (some ⟨j,0,none⟩)]) (C:=[.blk m 3 [.int .i64 p],.blk j 133 (zg (V q))]) (M':=λx=>x=m\/x=j)
   (hC:=F0 (by repeat (first|exact Eu|apply Ew)) rfl (F0 (by repeat (first|exact Eu|apply Ew)) rfl F2)) (hM:=λb hb=>by
    rcases hb with rfl|rfl
    ·exact⟨_,A3 ..,rfl⟩
    ·exact⟨_,A1 _ (AD.2 rfl),rfl⟩)
   (hc:=λE X J F=>zlF m G j p q 0 V fd A cd E q_o q_o H hD (F.both Ey Ey (zgC q_e)) (zp (F.has (r:=.blk G 296 [.func (.func fd) A.toArray cd.toArray]) q_h) Ex 0 _ rfl)
    (λe=>e.elim (F.ne (C1:=[.func (.func fd) A.toArray cd.toArray]) (T1:=296) (C2:=[.int .i64 p]) (T2:=3) Ey Ey (zgC q_e)) (F.ne (C1:=[.func (.func fd) A.toArray cd.toArray]) (T1:=296) (C2:=zg (V q)) (T2:=133) Ey Ey (zgC q_e))))) ?_
  rintro _ _ ⟨R,rfl,rfl⟩;rw[CD,<-T];have c2:=zd (V x);repeat' (first|refine s_0 ?_|refine zf 8 ?_;refine q_v (ze (B:=zg (V x))) ?_;refine q_n (zl (n:=V x)) ?_)
  exact zar rfl (zE (B:=zg (V x)) rfl (ty rfl) rfl Ey Ex (zd _).symm) Ev ⟨rfl,rfl⟩
 ·rintro _ k s J h;exact h.elim
end Go.Proofs.YtdnlngbjpdbffaaGreatDoor
