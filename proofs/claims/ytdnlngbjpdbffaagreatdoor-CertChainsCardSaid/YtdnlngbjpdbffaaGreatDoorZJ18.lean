/- Lemmas. -/
import Derived.Test.YtdnlngbjpdbffaaGreatDoorZJ17
set_option maxRecDepth 10000
set_option linter.all false
namespace Go.Nt
open Go Go.Sy
def gS:Nat->List UInt8
 |1=>[98,51,102]
 |2=>[52,52,56,53,56,102,102]
 |3=>[57,49,98,56,56,55,102,102]
 |_=>[102,102,102,102,102,102,102,102,102,102,102,102,102,102,102,102,99,57,48,102,100,97,97,50,50,49,54,56,99,50,51,52,99,52,99,54,54,50,56,98,56,48,100,99,49,99,100,49,50,57,48,50,52,101,48,56,56,97,54,55,99,99,55,52,48,50,48,98,98,101,97,54,51,98,49,51,57,98,50,50,53,49,52,97,48,56,55,57,56,101,51,52,48,52,100,100,101,102,57,53,49,57,98,51,99,100,51,97,52,51,49,98,51,48,50,98,48,97,54,100,102,50,53,102,49,52,51,55,52,102,101,49,51,53,54,100,54,100,53,49,99,50,52,53,101,52,56,53,98,53,55,54,54,50,53,101,55,101,99,54,102,52,52,99,52,50,101,57,97,54,51,97,51,54,50,48,102,102,102,102,102,102,102,102,102,102,102,102,102,102,102,102]
theorem zol(i:Nat)(h0:1<=i)(j:i<=4):parse (gS i)=some (gP i):=
 zcK (p:=λi=>parse (gS i)=some (gP i)) (by decide +kernel) (by decide +kernel) (by decide +kernel) (by decide +kernel) i h0 j
theorem zsG(i:Nat)(h0:1<=i)(j:i<=4):(gS i).length<=192:=
 zcK (p:=λi=>(gS i).length<=192) (by decide +kernel) (by decide +kernel) (by decide +kernel) (by decide +kernel) i h0 j
theorem zzj(i:Nat):gP i/2^1=gQ i:=rfl
def zek:List Value:=[.string (str (gS 1)),.string (str (gS 2)),.string (str (gS 3)),.string (str (gS 4))]
theorem zlk(i:Nat)(h0:1<=i)(j:i<=4):zek[i-1]?=some (.string (str (gS i))):=
 zcK (p:=λi=>zek[i-1]?=some (.string (str (gS i)))) rfl rfl rfl rfl i h0 j
theorem zf5(i:Nat)(h0:1<=i)(j:i<=4):1<=gL i/\gL i<=96:=
 zcK (p:=λi=>1<=gL i/\gL i<=96) q_e q_e q_e q_e i h0 j
theorem zcq(i:Nat)(h0:1<=i)(j:i<=4):gP i<18446744073709551616^16:=by
 rw[zhC 256 8 128 rfl rfl];have h:=zaV 256 (gP i) q_e;rw[zlE i h0 j] at h;exact AK h (AB q_e (by have:=(zf5 i h0 j).2;omega))
theorem zci(i:Nat)(h0:1<=i)(j:i<=4):gQ i<18446744073709551616^16:=B3 (Bz _ _) (zcq i h0 j)
def zag(p q l:Nat):List Value:=zg p++(zg q++[.int .i64 l])
theorem zaa(p q l:Nat):(zag p q l).length=33:=by
 unfold zag;rw[A4,A4,zd,zd];rfl
theorem zbb(p q l:Nat):(zag p q l).all (·.oneCell')=true:=by
 unfold zag;rw[BQ,BQ,zfG,zfG];rfl
theorem zct(p q l:Nat):Seg (zag p q l) 0 (zg p):=by
 have:=Seg.mid (A:=[]) (B:=zg p) (D:=zg q++[Value.int .i64 l]);rw[Ag] at this;exact this
theorem zcx(p q l:Nat):Seg (zag p q l) 16 (zg q):=by
 have:=Seg.mid (A:=zg p) (B:=zg q) (D:=[Value.int .i64 l]);rw[zd,AI] at this;exact this
theorem zc5(p q l:Nat):(zag p q l)[32]?=some (.int .i64 (l:Int)):=by
 unfold zag;rw[CS (by rw[zd];decide),CS (by rw[zd,zd];decide),zd,zd];rfl
theorem ztk(p q l:Nat):FillTo (nth [(0,16),(16,16),(32,1)]) [(0,zu p),(1,zu q),(2,Value.int .i64 l)] (List.replicate 32 (Value.int IntKind.u64 0)++[.int .i64 0]) (zag p q l):=by
 have m:List.replicate 32 (Value.int IntKind.u64 0)=List.replicate 16 (Value.int IntKind.u64 0)++List.replicate 16 (Value.int IntKind.u64 0):=rfl;have s1:zaK (List.replicate 32 (Value.int IntKind.u64 0)++[.int .i64 0]) 0 (zg p)=zg p++(List.replicate 16 (Value.int IntKind.u64 0)++[.int .i64 0]):=by
  unfold zaK;rw[zd,m];simp
 have s2:zaK (zg p++(List.replicate 16 (Value.int IntKind.u64 0)++[.int .i64 0])) 16 (zg q)=zg p++(zg q++[.int .i64 0]):=by
  unfold zaK;rw[zd,Ch (by rw[zd];decide),A6 (by rw[zd];decide),List.drop_append,zd,EM (by rw[zd];decide)];simp
 have r:zaK (zg p++(zg q++[.int .i64 0])) 32 [Value.int .i64 (l:Int)]=zag p q l:=by
  have e:zg p++(zg q++[Value.int .i64 0])=(zg p++zg q)++[Value.int .i64 0]:=by rw[AI]
  have j:(zg p++zg q).length=32:=by rw[A4,zd,zd]
  unfold zaK zag;rw[e,Ch (by rw[j];decide),A6 (by rw[j];decide),EM (by rw[A4,j];exact A7 _)];simp
 refine .cons (cs:=zg p) rfl rfl (zd p) q_p ?_;rw[s1];refine .cons (cs:=zg q) rfl rfl (zd q) (by simp[zd]) ?_;rw[s2];refine .cons (cs:=[.int .i64 l]) rfl rfl rfl (by simp[zd]) ?_;rw[r];exact .nil
theorem ztt:List.replicate 32 (Value.int IntKind.u64 0)++[Value.int .i64 0]=zag 0 0 0:=by
 unfold zag zg;rw[zgI,BY];rfl
end Go.Nt
namespace Go.Proofs.YtdnlngbjpdbffaaGreatDoor
section
open Go Go.Sy Go.Nt Go.RowKit
def zcP(p q l:Nat):Value:=.agg (zag p q l).toArray
def GT(w:World):Prop:=w.rangeAt 0 0 zek
theorem GT.to{w w':World}(h:GT w)(hk:Keep No w w'):GT w':=za0 h hk (λh=>h)
variable {ro:Option Nat}{N:Nat}{w0:World}{M:Nat->Prop}{ds:List Deferred}{g:Nat->Option Value}{L:List Res}{o:Oper}{z z' z'':Operand}
theorem zoH{p q l:Nat}(r:o.op= .build 194 #[(0,z),(1,z'),(2,z'')]:=by exact rfl)(hz:ev g z=some (zu p):=by exact rfl)(m:ev g z'=some (zu q):=by exact rfl)(j:ev g z''=some (.int .i64 (l:Int)):=by exact rfl):OpT Tryz.prog ro N w0 M ds o g L (Det (zcP p q l) L):=
 zgg (parts:=#[(0,z),(1,z'),(2,z'')]) (vs:=[zu p,zu q,.int .i64 l]) (C:=zag p q l) (ztk p q l) r (by simp[evs,hz,m,j]) (ty rfl) rfl rfl (zc rfl)
theorem zkk(j:o.op= .build 194 #[]:=by exact rfl):OpT Tryz.prog ro N w0 M ds o g L (Det (zcP 0 0 0) L):=by
 unfold zcP;rw[<-ztt];exact zeY j (ty rfl) (.inl ⟨rfl,rfl⟩) (zc rfl)
attribute [local irreducible] Sy SyL SyX Sy.Fn callFunc zg zae zag gP gQ gL gS zek
theorem ziu(z:Int)(w:World)(hz:¬(1<=z/\z<=4)):q_G 180 [.int .i64 z] w (.tuple #[zcP 0 0 0,.int .i64 2]):=by
 refine zt Tryz.func180 Tryz.ntmps180 ?_;have j:=zaa 0 0 0;by_cases h:z<1
 ·have g1:decide (z<1)=true:=decide_eq_true h;repeat' (first|refine s_0 ?_|refine zf 0 ?_;refine z9 ?_;intro _|refine q_k 1 ?_;refine q_x (zn (hr:=g1)) ?_|refine zf 2 ?_;refine q_v zkk ?_;refine q_y (zG (B:=zag 0 0 0) (hv:=zbb 0 0 0) (h1:=(zaa 0 0 0).symm)) ?_)
  exact zU rfl (zE (B:=zag 0 0 0) rfl (ty rfl) rfl Ey Ex (zaa _ _ _).symm) (zh rfl) Ev ⟨rfl,rfl⟩
 ·have g1:decide (z<1)=false:=decide_eq_false h;have g2:decide (z>4)=true:=q_d;repeat' (first|refine s_0 ?_|refine zf 0 ?_;refine z9 ?_;intro _|refine q_k 1 ?_;refine q_x (zn (hr:=g1)) ?_;refine q_x (zH (hr:=g2)) ?_|refine zf 2 ?_;refine q_v zkk ?_;refine q_y (zG (B:=zag 0 0 0) (hv:=zbb 0 0 0) (h1:=(zaa 0 0 0).symm)) ?_)
  exact zU rfl (zE (B:=zag 0 0 0) rfl (ty rfl) rfl Ey Ex (zaa _ _ _).symm) (zh rfl) Ev ⟨rfl,rfl⟩
theorem zcU(i:Nat)(w:World)(h0:1<=i)(E:i<=4)(O:GT w):q_G 180 [.int .i64 (i:Int)] w (.tuple #[zcP (gP i) (gQ i) (gL i),.int .i64 0]):=by
 refine zt Tryz.func180 Tryz.ntmps180 ?_;have g1:decide ((i:Int)<1)=false:=q_f;have g2:decide ((i:Int)>4)=false:=q_f;have g3:IntKind.i64.wrap ((i:Int)-1)=((i-1:Nat):Int):=q_w;have A:w.cell? ⟨0,i-1,none⟩=some (.string (str (gS i))):=by
  have:=O (i-1) _ (zlk i h0 E);rwa[Aa] at this
 have H:=zcq i h0 E;have K:=zsG i h0 E;have r:=λG=>zvE (gS i) G q_o;rw[zol i h0 E] at r;dsimp only at r;rw[if_pos H] at r;have F:=λG=>zyL (gP i) 1 G H q_e;rw[zzj] at F;have I:=λG=>zcv (gP i) G H;have J:=znS 8 (gP i) q_e;rw[show(2:Nat)^8=256 from rfl,zlE i h0 E] at J;have Q:=zfh H;have R:=zd (gP i);have S:=zd (gQ i);have T:=zaa (gP i) (gQ i) (gL i);generalize nd 2 (gP i)=m at*;have g4:IntKind.i64.wrap ((m:Int)+7)=((m+7:Nat):Int):=q_w;have g5:IntKind.i64.wrap (((m+7:Nat):Int).tdiv 8)=((gL i:Nat):Int):=by
  have:=zdw (p:=m+7) (k:=8) q_o;rw[show m+7=m+(8-1) from rfl,<-J] at this;exact this
 clear J K;generalize gL i=l,gQ i=q,gP i=p at*;repeat' (first|refine s_0 ?_|refine zf 0 ?_;refine z9 ?_;intro _|refine q_k 1 ?_;refine q_x (zn (hr:=g1)) ?_;refine q_x (zH (hr:=g2)) ?_|refine q_k 3 ?_;refine q_v (zK (hr:=g3)) ?_;refine q_v (zeE (j:=i-1)) ?_;refine q_v (zo (hv:=A)) ?_;refine q_v (za (hc:=q_c r)) ?_;refine zb ?_;refine zk ?_;intro _;refine q_y (zl (n:=p)) ?_|refine zf 4 ?_;refine q_v (ze (B:=zg p)) ?_;refine q_v (za (hc:=q_c F)) ?_;refine zb ?_;refine zk ?_;intro _;refine q_y (zl (n:=q)) ?_|refine zai (id:=5) 6 [[],[],[],[2],[2,3],[2,3,4],[0,1,2,3,4,5],[0,1,2,3,4,5,6],[0,1,2,3,4,5,6,7]] mixed ?_ ?_;kernel_rfl;refine q_D (ze (B:=zg p)) ?_;refine q_D (ze (B:=zg q)) ?_;refine q_D (ze (B:=zg p)) ?_;refine q_D (za (hc:=q_c I)) ?_;refine q_D (zD (hr:=g4)) ?_;refine q_D (zbz (hr:=g5)) ?_;refine zaF ?_;refine q_v (zoH (p:=p) (q:=q) (l:=l)) ?_;refine q_n (zG (B:=zag p q l) (hv:=zbb p q l) (h1:=(zaa p q l).symm)) ?_;refine zw ?_|fail)
 exact zU rfl (zE (B:=zag p q l) rfl (ty rfl) rfl Ey Ex (zaa _ _ _).symm) (zh rfl) Ev ⟨rfl,rfl⟩
end
open Go Go.Sy Go.Nt Go.RowKit
theorem znx{H:Type}{enc:TypeId×Value->H}{P:Program}{w:World}{base:Nat}{V:Nat->Bool}{held:Bool}{j:Nat}{t e:TypeId}{n:Nat}{cs:List Value}{q:List (List UInt8)}{p:List MemPlace}
  (R:P.underlying t=some (.array n e))(he:P.underlying e=some .string)(A:P.cellsOf e=1)(B:P.cellsOf t=n)
  (h:DataW.trod enc P w base V held j t cs=some (.agg (q.map λs=> .lit (.string s)),p)):cs=q.map λs=>Value.string (str s):=by
 cases j with
 |zero=>simp[DataW.trod] at h
 |succ j=>
  simp only[DataW.trod,R,A,B,Al] at h;split at h
  ·rename_i W;obtain⟨F,G,S⟩:=Ab.1 h;have m:F.map (·.1)=q.map λs=>(DataW.lit (.string s):DataW H):=by
    have:=congrArg Prod.fst S;simpa using this
   have T:F.length=n:=by simpa using Lib.mapM_length G
   have U:q.length=n:=by
    have:=congrArg List.length m;simp at this;omega
   apply Ca;intro i;by_cases hi:i<n
   ·obtain⟨b,K,Q⟩:=Lib.mapM_at G i i (by simp[hi]);obtain⟨s,O,rfl,_⟩:=DataW.trod_string he Q;have I:cs[i]?=some (.string s):=by
     have:=congrArg (·[0]?) O;simpa [CI,Bp] using this
    have r:(F.map (·.1))[i]?=some (DataW.lit (.string s.data.toList):DataW H):=by simp[K]
    rw[m] at r;simp only[AW,Ab,DataW.lit.injEq,Lit.string.injEq] at r;obtain⟨z',E,rfl⟩:=r;have J:str s.data.toList=s:=rfl;rw[I,AW,E,CG,J]
   ·rw[BI (by omega),BI (by simp;omega)]
  ·cases h
theorem ztp{P:Program}{w:World}{l:List (String×DataW Unit)}(h:laidMet P l w){n:String}{J:List (List UInt8)}{g t e m:Nat}(hm:(n,(.agg (J.map λs=> .lit (.string s)):DataW Unit))∈l)(I:P.globalNamed n=some g)(G:(P.globals[g]?).map (·.type)=some t)
  (R:P.underlying t=some (.array m e))(he:P.underlying e=some .string)(r:P.cellsOf e=1)(B:P.cellsOf t=m):w.rangeAt g 0 (J.map λs=>Value.string (str s)):=by
 obtain⟨U,Q,_⟩:=h;obtain⟨T,V,S,H,p,E,F,q,K⟩:=zlW Q hm;obtain rfl:=Am (I.symm.trans E);obtain rfl:=Am (G.symm.trans F);have A:=znx R he r B K;intro j v O;rw[World.var?_cell I q,Aa,<-Cl,A];exact O
theorem zyx:Tryz.prog.globalNamed "watchword/group.primes" =some 0:=by kernel_rfl
theorem zwc:(Tryz.prog.globals[0]?).map (·.type)=some 244:=by kernel_rfl
theorem zt5:Tryz.prog.underlying 244=some (.array 4 9):=by kernel_rfl
theorem zzP:Tryz.prog.underlying 9=some .string:=by kernel_rfl
theorem zv5:Tryz.prog.cellsOf 9=1:=by kernel_rfl
theorem zp1:Tryz.prog.cellsOf 244=4:=by kernel_rfl
theorem zyE:(Rows.laid_watchword_group_primes:DataW Unit)= .agg ([gS 1,gS 2,gS 3,gS 4].map λs=> .lit (.string s)):=by kernel_rfl
theorem zz9{W:World}{l:List (String×DataW Unit)}(h:laidMet Tryz.prog l W)(h1:("watchword/group.primes",Rows.laid_watchword_group_primes)∈l):GT W:=by
 rw[zyE] at h1;exact ztp h h1 zyx zwc zt5 zzP zv5 zp1
def zzR:Nat->DataW Unit->List Value
 |n+1,.agg l=>l.flatMap (zzR n)
 |_,.lit (.int k z)=>[.int k z]
 |_,.lit (.string s)=>[.string (str s)]
 |_,_=>[]
noncomputable def ziF(os:Os):World:=
 { zni os with heap:=(zni os).heap.modify 0 (zeV (zzR 3 Rows.laid_watchword_group_primes)) }
end Go.Proofs.YtdnlngbjpdbffaaGreatDoor
namespace Go.Sy
open Go
variable {P:Program}{ro:Option Nat}{N:Nat}{w0:World}{M:Nat->Prop}{ds:List Deferred}{o:Oper}{g:Nat->Option Value}{L:List Res}{t:TypeId}{y:Ty}
theorem zld{e n c':Nat}{lo co:Operand}{k1 k2:IntKind}{z0:Value}{l c:Int}{ye:Ty}(a6:n<=c')(E:l=(n:Int):=by exact rfl)(r:c=(c':Int):=by exact rfl)(K:o.op= .makeSlice t lo co:=by exact rfl)(Y:ev g lo=some (.int k1 l):=by exact rfl)(hc:ev g co=some (.int k2 c):=by exact rfl)(ht:zah P t=some y:=by exact ty rfl)(hy:y.desc= .slice e:=by exact rfl)(he:zah P e=some ye:=by exact ty rfl)
  (hz:zbd P e=some [z0]:=by exact zc rfl)(h1:ye.size=1:=by exact rfl)(hb:ye.bytes*c'<=281474976710656:=by first|(dsimp only;omega)|omega|fail)(hm:c'<=maxLen:=by first|(unfold maxLen;omega)|fail):
  OpT P ro N w0 M ds o g L (λv Q=>∃b,v= .slice (some ⟨b,0,none⟩) n c'/\Q= .blk b e (List.replicate c' z0)::L):=
 FH (by rw[K];rfl) λa w X j=>by
  obtain⟨d,i',U,W,q,_⟩:=zX ht;rw[hy] at q;have:=zbp q;subst this;obtain⟨de,O,V,m,_,B,A,_⟩:=zX he;unfold zbd at hz;rw[m] at hz;simp only[Ac,Ab] at hz;obtain⟨J,I,G⟩:=hz;subst E;subst r;obtain⟨S,T⟩:=zbT j e (List.replicate c' z0);refine⟨_,_,w.alloc (.cells (List.replicate c' z0).toArray e),_,?_,.inl rfl,⟨w.heap.size,rfl,rfl⟩,S,T⟩;have Z:c'<=9223372036854775807:=by unfold maxLen at hm;omega
  have H:J.cells= #[z0]:=B9.1 G;have F:=run_make (P:=P) w t e O J U m I k1 k2 n c' q_o q_o (by rw[A,<-Bg];omega) q_o;simp only[Bn] at F;have R:madeCells J.cells (c'*O.size)=(List.replicate c' z0).toArray:=by
   rw[B,h1,Al,H];exact B9.1 (toList_madeCells_one z0 c')
  rw[R] at F;simp[execOp,K,j.agr.eval Y,j.agr.eval hc,F]
end Go.Sy
namespace Go.Nt
open Go Go.Sy
def zaL(p q x:Nat):Bool:=decide (0<x/\x<p/\x^q%p=1)
def zbc(l x:Nat):List UInt8:=List.replicate (l-nd 256 x) 0++byt x
theorem zdL(l x:Nat)(h:nd 256 x<=l):(zbc l x).length=l:=by
 unfold zbc;rw[A4,AL,zhR];omega
end Go.Nt
namespace Go.Proofs.YtdnlngbjpdbffaaGreatDoor
open Go Go.Sy Go.Nt Go.RowKit
attribute [local irreducible] Sy SyL SyX Sy.Fn callFunc zg zae zag gP gQ gL gS zek zaL
theorem zkx(p q l x e:Nat)(w:World)(hp:p<18446744073709551616^16)(h0:0<p)(hx:x<18446744073709551616^16)(he:e<18446744073709551616^16):
  q_G 192 [zcP p q l,zu x,zu e] w (zu (x^e%p)):=by
 refine zt Tryz.func192 Tryz.ntmps192 ?_;have A:=zaa p q l;have E:=zd p;have G:=zd x;have le:=zd e;have j:=zct p q l;have hex:=λm=>zzb x e p m hx he hp;unfold zcM at hex;simp only[if_neg (show ¬p=0 by omega)] at hex;have F:=zd (x^e%p);generalize x^e%p=r at*;repeat' (first|refine s_0 ?_|refine zf 0 ?_;refine zk ?_;intro _;refine zk ?_;intro _;refine zk ?_;intro _;refine zk ?_;intro _|refine zf 1 ?_;refine q_v (ze (B:=zg x)) ?_;refine q_x (ze (B:=zg e)) ?_;refine q_v (ze (B:=zg p) (hv:=j)) ?_;refine q_v (za (hc:=q_c hex)) ?_;refine zb ?_;refine zk ?_;intro _;refine q_y (zl (n:=r)) ?_|refine zf 2 ?_;refine q_v (ze (B:=zg r)) ?_;refine q_n (zl (n:=r)) ?_)
 exact zar rfl (zE (B:=zg r) rfl (ty rfl) rfl Ey Ex (zd _).symm) Ev ⟨rfl,rfl⟩
theorem zeg(p q l x:Nat)(w:World)(m:q<18446744073709551616^16)(hx:x<18446744073709551616^16):
  q_G 190 [zcP p q l,zu x] w (.bool (decide (x<q))):=by
 refine zt Tryz.func190 Tryz.ntmps190 ?_;have A:=zaa p q l;have E:=zd q;have F:=zd x;have j:=zcx p q l;have hc:=λr=>zdM x q r hx m;have hr:decide (zbA x q<0)=decide (x<q):=decide_eq_decide.2 (by
  unfold zbA;by_cases h:x<q
  ·rw[if_pos h];exact⟨λ_=>h,λ_=>by decide⟩
  ·rw[if_neg h];split <;> omega)
 repeat' (first|refine s_0 ?_|refine zf 0 ?_;refine zk ?_;intro _;refine z9 ?_;intro _|refine zf 1 ?_;refine q_x (ze (B:=zg x)) ?_;refine q_v (ze (B:=zg q) (hv:=j)) ?_;refine q_v (za (hc:=q_c hc)) ?_;refine q_x (zn (hr:=hr)) ?_)
 exact q_r
theorem zvP{x y:Nat}(h:x<=y):zbA x y<=0:=by
 unfold zbA;by_cases h1:x<y
 ·rw[if_pos h1];decide
 ·rw[if_neg h1];split <;> omega
theorem zfe(p q l x:Nat)(w:World)(hp:p<18446744073709551616^16)(J:q<18446744073709551616^16)(h0:0<p)(hx:x<18446744073709551616^16):
  q_G 188 [zcP p q l,zu x] w (.bool (zaL p q x)):=by
 refine zt Tryz.func188 Tryz.ntmps188 ?_;have O:=zaa p q l;have Q:=zd p;have R:=zd q;have S:=zd x;have K:=zd 1;have m:=zct p q l;have H:=zcx p q l;have A:=λj=>zdH x j hx;have hc:=λj=>zdM p x j hp hx;rcases AE x with h|h
 ·subst h;have E:zaL p q 0=false:=by unfold zaL;exact decide_eq_false (λh=>absurd h.1 q_o)
  rw[E];repeat' (first|refine s_0 ?_|refine zf 0 ?_;refine zk ?_;intro _;refine z9 ?_;intro _|refine zf 1 ?_;refine q_v (ze (B:=zg 0)) ?_;refine q_v (za (hc:=q_c A)) ?_;refine zb ?_|refine q_k 2 ?_)
  exact q_r
 simp only[decide_eq_false (show ¬x=0 by omega)] at A;by_cases hxp:x<p
 ·have g1:decide (zbA p x<=0)=false:=by rw[zjQ hxp];rfl
  have F:=λj=>zkx p q l x q j hp h0 hx J;have f1:=λj=>zit 1 j q_e;have G:=Ai (AC (x^q) h0) hp;have hr:decide (x^q%p=1)=zaL p q x:=by
   unfold zaL;exact decide_eq_decide.2 ⟨λe=>⟨h,hxp,e⟩,λe=>e.2.2⟩
  generalize zbA p x=I,x^q%p=r,zaL p q x=b at*;repeat' (first|refine s_0 ?_|refine zf 0 ?_;refine zk ?_;intro _;refine z9 ?_;intro _|refine zf 1 ?_;refine q_v (ze (B:=zg x)) ?_;refine q_v (za (hc:=q_c A)) ?_;refine zb ?_;refine q_v (ze (B:=zg p) (hv:=m)) ?_;refine q_v (ze (B:=zg x)) ?_;refine q_v (za (hc:=q_c hc)) ?_;refine q_x (zaA (hr:=g1)) ?_|refine zf 3 ?_;refine q_v (za (hc:=q_c f1)) ?_;refine zb ?_;refine zk ?_;intro _;refine q_y (zl (n:=1)) ?_|refine zai (id:=4) 6 [[],[],[],[2],[0,1,2,3],[],[0,1,2,3,4,5],[0,1,2,3,4,5,6]] mixed ?_ ?_;kernel_rfl;refine q_D (ze (B:=zag p q l)) ?_;refine q_D (ze (B:=zg x)) ?_;refine q_D zN ?_;refine q_D (ze (B:=zg q) (hv:=H)) ?_;refine q_D (za (hc:=q_c F)) ?_;refine q_D (ze (B:=zg 1)) ?_;refine zaF ?_;refine q_v (zop (a:=r) (b:=1) (r:=b) zwq G q_e hr) ?_;refine zw ?_|fail)
  exact q_r
 ·have g1:decide (zbA p x<=0)=true:=decide_eq_true (zvP q_o);have E:zaL p q x=false:=by unfold zaL;exact decide_eq_false (λh=>hxp h.2.1)
  rw[E];generalize zbA p x=I at*;repeat' (first|refine s_0 ?_|refine zf 0 ?_;refine zk ?_;intro _;refine z9 ?_;intro _|refine zf 1 ?_;refine q_v (ze (B:=zg x)) ?_;refine q_v (za (hc:=q_c A)) ?_;refine zb ?_;refine q_v (ze (B:=zg p) (hv:=m)) ?_;refine q_v (ze (B:=zg x)) ?_;refine q_v (za (hc:=q_c hc)) ?_;refine q_x (zaA (hr:=g1)) ?_|refine q_k 2 ?_)
  exact q_r
theorem zqi(p q l x bc r f:Nat)(b:Bool)(w:World)(j:∀args w,(callFunc f args).run Tryz.prog w= .ok (.enter f args) w)(A:∀m,q_G f [zcP p q l,zu x] m (.bool b))
  (hc:w.cell? ⟨bc,0,none⟩=some (.func (.func f) #[] #[]))(E:w.rangeAt r 0 (zag p q l)):
  q_G 251 [zu x,.pointer (some ⟨bc,0,none⟩),.pointer (some ⟨r,0,none⟩)] w (.bool b):=by
 refine zt Tryz.func251 Tryz.ntmps251 ?_;have H:=zaa p q l;have I:=zd x;repeat' (first|refine s_0 ?_|refine zf 0 ?_;refine z9 ?_;intro _|refine zf 1 ?_;refine q_v (zo (hv:=hc)) ?_;refine q_v (zW (B:=zag p q l) (hv:=E)) ?_;refine q_v (ze (B:=zg x)) ?_;refine q_v (zeZ (he:=j) (fst:=[]) (cap:=[]) (hc:=λm X G F=>A m)) ?_;refine zb ?_)
 exact q_r
theorem zs9(p q l f n c O Q:Nat)(xs:List Nat)(cond:Nat->Bool)(w:World)(hn:xs.length=n)(Y:n<=1000)(I:∀args w,(callFunc f args).run Tryz.prog w= .ok (.enter f args) w)
  (V:∀x∈xs,∀K,q_G f [zcP p q l,zu x] K (.bool (cond x)))(Z:w.rangeAt O Q (zae xs)):
  q_G 189 [zcP p q l,.func (.func f) #[] #[],.slice (some ⟨O,Q,none⟩) n c] w (.int .i64 (if xs.all cond then 0 else 3)):=by
 refine zt Tryz.func189 Tryz.ntmps189 ?_;have lS:=zaa p q l;repeat' (first|refine s_t ?_|refine zf 0 ?_;refine zk ?_;intro _;refine z9 ?_;intro _|refine zf 1 ?_;refine q_x zab ?_|refine q_k 2 ?_)
 rename_i F G;refine zL (γ:=Nat) (λk=>[(7,.func (.func 251) #[] #[.pointer (some ⟨G,0,none⟩),.pointer (some ⟨F,0,none⟩)]),(11,.slice (some ⟨O,Q,none⟩) n c),(12,.int .i64 n),(13,.int .i64 k)])
  (λ_=>[.blk G 203 [.func (.func f) #[] #[]],.blk F 194 (zag p q l)])
  (λk=>k<=n/\(xs.take k).all cond=true) (λk=>n-k) 0 ⟨AA _,rfl⟩ ?_ ?_ ?_
 ·exact q_h
 ·exact q_h
 rintro k ⟨U,m⟩;rcases AG k n with h|h
 ·obtain⟨x,R⟩:∃x,xs[k]?=some x:=⟨_,A2 q_o⟩;have H:w.rangeAt O (Q+k*16) (zg x):=λj v W=>by
   have:=Z (k*16+j) v (zej R j v W);rwa[<-BK] at this
  have A:=V x (BB R);have lx:=zd x;have E:decide ((k:Int)<(n:Int))=true:=q_d;have T:xs.take (k+1)=xs.take k++[x]:=by
   rw[CE,R];rfl
  cases hcx:cond x with
  |true=>
   rw[hcx] at A;repeat' (first|refine s_t ?_|refine zf 3 ?_;refine q_v (zn (hr:=E)) ?_|refine zf 4 ?_;refine q_v (zbv (j:=k)) ?_;refine q_v (zW (B:=zg x) (hv:=H)) ?_;refine zk ?_;intro _;refine q_n (zl (n:=x)) ?_|refine q_k 5 ?_;refine q_v (ze (B:=zg x)) ?_;refine q_v (zeZ (fst:=[]) (cap:=[.pointer (some ⟨G,0,none⟩),.pointer (some ⟨F,0,none⟩)]) (hc:=λK X U J=>zqi p q l x G F f true K I A (zp (J.has (r:=.blk G 203 [.func (.func f) #[] #[]]) q_h) Ex 0 _ rfl) (zp (J.has (r:=.blk F 194 (zag p q l)) q_h) Ex))) ?_;refine zI ?_|refine zf 7 ?_;refine zba ?_;refine zb ?_)
   refine zC (k+1) ⟨h,by rw[T,BQ,m,BV,hcx];rfl⟩ ?_ ?_ ?_
   ·show n-(k+1)<n-k;omega
   ·exact q_h
   ·exact q_h
  |false=>
   rw[hcx] at A;have S:xs.all cond=false:=by
    rw[BW];exact⟨x,BB R,by rw[hcx];decide⟩
   rw[S];repeat' (first|refine s_t ?_|refine zf 3 ?_;refine q_v (zn (hr:=E)) ?_|refine zf 4 ?_;refine q_v (zbv (j:=k)) ?_;refine q_v (zW (B:=zg x) (hv:=H)) ?_;refine zk ?_;intro _;refine q_n (zl (n:=x)) ?_|refine q_k 5 ?_;refine q_v (ze (B:=zg x)) ?_;refine q_v (zeZ (fst:=[]) (cap:=[.pointer (some ⟨G,0,none⟩),.pointer (some ⟨F,0,none⟩)]) (hc:=λK X U J=>zqi p q l x G F f false K I A (zp (J.has (r:=.blk G 203 [.func (.func f) #[] #[]]) q_h) Ex 0 _ rfl) (zp (J.has (r:=.blk F 194 (zag p q l)) q_h) Ex))) ?_;refine zI ?_|refine q_k 6 ?_)
   exact q_r
 ·obtain rfl:k=n:=q_o;rw[A6 q_o] at m;have E:decide ((k:Int)<(k:Int))=false:=q_f;rw[m];repeat' (first|refine s_0 ?_|refine zf 3 ?_;refine q_v (zn (hr:=E)) ?_|refine q_k 8 ?_)
  exact q_r
theorem zvl(p q l x:Nat)(w:World)(hx:x<18446744073709551616^16)(V:nd 256 x<=l)(I:l<=1000):
  Sy.Fn Tryz.prog 250 [zcP p q l,zu x] w No (zbK 5 l ((zbc l x).map v8)):=by
 refine zt Tryz.func250 Tryz.ntmps250 ?_;have W:=zaa p q l;have Y:=zd x;have r:=zc5 p q l;have G:=λH=>zoR x H hx;have E:=zhR x;have hys:List.replicate (l-nd 256 x) (Value.int IntKind.u8 0)++(byt x).map v8=(zbc l x).map v8:=by
  unfold zbc;rw[Ar,BY];rfl
 generalize nd 256 x=n,byt x=D,zbc l x=F at*;have A:IntKind.i64.wrap ((l:Int)-(n:Int))=((l-n:Nat):Int):=q_w;have j:List.replicate l (Value.int IntKind.u8 0)=List.replicate (l-n) (Value.int IntKind.u8 0)++List.replicate n (Value.int IntKind.u8 0):=by
  rw[DT];congr 1;omega
 unfold zbK;repeat' (first|refine s_0 ?_|refine zf 0 ?_;refine zk ?_;intro _;refine z9 ?_;intro _|refine zf 1 ?_;refine q_v (ze (B:=zg x)) ?_;(refine q_s (zi (hc:=λH X U S=>G H)) ?_;rintro _ _ ⟨R,rfl,K,rfl,rfl⟩);refine zb ?_|refine q_k 2 ?_;refine q_x (zM (hv:=r)) ?_;refine q_x (zK (hr:=A)) ?_;refine q_v (zM (hv:=r)) ?_)
 refine q_s (zld (n:=l-n) (c':=l) (EL _ _)) ?_;rintro _ _ ⟨O,rfl,rfl⟩;rw[j];repeat' (first|refine s_0 ?_|(refine zx ?_;first|refine q_s (Fw (zlg (n:=l-n) (c:=l) (s:=1) Eu (by rw[A4,AL,AL];omega) (EL _ _) (by unfold maxLen;omega) (by rw[AL,Al])) (zaz (k:=l-n) (m:=n) (km:=l) (hL:=Eu) (hr:=Rd.of (Ff (C:=D.map v8) (T:=5) Ey Ex)) (hn:=by rw[A0,E,Al]) (hkm:=by omega) (hys:=hys))) ?_;rintro _ _ ⟨rfl,J,Q,rfl⟩|refine zw ?_|refine zaU ?_|fail)|fail)
 exact q_r
end Go.Proofs.YtdnlngbjpdbffaaGreatDoor
