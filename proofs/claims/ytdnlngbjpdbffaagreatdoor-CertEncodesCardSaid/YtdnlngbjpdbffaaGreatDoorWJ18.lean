/- Lemmas of this proof. -/
import Derived.Test.YtdnlngbjpdbffaaGreatDoorWJ17
set_option maxRecDepth 10000
set_option linter.all false
namespace Go.Nt
open Go Go.Sy
def gS:Nat->List UInt8
 |1=>[98,51,102]
 |2=>[52,52,56,53,56,102,102]
 |3=>[57,49,98,56,56,55,102,102]
 |_=>[102,102,102,102,102,102,102,102,102,102,102,102,102,102,102,102,99,57,48,102,100,97,97,50,50,49,54,56,99,50,51,52,99,52,99,54,54,50,56,98,56,48,100,99,49,99,100,49,50,57,48,50,52,101,48,56,56,97,54,55,99,99,55,52,48,50,48,98,98,101,97,54,51,98,49,51,57,98,50,50,53,49,52,97,48,56,55,57,56,101,51,52,48,52,100,100,101,102,57,53,49,57,98,51,99,100,51,97,52,51,49,98,51,48,50,98,48,97,54,100,102,50,53,102,49,52,51,55,52,102,101,49,51,53,54,100,54,100,53,49,99,50,52,53,101,52,56,53,98,53,55,54,54,50,53,101,55,101,99,54,102,52,52,99,52,50,101,57,97,54,51,97,51,54,50,48,102,102,102,102,102,102,102,102,102,102,102,102,102,102,102,102]
theorem znI(i:Nat)(h0:1<=i)(j:i<=4):parse (gS i)=some (gP i):=
 zcA (p:=λi=>parse (gS i)=some (gP i)) (by decide +kernel) (by decide +kernel) (by decide +kernel) (by decide +kernel) i h0 j
theorem zr0(i:Nat)(h0:1<=i)(j:i<=4):(gS i).length<=192:=
 zcA (p:=λi=>(gS i).length<=192) (by decide +kernel) (by decide +kernel) (by decide +kernel) (by decide +kernel) i h0 j
theorem zyQ(i:Nat):gP i/2^1=gQ i:=rfl
def zed:List Value:=[.string (str (gS 1)),.string (str (gS 2)),.string (str (gS 3)),.string (str (gS 4))]
theorem zkR(i:Nat)(h0:1<=i)(j:i<=4):zed[i-1]?=some (.string (str (gS i))):=
 zcA (p:=λi=>zed[i-1]?=some (.string (str (gS i)))) rfl rfl rfl rfl i h0 j
theorem zfY(i:Nat)(h0:1<=i)(j:i<=4):1<=gL i/\gL i<=96:=
 zcA (p:=λi=>1<=gL i/\gL i<=96) q_e q_e q_e q_e i h0 j
theorem zcg(i:Nat)(h0:1<=i)(j:i<=4):gP i<18446744073709551616^16:=by
 rw[zhm 256 8 128 rfl rfl];have h:=zaS 256 (gP i) q_e;rw[zkE i h0 j] at h;exact AI h (AB q_e (by have:=(zfY i h0 j).2;omega))
theorem zcb(i:Nat)(h0:1<=i)(j:i<=4):gQ i<18446744073709551616^16:=B1 (Bv _ _) (zcg i h0 j)
def zai(p q l:Nat):List Value:=zg p++(zg q++[.int .i64 l])
theorem z9(p q l:Nat):(zai p q l).length=33:=by
 unfold zai;rw[A2,A2,zd,zd];rfl
theorem za5(p q l:Nat):(zai p q l).all (·.oneCell')=true:=by
 unfold zai;rw[BW,BW,zfE,zfE];rfl
theorem zck(p q l:Nat):Seg (zai p q l) 0 (zg p):=by
 have:=Seg.mid (A:=[]) (B:=zg p) (D:=zg q++[Value.int .i64 l]);rw[Af] at this;exact this
theorem zcl(p q l:Nat):Seg (zai p q l) 16 (zg q):=by
 have:=Seg.mid (A:=zg p) (B:=zg q) (D:=[Value.int .i64 l]);rw[zd,AH] at this;exact this
theorem zcS(p q l:Nat):(zai p q l)[32]?=some (.int .i64 (l:Int)):=by
 unfold zai;rw[CP (by rw[zd];decide),CP (by rw[zd,zd];decide),zd,zd];rfl
theorem zsz(p q l:Nat):FillTo (nth [(0,16),(16,16),(32,1)]) [(0,zr p),(1,zr q),(2,Value.int .i64 l)] (List.replicate 32 (Value.int IntKind.u64 0)++[.int .i64 0]) (zai p q l):=by
 have m:List.replicate 32 (Value.int IntKind.u64 0)=List.replicate 16 (Value.int IntKind.u64 0)++List.replicate 16 (Value.int IntKind.u64 0):=rfl;have s1:zaI (List.replicate 32 (Value.int IntKind.u64 0)++[.int .i64 0]) 0 (zg p)=zg p++(List.replicate 16 (Value.int IntKind.u64 0)++[.int .i64 0]):=by
  unfold zaI;rw[zd,m];simp
 have s2:zaI (zg p++(List.replicate 16 (Value.int IntKind.u64 0)++[.int .i64 0])) 16 (zg q)=zg p++(zg q++[.int .i64 0]):=by
  unfold zaI;rw[zd,Cb (by rw[zd];decide),A8 (by rw[zd];decide),List.drop_append,zd,EM (by rw[zd];decide)];simp
 have r:zaI (zg p++(zg q++[.int .i64 0])) 32 [Value.int .i64 (l:Int)]=zai p q l:=by
  have e:zg p++(zg q++[Value.int .i64 0])=(zg p++zg q)++[Value.int .i64 0]:=by rw[AH]
  have j:(zg p++zg q).length=32:=by rw[A2,zd,zd]
  unfold zaI zai;rw[e,Cb (by rw[j];decide),A8 (by rw[j];decide),EM (by rw[A2,j];exact A6 _)];simp
 refine .cons (cs:=zg p) rfl rfl (zd p) q_p ?_;rw[s1];refine .cons (cs:=zg q) rfl rfl (zd q) (by simp[zd]) ?_;rw[s2];refine .cons (cs:=[.int .i64 l]) rfl rfl rfl (by simp[zd]) ?_;rw[r];exact .nil
theorem zsH:List.replicate 32 (Value.int IntKind.u64 0)++[Value.int .i64 0]=zai 0 0 0:=by
 unfold zai zg;rw[zgs,BT];rfl
end Go.Nt
namespace Go.Proofs.YtdnlngbjpdbffaaGreatDoor
section
open Go Go.Sy Go.Nt Go.RowKit
def zcE(p q l:Nat):Value:=.agg (zai p q l).toArray
def GT(w:World):Prop:=w.rangeAt 0 0 zed
theorem GT.to{w w':World}(h:GT w)(hk:Keep No w w'):GT w':=zaX h hk (λh=>h)
variable {ro:Option Nat}{N:Nat}{w0:World}{M:Nat->Prop}{ds:List Deferred}{g:Nat->Option Value}{L:List Res}{o:Oper}{z z' z'':Operand}
theorem zn0{p q l:Nat}(r:o.op= .build 194 #[(0,z),(1,z'),(2,z'')]:=by exact rfl)(hz:ev g z=some (zr p):=by exact rfl)(m:ev g z'=some (zr q):=by exact rfl)(j:ev g z''=some (.int .i64 (l:Int)):=by exact rfl):OpT Tryz.prog ro N w0 M ds o g L (Det (zcE p q l) L):=
 zgb (parts:=#[(0,z),(1,z'),(2,z'')]) (vs:=[zr p,zr q,.int .i64 l]) (C:=zai p q l) (zsz p q l) r (by simp[evs,hz,m,j]) (ty rfl) rfl rfl (zc rfl)
theorem zjX(j:o.op= .build 194 #[]:=by exact rfl):OpT Tryz.prog ro N w0 M ds o g L (Det (zcE 0 0 0) L):=by
 unfold zcE;rw[<-zsH];exact zeT j (ty rfl) (.inl ⟨rfl,rfl⟩) (zc rfl)
attribute [local irreducible] Sy SyL SyX Sy.Fn callFunc zg zae zai gP gQ gL gS zed
theorem zh9(z:Int)(w:World)(hz:¬(1<=z/\z<=4)):q_G 180 [.int .i64 z] w (.tuple #[zcE 0 0 0,.int .i64 2]):=by
 refine zt Tryz.func180 Tryz.ntmps180 ?_;have j:=z9 0 0 0;by_cases h:z<1
 ·have g1:decide (z<1)=true:=decide_eq_true h;repeat' (first|refine s_0 ?_|refine zf 0 ?_;refine zW ?_;intro _|refine q_k 1 ?_;refine q_x (zo (hr:=g1)) ?_|refine zf 2 ?_;refine q_v zjX ?_;refine q_y (zC (B:=zai 0 0 0) (hv:=za5 0 0 0) (h1:=(z9 0 0 0).symm)) ?_)
  exact zU rfl (zB (B:=zai 0 0 0) rfl (ty rfl) rfl Ev Et (z9 _ _ _).symm) (zh rfl) Er ⟨rfl,rfl⟩
 ·have g1:decide (z<1)=false:=decide_eq_false h;have g2:decide (z>4)=true:=q_d;repeat' (first|refine s_0 ?_|refine zf 0 ?_;refine zW ?_;intro _|refine q_k 1 ?_;refine q_x (zo (hr:=g1)) ?_;refine q_x (zH (hr:=g2)) ?_|refine zf 2 ?_;refine q_v zjX ?_;refine q_y (zC (B:=zai 0 0 0) (hv:=za5 0 0 0) (h1:=(z9 0 0 0).symm)) ?_)
  exact zU rfl (zB (B:=zai 0 0 0) rfl (ty rfl) rfl Ev Et (z9 _ _ _).symm) (zh rfl) Er ⟨rfl,rfl⟩
theorem zcO(i:Nat)(w:World)(h0:1<=i)(C:i<=4)(K:GT w):q_G 180 [.int .i64 (i:Int)] w (.tuple #[zcE (gP i) (gQ i) (gL i),.int .i64 0]):=by
 refine zt Tryz.func180 Tryz.ntmps180 ?_;have g1:decide ((i:Int)<1)=false:=q_f;have g2:decide ((i:Int)>4)=false:=q_f;have g3:IntKind.i64.wrap ((i:Int)-1)=((i-1:Nat):Int):=q_w;have A:w.cell? ⟨0,i-1,none⟩=some (.string (str (gS i))):=by
  have:=K (i-1) _ (zkR i h0 C);rwa[AZ] at this
 have G:=zcg i h0 C;have J:=zr0 i h0 C;have r:=λF=>zua (gS i) F q_o;rw[znI i h0 C] at r;dsimp only at r;rw[if_pos G] at r;have E:=λF=>zyJ (gP i) 1 F G q_e;rw[zyQ] at E;have H:=λF=>zcp (gP i) F G;have I:=zom 8 (gP i) q_e;rw[show(2:Nat)^8=256 from rfl,zkE i h0 C] at I;have O:=ze2 G;have Q:=zd (gP i);have R:=zd (gQ i);have S:=z9 (gP i) (gQ i) (gL i);generalize nd 2 (gP i)=m at*;have g4:IntKind.i64.wrap ((m:Int)+7)=((m+7:Nat):Int):=q_w;have g5:IntKind.i64.wrap (((m+7:Nat):Int).tdiv 8)=((gL i:Nat):Int):=by
  have:=zdn (p:=m+7) (k:=8) q_o;rw[show m+7=m+(8-1) from rfl,<-I] at this;exact this
 clear I J;generalize gL i=l,gQ i=q,gP i=p at*;repeat' (first|refine s_0 ?_|refine zf 0 ?_;refine zW ?_;intro _|refine q_k 1 ?_;refine q_x (zo (hr:=g1)) ?_;refine q_x (zH (hr:=g2)) ?_|refine q_k 3 ?_;refine q_v (zI (hr:=g3)) ?_;refine q_v (zex (j:=i-1)) ?_;refine q_v (zn (hv:=A)) ?_;refine q_v (za (hc:=q_c r)) ?_;refine zb ?_;refine zj ?_;intro _;refine q_y (zl (n:=p)) ?_|refine zf 4 ?_;refine q_v (ze (B:=zg p)) ?_;refine q_v (za (hc:=q_c E)) ?_;refine zb ?_;refine zj ?_;intro _;refine q_y (zl (n:=q)) ?_|refine zaj (id:=5) 6 [[],[],[],[2],[2,3],[2,3,4],[0,1,2,3,4,5],[0,1,2,3,4,5,6],[0,1,2,3,4,5,6,7]] mixed ?_ ?_;kernel_rfl;refine q_D (ze (B:=zg p)) ?_;refine q_D (ze (B:=zg q)) ?_;refine q_D (ze (B:=zg p)) ?_;refine q_D (za (hc:=q_c H)) ?_;refine q_D (zF (hr:=g4)) ?_;refine q_D (zbv (hr:=g5)) ?_;refine zaB ?_;refine q_v (zn0 (p:=p) (q:=q) (l:=l)) ?_;refine q_n (zC (B:=zai p q l) (hv:=za5 p q l) (h1:=(z9 p q l).symm)) ?_;refine zw ?_|fail)
 exact zU rfl (zB (B:=zai p q l) rfl (ty rfl) rfl Ev Et (z9 _ _ _).symm) (zh rfl) Er ⟨rfl,rfl⟩
end
open Go Go.Sy Go.Nt Go.RowKit
theorem zmU{H:Type}{enc:TypeId×Value->H}{P:Program}{w:World}{base:Nat}{U:Nat->Bool}{held:Bool}{j:Nat}{t e:TypeId}{n:Nat}{cs:List Value}{q:List (List UInt8)}{p:List MemPlace}
  (Q:P.underlying t=some (.array n e))(he:P.underlying e=some .string)(A:P.cellsOf e=1)(B:P.cellsOf t=n)
  (h:DataW.trod enc P w base U held j t cs=some (.agg (q.map λs=> .lit (.string s)),p)):cs=q.map λs=>Value.string (str s):=by
 cases j with
 |zero=>simp[DataW.trod] at h
 |succ j=>
  simp only[DataW.trod,Q,A,B,Ak] at h;split at h
  ·rename_i V;obtain⟨E,F,R⟩:=Ah.1 h;have m:E.map (·.1)=q.map λs=>(DataW.lit (.string s):DataW H):=by
    have:=congrArg Prod.fst R;simpa using this
   have S:E.length=n:=by simpa using Lib.mapM_length F
   have T:q.length=n:=by
    have:=congrArg List.length m;simp at this;omega
   apply Ck;intro i;by_cases hi:i<n
   ·obtain⟨b,J,O⟩:=Lib.mapM_at F i i (by simp[hi]);obtain⟨s,K,rfl,_⟩:=DataW.trod_string he O;have G:cs[i]?=some (.string s):=by
     have:=congrArg (·[0]?) K;simpa [CO,Bn] using this
    have r:(E.map (·.1))[i]?=some (DataW.lit (.string s.data.toList):DataW H):=by simp[J]
    rw[m] at r;simp only[AY,Ah,DataW.lit.injEq,Lit.string.injEq] at r;obtain⟨z',C,rfl⟩:=r;have I:str s.data.toList=s:=rfl;rw[G,AY,C,CU,I]
   ·rw[BV (by omega),BV (by simp;omega)]
  ·cases h
theorem zr3{P:Program}{w:World}{l:List (String×DataW Unit)}(h:laidMet P l w){n:String}{I:List (List UInt8)}{g t e m:Nat}(hm:(n,(.agg (I.map λs=> .lit (.string s)):DataW Unit))∈l)(H:P.globalNamed n=some g)(F:(P.globals[g]?).map (·.type)=some t)
  (Q:P.underlying t=some (.array m e))(he:P.underlying e=some .string)(r:P.cellsOf e=1)(B:P.cellsOf t=m):w.rangeAt g 0 (I.map λs=>Value.string (str s)):=by
 obtain⟨T,O,_⟩:=h;obtain⟨S,U,R,G,p,C,E,q,J⟩:=zlI O hm;obtain rfl:=Am (H.symm.trans C);obtain rfl:=Am (F.symm.trans E);have A:=zmU Q he r B J;intro j v K;rw[World.var?_cell H q,AZ,<-Ch,A];exact K
theorem zxY:Tryz.prog.globalNamed "watchword/group.primes" =some 0:=by kernel_rfl
theorem zvz:(Tryz.prog.globals[0]?).map (·.type)=some 244:=by kernel_rfl
theorem ztC:Tryz.prog.underlying 244=some (.array 4 9):=by kernel_rfl
theorem zzj:Tryz.prog.underlying 9=some .string:=by kernel_rfl
theorem zvH:Tryz.prog.cellsOf 9=1:=by kernel_rfl
theorem zpy:Tryz.prog.cellsOf 244=4:=by kernel_rfl
theorem zxW:(Rows.laid_watchword_group_primes:DataW Unit)= .agg ([gS 1,gS 2,gS 3,gS 4].map λs=> .lit (.string s)):=by kernel_rfl
theorem zzy{W:World}{l:List (String×DataW Unit)}(h:laidMet Tryz.prog l W)(h1:("watchword/group.primes",Rows.laid_watchword_group_primes)∈l):GT W:=by
 rw[zxW] at h1;exact zr3 h h1 zxY zvz ztC zzj zvH zpy
def zzb:Nat->DataW Unit->List Value
 |n+1,.agg l=>l.flatMap (zzb n)
 |_,.lit (.int k z)=>[.int k z]
 |_,.lit (.string s)=>[.string (str s)]
 |_,_=>[]
noncomputable def zis(os:Os):World:=
 { zmS os with heap:=(zmS os).heap.modify 0 (zeL (zzb 3 Rows.laid_watchword_group_primes)) }
end Go.Proofs.YtdnlngbjpdbffaaGreatDoor
namespace Go.Sy
open Go
variable {P:Program}{ro:Option Nat}{N:Nat}{w0:World}{M:Nat->Prop}{ds:List Deferred}{o:Oper}{g:Nat->Option Value}{L:List Res}{t:TypeId}{y:Ty}
theorem zkU{e n c':Nat}{lo co:Operand}{k1 k2:IntKind}{z0:Value}{l c:Int}{ye:Ty}(Z:n<=c')(C:l=(n:Int):=by exact rfl)(r:c=(c':Int):=by exact rfl)(J:o.op= .makeSlice t lo co:=by exact rfl)(W:ev g lo=some (.int k1 l):=by exact rfl)(hc:ev g co=some (.int k2 c):=by exact rfl)(ht:zah P t=some y:=by exact ty rfl)(hy:y.desc= .slice e:=by exact rfl)(he:zah P e=some ye:=by exact ty rfl)
  (hz:za9 P e=some [z0]:=by exact zc rfl)(h1:ye.size=1:=by exact rfl)(hb:ye.bytes*c'<=281474976710656:=by first|(dsimp only;omega)|omega|fail)(hm:c'<=maxLen:=by first|(unfold maxLen;omega)|fail):
  OpT P ro N w0 M ds o g L (λv O=>∃b,v= .slice (some ⟨b,0,none⟩) n c'/\O= .blk b e (List.replicate c' z0)::L):=
 FC (by rw[J];rfl) λa w X j=>by
  obtain⟨d,i',T,V,q,_⟩:=zV ht;rw[hy] at q;have:=zbm q;subst this;obtain⟨de,K,U,m,_,B,A,_⟩:=zV he;unfold za9 at hz;rw[m] at hz;simp only[Ac,Ah] at hz;obtain⟨I,H,F⟩:=hz;subst C;subst r;obtain⟨R,S⟩:=zbQ j e (List.replicate c' z0);refine⟨_,_,w.alloc (.cells (List.replicate c' z0).toArray e),_,?_,.inl rfl,⟨w.heap.size,rfl,rfl⟩,R,S⟩;have Y:c'<=9223372036854775807:=by unfold maxLen at hm;omega
  have G:I.cells= #[z0]:=BA.1 F;have E:=run_make (P:=P) w t e K I T m H k1 k2 n c' q_o q_o (by rw[A,<-Bd];omega) q_o;simp only[Bj] at E;have Q:madeCells I.cells (c'*K.size)=(List.replicate c' z0).toArray:=by
   rw[B,h1,Ak,G];exact BA.1 (toList_madeCells_one z0 c')
  rw[Q] at E;simp[execOp,J,j.agr.eval W,j.agr.eval hc,E]
end Go.Sy
namespace Go.Nt
open Go Go.Sy
def zaH(p q x:Nat):Bool:=decide (0<x/\x<p/\x^q%p=1)
def za7(l x:Nat):List UInt8:=List.replicate (l-nd 256 x) 0++byt x
theorem zdF(l x:Nat)(h:nd 256 x<=l):(za7 l x).length=l:=by
 unfold za7;rw[A2,AJ,zhy];omega
end Go.Nt
namespace Go.Proofs.YtdnlngbjpdbffaaGreatDoor
open Go Go.Sy Go.Nt Go.RowKit
attribute [local irreducible] Sy SyL SyX Sy.Fn callFunc zg zae zai gP gQ gL gS zed zaH
theorem zj9(p q l x e:Nat)(w:World)(hp:p<18446744073709551616^16)(h0:0<p)(hx:x<18446744073709551616^16)(he:e<18446744073709551616^16):
  q_G 192 [zcE p q l,zr x,zr e] w (zr (x^e%p)):=by
 refine zt Tryz.func192 Tryz.ntmps192 ?_;have A:=z9 p q l;have C:=zd p;have F:=zd x;have le:=zd e;have j:=zck p q l;have hex:=λm=>zyU x e p m hx he hp;unfold zcC at hex;simp only[if_neg (show ¬p=0 by omega)] at hex;have E:=zd (x^e%p);generalize x^e%p=r at*;repeat' (first|refine s_0 ?_|refine zf 0 ?_;refine zj ?_;intro _;refine zj ?_;intro _;refine zj ?_;intro _;refine zj ?_;intro _|refine zf 1 ?_;refine q_v (ze (B:=zg x)) ?_;refine q_x (ze (B:=zg e)) ?_;refine q_v (ze (B:=zg p) (hv:=j)) ?_;refine q_v (za (hc:=q_c hex)) ?_;refine zb ?_;refine zj ?_;intro _;refine q_y (zl (n:=r)) ?_|refine zf 2 ?_;refine q_v (ze (B:=zg r)) ?_;refine q_n (zl (n:=r)) ?_)
 exact zap rfl (zB (B:=zg r) rfl (ty rfl) rfl Ev Et (zd _).symm) Er ⟨rfl,rfl⟩
theorem zea(p q l x:Nat)(w:World)(m:q<18446744073709551616^16)(hx:x<18446744073709551616^16):
  q_G 190 [zcE p q l,zr x] w (.bool (decide (x<q))):=by
 refine zt Tryz.func190 Tryz.ntmps190 ?_;have A:=z9 p q l;have C:=zd q;have E:=zd x;have j:=zcl p q l;have hc:=λr=>zdJ x q r hx m;have hr:decide (zbx x q<0)=decide (x<q):=decide_eq_decide.2 (by
  unfold zbx;by_cases h:x<q
  ·rw[if_pos h];exact⟨λ_=>h,λ_=>by decide⟩
  ·rw[if_neg h];split <;> omega)
 repeat' (first|refine s_0 ?_|refine zf 0 ?_;refine zj ?_;intro _;refine zW ?_;intro _|refine zf 1 ?_;refine q_x (ze (B:=zg x)) ?_;refine q_v (ze (B:=zg q) (hv:=j)) ?_;refine q_v (za (hc:=q_c hc)) ?_;refine q_x (zo (hr:=hr)) ?_)
 exact q_r
theorem zuv{x y:Nat}(h:x<=y):zbx x y<=0:=by
 unfold zbx;by_cases h1:x<y
 ·rw[if_pos h1];decide
 ·rw[if_neg h1];split <;> omega
theorem zfb(p q l x:Nat)(w:World)(hp:p<18446744073709551616^16)(I:q<18446744073709551616^16)(h0:0<p)(hx:x<18446744073709551616^16):
  q_G 188 [zcE p q l,zr x] w (.bool (zaH p q x)):=by
 refine zt Tryz.func188 Tryz.ntmps188 ?_;have K:=z9 p q l;have O:=zd p;have Q:=zd q;have R:=zd x;have J:=zd 1;have m:=zck p q l;have G:=zcl p q l;have A:=λj=>zdA x j hx;have hc:=λj=>zdJ p x j hp hx;rcases AD x with h|h
 ·subst h;have C:zaH p q 0=false:=by unfold zaH;exact decide_eq_false (λh=>absurd h.1 q_o)
  rw[C];repeat' (first|refine s_0 ?_|refine zf 0 ?_;refine zj ?_;intro _;refine zW ?_;intro _|refine zf 1 ?_;refine q_v (ze (B:=zg 0)) ?_;refine q_v (za (hc:=q_c A)) ?_;refine zb ?_|refine q_k 2 ?_)
  exact q_r
 simp only[decide_eq_false (show ¬x=0 by omega)] at A;by_cases hxp:x<p
 ·have g1:decide (zbx p x<=0)=false:=by rw[zjJ hxp];rfl
  have E:=λj=>zj9 p q l x q j hp h0 hx I;have f1:=λj=>zh5 1 j q_e;have F:=Ai (AC (x^q) h0) hp;have hr:decide (x^q%p=1)=zaH p q x:=by
   unfold zaH;exact decide_eq_decide.2 ⟨λe=>⟨h,hxp,e⟩,λe=>e.2.2⟩
  generalize zbx p x=H,x^q%p=r,zaH p q x=b at*;repeat' (first|refine s_0 ?_|refine zf 0 ?_;refine zj ?_;intro _;refine zW ?_;intro _|refine zf 1 ?_;refine q_v (ze (B:=zg x)) ?_;refine q_v (za (hc:=q_c A)) ?_;refine zb ?_;refine q_v (ze (B:=zg p) (hv:=m)) ?_;refine q_v (ze (B:=zg x)) ?_;refine q_v (za (hc:=q_c hc)) ?_;refine q_x (zaF (hr:=g1)) ?_|refine zf 3 ?_;refine q_v (za (hc:=q_c f1)) ?_;refine zb ?_;refine zj ?_;intro _;refine q_y (zl (n:=1)) ?_|refine zaj (id:=4) 6 [[],[],[],[2],[0,1,2,3],[],[0,1,2,3,4,5],[0,1,2,3,4,5,6]] mixed ?_ ?_;kernel_rfl;refine q_D (ze (B:=zai p q l)) ?_;refine q_D (ze (B:=zg x)) ?_;refine q_D zM ?_;refine q_D (ze (B:=zg q) (hv:=G)) ?_;refine q_D (za (hc:=q_c E)) ?_;refine q_D (ze (B:=zg 1)) ?_;refine zaB ?_;refine q_v (znl (a:=r) (b:=1) (r:=b) zvW F q_e hr) ?_;refine zw ?_|fail)
  exact q_r
 ·have g1:decide (zbx p x<=0)=true:=decide_eq_true (zuv q_o);have C:zaH p q x=false:=by unfold zaH;exact decide_eq_false (λh=>hxp h.2.1)
  rw[C];generalize zbx p x=H at*;repeat' (first|refine s_0 ?_|refine zf 0 ?_;refine zj ?_;intro _;refine zW ?_;intro _|refine zf 1 ?_;refine q_v (ze (B:=zg x)) ?_;refine q_v (za (hc:=q_c A)) ?_;refine zb ?_;refine q_v (ze (B:=zg p) (hv:=m)) ?_;refine q_v (ze (B:=zg x)) ?_;refine q_v (za (hc:=q_c hc)) ?_;refine q_x (zaF (hr:=g1)) ?_|refine q_k 2 ?_)
  exact q_r
theorem zqs(p q l x bc r f:Nat)(b:Bool)(w:World)(j:∀args w,(callFunc f args).run Tryz.prog w= .ok (.enter f args) w)(A:∀m,q_G f [zcE p q l,zr x] m (.bool b))
  (hc:w.cell? ⟨bc,0,none⟩=some (.func (.func f) #[] #[]))(C:w.rangeAt r 0 (zai p q l)):
  q_G 251 [zr x,.pointer (some ⟨bc,0,none⟩),.pointer (some ⟨r,0,none⟩)] w (.bool b):=by
 refine zt Tryz.func251 Tryz.ntmps251 ?_;have G:=z9 p q l;have H:=zd x;repeat' (first|refine s_0 ?_|refine zf 0 ?_;refine zW ?_;intro _|refine zf 1 ?_;refine q_v (zn (hv:=hc)) ?_;refine q_v (zad (B:=zai p q l) (hv:=C)) ?_;refine q_v (ze (B:=zg x)) ?_;refine q_v (zeV (he:=j) (fst:=[]) (cap:=[]) (hc:=λm X F E=>A m)) ?_;refine zb ?_)
 exact q_r
theorem zr2(p q l f n c K O:Nat)(xs:List Nat)(cond:Nat->Bool)(w:World)(hn:xs.length=n)(W:n<=1000)(H:∀args w,(callFunc f args).run Tryz.prog w= .ok (.enter f args) w)
  (U:∀x∈xs,∀J,q_G f [zcE p q l,zr x] J (.bool (cond x)))(Y:w.rangeAt K O (zae xs)):
  q_G 189 [zcE p q l,.func (.func f) #[] #[],.slice (some ⟨K,O,none⟩) n c] w (.int .i64 (if xs.all cond then 0 else 3)):=by
 refine zt Tryz.func189 Tryz.ntmps189 ?_;have Z:=z9 p q l;repeat' (first|refine s_t ?_|refine zf 0 ?_;refine zj ?_;intro _;refine zW ?_;intro _|refine zf 1 ?_;refine q_x zab ?_|refine q_k 2 ?_)
 rename_i E F;refine zN (γ:=Nat) (λk=>[(7,.func (.func 251) #[] #[.pointer (some ⟨F,0,none⟩),.pointer (some ⟨E,0,none⟩)]),(11,.slice (some ⟨K,O,none⟩) n c),(12,.int .i64 n),(13,.int .i64 k)])
  (λ_=>[.blk F 203 [.func (.func f) #[] #[]],.blk E 194 (zai p q l)])
  (λk=>k<=n/\(xs.take k).all cond=true) (λk=>n-k) 0 ⟨A9 _,rfl⟩ ?_ ?_ ?_
 ·exact q_h
 ·exact q_h
 rintro k ⟨T,m⟩;rcases AF k n with h|h
 ·obtain⟨x,Q⟩:∃x,xs[k]?=some x:=⟨_,A1 q_o⟩;have G:w.rangeAt K (O+k*16) (zg x):=λj v V=>by
   have:=Y (k*16+j) v (zd3 Q j v V);rwa[<-BI] at this
  have A:=U x (BY Q);have lx:=zd x;have C:decide ((k:Int)<(n:Int))=true:=q_d;have S:xs.take (k+1)=xs.take k++[x]:=by
   rw[CE,Q];rfl
  cases hcx:cond x with
  |true=>
   rw[hcx] at A;repeat' (first|refine s_t ?_|refine zf 3 ?_;refine q_v (zo (hr:=C)) ?_|refine zf 4 ?_;refine q_v (zbr (j:=k)) ?_;refine q_v (zad (B:=zg x) (hv:=G)) ?_;refine zj ?_;intro _;refine q_n (zl (n:=x)) ?_|refine q_k 5 ?_;refine q_v (ze (B:=zg x)) ?_;refine q_v (zeV (fst:=[]) (cap:=[.pointer (some ⟨F,0,none⟩),.pointer (some ⟨E,0,none⟩)]) (hc:=λJ X T I=>zqs p q l x F E f true J H A (zp (I.has (r:=.blk F 203 [.func (.func f) #[] #[]]) q_h) Et 0 _ rfl) (zp (I.has (r:=.blk E 194 (zai p q l)) q_h) Et))) ?_;refine zJ ?_|refine zf 7 ?_;refine za4 ?_;refine zb ?_)
   refine zE (k+1) ⟨h,by rw[S,BW,m,BS,hcx];rfl⟩ ?_ ?_ ?_
   ·show n-(k+1)<n-k;omega
   ·exact q_h
   ·exact q_h
  |false=>
   rw[hcx] at A;have R:xs.all cond=false:=by
    rw[Bk];exact⟨x,BY Q,by rw[hcx];decide⟩
   rw[R];repeat' (first|refine s_t ?_|refine zf 3 ?_;refine q_v (zo (hr:=C)) ?_|refine zf 4 ?_;refine q_v (zbr (j:=k)) ?_;refine q_v (zad (B:=zg x) (hv:=G)) ?_;refine zj ?_;intro _;refine q_n (zl (n:=x)) ?_|refine q_k 5 ?_;refine q_v (ze (B:=zg x)) ?_;refine q_v (zeV (fst:=[]) (cap:=[.pointer (some ⟨F,0,none⟩),.pointer (some ⟨E,0,none⟩)]) (hc:=λJ X T I=>zqs p q l x F E f false J H A (zp (I.has (r:=.blk F 203 [.func (.func f) #[] #[]]) q_h) Et 0 _ rfl) (zp (I.has (r:=.blk E 194 (zai p q l)) q_h) Et))) ?_;refine zJ ?_|refine q_k 6 ?_)
   exact q_r
 ·obtain rfl:k=n:=q_o;rw[A8 q_o] at m;have C:decide ((k:Int)<(k:Int))=false:=q_f;rw[m];repeat' (first|refine s_0 ?_|refine zf 3 ?_;refine q_v (zo (hr:=C)) ?_|refine q_k 8 ?_)
  exact q_r
theorem zvo(p q l x:Nat)(w:World)(hx:x<18446744073709551616^16)(V:nd 256 x<=l)(I:l<=1000):
  Sy.Fn Tryz.prog 250 [zcE p q l,zr x] w No (zbG 5 l ((za7 l x).map v8)):=by
 refine zt Tryz.func250 Tryz.ntmps250 ?_;have W:=z9 p q l;have Y:=zd x;have r:=zcS p q l;have G:=λH=>zny x H hx;have E:=zhy x;have hys:List.replicate (l-nd 256 x) (Value.int IntKind.u8 0)++(byt x).map v8=(za7 l x).map v8:=by
  unfold za7;rw[Aq,BT];rfl
 generalize nd 256 x=n,byt x=D,za7 l x=F at*;have A:IntKind.i64.wrap ((l:Int)-(n:Int))=((l-n:Nat):Int):=q_w;have j:List.replicate l (Value.int IntKind.u8 0)=List.replicate (l-n) (Value.int IntKind.u8 0)++List.replicate n (Value.int IntKind.u8 0):=by
  rw[DT];congr 1;omega
 unfold zbG;repeat' (first|refine s_0 ?_|refine zf 0 ?_;refine zj ?_;intro _;refine zW ?_;intro _|refine zf 1 ?_;refine q_v (ze (B:=zg x)) ?_;(refine q_s (zi (hc:=λH X U S=>G H)) ?_;rintro _ _ ⟨R,rfl,K,rfl,rfl⟩);refine zb ?_|refine q_k 2 ?_;refine q_x (zL (hv:=r)) ?_;refine q_x (zI (hr:=A)) ?_;refine q_v (zL (hv:=r)) ?_)
 refine q_s (zkU (n:=l-n) (c':=l) (EL _ _)) ?_;rintro _ _ ⟨O,rfl,rfl⟩;rw[j];repeat' (first|refine s_0 ?_|(refine zy ?_;first|refine q_s (Fp (zlc (n:=l-n) (c:=l) (s:=1) Es (by rw[A2,AJ,AJ];omega) (EL _ _) (by unfold maxLen;omega) (by rw[AJ,Ak])) (zaE (k:=l-n) (m:=n) (km:=l) (hL:=Es) (hr:=Rd.of (FZ (C:=D.map v8) (T:=5) Ev Et)) (hn:=by rw[A0,E,Ak]) (hkm:=by omega) (hys:=hys))) ?_;rintro _ _ ⟨rfl,J,Q,rfl⟩|refine zw ?_|refine zaR ?_|fail)|fail)
 exact q_r
end Go.Proofs.YtdnlngbjpdbffaaGreatDoor
