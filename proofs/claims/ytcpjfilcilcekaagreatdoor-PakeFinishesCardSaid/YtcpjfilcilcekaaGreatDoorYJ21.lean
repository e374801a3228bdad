/- The groups: their primes out of the program's table; elements, scalars, powers. -/
import Derived.Test.YtcpjfilcilcekaaGreatDoorYJ07
import Derived.Test.YtcpjfilcilcekaaGreatDoorYJ20
import Derived.Test.YtcpjfilcilcekaaGreatDoorYJ11
import Derived.Test.YtcpjfilcilcekaaGreatDoorYJ05
import Derived.Test.YtcpjfilcilcekaaGreatDoorYJ01
import Derived.Test.YtcpjfilcilcekaaGreatDoorYJ08
import Derived.Test.YtcpjfilcilcekaaGreatDoorYJ02
set_option linter.all false
section
namespace Go.Nt
open Go Go.Sy
def gS:Nat->List UInt8
 |1=>[98,51,102]
 |2=>[52,52,56,53,56,102,102]
 |3=>[57,49,98,56,56,55,102,102]
 |_=>[102,102,102,102,102,102,102,102,102,102,102,102,102,102,102,102,99,57,48,102,100,97,97,50,50,49,54,56,99,50,51,52,99,52,99,54,54,50,56,98,56,48,100,99,49,99,100,49,50,57,48,50,52,101,48,56,56,97,54,55,99,99,55,52,48,50,48,98,98,101,97,54,51,98,49,51,57,98,50,50,53,49,52,97,48,56,55,57,56,101,51,52,48,52,100,100,101,102,57,53,49,57,98,51,99,100,51,97,52,51,49,98,51,48,50,98,48,97,54,100,102,50,53,102,49,52,51,55,52,102,101,49,51,53,54,100,54,100,53,49,99,50,52,53,101,52,56,53,98,53,55,54,54,50,53,101,55,101,99,54,102,52,52,99,52,50,101,57,97,54,51,97,51,54,50,48,102,102,102,102,102,102,102,102,102,102,102,102,102,102,102,102]
theorem zjn (i:Nat) (h0:1<=i) (h5:i<=4):parse (gS i)=some (gP i):=
 zbx (p:=λi=>parse (gS i)=some (gP i)) (by decide +kernel) (by decide +kernel) (by decide +kernel) (by decide +kernel) i h0 h5
theorem zm5 (i:Nat) (h0:1<=i) (h5:i<=4):(gS i).length<=192:=
 zbx (p:=λi=>(gS i).length<=192) (by decide +kernel) (by decide +kernel) (by decide +kernel) (by decide +kernel) i h0 h5
theorem zqL (i:Nat):gP i / 2 ^ 1=gQ i:=rfl
def gCells:List Value:=[.string (str (gS 1)),.string (str (gS 2)),.string (str (gS 3)),.string (str (gS 4))]
theorem zhx (i:Nat) (h0:1<=i) (h5:i<=4):gCells[i - 1]?=some (.string (str (gS i))):=
 zbx (p:=λi=>gCells[i - 1]?=some (.string (str (gS i)))) rfl rfl rfl rfl i h0 h5
theorem zdq (i:Nat) (h0:1<=i) (h5:i<=4):1<=gL i/\gL i<=96:=
 zbx (p:=λi=>1<=gL i/\gL i<=96) (by decide) (by decide) (by decide) (by decide) i h0 h5
theorem zaW (i:Nat) (h0:1<=i) (h5:i<=4):gP i < 18446744073709551616 ^ 16:=by
 rw [zez 256 8 128 rfl rfl]
 have h:=zae 256 (gP i) (by decide)
 rw [zhb i h0 h5] at h
 exact Nat.lt_of_lt_of_le h (Nat.pow_le_pow_right (by decide) (by have:=(zdq i h0 h5).2;omega))
theorem za3 (i:Nat) (h0:1<=i) (h5:i<=4):gQ i < 18446744073709551616 ^ 16:=Nat.lt_of_le_of_lt (Nat.div_le_self _ _) (zaW i h0 h5)
def safeC (p q l:Nat):List Value:=natC p ++ (natC q ++ [.int .i64 l])
theorem zQ (p q l:Nat):(safeC p q l).length=33:=by
 unfold safeC;rw [List.length_append,List.length_append,ze,ze];rfl
theorem zaz (p q l:Nat):(safeC p q l).all (·.oneCell')=true:=by
 unfold safeC;rw [List.all_append,List.all_append,zbX,zbX];rfl
theorem zbB (p q l:Nat):Seg (safeC p q l) 0 (natC p):=by
 have:=Seg.mid (A:=[]) (B:=natC p) (D:=natC q ++ [Value.int .i64 l])
 rw [List.nil_append] at this
 exact this
theorem zbF (p q l:Nat):Seg (safeC p q l) 16 (natC q):=by
 have:=Seg.mid (A:=natC p) (B:=natC q) (D:=[Value.int .i64 l])
 rw [ze,List.append_assoc] at this
 exact this
theorem zbD (p q l:Nat):(safeC p q l)[32]?=some (.int .i64 (l:Int)):=by
 unfold safeC
 rw [List.getElem?_append_right (by rw [ze];decide),List.getElem?_append_right (by rw [ze,ze];decide),ze,ze];rfl
theorem zng (p q l:Nat):FillTo (nth [(0,16),(16,16),(32,1)]) [(0,natV p),(1,natV q),(2,Value.int .i64 l)] (List.replicate 32 (Value.int IntKind.u64 0) ++ [.int .i64 0]) (safeC p q l):=by
 have hz:List.replicate 32 (Value.int IntKind.u64 0)=List.replicate 16 (Value.int IntKind.u64 0) ++ List.replicate 16 (Value.int IntKind.u64 0):=rfl
 have s1:setSeg (List.replicate 32 (Value.int IntKind.u64 0) ++ [.int .i64 0]) 0 (natC p)=natC p ++ (List.replicate 16 (Value.int IntKind.u64 0) ++ [.int .i64 0]):=by
  unfold setSeg
  rw [ze,hz];simp
 have s2:setSeg (natC p ++ (List.replicate 16 (Value.int IntKind.u64 0) ++ [.int .i64 0])) 16 (natC q)=natC p ++ (natC q ++ [.int .i64 0]):=by
  unfold setSeg
  rw [ze,List.take_append_of_le_length (by rw [ze];decide),List.take_of_length_le (by rw [ze];decide),List.drop_append,ze,List.drop_of_length_le (by rw [ze];decide)];simp
 have s3:setSeg (natC p ++ (natC q ++ [.int .i64 0])) 32 [Value.int .i64 (l:Int)]=safeC p q l:=by
  have e:natC p ++ (natC q ++ [Value.int .i64 0])=(natC p ++ natC q) ++ [Value.int .i64 0]:=by rw [List.append_assoc]
  have hl:(natC p ++ natC q).length=32:=by rw [List.length_append,ze,ze]
  unfold setSeg safeC
  rw [e,List.take_append_of_le_length (by rw [hl];decide),List.take_of_length_le (by rw [hl];decide),List.drop_of_length_le (by rw [List.length_append,hl];exact Nat.le_refl _)];simp
 refine .cons (cs:=natC p) rfl rfl (ze p) (by simp) ?_
 rw [s1]
 refine .cons (cs:=natC q) rfl rfl (ze q) (by simp [ze]) ?_
 rw [s2]
 refine .cons (cs:=[.int .i64 l]) rfl rfl rfl (by simp [ze]) ?_
 rw [s3]
 exact .nil
theorem znl:List.replicate 32 (Value.int IntKind.u64 0) ++ [Value.int .i64 0]=safeC 0 0 0:=by
 unfold safeC natC
 rw [zc4,List.map_replicate];rfl
end Go.Nt
namespace Go.Proofs.YtcpjfilcilcekaaGreatDoor
open Go Go.Sy Go.Nt Go.RowKit
def safeV (p q l:Nat):Value:=.agg (safeC p q l).toArray
def GT (w:World):Prop:=w.rangeAt 0 0 gCells
theorem GT.to {w w':World}(h:GT w) (hk:Keep No w w'):GT w':=zaC h hk (λh=>h)
section
variable {ro:Option Nat}{N:Nat}{w0:World}{M:Nat->Prop}{ds:List Deferred}{g:Nat->Option Value}{L:List Res}{o:Oper}{z z' z'':Operand}
theorem zjx {p q l:Nat}(ho:o.op= .build 109 #[(0,z),(1,z'),(2,z'')]:=by exact rfl) (hz:ev g z=some (natV p):=by exact rfl) (hz':ev g z'=some (natV q):=by exact rfl) (hz'':ev g z''=some (.int .i64 (l:Int)):=by exact rfl):OpT Tryz.prog ro N w0 M ds o g L (Det (safeV p q l) L):=
 zce (parts:=#[(0,z),(1,z'),(2,z'')]) (vs:=[natV p,natV q,.int .i64 l]) (C:=safeC p q l) (zng p q l) ho (by simp [evs,hz,hz',hz'']) (ty rfl) rfl rfl (zc rfl)
theorem zgy (ho:o.op= .build 109 #[]:=by exact rfl):OpT Tryz.prog ro N w0 M ds o g L (Det (safeV 0 0 0) L):=by
 unfold safeV;rw [<-znl]
 exact zcE ho (ty rfl) (.inl ⟨rfl,rfl⟩) (zc rfl)
end
attribute [local irreducible] Sy SyL SyX Sy.Fn callFunc natC rowN safeC gP gQ gL gS gCells
set_option maxRecDepth 10000
theorem zj2 (z:Int) (w:World) (hz: ¬(1<=z/\z<=4)):Sy.Fn Tryz.prog 73 [.int .i64 z] w No (Gives (.tuple #[safeV 0 0 0,.int .i64 2])):=by
 refine zk Tryz.func73 rfl Tryz.ntmps73 (by simp) Holds.nil ?_
 have hl:=zQ 0 0 0
 by_cases h:z < 1
 ·have g1:decide (z < 1)=true:=decide_eq_true h
  repeat' (first|refine s_0 ?_|(refine za (id:=0) ?_;(refine zi ?_;intro _);refine zd ?_)|(refine za (id:=1) ?_;refine zb ?_;refine yv (zP (hr:=g1)) (k:=?_);refine zb ?_;refine zj rfl rfl rfl ?_;refine zj rfl rfl rfl ?_;refine zo ?_)|(refine za (id:=2) ?_;refine yv zgy (k:=?_);refine yn (zM (B:=safeC 0 0 0) (hv:=zaz 0 0 0) (h1:=(zQ 0 0 0).symm)) (k:=?_);refine zd ?_)|fail)
  exact ret2 rfl (resCells (B:=safeC 0 0 0) rfl (ty rfl) rfl Has.go Seg.all (zQ _ _ _).symm) (resTmp rfl) SubR.nil ⟨rfl,rfl⟩
 ·have g1:decide (z < 1)=false:=decide_eq_false h
  have g2:decide (z > 4)=true:=decide_eq_true (by omega)
  repeat' (first|refine s_0 ?_|(refine za (id:=0) ?_;(refine zi ?_;intro _);refine zd ?_)|(refine za (id:=1) ?_;refine zb ?_;refine yv (zP (hr:=g1)) (k:=?_);refine zb ?_;refine zb ?_;refine yv (zaf (hr:=g2)) (k:=?_);refine zo ?_)|(refine za (id:=2) ?_;refine yv zgy (k:=?_);refine yn (zM (B:=safeC 0 0 0) (hv:=zaz 0 0 0) (h1:=(zQ 0 0 0).symm)) (k:=?_);refine zd ?_)|fail)
  exact ret2 rfl (resCells (B:=safeC 0 0 0) rfl (ty rfl) rfl Has.go Seg.all (zQ _ _ _).symm) (resTmp rfl) SubR.nil ⟨rfl,rfl⟩
theorem zby (i:Nat) (w:World) (h0:1<=i) (h5:i<=4) (hG:GT w):Sy.Fn Tryz.prog 73 [.int .i64 (i:Int)] w No (Gives (.tuple #[safeV (gP i) (gQ i) (gL i),.int .i64 0])):=by
 refine zk Tryz.func73 rfl Tryz.ntmps73 (by simp) Holds.nil ?_
 have g1:decide ((i:Int) < 1)=false:=decide_eq_false (by omega)
 have g2:decide ((i:Int) > 4)=false:=decide_eq_false (by omega)
 have g3:IntKind.i64.wrap ((i:Int) - 1)=((i - 1:Nat):Int):=by rw [IntWalk.i64_in _ (by omega)];omega
 have hcell:w.cell? ⟨0,i - 1,none⟩=some (.string (str (gS i))):=by
  have:=hG (i - 1) _ (zhx i h0 h5)
  rwa [Nat.zero_add] at this
 have hW:=zaW i h0 h5
 have hsl:=zm5 i h0 h5
 have hpa:=λw'=>zod (gS i) w' (by omega)
 rw [zjn i h0 h5] at hpa
 dsimp only at hpa
 rw [if_pos hW] at hpa
 have hsh:=λw'=>zrd (gP i) 1 w' hW (by decide)
 rw [zqL] at hsh
 have hbl:=λw'=>zbd (gP i) w' hW
 have hn:=zjf 8 (gP i) (by decide)
 rw [show (2:Nat) ^ 8=256 from rfl,zhb i h0 h5] at hn
 have hnb:=zcP hW
 have lP:=ze (gP i)
 have lQ:=ze (gQ i)
 have lS:=zQ (gP i) (gQ i) (gL i)
 generalize nd 2 (gP i)=m at *
 have g4:IntKind.i64.wrap ((m:Int)+7)=((m+7:Nat):Int):=by rw [IntWalk.i64_in _ (by omega)];omega
 have g5:IntKind.i64.wrap (((m+7:Nat):Int).tdiv 8)=((gL i:Nat):Int):=by
  have:=quoI (p:=m+7) (k:=8) (by omega)
  rw [show m+7=m+(8 - 1) from rfl,<-hn] at this
  exact this
 clear hn hsl
 generalize gP i=p at *
 generalize gQ i=q at *
 generalize gL i=l at *
 repeat' (first|refine s_0 ?_|(refine za (id:=0) ?_;(refine zi ?_;intro _);refine zd ?_)|(refine za (id:=1) ?_;refine zb ?_;refine yv (zP (hr:=g1)) (k:=?_);refine zb ?_;refine zb ?_;refine yv (zaf (hr:=g2)) (k:=?_);refine zo ?_)|(refine za (id:=3) ?_;refine zb ?_;refine yv (zJ (hr:=g3)) (k:=?_);refine yv (zcp (j:=i - 1)) (k:=?_);refine yv (zx (hv:=hcell)) (k:=?_);refine yv (zf (hc:=λ_ _ _ _=>(hpa _))) (k:=?_);refine zb ?_;refine zh ?_;refine zh ?_;(refine zi ?_;intro _);refine yn (zl (n:=p)) (k:=?_);refine zd ?_)|(refine za (id:=4) ?_;refine yv (zg (B:=natC p)) (k:=?_);refine yv (zf (hc:=λ_ _ _ _=>(hsh _))) (k:=?_);refine zb ?_;refine zh ?_;refine zh ?_;(refine zi ?_;intro _);refine yn (zl (n:=q)) (k:=?_);refine zd ?_)|(refine zK (id:=5) 6 [[],[],[],[2],[2,3],[2,3,4],[0,1,2,3,4,5],[0,1,2,3,4,5,6],[0,1,2,3,4,5,6,7]] mixed ?_ ?_;kernel_rfl;refine dc (λ_ _=>zg (B:=natC p)) (k:=?_);refine dc (λ_ _=>zg (B:=natC q)) (k:=?_);refine dc (λ_ _=>zg (B:=natC p)) (k:=?_);refine dc (λ_ _=>zf (hc:=λ_ _ _ _=>(hbl _))) (k:=?_);refine dc (λ_ _=>zL (hr:=g4)) (k:=?_);refine dc (λ_ _=>zaS (hr:=g5)) (k:=?_);refine zU ?_;refine yv (zjx (p:=p) (q:=q) (l:=l)) (k:=?_);refine yn (zM (B:=safeC p q l) (hv:=zaz p q l) (h1:=(zQ p q l).symm)) (k:=?_);refine zd ?_)|fail)
 exact ret2 rfl (resCells (B:=safeC p q l) rfl (ty rfl) rfl Has.go Seg.all (zQ _ _ _).symm) (resTmp rfl) SubR.nil ⟨rfl,rfl⟩
end Go.Proofs.YtcpjfilcilcekaaGreatDoor
end
section
namespace Go.Proofs.YtcpjfilcilcekaaGreatDoor
open Go Go.Sy Go.Nt Go.RowKit
theorem ziJ {H:Type}{enc:TypeId×Value->H}{P:Program}{w:World}{base:Nat}{sp:Nat->Bool}{held:Bool}{fuel:Nat}{t e:TypeId}{n:Nat}{cs:List Value}{ss:List (List UInt8)}{p:List MemPlace}
  (ht:P.underlying t=some (.array n e)) (he:P.underlying e=some .string) (hce:P.cellsOf e=1) (hct:P.cellsOf t=n)
  (h:DataW.trod enc P w base sp held fuel t cs=some (.agg (ss.map λs=> .lit (.string s)),p)):cs=ss.map λs=>Value.string (str s):=by
 cases fuel with
 |zero=>simp [DataW.trod] at h
 |succ fuel=>
  simp only [DataW.trod,ht,hce,hct,Nat.mul_one] at h
  split at h
  ·rename_i hl
   obtain ⟨xs,hm,hx⟩:=Option.map_eq_some_iff.1 h
   have hxs:xs.map (·.1)=ss.map λs=>(DataW.lit (.string s):DataW H):=by
    have:=congrArg Prod.fst hx
    simpa using this
   have hxl:xs.length=n:=by simpa using Lib.mapM_length hm
   have hzl:ss.length=n:=by
    have:=congrArg List.length hxs
    simp at this
    omega
   apply List.ext_getElem?
   intro i
   by_cases hi:i < n
   ·obtain ⟨b,hb,hf⟩:=Lib.mapM_at hm i i (by simp [hi])
    obtain ⟨s,hc,rfl,_⟩:=DataW.trod_string he hf
    have h1:cs[i]?=some (.string s):=by
     have:=congrArg (·[0]?) hc
     simpa [List.getElem?_take,List.getElem?_drop] using this
    have h2:(xs.map (·.1))[i]?=some (DataW.lit (.string s.data.toList):DataW H):=by simp [hb]
    rw [hxs] at h2
    simp only [List.getElem?_map,Option.map_eq_some_iff,DataW.lit.injEq,Lit.string.injEq] at h2
    obtain ⟨z',hz',rfl⟩:=h2
    have h3:str s.data.toList=s:=rfl
    rw [h1,List.getElem?_map,hz',Option.map_some,h3]
   ·rw [List.getElem?_eq_none (by omega),List.getElem?_eq_none (by simp;omega)]
  ·cases h
theorem zmZ {P:Program}{w:World}{l:List (String×DataW Unit)}(h:laidMet P l w) {n:String}{ss:List (List UInt8)}{g t e m:Nat}(hm:(n,(.agg (ss.map λs=> .lit (.string s)):DataW Unit))∈l) (hg:P.globalNamed n=some g) (hty:(P.globals[g]?).map (·.type)=some t)
  (ht:P.underlying t=some (.array m e)) (he:P.underlying e=some .string) (hce:P.cellsOf e=1) (hct:P.cellsOf t=m):w.rangeAt g 0 (ss.map λs=>Value.string (str s)):=by
 obtain ⟨ps,hl,_⟩:=h
 obtain ⟨g',t',cs,fuel,p,hg',ht',hvar,hd⟩:=zgd hl hm
 obtain rfl:=Option.some.inj (hg.symm.trans hg')
 obtain rfl:=Option.some.inj (hty.symm.trans ht')
 have hcs:=ziJ ht he hce hct hd
 intro j v hj
 rw [World.var?_cell hg hvar,Nat.zero_add,<-Array.getElem?_toList,hcs];exact hj
theorem gPrimes:Tryz.prog.globalNamed "watchword/group.primes" =some 0:=by kernel_rfl
theorem tyPrimes:(Tryz.prog.globals[0]?).map (·.type)=some 142:=by kernel_rfl
theorem undPrimes:Tryz.prog.underlying 142=some (.array 4 9):=by kernel_rfl
theorem undStr:Tryz.prog.underlying 9=some .string:=by kernel_rfl
theorem cellsStr:Tryz.prog.cellsOf 9=1:=by kernel_rfl
theorem cellsPrimes:Tryz.prog.cellsOf 142=4:=by kernel_rfl
theorem dPrimes:(Rows.laid_watchword_group_primes:DataW Unit)= .agg ([gS 1,gS 2,gS 3,gS 4].map λs=> .lit (.string s)):=by kernel_rfl
theorem zrp {W:World}{l:List (String×DataW Unit)}(h:laidMet Tryz.prog l W) (h1:("watchword/group.primes",Rows.laid_watchword_group_primes)∈l):GT W:=by
 rw [dPrimes] at h1
 exact zmZ h h1 gPrimes tyPrimes undPrimes undStr cellsStr cellsPrimes
def datG:Nat->DataW Unit->List Value
 |n+1,.agg l=>l.flatMap (datG n)
 |_,.lit (.int k z)=>[.int k z]
 |_,.lit (.string s)=>[.string (str s)]
 |_,_=>[]
noncomputable def laidWorldG (os:Os):World:=
 { laidWorld os with heap:=(laidWorld os).heap.modify 0 (putCells (datG 3 Rows.laid_watchword_group_primes)) }
end Go.Proofs.YtcpjfilcilcekaaGreatDoor
end
section
namespace Go.Sh
def rotr (x:UInt32) (n:Nat):UInt32:=(x <<< UInt32.ofNat (32 - n)) ||| (x >>> UInt32.ofNat n)
def turn (x:UInt32) (ns:List Nat):UInt32:=ns.foldl (λy n=>y ^^^ rotr x n) 0
theorem zmA (x:UInt32) (ns:List Nat) (k:Nat) (h:k < ns.length):turn x (ns.take (k+1))=turn x (ns.take k) ^^^ rotr x ns[k]:=by
 unfold turn;rw [List.take_succ_eq_append_getElem h,List.foldl_append];rfl
def kC:List UInt32:=[
 0x428a2f98,0x71374491,0xb5c0fbcf,0xe9b5dba5,0x3956c25b,0x59f111f1,0x923f82a4,0xab1c5ed5,
 0xd807aa98,0x12835b01,0x243185be,0x550c7dc3,0x72be5d74,0x80deb1fe,0x9bdc06a7,0xc19bf174,
 0xe49b69c1,0xefbe4786,0x0fc19dc6,0x240ca1cc,0x2de92c6f,0x4a7484aa,0x5cb0a9dc,0x76f988da,
 0x983e5152,0xa831c66d,0xb00327c8,0xbf597fc7,0xc6e00bf3,0xd5a79147,0x06ca6351,0x14292967,
 0x27b70a85,0x2e1b2138,0x4d2c6dfc,0x53380d13,0x650a7354,0x766a0abb,0x81c2c92e,0x92722c85,
 0xa2bfe8a1,0xa81a664b,0xc24b8b70,0xc76c51a3,0xd192e819,0xd6990624,0xf40e3585,0x106aa070,
 0x19a4c116,0x1e376c08,0x2748774c,0x34b0bcb5,0x391c0cb3,0x4ed8aa4a,0x5b9cca4f,0x682e6ff3,
 0x748f82ee,0x78a5636f,0x84c87814,0x8cc70208,0x90befffa,0xa4506ceb,0xbef9a3f7,0xc67178f2]
theorem zjj:kC.length=64:=rfl
def h0:List UInt32:=[0x6a09e667,0xbb67ae85,0x3c6ef372,0xa54ff53a,0x510e527f,0x9b05688c,0x1f83d9ab,0x5be0cd19]
def word (a b c d:UInt8):UInt32:=(((a.toUInt32 <<< 24) ||| (b.toUInt32 <<< 16)) ||| (c.toUInt32 <<< 8)) ||| d.toUInt32
def wordAt (b:List UInt8) (t:Nat):UInt32:=word (b.getD (4*t) 0) (b.getD (4*t+1) 0) (b.getD (4*t+2) 0) (b.getD (4*t+3) 0)
def next (y w7 x w16:UInt32):UInt32:=(((turn y [17,19] ^^^ (y >>> 10))+w7)+(turn x [7,18] ^^^ (x >>> 3)))+w16
def sched (b:List UInt8):Nat->List UInt32
 |0=>[]
 |t+1=>let w:=sched b t
  w ++ [if t < 16 then wordAt b t else next (w.getD (t - 2) 0) (w.getD (t - 7) 0) (w.getD (t - 15) 0) (w.getD (t - 16) 0)]
theorem zh1 (b:List UInt8) (t:Nat) (h:t < 16):sched b (t+1)=sched b t ++ [wordAt b t]:=by simp [sched,h]
theorem zhn (b:List UInt8) (t:Nat) (h:16<=t):sched b (t+1)=sched b t ++ [next ((sched b t).getD (t - 2) 0) ((sched b t).getD (t - 7) 0) ((sched b t).getD (t - 15) 0) ((sched b t).getD (t - 16) 0)]:=by
 simp [sched,Nat.not_lt.2 h]
structure St where
 a:UInt32
 b:UInt32
 c:UInt32
 d:UInt32
 e:UInt32
 f:UInt32
 g:UInt32
 h:UInt32
def St.list (v:St):List UInt32:=[v.a,v.b,v.c,v.d,v.e,v.f,v.g,v.h]
def St.of (l:List UInt32):St:=⟨l.getD 0 0,l.getD 1 0,l.getD 2 0,l.getD 3 0,l.getD 4 0,l.getD 5 0,l.getD 6 0,l.getD 7 0⟩
def t1 (v:St) (k w:UInt32):UInt32:=(((v.h+turn v.e [6,11,25])+((v.e &&& v.f) ^^^ (~~~v.e &&& v.g)))+k)+w
def t2 (v:St):UInt32:=turn v.a [2,13,22]+(((v.a &&& v.b) ^^^ (v.a &&& v.c)) ^^^ (v.b &&& v.c))
def St.step (v:St) (k w:UInt32):St:=⟨t1 v k w+t2 v,v.a,v.b,v.c,v.d+t1 v k w,v.e,v.f,v.g⟩
def rounds (s:List UInt32) (W:List UInt32):Nat->St
 |0=>St.of s
 |t+1=>(rounds s W t).step (kC.getD t 0) (W.getD t 0)
def compress (s:List UInt32) (b:List UInt8):List UInt32:=List.zipWith (· + ·) s (rounds s (sched b 64) 64).list
theorem zar (s:List UInt32) (b:List UInt8) (h:s.length=8):(compress s b).length=8:=by simp [compress,h,St.list]
def be8 (n:Nat):List UInt8:=(List.range 8).map λi=>UInt8.ofNat (n / 256 ^ (7 - i))
def tail (b:List UInt8) (total:Nat):List UInt8:=b ++ 128::List.replicate ((if b.length+9 > 64 then 128 else 64) - b.length - 9) 0 ++ be8 (8*total)
def whole:Nat->List UInt8->List (List UInt8)
 |0,_=>[]
 |n+1,b=>b.take 64::whole n (b.drop 64)
def blocks (b:List UInt8) (total:Nat):List (List UInt8):=
 let n:=b.length / 64
 let t:=tail (b.drop (64*n)) total
 whole n b ++ whole (t.length / 64) t
def fold (s:List UInt32) (l:List (List UInt8)):List UInt32:=l.foldl compress s
def be4 (v:UInt32):List UInt8:=[(v >>> 24).toUInt8,(v >>> 16).toUInt8,(v >>> 8).toUInt8,v.toUInt8]
def ser (s:List UInt32):List UInt8:=s.flatMap be4
def sum (b:List UInt8):List UInt8:=ser (fold h0 (blocks b b.length))
theorem zdx (n:Nat) (b:List UInt8):(whole n b).length=n:=by induction n generalizing b with|zero=>rfl|succ n ih=>simp [whole,ih]
theorem zfY (n j:Nat) (b:List UInt8) (h:j < n):(whole n b)[j]?=some ((b.drop (64*j)).take 64):=by
 induction n generalizing b j with
 |zero=>omega
 |succ n ih=>
  cases j with
  |zero=>simp [whole]
  |succ j=>simp only [whole,List.getElem?_cons_succ];rw [ih j (b.drop 64) (by omega),List.drop_drop];congr 3;omega
theorem zdS (n:Nat):(be8 n).length=8:=by simp [be8]
theorem zi8 (r:List UInt8) (total:Nat) (h:r.length < 64):(tail r total).length=if r.length+9 > 64 then 128 else 64:=by
 simp only [tail,List.length_append,List.length_cons,List.length_replicate,zdS];split <;> omega
theorem zhp (b:List UInt8) (total:Nat):(blocks b total).length=b.length / 64+(tail (b.drop (64*(b.length / 64))) total).length / 64:=by
 simp [blocks,zdx]
theorem zlH (b:List UInt8) (total j:Nat) (h:j < b.length / 64):(blocks b total)[j]?=some ((b.drop (64*j)).take 64):=by
 simp only [blocks];rw [List.getElem?_append_left (by rw [zdx];exact h)];exact zfY _ _ _ h
theorem zkr (b:List UInt8) (total i:Nat) (h:i < (tail (b.drop (64*(b.length / 64))) total).length / 64):
  (blocks b total)[b.length / 64+i]?=some (((tail (b.drop (64*(b.length / 64))) total).drop (64*i)).take 64):=by
 simp only [blocks];rw [List.getElem?_append_right (by rw [zdx];omega),zdx,show b.length / 64+i - b.length / 64=i from by omega];exact zfY _ _ _ h
theorem zeY (b:List UInt8) (total:Nat): ∀x∈blocks b total,x.length=64:=by
 have hw: ∀(n:Nat) (b:List UInt8),64*n<=b.length-> ∀x∈whole n b,x.length=64:=by
  intro n
  induction n with
  |zero=>intro b _ x hx;simp [whole] at hx
  |succ n ih=>
   intro b hb x hx
   simp only [whole,List.mem_cons] at hx
   rcases hx with rfl|hx
   ·rw [List.length_take];omega
   ·exact ih _ (by rw [List.length_drop];omega) x hx
 intro x hx
 simp only [blocks,List.mem_append] at hx
 rcases hx with hx|hx
 ·exact hw _ _ (by omega) x hx
 ·exact hw _ _ (by omega) x hx
theorem zpj (n j:Nat) (h:j < 8):(be8 n).drop j=UInt8.ofNat (n / 256 ^ (7 - j))::(be8 n).drop (j+1):=by
 have hl:j < (be8 n).length:=by rw [zdS];exact h
 rw [List.drop_eq_getElem_cons hl];congr 1;simp [be8]
theorem zoY (r:List UInt8) (d n i:Nat) (hi:i < 8):
  (r ++ 128::(List.replicate (d+8 - i) 0 ++ (be8 n).drop (8 - i))).set (r.length+1+(d+7 - i)) (UInt8.ofNat (n / 256 ^ i)) =
   r ++ 128::(List.replicate (d+8 - (i+1)) 0 ++ (be8 n).drop (8 - (i+1))):=by
 rw [List.set_append_right _ _ (by omega),show r.length+1+(d+7 - i) - r.length=(d+7 - i)+1 from by omega,List.set_cons_succ]
 congr 2
 rw [show d+8 - i=(d+7 - i)+1 from by omega,List.replicate_succ',List.append_assoc,List.set_append_right _ _ (by simp)]
 rw [List.length_replicate,Nat.sub_self,List.cons_append,List.set_cons_zero,List.nil_append]
 rw [show d+8 - (i+1)=d+7 - i from by omega,zpj n (8 - (i+1)) (by omega),show 7 - (8 - (i+1))=i from by omega,show 8 - (i+1)+1=8 - i from by omega]
end Go.Sh
end
section
namespace Go.Wd
open Go Go.RowKit Go.Sy
def vi (x:UInt32):Value:=.int .i64 (n32 x)
theorem wrapi (a:Int) (h0: -9223372036854775808<=a) (h1:a < 9223372036854775808):IntKind.i64.wrap a=a:=IntWalk.i64_in _ (by omega)
theorem zei (x:UInt32):BitVec.ofInt 64 (n32 x)=x.toBitVec.setWidth 64:=by
 unfold n32;rw [BitVec.ofInt_natCast];apply BitVec.eq_of_toNat_eq;simp
theorem zjq (r:BitVec 32):IntKind.i64.wrap ((r.setWidth 64).toNat:Int)=n32 (UInt32.ofBitVec r):=by
 have:=r.isLt
 rw [BitVec.toNat_setWidth,Nat.mod_eq_of_lt (by omega),wrapi _ (by omega) (by omega)];rfl
theorem andi (x y:UInt32):bits .and .i64 (n32 x) (n32 y)=n32 (x &&& y):=by
 simp only [bits];rw [show IntKind.i64.bits=64 from rfl,zei,zei,<-BitVec.setWidth_and,zjq];rfl
theorem xori (x y:UInt32):bits .xor .i64 (n32 x) (n32 y)=n32 (x ^^^ y):=by
 simp only [bits];rw [show IntKind.i64.bits=64 from rfl,zei,zei,<-BitVec.setWidth_xor,zjq];rfl
theorem noti (x:UInt32):IntKind.i64.wrap (4294967295 - n32 x)=n32 (~~~x):=by
 have h0:=zI x
 have h1:=zao x
 rw [wrapi _ (by omega) (by omega)]
 have h2:(~~~x).toNat=4294967295 - x.toNat:=by
  rw [UInt32.toNat_not];rfl
 unfold n32 at *;rw [h2];omega
theorem zaB (x:UInt32):n32 x % (4294967296:Int)=n32 x:=Int.emod_eq_of_lt (zI x) (zao x)
theorem late (a b:Int) (p q:UInt32) (ha:a % 4294967296=n32 p) (hb:b % 4294967296=n32 q):(a+b) % 4294967296=n32 (p+q):=by
 rw [<-add32m p q,<-ha,<-hb,Int.emod_add_emod,Int.add_emod_emod]
theorem lateT (a:Int) (p:UInt32) (h0:0<=a) (ha:a % 4294967296=n32 p):a.tmod 4294967296=n32 p:=by
 rw [Int.tmod_eq_emod_of_nonneg h0];exact ha
section sums
variable (a b c d e f g:UInt32)
theorem ws2:IntKind.i64.wrap (n32 a+n32 b)=n32 a+n32 b:=by
 have:=zao a;have:=zao b;have:=zI a;have:=zI b
 exact wrapi _ (by omega) (by omega)
theorem ws3:IntKind.i64.wrap (n32 a+n32 b+n32 c)=n32 a+n32 b+n32 c:=by
 have:=zao a;have:=zao b;have:=zao c;have:=zI a;have:=zI b;have:=zI c
 exact wrapi _ (by omega) (by omega)
theorem ws4:IntKind.i64.wrap (n32 a+n32 b+n32 c+n32 d)=n32 a+n32 b+n32 c+n32 d:=by
 have:=zao a;have:=zao b;have:=zao c;have:=zao d;have:=zI a;have:=zI b;have:=zI c;have:=zI d
 exact wrapi _ (by omega) (by omega)
theorem ws5:IntKind.i64.wrap (n32 a+n32 b+n32 c+n32 d+n32 e)=n32 a+n32 b+n32 c+n32 d+n32 e:=by
 have:=zao a;have:=zao b;have:=zao c;have:=zao d;have:=zao e;have:=zI a;have:=zI b;have:=zI c;have:=zI d;have:=zI e
 exact wrapi _ (by omega) (by omega)
theorem ws7:IntKind.i64.wrap (n32 a+n32 b+n32 c+n32 d+n32 e+(n32 f+n32 g))=n32 a+n32 b+n32 c+n32 d+n32 e+(n32 f+n32 g):=by
 have:=zao a;have:=zao b;have:=zao c;have:=zao d;have:=zao e;have:=zI a;have:=zI b;have:=zI c;have:=zI d;have:=zI e
 have:=zao f;have:=zao g;have:=zI f;have:=zI g
 exact wrapi _ (by omega) (by omega)
theorem ws6:IntKind.i64.wrap (n32 f+(n32 a+n32 b+n32 c+n32 d+n32 e))=n32 f+(n32 a+n32 b+n32 c+n32 d+n32 e):=by
 have:=zao a;have:=zao b;have:=zao c;have:=zao d;have:=zao e;have:=zI a;have:=zI b;have:=zI c;have:=zI d;have:=zI e
 have:=zao f;have:=zI f
 exact wrapi _ (by omega) (by omega)
theorem rs2:(n32 a+n32 b).tmod 4294967296=n32 (a+b):=by
 have:=zI a;have:=zI b
 exact lateT _ _ (by omega) (late _ _ _ _ (zaB a) (zaB b))
theorem rs4:(n32 a+n32 b+n32 c+n32 d).tmod 4294967296=n32 (a+b+c+d):=by
 have:=zI a;have:=zI b;have:=zI c;have:=zI d
 exact lateT _ _ (by omega) (late _ _ _ _ (late _ _ _ _ (late _ _ _ _ (zaB a) (zaB b)) (zaB c)) (zaB d))
theorem rs7:(n32 a+n32 b+n32 c+n32 d+n32 e+(n32 f+n32 g)).tmod 4294967296=n32 ((((a+b+c)+d)+e)+(f+g)):=by
 have:=zI a;have:=zI b;have:=zI c;have:=zI d;have:=zI e;have:=zI f;have:=zI g
 exact lateT _ _ (by omega) (late _ _ _ _ (late _ _ _ _ (late _ _ _ _ (late _ _ _ _ (late _ _ _ _ (zaB a) (zaB b)) (zaB c)) (zaB d)) (zaB e)) (late _ _ _ _ (zaB f) (zaB g)))
theorem rs6:(n32 f+(n32 a+n32 b+n32 c+n32 d+n32 e)).tmod 4294967296=n32 (f+((((a+b)+c)+d)+e)):=by
 have:=zI a;have:=zI b;have:=zI c;have:=zI d;have:=zI e;have:=zI f
 exact lateT _ _ (by omega) (late _ _ _ _ (zaB f) (late _ _ _ _ (late _ _ _ _ (late _ _ _ _ (late _ _ _ _ (zaB a) (zaB b)) (zaB c)) (zaB d)) (zaB e)))
end sums
theorem shli (a:Int) (k:IntKind) (n:Nat) (h:n < 64):Op.shift .shl .i64 a k (n:Int)=pure (.int .i64 (IntKind.i64.wrap (a*2 ^ n))):=by
 rw [shift_shl_any _ _ _ _ (Int.natCast_nonneg _),Int.toNat_natCast,show min n IntKind.i64.bits=n from Nat.min_eq_left (Nat.le_of_lt h)]
theorem shri (a:Int) (k:IntKind) (n:Nat) (h:n < 64):Op.shift .shr .i64 a k (n:Int)=pure (.int .i64 (a / 2 ^ n)):=by
 rw [shift_shr_any _ _ _ _ (Int.natCast_nonneg _),Int.toNat_natCast,show min n IntKind.i64.bits=n from Nat.min_eq_left (Nat.le_of_lt h)]
end Go.Wd
namespace Go.Sh
open Go.Wd Go.RowKit
theorem znL (x n:Nat) (hx:x < 4294967296) (hn:n<=32):x / 2 ^ n+x*2 ^ (32 - n) % 4294967296=(x <<< (32 - n)) % 4294967296 ||| (x >>> n):=by
 have e:(4294967296:Nat)=2 ^ n*2 ^ (32 - n):=by rw [<-Nat.pow_add];rw [show n+(32 - n)=32 by omega]
 have e2:x*2 ^ (32 - n) % 4294967296=(x % 2 ^ n)*2 ^ (32 - n):=by rw [e,Nat.mul_mod_mul_right]
 rw [Nat.shiftLeft_eq,e2,Nat.shiftRight_eq_div_pow,<-Nat.shiftLeft_eq,<-Nat.shiftLeft_add_eq_or_of_lt,Nat.add_comm]
 rw [Nat.div_lt_iff_lt_mul (Nat.two_pow_pos n),Nat.mul_comm,<-e];exact hx
theorem zn3 (x:UInt32) (n:Nat) (h0:0 < n) (h1:n < 32):n32 x / 2 ^ n+n32 x*2 ^ (32 - n) % 4294967296=n32 (rotr x n):=by
 have h:=znL x.toNat n x.toNat_lt (by omega)
 have r:(rotr x n).toNat=(x.toNat <<< (32 - n)) % 4294967296 ||| (x.toNat >>> n):=by
  unfold rotr
  rw [UInt32.toNat_or,UInt32.toNat_shiftLeft,UInt32.toNat_shiftRight,UInt32.toNat_ofNat',UInt32.toNat_ofNat',
   show (32 - n) % 2 ^ 32 % 32=32 - n from by omega,show n % 2 ^ 32 % 32=n from by omega]
 have c: ∀a b p q m s:Nat,a / p+b*q % m=s->(a:Int) / (p:Int)+(b:Int)*(q:Int) % (m:Int)=(s:Int):=λa b p q m s hs=>by
  rw [<-hs,Int.natCast_add,Int.natCast_ediv,Int.natCast_emod,Int.natCast_mul]
 have:=c _ _ _ _ _ _ h
 unfold n32;rw [r,<-this,Int.natCast_pow,Int.natCast_pow];rfl
theorem zov (n:Nat):(0:Int) < 2 ^ n:=Int.pow_pos (by decide)
theorem zl5 (x:UInt32) (n:Nat) (h0:0 < n) (h1:n < 32):IntKind.i64.wrap (n32 x*2 ^ (32 - n))=n32 x*2 ^ (32 - n)/\0<=n32 x*2 ^ (32 - n):=by
 have a0:=zI x
 have a1:=zao x
 have p:(2:Int) ^ (32 - n)<=2147483648:=by
  have:2 ^ (32 - n)<=2 ^ 31:=Nat.pow_le_pow_right (by decide) (by omega)
  have h2:=Int.ofNat_le.2 this
  rw [Int.natCast_pow,Int.natCast_pow] at h2
  exact Int.le_trans h2 (by decide)
 have p0:=zov (32 - n)
 have m0:0<=n32 x*2 ^ (32 - n):=Int.mul_nonneg a0 (by omega)
 have m1:n32 x*2 ^ (32 - n)<=4294967295*2147483648:=Int.mul_le_mul (by omega) p (by omega) (by omega)
 exact ⟨wrapi _ (by omega) (by omega),m0⟩
theorem zmn (x:UInt32) (n:Nat) (h0:0 < n) (h1:n < 32):IntKind.i64.wrap (n32 x / 2 ^ n+n32 x*2 ^ (32 - n) % 4294967296)=n32 (rotr x n):=by
 rw [zn3 x n h0 h1];have:=zao (rotr x n);have:=zI (rotr x n);exact wrapi _ (by omega) (by omega)
end Go.Sh
namespace Go.Proofs.YtcpjfilcilcekaaGreatDoor
open Go Go.Sy Go.Wd Go.Sh
attribute [local irreducible] Sy SyL SyX
set_option maxRecDepth 10000
theorem zbo (x:UInt32) (n:Nat) (w:World) (h0:0 < n) (h1:n < 32):Sy.Fn Tryz.prog 127 [.int .i64 (n32 x),.int .i64 n] w No (Gives (vi (rotr x n))):=by
 refine zk Tryz.func127 rfl Tryz.ntmps127 (by simp) Holds.nil ?_
 have e32:IntKind.i64.wrap (32 - (n:Int))=((32 - n:Nat):Int):=by rw [wrapi _ (by omega) (by omega)];omega
 obtain ⟨e1,e2⟩:=zl5 x n h0 h1
 repeat' (first|refine s_0 ?_|(refine za (id:=0) ?_;refine zd ?_)|(refine zK (id:=1) 8 [[],[],[0,1],[],[],[4],[3,4,5],[3,4,5,6],[0,1,2,3,4,5,6,7],[0,1,2,3,4,5,6,7,8]] mixed ?_ ?_;kernel_rfl;refine zp ?_;refine zp ?_;refine dc (λ_ _=>zat rfl rfl rfl (shri _ _ n (by omega))) (k:=?_);refine zp ?_;refine zp ?_;refine dc (λ_ _=>zJ rfl rfl rfl e32) (k:=?_);refine dc (λ_ _=>zec rfl rfl rfl ((shli _ _ (32 - n) (by omega)).trans (by rw [e1]))) (k:=?_);refine dc (λ_ _=>zau rfl rfl rfl (by decide) (Int.tmod_eq_emod_of_nonneg e2)) (k:=?_);refine zU ?_;refine yv (zL rfl rfl rfl (zmn x n h0 h1)) (k:=?_);refine zd ?_)|fail)
 exact ret1 rfl (resTmp rfl) SubR.nil ⟨rfl,rfl⟩
theorem zob (x y z:UInt32) (w:World):Sy.Fn Tryz.prog 128 [.int .i64 (n32 x),.int .i64 (n32 y),.int .i64 (n32 z)] w No (Gives (vi ((x &&& y) ^^^ (~~~x &&& z)))):=by
 refine zk Tryz.func128 rfl Tryz.ntmps128 (by simp) Holds.nil ?_
 repeat' (first|refine s_0 ?_|(refine za (id:=0) ?_;refine zd ?_)|(refine za (id:=1) ?_;refine zb ?_;refine zb ?_;refine yv (zdt rfl rfl rfl (andi _ _)) (k:=?_);refine zb ?_;refine yv (zJ rfl rfl rfl (noti _)) (k:=?_);refine zb ?_;refine yv (zdt rfl rfl rfl (andi _ _)) (k:=?_);refine yv (zbw rfl rfl rfl (xori _ _)) (k:=?_);refine zd ?_)|fail)
 exact ret1 rfl (resTmp rfl) SubR.nil ⟨rfl,rfl⟩
theorem zoZ (x y z:UInt32) (w:World):Sy.Fn Tryz.prog 129 [.int .i64 (n32 x),.int .i64 (n32 y),.int .i64 (n32 z)] w No (Gives (vi (((x &&& y) ^^^ (x &&& z)) ^^^ (y &&& z)))):=by
 refine zk Tryz.func129 rfl Tryz.ntmps129 (by simp) Holds.nil ?_
 repeat' (first|refine s_0 ?_|(refine za (id:=0) ?_;refine zd ?_)|(refine za (id:=1) ?_;refine zb ?_;refine zb ?_;refine yv (zdt rfl rfl rfl (andi _ _)) (k:=?_);refine zb ?_;refine zb ?_;refine yv (zdt rfl rfl rfl (andi _ _)) (k:=?_);refine yv (zbw rfl rfl rfl (xori _ _)) (k:=?_);refine zb ?_;refine zb ?_;refine yv (zdt rfl rfl rfl (andi _ _)) (k:=?_);refine yv (zbw rfl rfl rfl (xori _ _)) (k:=?_);refine zd ?_)|fail)
 exact ret1 rfl (resTmp rfl) SubR.nil ⟨rfl,rfl⟩
end Go.Proofs.YtcpjfilcilcekaaGreatDoor
end
