/- The library's bytes.Join of two parts or more, and the challenge of a signature. -/
import Derived.Test.YtdnlngbjpdbffaaGreatDoorLJ22
set_option maxHeartbeats 1000000
set_option maxRecDepth 10000
set_option linter.all false
section
namespace Go.Proofs.YtdnlngbjpdbffaaGreatDoor
open Go Go.Sy Go.Nt Go.RowKit
theorem zkn (n:Nat) (hn:n<=1000000000000) (w:World): ∃cs:Array Value,(callFunc 249 [Value.int .i64 n].toArray).run Tryz.prog w= .ok (.value (.slice (some ⟨w.heap.size,0,none⟩) n cs.size)) (w.drew.drew.alloc (.cells cs 5))/\n<=cs.size/\cs.size<=maxLen:=by
 obtain ⟨cs,h1,h2,h3⟩:=Lib.run_makeNoZero (P:=Tryz.prog) w #[3] 23 5 (by kernel_rfl) n q_o;refine ⟨cs,?_,h2,h3 (by unfold maxLen;omega)⟩;show (callFunc 249 #[.int .i64 n]).run Tryz.prog w=_;rw [run_callFunc_extern Tryz.func249 (by kernel_rfl) (by kernel_rfl) (by kernel_rfl) (e:=Extern.BytealgMakeNoZero.makeNoZero #[3] #[23]) (by kernel_rfl),h1];rfl
attribute [local irreducible] Sy SyL SyX Sy.Fn callFunc natC rowN refC iC gP gQ gL memB safeC fixB gnum gel gsca chal
theorem zjx {P l:List UInt8}{cs:List Value}{k:Nat}(hk:P.length=k) (h:k+l.length<=cs.length):
  setSeg (P.map v8 ++ cs.drop k) k (l.map v8)=(P ++ l).map v8 ++ cs.drop (k+l.length):=by
 subst hk;unfold setSeg;rw [List.take_left' (List.length_map _),List.length_map,List.map_append,<-List.drop_drop,List.drop_left' (List.length_map _),List.drop_drop]
theorem zjt {a:Option Addr}{l s:Nat} :movA a l l s=a:=if_pos rfl
def HeadOf (l:List UInt8) (v:Value) (R:List Res):Prop:=∃b J,v= .slice (some ⟨b,0,none⟩) l.length l.length/\R= [.blk b 5 (l.map v8 ++ J)]
theorem zqN (a:Option Addr) (m d:Nat) (xs:List Bs) (w:World) (hm:xs.length=m) (h2:2<=m) (hmb:m < 1000) (hmd:m<=d) (hsx:SlA w a (xs.map Bs.val)) (hok: ∀s∈xs,s.ok w) (hb:(Bs.cat xs).length < 1000000000):
  Sy.Fn Tryz.prog 186 [.slice a m d,.slice none 0 0] w No (HeadOf (Bs.cat xs)):=by
 refine zg Tryz.func186 rfl Tryz.ntmps186 q_p Holds.nil ?_;have hm0:decide ((m:Int)=0)=false:=q_f;have hm1:decide ((m:Int)=1)=false:=q_f;have hle: ∀i,(Bs.cat (xs.take i)).length<=(Bs.cat xs).length:=λi=>by
  have:Bs.cat xs=Bs.cat (xs.take i) ++ Bs.cat (xs.drop i):=by unfold Bs.cat;rw [<-List.flatMap_append,List.take_append_drop]
  rw [this,List.length_append];omega
 have hsuc:=λi (h:i < m)=>Bs.cat_succ xs i q_o;obtain ⟨bl,ol,rfl,hcell⟩:=Bs.get hsx (i:=0) q_o;have hci:=λj (h:j < m)=>hcell j q_o;have hoki:=λj (h:j < m)=>hok xs[j] (List.getElem_mem q_o);repeat' (first|refine s_t ?_|(refine zB [0,5,10] ?_;refine za ?_)|(refine zb 1 (za ?_);refine yv (zX (hr:=hm0)) (k:=?_))|(refine zb 3 (za ?_);refine yv (zX (hr:=hm1)) (k:=?_))|(refine zb 6 (za ?_);refine zak ?_))
 refine zy (γ:=Nat) (λi=>[(0,.slice (some ⟨bl,ol,none⟩) m d),(1,.slice none 0 0),(42,.slice (some ⟨bl,ol,none⟩) m d),(43,.int .i64 m),(44,.int .i64 i),(5,.int .i64 ((Bs.cat (xs.take i)).length:Nat))]) (λ_=>[]) (λi=>i<=m) (λi=>m - i) 0 (Nat.zero_le _) ?_ ?_ ?_
 ·exact q_h
 ·exact q_h
 intro i hi;by_cases hlt:i < m
 ·have hc:=hci i hlt;have ho:=hoki i hlt;have hs:=hsuc i hlt;have hl1:=hle (i+1);rw [hs,List.length_append] at hl1;have hlen:xs[i].l.length=xs[i].n:=ho.len;rw [hlen] at hl1;have hT:((Bs.cat (xs.take (i+1))).length:Int)=((Bs.cat (xs.take i)).length:Int)+(xs[i].n:Int):=by rw [hs,List.length_append,hlen,Int.natCast_add]
  obtain ⟨T',hT'⟩: ∃t,t=(Bs.cat (xs.take (i+1))).length:=⟨_,rfl⟩;rw [<-hT'] at hT;generalize (Bs.cat (xs.take i)).length=T at *;generalize (Bs.cat xs).length=tot at *;generalize xs[i]=s at *;obtain ⟨sa,sn,sc,sl⟩:=s;dsimp only at *;have g1:decide ((i:Int) < (m:Int))=true:=q_d;have g2:IntKind.i64.wrap (9223372036854775807 - (T:Int))=9223372036854775807 - (T:Int):=IntWalk.i64_in _ q_o;have g3:decide (9223372036854775807 - (T:Int) < (sn:Int))=false:=q_f;have g4:IntKind.i64.wrap ((T:Int)+(sn:Int))=((T':Nat):Int):=q_w;have g5:IntKind.i64.wrap ((i:Int)+1)=((i+1:Nat):Int):=q_w;repeat' (first|refine s_t ?_|(refine zb 11 ?_;refine yv (zn (hr:=g1)) (k:=?_))|(refine zb 12 ?_;refine yv (zG (j:=i)) (k:=?_);refine yv (zl (hv:=hc)) (k:=za ?_))|(refine zb 13 (za ?_);refine yv (zD (hr:=g2)) (k:=?_);refine yv (zU (hr:=g3)) (k:=?_))|(refine zb 15 (za ?_);refine yv (zu (hr:=g4)) (k:=za ?_))|(refine zb 16 ?_;refine yv (zu (hr:=g5)) (k:=za ?_)))
  refine zq (i+1) hlt ?_ ?_ ?_
  ·show m - (i+1) < m - i;omega
  ·rw [<-hT'];exact q_h
  ·exact q_h
 obtain rfl:i=m:=q_o;have hcat:Bs.cat xs=Bs.cat (xs.take i):=by rw [List.take_of_length_le q_o]
 rw [<-hcat];have g1:decide ((i:Int) < (i:Int))=false:=q_f;have hN:(Bs.cat xs).length<=1000000000000:=q_o;have hcall:=λw=>zkn (Bs.cat xs).length hN w;have hc0:=hci 0 q_o;have ho0:=hoki 0 q_o;have h0c:Bs.cat (xs.take 1)=xs[0].l:=by
  have:=hsuc 0 q_o;rw [this,List.take_zero];rfl
 have hle1:=hle 1;rw [h0c,ho0.len] at hle1;have hl0:=ho0.len;obtain ⟨tot,htot⟩: ∃t,t=(Bs.cat xs).length:=⟨_,rfl⟩;have hsl0:=ho0.sla;rw [Nat.add_zero] at hc0;repeat' (first|refine s_0 ?_|(refine zb 11 ?_;refine yv (zn (hr:=g1)) (k:=?_))|(refine zb 17 (za ?_);(refine ys (znV (n:=(Bs.cat xs).length) (hr:=hcall)) (k:=?_);rintro _ _ ⟨b,cs,rfl,hcs1,hcs2,rfl⟩);refine za ?_;refine zbv ?_;refine za ?_))
 rw [<-htot] at hcs1 hle1 ⊢;have g2:IntKind.i64.wrap ((i:Int) - 1)=((i - 1:Nat):Int):=q_w;have hset0:=zjx (P:=[]) (l:=xs[0].l) (cs:=cs) (k:=0) rfl q_o;rw [List.map_nil,List.nil_append,List.nil_append,List.drop_zero,hl0,Nat.zero_add] at hset0;obtain ⟨s,hs⟩: ∃s,s=xs[0]:=⟨_,rfl⟩;rw [<-hs] at hc0 hl0 hsl0 hset0 hle1 h0c;obtain ⟨sa,sn,sc,sl⟩:=s;dsimp only at hc0 hl0 hsl0 hset0 hle1 h0c;clear hs ho0;have hmv:movA (some ⟨bl,ol,none⟩) 1 d 1=some ⟨bl,ol+1,none⟩:=ze2 q_o;repeat' (first|refine s_t ?_|(refine zb 18 (za ?_);refine zw ?_;refine yv (zl (hv:=hc0)) (k:=?_);refine yv (zc3 (B:=sl.map v8) (k:=sn) (hr:=Rd.old hsl0 (λ_ _ h=>h)) (hk:=by rw [List.length_map,hl0]) (hset:=hset0)) (k:=za ?_))|(refine zb 19 (za ?_);refine yv (za0 (ha:=hmv)) (k:=za ?_)))
 have hset1:setSeg ((sl.map v8) ++ cs.drop sn) 0 []=sl.map v8 ++ cs.drop sn:=by simp [setSeg]
 refine zy (γ:=Nat) (λj=>[(1,.slice none 0 0),(8,.slice (some ⟨b,0,none⟩) tot tot),(70,.slice (some ⟨bl,ol+1,none⟩) (i - 1) (d - 1)),(71,.int .i64 ((i - 1:Nat):Int)),(72,.int .i64 j),(9,.int .i64 ((Bs.cat (xs.take (j+1))).length:Nat))])
  (λj=>[.blk b 5 ((Bs.cat (xs.take (j+1))).map v8 ++ cs.drop (Bs.cat (xs.take (j+1))).length)]) (λj=>j<=i - 1) (λj=>i - 1 - j) 0 (Nat.zero_le _) ?_ ?_ ?_
 ·rw [h0c,hl0];exact q_h
 ·rw [h0c,hl0];exact q_h
 intro j hj;by_cases hlt:j < i - 1
 ·have hc:=hci (j+1) q_o;rw [show ol+(j+1)=ol+1+j by omega] at hc;have ho:=hoki (j+1) q_o;have hs:=hsuc (j+1) q_o;have hl1:=hle (j+1+1);rw [hs,List.length_append,<-htot] at hl1;have hlen:xs[j+1].l.length=xs[j+1].n:=ho.len;rw [hlen] at hl1;have hsl:=ho.sla;have hT:((Bs.cat (xs.take (j+1+1))).length:Int)=((Bs.cat (xs.take (j+1))).length:Int)+(xs[j+1].n:Int):=by rw [hs,List.length_append,hlen,Int.natCast_add]
  have hset:=zjx (P:=Bs.cat (xs.take (j+1))) (l:=xs[j+1].l) (cs:=cs) (k:=(Bs.cat (xs.take (j+1))).length) rfl q_o;rw [<-hs,hlen] at hset;have hT2:(Bs.cat (xs.take (j+1))).length+xs[j+1].n=(Bs.cat (xs.take (j+1+1))).length:=by rw [hs,List.length_append,hlen]
  rw [hT2] at hset;have hCl:((Bs.cat (xs.take (j+1))).map v8 ++ cs.drop (Bs.cat (xs.take (j+1))).length).length=cs.length:=by rw [List.length_append,List.length_map,List.length_drop];omega
  have hz:setSeg ((Bs.cat (xs.take (j+1))).map v8 ++ cs.drop (Bs.cat (xs.take (j+1))).length) 0 []=(Bs.cat (xs.take (j+1))).map v8 ++ cs.drop (Bs.cat (xs.take (j+1))).length:=by simp [setSeg]
  have hz': ∀k,setSeg ((Bs.cat (xs.take (j+1))).map v8 ++ cs.drop (Bs.cat (xs.take (j+1))).length) k []=(Bs.cat (xs.take (j+1))).map v8 ++ cs.drop (Bs.cat (xs.take (j+1))).length:=λk=>by simp [setSeg]
  have hsame:xs[j+1].n=0->(Bs.cat (xs.take (j+1+1))).map v8 ++ cs.drop (Bs.cat (xs.take (j+1+1))).length=(Bs.cat (xs.take (j+1))).map v8 ++ cs.drop (Bs.cat (xs.take (j+1))).length:=by
   intro h;have e:xs[j+1].l= []:=List.eq_nil_of_length_eq_zero q_o;rw [hs,e,List.append_nil]
  obtain ⟨C',hC'⟩: ∃c,c=(Bs.cat (xs.take (j+1+1))).map v8 ++ cs.drop (Bs.cat (xs.take (j+1+1))).length:=⟨_,rfl⟩;rw [<-hC'] at hset hsame;generalize (Bs.cat (xs.take (j+1))).map v8 ++ cs.drop (Bs.cat (xs.take (j+1))).length=C at *;obtain ⟨T',hT'⟩: ∃t,t=(Bs.cat (xs.take (j+1+1))).length:=⟨_,rfl⟩;rw [<-hT'] at hT;generalize (Bs.cat (xs.take (j+1))).length=T at *;generalize xs[j+1]=s at *;obtain ⟨sa,sn',sc,sl'⟩:=s;dsimp only at *;have g1:decide ((j:Int) < ((i - 1:Nat):Int))=true:=q_d;have g3:IntKind.i64.wrap ((T:Int)+0)=(T:Int):=q_w;have g4:IntKind.i64.wrap ((T:Int)+(sn':Int))=((T':Nat):Int):=q_w;have g5:IntKind.i64.wrap ((j:Int)+1)=((j+1:Nat):Int):=q_w;by_cases hfull:T < tot
  ·repeat' (first|refine s_t ?_|(refine zb 20 ?_;refine yv (zn (hr:=g1)) (k:=?_))|(refine zb 21 ?_;refine yv (zG (j:=j)) (k:=?_);refine yv (zl (hv:=hc)) (k:=za ?_))|(refine zb 22 (za ?_);refine zbv ?_;refine za ?_;refine yv (zc3 (B:=[]) (k:=0) (hr:=Rd.nil) (hk:=rfl) (hone:=rfl) (hset:=hz' T) (hn:=(Nat.zero_min _).symm)) (k:=?_);refine yv (zu (hr:=g3)) (k:=za ?_))|(refine zb 23 (za ?_);refine zbv ?_;refine za ?_;refine yv (zc3 (B:=sl'.map v8) (k:=sn') (hr:=Rd.old hsl (λ_ _ h=>h)) (hk:=by rw [List.length_map,hlen]) (hset:=hset)) (k:=?_);refine yv (zu (hr:=g4)) (k:=za ?_))|(refine zb 24 ?_;refine yv (zu (hr:=g5)) (k:=za ?_)))
   refine zq (j+1) ?_ ?_ ?_ ?_
   ·show j+1<=i - 1;omega
   ·show i - 1 - (j+1) < i - 1 - j;omega
   ·rw [<-hT'];exact q_h
   ·rw [<-hC'];exact q_h
  ·have hn0:sn'=0:=q_o;have hTT:T=tot:=q_o;have hC:=hsame hn0;subst hn0;subst hTT;repeat' (first|refine s_t ?_|(refine zb 20 ?_;refine yv (zn (hr:=g1)) (k:=?_))|(refine zb 21 ?_;refine yv (zG (j:=j)) (k:=?_);refine yv (zl (hv:=hc)) (k:=za ?_))|(refine zb 22 (za ?_);refine yv (za0 (ha:=zjt)) (k:=za ?_);refine yv (zc3 (B:=[]) (k:=0) (hr:=Rd.nil) (hk:=rfl) (hone:=rfl) (hset:=hz' 0) (hn:=by simp)) (k:=?_);refine yv (zu (hr:=g3)) (k:=za ?_))|(refine zb 23 (za ?_);refine yv (za0 (ha:=zjt)) (k:=za ?_);refine yv (zc3 (B:=[]) (k:=0) (hr:=Rd.nil) (hk:=rfl) (hone:=rfl) (hset:=hz' 0) (hn:=by simp)) (k:=?_);refine yv (zu (hr:=g3)) (k:=za ?_))|(refine zb 24 ?_;refine yv (zu (hr:=g5)) (k:=za ?_)))
   refine zq (j+1) ?_ ?_ ?_ ?_
   ·show j+1<=i - 1;omega
   ·show i - 1 - (j+1) < i - 1 - j;omega
   ·rw [<-hT',show T'=T by omega];exact q_h
   ·rw [<-hC',hC];exact q_h
 obtain rfl:j=i - 1:=q_o;have g3:decide (((i - 1:Nat):Int) < ((i - 1:Nat):Int))=false:=q_f;rw [show i - 1+1=i by omega,<-hcat,<-htot];repeat' (first|refine s_0 ?_|(refine zb 20 ?_;refine yv (zn (hr:=g3)) (k:=?_))|(refine zb 25 (za ?_)))
 exact ret1 rfl (resTmp rfl) q_h ⟨b,_,by rw [<-htot],rfl⟩
theorem zk0 (i:Nat) (h:i<=4):IntKind.u8.wrap (i:Int)=Wd.n8 (UInt8.ofNat i):=by
 rw [IntWalk.u8_in _ q_o];rcases (show i=0\/i=1\/i=2\/i=3\/i=4 by omega) with rfl|rfl|rfl|rfl|rfl <;> rfl
end Go.Proofs.YtdnlngbjpdbffaaGreatDoor
end
