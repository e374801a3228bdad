/- Certificates, walked: lists of structs in memory, what is picked from them, checks in order. -/
import Derived.Test.YtdnlngbjpdbffaaGreatDoorLJ36
import Derived.Test.YtdnlngbjpdbffaaGreatDoorLJ37
import Derived.Test.YtdnlngbjpdbffaaGreatDoorLJ38
import Derived.Test.YtdnlngbjpdbffaaGreatDoorLJ31
set_option maxHeartbeats 1000000
set_option maxRecDepth 10000
set_option linter.all false
section
namespace Go.Ct
open Go Go.Sy
theorem zje {w:World}{a:Option Addr}{k:Nat}{Cs:List (List Value)}(h:SlA w a Cs.flatten) (hk: ∀C∈Cs,C.length=k) (h0:0 < k) {i:Nat}(hi:i < Cs.length): ∃b o,a=some ⟨b,o,none⟩/\ ∀(j:Nat) (hj:j < Cs.length),w.rangeAt b (o+j*k) Cs[j]:=by
 rcases h with h|⟨b,o,rfl,hr⟩
 ·have h1:=hk Cs[i] (List.getElem_mem hi);have h2:Cs[i]= []:=List.flatten_eq_nil_iff.1 h _ (List.getElem_mem hi);rw [h2] at h1;simp at h1;omega
 ·refine ⟨b,o,rfl,λj hj t v hv=>?_⟩;have ht:t < k:=by have:=(List.getElem?_eq_some_iff.1 hv).1;rw [hk Cs[j] (List.getElem_mem hj)] at this;exact this
  have hg:=zdQ (f:=λ(z:List Value)=>z) (k:=k) Cs hk j t ht;rw [List.flatMap_id',List.getElem?_eq_getElem hj] at hg;have:=hr (j*k+t) v (by rw [hg];exact hv);rw [Nat.add_assoc];exact this
def FiltR {α:Type}(E k:Nat) (zs:List (List Value×α)) (v:Value) (R:List Res):Prop:=∃a c,v= .slice a zs.length c/\R= [.row (.slice a zs.length c) E k zs.length (zs.map (·.1)).flatten]
def exam (es:List Int):Int:=(es.find? λe=>!decide (e=0)).getD 0
end Go.Ct
namespace Go.Proofs.YtdnlngbjpdbffaaGreatDoor
open Go Go.Sy Go.Ct Go.Nt Go.RowKit
attribute [local irreducible] Sy SyL SyX SyC SyF Sy.Fn callFunc
theorem zpz (a:Option Addr) (n c f:Nat) (cap:List Value) (xs:List Anch) (Cs:List (List Value)) (q:Anch->Bool) (w:World) (hen: ∀args w,(callFunc f args).run Tryz.prog w= .ok (.enter f args) w) (hn:xs.length=n) (hC:Cs.length=n) (hk: ∀C∈Cs,C.length=4/\C.all (·.oneCell')=true) (hs:SlA w a Cs.flatten) (hb:n < 1000)
  (hf: ∀(i:Nat) (C:List Value) (x:Anch),Cs[i]?=some C->xs[i]?=some x-> ∀w',Keep No w w'->Sy.Fn Tryz.prog f (.agg C.toArray::cap) w' No (Gives (.bool (q x)))):
  Sy.Fn Tryz.prog 141 [.slice a n c,.func (.func f) #[] cap.toArray] w No (FiltR 65 4 ((List.zip Cs xs).filter (λp=>q p.2))):=by
 refine zg Tryz.func141 rfl Tryz.ntmps141 q_p Holds.nil ?_;unfold FiltR;repeat' (first|refine s_t ?_|(refine zB [0,1,2] ?_;refine za ?_))
 refine zaR (zaE 65 4) ?_;refine zy (γ:=Nat×Option Addr×Nat) (λg=>[(1,.func (.func f) #[] cap.toArray),(8,.slice a n c),(9,.int .i64 (n:Int)),(10,.int .i64 (g.1:Int)),(5,.slice g.2.1 (((List.zip Cs xs).take g.1).filter (λp=>q p.2)).length g.2.2)])
  (λg=>[.row (.slice g.2.1 (((List.zip Cs xs).take g.1).filter (λp=>q p.2)).length g.2.2) 65 4 (((List.zip Cs xs).take g.1).filter (λp=>q p.2)).length ((((List.zip Cs xs).take g.1).filter (λp=>q p.2)).map (·.1)).flatten]) (λg=>g.1<=n) (λg=>n - g.1) (0,none,0) (Nat.zero_le _) ?_ ?_ ?_
 ·exact q_h
 ·exact q_h
 rintro ⟨i,aO,cO⟩ hi;dsimp only at hi ⊢;have hzl:(List.zip Cs xs).length=n:=by simp [hn,hC]
 by_cases hlt:i < n
 ·obtain ⟨bl,ol,rfl,hcell⟩:=zje (k:=4) hs (λC h=>(hk C h).1) q_e (i:=i) q_o;have hc:=hcell i q_o;have hkk:=hk Cs[i] (List.getElem_mem q_o);have hq:=hf i Cs[i] xs[i] (List.getElem?_eq_getElem q_o) (List.getElem?_eq_getElem q_o);have htk:(List.zip Cs xs).take (i+1)=(List.zip Cs xs).take i ++ [(Cs[i],xs[i])]:=by rw [zac q_o,List.getElem_zip]
  generalize Cs[i]=C at *;generalize xs[i]=x at *;have hC4:=hkk.1;have hC1:=hkk.2;have g1:decide ((i:Int) < (n:Int))=true:=q_d;have g5:IntKind.i64.wrap ((i:Int)+1)=((i+1:Nat):Int):=q_w;have hfl:((((List.zip Cs xs).take i).filter (λp=>q p.2))).length<=n:=by
   refine Nat.le_trans (List.length_filter_le _ _) ?_;rw [List.length_take];omega
  have hno:q x=false->((List.zip Cs xs).take (i+1)).filter (λp=>q p.2)=((List.zip Cs xs).take i).filter (λp=>q p.2):=λh=>by rw [htk,List.filter_append];simp [h]
  have hyes:q x=true->((List.zip Cs xs).take (i+1)).filter (λp=>q p.2)=((List.zip Cs xs).take i).filter (λp=>q p.2) ++ [(C,x)]:=λh=>by rw [htk,List.filter_append];simp [h]
  obtain ⟨zs',hzs'⟩: ∃z,z=((List.zip Cs xs).take (i+1)).filter (λp=>q p.2):=⟨_,rfl⟩;rw [<-hzs'] at hno hyes;generalize ((List.zip Cs xs).take i).filter (λp=>q p.2)=zs at *;cases hqx:q x
  ·have hz:=hno hqx;rw [hqx] at hq;repeat' (first|refine s_t ?_|(refine zb 3 ?_;refine yv (zn (hr:=g1)) (k:=?_))|(refine zb 4 ?_;refine yv (zA (j:=i)) (k:=?_);refine yv (zz (hv:=hc) (hz:=hC4.symm)) (k:=?_);refine zj ?_;intro _;refine yn (zE (B:=C) (hv:=hC1) (h1:=hC4.symm) (hC:=by exact hC4.symm)) (k:=?_))|(refine zb 5 (za ?_);refine yv (zf (B:=C) (hz:=hC4.symm)) (k:=?_);(refine yv (zd (f:=f) (cap:=cap) (vs:=[.agg C.toArray]) (he:=hen) (hc:=zr hq)) (k:=?_)))|(refine zb 7 ?_;refine yv (zu (hr:=g5)) (k:=za ?_)))
   refine zq (i+1,aO,cO) hlt ?_ ?_ ?_
   ·show n - (i+1) < n - i;omega
   ·dsimp only;rw [<-hzs',hz];exact q_h
   ·dsimp only;rw [<-hzs',hz];exact q_h
  ·have hz:=hyes hqx;rw [hqx] at hq;have e1:(zs.map (·.1)).flatten ++ C=(zs'.map (·.1)).flatten:=by rw [hz,List.map_append,List.flatten_append];simp
   have e2:zs.length+1=zs'.length:=by rw [hz];simp
   repeat' (first|refine s_t ?_|(refine zb 3 ?_;refine yv (zn (hr:=g1)) (k:=?_))|(refine zb 4 ?_;refine yv (zA (j:=i)) (k:=?_);refine yv (zz (hv:=hc) (hz:=hC4.symm)) (k:=?_);refine zj ?_;intro _;refine yn (zE (B:=C) (hv:=hC1) (h1:=hC4.symm) (hC:=by exact hC4.symm)) (k:=?_))|(refine zb 5 (za ?_);refine yv (zf (B:=C) (hz:=hC4.symm)) (k:=?_);(refine yv (zd (f:=f) (cap:=cap) (vs:=[.agg C.toArray]) (he:=hen) (hc:=zr hq)) (k:=?_)))|(refine zb 6 (za ?_);refine yv (zf (B:=C) (hz:=hC4.symm)) (k:=?_);(refine ys (zby (vs:=[.agg C.toArray]) (zdS hC4 rfl)) (k:=?_);rintro _ _ ⟨bL,rfl,rfl⟩);(refine ys (z9 (size:=4) (news:=C) (m:=1) (hn:=hC4) (h1:=hC1) (hys:=e1) (hkm:=e2)) (k:=?_);rintro _ _ ⟨rfl,aN,cN,rfl⟩);refine za ?_)|(refine zb 7 ?_;refine yv (zu (hr:=g5)) (k:=za ?_)))
   refine zq (i+1,aN,cN) hlt ?_ ?_ ?_
   ·show n - (i+1) < n - i;omega
   ·dsimp only;rw [<-hzs'];exact q_h
   ·dsimp only;rw [<-hzs'];exact q_h
 obtain rfl:i=n:=q_o;rw [List.take_of_length_le q_o];have g1:decide ((i:Int) < (i:Int))=false:=q_f;repeat' (first|refine s_0 ?_|(refine zb 3 ?_;refine yv (zn (hr:=g1)) (k:=?_))|(refine zb 8 (za ?_)))
 exact q_r
theorem zoD (a:Option Addr) (n c f:Nat) (cap:List Value) (xs:List Revo) (Cs:List (List Value)) (q:Revo->Bool) (w:World) (hen: ∀args w,(callFunc f args).run Tryz.prog w= .ok (.enter f args) w) (hn:xs.length=n) (hC:Cs.length=n) (hk: ∀C∈Cs,C.length=3/\C.all (·.oneCell')=true) (hs:SlA w a Cs.flatten) (hb:n < 1000)
  (hf: ∀(i:Nat) (C:List Value) (x:Revo),Cs[i]?=some C->xs[i]?=some x-> ∀w',Keep No w w'->Sy.Fn Tryz.prog f (.agg C.toArray::cap) w' No (Gives (.bool (q x)))):
  Sy.Fn Tryz.prog 143 [.slice a n c,.func (.func f) #[] cap.toArray] w No (FiltR 67 3 ((List.zip Cs xs).filter (λp=>q p.2))):=by
 refine zg Tryz.func143 rfl Tryz.ntmps143 q_p Holds.nil ?_;unfold FiltR;repeat' (first|refine s_t ?_|(refine zB [0,1,2] ?_;refine za ?_))
 refine zaR (zaE 67 3) ?_;refine zy (γ:=Nat×Option Addr×Nat) (λg=>[(1,.func (.func f) #[] cap.toArray),(8,.slice a n c),(9,.int .i64 (n:Int)),(10,.int .i64 (g.1:Int)),(5,.slice g.2.1 (((List.zip Cs xs).take g.1).filter (λp=>q p.2)).length g.2.2)])
  (λg=>[.row (.slice g.2.1 (((List.zip Cs xs).take g.1).filter (λp=>q p.2)).length g.2.2) 67 3 (((List.zip Cs xs).take g.1).filter (λp=>q p.2)).length ((((List.zip Cs xs).take g.1).filter (λp=>q p.2)).map (·.1)).flatten]) (λg=>g.1<=n) (λg=>n - g.1) (0,none,0) (Nat.zero_le _) ?_ ?_ ?_
 ·exact q_h
 ·exact q_h
 rintro ⟨i,aO,cO⟩ hi;dsimp only at hi ⊢;have hzl:(List.zip Cs xs).length=n:=by simp [hn,hC]
 by_cases hlt:i < n
 ·obtain ⟨bl,ol,rfl,hcell⟩:=zje (k:=3) hs (λC h=>(hk C h).1) q_e (i:=i) q_o;have hc:=hcell i q_o;have hkk:=hk Cs[i] (List.getElem_mem q_o);have hq:=hf i Cs[i] xs[i] (List.getElem?_eq_getElem q_o) (List.getElem?_eq_getElem q_o);have htk:(List.zip Cs xs).take (i+1)=(List.zip Cs xs).take i ++ [(Cs[i],xs[i])]:=by rw [zac q_o,List.getElem_zip]
  generalize Cs[i]=C at *;generalize xs[i]=x at *;have hC4:=hkk.1;have hC1:=hkk.2;have g1:decide ((i:Int) < (n:Int))=true:=q_d;have g5:IntKind.i64.wrap ((i:Int)+1)=((i+1:Nat):Int):=q_w;have hfl:((((List.zip Cs xs).take i).filter (λp=>q p.2))).length<=n:=by
   refine Nat.le_trans (List.length_filter_le _ _) ?_;rw [List.length_take];omega
  have hno:q x=false->((List.zip Cs xs).take (i+1)).filter (λp=>q p.2)=((List.zip Cs xs).take i).filter (λp=>q p.2):=λh=>by rw [htk,List.filter_append];simp [h]
  have hyes:q x=true->((List.zip Cs xs).take (i+1)).filter (λp=>q p.2)=((List.zip Cs xs).take i).filter (λp=>q p.2) ++ [(C,x)]:=λh=>by rw [htk,List.filter_append];simp [h]
  obtain ⟨zs',hzs'⟩: ∃z,z=((List.zip Cs xs).take (i+1)).filter (λp=>q p.2):=⟨_,rfl⟩;rw [<-hzs'] at hno hyes;generalize ((List.zip Cs xs).take i).filter (λp=>q p.2)=zs at *;cases hqx:q x
  ·have hz:=hno hqx;rw [hqx] at hq;repeat' (first|refine s_t ?_|(refine zb 3 ?_;refine yv (zn (hr:=g1)) (k:=?_))|(refine zb 4 ?_;refine yv (zA (j:=i)) (k:=?_);refine yv (zz (hv:=hc) (hz:=hC4.symm)) (k:=?_);refine zj ?_;intro _;refine yn (zE (B:=C) (hv:=hC1) (h1:=hC4.symm) (hC:=by exact hC4.symm)) (k:=?_))|(refine zb 5 (za ?_);refine yv (zf (B:=C) (hz:=hC4.symm)) (k:=?_);(refine yv (zd (f:=f) (cap:=cap) (vs:=[.agg C.toArray]) (he:=hen) (hc:=zr hq)) (k:=?_)))|(refine zb 7 ?_;refine yv (zu (hr:=g5)) (k:=za ?_)))
   refine zq (i+1,aO,cO) hlt ?_ ?_ ?_
   ·show n - (i+1) < n - i;omega
   ·dsimp only;rw [<-hzs',hz];exact q_h
   ·dsimp only;rw [<-hzs',hz];exact q_h
  ·have hz:=hyes hqx;rw [hqx] at hq;have e1:(zs.map (·.1)).flatten ++ C=(zs'.map (·.1)).flatten:=by rw [hz,List.map_append,List.flatten_append];simp
   have e2:zs.length+1=zs'.length:=by rw [hz];simp
   repeat' (first|refine s_t ?_|(refine zb 3 ?_;refine yv (zn (hr:=g1)) (k:=?_))|(refine zb 4 ?_;refine yv (zA (j:=i)) (k:=?_);refine yv (zz (hv:=hc) (hz:=hC4.symm)) (k:=?_);refine zj ?_;intro _;refine yn (zE (B:=C) (hv:=hC1) (h1:=hC4.symm) (hC:=by exact hC4.symm)) (k:=?_))|(refine zb 5 (za ?_);refine yv (zf (B:=C) (hz:=hC4.symm)) (k:=?_);(refine yv (zd (f:=f) (cap:=cap) (vs:=[.agg C.toArray]) (he:=hen) (hc:=zr hq)) (k:=?_)))|(refine zb 6 (za ?_);refine yv (zf (B:=C) (hz:=hC4.symm)) (k:=?_);(refine ys (zby (vs:=[.agg C.toArray]) (zdS hC4 rfl)) (k:=?_);rintro _ _ ⟨bL,rfl,rfl⟩);(refine ys (z9 (size:=3) (news:=C) (m:=1) (hn:=hC4) (h1:=hC1) (hys:=e1) (hkm:=e2)) (k:=?_);rintro _ _ ⟨rfl,aN,cN,rfl⟩);refine za ?_)|(refine zb 7 ?_;refine yv (zu (hr:=g5)) (k:=za ?_)))
   refine zq (i+1,aN,cN) hlt ?_ ?_ ?_
   ·show n - (i+1) < n - i;omega
   ·dsimp only;rw [<-hzs'];exact q_h
   ·dsimp only;rw [<-hzs'];exact q_h
 obtain rfl:i=n:=q_o;rw [List.take_of_length_le q_o];have g1:decide ((i:Int) < (i:Int))=false:=q_f;repeat' (first|refine s_0 ?_|(refine zb 3 ?_;refine yv (zn (hr:=g1)) (k:=?_))|(refine zb 8 (za ?_)))
 exact q_r
theorem zp4 (b n c:Nat) (fs:List Value) (es:List Int) (w:World) (hn:fs.length=n) (hb:es.length=n) (hn2:n<=1000) (hs:w.rangeAt b 0 fs)
  (hf: ∀(k:Nat) (e:Int),es[k]?=some e->(∀e'∈es.take k,e'=0)-> ∃(f:Nat) (cap:List Value),fs[k]?=some (.func (.func f) #[] cap.toArray)/\(∀args w,(callFunc f args).run Tryz.prog w= .ok (.enter f args) w)/\ ∀w',Keep No w w'->Sy.Fn Tryz.prog f cap w' No (Gives (.int .i64 e))):
  Sy.Fn Tryz.prog 60 [.slice (some ⟨b,0,none⟩) n c] w No (Gives (.int .i64 (exam es))):=by
 refine zg Tryz.func60 rfl Tryz.ntmps60 q_p Holds.nil ?_;repeat' (first|refine s_t ?_|(refine zB [0,1] ?_;refine za ?_))
 refine zy (γ:=Nat) (λk=>[(6,.slice (some ⟨b,0,none⟩) n c),(7,.int .i64 n),(8,.int .i64 k)]) (λ_=>[]) (λk=>k<=n/\ ∀e∈es.take k,e=0) (λk=>n - k) 0 ⟨Nat.zero_le _,λe h=>by cases h⟩ ?_ ?_ ?_
 ·exact q_h
 ·exact q_h
 rintro k ⟨hk,hall⟩;rcases Nat.lt_or_ge k n with h|h
 ·obtain ⟨v,hv⟩: ∃v,es[k]?=some v:=⟨_,List.getElem?_eq_getElem q_o⟩;obtain ⟨f,cap,h1,hen,hc⟩:=hf k v hv hall;have hcell:w.cell? ⟨b,0+k,none⟩=some (.func (.func f) #[] cap.toArray):=hs k _ h1;have hlt:decide ((k:Int) < (n:Int))=true:=q_d;have hadd:IntKind.i64.wrap ((k:Int)+1)=((k+1:Nat):Int):=q_w;have htk:es.take (k+1)=es.take k ++ [v]:=by rw [List.take_succ,hv];rfl
  by_cases hz:v=0
  ·have g:decide (v≠0)=false:=decide_eq_false (λh=>h hz);repeat' (first|refine s_t ?_|(refine zb 2 ?_;refine yv (zn (hr:=hlt)) (k:=?_))|(refine zb 3 ?_;refine yv (zG (j:=k)) (k:=?_);refine yv (zl (hv:=hcell)) (k:=za ?_))|(refine zb 4 (za ?_);(refine yv (zd (f:=f) (cap:=cap) (vs:=[]) (he:=hen) (hc:=zr hc)) (k:=?_));refine za ?_)|(refine zb 5 (za ?_);refine yv (zag (hr:=g)) (k:=?_))|(refine zb 7 ?_;refine yv (zu (hr:=hadd)) (k:=za ?_)))
   refine zq (k+1) ⟨h,λe he=>?_⟩ ?_ ?_ ?_
   ·rw [htk] at he;rcases List.mem_append.1 he with he|he
    ·exact hall e he
    ·rw [List.mem_singleton.1 he,hz]
   ·show n - (k+1) < n - k;omega
   ·exact q_h
   ·exact q_h
  ·have g:decide (v≠0)=true:=decide_eq_true hz;have hex:exam es=v:=by
    have e:es=es.take k ++ (v::es.drop (k+1)):=by
     have h1:es.drop k=v::es.drop (k+1):=by
      rw [List.drop_eq_getElem_cons q_o];rw [List.getElem?_eq_getElem q_o] at hv;rw [Option.some.inj hv]
     rw [<-h1,List.take_append_drop]
    have h0:(es.take k).find? (λe=>!decide (e=0))=none:=List.find?_eq_none.2 (λx hx=>by simp [hall x hx]);unfold exam;rw [e,List.find?_append,h0];simp [hz]
   rw [hex];repeat' (first|refine s_t ?_|(refine zb 2 ?_;refine yv (zn (hr:=hlt)) (k:=?_))|(refine zb 3 ?_;refine yv (zG (j:=k)) (k:=?_);refine yv (zl (hv:=hcell)) (k:=za ?_))|(refine zb 4 (za ?_);(refine yv (zd (f:=f) (cap:=cap) (vs:=[]) (he:=hen) (hc:=zr hc)) (k:=?_));refine za ?_)|(refine zb 5 (za ?_);refine yv (zag (hr:=g)) (k:=?_))|(refine zb 6 (za ?_)))
   exact q_r
 ·obtain rfl:k=n:=q_o;rw [List.take_of_length_le q_o] at hall;have hlt:decide ((k:Int) < (k:Int))=false:=q_f;have hex:exam es=0:=by
   unfold exam;rw [List.find?_eq_none.2 (λx hx=>by simp [hall x hx])];rfl
  rw [hex];repeat' (first|refine s_0 ?_|(refine zb 2 ?_;refine yv (zn (hr:=hlt)) (k:=?_))|(refine zb 8 (za ?_)))
  exact q_r
end Go.Proofs.YtdnlngbjpdbffaaGreatDoor
end
section
namespace Go.Ct
open Go Go.Sy
structure LstAt {α β:Type}(cell:β->α->List Value) (At:World->β->α->Prop) (w:World) (a:Option Addr) (c:Nat) (ps:List β) (l:List α):Prop where
 len:ps.length=l.length
 cap:l.length<=c
 nil:a=none->c=0
 mem:SlA w a (List.zipWith cell ps l).flatten
 each: ∀(i:Nat) (p:β) (x:α),ps[i]?=some p->l[i]?=some x->At w p x
theorem LstAt.keep {α β:Type}{cell:β->α->List Value}{At:World->β->α->Prop}{w w':World}{a:Option Addr}{c:Nat}{ps:List β}{l:List α}(h:LstAt cell At w a c ps l) (hk:Keep No w w') (hA: ∀p x,At w p x->At w' p x):LstAt cell At w' a c ps l:=
 ⟨h.len,h.cap,h.nil,h.mem.keep hk (λ_ _ h=>h),λi p x e1 e2=>hA p x (h.each i p x e1 e2)⟩
theorem zhW {α β γ:Type}{R:γ->α->β->Prop} : ∀(Cs:List γ) (l:List α),Cs.length=l.length->(∀(i:Nat) (C:γ) (x:α),Cs[i]?=some C->l[i]?=some x-> ∃p,R C x p)-> ∃ps:List β,ps.length=l.length/\ ∀(i:Nat) (C:γ) (x:α) (p:β),Cs[i]?=some C->l[i]?=some x->ps[i]?=some p->R C x p
 | [],[],_,_=>⟨[],rfl,λi C x p h=>by simp at h⟩
 |C::Cs,x::l,hl,h=>by
  obtain ⟨p,hp⟩:=h 0 C x rfl rfl;obtain ⟨ps,h1,h2⟩:=zhW Cs l (by simpa using hl) (λi C x e1 e2=>h (i+1) C x e1 e2);refine ⟨p::ps,by simp [h1],λi C' x' p' e1 e2 e3=>?_⟩;cases i with
  |zero=>cases e1;cases e2;cases e3;exact hp
  |succ i=>exact h2 i C' x' p' e1 e2 e3
theorem LstAt.of {α β:Type}{cell:β->α->List Value}{At:World->β->α->Prop}{w:World}{k:Nat}{Ψ:World->List Value->α->Prop}{v:Value}{l:List α}(h:ListIn k Ψ w v l) (hp: ∀C x,Ψ w C x-> ∃p,C=cell p x/\At w p x): ∃a c ps,v= .slice a l.length c/\LstAt cell At w a c ps l:=by
 obtain ⟨a,c,Cs,rfl,h2,h3,h4,h5,h6,h7⟩:=h;obtain ⟨ps,hl,hps⟩:=zhW (R:=λC x p=>C=cell p x/\At w p x) Cs l h6 (λi C x e1 e2=>hp C x (h7 i C x e1 e2).2);have hCs:Cs=List.zipWith cell ps l:=by
  apply List.ext_getElem?;intro i;rw [List.getElem?_zipWith];by_cases hi:i < l.length
  ·have e1:Cs[i]?=some Cs[i]:=List.getElem?_eq_getElem q_o;have e2:l[i]?=some l[i]:=List.getElem?_eq_getElem hi;have e3:ps[i]?=some ps[i]:=List.getElem?_eq_getElem q_o;rw [e1,e2,e3,(hps i _ _ _ e1 e2 e3).1]
  ·rw [List.getElem?_eq_none q_o,List.getElem?_eq_none (by omega:ps.length<=i)]
 refine ⟨a,c,ps,rfl,hl,h2,h5,by rw [<-hCs];exact h4,λi p x e1 e2=>?_⟩;have hi:i < l.length:=(List.getElem?_eq_some_iff.1 e2).1;exact (hps i Cs[i] x p (List.getElem?_eq_getElem q_o) e2 e1).2
structure Pa where
 a1:Option Addr
 k1:Nat
 a2:Option Addr
 k2:Nat
def anchL (p:Pa) (x:Anch):List Value:=[.slice p.a1 x.name.parts.length p.k1,strV x.name.realm,.int .i64 x.group,.slice p.a2 x.pub.length p.k2]
structure AnchAt (w:World) (p:Pa) (x:Anch):Prop where
 name:PrinIn w (prinL p.a1 p.k1 x.name) x.name
 pub:(⟨p.a2,x.pub.length,p.k2,x.pub⟩:Bs).ok w
 rng:(Lit.int .i64 x.group).wf=true
theorem AnchAt.keep {w w':World}{p:Pa}{x:Anch}(h:AnchAt w p x) (hk:Keep No w w'):AnchAt w' p x:=⟨h.name.keep hk,h.pub.keep hk,h.rng⟩
theorem AnchIn.at {w:World}{C:List Value}{x:Anch}(h:AnchIn w C x): ∃p,C=anchL p x/\AnchAt w p x:=by
 obtain ⟨⟨N,vp,rfl,hN,hp⟩,hr⟩:=h;obtain ⟨⟨a1,c1,rfl,_⟩,_⟩:=id hN;obtain ⟨a3,c3,rfl,hp2⟩:=hp.bs;exact ⟨⟨a1,c1,a3,c3⟩,rfl,hN,hp2,hr⟩
def revoL (p:Option Addr×Nat) (x:Revo):List Value:=[.slice p.1 x.issuer.parts.length p.2,strV x.issuer.realm,.int .i64 x.serial]
structure RevoAt (w:World) (p:Option Addr×Nat) (x:Revo):Prop where
 name:PrinIn w (prinL p.1 p.2 x.issuer) x.issuer
 rng:(Lit.int .i64 x.serial).wf=true
theorem RevoAt.keep {w w':World}{p:Option Addr×Nat}{x:Revo}(h:RevoAt w p x) (hk:Keep No w w'):RevoAt w' p x:=⟨h.name.keep hk,h.rng⟩
theorem RevoIn.at {w:World}{C:List Value}{x:Revo}(h:RevoIn w C x): ∃p,C=revoL p x/\RevoAt w p x:=by
 obtain ⟨⟨N,rfl,hN⟩,hr⟩:=h;obtain ⟨⟨a1,c1,rfl,_⟩,_⟩:=id hN;exact ⟨(a1,c1),rfl,hN,hr⟩
def Prin.fine (p:Prin):Prop:=p.parts.length < 1000000/\p.realm.length < 1000000000/\ ∀x∈p.parts,x.length < 1000000000
theorem Prin.same_comm (a b:Prin):a.same b=b.same a:=by
 rw [Bool.eq_iff_iff,Prin.same_iff,Prin.same_iff];exact ⟨Eq.symm,Eq.symm⟩
def signE (sv:Int->List UInt8->Bool) (sf:Int->List UInt8->List UInt8->List UInt8->Bool) (c:Cert) (z:Int) (pub:List UInt8):Int:=if (c.ok sv && sv z pub)=true then (if sf z pub c.body c.sig=true then 0 else 221) else 2
end Go.Ct
namespace Go.Proofs.YtdnlngbjpdbffaaGreatDoor
open Go Go.Sy Go.Ct Go.Nt Go.RowKit
attribute [local irreducible] Sy SyL SyX SyC SyF Sy.Fn callFunc
def sfK (z:Int) (pub m s:List UInt8):Bool:=decide (sVer z pub m s=0)
theorem zhz {z:Int}{l:List UInt8}(h:svK z l=true):l.length<=96:=by
 have h1:=zeG (of_decide_eq_true h);rw [h1.2.1];have:=zdG z;unfold glen at this;rwa [if_pos h1.1] at this
theorem zhu {c:Cert}(h:c.ok svK=true):c.pub.length<=96/\c.sig.length<=192/\c.body.length<=701/\c.der.length<=1000:=by
 have hs:=Cert.ok_small zdH h;have h':=h;simp only [Cert.ok,Bool.and_eq_true,decide_eq_true_eq] at h';have h1:=zhz h'.2;have hb:c.body.length<=605+c.pub.length:=by rw [Cert.body_flat];have:=(zV 0x30 c.flat).2;have:=Cert.flat_len hs;omega
 have hd:=Cert.der_len hs;have h8:c.sig.length<=192:=h'.1.2;exact ⟨h1,h8,by omega,by omega⟩
theorem zl9 (p:Pl) (c:Cert) (z:Int) (s:Bs) (w:World) (hG:GT w) (hT:Tab w No) (hS:ST w) (h:CertAt w p c) (hf:c.fine) (hs:s.ok w):Sy.Fn Tryz.prog 24 [.agg (certL p c).toArray,.int .i64 z,s.val] w No (Gives (.int .i64 (signE svK sfK c z s.l))):=by
 refine zg Tryz.func24 rfl Tryz.ntmps24 q_p Holds.nil ?_;have hv:=λw' (hk:Keep No w w')=>zd7 p c w' (hG.to hk) (h.keep hk) hf;have hsv:=λw' (hk:Keep No w w')=>zgM z s.a s.n s.c s.l w' (hG.to hk) hs.len hs.cap (hs.keep hk).sla;rw [show decide ((gel z s.l).2=0)=svK z s.l from rfl] at hsv;have hval:s.val= .slice s.a s.n s.c:=rfl;rw [hval];unfold signE;have hC:(certL p c).length=11:=rfl;by_cases hok:c.ok svK=true
 ·rw [hok] at hv ⊢;by_cases hz:svK z s.l=true
  ·rw [hz] at hsv ⊢;rw [if_pos (show (true && true)=true from rfl)];obtain ⟨m1,m2,m3,m4⟩:=zhu hok;have hzl:=zhz hz;have hb:=λw' (hk:Keep No w w')=>zhQ p c w' (h.keep hk) (Cert.ok_small zdH hok);have hvf:=λw' (hk:Keep No w w') a k (hB:(⟨a,c.body.length,k,c.body⟩:Bs).ok w')=>znt z s.a a p.a4 s.n s.c c.body.length k c.sig.length p.k4 s.l c.body c.sig w' (hG.to hk) (hT.no hk) (hS.to hk) (hs.keep hk) hB (h.sig.keep hk) (by have:=hs.len;omega) q_o q_o;have h10:Seg (certL p c) 10 [.slice p.a4 c.sig.length p.k4]:=Seg.at rfl;have h10':(certL p c)[0+10]?=some (.slice p.a4 c.sig.length p.k4):=rfl;have hres:(if sfK z s.l c.body c.sig=true then (0:Int) else 221)=if sVer z s.l c.body c.sig=0 then 0 else 221:=by unfold sfK;simp
   rw [hres];generalize sVer z s.l c.body c.sig=e at *;clear hres h;generalize certL p c=C at *;generalize c.body=BD at *;repeat' (first|refine s_0 ?_|(refine zb 0 ?_;refine zO ?_;intro _)|(refine zb 1 ?_;refine yv (zf (B:=C) (hz:=hC.symm)) (k:=?_);refine yv (zd (f:=34) (hc:=zr hv)) (k:=?_);refine za ?_;refine yv (zd (f:=55) (hc:=zr hsv)) (k:=?_);refine za ?_))
   (refine zbU (id:=3) [0,1,2,4,5] [3,6,7] mixed ?_ ?_;kernel_rfl;refine yfv zbK (k:=?_);refine yfv zbK (k:=?_);refine yfv (zf (B:=C) (hz:=hC.symm)) (k:=?_);refine yfv zS (k:=?_);refine yfv (zC (hv:=h10')) (k:=?_);refine yf0 ?_;try refine yc0 (k:=?_))
   refine ycs (zh (f:=50) (hc:=zr hb)) (k:=?_);rintro _ _ ⟨R,rfl,aB,cB,rfl,rfl⟩;refine ycv (zd (f:=56) (hc:=λw' X hk hh=>hvf w' hk aB cB (rowBs hh rfl q_h))) (k:=?_);by_cases he:e=0
   ·refine ycv (zag (hr:=decide_eq_false (λh=>h he))) (k:=?_);refine yc0 (k:=?_);rw [if_pos he];repeat' (first|refine s_0 ?_|(refine zb 5 (za ?_)))
    exact q_r
   ·refine ycv (zag (hr:=decide_eq_true he)) (k:=?_);refine yc0 (k:=?_);rw [if_neg he];repeat' (first|refine s_0 ?_|(refine zb 4 (za ?_)))
    exact q_r
  ·rw [Bool.not_eq_true] at hz;rw [hz] at hsv ⊢;generalize certL p c=C at *;repeat' (first|refine s_0 ?_|(refine zb 0 ?_;refine zO ?_;intro _)|(refine zb 1 ?_;refine yv (zf (B:=C) (hz:=hC.symm)) (k:=?_);refine yv (zd (f:=34) (hc:=zr hv)) (k:=?_);refine za ?_;refine yv (zd (f:=55) (hc:=zr hsv)) (k:=?_);refine za ?_)|(refine zb 2 (za ?_)))
   exact q_r
 ·rw [Bool.not_eq_true] at hok;rw [hok] at hv ⊢;generalize certL p c=C at *;repeat' (first|refine s_0 ?_|(refine zb 0 ?_;refine zO ?_;intro _)|(refine zb 1 ?_;refine yv (zf (B:=C) (hz:=hC.symm)) (k:=?_);refine yv (zd (f:=34) (hc:=zr hv)) (k:=?_);refine za ?_)|(refine zb 2 (za ?_)))
  exact q_r
def CertE (c:Cert) (v:Value) (R:List Res):Prop:=∃p,v= .tuple #[.agg (certL p c).toArray,.int .i64 0]/\R=certRows p c
theorem zhX (p:Pl) (c:Cert) (z:Int) (pr no:Bs) (s:List UInt8) (w:World) (hG:GT w) (hT:Tab w No) (h:CertAt w p c) (hf:c.fine) (hp:pr.ok w) (hn:no.ok w) (hnn:no.n<=1000) (hok:c.ok svK=true) (hsn:sSig z pr.l no.l c.body=some s):
  Sy.Fn Tryz.prog 20 [.agg (certL p c).toArray,.int .i64 z,pr.val,no.val] w No (CertE { c with sig:=s }):=by
 refine zg Tryz.func20 rfl Tryz.ntmps20 q_p Holds.nil ?_;have hv:=λw' (hk:Keep No w w')=>zd7 p c w' (hG.to hk) (h.keep hk) hf;have hpv:pr.val= .slice pr.a pr.n pr.c:=rfl;have hnv:no.val= .slice no.a no.n no.c:=rfl;have hC:(certL p c).length=11:=rfl;rw [hpv,hnv];rw [hok] at hv;obtain ⟨m1,m2,m3,m4⟩:=zhu hok;have hb:=λw' (hk:Keep No w w')=>zhQ p c w' (h.keep hk) (Cert.ok_small zdH hok);have hsg:=λw' (hk:Keep No w w') a k (hB:(⟨a,c.body.length,k,c.body⟩:Bs).ok w')=>zp6 z pr.a no.a a pr.n pr.c no.n no.c c.body.length k pr.l no.l c.body w' (hG.to hk) (hT.no hk) (hp.keep hk) (hn.keep hk) hB hnn q_o;rw [hsn] at hsg;unfold BR at hsg;have hcp:=λw' (hk:Keep No w w')=>zn8 p c w' (h.keep hk) hf q_o q_o;unfold CertR certRows at hcp;unfold CertE certRows;generalize hCe:certL p c=C at *;generalize c.body=BD at *;repeat' (first|refine s_0 ?_|(refine zb 0 ?_;refine zj ?_;intro _;refine zO ?_;intro _)|(refine zb 1 ?_;refine yv (zf (B:=C) (hz:=hC.symm)) (k:=?_);refine yv (zd (f:=34) (hc:=zr hv)) (k:=?_);refine za ?_)|(refine zb 3 (za ?_);refine yv (zf (B:=C) (hz:=hC.symm)) (k:=?_);(refine ys (zh (f:=50) (hc:=zr hb)) (k:=?_);rintro _ _ ⟨R,rfl,aB,cB,rfl,rfl⟩)))
 refine ys (zh (f:=49) (hc:=λw' X hk hh=>hsg w' hk aB cB (rowBs hh rfl q_h))) (k:=?_);rintro _ _ ⟨R,rfl,aS,nS,cS,rfl,hnS,rfl⟩;obtain rfl:nS=s.length:=hnS;repeat' (first|refine s_0 ?_|(refine zb 4 (za ?_);refine z8 ?_)|(refine zb 6 ?_;refine yv (zf (B:=C) (hz:=hC.symm)) (k:=?_);(refine ys (zh (f:=32) (hc:=zr hcp)) (k:=?_);rintro _ _ ⟨R,rfl,q,rfl,rfl⟩);refine yn (zE (hv:=rfl) (h1:=rfl) (hC:=by exact hC)) (k:=?_))|(refine zP ?_;first|refine zx ?_|refine zaP ?_|refine zaH ?_|fail)|fail)
 unfold certL;repeat' (first|refine s_0 ?_|(refine zb 7 (za ?_);refine yn (zcr (hC:=⟨Nat.le_of_ble_eq_true rfl,rfl⟩)) (k:=?_))|(refine zb 8 ?_;refine zm ?_;refine yn (zE (h1:=rfl)) (k:=za ?_)))
 exact ret2 rfl (resCells (B:=certL ⟨q.a1,q.k1,q.a2,q.k2,q.a3,q.k3,aS,cS⟩ { c with sig:=s }) rfl (ty rfl) rfl Has.go Seg.all rfl) (resTmp rfl) q_h ⟨⟨q.a1,q.k1,q.a2,q.k2,q.a3,q.k3,aS,cS⟩,rfl,rfl⟩
end Go.Proofs.YtdnlngbjpdbffaaGreatDoor
end
section
namespace Go.Proofs.YtdnlngbjpdbffaaGreatDoor
open Go Go.Sy Go.Ct Go.Wd Go.Sh Go.RowKit
noncomputable def fldsOf (t:TypeId):Array Field:=match Tryz.prog.underlying t with
 |some (.struct fs)=>fs
 |_=> #[]
noncomputable def fld (t:TypeId) (i:Nat):Field:=(fldsOf t).toList.getD i default
theorem prinTy:PrinTy Tryz.prog 43:=⟨41,9,9,fld 43 0,fld 43 1,by kernel_rfl,by kernel_rfl,by kernel_rfl,by kernel_rfl,by kernel_rfl,by kernel_rfl,by kernel_rfl,by kernel_rfl,by kernel_rfl,by kernel_rfl,by kernel_rfl,by kernel_rfl⟩
theorem certTy:CertTy Tryz.prog 45 43 3 4 23 5:=
 ⟨⟨fld 45,by kernel_rfl,by kernel_rfl,by kernel_rfl,by kernel_rfl,by kernel_rfl,by kernel_rfl,by kernel_rfl,by kernel_rfl,by kernel_rfl,by kernel_rfl,by kernel_rfl,by kernel_rfl,by kernel_rfl,by kernel_rfl,by kernel_rfl,by kernel_rfl,by kernel_rfl,by kernel_rfl,by kernel_rfl⟩,by kernel_rfl,prinTy,by kernel_rfl,by kernel_rfl,by kernel_rfl,by kernel_rfl,by kernel_rfl,by kernel_rfl,by kernel_rfl,by kernel_rfl,by kernel_rfl⟩
theorem anchTy:AnchTy Tryz.prog 65 43 3 23 5:=⟨⟨fld 65,by kernel_rfl,by kernel_rfl,by kernel_rfl,by kernel_rfl,by kernel_rfl,by kernel_rfl,by kernel_rfl⟩,by kernel_rfl⟩
theorem revoTy:RevoTy Tryz.prog 67 43 3:=⟨⟨fld 67,by kernel_rfl,by kernel_rfl,by kernel_rfl,by kernel_rfl,by kernel_rfl⟩,by kernel_rfl⟩
theorem undCerts:Tryz.prog.underlying 22=some (.slice 45):=by kernel_rfl
theorem undAnchs:Tryz.prog.underlying 37=some (.slice 65):=by kernel_rfl
theorem undRevos:Tryz.prog.underlying 38=some (.slice 67):=by kernel_rfl
section
variable {H:Type}{enc:TypeId×Value->H}{W:World}{v:Value}{d:DataW H}{ps:List MemPlace}
theorem zhx {α β:Type}{cell:β->α->List Value}{At:World->β->α->Prop}{k:Nat}{Ψ:World->List Value->α->Prop}{t e:TypeId}(ht:Tryz.prog.underlying t=some (.slice e)) (hc:Tryz.prog.cellsOf e=k) (hk:0 < k) (hΨ: ∀B,Rdb enc Tryz.prog W e B-> ∃y,Ψ W B y) (hp: ∀C x,Ψ W C x-> ∃p,C=cell p x/\At W p x)
  {a:Option Addr}{n c:Nat}(h:DataW.Trod enc Tryz.prog W 0 (λ_=>true) true t (.slice a n c) d ps): ∃ps l,l.length=n/\n<=maxLen/\LstAt cell At W a c ps l:=by
 obtain ⟨fuel,h⟩:=h;obtain ⟨v,xs,e1,h1⟩:=zqh (Ψ:=Ψ) (W:=W) (t:=t) ⟨fuel,_,h⟩ ht hc hk hΨ;obtain ⟨a',c',ps,rfl,h2⟩:=LstAt.of h1 hp;have e2:(Value.slice a n c)= .slice a' xs.length c':=by simpa [Value.cells] using e1
 cases e2;obtain ⟨_,_,_,e3,h3,h4,_⟩:=h1;cases e3;exact ⟨ps,xs,rfl,Nat.le_trans h3 h4,h2⟩
theorem zoG {a:Option Addr}{n c:Nat}(h:DataW.Trod enc Tryz.prog W 0 (λ_=>true) true 22 (.slice a n c) d ps): ∃ps l,l.length=n/\n<=maxLen/\LstAt certL CertAt W a c ps l:=
 zhx undCerts certTy.cells (by decide) (λ_ hB=>zqt hB certTy) (λ_ _ h=>CertIn.at h) h
theorem zo8 {a:Option Addr}{n c:Nat}(h:DataW.Trod enc Tryz.prog W 0 (λ_=>true) true 37 (.slice a n c) d ps): ∃ps l,l.length=n/\n<=maxLen/\LstAt anchL AnchAt W a c ps l:=
 zhx undAnchs anchTy.cells (by decide) (λ_ hB=>zql hB certTy anchTy) (λ_ _ h=>AnchIn.at h) h
theorem zoA {a:Option Addr}{n c:Nat}(h:DataW.Trod enc Tryz.prog W 0 (λ_=>true) true 38 (.slice a n c) d ps): ∃ps l,l.length=n/\n<=maxLen/\LstAt revoL RevoAt W a c ps l:=
 zhx undRevos revoTy.cells (by decide) (λ_ hB=>zqw hB certTy revoTy) (λ_ _ h=>RevoIn.at h) h
end
end Go.Proofs.YtdnlngbjpdbffaaGreatDoor
end
