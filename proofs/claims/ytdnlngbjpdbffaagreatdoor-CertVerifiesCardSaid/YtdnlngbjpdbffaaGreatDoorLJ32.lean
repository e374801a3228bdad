/- What came in, opened: structs, strings, lists of whatever. -/
import Derived.Test.YtdnlngbjpdbffaaGreatDoorLJ06
import Derived.SliceStrings
import Derived.Test.YtdnlngbjpdbffaaGreatDoorLJ07
import Derived.Test.YtdnlngbjpdbffaaGreatDoorLJ08
import Derived.Test.YtdnlngbjpdbffaaGreatDoorLJ04
import Derived.Lib.ConvBytes
import Derived.ArgAppend
set_option maxRecDepth 10000
set_option linter.all false
section
namespace Go.Sy
open Go Go.Wd Go.RowKit Go.ChangeShapes Go.WideShapes
section
variable {H:Type}{enc:TypeId×Value->H}{P:Program}{W:World}
def Rdb (enc:TypeId×Value->H) (P:Program) (W:World) (t:TypeId) (C:List Value):Prop:=∃fuel x,DataW.trod enc P W 0 (λ_=>true) true fuel t C=some x
theorem Rdb.int {t:TypeId}{k:IntKind}{C:List Value}(h:Rdb enc P W t C) (ht:P.underlying t=some (.int k)): ∃i,C= [.int k i]/\(Lit.int k i).wf=true:=by
 obtain ⟨fuel,x,h⟩:=h;cases fuel with
 |zero=>simp [DataW.trod] at h
 |succ n=>
  unfold DataW.trod at h;rw [ht] at h;split at h <;> simp_all
theorem Rdb.bool {t:TypeId}{C:List Value}(h:Rdb enc P W t C) (ht:P.underlying t=some .bool): ∃b,C= [.bool b]:=by
 obtain ⟨fuel,x,h⟩:=h;cases fuel with
 |zero=>simp [DataW.trod] at h
 |succ n=>
  unfold DataW.trod at h;rw [ht] at h;split at h <;> simp_all
theorem Rdb.string {t:TypeId}{C:List Value}(h:Rdb enc P W t C) (ht:P.underlying t=some .string): ∃l:List UInt8,C= [.string (str l)]/\l.length<=maxLen:=by
 obtain ⟨fuel,x,h⟩:=h;cases fuel with
 |zero=>simp [DataW.trod] at h
 |succ n=>
  unfold DataW.trod at h;rw [ht] at h;split at h <;> simp_all;rename_i s;exact ⟨s.data.toList,by cases s;simp [str],by
   have:s.data.toList.length=s.size:=by cases s;simp [ByteArray.size]
   omega⟩
theorem Rdb.struct {t:TypeId}{fs:Array Field}{C:List Value}(h:Rdb enc P W t C) (ht:P.underlying t=some (.struct fs)):C.length=P.cellsOf t/\ ∀f∈fs.toList,Rdb enc P W f.type ((C.drop f.offset).take (P.cellsOf f.type)):=by
 obtain ⟨fuel,x,h⟩:=h;obtain ⟨xs,m,_,_,hl,hn,hx⟩:=DataW.trod_struct ht h;refine ⟨hl,λf hf=>?_⟩;obtain ⟨i,hi,e⟩:=List.getElem_of_mem hf;have hi':i < xs.length:=by rw [hn];simpa using hi
 have:=hx i f (by rw [<-Array.getElem?_toList,List.getElem?_eq_getElem hi,e]);rw [List.getElem?_eq_getElem hi'] at this;exact ⟨m,_,this⟩
theorem Rdb.bytes {t e:TypeId}{C:List Value}(h:Rdb enc P W t C) (ht:P.underlying t=some (.slice e)) (he:P.underlying e=some (.int .u8)) (hc:P.cellsOf e=1): ∃s:Bs,C= [s.val]/\s.ok W/\s.c<=maxLen:=by
 obtain ⟨fuel,x,h⟩:=h;have hone: ∃v:Value,C= [v]/\v.oneCell'=true/\v.cells.toList= [v]:=by
  rcases open_ints ht he hc h with ⟨e1,_⟩|⟨_,_,_,_,e1,_⟩
  ·exact ⟨_,e1,rfl,rfl⟩
  ·exact ⟨_,e1,rfl,rfl⟩
 obtain ⟨v,rfl,h1,h2⟩:=hone;obtain ⟨a,n,c,l,e1,h3,h4,h5,h6,h7⟩:=zi2 ht he hc (W:=W) (v:=v) ⟨fuel,by rw [h2];exact h⟩ h1;exact ⟨⟨a,n,c,l⟩,by rw [e1];rfl,⟨h3,h4,h6,h7⟩,h5⟩
theorem zdQ {α:Type}{f:α->List Value}{k:Nat} : ∀(xs:List α),(∀x∈xs,(f x).length=k)-> ∀i j,j < k->(xs.flatMap f)[i*k+j]?=xs[i]?.bind λx=>(f x)[j]?
 | [],_,i,j,_=>by simp
 |x::xs,h,i,j,hj=>by
  have hx:=h x List.mem_cons_self;rw [List.flatMap_cons];cases i with
  |zero=>rw [Nat.zero_mul,Nat.zero_add,List.getElem?_append_left q_o];rfl
  |succ i=>
   rw [List.getElem?_append_right (by rw [hx,Nat.add_mul];omega),hx,show (i+1)*k+j - k=i*k+j by rw [Nat.add_mul];omega,zdQ xs (λy hy=>h y (List.mem_cons_of_mem _ hy)) i j hj];rfl
theorem Rdb.list {α:Type}{t e:TypeId}{k:Nat}{C:List Value}(Ψ:List Value->α->Prop) (h:Rdb enc P W t C) (ht:P.underlying t=some (.slice e)) (hc:P.cellsOf e=k) (hk:0 < k) (hΨ: ∀B,Rdb enc P W e B-> ∃y,Ψ B y):
  ∃a n c,∃xs:List (List Value×α),C= [.slice a n c]/\xs.length=n/\n<=c/\c<=maxLen/\SlA W a (xs.flatMap (·.1))/\(a=none->c=0)/\ ∀x∈xs,x.1.length=k/\Ψ x.1 x.2:=by
 obtain ⟨fuel,x,h⟩:=h;rcases Deep.open_slice ht h with ⟨rfl,_⟩|⟨a,len,cap,m,n,D,Pl,rfl,_,hl,hm,hmm,_,hx⟩
 ·exact ⟨none,0,0,[],rfl,rfl,Nat.le_refl _,Nat.zero_le _,.inl rfl,λ_=>rfl,λ_ h=>by cases h⟩
 ·have hlm:len<=m:=by rw [hmm];simp;exact hl
  rcases Nat.eq_zero_or_pos len with h0|h0
  ·subst h0;exact ⟨some a,0,cap,[],rfl,rfl,hl,hm,.inl rfl,λh=>by (cases h),λ_ h=>by cases h⟩
  have hmid:a.spot=none:=by
   obtain ⟨B,h1,_⟩:=hx 0 q_o;obtain ⟨_,h3,h4⟩:=World.cells?_some h1;have c0:=h4 0 q_o;rw [List.getElem?_eq_getElem q_o] at c0;unfold World.cell? at c0;split at c0
   ·split at c0
    ·cases c0
    ·rename_i hsp;simpa [Addr.add] using hsp
   ·cases c0
  obtain ⟨b,off,sp⟩:=a;dsimp only at hmid;subst hmid;have hB: ∀i,i < len-> ∃y:List Value×α,(y.1.length=k/\Ψ y.1 y.2)/\ ∀j,j < k->W.cell? ⟨b,off+(i*k+j),none⟩=y.1[j]?:=λi hi=>by
   obtain ⟨B,h1,h2⟩:=hx i q_o;obtain ⟨_,h3,h4⟩:=World.cells?_some h1;obtain ⟨y,hy⟩:=hΨ B ⟨n,_,h2⟩;refine ⟨(B,y),⟨h3.trans hc,hy⟩,λj hj=>?_⟩;have:=h4 j (by rw [hc];exact hj);rw [hc,Addr.add_mid,Addr.add_mid,Nat.add_assoc] at this;exact this
  haveI:Inhabited (List Value×α):=⟨(hB 0 h0).choose⟩
  obtain ⟨F,hF⟩:=Deep.choose_lt hB;have hxs: ∀x∈(List.range len).map F,x.1.length=k/\Ψ x.1 x.2:=λx hx=>by
   obtain ⟨i,hi,rfl⟩:=List.mem_map.1 hx;exact (hF i (by simpa using hi)).1
  refine ⟨some ⟨b,off,none⟩,len,cap,(List.range len).map F,rfl,by simp,hl,hm,.inr ⟨b,off,rfl,λj u hj=>?_⟩,λh=>by (cases h),hxs⟩;have e:j / k*k+j % k=j:=by rw [Nat.mul_comm];exact Nat.div_add_mod j k
  have hg:=zdQ (f:=Prod.fst) ((List.range len).map F) (λx hx=>(hxs x hx).1) (j / k) (j % k) (Nat.mod_lt _ hk);rw [e,hj,List.getElem?_map] at hg;by_cases hi:j / k < len
  ·rw [List.getElem?_range hi] at hg;have:=(hF (j / k) hi).2 (j % k) (Nat.mod_lt _ hk);rw [e] at this;rw [this];exact hg.symm
  ·rw [List.getElem?_eq_none (by simpa using hi)] at hg;cases hg
end
end Go.Sy
end
section
namespace Go.Ct
def beN (v:Nat):Nat->List UInt8
 |0=>[]
 |k+1=>UInt8.ofNat (v / 256 ^ k)::beN v k
theorem zbg (v:Nat): ∀k,(beN v k).length=k
 |0=>rfl
 |k+1=>by rw [beN,List.length_cons,zbg v k]
def intSize (v:Nat):Nat:=if h:v < 128 then 1 else intSize (v / 256)+1
decreasing_by omega
theorem zcc {v:Nat}(h:v < 128):intSize v=1:=by rw [intSize,dif_pos h]
theorem zeS {v:Nat}(h:128<=v):intSize v=intSize (v / 256)+1:=by rw [intSize,dif_neg q_o]
theorem zgT: ∀(k v:Nat),v < 128*256 ^ k->intSize v<=k+1
 |0,v,h=>by rw [zcc q_o];exact Nat.le_refl _
 |k+1,v,h=>by
  rcases Nat.lt_or_ge v 128 with h1|h1
  ·rw [zcc h1];omega
  ·rw [zeS h1];have:=zgT k (v / 256) (by rw [Nat.div_lt_iff_lt_mul q_e,Nat.mul_assoc,<-Nat.pow_succ];exact h);omega
theorem zgc: ∀(d v:Nat),v < 256 ^ (d+1)->(d=0\/256 ^ d<=v)->intSize v=if 128<=v / 256 ^ d then d+2 else d+1
 |0,v,h,_=>by
  rw [Nat.pow_zero,Nat.div_one];rcases Nat.lt_or_ge v 128 with h1|h1
  ·rw [zcc h1,if_neg q_o]
  ·rw [zeS h1,if_pos h1,zcc q_o]
 |d+1,v,h,h2=>by
  have h3:256 ^ (d+1)<=v:=q_o;have h4:256<=256 ^ (d+1):=by rw [Nat.pow_succ];exact Nat.le_mul_of_pos_left _ (Nat.pow_pos q_e)
  have h5:v / 256 < 256 ^ (d+1):=by rw [Nat.div_lt_iff_lt_mul q_e,<-Nat.pow_succ];exact h
  have h6:256 ^ d<=v / 256:=by rw [Nat.le_div_iff_mul_le q_e,<-Nat.pow_succ];exact h3
  have h7:v / 256 / 256 ^ d=v / 256 ^ (d+1):=by rw [Nat.div_div_eq_div_mul,Nat.pow_succ,Nat.mul_comm]
  rw [zeS q_o,zgc d (v / 256) h5 (.inr h6),h7];split <;> rfl
def derL (n:Nat):List UInt8:=
 if n < 128 then [UInt8.ofNat n] else if n < 256 then [0x81,UInt8.ofNat n] else if n < 65536 then [0x82,UInt8.ofNat (n / 256),UInt8.ofNat n] else [0x83,UInt8.ofNat (n / 65536),UInt8.ofNat (n / 256),UInt8.ofNat n]
theorem zgz (n:Nat):1<=(derL n).length/\(derL n).length<=4:=by
 unfold derL;split
 ·exact ⟨Nat.le_refl 1,(by show 1<=4;decide)⟩
 ·split
  ·exact ⟨(by show 1<=2;decide),(by show 2<=4;decide)⟩
  ·split
   ·exact ⟨(by show 1<=3;decide),(by show 3<=4;decide)⟩
   ·exact ⟨(by show 1<=4;decide),Nat.le_refl 4⟩
def tlv (tag:Nat) (l:List UInt8):List UInt8:=UInt8.ofNat tag::(derL l.length ++ l)
theorem zV (tag:Nat) (l:List UInt8):l.length+2<=(tlv tag l).length/\(tlv tag l).length<=l.length+5:=by
 have:=zgz l.length;unfold tlv;rw [List.length_cons,List.length_append];omega
def derI (v:Nat):List UInt8:=tlv 2 (beN v (intSize v))
def derT (v:Nat):List UInt8:=tlv 0x18 (beN v 6)
def derB (b:Bool):List UInt8:=tlv 1 [if b then 255 else 0]
def derO (l:List UInt8):List UInt8:=tlv 4 l
def derS (l:List UInt8):List UInt8:=tlv 0x1b l
def derQ (l:List (List UInt8)):List UInt8:=tlv 0x30 l.flatten
def derG (n:Nat) (l:List UInt8):List UInt8:=tlv (0xa0+n) l
def labC (c:UInt8):Bool:=(decide (65<=c.toNat) && decide (c.toNat<=90)) || (decide (48<=c.toNat) && decide (c.toNat<=57)) || decide (c.toNat=45)
def rgood:Bool->List UInt8->Bool
 |p,[]=>!p
 |p,c::r=>if c=46 then !p && rgood true r else labC c && rgood false r
def realmOk (s:List UInt8):Bool:=decide (1<=s.length) && decide (s.length<=32) && rgood true s
theorem zem: ∀(l r:List UInt8) (p:Bool),(∀c∈l,c≠46)->rgood p (l ++ r)=(l.all labC && rgood (p && l.isEmpty) r)
 | [],r,p,_=>by simp
 |c::l,r,p,h=>by
  have hc:c≠46:=h c List.mem_cons_self;have ih:=zem l r false (λx hx=>h x (List.mem_cons_of_mem _ hx));rw [List.cons_append,rgood,if_neg hc,ih,List.all_cons,Bool.and_assoc];simp
theorem zmm (l r:List UInt8) (h: ∀c∈l,c≠46):rgood true (l ++ 46::r)=(!l.isEmpty && l.all labC && rgood true r):=by
 rw [zem l _ true h,rgood,if_pos rfl,Bool.true_and];cases l.isEmpty <;> cases l.all labC <;> simp
theorem zlI (l:List UInt8) (h: ∀c∈l,c≠46):rgood true l=(!l.isEmpty && l.all labC):=by
 have:=zem l [] true h;rw [List.append_nil] at this;rw [this,rgood,Bool.true_and,Bool.and_comm]
def visC (c:UInt8):Bool:=decide (0x21<=c.toNat) && decide (c.toNat<=0x7e)
def partOk (s:List UInt8):Bool:=decide (1<=s.length) && decide (s.length<=32) && s.all visC
structure Prin where
 parts:List (List UInt8)
 realm:List UInt8
def Prin.ok (p:Prin):Bool:=decide (1<=p.parts.length) && decide (p.parts.length<=4) && realmOk p.realm && p.parts.all partOk
def Prin.der (p:Prin):List UInt8:=derQ [derG 0 (derQ (p.parts.map derS)),derG 1 (derS p.realm)]
structure Cert where
 serial:Int
 issuer:Prin
 subject:Prin
 fr:Int
 til:Int
 auth:Bool
 group:Int
 pub:List UInt8
 sig:List UInt8
def Cert.body (c:Cert):List UInt8:=derQ [derG 0 (derI c.serial.toNat),derG 1 c.issuer.der,derG 2 c.subject.der,derG 3 (derT c.fr.toNat),derG 4 (derT c.til.toNat),derG 5 (derB c.auth),derG 6 (derI c.group.toNat),derG 7 (derO c.pub)]
def Cert.der (c:Cert):List UInt8:=derQ [derG 0 c.body,derG 1 (derO c.sig)]
def sizeZ (v:Int):Nat:=if h: -128<=v/\v<=127 then 1 else sizeZ (v / 256)+1
termination_by v.natAbs
decreasing_by omega
def beZ (v:Int):Nat->List UInt8
 |0=>[]
 |k+1=>UInt8.ofNat (v / 256 ^ k % 256).toNat::beZ v k
theorem zhB (v:Int): ∀k,(beZ v k).length=k
 |0=>rfl
 |k+1=>by rw [beZ,List.length_cons,zhB v k]
theorem znk (v:Nat):sizeZ (v:Int)=intSize v:=by
 induction v using Nat.strongRecOn with
 |_ v ih=>
  rw [sizeZ,intSize];by_cases h:v < 128
  ·rw [dif_pos q_o,dif_pos h]
  ·rw [dif_neg q_o,dif_neg h,<-ih (v / 256) q_o];simp
theorem zhy (v:Nat): ∀k,beZ (v:Int) k=beN v k
 |0=>rfl
 |k+1=>by
  rw [beZ,beN,zhy v k];congr 1;have:((v:Int) / 256 ^ k % 256)=((v / 256 ^ k % 256:Nat):Int):=by push_cast;rfl
  rw [this,Int.toNat_natCast];apply UInt8.toNat_inj.1;simp
def maxI:Int:=4611686018427387904
theorem zkz {v:Nat}(h:v<=4611686018427387904):intSize v<=8:=zgT 7 v q_o
theorem Prin.ok_parts {p:Prin}(h:p.ok=true):p.parts.length<=4/\(∀x∈p.parts,x.length<=32)/\p.realm.length<=32:=by
 simp only [Prin.ok,Bool.and_eq_true,decide_eq_true_eq,List.all_eq_true,partOk,realmOk] at h;exact ⟨h.1.1.2,λx hx=>((h.2 x hx).1).2,h.1.2.1.2⟩
theorem flat_len (m:Nat): ∀l:List (List UInt8),(∀x∈l,x.length<=m)->l.flatten.length<=l.length*m
 | [],_=>by simp
 |x::l,h=>by
  have h1:=flat_len m l (λy hy=>h y (List.mem_cons_of_mem _ hy));have h2:=h x List.mem_cons_self;rw [List.flatten_cons,List.length_append,List.length_cons,Nat.add_mul];omega
theorem Prin.strs_len {p:Prin}(h:p.ok=true):(p.parts.map derS).flatten.length<=148:=by
 obtain ⟨h1,h2,h3⟩:=Prin.ok_parts h;have:=flat_len 37 (p.parts.map derS) (λx hx=>by
  obtain ⟨y,hy,rfl⟩:=List.mem_map.1 hx;have:=(zV 0x1b y).2;have:=h2 y hy;unfold derS;omega)
 rw [List.length_map] at this;omega
theorem Prin.der_len {p:Prin}(h:p.ok=true):p.der.length<=205:=by
 obtain ⟨h1,h2,h3⟩:=Prin.ok_parts h;have h4:=Prin.strs_len h;have a1:=(zV 0x30 (p.parts.map derS).flatten).2;have a2:=(zV 0xa0 (tlv 0x30 (p.parts.map derS).flatten)).2;have a3:=(zV 0x1b p.realm).2;have a4:=(zV 0xa1 (tlv 0x1b p.realm)).2;have a5:=(zV 0x30 [tlv 0xa0 (tlv 0x30 (p.parts.map derS).flatten),tlv 0xa1 (tlv 0x1b p.realm)].flatten).2;simp only [List.flatten_cons,List.flatten_nil,List.append_nil,List.length_append] at a5;have e:p.der.length=(tlv 0x30 (tlv 0xa0 (tlv 0x30 (p.parts.map derS).flatten) ++ tlv 0xa1 (tlv 0x1b p.realm))).length:=by
  simp only [Prin.der,derQ,derG,derS,List.flatten_cons,List.flatten_nil,List.append_nil]
 rw [e];omega
structure Cert.small (c:Cert):Prop where
 s0:0<=c.serial
 s1:c.serial<=4611686018427387904
 iss:c.issuer.ok=true
 sub:c.subject.ok=true
 f0:0<=c.fr
 f1:c.fr<=1099511627776
 t0:0<=c.til
 t1:c.til<=1099511627776
 g0:0<=c.group
 g1:c.group<=4611686018427387904
 pub:c.pub.length < 1000000
 sig:c.sig.length < 1000000
theorem zcW {v:Nat}(h:v<=4611686018427387904):2<=(derI v).length/\(derI v).length<=13:=by
 have:=zV 2 (beN v (intSize v));have:=zkz h;rw [zbg] at *;unfold derI;omega
theorem zjN (v:Nat):(derT v).length<=11:=by
 have:=(zV 0x18 (beN v 6)).2;rw [zbg] at this;unfold derT;omega
theorem zi4 (l:List UInt8):(derO l).length<=l.length+5:=(zV 4 l).2
def Cert.flat (c:Cert):List UInt8:=tlv 0xa0 (derI c.serial.toNat) ++ (tlv 0xa1 c.issuer.der ++ (tlv 0xa2 c.subject.der ++ (tlv 0xa3 (derT c.fr.toNat) ++ (tlv 0xa4 (derT c.til.toNat) ++ (tlv 0xa5 (derB c.auth) ++ (tlv 0xa6 (derI c.group.toNat) ++ tlv 0xa7 (derO c.pub)))))))
theorem Cert.body_flat (c:Cert):c.body=tlv 0x30 c.flat:=by
 simp only [Cert.body,derQ,derG,Cert.flat,List.flatten_cons,List.flatten_nil,List.append_nil]
theorem Cert.flat_len {c:Cert}(h:c.small):c.flat.length<=600+c.pub.length:=by
 have a0:=(zV 0xa0 (derI c.serial.toNat)).2;have a1:=(zV 0xa1 c.issuer.der).2;have a2:=(zV 0xa2 c.subject.der).2;have a3:=(zV 0xa3 (derT c.fr.toNat)).2;have a4:=(zV 0xa4 (derT c.til.toNat)).2;have a5:=(zV 0xa5 (derB c.auth)).2;have a6:=(zV 0xa6 (derI c.group.toNat)).2;have a7:=(zV 0xa7 (derO c.pub)).2;have b0:=zcW (v:=c.serial.toNat) (by have:=h.s1;omega);have b1:=Prin.der_len h.iss;have b2:=Prin.der_len h.sub;have b3:=zjN c.fr.toNat;have b4:=zjN c.til.toNat;have b5:(derB c.auth).length<=3:=by cases c.auth <;> decide
 have b6:=zcW (v:=c.group.toNat) (by have:=h.g1;omega);have b7:=zi4 c.pub;simp only [Cert.flat,List.length_append];omega
theorem Cert.der_flat (c:Cert):c.der=tlv 0x30 (tlv 0xa0 (tlv 0x30 c.flat) ++ tlv 0xa1 (derO c.sig)):=by
 simp only [Cert.der,derQ,derG,Cert.body_flat,List.flatten_cons,List.flatten_nil,List.append_nil]
def Prin.same (a b:Prin):Bool:=a.realm == b.realm && a.parts == b.parts
theorem Prin.same_iff {a b:Prin} :a.same b=true↔a=b:=by
 cases a;cases b;simp only [Prin.same,Bool.and_eq_true,beq_iff_eq,Prin.mk.injEq];exact And.comm
section
-- sv: which public keys are valid; sf: which signatures are right.
variable (sv:Int->List UInt8->Bool) (sf:Int->List UInt8->List UInt8->List UInt8->Bool)
def Cert.ok (c:Cert):Bool:=decide (0<=c.serial) && decide (c.serial<=4611686018427387904) && c.issuer.ok && c.subject.ok && decide (0<=c.fr) && decide (c.fr<=c.til) && decide (c.til<=1099511627776) && decide (c.sig.length<=192) && sv c.group c.pub
structure KeyLaw:Prop where
 g0: ∀g p,sv g p=true->0<=g
 g1: ∀g p,sv g p=true->g < 1000
 len: ∀g p,sv g p=true->p.length < 1000
variable {sv}
theorem Cert.ok_small (hk:KeyLaw sv) {c:Cert}(h:c.ok sv=true):c.small:=by
 simp only [Cert.ok,Bool.and_eq_true,decide_eq_true_eq] at h;obtain ⟨⟨⟨⟨⟨⟨⟨⟨h1,h2⟩,h3⟩,h4⟩,h5⟩,h6⟩,h7⟩,h8⟩,h9⟩:=h;have a:=hk.g0 _ _ h9;have b:=hk.g1 _ _ h9;have d:=hk.len _ _ h9;exact ⟨h1,h2,h3,h4,h5,by omega,by omega,h7,a,by omega,by omega,by omega⟩
variable (sv)
variable {sv}
variable (sv)
def chainOk (l:List Cert):Bool:=decide (1<=l.length) && decide (l.length<=5) && l.all (Cert.ok sv)
variable {sv}
theorem Cert.der_len {c:Cert}(h:c.small):c.der.length<=700+c.pub.length+c.sig.length:=by
 have hl:=Cert.flat_len h;have a1:=zV 0x30 c.flat;have a2:=zV 0xa0 (tlv 0x30 c.flat);have a3:=zi4 c.sig;have a4:=zV 0xa1 (derO c.sig);have a5:=zV 0x30 (tlv 0xa0 (tlv 0x30 c.flat) ++ tlv 0xa1 (derO c.sig));rw [Cert.der_flat];simp only [List.length_append] at *;omega
structure Anch where
 name:Prin
 group:Int
 pub:List UInt8
structure Revo where
 issuer:Prin
 serial:Int
def revd (rs:List Revo) (c:Cert):Bool:=rs.any λr=>r.issuer.same c.issuer && decide (r.serial=c.serial)
def vone (c:Cert) (a:Anch) (rs:List Revo) (now:Int) (first:Bool):Int:=
 if !c.issuer.same a.name then 220 else if !sf a.group a.pub c.body c.sig then 221 else if now < c.fr\/c.til < now then 222 else if revd rs c then 223 else if !first && !c.auth then 224 else 0
def vwalk (rs:List Revo) (now:Int):List Cert->Anch->Int×Int
 | [],_=>(0,0)
 |c::l,a=>if vone sf c a rs now l.isEmpty=0 then vwalk rs now l ⟨c.subject,c.group,c.pub⟩ else ((l.length:Int),vone sf c a rs now l.isEmpty)
def noAnch:Anch:=⟨⟨[],[]⟩,0,[]⟩
def anch (aq:List Anch) (p:Prin):Anch:=(aq.find? λa=>a.name.same p).getD noAnch
def Anch.ok (sv:Int->List UInt8->Bool) (a:Anch):Bool:=a.name.ok && sv a.group a.pub
def vargs (sv:Int->List UInt8->Bool) (l:List Cert) (aq:List Anch) (rs:List Revo) (now:Int):Bool:=chainOk sv l && decide (aq.length<=64) && aq.all (Anch.ok sv) && decide (rs.length<=64) && decide (0<=now) && decide (now<=1099511627776)
def verify (sv:Int->List UInt8->Bool) (l:List Cert) (aq:List Anch) (rs:List Revo) (now:Int):Int×Int:=
 if vargs sv l aq rs now=true then vwalk sf rs now l.reverse (anch aq (match l.reverse with| []=>noAnch.name|c::_=>c.issuer)) else (0,2)
end
end Go.Ct
end
section
namespace Go.Ct
open Go Go.Sy Go.RowKit
def strV (l:List UInt8):Value:=.string (str l)
structure PrinIn (W:World) (C:List Value) (p:Prin):Prop where
 ex: ∃a c,C= [.slice a p.parts.length c,strV p.realm]/\p.parts.length<=c/\c<=maxLen/\SlA W a (p.parts.map strV)/\(a=none->c=0)
 len:p.realm.length<=maxLen/\ ∀x∈p.parts,x.length<=maxLen
theorem PrinIn.keep {w w':World}{C:List Value}{p:Prin}(h:PrinIn w C p) (hk:Keep No w w'):PrinIn w' C p:=by
 obtain ⟨⟨a,c,h1,h2,h3,h4,h5⟩,h6⟩:=h;exact ⟨⟨a,c,h1,h2,h3,h4.keep hk (λ_ _ h=>h),h5⟩,h6⟩
def BytIn (W:World) (v:Value) (l:List UInt8):Prop:=∃a c,v= .slice a l.length c/\l.length<=c/\c<=maxLen/\SlA W a (l.map v8)/\(a=none->c=0)
structure CertIn (W:World) (C:List Value) (c:Cert):Prop where
 ex: ∃I S vp vs,C= .int .i64 c.serial::(I ++ (S ++ [.int .i64 c.fr,.int .i64 c.til,.bool c.auth,.int .i64 c.group,vp,vs]))/\PrinIn W I c.issuer/\PrinIn W S c.subject/\BytIn W vp c.pub/\BytIn W vs c.sig
 rng:(Lit.int .i64 c.serial).wf=true/\(Lit.int .i64 c.fr).wf=true/\(Lit.int .i64 c.til).wf=true/\(Lit.int .i64 c.group).wf=true
structure AnchIn (W:World) (C:List Value) (a:Anch):Prop where
 ex: ∃N vp,C=N ++ [.int .i64 a.group,vp]/\PrinIn W N a.name/\BytIn W vp a.pub
 rng:(Lit.int .i64 a.group).wf=true
structure RevoIn (W:World) (C:List Value) (r:Revo):Prop where
 ex: ∃N,C=N ++ [.int .i64 r.serial]/\PrinIn W N r.issuer
 rng:(Lit.int .i64 r.serial).wf=true
section
variable {H:Type}{enc:TypeId×Value->H}{P:Program}{W:World}
theorem zja {t e:TypeId}{C:List Value}(h:Rdb enc P W t C) (ht:P.underlying t=some (.slice e)) (he:P.underlying e=some (.int .u8)) (hc:P.cellsOf e=1): ∃v l,C= [v]/\BytIn W v l:=by
 obtain ⟨s,h1,h2,h3⟩:=h.bytes ht he hc;exact ⟨s.val,s.l,h1,s.a,s.c,by rw [h2.len];rfl,by rw [h2.len];exact h2.cap,h3,h2.sla,h2.nil⟩
structure PrinTy (P:Program) (t:TypeId):Prop where
 ex: ∃ts te tr,∃f0 f1:Field,P.underlying t=some (.struct #[f0,f1])/\f0.type=ts/\f0.offset=0/\f1.type=tr/\f1.offset=1/\P.cellsOf t=2/\P.underlying ts=some (.slice te)/\P.underlying te=some .string/\P.cellsOf te=1/\P.cellsOf ts=1/\P.underlying tr=some .string/\P.cellsOf tr=1
theorem zfT {t:TypeId}{C:List Value}(h:Rdb enc P W t C) (ht:PrinTy P t): ∃p,PrinIn W C p:=by
 obtain ⟨ts,te,tr,f0,f1,hs,e0,o0,e1,o1,hn,h1,h2,h3,h4,h5,h6⟩:=ht.ex;obtain ⟨hl,hf⟩:=h.struct hs;rw [hn] at hl
 match C,hl with
 | [x,y],_=>
  have r0:=hf f0 q_p;have r1:=hf f1 q_p;rw [e0,o0,h4] at r0;rw [e1,o1,h6] at r1;simp only [List.drop_zero,List.take_succ_cons,List.take_zero,List.drop_succ_cons] at r0 r1;obtain ⟨l,e,hl⟩:=r1.string h5;obtain ⟨a,n,c,xs,e',hxn,hnc,hc,hsl,hnil,hxs⟩:=r0.list (Ψ:=λB (l:List UInt8)=>B= [strV l]/\l.length<=maxLen) h1 h3 q_e (λB hB=>by
   obtain ⟨l,e,hl⟩:=hB.string h2;exact ⟨l,e,hl⟩)
  simp only [List.cons.injEq,and_true] at e e';subst e;subst e';have em:xs.flatMap (·.1)=(xs.map (·.2)).map strV:=by
   have: ∀ys:List (List Value×List UInt8),(∀x∈ys,x.1.length=1/\x.1= [strV x.2]/\x.2.length<=maxLen)->ys.flatMap (·.1)=(ys.map (·.2)).map strV:=by
    intro ys
    induction ys with
    |nil=>intro _;rfl
    |cons y ys ih=>
     intro hy;rw [List.flatMap_cons,ih (λz hz=>hy z (List.mem_cons_of_mem _ hz)),(hy y List.mem_cons_self).2.1];rfl
   exact this xs hxs
  rw [em] at hsl;refine ⟨⟨xs.map (·.2),l⟩,⟨a,c,?_,?_,hc,hsl,hnil⟩,hl,λx hx=>?_⟩
  ·simp only [List.length_map,hxn];rfl
  ·simp only [List.length_map,hxn];exact hnc
  ·obtain ⟨y,hy,rfl⟩:=List.mem_map.1 hx;exact (hxs y hy).2.2
theorem PrinIn.two {C:List Value}{p:Prin}(h:PrinIn W C p):C.length=2:=by
 obtain ⟨a,c,e,_⟩:=h.ex;rw [e];rfl
structure CertTy (P:Program) (t tp ti tb ty te:TypeId):Prop where
 str: ∃f:Nat->Field,P.underlying t=some (.struct #[f 0,f 1,f 2,f 3,f 4,f 5,f 6,f 7,f 8])/\(f 0).type=ti/\(f 0).offset=0/\(f 1).type=tp/\(f 1).offset=1/\(f 2).type=tp/\(f 2).offset=3/\
  (f 3).type=ti/\(f 3).offset=5/\(f 4).type=ti/\(f 4).offset=6/\(f 5).type=tb/\(f 5).offset=7/\(f 6).type=ti/\(f 6).offset=8/\(f 7).type=ty/\(f 7).offset=9/\(f 8).type=ty/\(f 8).offset=10
 cells:P.cellsOf t=11
 prin:PrinTy P tp
 pc:P.cellsOf tp=2
 int:P.underlying ti=some (.int .i64)
 ic:P.cellsOf ti=1
 bool:P.underlying tb=some .bool
 bc:P.cellsOf tb=1
 byt:P.underlying ty=some (.slice te)
 yc:P.cellsOf ty=1
 u8:P.underlying te=some (.int .u8)
 ec:P.cellsOf te=1
theorem zqt {t tp ti tb ty te:TypeId}{C:List Value}(h:Rdb enc P W t C) (T:CertTy P t tp ti tb ty te): ∃c,CertIn W C c:=by
 obtain ⟨f,hs,a0,b0,a1,b1,a2,b2,a3,b3,a4,b4,a5,b5,a6,b6,a7,b7,a8,b8⟩:=T.str;obtain ⟨hl,hf⟩:=h.struct hs;rw [T.cells] at hl
 match C,hl with
 | [x0,x1,x2,x3,x4,x5,x6,x7,x8,x9,x10],_=>
  have r0:=hf (f 0) q_p;have r1:=hf (f 1) q_p;have r2:=hf (f 2) q_p;have r3:=hf (f 3) q_p;have r4:=hf (f 4) q_p;have r5:=hf (f 5) q_p;have r6:=hf (f 6) q_p;have r7:=hf (f 7) q_p;have r8:=hf (f 8) q_p;rw [a0,b0,T.ic] at r0;rw [a1,b1,T.pc] at r1;rw [a2,b2,T.pc] at r2;rw [a3,b3,T.ic] at r3;rw [a4,b4,T.ic] at r4;rw [a5,b5,T.bc] at r5;rw [a6,b6,T.ic] at r6;rw [a7,b7,T.yc] at r7;rw [a8,b8,T.yc] at r8;simp only [List.drop_zero,List.take_succ_cons,List.take_zero,List.drop_succ_cons] at r0 r1 r2 r3 r4 r5 r6 r7 r8;obtain ⟨i0,e0,w0⟩:=r0.int T.int;obtain ⟨p1,h1⟩:=zfT r1 T.prin;obtain ⟨p2,h2⟩:=zfT r2 T.prin;obtain ⟨i3,e3,w3⟩:=r3.int T.int;obtain ⟨i4,e4,w4⟩:=r4.int T.int;obtain ⟨b,e5⟩:=r5.bool T.bool;obtain ⟨i6,e6,w6⟩:=r6.int T.int;obtain ⟨v7,l7,e7,h7⟩:=zja r7 T.byt T.u8 T.ec;obtain ⟨v8,l8,e8,h8⟩:=zja r8 T.byt T.u8 T.ec;simp only [List.cons.injEq,and_true] at e0 e3 e4 e5 e6 e7 e8;subst e0;subst e3;subst e4;subst e5;subst e6;subst e7;subst e8;exact ⟨⟨i0,p1,p2,i3,i4,b,i6,l7,l8⟩,⟨_,_,_,_,rfl,h1,h2,h7,h8⟩,w0,w3,w4,w6⟩
def ListIn {α:Type}(k:Nat) (Ψ:World->List Value->α->Prop) (W:World) (v:Value) (xs:List α):Prop:=∃a c,∃Cs:List (List Value),v= .slice a xs.length c/\xs.length<=c/\c<=maxLen/\SlA W a Cs.flatten/\(a=none->c=0)/\Cs.length=xs.length/\
 ∀(i:Nat) (C:List Value) (x:α),Cs[i]?=some C->xs[i]?=some x->C.length=k/\Ψ W C x
theorem zqh {α:Type}{k:Nat}{Ψ:World->List Value->α->Prop}{t e:TypeId}{C:List Value}(h:Rdb enc P W t C) (ht:P.underlying t=some (.slice e)) (hc:P.cellsOf e=k) (hk:0 < k) (hΨ: ∀B,Rdb enc P W e B-> ∃y,Ψ W B y): ∃v xs,C= [v]/\ListIn k Ψ W v xs:=by
 obtain ⟨a,n,c,xs,e1,hn,hnc,hcm,hsl,hnil,hxs⟩:=h.list (Ψ:=Ψ W) ht hc hk hΨ;refine ⟨_,xs.map (·.2),e1,a,c,xs.map (·.1),by rw [List.length_map,hn],by rw [List.length_map,hn];exact hnc,hcm,?_,hnil,by simp,λi B y h1 h2=>?_⟩
 ·rw [<-List.flatMap_def];exact hsl
 ·rw [List.getElem?_map] at h1 h2;cases hi:xs[i]? with
  |none=>rw [hi] at h1;cases h1
  |some z=>
   rw [hi] at h1 h2;simp only [Option.map_some,Option.some.injEq] at h1 h2;subst h1;subst h2;exact hxs z (List.mem_of_getElem? hi)
structure AnchTy (P:Program) (t tp ti ty te:TypeId):Prop where
 str: ∃f:Nat->Field,P.underlying t=some (.struct #[f 0,f 1,f 2])/\(f 0).type=tp/\(f 0).offset=0/\(f 1).type=ti/\(f 1).offset=2/\(f 2).type=ty/\(f 2).offset=3
 cells:P.cellsOf t=4
theorem zql {t s tp ti tb ty te:TypeId}{C:List Value}(h:Rdb enc P W s C) (T:CertTy P t tp ti tb ty te) (A:AnchTy P s tp ti ty te): ∃c,AnchIn W C c:=by
 obtain ⟨f,hs,a0,b0,a1,b1,a2,b2⟩:=A.str;obtain ⟨hl,hf⟩:=h.struct hs;rw [A.cells] at hl
 match C,hl with
 | [x0,x1,x2,x3],_=>
  have r0:=hf (f 0) q_p;have r1:=hf (f 1) q_p;have r2:=hf (f 2) q_p;rw [a0,b0,T.pc] at r0;rw [a1,b1,T.ic] at r1;rw [a2,b2,T.yc] at r2;simp only [List.drop_zero,List.take_succ_cons,List.take_zero,List.drop_succ_cons] at r0 r1 r2;obtain ⟨p0,h0⟩:=zfT r0 T.prin;obtain ⟨i1,e1,w1⟩:=r1.int T.int;obtain ⟨v2,l2,e2,h2⟩:=zja r2 T.byt T.u8 T.ec;simp only [List.cons.injEq,and_true] at e1 e2;subst e1;subst e2;exact ⟨⟨p0,i1,l2⟩,⟨[x0,x1],_,rfl,h0,h2⟩,w1⟩
structure RevoTy (P:Program) (t tp ti:TypeId):Prop where
 str: ∃f:Nat->Field,P.underlying t=some (.struct #[f 0,f 1])/\(f 0).type=tp/\(f 0).offset=0/\(f 1).type=ti/\(f 1).offset=2
 cells:P.cellsOf t=3
theorem zqw {t s tp ti tb ty te:TypeId}{C:List Value}(h:Rdb enc P W s C) (T:CertTy P t tp ti tb ty te) (A:RevoTy P s tp ti): ∃c,RevoIn W C c:=by
 obtain ⟨f,hs,a0,b0,a1,b1⟩:=A.str;obtain ⟨hl,hf⟩:=h.struct hs;rw [A.cells] at hl
 match C,hl with
 | [x0,x1,x2],_=>
  have r0:=hf (f 0) q_p;have r1:=hf (f 1) q_p;rw [a0,b0,T.pc] at r0;rw [a1,b1,T.ic] at r1;simp only [List.drop_zero,List.take_succ_cons,List.take_zero,List.drop_succ_cons] at r0 r1;obtain ⟨p0,h0⟩:=zfT r0 T.prin;obtain ⟨i1,e1,w1⟩:=r1.int T.int;simp only [List.cons.injEq,and_true] at e1;subst e1;exact ⟨⟨p0,i1⟩,⟨[x0,x1],rfl,h0⟩,w1⟩
end
end Go.Ct
end
section
namespace Go.Proofs.YtdnlngbjpdbffaaGreatDoor
open Go Go.Sy Go.Ct Go.RowKit
attribute [local irreducible] Sy SyL SyX Sy.Fn callFunc
def btw (v a b:Int):Bool:=decide (a<=v) && decide (v<=b)
theorem zfK (v a b:Int) (w:World):Sy.Fn Tryz.prog 219 [.int .i64 v,.int .i64 a,.int .i64 b] w No (Gives (.bool (btw v a b))):=by
 refine zg Tryz.func219 rfl Tryz.ntmps219 q_p Holds.nil ?_;unfold btw;by_cases h1:a<=v
 ·rw [decide_eq_true h1,Bool.true_and];have hd:decide (a<=v)=true:=decide_eq_true h1;by_cases h2:v<=b
  ·rw [decide_eq_true h2];repeat' (first|refine s_0 ?_|(refine zb 0 (za ?_))|(refine zb 1 (za ?_);refine zbB ?_;refine za ?_;refine zbB ?_;refine za ?_))
   exact q_r
  ·rw [decide_eq_false h2];repeat' (first|refine s_0 ?_|(refine zb 0 (za ?_))|(refine zb 1 (za ?_);refine zbB ?_;refine za ?_;refine zbB ?_;refine za ?_))
   exact q_r
 ·rw [decide_eq_false h1,Bool.false_and];repeat' (first|refine s_0 ?_|(refine zb 0 (za ?_))|(refine zb 1 (za ?_);refine zbB ?_;refine za ?_))
  exact q_r
theorem zmk (v:Int) (w:World):Sy.Fn Tryz.prog 217 [.int .i64 v] w No (Gives (.bool (btw v 0 1099511627776))):=by
 refine zg Tryz.func217 rfl Tryz.ntmps217 q_p Holds.nil ?_;repeat' (first|refine s_0 ?_|(refine zb 0 (za ?_))|(refine zb 1 (za ?_);refine yv (zd (hc:=λ_ _ _ _=>(zfK v 0 1099511627776 _))) (k:=?_);refine za ?_))
 exact q_r
theorem znB (v:Int) (w:World):Sy.Fn Tryz.prog 218 [.int .i64 v] w No (Gives (.bool (btw v 0 86400))):=by
 refine zg Tryz.func218 rfl Tryz.ntmps218 q_p Holds.nil ?_;repeat' (first|refine s_0 ?_|(refine zb 0 (za ?_))|(refine zb 1 (za ?_);refine yv (zd (hc:=λ_ _ _ _=>(zfK v 0 86400 _))) (k:=?_);refine za ?_))
 exact q_r
theorem zeq (b:Bool) (e:Int) (w:World):Sy.Fn Tryz.prog 62 [.bool b,.int .i64 e] w No (Gives (.int .i64 (if b then e else 0))):=by
 refine zg Tryz.func62 rfl Tryz.ntmps62 q_p Holds.nil ?_;cases b
 ·repeat' (first|refine s_0 ?_|(refine zB [0,1,3] ?_;refine za ?_))
  exact q_r
 ·repeat' (first|refine s_0 ?_|(refine zB [0,1,2] ?_;refine za ?_))
  exact q_r
theorem zj2 (l:List UInt8) (w:World):Sy.Fn Tryz.prog 235 [strV l] w No (Gives (.bool (decide (1<=l.length) && decide (l.length<=32)))):=by
 refine zg Tryz.func235 rfl Tryz.ntmps235 q_p Holds.nil ?_;unfold strV;have hs:((str l).size:Int)=(l.length:Int):=rfl;by_cases h1:1<=l.length
 ·rw [decide_eq_true h1,Bool.true_and];by_cases h2:l.length<=32
  ·rw [decide_eq_true h2];repeat' (first|refine s_0 ?_|(refine zb 0 (za ?_))|(refine zb 1 (za ?_);refine zad ?_;refine za ?_;refine zbB ?_;refine za ?_))
   exact q_r
  ·rw [decide_eq_false h2];repeat' (first|refine s_0 ?_|(refine zb 0 (za ?_))|(refine zb 1 (za ?_);refine zad ?_;refine za ?_;refine zbB ?_;refine za ?_))
   exact q_r
 ·rw [decide_eq_false h1,Bool.false_and];repeat' (first|refine s_0 ?_|(refine zb 0 (za ?_))|(refine zb 1 (za ?_);refine zad ?_;refine za ?_))
  exact q_r
end Go.Proofs.YtdnlngbjpdbffaaGreatDoor
end
section
namespace Go.Sy
open Go
section
variable {P:Program}{ro:Option Nat}{N:Nat}{w0:World}{M:Nat->Prop}{ds:List Deferred}{g:Nat->Option Value}{L:List Res}{o:Oper}
variable {t t':TypeId}{x z:Operand}{y ye:Ty}
theorem Holds.fresh {B:Nat}{w w':World}{r:Res}(h:Holds B M L w) (hk:Keep No w w') (hr:r.holds w') (ho: ∀b,r.own b->b=w.heap.size) (hB:B<=w.heap.size):Holds B M (r::L) w':=
 (h.keep hk (λ_ _ _ _ h=>h)).cons hr (λx hx b hb hb'=>by
  have h1:=ho b hb;have h2:=Res.own_lt (h.all x hx) hb';omega) (λb hb=> .inl (by have:=ho b hb;omega))
end
section
variable {P:Program}{ro:Option Nat}{N:Nat}{w0:World}{M:Nat->Prop}{ds:List Deferred}{g:Nat->Option Value}{L:List Res}{o:Oper}
variable {t t':TypeId}{x z:Operand}{y ye:Ty}
end
section
variable {P:Program}{ro:Option Nat}{N:Nat}{w0:World}{M:Nat->Prop}{ds:List Deferred}{g:Nat->Option Value}{L:List Res}{o:Oper}
variable {t t':TypeId}{x z:Operand}{y ye:Ty}
def objR (E b:Nat) (C:List Value):Res:=.obj b (.cells C.toArray E (C.length,C.length+1))
theorem zgm {e:Nat}{l:List UInt8}(ho:o.op= .convert t t' x:=by exact rfl) (hx:ev g x=some (.string (str l)):=by exact rfl) (ht:tyOf P t=some y:=by exact ty rfl) {y':Ty}(ht':tyOf P t'=some y':=by exact ty rfl) (hy':y'.desc= .slice e:=by exact rfl) (he:tyOf P e=some ye:=by exact ty rfl) (hye:ye.desc= .int .u8:=by exact rfl):
  OpT P ro N w0 M ds o g L (λv L'=>∃b J,v= .slice (some ⟨b,0,none⟩) l.length (l.length+J.length)/\L'=objR e b (l.map v8 ++ J)::L):=
 OpT.run (by rw [ho];rfl) λa w X hst=>by
  obtain ⟨d,i,hd,hi,hs,_⟩:=zN ht;obtain ⟨d',i',hd',hi',hs',_⟩:=zN ht';rw [hy'] at hs';have:=zaF hs';subst this;obtain ⟨d2,i2,hd2,hi2,hs2,_⟩:=zN he;rw [hye] at hs2;have hd2':d2= .int .u8:=by
   cases d2 <;> simp [slim] at hs2;exact congrArg _ hs2
  subst hd2';have hrun:=Lib.run_convert_string_bytes w t t' e (str l) hd hd' hd2;have hk:Keep No w (Lib.bytesWorld w e (str l)):=⟨rfl,rfl,rfl,by rw [Lib.bytesWorld_size];omega,λk hk _=>Lib.bytesWorld_at_old w e (str l) k hk⟩;have hB:w0.heap.size<=w.heap.size:=hst.keep.size;have hcap:l.length<=grownCap w (str l).size 0 e:=by have:=grownCap_ge w (str l).size 0 e;rw [zgo] at this ⊢;exact this
  have hcells:Lib.bytesCells w e (str l)=(l.map v8 ++ List.replicate (grownCap w (str l).size 0 e - (str l).size) (Value.int .u8 0)).toArray:=by
   apply Array.toList_inj.1;simp [Lib.bytesCells,str,v8,Wd.n8]
  refine ⟨_,_,Lib.bytesWorld w e (str l),_,?_,.inl rfl,⟨w.heap.size,List.replicate (grownCap w (str l).size 0 e - (str l).size) (Value.int .u8 0),rfl,rfl⟩,hst.keep.trans hk (λ_ h=>h.elim),?_⟩
  ·simp only [execOp,ho,hst.agr.eval hx,Sem.run_bind,hrun,Result.andThen_ok];rw [zgo] at hcap ⊢;rw [List.length_replicate,show l.length+(grownCap w l.length 0 e - l.length)=grownCap w l.length 0 e by omega];rfl
  ·refine Holds.fresh hst.hold hk ?_ (λb hb=>hb.symm) hB;show (Lib.bytesWorld w e (str l)).heap[w.heap.size]?=_;rw [Lib.bytesWorld_at_new,hcells,List.size_toArray]
end
end Go.Sy
end
