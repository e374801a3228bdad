/- Lemmas of this proof. -/
import Derived.Test.YtdnlngbjpdbffaaGreatDoorWJ07
set_option maxRecDepth 10000
set_option linter.all false
namespace Go.Ct
def beN(v:Nat):Nat->List UInt8
 |0=>[]
 |k+1=>UInt8.ofNat (v/256^k)::beN v k
theorem zbp(v:Nat):∀k,(beN v k).length=k
 |0=>rfl
 |k+1=>by rw[beN,AQ,zbp v k]
def zaN(v:Nat):Nat:=if h:v<128 then 1 else zaN (v/256)+1
decreasing_by omega
theorem zdd{v:Nat}(h:v<128):zaN v=1:=by rw[zaN,dif_pos h]
theorem ze8{v:Nat}(h:128<=v):zaN v=zaN (v/256)+1:=by rw[zaN,dif_neg q_o]
theorem zeu(v:Nat):1<=zaN v:=by
 rcases AF v 128 with h|h
 ·rw[zdd h];omega
 ·rw[ze8 h];omega
theorem zic:∀(k v:Nat),v<128*256^k->zaN v<=k+1
 |0,v,h=>by rw[zdd q_o];exact A6 _
 |k+1,v,h=>by
  rcases AF v 128 with j|j
  ·rw[zdd j];omega
  ·rw[ze8 j];have:=zic k (v/256) (by rw[AW q_e,B7,<-AN];exact h);omega
theorem zjZ:∀(d v:Nat),v<256^(d+1)->(d=0\/256^d<=v)->zaN v=if 128<=v/256^d then d+2 else d+1
 |0,v,h,_=>by
  rw[An,CF];rcases AF v 128 with j|j
  ·rw[zdd j,if_neg q_o]
  ·rw[ze8 j,if_pos j,zdd q_o]
 |d+1,v,h,h2=>by
  have m:256^(d+1)<=v:=q_o;have A:256<=256^(d+1):=by rw[AN];exact BQ _ (AV q_e)
  have q:v/256<256^(d+1):=by rw[AW q_e,<-AN];exact h
  have r:256^d<=v/256:=by rw[CQ q_e,<-AN];exact m
  have w:v/256/256^d=v/256^(d+1):=by rw[Ap,AN,AK]
  rw[ze8 q_o,zjZ d (v/256) q (.inr r),w];split <;> rfl
def zbW(n:Nat):List UInt8:=
 if n<128 then [UInt8.ofNat n] else if n<256 then [0x81,UInt8.ofNat n] else if n<65536 then [0x82,UInt8.ofNat (n/256),UInt8.ofNat n] else [0x83,UInt8.ofNat (n/65536),UInt8.ofNat (n/256),UInt8.ofNat n]
theorem zko(n:Nat):1<=(zbW n).length/\(zbW n).length<=4:=by grind [zbW]
def tlv(tag:Nat)(l:List UInt8):List UInt8:=UInt8.ofNat tag::(zbW l.length++l)
theorem zX(tag:Nat)(l:List UInt8):l.length+2<=(tlv tag l).length/\(tlv tag l).length<=l.length+5:=by grind [zko,tlv]
def zbf(v:Nat):List UInt8:=tlv 2 (beN v (zaN v))
def zbq(v:Nat):List UInt8:=tlv 0x18 (beN v 6)
def zcF(b:Bool):List UInt8:=tlv 1 [if b then 255 else 0]
def za8(l:List UInt8):List UInt8:=tlv 4 l
def zav(l:List UInt8):List UInt8:=tlv 0x1b l
def zdv(l:List (List UInt8)):List UInt8:=tlv 0x30 l.flatten
def zaw(n:Nat)(l:List UInt8):List UInt8:=tlv (0xa0+n) l
def zcB(c:UInt8):Bool:=(decide (65<=c.toNat)&&decide (c.toNat<=90)) || (decide (48<=c.toNat)&&decide (c.toNat<=57)) || decide (c.toNat=45)
def zcv:Bool->List UInt8->Bool
 |p,[]=>!p
 |p,c::r=>if c=46 then !p&&zcv true r else zcB c&&zcv false r
def zbA(s:List UInt8):Bool:=decide (1<=s.length)&&decide (s.length<=32)&&zcv true s
theorem zhp:∀(l r:List UInt8) (p:Bool),(∀c∈l,c≠46)->zcv p (l++r)=(l.all zcB&&zcv (p&&l.isEmpty) r)
 | [],r,p,_=>by simp
 |c::l,r,p,h=>by
  have j:c≠46:=h c A3
  simp_all[zhp,zcv,Ee]
theorem zr9(l r:List UInt8)(h:∀c∈l,c≠46):zcv true (l++46::r)=(!l.isEmpty&&l.all zcB&&zcv true r):=by
 rw[zhp l _ true h,zcv,if_pos rfl,B6]
 grind
theorem zq5(l:List UInt8)(h:∀c∈l,c≠46):zcv true l=(!l.isEmpty&&l.all zcB):=by
 have:=zhp l [] true h
 grind [zcv]
def zfQ(c:UInt8):Bool:=decide (0x21<=c.toNat)&&decide (c.toNat<=0x7e)
def zb0(s:List UInt8):Bool:=decide (1<=s.length)&&decide (s.length<=32)&&s.all zfQ
structure Prin where
 parts:List (List UInt8)
 realm:List UInt8
def Prin.ok(p:Prin):Bool:=decide (1<=p.parts.length)&&decide (p.parts.length<=4)&&zbA p.realm&&p.parts.all zb0
def Prin.der(p:Prin):List UInt8:=zdv [zaw 0 (zdv (p.parts.map zav)),zaw 1 (zav p.realm)]
structure Cert where
 serial:Int
 issuer:Prin
 subject:Prin
 fr:Int
 til:Int
 auth:Bool
 group:Int
 pub:List UInt8
 sig:List UInt8
def Cert.body(c:Cert):List UInt8:=zdv [zaw 0 (zbf c.serial.toNat),zaw 1 c.issuer.der,zaw 2 c.subject.der,zaw 3 (zbq c.fr.toNat),zaw 4 (zbq c.til.toNat),zaw 5 (zcF c.auth),zaw 6 (zbf c.group.toNat),zaw 7 (za8 c.pub)]
def Cert.der(c:Cert):List UInt8:=zdv [zaw 0 c.body,zaw 1 (za8 c.sig)]
def zau(l:List UInt8):Nat:=l.foldl (λv c=>v*256+c.toNat) 0
theorem ztu(l:List UInt8):∀a:Nat,l.foldl (λv c=>v*256+c.toNat) a=a*256^l.length+zau l:=by
 induction l with
 |nil=>intro a;simp[zau]
 |cons c l ih=>
  intro a;have h0:=ih (0*256+c.toNat);have j:=ih (a*256+c.toNat);simp only[zau,EP,AQ] at*;rw[h0,j,AN,B2];simp only[BF,AZ,<-BI];congr 2;rw[B7,AK 256]
theorem zdw(c:UInt8)(l:List UInt8):zau (c::l)=c.toNat*256^l.length+zau l:=by
 have:=ztu l (0*256+c.toNat);rw[BF,AZ] at this;rw[<-this];simp[zau]
theorem zfq:∀l:List UInt8,zau l<256^l.length
 | []=>by simp[zau]
 |c::l=>by
  have h:=zfq l;have j:=c.toNat_lt;rw[zdw,AQ,AN,AK _ 256];have:=AP (256^l.length) (show c.toNat+1<=256 by omega);rw[B2,Bo] at this;omega
theorem zfx(v:Nat):∀k,zau (beN v k)=v%256^k
 |0=>by simp[beN,zau,C0]
 |k+1=>by
  rw[beN,zdw,zfx v k,zbp,AN,Nat.mod_mul];have:(UInt8.ofNat (v/256^k)).toNat=v/256^k%256:=by simp
  rw[this,AK,Cz]
def zgf(k:Nat):Nat:=if k=1 then 128 else if k=2 then 256 else 65536
def zep:List UInt8->Option (Nat×Nat)
 |_::s::r=>
  if s.toNat<128 then (if s.toNat<=r.length then some (2,2+s.toNat) else none)
  else if s.toNat-128<1\/3<s.toNat-128 then none
  else if r.length<s.toNat-128 then none
  else if zau (r.take (s.toNat-128))<zgf (s.toNat-128) then none
  else if r.length-(s.toNat-128)<zau (r.take (s.toNat-128)) then none
  else some (2+(s.toNat-128),2+(s.toNat-128)+zau (r.take (s.toNat-128)))
 |_=>none
theorem zqd{b:List UInt8}{x y:Nat}(h:zep b=some (x,y)):2<=x/\x<=y/\y<=b.length:=by
 match b,h with
 | [],h=>cases h
 | [_],h=>cases h
 |t::s::r,h=>
  simp only[zep] at h;split at h
  ·split at h
   ·cases h;simp only[AQ];omega
   ·cases h
  ·split at h
   ·cases h
   ·split at h
    ·cases h
    ·split at h
     ·cases h
     ·split at h
      ·cases h
      ·cases h;simp only[AQ];omega
theorem zog(t:UInt8)(l r:List UInt8)(h:l.length<16777216):zep (t::(zbW l.length++(l++r)))=some (1+(zbW l.length).length,1+(zbW l.length).length+l.length):=by
 unfold zbW;split
 ·rename_i q;have e:(UInt8.ofNat l.length).toNat=l.length:=by simp;omega
  simp only[Ab,Af,zep,e,if_pos q,A2,AQ,Ce];rw[if_pos q_o]
 ·split
  ·rename_i q B;have e:(UInt8.ofNat l.length).toNat=l.length:=by simp;omega
   have j:zau [UInt8.ofNat l.length]=l.length:=by rw[zdw,e];simp[zau]
   simp only[Ab,Af,zep];rw[if_neg q_e,if_neg q_e,if_neg q_p];have m:(0x81:UInt8).toNat-128=1:=rfl;simp only[m,By,Bu,j];rw[if_neg (by simp[zgf];omega),if_neg (by simp only[AQ,A2];omega)];rfl
  ·split
   ·rename_i q B E;have w:(UInt8.ofNat (l.length/256)).toNat=l.length/256:=by simp;omega
    have A:(UInt8.ofNat l.length).toNat=l.length%256:=by simp
    have j:zau [UInt8.ofNat (l.length/256),UInt8.ofNat l.length]=l.length:=by rw[zdw,zdw,w,A];simp[zau];omega
    simp only[Ab,Af,zep];rw[if_neg q_e,if_neg q_e,if_neg (by simp only[AQ,A2];show ¬_<2;omega)];have m:(0x82:UInt8).toNat-128=2:=rfl;simp only[m,By,Bu,j];rw[if_neg (by simp[zgf];omega),if_neg (by simp only[AQ,A2];omega)];rfl
   ·rename_i q B E;have C:(UInt8.ofNat (l.length/65536)).toNat=l.length/65536:=by simp;omega
    have w:(UInt8.ofNat (l.length/256)).toNat=l.length/256%256:=by simp
    have A:(UInt8.ofNat l.length).toNat=l.length%256:=by simp
    have j:zau [UInt8.ofNat (l.length/65536),UInt8.ofNat (l.length/256),UInt8.ofNat l.length]=l.length:=by rw[zdw,zdw,zdw,C,w,A];simp[zau];omega
    simp only[Ab,Af,zep];rw[if_neg q_e,if_neg q_e,if_neg (by simp only[AQ,A2];show ¬_<3;omega)];have m:(0x83:UInt8).toNat-128=3:=rfl;simp only[m,By,Bu,j];rw[if_neg (by simp[zgf];omega),if_neg (by simp only[AQ,A2];omega)];rfl
def za0(tag:Nat)(b:List UInt8):Option (List UInt8×List UInt8):=
 match b with
 | []=>none
 |t::_=>if t.toNat=tag then (zep b).map (λp=>((b.take p.2).drop p.1,b.drop p.2)) else none
theorem zgB{tag:Nat}{b l r:List UInt8}(h:za0 tag b=some (l,r)):r.length<b.length/\l.length+r.length<b.length:=by
 match b,h with
 |t::b,h=>
  simp only[za0] at h;split at h
  ·cases hm:zep (t::b) with
   |none=>rw[hm] at h;cases h
   |some p=>
    rw[hm] at h;obtain⟨x,y⟩:=p;have:=zqd hm;simp only[CU,Bp,Ek] at h;obtain⟨rfl,rfl⟩:=h;simp only[Ar,AR];omega
  ·cases h
theorem zd5(tag:Nat)(l r:List UInt8)(B:tag<256)(h:l.length<16777216):za0 tag (tlv tag l++r)=some (l,r):=by
 have e:tlv tag l++r=UInt8.ofNat tag::(zbW l.length++(l++r)):=by simp[tlv]
 have A:(UInt8.ofNat tag).toNat=tag:=by simp;omega
 rw[e,za0,if_pos A,zog _ l r h];simp only[CU,Bp,Ek];have j:UInt8.ofNat tag::(zbW l.length++(l++r))=(UInt8.ofNat tag::zbW l.length)++(l++r):=rfl;have m:1+(zbW l.length).length=(UInt8.ofNat tag::zbW l.length).length:=by simp;omega
 rw[j,m];have q:(UInt8.ofNat tag::zbW l.length++(l++r))=((UInt8.ofNat tag::zbW l.length)++l)++r:=by simp
 have w:(UInt8.ofNat tag::zbW l.length).length+l.length=((UInt8.ofNat tag::zbW l.length)++l).length:=by simp;omega
 rw[q,w,Cx,DO,DO];exact⟨rfl,rfl⟩
theorem zxB{tag:Nat}{l j:List UInt8}(q:tag<256)(h:l.length<16777216)(r:j.length<16777216)(e:tlv tag l=tlv tag j):l=j:=by
 have m:=zd5 tag l [] q h;rw[e,zd5 tag j [] q r] at m;simpa using m.symm
def zbg(v:Int):Nat:=if h: -128<=v/\v<=127 then 1 else zbg (v/256)+1
termination_by v.natAbs
decreasing_by omega
def beZ(v:Int):Nat->List UInt8
 |0=>[]
 |k+1=>UInt8.ofNat (v/256^k%256).toNat::beZ v k
theorem zjz(v:Int):∀k,(beZ v k).length=k
 |0=>rfl
 |k+1=>by rw[beZ,AQ,zjz v k]
theorem zml(v:Nat):zbg (v:Int)=zaN v:=by
 induction v using Nat.strongRecOn with
 |_ v j=>
  rw[zbg,zaN];by_cases h:v<128
  ·rw[dif_pos q_o,dif_pos h]
  ·rw[dif_neg q_o,dif_neg h,<-j (v/256) q_o];simp
theorem zjD(v:Nat):∀k,beZ (v:Int) k=beN v k
 |0=>rfl
 |k+1=>by
  rw[beZ,beN,zjD v k];congr 1;have:((v:Int)/256^k%256)=((v/256^k%256:Nat):Int):=by push_cast;rfl
  rw[this,Bj];apply Bc.1;simp
def zdV:List UInt8->Int
 | []=>0
 |c::r=>(if c.toNat<128 then (c.toNat:Int) else (c.toNat:Int)-256)*(256^r.length:Nat)+(zau r:Int)
theorem zif(v:Nat):v<128*256^(zaN v-1):=by
 induction v using Nat.strongRecOn with
 |_ v q=>
  rcases AF v 128 with h|h
  ·rw[zdd h];simpa using h
  ·rw[ze8 h];have j:=q (v/256) q_o;obtain⟨k,m⟩:∃k,zaN (v/256)=k+1:=⟨zaN (v/256)-1,by have:=zeu (v/256);omega⟩;rw[m] at j ⊢;simp only[Au] at j ⊢;rw[AW q_e] at j;rw[AN,<-B7];exact j
theorem zvk(v:Nat):zdV (beN v (zaN v))=v:=by
 obtain⟨k,m⟩:∃k,zaN v=k+1:=⟨zaN v-1,by have:=zeu v;omega⟩;have h:=zif v;rw[m,Au] at h;have j:v/256^k<128:=by rw[AW (AV q_e)];exact h
 rw[m,beN,zdV,zbp,zfx];have e:(UInt8.ofNat (v/256^k)).toNat=v/256^k:=by simp;omega
 rw[e,if_pos j];have:=Aa v (256^k);rw[AK] at this;exact_mod_cast this
def zbV:Int:=4611686018427387904
def rdI(l:List UInt8):Option Int:=if 1<=l.length/\l.length<=8/\ -zbV<=zdV l/\zdV l<=zbV/\beZ (zdV l) (zbg (zdV l))=l then some (zdV l) else none
theorem zf2{v:Nat}(h:v<=4611686018427387904):zaN v<=8:=zic 7 v q_o
theorem zwb{v:Nat}(h:v<=4611686018427387904):rdI (beN v (zaN v))=some (v:Int):=by
 have j:=zeu v;have m:=zf2 h;rw[rdI,zvk,zbp,if_pos];exact⟨j,m,by unfold zbV;omega,by unfold zbV;omega,by rw[zml,zjD]⟩
def rdT(l:List UInt8):Option Int:=if l.length=6/\zau l<=1099511627776 then some (zau l:Int) else none
theorem zw4{v:Nat}(h:v<=1099511627776):rdT (beN v 6)=some (v:Int):=by
 have:v%256^6=v:=A7 q_o;rw[rdT,zbp,zfx,this,if_pos ⟨rfl,h⟩]
def rdB(l:List UInt8):Option Bool:=match l with
 | [c]=>if c=255 then some true else if c=0 then some false else none
 |_=>none
theorem zuR(b:Bool):rdB [if b then 255 else 0]=some b:=by cases b <;> rfl
def rdV{α:Type}(tag:Nat)(f:List UInt8->Option α)(b:List UInt8):Option (α×List UInt8):=(za0 tag b).bind λp=>(f p.1).map λv=>(v,p.2)
def rdW{α:Type}(tag:Nat)(f:List UInt8->Option (α×List UInt8))(b:List UInt8):Option (α×List UInt8):=(za0 tag b).bind λp=>(f p.1).bind λq=>if q.2= [] then some (q.1,p.2) else none
theorem zjy{α:Type}{tag:Nat}{f:List UInt8->Option α}{l r:List UInt8}{v:α}(m:tag<256)(h:l.length<16777216)(j:f l=some v):rdV tag f (tlv tag l++r)=some (v,r):=by
 rw[rdV,zd5 tag l r m h];simp[j]
theorem zdP{α:Type}{tag:Nat}{f:List UInt8->Option (α×List UInt8)}{l r:List UInt8}{v:α}(m:tag<256)(h:l.length<16777216)(j:f l=some (v,[])):rdW tag f (tlv tag l++r)=some (v,r):=by
 rw[rdW,zd5 tag l r m h];simp[j]
def zb6(b:List UInt8):Option (List (List UInt8)):=if b= [] then some [] else match h:za0 0x1b b with
 |none=>none
 |some p=>(zb6 p.2).map (p.1:: ·)
termination_by b.length
decreasing_by exact(zgB h).1
theorem zkH:zb6 []=some []:=by rw[zb6,if_pos rfl]
theorem zj0{b l r:List UInt8}(h:za0 0x1b b=some (l,r)):zb6 b=(zb6 r).map (l:: ·):=by
 have m:b≠[]:=λe=>by rw[e] at h;cases h
 rw[zb6,if_neg m];split
 ·rename_i j;rw[h] at j;cases j
 ·rename_i p j;rw[h] at j;cases j;rfl
theorem zpr{b:List UInt8}(hb:b≠[])(h:za0 0x1b b=none):zb6 b=none:=by
 rw[zb6,if_neg hb];split
 ·rfl
 ·rename_i p j;rw[h] at j;cases j
theorem zkQ:∀j:List (List UInt8),(∀p∈j,p.length<16777216)->zb6 (j.map zav).flatten=some j
 | [],_=>zkH
 |p::j,h=>by
  have m:=zd5 0x1b p (j.map zav).flatten q_e (h p A3);rw[Aw,Br,zav,zj0 m,zkQ j (λq r=>h q (A4 _ r))];rfl
def rdP(b:List UInt8):Option (Prin×List UInt8):=
 (za0 0x30 b).bind λs=>(rdW 0xa0 (za0 0x30) s.1).bind λps=>(zb6 ps.1).bind λparts=>(rdW 0xa1 (za0 0x1b) ps.2).bind λrl=>
  if rl.2= []/\(Prin.mk parts rl.1).ok=true then some (⟨parts,rl.1⟩,s.2) else none
def zbI(s:List UInt8):Option (Cert×List UInt8):=
 (rdW 0xa0 (rdV 2 rdI) s).bind λa=>(rdW 0xa1 rdP a.2).bind λb=>(rdW 0xa2 rdP b.2).bind λc=>(rdW 0xa3 (rdV 0x18 rdT) c.2).bind λd=>
 (rdW 0xa4 (rdV 0x18 rdT) d.2).bind λe=>(rdW 0xa5 (rdV 1 rdB) e.2).bind λf=>(rdW 0xa6 (rdV 2 rdI) f.2).bind λg=>(rdW 0xa7 (rdV 4 some) g.2).bind λh=>
 some (⟨a.1,b.1,c.1,d.1,e.1,f.1,g.1,h.1,[]⟩,h.2)
def zeZ(s:List UInt8):Option (Cert×List UInt8):=
 (rdW 0xa0 (rdW 0x30 zbI) s).bind λa=>(rdW 0xa1 (rdV 4 some) a.2).bind λb=>some ({ a.1 with sig:=b.1 },b.2)
def zfj(b:List UInt8):Option (Cert×List UInt8):=rdW 0x30 zeZ b
theorem Prin.ok_parts{p:Prin}(h:p.ok=true):p.parts.length<=4/\(∀x∈p.parts,x.length<=32)/\p.realm.length<=32:=by
 simp only[Prin.ok,AA,decide_eq_true_eq,AL,zb0,zbA] at h;exact⟨h.1.1.2,λx j=>((h.2 x j).1).2,h.1.2.1.2⟩
def F6:=@Prin.ok_parts
theorem flat_len(m:Nat):∀l:List (List UInt8),(∀x∈l,x.length<=m)->l.flatten.length<=l.length*m
 | [],_=>by simp
 |x::l,h=>by
  have q:=flat_len m l (λy j=>h y (A4 _ j));have r:=h x A3;rw[Br,A2,AQ,B2];omega
theorem Prin.strs_len{p:Prin}(h:p.ok=true):(p.parts.map zav).flatten.length<=148:=by
 obtain⟨r,j,w⟩:=F6 h;have:=flat_len 37 (p.parts.map zav) (λx m=>by
  obtain⟨y,q,rfl⟩:=C4.1 m;have:=(zX 0x1b y).2;have:=j y q;unfold zav;omega)
 rw[A0] at this;omega
def FV:=@Prin.strs_len
theorem Prin.der_len{p:Prin}(h:p.ok=true):p.der.length<=205:=by
 obtain⟨j,m,q⟩:=F6 h;have r:=FV h;have a1:=(zX 0x30 (p.parts.map zav).flatten).2;have a2:=(zX 0xa0 (tlv 0x30 (p.parts.map zav).flatten)).2;have a3:=(zX 0x1b p.realm).2;have a4:=(zX 0xa1 (tlv 0x1b p.realm)).2;have a5:=(zX 0x30 [tlv 0xa0 (tlv 0x30 (p.parts.map zav).flatten),tlv 0xa1 (tlv 0x1b p.realm)].flatten).2;simp only[Br,CG,AG,A2] at a5;have e:p.der.length=(tlv 0x30 (tlv 0xa0 (tlv 0x30 (p.parts.map zav).flatten)++tlv 0xa1 (tlv 0x1b p.realm))).length:=by
  simp only[Prin.der,zdv,zaw,zav,Br,CG,AG]
 rw[e];omega
def F8:=@Prin.der_len
theorem zxw{p:Prin}(h:p.ok=true)(r:List UInt8):rdP (p.der++r)=some (p,r):=by
 obtain⟨E,A,F⟩:=F6 h;have G:=FV h;have H:=F8 h;have a1:=zX 0x30 (p.parts.map zav).flatten;have a3:=zX 0x1b p.realm;have a5:=(zX 0x30 [tlv 0xa0 (tlv 0x30 (p.parts.map zav).flatten),tlv 0xa1 (tlv 0x1b p.realm)].flatten).1;have B: [tlv 0xa0 (tlv 0x30 (p.parts.map zav).flatten),tlv 0xa1 (tlv 0x1b p.realm)].flatten.length<16777216:=by
  have:p.der.length=(tlv 0x30 [tlv 0xa0 (tlv 0x30 (p.parts.map zav).flatten),tlv 0xa1 (tlv 0x1b p.realm)].flatten).length:=rfl;omega
 have j:za0 0x30 (p.der++r)=some ([tlv 0xa0 (tlv 0x30 (p.parts.map zav).flatten),tlv 0xa1 (tlv 0x1b p.realm)].flatten,r):=zd5 0x30 _ r q_e B;have m:rdW 0xa0 (za0 0x30) [tlv 0xa0 (tlv 0x30 (p.parts.map zav).flatten),tlv 0xa1 (tlv 0x1b p.realm)].flatten=some ((p.parts.map zav).flatten,tlv 0xa1 (tlv 0x1b p.realm)):=by
  simp only[Br,CG,AG];refine zdP q_e q_o ?_;have:=zd5 0x30 (p.parts.map zav).flatten [] q_e q_o;rwa[AG] at this
 have q:zb6 (p.parts.map zav).flatten=some p.parts:=zkQ _ (λx C=>by have:=A x C;omega);have w:rdW 0xa1 (za0 0x1b) (tlv 0xa1 (tlv 0x1b p.realm))=some (p.realm,[]):=by
  have:=zdP (tag:=0xa1) (f:=za0 0x1b) (l:=tlv 0x1b p.realm) (r:=[]) (v:=p.realm) q_e q_o (by
   have:=zd5 0x1b p.realm [] q_e q_o;rwa[AG] at this)
  rwa[AG] at this
 simp only[rdP,j,Ac,m,q,w];rw[if_pos ⟨trivial,h⟩]
structure Cert.small(c:Cert):Prop where
 s0:0<=c.serial
 s1:c.serial<=4611686018427387904
 iss:c.issuer.ok=true
 sub:c.subject.ok=true
 f0:0<=c.fr
 f1:c.fr<=1099511627776
 t0:0<=c.til
 t1:c.til<=1099511627776
 g0:0<=c.group
 g1:c.group<=4611686018427387904
 pub:c.pub.length<1000000
 sig:c.sig.length<1000000
theorem zdI{v:Nat}(h:v<=4611686018427387904):2<=(zbf v).length/\(zbf v).length<=13:=by
 have:=zX 2 (beN v (zaN v));have:=zf2 h;rw[zbp] at*;unfold zbf;omega
theorem zy2{n v:Nat}(hn:n<256)(h:v<=4611686018427387904)(r:List UInt8):rdW n (rdV 2 rdI) (tlv n (zbf v)++r)=some ((v:Int),r):=by
 have j:=zdI h;refine zdP hn q_o ?_;have:=zjy (tag:=2) (f:=rdI) (l:=beN v (zaN v)) (r:=[]) q_e (by rw[zbp];have:=zf2 h;omega) (zwb h);rwa[AG] at this
theorem zzp{n:Nat}{p:Prin}(hn:n<256)(h:p.ok=true)(r:List UInt8):rdW n rdP (tlv n p.der++r)=some (p,r):=by
 refine zdP hn (by have:=F8 h;omega) ?_;have:=zxw h [];rwa[AG] at this
theorem zgN(v:Nat):(zbq v).length<=11:=by
 have:=(zX 0x18 (beN v 6)).2;rw[zbp] at this;unfold zbq;omega
theorem zy9{n v:Nat}(hn:n<256)(h:v<=1099511627776)(r:List UInt8):rdW n (rdV 0x18 rdT) (tlv n (zbq v)++r)=some ((v:Int),r):=by
 refine zdP hn (by have:=zgN v;omega) ?_;have:=zjy (tag:=0x18) (f:=rdT) (l:=beN v 6) (r:=[]) q_e (by rw[zbp];decide) (zw4 h);rwa[AG] at this
theorem zz0{n:Nat}{b:Bool}(hn:n<256)(r:List UInt8):rdW n (rdV 1 rdB) (tlv n (zcF b)++r)=some (b,r):=by
 refine zdP hn (by cases b <;> decide) ?_;have:=zjy (tag:=1) (f:=rdB) (l:=[if b then 255 else 0]) (r:=[]) q_e (by rw[EV];decide) (zuR b);rwa[AG] at this
theorem zfF(l:List UInt8):(za8 l).length<=l.length+5:=(zX 4 l).2
theorem zze{n:Nat}{l:List UInt8}(hn:n<256)(h:l.length<1000000)(r:List UInt8):rdW n (rdV 4 some) (tlv n (za8 l)++r)=some (l,r):=by
 refine zdP hn (by have:=zfF l;omega) ?_;have:=zjy (tag:=4) (f:=some) (l:=l) (r:=[]) q_e q_o rfl;rwa[AG] at this
def Cert.flat(c:Cert):List UInt8:=tlv 0xa0 (zbf c.serial.toNat)++(tlv 0xa1 c.issuer.der++(tlv 0xa2 c.subject.der++(tlv 0xa3 (zbq c.fr.toNat)++(tlv 0xa4 (zbq c.til.toNat)++(tlv 0xa5 (zcF c.auth)++(tlv 0xa6 (zbf c.group.toNat)++tlv 0xa7 (za8 c.pub)))))))
theorem Cert.body_flat(c:Cert):c.body=tlv 0x30 c.flat:=by
 simp only[Cert.body,zdv,zaw,Cert.flat,Br,CG,AG]
def FN:=@Cert.body_flat
theorem Cert.flat_len{c:Cert}(h:c.small):c.flat.length<=600+c.pub.length:=by
 have a0:=(zX 0xa0 (zbf c.serial.toNat)).2;have a1:=(zX 0xa1 c.issuer.der).2;have a2:=(zX 0xa2 c.subject.der).2;have a3:=(zX 0xa3 (zbq c.fr.toNat)).2;have a4:=(zX 0xa4 (zbq c.til.toNat)).2;have a5:=(zX 0xa5 (zcF c.auth)).2;have j:=(zX 0xa6 (zbf c.group.toNat)).2;have m:=(zX 0xa7 (za8 c.pub)).2;have q:=zdI (v:=c.serial.toNat) (by have:=h.s1;omega);have r:=F8 h.iss;have w:=F8 h.sub;have A:=zgN c.fr.toNat;have B:=zgN c.til.toNat;have C:(zcF c.auth).length<=3:=by cases c.auth <;> decide
 have E:=zdI (v:=c.group.toNat) (by have:=h.g1;omega);have F:=zfF c.pub;simp only[Cert.flat,A2];omega
def GZ:=@Cert.flat_len
theorem zpe{c:Cert}(h:c.small)(r:List UInt8):zbI (c.flat++r)=some ({ c with sig:=[] },r):=by
 have j:=zy2 (n:=0xa0) (v:=c.serial.toNat) q_e (by have:=h.s1;omega);have m:=zzp (n:=0xa1) q_e h.iss;have q:=zzp (n:=0xa2) q_e h.sub;have w:=zy9 (n:=0xa3) (v:=c.fr.toNat) q_e (by have:=h.f1;omega);have A:=zy9 (n:=0xa4) (v:=c.til.toNat) q_e (by have:=h.t1;omega);have B:=zz0 (n:=0xa5) (b:=c.auth) q_e;have C:=zy2 (n:=0xa6) (v:=c.group.toNat) q_e (by have:=h.g1;omega);have E:=zze (n:=0xa7) (l:=c.pub) q_e h.pub;simp only[zbI,Cert.flat,AH,j,m,q,w,A,B,C,E,Ac];rw[AT h.s0,AT h.f0,AT h.t0,AT h.g0]
theorem Cert.der_flat(c:Cert):c.der=tlv 0x30 (tlv 0xa0 (tlv 0x30 c.flat)++tlv 0xa1 (za8 c.sig)):=by
 simp only[Cert.der,zdv,zaw,FN,Br,CG,AG]
def Ff:=@Cert.der_flat
theorem zq3{c:Cert}(h:c.small)(r:List UInt8):zfj (c.der++r)=some (c,r):=by
 have w:=GZ h;have A:=h.pub;have q:=h.sig;have a1:=zX 0x30 c.flat;have a2:=zX 0xa0 (tlv 0x30 c.flat);have a3:=zfF c.sig;have a4:=zX 0xa1 (za8 c.sig);rw[Ff,zfj];refine zdP q_e (by simp only[A2];omega) ?_;have m:rdW 0xa0 (rdW 0x30 zbI) (tlv 0xa0 (tlv 0x30 c.flat)++tlv 0xa1 (za8 c.sig))=some ({ c with sig:=[] },tlv 0xa1 (za8 c.sig)):=by
  refine zdP q_e q_o ?_;have:=zdP (tag:=0x30) (f:=zbI) (l:=c.flat) (r:=[]) (v:={ c with sig:=[] }) q_e q_o (by
   have:=zpe h [];rwa[AG] at this)
  rwa[AG] at this
 have j:=zze (n:=0xa1) (l:=c.sig) q_e q [];rw[AG] at j;simp only[zeZ,m,j,Ac]
def zfl:List UInt8->Option (Nat×Nat)
 |_::s::r=>
  if s.toNat<128 then (if s.toNat<=r.length then some (2,2+s.toNat) else none)
  else if s.toNat-128<1\/3<s.toNat-128 then none
  else if r.length<s.toNat-128 then none
  else if r.length-(s.toNat-128)<zau (r.take (s.toNat-128)) then none
  else some (2+(s.toNat-128),2+(s.toNat-128)+zau (r.take (s.toNat-128)))
 |_=>none
theorem zrX{b:List UInt8}{p:Nat×Nat}(h:zep b=some p):zfl b=some p:=by
 match b,h with
 |t::s::r,h=>
  simp only[zep] at h;simp only[zfl];by_cases h1:s.toNat<128
  ·rw[if_pos h1] at h ⊢;exact h
  ·rw[if_neg h1] at h ⊢;by_cases h2:s.toNat-128<1\/3<s.toNat-128
   ·rw[if_pos h2] at h;cases h
   ·rw[if_neg h2] at h ⊢;by_cases h3:r.length<s.toNat-128
    ·rw[if_pos h3] at h;cases h
    ·rw[if_neg h3] at h ⊢;by_cases h4:zau (r.take (s.toNat-128))<zgf (s.toNat-128)
     ·rw[if_pos h4] at h;cases h
     ·rw[if_neg h4] at h;exact h
theorem zjA{b:List UInt8}{p:Nat×Nat}(h:zfl b=some p):2<=p.1/\p.1<=p.2/\p.2<=b.length:=by
 match b,h with
 | [],h=>cases h
 | [_],h=>cases h
 |t::s::r,h=>
  simp only[zfl] at h;split at h
  ·split at h
   ·cases h;simp only[AQ];omega
   ·cases h
  ·split at h
   ·cases h
   ·split at h
    ·cases h
    ·split at h
     ·cases h
     ·cases h;simp only[AQ];omega
def zaL(b:List UInt8):List UInt8:=match zfl b with
 |none=>[]
 |some p=>(b.take p.2).drop p.1
theorem zwc(tag:Nat)(l r:List UInt8):tlv tag l++r=UInt8.ofNat tag::(zbW l.length++(l++r)):=by simp[tlv]
theorem znj(tag:Nat)(l r:List UInt8)(h:l.length<16777216):zfl (tlv tag l++r)=some (1+(zbW l.length).length,(tlv tag l).length):=by
 rw[zwc,zrX (zog _ l r h)];simp only[tlv,AQ,A2];congr 2;omega
theorem zs4(tag:Nat)(l r:List UInt8)(h:l.length<16777216):zaL (tlv tag l++r)=l:=by
 rw[zaL,znj tag l r h];show((tlv tag l++r).take (tlv tag l).length).drop _=_;rw[Cx];have e:tlv tag l=(UInt8.ofNat tag::zbW l.length)++l:=rfl;have j:1+(zbW l.length).length=(UInt8.ofNat tag::zbW l.length).length:=by simp;omega
 rw[e,j,DO]
theorem zbF(tag:Nat)(l:List UInt8)(h:l.length<16777216):zaL (tlv tag l)=l:=by
 have:=zs4 tag l [] h;rwa[AG] at this
def zb5(b:List UInt8):List (List UInt8):=match h:zfl b with
 |none=>[]
 |some p=>b.take p.2::zb5 (b.drop p.2)
termination_by b.length
decreasing_by have:=zjA h;simp only[Ar];omega
theorem zhQ{b:List UInt8}(h:zfl b=none):zb5 b= []:=by
 rw[zb5];split
 ·rfl
 ·rename_i p j;rw[h] at j;cases j
theorem zhU{b:List UInt8}{p:Nat×Nat}(h:zfl b=some p):zb5 b=b.take p.2::zb5 (b.drop p.2):=by
 rw[zb5];split
 ·rename_i j;rw[h] at j;cases j
 ·rename_i m j;rw[h] at j;cases j;rfl
theorem ziL:zb5 []= []:=zhQ rfl
theorem zcm(tag:Nat)(l r:List UInt8)(h:l.length<16777216):zb5 (tlv tag l++r)=tlv tag l::zb5 r:=by
 rw[zhU (znj tag l r h),Cx,DO]
theorem zh6(tag:Nat)(l:List UInt8)(h:l.length<16777216):zb5 (tlv tag l)= [tlv tag l]:=by
 have:=zcm tag l [] h;rwa[AG,ziL] at this
def pick(t:Nat):List (List UInt8)->List UInt8
 | []=>[]
 |x::l=>if (x.headD 0).toNat=t then zaL x else pick t l
def item(s:List UInt8)(n:Nat):List UInt8:=pick (0xa0+n) (zb5 (zaL s))
theorem zb9{t:Nat}{l:List UInt8}{r:List (List UInt8)}(j:t<256)(h:l.length<16777216):pick t (tlv t l::r)=l:=by
 have:((tlv t l).headD 0).toNat=t:=by simp[tlv];omega
 rw[pick,if_pos this,zbF _ _ h]
theorem zde{t u:Nat}{l:List UInt8}{r:List (List UInt8)}(hu:u<256)(j:u≠t):pick t (tlv u l::r)=pick t r:=by
 have:((tlv u l).headD 0).toNat=u:=by simp[tlv];omega
 rw[pick,if_neg (by rw[this];exact j)]
def zcj(b:List UInt8):Int:=zau ((zaL b).take 7)
def w64(n:Nat):Int:=if n%18446744073709551616<9223372036854775808 then ((n%18446744073709551616:Nat):Int) else ((n%18446744073709551616:Nat):Int)-18446744073709551616
def zfn(b:List UInt8):Int:=w64 (zau ((zaL b).take 8))
def zdu(b:List UInt8):Prin:=⟨(zb5 (zaL (item b 0))).map zaL,zaL (item b 1)⟩
def zfL(b:List UInt8):Cert:=
  ⟨zfn (item (item b 0) 0),zdu (item (item b 0) 1),zdu (item (item b 0) 2),zcj (item (item b 0) 3),zcj (item (item b 0) 4),
   (match zaL (item (item b 0) 5) with| []=>false|c::_=>c != 0),zcj (item (item b 0) 6),zaL (item (item b 0) 7),zaL (item b 1)⟩
theorem zto{v:Nat}(h:v<=4611686018427387904):zfn (zbf v)=v:=by
 have w:=zf2 h;have m:=zif v;have q:(beN v (zaN v)).length=zaN v:=zbp _ _;rw[zfn,zbf,zbF _ _ q_o,A8 q_o,zfx];have r:=zeu v;have e:v%256^zaN v=v:=A7 (by
  obtain⟨k,j⟩:∃k,zaN v=k+1:=⟨zaN v-1,by omega⟩;rw[j,Au] at m;rw[j,AN];omega)
 rw[e,w64,A7 q_o,if_pos q_o]
theorem zu0{v:Nat}(h:v<36028797018963968):zcj (zbf v)=v:=by
 have w:zaN v<=7:=zic 6 v q_o;have m:=zif v;have q:(beN v (zaN v)).length=zaN v:=zbp _ _;rw[zcj,zbf,zbF _ _ q_o,A8 q_o,zfx];have r:=zeu v;have e:v%256^zaN v=v:=A7 (by
  obtain⟨k,j⟩:∃k,zaN v=k+1:=⟨zaN v-1,by omega⟩;rw[j,Au] at m;rw[j,AN];omega)
 rw[e]
theorem zms{v:Nat}(h:v<=1099511627776):zcj (zbq v)=v:=by
 have j:(beN v 6).length=6:=zbp _ _;rw[zcj,zbq,zbF _ _ q_o,A8 q_o,zfx,A7 q_o]
theorem zkM:∀j:List (List UInt8),(∀p∈j,p.length<16777216)->(zb5 (j.map zav).flatten).map zaL=j
 | [],_=>by rw[List.map_nil,CG,ziL];rfl
 |p::j,h=>by
  have h0:=h p A3;rw[Aw,Br,zav,zcm _ _ _ h0,Aw,zbF _ _ h0,zkM j (λq m=>h q (A4 _ m))]
theorem znt{p:Prin}(h:p.ok=true):zdu p.der=p:=by
 obtain⟨r,m,w⟩:=F6 h;have A:=FV h;have a1:=zX 0x30 (p.parts.map zav).flatten;have a2:=zX 0xa0 (tlv 0x30 (p.parts.map zav).flatten);have a3:=zX 0x1b p.realm;have a4:=zX 0xa1 (tlv 0x1b p.realm);have e:p.der=tlv 0x30 (tlv 0xa0 (tlv 0x30 (p.parts.map zav).flatten)++tlv 0xa1 (tlv 0x1b p.realm)):=by
  simp only[Prin.der,zdv,zaw,zav,Br,CG,AG]
 have j:zb5 (zaL p.der)= [tlv 0xa0 (tlv 0x30 (p.parts.map zav).flatten),tlv 0xa1 (tlv 0x1b p.realm)]:=by
  rw[e,zbF _ _ (by simp only[A2];omega),zcm _ _ _ q_o,zh6 _ _ q_o]
 have i0:item p.der 0=tlv 0x30 (p.parts.map zav).flatten:=by rw[item,j];exact zb9 q_e q_o
 have i1:item p.der 1=tlv 0x1b p.realm:=by rw[item,j,zde q_e q_e];exact zb9 q_e q_o
 rw[zdu,i0,i1,zbF _ _ q_o,zbF _ _ q_o,zkM _ (λx q=>by have:=m x q;omega)]
theorem zuc{c:Cert}(h:c.small)(N:c.group<36028797018963968):zfL c.der=c:=by
 have O:=GZ h;have P:=h.pub;have Q:=h.sig;have a1:=zX 0x30 c.flat;have a2:=zX 0xa0 (tlv 0x30 c.flat);have a3:=zfF c.sig;have a4:=zX 0xa1 (za8 c.sig);have B:=zdI (v:=c.serial.toNat) (by have:=h.s1;omega);have C:=F8 h.iss;have E:=F8 h.sub;have F:=zgN c.fr.toNat;have G:=zgN c.til.toNat;have H:(zcF c.auth).length<=3:=by cases c.auth <;> decide
 have I:=zdI (v:=c.group.toNat) (by have:=h.g1;omega);have J:=zfF c.pub;have m:zb5 (zaL c.der)= [tlv 0xa0 (tlv 0x30 c.flat),tlv 0xa1 (za8 c.sig)]:=by
  rw[Ff,zbF _ _ (by simp only[A2];omega),zcm _ _ _ q_o,zh6 _ _ q_o]
 have i0:item c.der 0=tlv 0x30 c.flat:=by rw[item,m];exact zb9 q_e q_o
 have i1:item c.der 1=za8 c.sig:=by rw[item,m,zde q_e q_e];exact zb9 q_e q_o
 have j:zb5 (zaL (tlv 0x30 c.flat))= [tlv 0xa0 (zbf c.serial.toNat),tlv 0xa1 c.issuer.der,tlv 0xa2 c.subject.der,tlv 0xa3 (zbq c.fr.toNat),tlv 0xa4 (zbq c.til.toNat),tlv 0xa5 (zcF c.auth),tlv 0xa6 (zbf c.group.toNat),tlv 0xa7 (za8 c.pub)]:=by
  rw[zbF _ _ q_o,Cert.flat,zcm _ _ _ q_o,zcm _ _ _ q_o,zcm _ _ _ q_o,zcm _ _ _ q_o,zcm _ _ _ q_o,zcm _ _ _ q_o,zcm _ _ _ q_o,zh6 _ _ q_o]
 have f0:item (tlv 0x30 c.flat) 0=zbf c.serial.toNat:=by rw[item,j];exact zb9 q_e q_o
 have f1:item (tlv 0x30 c.flat) 1=c.issuer.der:=by
  rw[item,j,zde q_e q_e];exact zb9 q_e q_o
 have f2:item (tlv 0x30 c.flat) 2=c.subject.der:=by
  rw[item,j];iterate 2 rw[zde q_e q_e]
  exact zb9 q_e q_o
 have f3:item (tlv 0x30 c.flat) 3=zbq c.fr.toNat:=by
  rw[item,j];iterate 3 rw[zde q_e q_e]
  exact zb9 q_e q_o
 have f4:item (tlv 0x30 c.flat) 4=zbq c.til.toNat:=by
  rw[item,j];iterate 4 rw[zde q_e q_e]
  exact zb9 q_e q_o
 have f5:item (tlv 0x30 c.flat) 5=zcF c.auth:=by
  rw[item,j];iterate 5 rw[zde q_e q_e]
  exact zb9 q_e q_o
 have f6:item (tlv 0x30 c.flat) 6=zbf c.group.toNat:=by
  rw[item,j];iterate 6 rw[zde q_e q_e]
  exact zb9 q_e q_o
 have f7:item (tlv 0x30 c.flat) 7=za8 c.pub:=by
  rw[item,j];iterate 7 rw[zde q_e q_e]
  exact zb9 q_e q_o
 have g5:zaL (zcF c.auth)= [if c.auth then 255 else 0]:=zbF _ _ (by rw[EV];decide);have q:=h.s0;have K:=h.s1;have r:=h.f0;have L:=h.f1;have w:=h.t0;have M:=h.t1;have A:=h.g0;rw[zfL,i0,i1,f0,f1,f2,f3,f4,f5,f6,f7,zto q_o,znt h.iss,znt h.sub,zms q_o,zms q_o,zu0 q_o,g5,
  za8,za8,zbF _ _ q_o,zbF _ _ q_o,AT q,AT r,AT w,AT A]
 cases c with
 |mk a b c d e f g h i=>cases f <;> rfl
def Prin.same(a b:Prin):Bool:=a.realm==b.realm&&a.parts==b.parts
theorem Prin.same_iff{a b:Prin} :a.same b=true↔a=b:=by
 cases a;cases b;simp only[Prin.same,AA,beq_iff_eq,Prin.mk.injEq];exact And.comm
def FD:=@Prin.same_iff
def Cert.same(a b:Cert):Bool:=decide (a.serial=b.serial)&&a.issuer.same b.issuer&&a.subject.same b.subject&&decide (a.fr=b.fr)&&decide (a.til=b.til)&&(a.auth==b.auth)&&decide (a.group=b.group)&&(a.pub==b.pub)&&(a.sig==b.sig)
theorem Cert.same_iff{a b:Cert} :a.same b=true↔a=b:=by
 cases a;cases b;simp only[Cert.same,AA,decide_eq_true_eq,beq_iff_eq,FD,Cert.mk.injEq,and_assoc]
def Fg:=@Cert.same_iff
-- sv: which public keys are valid; sf: which signatures are right.
variable (sv:Int->List UInt8->Bool)(sf:Int->List UInt8->List UInt8->List UInt8->Bool)
def Cert.ok(c:Cert):Bool:=decide (0<=c.serial)&&decide (c.serial<=4611686018427387904)&&c.issuer.ok&&c.subject.ok&&decide (0<=c.fr)&&decide (c.fr<=c.til)&&decide (c.til<=1099511627776)&&decide (c.sig.length<=192)&&sv c.group c.pub
structure KeyLaw:Prop where
 g0:∀g p,sv g p=true->0<=g
 g1:∀g p,sv g p=true->g<1000
 len:∀g p,sv g p=true->p.length<1000
section
variable (sv:Int->List UInt8->Bool)(sf:Int->List UInt8->List UInt8->List UInt8->Bool)
variable {sv}
theorem Cert.ok_small(hk:KeyLaw sv){c:Cert}(h:c.ok sv=true):c.small:=by
 simp only[Cert.ok,AA,decide_eq_true_eq] at h;obtain⟨⟨⟨⟨⟨⟨⟨⟨m,q⟩,r⟩,w⟩,A⟩,C⟩,B⟩,E⟩,j⟩:=h;have a:=hk.g0 _ _ j;have b:=hk.g1 _ _ j;have d:=hk.len _ _ j;exact⟨m,q,r,w,A,by omega,by omega,B,a,by omega,by omega,by omega⟩
def F9:=@Cert.ok_small
end
section
variable (sv:Int->List UInt8->Bool)(sf:Int->List UInt8->List UInt8->List UInt8->Bool)
def zc6(b:List UInt8):Option Cert:=match zfj b with
 |some (c,[])=>if c.ok sv=true/\c.der=b then some c else none
 |_=>none
def zo2(b:List UInt8):Option Cert:=if (zfL b).ok sv=true/\(zfL b).der=b then some (zfL b) else none
end
section
variable (sv:Int->List UInt8->Bool)(sf:Int->List UInt8->List UInt8->List UInt8->Bool)
variable {sv}
theorem zon(hk:KeyLaw sv)(b:List UInt8)(c:Cert):zc6 sv b=some c↔c.ok sv=true/\c.der=b:=by
 constructor
 ·intro h;unfold zc6 at h;split at h
  ·rename_i d _;split at h
   ·rename_i j;cases h;exact j
   ·cases h
  ·cases h
 ·rintro⟨h,rfl⟩;have e:=zq3 (F9 hk h) [];rw[AG] at e;rw[zc6,e];simp[h]
theorem zni(hk:KeyLaw sv)(b:List UInt8)(c:Cert):zo2 sv b=some c↔c.ok sv=true/\c.der=b:=by
 constructor
 ·intro h;unfold zo2 at h;split at h
  ·rename_i j;cases h;exact j
  ·cases h
 ·rintro⟨h,rfl⟩;have q:=F9 hk h;have m:c.group<36028797018963968:=by
   simp only[Cert.ok,AA] at h;have:=hk.g1 _ _ h.2;omega
  rw[zo2,zuc q m];simp[h]
theorem zyz(hk:KeyLaw sv)(b:List UInt8):zc6 sv b=zo2 sv b:=by
 cases h:zo2 sv b with
 |some c=>exact(zon hk b c).2 ((zni hk b c).1 h)
 |none=>
  cases h2:zc6 sv b with
  |none=>rfl
  |some c=>rw[(zni hk b c).2 ((zon hk b c).1 h2)] at h;cases h
end
section
variable (sv:Int->List UInt8->Bool)(sf:Int->List UInt8->List UInt8->List UInt8->Bool)
def zbO(l:List Cert):Bool:=decide (1<=l.length)&&decide (l.length<=5)&&l.all (Cert.ok sv)
end
variable (sv:Int->List UInt8->Bool)(sf:Int->List UInt8->List UInt8->List UInt8->Bool)
variable {sv}
theorem Cert.der_len{c:Cert}(h:c.small):c.der.length<=700+c.pub.length+c.sig.length:=by
 have j:=GZ h;have a1:=zX 0x30 c.flat;have a2:=zX 0xa0 (tlv 0x30 c.flat);have a3:=zfF c.sig;have a4:=zX 0xa1 (za8 c.sig);have a5:=zX 0x30 (tlv 0xa0 (tlv 0x30 c.flat)++tlv 0xa1 (za8 c.sig));rw[Ff];simp only[A2] at*;omega
structure Anch where
 name:Prin
 group:Int
 pub:List UInt8
structure Revo where
 issuer:Prin
 serial:Int
def zgh(rs:List Revo)(c:Cert):Bool:=rs.any λr=>r.issuer.same c.issuer&&decide (r.serial=c.serial)
def zfM(c:Cert)(a:Anch)(rs:List Revo)(now:Int)(first:Bool):Int:=
 if !c.issuer.same a.name then 220 else if !sf a.group a.pub c.body c.sig then 221 else if now<c.fr\/c.til<now then 222 else if zgh rs c then 223 else if !first && !c.auth then 224 else 0
def zgq(rs:List Revo)(now:Int):List Cert->Anch->Int×Int
 | [],_=>(0,0)
 |c::l,a=>if zfM sf c a rs now l.isEmpty=0 then zgq rs now l ⟨c.subject,c.group,c.pub⟩ else ((l.length:Int),zfM sf c a rs now l.isEmpty)
def noAnch:Anch:=⟨⟨[],[]⟩,0,[]⟩
def zeJ(aq:List Anch)(p:Prin):Anch:=(aq.find? λa=>a.name.same p).getD noAnch
def Anch.ok(sv:Int->List UInt8->Bool)(a:Anch):Bool:=a.name.ok&&sv a.group a.pub
def zim(sv:Int->List UInt8->Bool)(l:List Cert)(aq:List Anch)(rs:List Revo)(now:Int):Bool:=zbO sv l&&decide (aq.length<=64)&&aq.all (Anch.ok sv)&&decide (rs.length<=64)&&decide (0<=now)&&decide (now<=1099511627776)
def verify(sv:Int->List UInt8->Bool)(l:List Cert)(aq:List Anch)(rs:List Revo)(now:Int):Int×Int:=
 if zim sv l aq rs now=true then zgq sf rs now l.reverse (zeJ aq (match l.reverse with| []=>noAnch.name|c::_=>c.issuer)) else (0,2)
end Go.Ct
