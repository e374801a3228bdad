/- Lemmas. -/
import Derived.Test.YtdnlngbjpdbffaaGreatDoorZJ07
set_option maxRecDepth 10000
set_option linter.all false
namespace Go.Ct
def beN(v:Nat):Nat->List UInt8
 |0=>[]
 |k+1=>UInt8.ofNat (v/256^k)::beN v k
theorem zbs(v:Nat):∀k,(beN v k).length=k
 |0=>rfl
 |k+1=>by rw[beN,AQ,zbs v k]
def zaP(v:Nat):Nat:=if h:v<128 then 1 else zaP (v/256)+1
decreasing_by omega
theorem zdi{v:Nat}(h:v<128):zaP v=1:=by rw[zaP,dif_pos h]
theorem zfi{v:Nat}(h:128<=v):zaP v=zaP (v/256)+1:=by rw[zaP,dif_neg q_o]
theorem zey(v:Nat):1<=zaP v:=by
 rcases AG v 128 with h|h
 ·rw[zdi h];omega
 ·rw[zfi h];omega
theorem zij:∀(k v:Nat),v<128*256^k->zaP v<=k+1
 |0,v,h=>by rw[zdi q_o];exact A7 _
 |k+1,v,h=>by
  rcases AG v 128 with j|j
  ·rw[zdi j];omega
  ·rw[zfi j];have:=zij k (v/256) (by rw[AZ q_e,B8,<-AN];exact h);omega
theorem zki:∀(d v:Nat),v<256^(d+1)->(d=0\/256^d<=v)->zaP v=if 128<=v/256^d then d+2 else d+1
 |0,v,h,_=>by
  rw[Ao,CH];rcases AG v 128 with j|j
  ·rw[zdi j,if_neg q_o]
  ·rw[zfi j,if_pos j,zdi q_o]
 |d+1,v,h,h2=>by
  have m:256^(d+1)<=v:=q_o;have A:256<=256^(d+1):=by rw[AN];exact BU _ (AU q_e)
  have q:v/256<256^(d+1):=by rw[AZ q_e,<-AN];exact h
  have r:256^d<=v/256:=by rw[CU q_e,<-AN];exact m
  have w:v/256/256^d=v/256^(d+1):=by rw[Aq,AN,AM]
  rw[zfi q_o,zki d (v/256) q (.inr r),w];split <;> rfl
def zb0(n:Nat):List UInt8:=
 if n<128 then [UInt8.ofNat n] else if n<256 then [0x81,UInt8.ofNat n] else if n<65536 then [0x82,UInt8.ofNat (n/256),UInt8.ofNat n] else [0x83,UInt8.ofNat (n/65536),UInt8.ofNat (n/256),UInt8.ofNat n]
theorem zkS(n:Nat):1<=(zb0 n).length/\(zb0 n).length<=4:=by grind [zb0]
def tlv(tag:Nat)(l:List UInt8):List UInt8:=UInt8.ofNat tag::(zb0 l.length++l)
theorem zY(tag:Nat)(l:List UInt8):l.length+2<=(tlv tag l).length/\(tlv tag l).length<=l.length+5:=by grind [zkS,tlv]
def zbk(v:Nat):List UInt8:=tlv 2 (beN v (zaP v))
def zbu(v:Nat):List UInt8:=tlv 0x18 (beN v 6)
def zcQ(b:Bool):List UInt8:=tlv 1 [if b then 255 else 0]
def za9(l:List UInt8):List UInt8:=tlv 4 l
def zav(l:List UInt8):List UInt8:=tlv 0x1b l
def zdc(l:List (List UInt8)):List UInt8:=tlv 0x30 l.flatten
def zax(n:Nat)(l:List UInt8):List UInt8:=tlv (0xa0+n) l
def zcL(c:UInt8):Bool:=(decide (65<=c.toNat)&&decide (c.toNat<=90)) || (decide (48<=c.toNat)&&decide (c.toNat<=57)) || decide (c.toNat=45)
def zcE:Bool->List UInt8->Bool
 |p,[]=>!p
 |p,c::r=>if c=46 then !p&&zcE true r else zcL c&&zcE false r
def zbD(s:List UInt8):Bool:=decide (1<=s.length)&&decide (s.length<=32)&&zcE true s
theorem zhD:∀(l r:List UInt8) (p:Bool),(∀c∈l,c≠46)->zcE p (l++r)=(l.all zcL&&zcE (p&&l.isEmpty) r)
 | [],r,p,_=>by simp
 |c::l,r,p,h=>by
  have j:c≠46:=h c A3
  simp_all[zhD,zcE,EZ]
theorem ztE(l r:List UInt8)(h:∀c∈l,c≠46):zcE true (l++46::r)=(!l.isEmpty&&l.all zcL&&zcE true r):=by
 rw[zhD l _ true h,zcE,if_pos rfl,B2]
 grind
theorem zrz(l:List UInt8)(h:∀c∈l,c≠46):zcE true l=(!l.isEmpty&&l.all zcL):=by
 have:=zhD l [] true h
 grind [zcE]
def zfT(c:UInt8):Bool:=decide (0x21<=c.toNat)&&decide (c.toNat<=0x7e)
def zb6(s:List UInt8):Bool:=decide (1<=s.length)&&decide (s.length<=32)&&s.all zfT
structure Prin where
 parts:List (List UInt8)
 realm:List UInt8
def Prin.ok(p:Prin):Bool:=decide (1<=p.parts.length)&&decide (p.parts.length<=4)&&zbD p.realm&&p.parts.all zb6
def Prin.der(p:Prin):List UInt8:=zdc [zax 0 (zdc (p.parts.map zav)),zax 1 (zav p.realm)]
structure Cert where
 serial:Int
 issuer:Prin
 subject:Prin
 fr:Int
 til:Int
 auth:Bool
 group:Int
 pub:List UInt8
 sig:List UInt8
def Cert.body(c:Cert):List UInt8:=zdc [zax 0 (zbk c.serial.toNat),zax 1 c.issuer.der,zax 2 c.subject.der,zax 3 (zbu c.fr.toNat),zax 4 (zbu c.til.toNat),zax 5 (zcQ c.auth),zax 6 (zbk c.group.toNat),zax 7 (za9 c.pub)]
def Cert.der(c:Cert):List UInt8:=zdc [zax 0 c.body,zax 1 (za9 c.sig)]
def zaw(l:List UInt8):Nat:=l.foldl (λv c=>v*256+c.toNat) 0
theorem zte(l:List UInt8):∀a:Nat,l.foldl (λv c=>v*256+c.toNat) a=a*256^l.length+zaw l:=by
 induction l with
 |nil=>intro a;simp[zaw]
 |cons c l ih=>
  intro a;have h0:=ih (0*256+c.toNat);have j:=ih (a*256+c.toNat);simp only[zaw,EO,AQ] at*;rw[h0,j,AN,B5];simp only[BF,Aa,<-BK];congr 2;rw[B8,AM 256]
theorem zdG(c:UInt8)(l:List UInt8):zaw (c::l)=c.toNat*256^l.length+zaw l:=by
 have:=zte l (0*256+c.toNat);rw[BF,Aa] at this;rw[<-this];simp[zaw]
theorem zfP:∀l:List UInt8,zaw l<256^l.length
 | []=>by simp[zaw]
 |c::l=>by
  have h:=zfP l;have j:=c.toNat_lt;rw[zdG,AQ,AN,AM _ 256];have:=AP (256^l.length) (show c.toNat+1<=256 by omega);rw[B5,Bu] at this;omega
theorem zfL(v:Nat):∀k,zaw (beN v k)=v%256^k
 |0=>by simp[beN,zaw,C5]
 |k+1=>by
  rw[beN,zdG,zfL v k,zbs,AN,Nat.mod_mul];have:(UInt8.ofNat (v/256^k)).toNat=v/256^k%256:=by simp
  rw[this,AM,Cz]
def zgn(k:Nat):Nat:=if k=1 then 128 else if k=2 then 256 else 65536
def zew:List UInt8->Option (Nat×Nat)
 |_::s::r=>
  if s.toNat<128 then (if s.toNat<=r.length then some (2,2+s.toNat) else none)
  else if s.toNat-128<1\/3<s.toNat-128 then none
  else if r.length<s.toNat-128 then none
  else if zaw (r.take (s.toNat-128))<zgn (s.toNat-128) then none
  else if r.length-(s.toNat-128)<zaw (r.take (s.toNat-128)) then none
  else some (2+(s.toNat-128),2+(s.toNat-128)+zaw (r.take (s.toNat-128)))
 |_=>none
theorem zqB{b:List UInt8}{x y:Nat}(h:zew b=some (x,y)):2<=x/\x<=y/\y<=b.length:=by
 match b,h with
 | [],h=>cases h
 | [_],h=>cases h
 |t::s::r,h=>
  simp only[zew] at h;split at h
  ·split at h
   ·cases h;simp only[AQ];omega
   ·cases h
  ·split at h
   ·cases h
   ·split at h
    ·cases h
    ·split at h
     ·cases h
     ·split at h
      ·cases h
      ·cases h;simp only[AQ];omega
theorem znP(t:UInt8)(l r:List UInt8)(h:l.length<16777216):zew (t::(zb0 l.length++(l++r)))=some (1+(zb0 l.length).length,1+(zb0 l.length).length+l.length):=by
 unfold zb0;split
 ·rename_i q;have e:(UInt8.ofNat l.length).toNat=l.length:=by simp;omega
  simp only[Ae,Ag,zew,e,if_pos q,A4,AQ,Cj];rw[if_pos q_o]
 ·split
  ·rename_i q B;have e:(UInt8.ofNat l.length).toNat=l.length:=by simp;omega
   have j:zaw [UInt8.ofNat l.length]=l.length:=by rw[zdG,e];simp[zaw]
   simp only[Ae,Ag,zew];rw[if_neg q_e,if_neg q_e,if_neg q_p];have m:(0x81:UInt8).toNat-128=1:=rfl;simp only[m,C4,By,j];rw[if_neg (by simp[zgn];omega),if_neg (by simp only[AQ,A4];omega)];rfl
  ·split
   ·rename_i q B F;have w:(UInt8.ofNat (l.length/256)).toNat=l.length/256:=by simp;omega
    have A:(UInt8.ofNat l.length).toNat=l.length%256:=by simp
    have j:zaw [UInt8.ofNat (l.length/256),UInt8.ofNat l.length]=l.length:=by rw[zdG,zdG,w,A];simp[zaw];omega
    simp only[Ae,Ag,zew];rw[if_neg q_e,if_neg q_e,if_neg (by simp only[AQ,A4];show ¬_<2;omega)];have m:(0x82:UInt8).toNat-128=2:=rfl;simp only[m,C4,By,j];rw[if_neg (by simp[zgn];omega),if_neg (by simp only[AQ,A4];omega)];rfl
   ·rename_i q B F;have E:(UInt8.ofNat (l.length/65536)).toNat=l.length/65536:=by simp;omega
    have w:(UInt8.ofNat (l.length/256)).toNat=l.length/256%256:=by simp
    have A:(UInt8.ofNat l.length).toNat=l.length%256:=by simp
    have j:zaw [UInt8.ofNat (l.length/65536),UInt8.ofNat (l.length/256),UInt8.ofNat l.length]=l.length:=by rw[zdG,zdG,zdG,E,w,A];simp[zaw];omega
    simp only[Ae,Ag,zew];rw[if_neg q_e,if_neg q_e,if_neg (by simp only[AQ,A4];show ¬_<3;omega)];have m:(0x83:UInt8).toNat-128=3:=rfl;simp only[m,C4,By,j];rw[if_neg (by simp[zgn];omega),if_neg (by simp only[AQ,A4];omega)];rfl
def zaZ(tag:Nat)(b:List UInt8):Option (List UInt8×List UInt8):=
 match b with
 | []=>none
 |t::_=>if t.toNat=tag then (zew b).map (λp=>((b.take p.2).drop p.1,b.drop p.2)) else none
theorem zfO{tag:Nat}{b l r:List UInt8}(h:zaZ tag b=some (l,r)):r.length<b.length/\l.length+r.length<b.length:=by
 match b,h with
 |t::b,h=>
  simp only[zaZ] at h;split at h
  ·cases hm:zew (t::b) with
   |none=>rw[hm] at h;cases h
   |some p=>
    rw[hm] at h;obtain⟨x,y⟩:=p;have:=zqB hm;simp only[CG,Bm,Em] at h;obtain⟨rfl,rfl⟩:=h;simp only[As,AS];omega
  ·cases h
theorem zea(tag:Nat)(l r:List UInt8)(B:tag<256)(h:l.length<16777216):zaZ tag (tlv tag l++r)=some (l,r):=by
 have e:tlv tag l++r=UInt8.ofNat tag::(zb0 l.length++(l++r)):=by simp[tlv]
 have A:(UInt8.ofNat tag).toNat=tag:=by simp;omega
 rw[e,zaZ,if_pos A,znP _ l r h];simp only[CG,Bm,Em];have j:UInt8.ofNat tag::(zb0 l.length++(l++r))=(UInt8.ofNat tag::zb0 l.length)++(l++r):=rfl;have m:1+(zb0 l.length).length=(UInt8.ofNat tag::zb0 l.length).length:=by simp;omega
 rw[j,m];have q:(UInt8.ofNat tag::zb0 l.length++(l++r))=((UInt8.ofNat tag::zb0 l.length)++l)++r:=by simp
 have w:(UInt8.ofNat tag::zb0 l.length).length+l.length=((UInt8.ofNat tag::zb0 l.length)++l).length:=by simp;omega
 rw[q,w,Cv,DP,DP];exact⟨rfl,rfl⟩
theorem zxS{tag:Nat}{l j:List UInt8}(q:tag<256)(h:l.length<16777216)(r:j.length<16777216)(e:tlv tag l=tlv tag j):l=j:=by
 have m:=zea tag l [] q h;rw[e,zea tag j [] q r] at m;simpa using m.symm
def zbl(v:Int):Nat:=if h: -128<=v/\v<=127 then 1 else zbl (v/256)+1
termination_by v.natAbs
decreasing_by omega
def beZ(v:Int):Nat->List UInt8
 |0=>[]
 |k+1=>UInt8.ofNat (v/256^k%256).toNat::beZ v k
theorem zjP(v:Int):∀k,(beZ v k).length=k
 |0=>rfl
 |k+1=>by rw[beZ,AQ,zjP v k]
theorem zmU(v:Nat):zbl (v:Int)=zaP v:=by
 induction v using Nat.strongRecOn with
 |_ v j=>
  rw[zbl,zaP];by_cases h:v<128
  ·rw[dif_pos q_o,dif_pos h]
  ·rw[dif_neg q_o,dif_neg h,<-j (v/256) q_o];simp
theorem zjM(v:Nat):∀k,beZ (v:Int) k=beN v k
 |0=>rfl
 |k+1=>by
  rw[beZ,beN,zjM v k];congr 1;have:((v:Int)/256^k%256)=((v/256^k%256:Nat):Int):=by push_cast;rfl
  rw[this,Bn];apply Bf.1;simp
def zd4:List UInt8->Int
 | []=>0
 |c::r=>(if c.toNat<128 then (c.toNat:Int) else (c.toNat:Int)-256)*(256^r.length:Nat)+(zaw r:Int)
theorem ziy(v:Nat):v<128*256^(zaP v-1):=by
 induction v using Nat.strongRecOn with
 |_ v q=>
  rcases AG v 128 with h|h
  ·rw[zdi h];simpa using h
  ·rw[zfi h];have j:=q (v/256) q_o;obtain⟨k,m⟩:∃k,zaP (v/256)=k+1:=⟨zaP (v/256)-1,by have:=zey (v/256);omega⟩;rw[m] at j ⊢;simp only[Aw] at j ⊢;rw[AZ q_e] at j;rw[AN,<-B8];exact j
theorem zuL(v:Nat):zd4 (beN v (zaP v))=v:=by
 obtain⟨k,m⟩:∃k,zaP v=k+1:=⟨zaP v-1,by have:=zey v;omega⟩;have h:=ziy v;rw[m,Aw] at h;have j:v/256^k<128:=by rw[AZ (AU q_e)];exact h
 rw[m,beN,zd4,zbs,zfL];have e:(UInt8.ofNat (v/256^k)).toNat=v/256^k:=by simp;omega
 rw[e,if_pos j];have:=Ad v (256^k);rw[AM] at this;exact_mod_cast this
def zb1:Int:=4611686018427387904
def rdI(l:List UInt8):Option Int:=if 1<=l.length/\l.length<=8/\ -zb1<=zd4 l/\zd4 l<=zb1/\beZ (zd4 l) (zbl (zd4 l))=l then some (zd4 l) else none
theorem zga{v:Nat}(h:v<=4611686018427387904):zaP v<=8:=zij 7 v q_o
theorem zw1{v:Nat}(h:v<=4611686018427387904):rdI (beN v (zaP v))=some (v:Int):=by
 have j:=zey v;have m:=zga h;rw[rdI,zuL,zbs,if_pos];exact⟨j,m,by unfold zb1;omega,by unfold zb1;omega,by rw[zmU,zjM]⟩
def rdT(l:List UInt8):Option Int:=if l.length=6/\zaw l<=1099511627776 then some (zaw l:Int) else none
theorem zw9{v:Nat}(h:v<=1099511627776):rdT (beN v 6)=some (v:Int):=by
 have:v%256^6=v:=A9 q_o;rw[rdT,zbs,zfL,this,if_pos ⟨rfl,h⟩]
def rdB(l:List UInt8):Option Bool:=match l with
 | [c]=>if c=255 then some true else if c=0 then some false else none
 |_=>none
theorem zu7(b:Bool):rdB [if b then 255 else 0]=some b:=by cases b <;> rfl
def rdV{α:Type}(tag:Nat)(f:List UInt8->Option α)(b:List UInt8):Option (α×List UInt8):=(zaZ tag b).bind λp=>(f p.1).map λv=>(v,p.2)
def rdW{α:Type}(tag:Nat)(f:List UInt8->Option (α×List UInt8))(b:List UInt8):Option (α×List UInt8):=(zaZ tag b).bind λp=>(f p.1).bind λq=>if q.2= [] then some (q.1,p.2) else none
theorem zjT{α:Type}{tag:Nat}{f:List UInt8->Option α}{l r:List UInt8}{v:α}(m:tag<256)(h:l.length<16777216)(j:f l=some v):rdV tag f (tlv tag l++r)=some (v,r):=by
 rw[rdV,zea tag l r m h];simp[j]
theorem zdC{α:Type}{tag:Nat}{f:List UInt8->Option (α×List UInt8)}{l r:List UInt8}{v:α}(m:tag<256)(h:l.length<16777216)(j:f l=some (v,[])):rdW tag f (tlv tag l++r)=some (v,r):=by
 rw[rdW,zea tag l r m h];simp[j]
def zcd(b:List UInt8):Option (List (List UInt8)):=if b= [] then some [] else match h:zaZ 0x1b b with
 |none=>none
 |some p=>(zcd p.2).map (p.1:: ·)
termination_by b.length
decreasing_by exact(zfO h).1
theorem zk8:zcd []=some []:=by rw[zcd,if_pos rfl]
theorem zkg{b l r:List UInt8}(h:zaZ 0x1b b=some (l,r)):zcd b=(zcd r).map (l:: ·):=by
 have m:b≠[]:=λe=>by rw[e] at h;cases h
 rw[zcd,if_neg m];split
 ·rename_i j;rw[h] at j;cases j
 ·rename_i p j;rw[h] at j;cases j;rfl
theorem zpQ{b:List UInt8}(hb:b≠[])(h:zaZ 0x1b b=none):zcd b=none:=by
 rw[zcd,if_neg hb];split
 ·rfl
 ·rename_i p j;rw[h] at j;cases j
theorem zk7:∀j:List (List UInt8),(∀p∈j,p.length<16777216)->zcd (j.map zav).flatten=some j
 | [],_=>zk8
 |p::j,h=>by
  have m:=zea 0x1b p (j.map zav).flatten q_e (h p A3);rw[Au,BM,zav,zkg m,zk7 j (λq r=>h q (A1 _ r))];rfl
def rdP(b:List UInt8):Option (Prin×List UInt8):=
 (zaZ 0x30 b).bind λs=>(rdW 0xa0 (zaZ 0x30) s.1).bind λps=>(zcd ps.1).bind λparts=>(rdW 0xa1 (zaZ 0x1b) ps.2).bind λrl=>
  if rl.2= []/\(Prin.mk parts rl.1).ok=true then some (⟨parts,rl.1⟩,s.2) else none
def zbM(s:List UInt8):Option (Cert×List UInt8):=
 (rdW 0xa0 (rdV 2 rdI) s).bind λa=>(rdW 0xa1 rdP a.2).bind λb=>(rdW 0xa2 rdP b.2).bind λc=>(rdW 0xa3 (rdV 0x18 rdT) c.2).bind λd=>
 (rdW 0xa4 (rdV 0x18 rdT) d.2).bind λe=>(rdW 0xa5 (rdV 1 rdB) e.2).bind λf=>(rdW 0xa6 (rdV 2 rdI) f.2).bind λg=>(rdW 0xa7 (rdV 4 some) g.2).bind λh=>
 some (⟨a.1,b.1,c.1,d.1,e.1,f.1,g.1,h.1,[]⟩,h.2)
def ze9(s:List UInt8):Option (Cert×List UInt8):=
 (rdW 0xa0 (rdW 0x30 zbM) s).bind λa=>(rdW 0xa1 (rdV 4 some) a.2).bind λb=>some ({ a.1 with sig:=b.1 },b.2)
def zel(b:List UInt8):Option (Cert×List UInt8):=rdW 0x30 ze9 b
def za8(b:List UInt8)(n:Nat):Option (List Cert):=if b= [] then some [] else match n with
 |0=>none
 |n+1=>(zel b).bind λp=>(za8 p.2 n).map (p.1:: ·)
theorem Prin.ok_parts{p:Prin}(h:p.ok=true):p.parts.length<=4/\(∀x∈p.parts,x.length<=32)/\p.realm.length<=32:=by
 simp only[Prin.ok,A8,decide_eq_true_eq,AF,zb6,zbD] at h;exact⟨h.1.1.2,λx j=>((h.2 x j).1).2,h.1.2.1.2⟩
def FB:=@Prin.ok_parts
theorem flat_len(m:Nat):∀l:List (List UInt8),(∀x∈l,x.length<=m)->l.flatten.length<=l.length*m
 | [],_=>by simp
 |x::l,h=>by
  have q:=flat_len m l (λy j=>h y (A1 _ j));have r:=h x A3;rw[BM,A4,AQ,B5];omega
theorem Prin.strs_len{p:Prin}(h:p.ok=true):(p.parts.map zav).flatten.length<=148:=by
 obtain⟨r,j,w⟩:=FB h;have:=flat_len 37 (p.parts.map zav) (λx m=>by
  obtain⟨y,q,rfl⟩:=Bv.1 m;have:=(zY 0x1b y).2;have:=j y q;unfold zav;omega)
 rw[A0] at this;omega
def FZ:=@Prin.strs_len
theorem Prin.der_len{p:Prin}(h:p.ok=true):p.der.length<=205:=by
 obtain⟨j,m,q⟩:=FB h;have r:=FZ h;have a1:=(zY 0x30 (p.parts.map zav).flatten).2;have a2:=(zY 0xa0 (tlv 0x30 (p.parts.map zav).flatten)).2;have a3:=(zY 0x1b p.realm).2;have a4:=(zY 0xa1 (tlv 0x1b p.realm)).2;have a5:=(zY 0x30 [tlv 0xa0 (tlv 0x30 (p.parts.map zav).flatten),tlv 0xa1 (tlv 0x1b p.realm)].flatten).2;simp only[BM,CA,AJ,A4] at a5;have e:p.der.length=(tlv 0x30 (tlv 0xa0 (tlv 0x30 (p.parts.map zav).flatten)++tlv 0xa1 (tlv 0x1b p.realm))).length:=by
  simp only[Prin.der,zdc,zax,zav,BM,CA,AJ]
 rw[e];omega
def FC:=@Prin.der_len
theorem zye{p:Prin}(h:p.ok=true)(r:List UInt8):rdP (p.der++r)=some (p,r):=by
 obtain⟨F,A,G⟩:=FB h;have H:=FZ h;have I:=FC h;have a1:=zY 0x30 (p.parts.map zav).flatten;have a3:=zY 0x1b p.realm;have a5:=(zY 0x30 [tlv 0xa0 (tlv 0x30 (p.parts.map zav).flatten),tlv 0xa1 (tlv 0x1b p.realm)].flatten).1;have B: [tlv 0xa0 (tlv 0x30 (p.parts.map zav).flatten),tlv 0xa1 (tlv 0x1b p.realm)].flatten.length<16777216:=by
  have:p.der.length=(tlv 0x30 [tlv 0xa0 (tlv 0x30 (p.parts.map zav).flatten),tlv 0xa1 (tlv 0x1b p.realm)].flatten).length:=rfl;omega
 have j:zaZ 0x30 (p.der++r)=some ([tlv 0xa0 (tlv 0x30 (p.parts.map zav).flatten),tlv 0xa1 (tlv 0x1b p.realm)].flatten,r):=zea 0x30 _ r q_e B;have m:rdW 0xa0 (zaZ 0x30) [tlv 0xa0 (tlv 0x30 (p.parts.map zav).flatten),tlv 0xa1 (tlv 0x1b p.realm)].flatten=some ((p.parts.map zav).flatten,tlv 0xa1 (tlv 0x1b p.realm)):=by
  simp only[BM,CA,AJ];refine zdC q_e q_o ?_;have:=zea 0x30 (p.parts.map zav).flatten [] q_e q_o;rwa[AJ] at this
 have q:zcd (p.parts.map zav).flatten=some p.parts:=zk7 _ (λx E=>by have:=A x E;omega);have w:rdW 0xa1 (zaZ 0x1b) (tlv 0xa1 (tlv 0x1b p.realm))=some (p.realm,[]):=by
  have:=zdC (tag:=0xa1) (f:=zaZ 0x1b) (l:=tlv 0x1b p.realm) (r:=[]) (v:=p.realm) q_e q_o (by
   have:=zea 0x1b p.realm [] q_e q_o;rwa[AJ] at this)
  rwa[AJ] at this
 simp only[rdP,j,Ac,m,q,w];rw[if_pos ⟨trivial,h⟩]
structure Cert.small(c:Cert):Prop where
 s0:0<=c.serial
 s1:c.serial<=4611686018427387904
 iss:c.issuer.ok=true
 sub:c.subject.ok=true
 f0:0<=c.fr
 f1:c.fr<=1099511627776
 t0:0<=c.til
 t1:c.til<=1099511627776
 g0:0<=c.group
 g1:c.group<=4611686018427387904
 pub:c.pub.length<1000000
 sig:c.sig.length<1000000
theorem zdP{v:Nat}(h:v<=4611686018427387904):2<=(zbk v).length/\(zbk v).length<=13:=by
 have:=zY 2 (beN v (zaP v));have:=zga h;rw[zbs] at*;unfold zbk;omega
theorem zzy{n v:Nat}(hn:n<256)(h:v<=4611686018427387904)(r:List UInt8):rdW n (rdV 2 rdI) (tlv n (zbk v)++r)=some ((v:Int),r):=by
 have j:=zdP h;refine zdC hn q_o ?_;have:=zjT (tag:=2) (f:=rdI) (l:=beN v (zaP v)) (r:=[]) q_e (by rw[zbs];have:=zga h;omega) (zw1 h);rwa[AJ] at this
theorem zzx{n:Nat}{p:Prin}(hn:n<256)(h:p.ok=true)(r:List UInt8):rdW n rdP (tlv n p.der++r)=some (p,r):=by
 refine zdC hn (by have:=FC h;omega) ?_;have:=zye h [];rwa[AJ] at this
theorem zg0(v:Nat):(zbu v).length<=11:=by
 have:=(zY 0x18 (beN v 6)).2;rw[zbs] at this;unfold zbu;omega
theorem zzF{n v:Nat}(hn:n<256)(h:v<=1099511627776)(r:List UInt8):rdW n (rdV 0x18 rdT) (tlv n (zbu v)++r)=some ((v:Int),r):=by
 refine zdC hn (by have:=zg0 v;omega) ?_;have:=zjT (tag:=0x18) (f:=rdT) (l:=beN v 6) (r:=[]) q_e (by rw[zbs];decide) (zw9 h);rwa[AJ] at this
theorem zAs{n:Nat}{b:Bool}(hn:n<256)(r:List UInt8):rdW n (rdV 1 rdB) (tlv n (zcQ b)++r)=some (b,r):=by
 refine zdC hn (by cases b <;> decide) ?_;have:=zjT (tag:=1) (f:=rdB) (l:=[if b then 255 else 0]) (r:=[]) q_e (by rw[EW];decide) (zu7 b);rwa[AJ] at this
theorem zeH(l:List UInt8):(za9 l).length<=l.length+5:=(zY 4 l).2
theorem zzA{n:Nat}{l:List UInt8}(hn:n<256)(h:l.length<1000000)(r:List UInt8):rdW n (rdV 4 some) (tlv n (za9 l)++r)=some (l,r):=by
 refine zdC hn (by have:=zeH l;omega) ?_;have:=zjT (tag:=4) (f:=some) (l:=l) (r:=[]) q_e q_o rfl;rwa[AJ] at this
def Cert.flat(c:Cert):List UInt8:=tlv 0xa0 (zbk c.serial.toNat)++(tlv 0xa1 c.issuer.der++(tlv 0xa2 c.subject.der++(tlv 0xa3 (zbu c.fr.toNat)++(tlv 0xa4 (zbu c.til.toNat)++(tlv 0xa5 (zcQ c.auth)++(tlv 0xa6 (zbk c.group.toNat)++tlv 0xa7 (za9 c.pub)))))))
theorem Cert.body_flat(c:Cert):c.body=tlv 0x30 c.flat:=by
 simp only[Cert.body,zdc,zax,Cert.flat,BM,CA,AJ]
def FR:=@Cert.body_flat
theorem Cert.flat_len{c:Cert}(h:c.small):c.flat.length<=600+c.pub.length:=by
 have a0:=(zY 0xa0 (zbk c.serial.toNat)).2;have a1:=(zY 0xa1 c.issuer.der).2;have a2:=(zY 0xa2 c.subject.der).2;have a3:=(zY 0xa3 (zbu c.fr.toNat)).2;have a4:=(zY 0xa4 (zbu c.til.toNat)).2;have a5:=(zY 0xa5 (zcQ c.auth)).2;have j:=(zY 0xa6 (zbk c.group.toNat)).2;have m:=(zY 0xa7 (za9 c.pub)).2;have q:=zdP (v:=c.serial.toNat) (by have:=h.s1;omega);have r:=FC h.iss;have w:=FC h.sub;have A:=zg0 c.fr.toNat;have B:=zg0 c.til.toNat;have E:(zcQ c.auth).length<=3:=by cases c.auth <;> decide
 have F:=zdP (v:=c.group.toNat) (by have:=h.g1;omega);have G:=zeH c.pub;simp only[Cert.flat,A4];omega
def FP:=@Cert.flat_len
theorem zpU{c:Cert}(h:c.small)(r:List UInt8):zbM (c.flat++r)=some ({ c with sig:=[] },r):=by
 have j:=zzy (n:=0xa0) (v:=c.serial.toNat) q_e (by have:=h.s1;omega);have m:=zzx (n:=0xa1) q_e h.iss;have q:=zzx (n:=0xa2) q_e h.sub;have w:=zzF (n:=0xa3) (v:=c.fr.toNat) q_e (by have:=h.f1;omega);have A:=zzF (n:=0xa4) (v:=c.til.toNat) q_e (by have:=h.t1;omega);have B:=zAs (n:=0xa5) (b:=c.auth) q_e;have E:=zzy (n:=0xa6) (v:=c.group.toNat) q_e (by have:=h.g1;omega);have F:=zzA (n:=0xa7) (l:=c.pub) q_e h.pub;simp only[zbM,Cert.flat,AI,j,m,q,w,A,B,E,F,Ac];rw[AT h.s0,AT h.f0,AT h.t0,AT h.g0]
theorem Cert.der_flat(c:Cert):c.der=tlv 0x30 (tlv 0xa0 (tlv 0x30 c.flat)++tlv 0xa1 (za9 c.sig)):=by
 simp only[Cert.der,zdc,zax,FR,BM,CA,AJ]
def Fa:=@Cert.der_flat
theorem zrm{c:Cert}(h:c.small)(r:List UInt8):zel (c.der++r)=some (c,r):=by
 have w:=FP h;have A:=h.pub;have q:=h.sig;have a1:=zY 0x30 c.flat;have a2:=zY 0xa0 (tlv 0x30 c.flat);have a3:=zeH c.sig;have a4:=zY 0xa1 (za9 c.sig);rw[Fa,zel];refine zdC q_e (by simp only[A4];omega) ?_;have m:rdW 0xa0 (rdW 0x30 zbM) (tlv 0xa0 (tlv 0x30 c.flat)++tlv 0xa1 (za9 c.sig))=some ({ c with sig:=[] },tlv 0xa1 (za9 c.sig)):=by
  refine zdC q_e q_o ?_;have:=zdC (tag:=0x30) (f:=zbM) (l:=c.flat) (r:=[]) (v:={ c with sig:=[] }) q_e q_o (by
   have:=zpU h [];rwa[AJ] at this)
  rwa[AJ] at this
 have j:=zzA (n:=0xa1) (l:=c.sig) q_e q [];rw[AJ] at j;simp only[ze9,m,j,Ac]
theorem zkh:∀(l:List Cert) (n:Nat),l.length<=n->(∀c∈l,c.small)->za8 (l.map Cert.der).flatten n=some l
 | [],n,_,_=>by unfold za8;simp
 |c::l,0,h,_=>by simp at h
 |c::l,n+1,h,hc=>by
  have q:=zkh l n (by simpa using h) (λd m=>hc d (A1 _ m));have j:((c::l).map Cert.der).flatten≠[]:=by
   rw[Au,BM,Fa];simp[tlv]
  unfold za8;rw[if_neg j];simp only[Au,BM,zrm (hc c A3),Ac,q,CG]
def zfq:List UInt8->Option (Nat×Nat)
 |_::s::r=>
  if s.toNat<128 then (if s.toNat<=r.length then some (2,2+s.toNat) else none)
  else if s.toNat-128<1\/3<s.toNat-128 then none
  else if r.length<s.toNat-128 then none
  else if r.length-(s.toNat-128)<zaw (r.take (s.toNat-128)) then none
  else some (2+(s.toNat-128),2+(s.toNat-128)+zaw (r.take (s.toNat-128)))
 |_=>none
theorem ztg{b:List UInt8}{p:Nat×Nat}(h:zew b=some p):zfq b=some p:=by
 match b,h with
 |t::s::r,h=>
  simp only[zew] at h;simp only[zfq];by_cases h1:s.toNat<128
  ·rw[if_pos h1] at h ⊢;exact h
  ·rw[if_neg h1] at h ⊢;by_cases h2:s.toNat-128<1\/3<s.toNat-128
   ·rw[if_pos h2] at h;cases h
   ·rw[if_neg h2] at h ⊢;by_cases h3:r.length<s.toNat-128
    ·rw[if_pos h3] at h;cases h
    ·rw[if_neg h3] at h ⊢;by_cases h4:zaw (r.take (s.toNat-128))<zgn (s.toNat-128)
     ·rw[if_pos h4] at h;cases h
     ·rw[if_neg h4] at h;exact h
theorem zjR{b:List UInt8}{p:Nat×Nat}(h:zfq b=some p):2<=p.1/\p.1<=p.2/\p.2<=b.length:=by
 match b,h with
 | [],h=>cases h
 | [_],h=>cases h
 |t::s::r,h=>
  simp only[zfq] at h;split at h
  ·split at h
   ·cases h;simp only[AQ];omega
   ·cases h
  ·split at h
   ·cases h
   ·split at h
    ·cases h
    ·split at h
     ·cases h
     ·cases h;simp only[AQ];omega
def zaN(b:List UInt8):List UInt8:=match zfq b with
 |none=>[]
 |some p=>(b.take p.2).drop p.1
theorem zwZ(tag:Nat)(l r:List UInt8):tlv tag l++r=UInt8.ofNat tag::(zb0 l.length++(l++r)):=by simp[tlv]
theorem zph(tag:Nat)(l r:List UInt8)(h:l.length<16777216):zfq (tlv tag l++r)=some (1+(zb0 l.length).length,(tlv tag l).length):=by
 rw[zwZ,ztg (znP _ l r h)];simp only[tlv,AQ,A4];congr 2;omega
theorem zsS(tag:Nat)(l r:List UInt8)(h:l.length<16777216):zaN (tlv tag l++r)=l:=by
 rw[zaN,zph tag l r h];show((tlv tag l++r).take (tlv tag l).length).drop _=_;rw[Cv];have e:tlv tag l=(UInt8.ofNat tag::zb0 l.length)++l:=rfl;have j:1+(zb0 l.length).length=(UInt8.ofNat tag::zb0 l.length).length:=by simp;omega
 rw[e,j,DP]
theorem zbF(tag:Nat)(l:List UInt8)(h:l.length<16777216):zaN (tlv tag l)=l:=by
 have:=zsS tag l [] h;rwa[AJ] at this
def zbW(b:List UInt8):List (List UInt8):=match h:zfq b with
 |none=>[]
 |some p=>b.take p.2::zbW (b.drop p.2)
termination_by b.length
decreasing_by have:=zjR h;simp only[As];omega
theorem ziz{b:List UInt8}(h:zfq b=none):zbW b= []:=by
 rw[zbW];split
 ·rfl
 ·rename_i p j;rw[h] at j;cases j
theorem zio{b:List UInt8}{p:Nat×Nat}(h:zfq b=some p):zbW b=b.take p.2::zbW (b.drop p.2):=by
 rw[zbW];split
 ·rename_i j;rw[h] at j;cases j
 ·rename_i m j;rw[h] at j;cases j;rfl
theorem zhm:zbW []= []:=ziz rfl
theorem zch(tag:Nat)(l r:List UInt8)(h:l.length<16777216):zbW (tlv tag l++r)=tlv tag l::zbW r:=by
 rw[zio (zph tag l r h),Cv,DP]
theorem ziA(tag:Nat)(l:List UInt8)(h:l.length<16777216):zbW (tlv tag l)= [tlv tag l]:=by
 have:=zch tag l [] h;rwa[AJ,zhm] at this
def pick(t:Nat):List (List UInt8)->List UInt8
 | []=>[]
 |x::l=>if (x.headD 0).toNat=t then zaN x else pick t l
def item(s:List UInt8)(n:Nat):List UInt8:=pick (0xa0+n) (zbW (zaN s))
theorem zcg{t:Nat}{l:List UInt8}{r:List (List UInt8)}(j:t<256)(h:l.length<16777216):pick t (tlv t l::r)=l:=by
 have:((tlv t l).headD 0).toNat=t:=by simp[tlv];omega
 rw[pick,if_pos this,zbF _ _ h]
theorem zdl{t u:Nat}{l:List UInt8}{r:List (List UInt8)}(hu:u<256)(j:u≠t):pick t (tlv u l::r)=pick t r:=by
 have:((tlv u l).headD 0).toNat=u:=by simp[tlv];omega
 rw[pick,if_neg (by rw[this];exact j)]
def zcr(b:List UInt8):Int:=zaw ((zaN b).take 7)
def w64(n:Nat):Int:=if n%18446744073709551616<9223372036854775808 then ((n%18446744073709551616:Nat):Int) else ((n%18446744073709551616:Nat):Int)-18446744073709551616
def zfs(b:List UInt8):Int:=w64 (zaw ((zaN b).take 8))
def zdE(b:List UInt8):Prin:=⟨(zbW (zaN (item b 0))).map zaN,zaN (item b 1)⟩
def zhJ(b:List UInt8):Cert:=
  ⟨zfs (item (item b 0) 0),zdE (item (item b 0) 1),zdE (item (item b 0) 2),zcr (item (item b 0) 3),zcr (item (item b 0) 4),
   (match zaN (item (item b 0) 5) with| []=>false|c::_=>c != 0),zcr (item (item b 0) 6),zaN (item (item b 0) 7),zaN (item b 1)⟩
theorem zsU{v:Nat}(h:v<=4611686018427387904):zfs (zbk v)=v:=by
 have w:=zga h;have m:=ziy v;have q:(beN v (zaP v)).length=zaP v:=zbs _ _;rw[zfs,zbk,zbF _ _ q_o,A6 q_o,zfL];have r:=zey v;have e:v%256^zaP v=v:=A9 (by
  obtain⟨k,j⟩:∃k,zaP v=k+1:=⟨zaP v-1,by omega⟩;rw[j,Aw] at m;rw[j,AN];omega)
 rw[e,w64,A9 q_o,if_pos q_o]
theorem zuD{v:Nat}(h:v<36028797018963968):zcr (zbk v)=v:=by
 have w:zaP v<=7:=zij 6 v q_o;have m:=ziy v;have q:(beN v (zaP v)).length=zaP v:=zbs _ _;rw[zcr,zbk,zbF _ _ q_o,A6 q_o,zfL];have r:=zey v;have e:v%256^zaP v=v:=A9 (by
  obtain⟨k,j⟩:∃k,zaP v=k+1:=⟨zaP v-1,by omega⟩;rw[j,Aw] at m;rw[j,AN];omega)
 rw[e]
theorem zmV{v:Nat}(h:v<=1099511627776):zcr (zbu v)=v:=by
 have j:(beN v 6).length=6:=zbs _ _;rw[zcr,zbu,zbF _ _ q_o,A6 q_o,zfL,A9 q_o]
theorem zly:∀j:List (List UInt8),(∀p∈j,p.length<16777216)->(zbW (j.map zav).flatten).map zaN=j
 | [],_=>by rw[Ep,CA,zhm];rfl
 |p::j,h=>by
  have h0:=h p A3;rw[Au,BM,zav,zch _ _ _ h0,Au,zbF _ _ h0,zly j (λq m=>h q (A1 _ m))]
theorem znR{p:Prin}(h:p.ok=true):zdE p.der=p:=by
 obtain⟨r,m,w⟩:=FB h;have A:=FZ h;have a1:=zY 0x30 (p.parts.map zav).flatten;have a2:=zY 0xa0 (tlv 0x30 (p.parts.map zav).flatten);have a3:=zY 0x1b p.realm;have a4:=zY 0xa1 (tlv 0x1b p.realm);have e:p.der=tlv 0x30 (tlv 0xa0 (tlv 0x30 (p.parts.map zav).flatten)++tlv 0xa1 (tlv 0x1b p.realm)):=by
  simp only[Prin.der,zdc,zax,zav,BM,CA,AJ]
 have j:zbW (zaN p.der)= [tlv 0xa0 (tlv 0x30 (p.parts.map zav).flatten),tlv 0xa1 (tlv 0x1b p.realm)]:=by
  rw[e,zbF _ _ (by simp only[A4];omega),zch _ _ _ q_o,ziA _ _ q_o]
 have i0:item p.der 0=tlv 0x30 (p.parts.map zav).flatten:=by rw[item,j];exact zcg q_e q_o
 have i1:item p.der 1=tlv 0x1b p.realm:=by rw[item,j,zdl q_e q_e];exact zcg q_e q_o
 rw[zdE,i0,i1,zbF _ _ q_o,zbF _ _ q_o,zly _ (λx q=>by have:=m x q;omega)]
theorem zvU{c:Cert}(h:c.small)(O:c.group<36028797018963968):zhJ c.der=c:=by
 have P:=FP h;have Q:=h.pub;have R:=h.sig;have a1:=zY 0x30 c.flat;have a2:=zY 0xa0 (tlv 0x30 c.flat);have a3:=zeH c.sig;have a4:=zY 0xa1 (za9 c.sig);have B:=zdP (v:=c.serial.toNat) (by have:=h.s1;omega);have E:=FC h.iss;have F:=FC h.sub;have G:=zg0 c.fr.toNat;have H:=zg0 c.til.toNat;have I:(zcQ c.auth).length<=3:=by cases c.auth <;> decide
 have J:=zdP (v:=c.group.toNat) (by have:=h.g1;omega);have K:=zeH c.pub;have m:zbW (zaN c.der)= [tlv 0xa0 (tlv 0x30 c.flat),tlv 0xa1 (za9 c.sig)]:=by
  rw[Fa,zbF _ _ (by simp only[A4];omega),zch _ _ _ q_o,ziA _ _ q_o]
 have i0:item c.der 0=tlv 0x30 c.flat:=by rw[item,m];exact zcg q_e q_o
 have i1:item c.der 1=za9 c.sig:=by rw[item,m,zdl q_e q_e];exact zcg q_e q_o
 have j:zbW (zaN (tlv 0x30 c.flat))= [tlv 0xa0 (zbk c.serial.toNat),tlv 0xa1 c.issuer.der,tlv 0xa2 c.subject.der,tlv 0xa3 (zbu c.fr.toNat),tlv 0xa4 (zbu c.til.toNat),tlv 0xa5 (zcQ c.auth),tlv 0xa6 (zbk c.group.toNat),tlv 0xa7 (za9 c.pub)]:=by
  rw[zbF _ _ q_o,Cert.flat,zch _ _ _ q_o,zch _ _ _ q_o,zch _ _ _ q_o,zch _ _ _ q_o,zch _ _ _ q_o,zch _ _ _ q_o,zch _ _ _ q_o,ziA _ _ q_o]
 have f0:item (tlv 0x30 c.flat) 0=zbk c.serial.toNat:=by rw[item,j];exact zcg q_e q_o
 have f1:item (tlv 0x30 c.flat) 1=c.issuer.der:=by
  rw[item,j,zdl q_e q_e];exact zcg q_e q_o
 have f2:item (tlv 0x30 c.flat) 2=c.subject.der:=by
  rw[item,j];iterate 2 rw[zdl q_e q_e]
  exact zcg q_e q_o
 have f3:item (tlv 0x30 c.flat) 3=zbu c.fr.toNat:=by
  rw[item,j];iterate 3 rw[zdl q_e q_e]
  exact zcg q_e q_o
 have f4:item (tlv 0x30 c.flat) 4=zbu c.til.toNat:=by
  rw[item,j];iterate 4 rw[zdl q_e q_e]
  exact zcg q_e q_o
 have f5:item (tlv 0x30 c.flat) 5=zcQ c.auth:=by
  rw[item,j];iterate 5 rw[zdl q_e q_e]
  exact zcg q_e q_o
 have f6:item (tlv 0x30 c.flat) 6=zbk c.group.toNat:=by
  rw[item,j];iterate 6 rw[zdl q_e q_e]
  exact zcg q_e q_o
 have f7:item (tlv 0x30 c.flat) 7=za9 c.pub:=by
  rw[item,j];iterate 7 rw[zdl q_e q_e]
  exact zcg q_e q_o
 have g5:zaN (zcQ c.auth)= [if c.auth then 255 else 0]:=zbF _ _ (by rw[EW];decide);have q:=h.s0;have L:=h.s1;have r:=h.f0;have M:=h.f1;have w:=h.t0;have N:=h.t1;have A:=h.g0;rw[zhJ,i0,i1,f0,f1,f2,f3,f4,f5,f6,f7,zsU q_o,znR h.iss,znR h.sub,zmV q_o,zmV q_o,zuD q_o,g5,
  za9,za9,zbF _ _ q_o,zbF _ _ q_o,AT q,AT r,AT w,AT A]
 cases c with
 |mk a b c d e f g h i=>cases f <;> rfl
end Go.Ct
