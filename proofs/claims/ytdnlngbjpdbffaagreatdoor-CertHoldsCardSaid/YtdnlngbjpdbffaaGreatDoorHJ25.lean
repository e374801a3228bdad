/- Lemmas of this proof. -/
import Derived.Test.YtdnlngbjpdbffaaGreatDoorHJ07
set_option maxRecDepth 10000
set_option linter.all false
namespace Go.Ct
def beN(v:Nat):Nat->List UInt8
 |0=>[]
 |k+1=>UInt8.ofNat (v/256^k)::beN v k
theorem zbw(v:Nat):∀k,(beN v k).length=k
 |0=>rfl
 |k+1=>by rw[beN,AO,zbw v k]
def zbo(v:Nat):Nat:=if h:v<128 then 1 else zbo (v/256)+1
decreasing_by omega
theorem zcQ{v:Nat}(h:v<128):zbo v=1:=by rw[zbo,dif_pos h]
theorem zeR{v:Nat}(h:128<=v):zbo v=zbo (v/256)+1:=by rw[zbo,dif_neg q_o]
theorem zgT(v:Nat):1<=zbo v:=by
 rcases AK v 128 with h|h
 ·rw[zcQ h];omega
 ·rw[zeR h];omega
theorem zkA:∀(k v:Nat),v<128*256^k->zbo v<=k+1
 |0,v,h=>by rw[zcQ q_o];exact A8 _
 |k+1,v,h=>by
  rcases AK v 128 with j|j
  ·rw[zcQ j];omega
  ·rw[zeR j];have:=zkA k (v/256) (by rw[Af q_e,BN,<-AS];exact h);omega
theorem zjd:∀(d v:Nat),v<256^(d+1)->(d=0\/256^d<=v)->zbo v=if 128<=v/256^d then d+2 else d+1
 |0,v,h,_=>by
  rw[Ax,Co];rcases AK v 128 with j|j
  ·rw[zcQ j,if_neg q_o]
  ·rw[zeR j,if_pos j,zcQ q_o]
 |d+1,v,h,h2=>by
  have m:256^(d+1)<=v:=q_o;have A:256<=256^(d+1):=by rw[AS];exact C4 _ (Ab q_e)
  have q:v/256<256^(d+1):=by rw[Af q_e,<-AS];exact h
  have r:256^d<=v/256:=by rw[CI q_e,<-AS];exact m
  have w:v/256/256^d=v/256^(d+1):=by rw[Ao,AS,AN]
  rw[zeR q_o,zjd d (v/256) q (.inr r),w];split <;> rfl
def zce(n:Nat):List UInt8:=
 if n<128 then [UInt8.ofNat n] else if n<256 then [0x81,UInt8.ofNat n] else if n<65536 then [0x82,UInt8.ofNat (n/256),UInt8.ofNat n] else [0x83,UInt8.ofNat (n/65536),UInt8.ofNat (n/256),UInt8.ofNat n]
theorem zjr(n:Nat):1<=(zce n).length/\(zce n).length<=4:=by grind [zce]
def tlv(tag:Nat)(l:List UInt8):List UInt8:=UInt8.ofNat tag::(zce l.length++l)
theorem zae(tag:Nat)(l:List UInt8):l.length+2<=(tlv tag l).length/\(tlv tag l).length<=l.length+5:=by grind [zjr,tlv]
def zbv(v:Nat):List UInt8:=tlv 2 (beN v (zbo v))
def zbC(v:Nat):List UInt8:=tlv 0x18 (beN v 6)
def zdc(b:Bool):List UInt8:=tlv 1 [if b then 255 else 0]
def zbz(l:List UInt8):List UInt8:=tlv 4 l
def zav(l:List UInt8):List UInt8:=tlv 0x1b l
def zdt(l:List (List UInt8)):List UInt8:=tlv 0x30 l.flatten
def zap(n:Nat)(l:List UInt8):List UInt8:=tlv (0xa0+n) l
def zc2(c:UInt8):Bool:=(decide (65<=c.toNat)&&decide (c.toNat<=90)) || (decide (48<=c.toNat)&&decide (c.toNat<=57)) || decide (c.toNat=45)
def zee:Bool->List UInt8->Bool
 |p,[]=>!p
 |p,c::r=>if c=46 then !p&&zee true r else zc2 c&&zee false r
def zdC(s:List UInt8):Bool:=decide (1<=s.length)&&decide (s.length<=32)&&zee true s
theorem zg0:∀(l r:List UInt8) (p:Bool),(∀c∈l,c≠46)->zee p (l++r)=(l.all zc2&&zee (p&&l.isEmpty) r)
 | [],r,p,_=>by simp
 |c::l,r,p,h=>by
  have j:c≠46:=h c A4
  simp_all[zg0,zee,EU]
theorem zqZ(l r:List UInt8)(h:∀c∈l,c≠46):zee true (l++46::r)=(!l.isEmpty&&l.all zc2&&zee true r):=by
 rw[zg0 l _ true h,zee,if_pos rfl,B1]
 grind
theorem zp0(l:List UInt8)(h:∀c∈l,c≠46):zee true l=(!l.isEmpty&&l.all zc2):=by
 have:=zg0 l [] true h
 grind [zee]
def zn7(c:UInt8):Bool:=decide (0x21<=c.toNat)&&decide (c.toNat<=0x7e)
def zec(s:List UInt8):Bool:=decide (1<=s.length)&&decide (s.length<=32)&&s.all zn7
structure Prin where
 parts:List (List UInt8)
 realm:List UInt8
def Prin.ok(p:Prin):Bool:=decide (1<=p.parts.length)&&decide (p.parts.length<=4)&&zdC p.realm&&p.parts.all zec
def Prin.der(p:Prin):List UInt8:=zdt [zap 0 (zdt (p.parts.map zav)),zap 1 (zav p.realm)]
structure Cert where
 serial:Int
 issuer:Prin
 subject:Prin
 fr:Int
 til:Int
 auth:Bool
 group:Int
 pub:List UInt8
 sig:List UInt8
def Cert.body(c:Cert):List UInt8:=zdt [zap 0 (zbv c.serial.toNat),zap 1 c.issuer.der,zap 2 c.subject.der,zap 3 (zbC c.fr.toNat),zap 4 (zbC c.til.toNat),zap 5 (zdc c.auth),zap 6 (zbv c.group.toNat),zap 7 (zbz c.pub)]
def Cert.der(c:Cert):List UInt8:=zdt [zap 0 c.body,zap 1 (zbz c.sig)]
def zaZ(l:List UInt8):Nat:=l.foldl (λv c=>v*256+c.toNat) 0
theorem zsf(l:List UInt8):∀a:Nat,l.foldl (λv c=>v*256+c.toNat) a=a*256^l.length+zaZ l:=by
 induction l with
 |nil=>intro a;simp[zaZ]
 |cons c l ih=>
  intro a;have h0:=ih (0*256+c.toNat);have j:=ih (a*256+c.toNat);simp only[zaZ,EE,AO] at*;rw[h0,j,AS,BL];simp only[BA,AU,<-BH];congr 2;rw[BN,AN 256]
theorem zde(c:UInt8)(l:List UInt8):zaZ (c::l)=c.toNat*256^l.length+zaZ l:=by
 have:=zsf l (0*256+c.toNat);rw[BA,AU] at this;rw[<-this];simp[zaZ]
theorem ziU:∀l:List UInt8,zaZ l<256^l.length
 | []=>by simp[zaZ]
 |c::l=>by
  have h:=ziU l;have j:=c.toNat_lt;rw[zde,AO,AS,AN _ 256];have:=AP (256^l.length) (show c.toNat+1<=256 by omega);rw[BL,Bm] at this;omega
theorem zjz(v:Nat):∀k,zaZ (beN v k)=v%256^k
 |0=>by simp[beN,zaZ,CZ]
 |k+1=>by
  rw[beN,zde,zjz v k,zbw,AS,Nat.mod_mul];have:(UInt8.ofNat (v/256^k)).toNat=v/256^k%256:=by simp
  rw[this,AN,DI]
def zgo(k:Nat):Nat:=if k=1 then 128 else if k=2 then 256 else 65536
def zeX:List UInt8->Option (Nat×Nat)
 |_::s::r=>
  if s.toNat<128 then (if s.toNat<=r.length then some (2,2+s.toNat) else none)
  else if s.toNat-128<1\/3<s.toNat-128 then none
  else if r.length<s.toNat-128 then none
  else if zaZ (r.take (s.toNat-128))<zgo (s.toNat-128) then none
  else if r.length-(s.toNat-128)<zaZ (r.take (s.toNat-128)) then none
  else some (2+(s.toNat-128),2+(s.toNat-128)+zaZ (r.take (s.toNat-128)))
 |_=>none
theorem zo3{b:List UInt8}{x y:Nat}(h:zeX b=some (x,y)):2<=x/\x<=y/\y<=b.length:=by
 match b,h with
 | [],h=>cases h
 | [_],h=>cases h
 |t::s::r,h=>
  simp only[zeX] at h;split at h
  ·split at h
   ·cases h;simp only[AO];omega
   ·cases h
  ·split at h
   ·cases h
   ·split at h
    ·cases h
    ·split at h
     ·cases h
     ·split at h
      ·cases h
      ·cases h;simp only[AO];omega
theorem zsB(t:UInt8)(l r:List UInt8)(h:l.length<16777216):zeX (t::(zce l.length++(l++r)))=some (1+(zce l.length).length,1+(zce l.length).length+l.length):=by
 unfold zce;split
 ·rename_i q;have e:(UInt8.ofNat l.length).toNat=l.length:=by simp;omega
  simp only[Aa,AY,zeX,e,if_pos q,A3,AO,Cd];rw[if_pos q_o]
 ·split
  ·rename_i q B;have e:(UInt8.ofNat l.length).toNat=l.length:=by simp;omega
   have j:zaZ [UInt8.ofNat l.length]=l.length:=by rw[zde,e];simp[zaZ]
   simp only[Aa,AY,zeX];rw[if_neg q_e,if_neg q_e,if_neg q_p];have m:(0x81:UInt8).toNat-128=1:=rfl;simp only[m,Br,Bb,j];rw[if_neg (by simp[zgo];omega),if_neg (by simp only[AO,A3];omega)];rfl
  ·split
   ·rename_i q B F;have w:(UInt8.ofNat (l.length/256)).toNat=l.length/256:=by simp;omega
    have A:(UInt8.ofNat l.length).toNat=l.length%256:=by simp
    have j:zaZ [UInt8.ofNat (l.length/256),UInt8.ofNat l.length]=l.length:=by rw[zde,zde,w,A];simp[zaZ];omega
    simp only[Aa,AY,zeX];rw[if_neg q_e,if_neg q_e,if_neg (by simp only[AO,A3];show ¬_<2;omega)];have m:(0x82:UInt8).toNat-128=2:=rfl;simp only[m,Br,Bb,j];rw[if_neg (by simp[zgo];omega),if_neg (by simp only[AO,A3];omega)];rfl
   ·rename_i q B F;have E:(UInt8.ofNat (l.length/65536)).toNat=l.length/65536:=by simp;omega
    have w:(UInt8.ofNat (l.length/256)).toNat=l.length/256%256:=by simp
    have A:(UInt8.ofNat l.length).toNat=l.length%256:=by simp
    have j:zaZ [UInt8.ofNat (l.length/65536),UInt8.ofNat (l.length/256),UInt8.ofNat l.length]=l.length:=by rw[zde,zde,zde,E,w,A];simp[zaZ];omega
    simp only[Aa,AY,zeX];rw[if_neg q_e,if_neg q_e,if_neg (by simp only[AO,A3];show ¬_<3;omega)];have m:(0x83:UInt8).toNat-128=3:=rfl;simp only[m,Br,Bb,j];rw[if_neg (by simp[zgo];omega),if_neg (by simp only[AO,A3];omega)];rfl
def zaU(tag:Nat)(b:List UInt8):Option (List UInt8×List UInt8):=
 match b with
 | []=>none
 |t::_=>if t.toNat=tag then (zeX b).map (λp=>((b.take p.2).drop p.1,b.drop p.2)) else none
theorem zfi{tag:Nat}{b l r:List UInt8}(h:zaU tag b=some (l,r)):r.length<b.length/\l.length+r.length<b.length:=by
 match b,h with
 |t::b,h=>
  simp only[zaU] at h;split at h
  ·cases hm:zeX (t::b) with
   |none=>rw[hm] at h;cases h
   |some p=>
    rw[hm] at h;obtain⟨x,y⟩:=p;have:=zo3 hm;simp only[CP,Bt,Ea] at h;obtain⟨rfl,rfl⟩:=h;simp only[Az,Ad];omega
  ·cases h
theorem zdS(tag:Nat)(l r:List UInt8)(B:tag<256)(h:l.length<16777216):zaU tag (tlv tag l++r)=some (l,r):=by
 have e:tlv tag l++r=UInt8.ofNat tag::(zce l.length++(l++r)):=by simp[tlv]
 have A:(UInt8.ofNat tag).toNat=tag:=by simp;omega
 rw[e,zaU,if_pos A,zsB _ l r h];simp only[CP,Bt,Ea];have j:UInt8.ofNat tag::(zce l.length++(l++r))=(UInt8.ofNat tag::zce l.length)++(l++r):=rfl;have m:1+(zce l.length).length=(UInt8.ofNat tag::zce l.length).length:=by simp;omega
 rw[j,m];have q:(UInt8.ofNat tag::zce l.length++(l++r))=((UInt8.ofNat tag::zce l.length)++l)++r:=by simp
 have w:(UInt8.ofNat tag::zce l.length).length+l.length=((UInt8.ofNat tag::zce l.length)++l).length:=by simp;omega
 rw[q,w,Dx,ES,ES];exact⟨rfl,rfl⟩
theorem zuW{tag:Nat}{l j:List UInt8}(q:tag<256)(h:l.length<16777216)(r:j.length<16777216)(e:tlv tag l=tlv tag j):l=j:=by
 have m:=zdS tag l [] q h;rw[e,zdS tag j [] q r] at m;simpa using m.symm
def zba(v:Int):Nat:=if h: -128<=v/\v<=127 then 1 else zba (v/256)+1
termination_by v.natAbs
decreasing_by omega
def beZ(v:Int):Nat->List UInt8
 |0=>[]
 |k+1=>UInt8.ofNat (v/256^k%256).toNat::beZ v k
theorem zi0(v:Int):∀k,(beZ v k).length=k
 |0=>rfl
 |k+1=>by rw[beZ,AO,zi0 v k]
theorem zlD(v:Nat):zba (v:Int)=zbo v:=by
 induction v using Nat.strongRecOn with
 |_ v j=>
  rw[zba,zbo];by_cases h:v<128
  ·rw[dif_pos q_o,dif_pos h]
  ·rw[dif_neg q_o,dif_neg h,<-j (v/256) q_o];simp
theorem ziT(v:Nat):∀k,beZ (v:Int) k=beN v k
 |0=>rfl
 |k+1=>by
  rw[beZ,beN,ziT v k];congr 1;have:((v:Int)/256^k%256)=((v/256^k%256:Nat):Int):=by push_cast;rfl
  rw[this,Bc];apply CB.1;simp
def zdE:List UInt8->Int
 | []=>0
 |c::r=>(if c.toNat<128 then (c.toNat:Int) else (c.toNat:Int)-256)*(256^r.length:Nat)+(zaZ r:Int)
theorem zqn(v:Nat):v<128*256^(zbo v-1):=by
 induction v using Nat.strongRecOn with
 |_ v q=>
  rcases AK v 128 with h|h
  ·rw[zcQ h];simpa using h
  ·rw[zeR h];have j:=q (v/256) q_o;obtain⟨k,m⟩:∃k,zbo (v/256)=k+1:=⟨zbo (v/256)-1,by have:=zgT (v/256);omega⟩;rw[m] at j ⊢;simp only[B8] at j ⊢;rw[Af q_e] at j;rw[AS,<-BN];exact j
theorem ztj(v:Nat):zdE (beN v (zbo v))=v:=by
 obtain⟨k,m⟩:∃k,zbo v=k+1:=⟨zbo v-1,by have:=zgT v;omega⟩;have h:=zqn v;rw[m,B8] at h;have j:v/256^k<128:=by rw[Af (Ab q_e)];exact h
 rw[m,beN,zdE,zbw,zjz];have e:(UInt8.ofNat (v/256^k)).toNat=v/256^k:=by simp;omega
 rw[e,if_pos j];have:=Ae v (256^k);rw[AN] at this;exact_mod_cast this
def zbQ:Int:=4611686018427387904
def rdI(l:List UInt8):Option Int:=if 1<=l.length/\l.length<=8/\ -zbQ<=zdE l/\zdE l<=zbQ/\beZ (zdE l) (zba (zdE l))=l then some (zdE l) else none
theorem zgU{v:Nat}(h:v<=4611686018427387904):zbo v<=8:=zkA 7 v q_o
theorem zvN{v:Nat}(h:v<=4611686018427387904):rdI (beN v (zbo v))=some (v:Int):=by
 have j:=zgT v;have m:=zgU h;rw[rdI,ztj,zbw,if_pos];exact⟨j,m,by unfold zbQ;omega,by unfold zbQ;omega,by rw[zlD,ziT]⟩
def rdT(l:List UInt8):Option Int:=if l.length=6/\zaZ l<=1099511627776 then some (zaZ l:Int) else none
theorem zvs{v:Nat}(h:v<=1099511627776):rdT (beN v 6)=some (v:Int):=by
 have:v%256^6=v:=AA q_o;rw[rdT,zbw,zjz,this,if_pos ⟨rfl,h⟩]
def rdB(l:List UInt8):Option Bool:=match l with
 | [c]=>if c=255 then some true else if c=0 then some false else none
 |_=>none
theorem zs6(b:Bool):rdB [if b then 255 else 0]=some b:=by cases b <;> rfl
def rdV{α:Type}(tag:Nat)(f:List UInt8->Option α)(b:List UInt8):Option (α×List UInt8):=(zaU tag b).bind λp=>(f p.1).map λv=>(v,p.2)
def rdW{α:Type}(tag:Nat)(f:List UInt8->Option (α×List UInt8))(b:List UInt8):Option (α×List UInt8):=(zaU tag b).bind λp=>(f p.1).bind λq=>if q.2= [] then some (q.1,p.2) else none
theorem ziV{α:Type}{tag:Nat}{f:List UInt8->Option α}{l r:List UInt8}{v:α}(m:tag<256)(h:l.length<16777216)(j:f l=some v):rdV tag f (tlv tag l++r)=some (v,r):=by
 rw[rdV,zdS tag l r m h];simp[j]
theorem zc7{α:Type}{tag:Nat}{f:List UInt8->Option (α×List UInt8)}{l r:List UInt8}{v:α}(m:tag<256)(h:l.length<16777216)(j:f l=some (v,[])):rdW tag f (tlv tag l++r)=some (v,r):=by
 rw[rdW,zdS tag l r m h];simp[j]
def zb1(b:List UInt8):Option (List (List UInt8)):=if b= [] then some [] else match h:zaU 0x1b b with
 |none=>none
 |some p=>(zb1 p.2).map (p.1:: ·)
termination_by b.length
decreasing_by exact(zfi h).1
theorem zj8:zb1 []=some []:=by rw[zb1,if_pos rfl]
theorem zjj{b l r:List UInt8}(h:zaU 0x1b b=some (l,r)):zb1 b=(zb1 r).map (l:: ·):=by
 have m:b≠[]:=λe=>by rw[e] at h;cases h
 rw[zb1,if_neg m];split
 ·rename_i j;rw[h] at j;cases j
 ·rename_i p j;rw[h] at j;cases j;rfl
theorem zoE{b:List UInt8}(hb:b≠[])(h:zaU 0x1b b=none):zb1 b=none:=by
 rw[zb1,if_neg hb];split
 ·rfl
 ·rename_i p j;rw[h] at j;cases j
theorem zko:∀j:List (List UInt8),(∀p∈j,p.length<16777216)->zb1 (j.map zav).flatten=some j
 | [],_=>zj8
 |p::j,h=>by
  have m:=zdS 0x1b p (j.map zav).flatten q_e (h p A4);rw[As,BP,zav,zjj m,zko j (λq r=>h q (A0 _ r))];rfl
def rdP(b:List UInt8):Option (Prin×List UInt8):=
 (zaU 0x30 b).bind λs=>(rdW 0xa0 (zaU 0x30) s.1).bind λps=>(zb1 ps.1).bind λparts=>(rdW 0xa1 (zaU 0x1b) ps.2).bind λrl=>
  if rl.2= []/\(Prin.mk parts rl.1).ok=true then some (⟨parts,rl.1⟩,s.2) else none
def zbE(s:List UInt8):Option (Cert×List UInt8):=
 (rdW 0xa0 (rdV 2 rdI) s).bind λa=>(rdW 0xa1 rdP a.2).bind λb=>(rdW 0xa2 rdP b.2).bind λc=>(rdW 0xa3 (rdV 0x18 rdT) c.2).bind λd=>
 (rdW 0xa4 (rdV 0x18 rdT) d.2).bind λe=>(rdW 0xa5 (rdV 1 rdB) e.2).bind λf=>(rdW 0xa6 (rdV 2 rdI) f.2).bind λg=>(rdW 0xa7 (rdV 4 some) g.2).bind λh=>
 some (⟨a.1,b.1,c.1,d.1,e.1,f.1,g.1,h.1,[]⟩,h.2)
def zeH(s:List UInt8):Option (Cert×List UInt8):=
 (rdW 0xa0 (rdW 0x30 zbE) s).bind λa=>(rdW 0xa1 (rdV 4 some) a.2).bind λb=>some ({ a.1 with sig:=b.1 },b.2)
def zcH(b:List UInt8):Option (Cert×List UInt8):=rdW 0x30 zeH b
def za5(b:List UInt8)(n:Nat):Option (List Cert):=if b= [] then some [] else match n with
 |0=>none
 |n+1=>(zcH b).bind λp=>(za5 p.2 n).map (p.1:: ·)
theorem Prin.ok_parts{p:Prin}(h:p.ok=true):p.parts.length<=4/\(∀x∈p.parts,x.length<=32)/\p.realm.length<=32:=by
 simp only[Prin.ok,A5,decide_eq_true_eq,AD,zec,zdC] at h;exact⟨h.1.1.2,λx j=>((h.2 x j).1).2,h.1.2.1.2⟩
def F0:=@Prin.ok_parts
theorem flat_len(m:Nat):∀l:List (List UInt8),(∀x∈l,x.length<=m)->l.flatten.length<=l.length*m
 | [],_=>by simp
 |x::l,h=>by
  have q:=flat_len m l (λy j=>h y (A0 _ j));have r:=h x A4;rw[BP,A3,AO,BL];omega
theorem Prin.strs_len{p:Prin}(h:p.ok=true):(p.parts.map zav).flatten.length<=148:=by
 obtain⟨r,j,w⟩:=F0 h;have:=flat_len 37 (p.parts.map zav) (λx m=>by
  obtain⟨y,q,rfl⟩:=C9.1 m;have:=(zae 0x1b y).2;have:=j y q;unfold zav;omega)
 rw[A1] at this;omega
def FT:=@Prin.strs_len
theorem Prin.der_len{p:Prin}(h:p.ok=true):p.der.length<=205:=by
 obtain⟨j,m,q⟩:=F0 h;have r:=FT h;have a1:=(zae 0x30 (p.parts.map zav).flatten).2;have a2:=(zae 0xa0 (tlv 0x30 (p.parts.map zav).flatten)).2;have a3:=(zae 0x1b p.realm).2;have a4:=(zae 0xa1 (tlv 0x1b p.realm)).2;have a5:=(zae 0x30 [tlv 0xa0 (tlv 0x30 (p.parts.map zav).flatten),tlv 0xa1 (tlv 0x1b p.realm)].flatten).2;simp only[BP,CY,AH,A3] at a5;have e:p.der.length=(tlv 0x30 (tlv 0xa0 (tlv 0x30 (p.parts.map zav).flatten)++tlv 0xa1 (tlv 0x1b p.realm))).length:=by
  simp only[Prin.der,zdt,zap,zav,BP,CY,AH]
 rw[e];omega
def F6:=@Prin.der_len
theorem zvF{p:Prin}(h:p.ok=true)(r:List UInt8):rdP (p.der++r)=some (p,r):=by
 obtain⟨F,A,G⟩:=F0 h;have H:=FT h;have I:=F6 h;have a1:=zae 0x30 (p.parts.map zav).flatten;have a3:=zae 0x1b p.realm;have a5:=(zae 0x30 [tlv 0xa0 (tlv 0x30 (p.parts.map zav).flatten),tlv 0xa1 (tlv 0x1b p.realm)].flatten).1;have B: [tlv 0xa0 (tlv 0x30 (p.parts.map zav).flatten),tlv 0xa1 (tlv 0x1b p.realm)].flatten.length<16777216:=by
  have:p.der.length=(tlv 0x30 [tlv 0xa0 (tlv 0x30 (p.parts.map zav).flatten),tlv 0xa1 (tlv 0x1b p.realm)].flatten).length:=rfl;omega
 have j:zaU 0x30 (p.der++r)=some ([tlv 0xa0 (tlv 0x30 (p.parts.map zav).flatten),tlv 0xa1 (tlv 0x1b p.realm)].flatten,r):=zdS 0x30 _ r q_e B;have m:rdW 0xa0 (zaU 0x30) [tlv 0xa0 (tlv 0x30 (p.parts.map zav).flatten),tlv 0xa1 (tlv 0x1b p.realm)].flatten=some ((p.parts.map zav).flatten,tlv 0xa1 (tlv 0x1b p.realm)):=by
  simp only[BP,CY,AH];refine zc7 q_e q_o ?_;have:=zdS 0x30 (p.parts.map zav).flatten [] q_e q_o;rwa[AH] at this
 have q:zb1 (p.parts.map zav).flatten=some p.parts:=zko _ (λx E=>by have:=A x E;omega);have w:rdW 0xa1 (zaU 0x1b) (tlv 0xa1 (tlv 0x1b p.realm))=some (p.realm,[]):=by
  have:=zc7 (tag:=0xa1) (f:=zaU 0x1b) (l:=tlv 0x1b p.realm) (r:=[]) (v:=p.realm) q_e q_o (by
   have:=zdS 0x1b p.realm [] q_e q_o;rwa[AH] at this)
  rwa[AH] at this
 simp only[rdP,j,AW,m,q,w];rw[if_pos ⟨trivial,h⟩]
structure Cert.small(c:Cert):Prop where
 s0:0<=c.serial
 s1:c.serial<=4611686018427387904
 iss:c.issuer.ok=true
 sub:c.subject.ok=true
 f0:0<=c.fr
 f1:c.fr<=1099511627776
 t0:0<=c.til
 t1:c.til<=1099511627776
 g0:0<=c.group
 g1:c.group<=4611686018427387904
 pub:c.pub.length<1000000
 sig:c.sig.length<1000000
theorem zel{v:Nat}(h:v<=4611686018427387904):2<=(zbv v).length/\(zbv v).length<=13:=by
 have:=zae 2 (beN v (zbo v));have:=zgU h;rw[zbw] at*;unfold zbv;omega
theorem zxq{n v:Nat}(hn:n<256)(h:v<=4611686018427387904)(r:List UInt8):rdW n (rdV 2 rdI) (tlv n (zbv v)++r)=some ((v:Int),r):=by
 have j:=zel h;refine zc7 hn q_o ?_;have:=ziV (tag:=2) (f:=rdI) (l:=beN v (zbo v)) (r:=[]) q_e (by rw[zbw];have:=zgU h;omega) (zvN h);rwa[AH] at this
theorem zxH{n:Nat}{p:Prin}(hn:n<256)(h:p.ok=true)(r:List UInt8):rdW n rdP (tlv n p.der++r)=some (p,r):=by
 refine zc7 hn (by have:=F6 h;omega) ?_;have:=zvF h [];rwa[AH] at this
theorem zjM(v:Nat):(zbC v).length<=11:=by
 have:=(zae 0x18 (beN v 6)).2;rw[zbw] at this;unfold zbC;omega
theorem zxC{n v:Nat}(hn:n<256)(h:v<=1099511627776)(r:List UInt8):rdW n (rdV 0x18 rdT) (tlv n (zbC v)++r)=some ((v:Int),r):=by
 refine zc7 hn (by have:=zjM v;omega) ?_;have:=ziV (tag:=0x18) (f:=rdT) (l:=beN v 6) (r:=[]) q_e (by rw[zbw];decide) (zvs h);rwa[AH] at this
theorem zym{n:Nat}{b:Bool}(hn:n<256)(r:List UInt8):rdW n (rdV 1 rdB) (tlv n (zdc b)++r)=some (b,r):=by
 refine zc7 hn (by cases b <;> decide) ?_;have:=ziV (tag:=1) (f:=rdB) (l:=[if b then 255 else 0]) (r:=[]) q_e (by rw[List.length_singleton];decide) (zs6 b);rwa[AH] at this
theorem zhk(l:List UInt8):(zbz l).length<=l.length+5:=(zae 4 l).2
theorem zxu{n:Nat}{l:List UInt8}(hn:n<256)(h:l.length<1000000)(r:List UInt8):rdW n (rdV 4 some) (tlv n (zbz l)++r)=some (l,r):=by
 refine zc7 hn (by have:=zhk l;omega) ?_;have:=ziV (tag:=4) (f:=some) (l:=l) (r:=[]) q_e q_o rfl;rwa[AH] at this
def Cert.flat(c:Cert):List UInt8:=tlv 0xa0 (zbv c.serial.toNat)++(tlv 0xa1 c.issuer.der++(tlv 0xa2 c.subject.der++(tlv 0xa3 (zbC c.fr.toNat)++(tlv 0xa4 (zbC c.til.toNat)++(tlv 0xa5 (zdc c.auth)++(tlv 0xa6 (zbv c.group.toNat)++tlv 0xa7 (zbz c.pub)))))))
theorem Cert.body_flat(c:Cert):c.body=tlv 0x30 c.flat:=by
 simp only[Cert.body,zdt,zap,Cert.flat,BP,CY,AH]
def FM:=@Cert.body_flat
theorem Cert.flat_len{c:Cert}(h:c.small):c.flat.length<=600+c.pub.length:=by
 have a0:=(zae 0xa0 (zbv c.serial.toNat)).2;have a1:=(zae 0xa1 c.issuer.der).2;have a2:=(zae 0xa2 c.subject.der).2;have a3:=(zae 0xa3 (zbC c.fr.toNat)).2;have a4:=(zae 0xa4 (zbC c.til.toNat)).2;have a5:=(zae 0xa5 (zdc c.auth)).2;have j:=(zae 0xa6 (zbv c.group.toNat)).2;have m:=(zae 0xa7 (zbz c.pub)).2;have q:=zel (v:=c.serial.toNat) (by have:=h.s1;omega);have r:=F6 h.iss;have w:=F6 h.sub;have A:=zjM c.fr.toNat;have B:=zjM c.til.toNat;have E:(zdc c.auth).length<=3:=by cases c.auth <;> decide
 have F:=zel (v:=c.group.toNat) (by have:=h.g1;omega);have G:=zhk c.pub;simp only[Cert.flat,A3];omega
def FU:=@Cert.flat_len
theorem zoJ{c:Cert}(h:c.small)(r:List UInt8):zbE (c.flat++r)=some ({ c with sig:=[] },r):=by
 have j:=zxq (n:=0xa0) (v:=c.serial.toNat) q_e (by have:=h.s1;omega);have m:=zxH (n:=0xa1) q_e h.iss;have q:=zxH (n:=0xa2) q_e h.sub;have w:=zxC (n:=0xa3) (v:=c.fr.toNat) q_e (by have:=h.f1;omega);have A:=zxC (n:=0xa4) (v:=c.til.toNat) q_e (by have:=h.t1;omega);have B:=zym (n:=0xa5) (b:=c.auth) q_e;have E:=zxq (n:=0xa6) (v:=c.group.toNat) q_e (by have:=h.g1;omega);have F:=zxu (n:=0xa7) (l:=c.pub) q_e h.pub;simp only[zbE,Cert.flat,AF,j,m,q,w,A,B,E,F,AW];rw[AT h.s0,AT h.f0,AT h.t0,AT h.g0]
theorem Cert.der_flat(c:Cert):c.der=tlv 0x30 (tlv 0xa0 (tlv 0x30 c.flat)++tlv 0xa1 (zbz c.sig)):=by
 simp only[Cert.der,zdt,zap,FM,BP,CY,AH]
def FZ:=@Cert.der_flat
theorem zke{c:Cert}(h:c.small)(r:List UInt8):zcH (c.der++r)=some (c,r):=by
 have w:=FU h;have A:=h.pub;have q:=h.sig;have a1:=zae 0x30 c.flat;have a2:=zae 0xa0 (tlv 0x30 c.flat);have a3:=zhk c.sig;have a4:=zae 0xa1 (zbz c.sig);rw[FZ,zcH];refine zc7 q_e (by simp only[A3];omega) ?_;have m:rdW 0xa0 (rdW 0x30 zbE) (tlv 0xa0 (tlv 0x30 c.flat)++tlv 0xa1 (zbz c.sig))=some ({ c with sig:=[] },tlv 0xa1 (zbz c.sig)):=by
  refine zc7 q_e q_o ?_;have:=zc7 (tag:=0x30) (f:=zbE) (l:=c.flat) (r:=[]) (v:={ c with sig:=[] }) q_e q_o (by
   have:=zoJ h [];rwa[AH] at this)
  rwa[AH] at this
 have j:=zxu (n:=0xa1) (l:=c.sig) q_e q [];rw[AH] at j;simp only[zeH,m,j,AW]
theorem zjp:∀(l:List Cert) (n:Nat),l.length<=n->(∀c∈l,c.small)->za5 (l.map Cert.der).flatten n=some l
 | [],n,_,_=>by unfold za5;simp
 |c::l,0,h,_=>by simp at h
 |c::l,n+1,h,hc=>by
  have q:=zjp l n (by simpa using h) (λd m=>hc d (A0 _ m));have j:((c::l).map Cert.der).flatten≠[]:=by
   rw[As,BP,FZ];simp[tlv]
  unfold za5;rw[if_neg j];simp only[As,BP,zke (hc c A4),AW,q,CP]
def Prin.same(a b:Prin):Bool:=a.realm==b.realm&&a.parts==b.parts
theorem Prin.same_iff{a b:Prin} :a.same b=true↔a=b:=by
 cases a;cases b;simp only[Prin.same,A5,beq_iff_eq,Prin.mk.injEq];exact And.comm
def F7:=@Prin.same_iff
def Cert.same(a b:Cert):Bool:=decide (a.serial=b.serial)&&a.issuer.same b.issuer&&a.subject.same b.subject&&decide (a.fr=b.fr)&&decide (a.til=b.til)&&(a.auth==b.auth)&&decide (a.group=b.group)&&(a.pub==b.pub)&&(a.sig==b.sig)
theorem Cert.same_iff{a b:Cert} :a.same b=true↔a=b:=by
 cases a;cases b;simp only[Cert.same,A5,decide_eq_true_eq,beq_iff_eq,F7,Cert.mk.injEq,and_assoc]
def Fk:=@Cert.same_iff
-- sv: which public keys are valid; sf: which signatures are right.
variable (sv:Int->List UInt8->Bool)(sf:Int->List UInt8->List UInt8->List UInt8->Bool)
def Cert.ok(c:Cert):Bool:=decide (0<=c.serial)&&decide (c.serial<=4611686018427387904)&&c.issuer.ok&&c.subject.ok&&decide (0<=c.fr)&&decide (c.fr<=c.til)&&decide (c.til<=1099511627776)&&decide (c.sig.length<=192)&&sv c.group c.pub
structure KeyLaw:Prop where
 g0:∀g p,sv g p=true->0<=g
 g1:∀g p,sv g p=true->g<1000
 len:∀g p,sv g p=true->p.length<1000
section
variable (sv:Int->List UInt8->Bool)(sf:Int->List UInt8->List UInt8->List UInt8->Bool)
variable {sv}
theorem Cert.ok_small(hk:KeyLaw sv){c:Cert}(h:c.ok sv=true):c.small:=by
 simp only[Cert.ok,A5,decide_eq_true_eq] at h;obtain⟨⟨⟨⟨⟨⟨⟨⟨m,q⟩,r⟩,w⟩,A⟩,E⟩,B⟩,F⟩,j⟩:=h;have a:=hk.g0 _ _ j;have b:=hk.g1 _ _ j;have d:=hk.len _ _ j;exact⟨m,q,r,w,A,by omega,by omega,B,a,by omega,by omega,by omega⟩
def F1:=@Cert.ok_small
end
section
variable (sv:Int->List UInt8->Bool)(sf:Int->List UInt8->List UInt8->List UInt8->Bool)
def zdX(b:List UInt8):Option Cert:=match zcH b with
 |some (c,[])=>if c.ok sv=true/\c.der=b then some c else none
 |_=>none
end
section
variable (sv:Int->List UInt8->Bool)(sf:Int->List UInt8->List UInt8->List UInt8->Bool)
variable {sv}
theorem zsY(hk:KeyLaw sv)(b:List UInt8)(c:Cert):zdX sv b=some c↔c.ok sv=true/\c.der=b:=by
 constructor
 ·intro h;unfold zdX at h;split at h
  ·rename_i d _;split at h
   ·rename_i j;cases h;exact j
   ·cases h
  ·cases h
 ·rintro⟨h,rfl⟩;have e:=zke (F1 hk h) [];rw[AH] at e;rw[zdX,e];simp[h]
end
section
variable (sv:Int->List UInt8->Bool)(sf:Int->List UInt8->List UInt8->List UInt8->Bool)
def zaF(l:List Cert):Bool:=decide (1<=l.length)&&decide (l.length<=5)&&l.all (Cert.ok sv)
def zbx(l:List Cert):List UInt8:=zdt (l.map Cert.der)
def zd7(b:List UInt8):Option (List Cert×List UInt8):=rdW 0x30 (λs=>(za5 s 5).map λl=>(l,[])) b
def zcW(b:List UInt8):Option (List Cert):=match zd7 b with
 |some (l,[])=>if zaF sv l=true/\zbx l=b then some l else none
 |_=>none
end
variable (sv:Int->List UInt8->Bool)(sf:Int->List UInt8->List UInt8->List UInt8->Bool)
variable {sv}
theorem Cert.der_len{c:Cert}(h:c.small):c.der.length<=700+c.pub.length+c.sig.length:=by
 have j:=FU h;have a1:=zae 0x30 c.flat;have a2:=zae 0xa0 (tlv 0x30 c.flat);have a3:=zhk c.sig;have a4:=zae 0xa1 (zbz c.sig);have a5:=zae 0x30 (tlv 0xa0 (tlv 0x30 c.flat)++tlv 0xa1 (zbz c.sig));rw[FZ];simp only[A3] at*;omega
def Fg:=@Cert.der_len
theorem zgO(hk:KeyLaw sv){l:List Cert}(h:zaF sv l=true):(l.map Cert.der).flatten.length<=10000:=by
 simp only[zaF,A5,decide_eq_true_eq,AD] at h;have:=flat_len 1950 (l.map Cert.der) (λx q=>by
  obtain⟨c,m,rfl⟩:=C9.1 q;have j:=h.2 c m;have r:=Fg (F1 hk j);simp only[Cert.ok,A5,decide_eq_true_eq] at j;have w:=hk.len _ _ j.2;have A:=j.1.2;omega)
 rw[A1] at this;have:=h.1.2;omega
theorem zrG(hk:KeyLaw sv)(b:List UInt8)(l:List Cert):zcW sv b=some l↔zaF sv l=true/\zbx l=b:=by
 constructor
 ·intro h;unfold zcW at h;split at h
  ·split at h
   ·rename_i q;cases h;exact q
   ·cases h
  ·cases h
 ·rintro⟨h,rfl⟩;have A:=zgO hk h;have j:=h;simp only[zaF,A5,decide_eq_true_eq,AD] at j;have e:=zjp l 5 j.1.2 (λc w=>F1 hk (j.2 c w));have m:zd7 (zbx l)=some (l,[]):=by
   have:=zc7 (tag:=0x30) (f:=λs=>(za5 s 5).map λl=>(l,[])) (l:=(l.map Cert.der).flatten) (r:=[]) (v:=l) q_e q_o (by rw[e];rfl);rwa[AH] at this
  rw[zcW,m];simp[h]
structure Anch where
 name:Prin
 group:Int
 pub:List UInt8
structure Revo where
 issuer:Prin
 serial:Int
def zdI(rs:List Revo)(c:Cert):Bool:=rs.any λr=>r.issuer.same c.issuer&&decide (r.serial=c.serial)
def zds(c:Cert)(a:Anch)(rs:List Revo)(now:Int)(first:Bool):Int:=
 if !c.issuer.same a.name then 220 else if !sf a.group a.pub c.body c.sig then 221 else if now<c.fr\/c.til<now then 222 else if zdI rs c then 223 else if !first && !c.auth then 224 else 0
def zcY(rs:List Revo)(now:Int):List Cert->Anch->Int×Int
 | [],_=>(0,0)
 |c::l,a=>if zds sf c a rs now l.isEmpty=0 then zcY rs now l ⟨c.subject,c.group,c.pub⟩ else ((l.length:Int),zds sf c a rs now l.isEmpty)
def noAnch:Anch:=⟨⟨[],[]⟩,0,[]⟩
def zen(aq:List Anch)(p:Prin):Anch:=(aq.find? λa=>a.name.same p).getD noAnch
def Anch.ok(sv:Int->List UInt8->Bool)(a:Anch):Bool:=a.name.ok&&sv a.group a.pub
def zeg(sv:Int->List UInt8->Bool)(l:List Cert)(aq:List Anch)(rs:List Revo)(now:Int):Bool:=zaF sv l&&decide (aq.length<=64)&&aq.all (Anch.ok sv)&&decide (rs.length<=64)&&decide (0<=now)&&decide (now<=1099511627776)
def verify(sv:Int->List UInt8->Bool)(l:List Cert)(aq:List Anch)(rs:List Revo)(now:Int):Int×Int:=
 if zeg sv l aq rs now=true then zcY sf rs now l.reverse (zen aq (match l.reverse with| []=>noAnch.name|c::_=>c.issuer)) else (0,2)
theorem zl3{c:Cert}{a:Anch}{rs:List Revo}{now:Int}{first:Bool} :zds sf c a rs now first=0↔c.issuer.same a.name=true/\sf a.group a.pub c.body c.sig=true/\(c.fr<=now/\now<=c.til)/\zdI rs c=false/\(first=true\/c.auth=true):=by
 unfold zds;cases c.issuer.same a.name <;> cases sf a.group a.pub c.body c.sig <;> cases zdI rs c <;> cases first <;> cases c.auth <;> simp <;> omega
theorem zhA{rs j rs2:List Revo}{t1 t2 t:Int}(h1:t1<=t)(h2:t<=t2)(hr:∀c,zdI rs c=false->zdI j c=false->zdI rs2 c=false):∀(l:List Cert) (a:Anch),(zcY sf rs t1 l a).2=0->(zcY sf j t2 l a).2=0->(zcY sf rs2 t l a).2=0
 | [],_,_,_=>rfl
 |c::l,a,ha,hb=>by
  unfold zcY at ha hb ⊢;have key:∀ {x:Int}{p q:Int×Int},(if x=0 then p else q).2=0->q.2=x->x=0/\p.2=0:=by
   intro x p q h B;split at h
   ·rename_i m;exact⟨m,h⟩
   ·rename_i m;rw[B] at h;exact absurd h m
  obtain⟨a1,a2⟩:=key ha rfl;obtain⟨r,w⟩:=key hb rfl;rw[zl3] at a1 r;have A:zds sf c a rs2 t l.isEmpty=0:=by
   rw[zl3];exact⟨a1.1,a1.2.1,⟨by omega,by omega⟩,hr c a1.2.2.2.1 r.2.2.2.1,a1.2.2.2.2⟩
  rw[if_pos A];exact zhA h1 h2 hr l _ a2 w
theorem zgV{sv:Int->List UInt8->Bool}{l:List Cert}{aq:List Anch}{rs:List Revo}{now:Int}(h:(verify sf sv l aq rs now).2=0):zeg sv l aq rs now=true:=by
 unfold verify at h;split at h
 ·rename_i j;exact j
 ·simp at h
theorem zlg{sv:Int->List UInt8->Bool}{l:List Cert}{aq:List Anch}{rs:List Revo}{t1 t2 t:Int}(h1:t1<=t)(h2:t<=t2)(a:(verify sf sv l aq rs t1).2=0)(b:(verify sf sv l aq rs t2).2=0):(verify sf sv l aq rs t).2=0:=by
 have a1:=zgV sf a;have j:=zgV sf b;have m:zeg sv l aq rs t=true:=by
  simp only[zeg,A5,decide_eq_true_eq] at*;exact⟨⟨a1.1.1,by omega⟩,by omega⟩
 unfold verify at*;rw[if_pos a1] at a;rw[if_pos j] at b;rw[if_pos m];exact zhA sf h1 h2 (λ_ h _=>h) _ _ a b
theorem zmI{sv:Int->List UInt8->Bool}{l:List Cert}{aq:List Anch}{rs more:List Revo}{t:Int}(a:(verify sf sv l aq (rs++more) t).2=0):(verify sf sv l aq rs t).2=0:=by
 have a1:=zgV sf a;have j:zeg sv l aq rs t=true:=by
  simp only[zeg,A5,decide_eq_true_eq,A3] at*;exact⟨⟨⟨a1.1.1.1,by omega⟩,a1.1.2⟩,a1.2⟩
 unfold verify at*;rw[if_pos a1] at a;rw[if_pos j];refine zhA sf (Int.le_refl t) (Int.le_refl t) (λc h _=>?_) _ _ a a;simp only[zdI,List.any_append,Bool.or_eq_false_iff] at h;exact h.1
end Go.Ct
