/- Certificates, walked: lists that are valid, revocations, issuers. -/
import Derived.Test.YtdnlngbjpdbffaaGreatDoorLJ39
import Derived.Test.YtdnlngbjpdbffaaGreatDoorLJ41
import Derived.Test.YtdnlngbjpdbffaaGreatDoorLJ38
set_option maxHeartbeats 4000000
set_option maxRecDepth 10000
set_option linter.all false
section
namespace Go.Ct
open Go Go.Sy
theorem LstAt.at {α β:Type}{cell:β->α->List Value}{At:World->β->α->Prop}{w:World}{a:Option Addr}{c k:Nat}{ps:List β}{l:List α}(h:LstAt cell At w a c ps l) (h0:0 < k) (hk: ∀p x,(cell p x).length=k) {i:Nat}(hi:i < l.length): ∃bl ol p,a=some ⟨bl,ol,none⟩/\ps[i]?=some p/\At w p l[i]/\w.rangeAt bl (ol+i*k) (cell p l[i]):=by
 have hz:(List.zipWith cell ps l).length=l.length:=by rw [List.length_zipWith,h.len,Nat.min_self]
 obtain ⟨bl,ol,rfl,hc⟩:=zje (k:=k) h.mem (λC hC=>by
  obtain ⟨p,x,rfl⟩:=mem_zipWith hC;exact hk p x) h0 (i:=i) q_o
 have hp:i < ps.length:=by rw [h.len];exact hi
 refine ⟨bl,ol,ps[i],rfl,List.getElem?_eq_getElem hp,h.each i _ _ (List.getElem?_eq_getElem hp) (List.getElem?_eq_getElem hi),?_⟩;have:=hc i q_o;rwa [List.getElem_zipWith] at this
where
 mem_zipWith: ∀ {ps:List β}{l:List α}{C:List Value},C∈List.zipWith cell ps l-> ∃p x,C=cell p x
  |p::ps,x::l,C,h=>by
   rcases List.mem_cons.1 h with rfl|h
   ·exact ⟨p,x,rfl⟩
   ·exact mem_zipWith h
theorem zfi {α β:Type}{cell:β->α->List Value} : ∀ {ps:List β}{l:List α}{z:List Value×α},z∈List.zip (List.zipWith cell ps l) l-> ∃p,z.1=cell p z.2/\ ∃i:Nat,ps[i]?=some p/\l[i]?=some z.2
 |p::ps,x::l,z,h=>by
  rcases List.mem_cons.1 h with rfl|h
  ·exact ⟨p,rfl,0,rfl,rfl⟩
  ·obtain ⟨p',h1,i,h2,h3⟩:=zfi h;exact ⟨p',h1,i+1,h2,h3⟩
theorem zhN {α β:Type}{cell:β->α->List Value} : ∀ {ps:List β}{l:List α},ps.length=l.length->(List.zip (List.zipWith cell ps l) l).map (·.2)=l
 | [],[],_=>rfl
 |p::ps,x::l,h=>by
  have:=zhN (cell:=cell) (ps:=ps) (l:=l) (by simpa using h);rw [List.zipWith_cons_cons,List.zip_cons_cons,List.map_cons,this]
theorem zjq {α γ:Type}(q:α->Bool): ∀zs:List (γ×α),(zs.filter (λp=>q p.2)).map (·.2)=(zs.map (·.2)).filter q
 | []=>rfl
 |z::zs=>by
  have ih:=zjq q zs;cases h:q z.2
  ·rw [List.filter_cons_of_neg (by simp [h]),List.map_cons,List.filter_cons_of_neg (by simp [h]),ih]
  ·rw [List.filter_cons_of_pos (by simp [h]),List.map_cons,List.map_cons,List.filter_cons_of_pos (by simp [h]),ih]
theorem zoB {γ:Type}{k:Nat}{zs:List (List Value×γ)}(hk: ∀z∈zs,z.1.length=k) {i:Nat}(hi:i < zs.length) (J:List Value):Seg ((zs.map (·.1)).flatten ++ J) (i*k) zs[i].1:=λj v hj=>by
 have ht:j < k:=by have:=(List.getElem?_eq_some_iff.1 hj).1;rw [hk zs[i] (List.getElem_mem hi)] at this;exact this
 have hg:=zdQ (f:=λ(z:List Value×γ)=>z.1) (k:=k) zs hk i j ht;rw [List.getElem?_eq_getElem hi,List.flatMap_def] at hg;have hg':(zs.map (·.1)).flatten[i*k+j]?=some v:=by rw [hg];exact hj
 rw [List.getElem?_append_left (List.getElem?_eq_some_iff.1 hg').1];exact hg'
end Go.Ct
namespace Go.Proofs.YtdnlngbjpdbffaaGreatDoor
open Go Go.Sy Go.Ct Go.Nt Go.RowKit
attribute [local irreducible] Sy SyL SyX SyC SyF Sy.Fn callFunc
theorem mapTy:Tryz.prog.underlying 103=some (.map 3 4):=by kernel_rfl
theorem intTy:Tryz.prog.underlying 3=some (.int .i64):=by kernel_rfl
theorem boolZero (w:World):(zeroValue 4).run Tryz.prog w= .ok (.bool false) w:=by
 have h:Tryz.prog.underlying 4=some .bool:=by kernel_rfl
 simp [zeroValue,h,go_sem];rfl
abbrev ChainAt:=LstAt certL CertAt
abbrev AnchsAt:=LstAt anchL AnchAt
abbrev RevosAt:=LstAt revoL RevoAt
theorem znp (a:Option Addr) (n c:Nat) (ps:List Pl) (l:List Cert) (w:World) (hG:GT w) (hn:l.length=n) (h:ChainAt w a c ps l) (hf: ∀x∈l,x.fine) (hb:n < 1000000):Sy.Fn Tryz.prog 39 [.slice a n c] w No (Gives (.bool (chainOk svK l))):=by
 refine zg Tryz.func39 rfl Tryz.ntmps39 q_p Holds.nil ?_;have hcase:n < 1\/5 < n\/(1<=n/\n<=5):=q_o;have hno:n < 1\/5 < n->chainOk svK l=false:=λh=>by
  have:(decide (1<=l.length) && decide (l.length<=5))=false:=by rw [hn];rcases h with h|h <;> simp <;> omega
  unfold chainOk;rw [this];rfl
 rcases hcase with h1|h1|⟨h1,h5⟩
 ·rw [hno (.inl h1)];repeat' (first|refine s_0 ?_|(refine zB [0,2] ?_;refine za ?_)|(refine zb 1 (za ?_);refine zL ?_;refine za ?_))
  exact q_r
 ·rw [hno (.inr h1)];repeat' (first|refine s_0 ?_|(refine zB [0,2] ?_;refine za ?_)|(refine zb 1 (za ?_);refine zL ?_;refine za ?_;refine zak ?_;refine za ?_))
  exact q_r
 have hco:chainOk svK l=l.all (Cert.ok svK):=by unfold chainOk;rw [hn,decide_eq_true h1,decide_eq_true h5];rfl
 rw [hco];repeat' (first|refine s_t ?_|(refine zB [0,3] ?_;refine za ?_)|(refine zb 1 (za ?_);refine zL ?_;refine za ?_;refine zak ?_;refine za ?_))
 refine zy (γ:=Nat) (λi=>[(13,.slice a n c),(14,.int .i64 (n:Int)),(15,.int .i64 (i:Int))]) (λ_=>[]) (λi=>i<=n/\(l.take i).all (Cert.ok svK)=true) (λi=>n - i) 0 ⟨Nat.zero_le _,rfl⟩ ?_ ?_ ?_
 ·exact q_h
 ·exact q_h
 rintro i ⟨hi,hal⟩;by_cases hlt:i < n
 ·obtain ⟨bl,ol,p,rfl,hp,hat,hc⟩:=h.at (k:=11) q_e (λ_ _=>rfl) (i:=i) q_o;have hin:l[i]∈l:=List.getElem_mem q_o;have htk:l.take (i+1)=l.take i ++ [l[i]]:=zac q_o;have hfx:=hf l[i] hin;have hv:=λw' (hk:Keep No w w')=>zd7 p l[i] w' (hG.to hk) (hat.keep hk) hfx;have hC:(certL p l[i]).length=11:=rfl;have hC1:(certL p l[i]).all (·.oneCell')=true:=rfl;generalize l[i]=x at *;generalize certL p x=C at *;have g1:decide ((i:Int) < (n:Int))=true:=q_d;have g5:IntKind.i64.wrap ((i:Int)+1)=((i+1:Nat):Int):=q_w;by_cases hx:x.ok svK=true
  ·rw [hx] at hv;repeat' (first|refine s_t ?_|(refine zb 4 ?_;refine yv (zn (hr:=g1)) (k:=?_))|(refine zb 5 ?_;refine yv (zA (j:=i)) (k:=?_);refine yv (zz (hv:=hc) (hz:=hC.symm)) (k:=?_);refine zj ?_;intro _;refine yn (zE (B:=C) (hv:=hC1) (h1:=hC.symm) (hC:=by exact hC.symm)) (k:=?_))|(refine zb 6 ?_;refine yv (zf (B:=C) (hz:=hC.symm)) (k:=?_);refine yv (zd (f:=34) (hc:=zr hv)) (k:=?_);refine za ?_)|(refine zb 8 ?_;refine yv (zu (hr:=g5)) (k:=za ?_)))
   refine zq (i+1) ⟨hlt,by rw [htk,List.all_append,hal];simp [hx]⟩ ?_ ?_ ?_
   ·show n - (i+1) < n - i;omega
   ·exact q_h
   ·exact q_h
  ·rw [Bool.not_eq_true] at hx;rw [hx] at hv;have hbad:l.all (Cert.ok svK)=false:=by rw [List.all_eq_false];exact ⟨x,hin,by rw [hx];decide⟩
   rw [hbad];repeat' (first|refine s_t ?_|(refine zb 4 ?_;refine yv (zn (hr:=g1)) (k:=?_))|(refine zb 5 ?_;refine yv (zA (j:=i)) (k:=?_);refine yv (zz (hv:=hc) (hz:=hC.symm)) (k:=?_);refine zj ?_;intro _;refine yn (zE (B:=C) (hv:=hC1) (h1:=hC.symm) (hC:=by exact hC.symm)) (k:=?_))|(refine zb 6 ?_;refine yv (zf (B:=C) (hz:=hC.symm)) (k:=?_);refine yv (zd (f:=34) (hc:=zr hv)) (k:=?_);refine za ?_)|(refine zb 7 (za ?_)))
   exact q_r
 obtain rfl:i=n:=q_o;rw [List.take_of_length_le q_o] at hal;rw [hal];have g1:decide ((i:Int) < (i:Int))=false:=q_f;repeat' (first|refine s_0 ?_|(refine zb 4 ?_;refine yv (zn (hr:=g1)) (k:=?_))|(refine zb 9 (za ?_)))
 exact q_r
theorem zoR (a:Option Addr) (n c:Nat) (ps:List Pa) (l:List Anch) (w:World) (hG:GT w) (hn:l.length=n) (h:AnchsAt w a c ps l) (hf: ∀x∈l,x.name.fine) (hb:n < 1000000):Sy.Fn Tryz.prog 57 [.slice a n c] w No (Gives (.bool (decide (l.length<=64) && l.all (Anch.ok svK)))):=by
 refine zg Tryz.func57 rfl Tryz.ntmps57 q_p Holds.nil ?_;rw [hn];rcases (show 64 < n\/n<=64 by omega) with h1|h1
 ·rw [decide_eq_false (show ¬n<=64 by omega),Bool.false_and];repeat' (first|refine s_0 ?_|(refine zB [0,2] ?_;refine za ?_)|(refine zb 1 (za ?_);refine zak ?_))
  exact q_r
 rw [decide_eq_true h1,Bool.true_and];repeat' (first|refine s_t ?_|(refine zB [0,3] ?_;refine za ?_)|(refine zb 1 (za ?_);refine zak ?_))
 refine zy (γ:=Nat) (λi=>[(8,.slice a n c),(9,.int .i64 (n:Int)),(10,.int .i64 (i:Int))]) (λ_=>[]) (λi=>i<=n/\(l.take i).all (Anch.ok svK)=true) (λi=>n - i) 0 ⟨Nat.zero_le _,rfl⟩ ?_ ?_ ?_
 ·exact q_h
 ·exact q_h
 rintro i ⟨hi,hal⟩;by_cases hlt:i < n
 ·obtain ⟨bl,ol,p,rfl,hp,hat,hc⟩:=h.at (k:=4) q_e (λ_ _=>rfl) (i:=i) q_o;have hin:l[i]∈l:=List.getElem_mem q_o;have htk:l.take (i+1)=l.take i ++ [l[i]]:=zac q_o;have hfx:=hf l[i] hin;have hv:=λw' (hk:Keep No w w')=>zd9 _ _ w' (hat.name.keep hk) hfx.1 hfx.2.1 hfx.2.2;have hs:=λw' (hk:Keep No w w')=>zgM l[i].group p.a2 l[i].pub.length p.k2 l[i].pub w' (hG.to hk) rfl hat.pub.cap (hat.pub.keep hk).sla;rw [show decide ((gel l[i].group l[i].pub).2=0)=svK l[i].group l[i].pub from rfl] at hs;have hao:Anch.ok svK l[i]=(l[i].name.ok && svK l[i].group l[i].pub):=rfl;generalize l[i]=x at *;unfold prinL at hv;unfold anchL at hc;have g1:decide ((i:Int) < (n:Int))=true:=q_d;have g5:IntKind.i64.wrap ((i:Int)+1)=((i+1:Nat):Int):=q_w;obtain ⟨u1,hu1⟩: ∃u,u=x.name.ok:=⟨_,rfl⟩;obtain ⟨u2,hu2⟩: ∃u,u=svK x.group x.pub:=⟨_,rfl⟩;rw [<-hu1] at hv hao;rw [<-hu2] at hs hao;have hc3:u1=false\/(u1=true/\u2=false)\/(u1=true/\u2=true):=by cases u1 <;> cases u2 <;> simp
  have hbad:Anch.ok svK x=false->l.all (Anch.ok svK)=false:=λhx=>by rw [List.all_eq_false];exact ⟨x,hin,by rw [hx];decide⟩
  clear hu1 hu2;rcases hc3 with rfl|⟨rfl,rfl⟩|⟨rfl,rfl⟩
  ·rw [hbad hao];repeat' (first|refine s_t ?_|(refine zb 4 ?_;refine yv (zn (hr:=g1)) (k:=?_))|(refine zb 5 ?_;refine yv (zA (j:=i)) (k:=?_);refine yv (zz (hv:=hc)) (k:=?_);refine zj ?_;intro _;refine yn (zE (h1:=rfl)) (k:=?_))|(refine zb 6 (za ?_);refine yv (zf (B:=[.slice p.a1 x.name.parts.length p.k1,strV x.name.realm]) (hv:=Seg.at rfl)) (k:=?_);refine yv (zd (f:=76) (hc:=zr hv)) (k:=?_);refine za ?_)|(refine zb 7 (za ?_)))
   exact q_r
  ·rw [hbad hao];repeat' (first|refine s_t ?_|(refine zb 4 ?_;refine yv (zn (hr:=g1)) (k:=?_))|(refine zb 5 ?_;refine yv (zA (j:=i)) (k:=?_);refine yv (zz (hv:=hc)) (k:=?_);refine zj ?_;intro _;refine yn (zE (h1:=rfl)) (k:=?_))|(refine zb 6 (za ?_);refine yv (zf (B:=[.slice p.a1 x.name.parts.length p.k1,strV x.name.realm]) (hv:=Seg.at rfl)) (k:=?_);refine yv (zd (f:=76) (hc:=zr hv)) (k:=?_);refine za ?_;refine zm ?_;refine za ?_;refine zm ?_;refine yv (zd (f:=55) (hc:=zr hs)) (k:=?_);refine za ?_)|(refine zb 7 (za ?_)))
   exact q_r
  ·repeat' (first|refine s_t ?_|(refine zb 4 ?_;refine yv (zn (hr:=g1)) (k:=?_))|(refine zb 5 ?_;refine yv (zA (j:=i)) (k:=?_);refine yv (zz (hv:=hc)) (k:=?_);refine zj ?_;intro _;refine yn (zE (h1:=rfl)) (k:=?_))|(refine zb 6 (za ?_);refine yv (zf (B:=[.slice p.a1 x.name.parts.length p.k1,strV x.name.realm]) (hv:=Seg.at rfl)) (k:=?_);refine yv (zd (f:=76) (hc:=zr hv)) (k:=?_);refine za ?_;refine zm ?_;refine za ?_;refine zm ?_;refine yv (zd (f:=55) (hc:=zr hs)) (k:=?_);refine za ?_)|(refine zb 8 ?_;refine yv (zu (hr:=g5)) (k:=za ?_)))
   refine zq (i+1) ⟨hlt,by rw [htk,List.all_append,hal];simp [hao]⟩ ?_ ?_ ?_
   ·show n - (i+1) < n - i;omega
   ·exact q_h
   ·exact q_h
 obtain rfl:i=n:=q_o;rw [List.take_of_length_le q_o] at hal;rw [hal];have g1:decide ((i:Int) < (i:Int))=false:=q_f;repeat' (first|refine s_0 ?_|(refine zb 4 ?_;refine yv (zn (hr:=g1)) (k:=?_))|(refine zb 9 (za ?_)))
 exact q_r
end Go.Proofs.YtdnlngbjpdbffaaGreatDoor
end
section
namespace Go.Ct
theorem Cert.ok_spec (sv:Int->List UInt8->Bool) (c:Cert):c.ok sv=((decide (0<=c.serial) && decide (c.serial<=4611686018427387904)) && c.issuer.ok && c.subject.ok && decide (0<=c.fr) && decide (c.fr<=c.til) && decide (c.til<=1099511627776) && sv c.group c.pub && decide (c.sig.length<=192)):=by
 unfold Cert.ok;generalize decide (0<=c.serial)=x1;generalize decide (c.sig.length<=192)=x2;generalize sv c.group c.pub=x3;cases x1 <;> cases x2 <;> cases x3 <;> simp
end Go.Ct
namespace Go.Proofs.YtdnlngbjpdbffaaGreatDoor
open Go Go.Sy Go.Ct Go.Nt Go.RowKit
attribute [local irreducible] Sy SyL SyX SyC SyF Sy.Fn callFunc
theorem eightB {x1 x2 x3 x4 x5 x6 x7:Bool} :x1=false\/(x1=true/\x2=false)\/(x1=true/\x2=true/\x3=false)\/(x1=true/\x2=true/\x3=true/\x4=false)\/(x1=true/\x2=true/\x3=true/\x4=true/\x5=false)\/(x1=true/\x2=true/\x3=true/\x4=true/\x5=true/\x6=false)\/(x1=true/\x2=true/\x3=true/\x4=true/\x5=true/\x6=true/\x7=false)\/(x1=true/\x2=true/\x3=true/\x4=true/\x5=true/\x6=true/\x7=true):=by
 cases x1 <;> cases x2 <;> cases x3 <;> cases x4 <;> cases x5 <;> cases x6 <;> cases x7 <;> simp
theorem zg1 (p:Pl) (c:Cert) (w:World) (hG:GT w) (h:CertAt w p c) (hf:c.fine):Sy.Fn Tryz.prog 33 [.agg (certL p c).toArray] w No (Gives (.bool (c.ok svK))):=by
 refine zg Tryz.func33 rfl Tryz.ntmps33 q_p Holds.nil ?_;have q1:=λw'=>zjJ c.serial 0 4611686018427387904 w';have q2:=λw' (hk:Keep No w w')=>zi9 _ _ _ w' (h.iss.keep hk) hf.i.1 hf.i.2.1 hf.i.2.2;have q3:=λw' (hk:Keep No w w')=>zi9 _ _ _ w' (h.sub.keep hk) hf.s.1 hf.s.2.1 hf.s.2.2;have q7:=λw' (hk:Keep No w w')=>zfh c.group p.a3 c.pub.length p.k3 c.pub w' rfl (h.pub.keep hk).sla;rw [show decide ((gel c.group c.pub).2=0)=svK c.group c.pub from rfl] at q7;rw [Cert.ok_spec];have g8:decide ((c.sig.length:Int)<=192)=decide (c.sig.length<=192):=decide_eq_decide.2 q_o;obtain ⟨x4,g4⟩: ∃x,decide (c.fr>=0)=x:=⟨_,rfl⟩;rw [show decide (0<=c.fr)=x4 from g4];unfold certL prinL at *;clear h hf hG;obtain ⟨serial,⟨ips,irl⟩,⟨sps,srl⟩,fr,til,auth,group,pub,sig⟩:=c;dsimp only at *;generalize (decide (0<=serial) && decide (serial<=4611686018427387904))=x1 at *;generalize Prin.ok ⟨ips,irl⟩=x2 at *;generalize Prin.ok ⟨sps,srl⟩=x3 at *;generalize hx5:decide (fr<=til)=x5 at *;generalize hx6:decide (til<=1099511627776)=x6 at *;generalize svK group pub=x7 at *;generalize decide (sig.length<=192)=x8 at *;rcases @eightB x1 x2 x3 x4 x5 x6 x7 with rfl|⟨rfl,rfl⟩|⟨rfl,rfl,rfl⟩|⟨rfl,rfl,rfl,rfl⟩|⟨rfl,rfl,rfl,rfl,rfl⟩|⟨rfl,rfl,rfl,rfl,rfl,rfl⟩|⟨rfl,rfl,rfl,rfl,rfl,rfl,rfl⟩|⟨rfl,rfl,rfl,rfl,rfl,rfl,rfl⟩
 all_goals repeat' (first|refine s_0 ?_|(refine zb 0 ?_;refine zO ?_;intro _)|(refine zb 1 (za ?_);refine zm ?_;refine yv (zd (hc:=λ_ _ _ _=>(q1 _))) (k:=?_);refine za ?_;(first|refine yv (zf (B:=[.slice p.a1 ips.length p.k1,strV irl]) (hv:=Seg.at rfl)) (k:=?_)|skip|fail);(first|refine yv (zd (f:=71) (hc:=zr q2)) (k:=?_)|refine zam rfl rfl rfl ?_|skip);(try refine za ?_);(first|refine yv (zf (B:=[.slice p.a2 sps.length p.k2,strV srl]) (hv:=Seg.at rfl)) (k:=?_)|skip|fail);(first|refine yv (zd (f:=71) (hc:=zr q3)) (k:=?_)|refine zam rfl rfl rfl ?_|skip);(try refine za ?_);(first|refine zm ?_|skip|fail);(first|refine yv (zab (hr:=g4)) (k:=?_)|refine zam rfl rfl rfl ?_|skip);(try refine za ?_);(first|refine zm ?_|skip|fail);(try refine za ?_);(first|refine zm ?_|skip|fail);(first|refine yv (zau (hr:=hx5)) (k:=?_)|refine zam rfl rfl rfl ?_|skip);(try refine za ?_);(first|refine zm ?_|skip|fail);(first|refine yv (zau (hr:=hx6)) (k:=?_)|refine zam rfl rfl rfl ?_|skip);(try refine za ?_);(first|refine zm ?_|skip|fail);(try refine za ?_);(first|refine zm ?_|skip|fail);(first|refine yv (zd (f:=69) (hc:=zr q7)) (k:=?_)|refine zam rfl rfl rfl ?_|skip);(try refine za ?_);(first|refine zm ?_|skip|fail);(try refine za ?_);(first|refine yv (zau (hr:=g8)) (k:=?_)|skip|fail);(try refine za ?_)))
 all_goals exact q_r
theorem zlJ (p:Pl) (c:Cert) (z:Int) (s:Bs) (kb ko kc:Nat) (w:World) (hG:GT w) (hR:RTab w No kb ko kc) (h:CertAt w p c) (hf:c.fine) (hs:s.ok w):Sy.Fn Tryz.prog 28 [.agg (certL p c).toArray,.int .i64 z,s.val] w No (Gives (.int .i64 (signE svK sfK c z s.l))):=by
 refine zg Tryz.func28 rfl Tryz.ntmps28 q_p Holds.nil ?_;have hv:=λw' (hk:Keep No w w')=>zg1 p c w' (hG.to hk) (h.keep hk) hf;have hsv:=λw' (hk:Keep No w w')=>zfh z s.a s.n s.c s.l w' hs.len (hs.keep hk).sla;rw [show decide ((gel z s.l).2=0)=svK z s.l from rfl] at hsv;have hval:s.val= .slice s.a s.n s.c:=rfl;rw [hval];unfold signE;have hC:(certL p c).length=11:=rfl;by_cases hok:c.ok svK=true
 ·rw [hok] at hv ⊢;by_cases hz:svK z s.l=true
  ·rw [hz] at hsv ⊢;rw [if_pos (show (true && true)=true from rfl)];obtain ⟨m1,m2,m3,m4⟩:=zhu hok;have hzl:=zhz hz;have hb:=λw' (hk:Keep No w w')=>zj5 p c w' (h.keep hk) (Cert.ok_small zdH hok);have hvf:=λw' (hk:Keep No w w') a k (hB:(⟨a,c.body.length,k,c.body⟩:Bs).ok w')=>zma z s.a a p.a4 s.n s.c c.body.length k c.sig.length p.k4 kb ko kc s.l c.body c.sig w' (hR.no hk) (hs.keep hk) hB (h.sig.keep hk) (by have:=hs.len;omega) q_o q_o;have h10:Seg (certL p c) 10 [.slice p.a4 c.sig.length p.k4]:=Seg.at rfl;have h10':(certL p c)[0+10]?=some (.slice p.a4 c.sig.length p.k4):=rfl;have hres:(if sfK z s.l c.body c.sig=true then (0:Int) else 221)=if sVer z s.l c.body c.sig=0 then 0 else 221:=by unfold sfK;simp
   rw [hres];generalize sVer z s.l c.body c.sig=e at *;clear hres h;generalize certL p c=C at *;generalize c.body=BD at *;unfold BytR at hb;repeat' (first|refine s_0 ?_|(refine zb 0 ?_;refine zO ?_;intro _)|(refine zb 1 ?_;refine yv (zf (B:=C) (hz:=hC.symm)) (k:=?_);refine yv (zd (f:=33) (hc:=zr hv)) (k:=?_);refine za ?_;refine yv (zd (f:=69) (hc:=zr hsv)) (k:=?_);refine za ?_))
   (refine zbU (id:=3) [0,1,2,4,5] [3,6,7] mixed ?_ ?_;kernel_rfl;refine yfv zbK (k:=?_);refine yfv zbK (k:=?_);refine yfv (zf (B:=C) (hz:=hC.symm)) (k:=?_);refine yfv zS (k:=?_);refine yfv (zC (hv:=h10')) (k:=?_);refine yf0 ?_;try refine yc0 (k:=?_))
   refine ycs (zh (f:=37) (hc:=zr hb)) (k:=?_);rintro _ _ ⟨R,rfl,aB,cB,rfl,rfl⟩;refine ycv (zd (f:=70) (hc:=λw' X hk hh=>hvf w' hk aB cB (rowBs hh rfl q_h))) (k:=?_);by_cases he:e=0
   ·refine ycv (zag (hr:=decide_eq_false (λh=>h he))) (k:=?_);refine yc0 (k:=?_);rw [if_pos he];repeat' (first|refine s_0 ?_|(refine zb 5 (za ?_)))
    exact q_r
   ·refine ycv (zag (hr:=decide_eq_true he)) (k:=?_);refine yc0 (k:=?_);rw [if_neg he];repeat' (first|refine s_0 ?_|(refine zb 4 (za ?_)))
    exact q_r
  ·rw [Bool.not_eq_true] at hz;rw [hz] at hsv ⊢;generalize certL p c=C at *;repeat' (first|refine s_0 ?_|(refine zb 0 ?_;refine zO ?_;intro _)|(refine zb 1 ?_;refine yv (zf (B:=C) (hz:=hC.symm)) (k:=?_);refine yv (zd (f:=33) (hc:=zr hv)) (k:=?_);refine za ?_;refine yv (zd (f:=69) (hc:=zr hsv)) (k:=?_);refine za ?_)|(refine zb 2 (za ?_)))
   exact q_r
 ·rw [Bool.not_eq_true] at hok;rw [hok] at hv ⊢;generalize certL p c=C at *;repeat' (first|refine s_0 ?_|(refine zb 0 ?_;refine zO ?_;intro _)|(refine zb 1 ?_;refine yv (zf (B:=C) (hz:=hC.symm)) (k:=?_);refine yv (zd (f:=33) (hc:=zr hv)) (k:=?_);refine za ?_)|(refine zb 2 (za ?_)))
  exact q_r
end Go.Proofs.YtdnlngbjpdbffaaGreatDoor
end
section
namespace Go.Ct
open Go Go.Sy
def addK (ks:List Int) (u:Int):List Int:=if u∈ks then ks else ks ++ [u]
theorem zoy {ks:List Int}{u x:Int} :x∈addK ks u↔x∈ks\/x=u:=by
 unfold addK;split
 ·rename_i h;exact ⟨.inl,λh'=>h'.elim id (λe=>e ▸ h)⟩
 ·simp
end Go.Ct
namespace Go.Proofs.YtdnlngbjpdbffaaGreatDoor
open Go Go.Sy Go.Ct Go.Nt Go.RowKit
attribute [local irreducible] Sy SyL SyX SyC SyF Sy.Fn callFunc
theorem zp0 (b:Nat) (D:List Value) (p:Prin) (pr:Option Addr×Nat) (x:Revo) (w:World) (hD:w.rangeAt b 0 D) (hp:PrinIn w D p) (hx:RevoAt w pr x) (hf:x.issuer.fine):
  Sy.Fn Tryz.prog 144 [.agg (revoL pr x).toArray,.pointer (some ⟨b,0,none⟩)] w No (Gives (.bool (x.issuer.same p))):=by
 refine zg Tryz.func144 rfl Tryz.ntmps144 q_p Holds.nil ?_;have h:=λw' (hk:Keep No w w')=>zfu _ _ _ _ w' (hx.name.keep hk) (hp.keep hk) hf.1;have h2:=hp.two;unfold revoL prinL at *;repeat' (first|refine s_0 ?_|(refine zb 0 ?_;refine zO ?_;intro _)|(refine zb 1 (za ?_);refine yv (zf (B:=[.slice pr.1 x.issuer.parts.length pr.2,strV x.issuer.realm]) (hv:=Seg.at rfl)) (k:=?_);refine yv (zz (hv:=hD) (hz:=h2.symm)) (k:=?_);refine yv (zd (f:=73) (hc:=zr h)) (k:=?_);refine za ?_))
 exact q_r
theorem zq5 (b:Nat) (p:Pl) (c:Cert) (pa:Pa) (x:Anch) (w:World) (hD:w.rangeAt b 0 (certL p c)) (hc:CertAt w p c) (hx:AnchAt w pa x) (hf:x.name.fine):
  Sy.Fn Tryz.prog 142 [.agg (anchL pa x).toArray,.pointer (some ⟨b,0,none⟩)] w No (Gives (.bool (x.name.same c.issuer))):=by
 refine zg Tryz.func142 rfl Tryz.ntmps142 q_p Holds.nil ?_;have h:=λw' (hk:Keep No w w')=>zfu _ _ _ _ w' (hx.name.keep hk) (hc.iss.keep hk) hf.1;have hB:w.rangeAt b 1 (prinL p.a1 p.k1 c.issuer):=λj v hj=>hD (1+j) v (by
  have:(certL p c).drop 1=prinL p.a1 p.k1 c.issuer ++ (certL p c).drop 3:=rfl;rw [<-List.getElem?_drop,this,List.getElem?_append_left (List.getElem?_eq_some_iff.1 hj).1];exact hj) |> λh=>by rwa [show 0+(1+j)=1+j by omega] at h
 unfold anchL prinL at *;repeat' (first|refine s_0 ?_|(refine zb 0 ?_;refine zO ?_;intro _)|(refine zb 1 (za ?_);refine yv (zf (B:=[.slice pa.a1 x.name.parts.length pa.k1,strV x.name.realm]) (hv:=Seg.at rfl)) (k:=za ?_);refine yv (zz (hv:=hB)) (k:=?_);refine yv (zd (f:=73) (hc:=zr h)) (k:=?_);refine za ?_))
 exact q_r
theorem zpa (D:List Value) (p:Prin) (a:Option Addr) (n c:Nat) (ps:List (Option Addr×Nat)) (rs:List Revo) (w:World) (hp:PrinIn w D p) (h:RevosAt w a c ps rs) (hn:rs.length=n) (hf: ∀x∈rs,x.issuer.fine) (hb:n < 1000):
  Sy.Fn Tryz.prog 66 [.agg D.toArray,.slice a n c] w No (λv R=>∃b ks,v= .map (some b)/\R= [mapR b (ents ks 0) ks.length]/\ ∀u,u∈ks↔ ∃r∈rs,r.issuer.same p=true/\r.serial=u):=by
 refine zg Tryz.func66 rfl Tryz.ntmps66 q_p Holds.nil ?_;have hCl:(List.zipWith revoL ps rs).length=n:=by rw [List.length_zipWith,h.len,hn,Nat.min_self]
 have h2:=hp.two;have hfil:=λw' (hk:Keep No w w') b2 (hD:w'.rangeAt b2 0 D)=>zoD a n c 144 [.pointer (some ⟨b2,0,none⟩)] rs (List.zipWith revoL ps rs) (λx=>x.issuer.same p) w' (en rfl) hn hCl (λC hC=>by
  obtain ⟨q,x,rfl⟩:=LstAt.at.mem_zipWith hC;exact ⟨rfl,rfl⟩) ((SlF.of h.mem).to (Mi:=No) hk (λ_ h=> .inr h)).sla hb (λi C x e1 e2 w'' hk'=>by
  rw [List.getElem?_zipWith,e2] at e1;cases hq:ps[i]? with
  |none=>rw [hq] at e1;cases e1
  |some q=>
   rw [hq] at e1;cases e1;have hat:=h.each i q x hq e2;exact zp0 b2 D p q x w'' (zaw hD hk' (λh=>h)) ((hp.keep hk).keep hk') ((hat.keep hk).keep hk') (hf x (List.mem_of_getElem? e2)))
 unfold FiltR at hfil;have hzc: ∀z∈(List.zip (List.zipWith revoL ps rs) rs).filter (λz=>z.2.issuer.same p),∃q,z.1=revoL q z.2:=λz hz=>by
  obtain ⟨q,h1,_⟩:=zfi (List.mem_filter.1 hz).1;exact ⟨q,h1⟩
 have hzs:((List.zip (List.zipWith revoL ps rs) rs).filter (λz=>z.2.issuer.same p)).map (·.2)=rs.filter (λx=>x.issuer.same p):=by rw [zjq (q:=λ(x:Revo)=>x.issuer.same p),zhN h.len]
 have hzl:((List.zip (List.zipWith revoL ps rs) rs).filter (λz=>z.2.issuer.same p)).length<=n:=by
  refine Nat.le_trans (List.length_filter_le _ _) ?_;rw [List.length_zip,hCl,hn,Nat.min_self];exact Nat.le_refl _
 generalize (List.zip (List.zipWith revoL ps rs) rs).filter (λz=>z.2.issuer.same p)=zs at *;repeat' (first|refine s_0 ?_|(refine zb 0 ?_;refine zO ?_;intro _)|refine zb 1 ?_|(refine ys zlP (k:=?_);rintro _ _ ⟨bM,rfl,rfl⟩)|(refine zP ?_;first|refine zx ?_|fail)|fail)
 rename_i b2;repeat' (first|refine s_t ?_|(refine zb 2 (za ?_);refine zaa ?_;(refine ys (zh (f:=143) (hc:=λw' X hk hh=>hfil w' hk b2 (zp (hh.has (r:=.blk b2 43 D) q_h) Seg.all))) (k:=?_);rintro _ _ ⟨R,rfl,aF,cF,rfl,rfl⟩);refine za ?_))
 refine zh3 (a:=aF) (cp:=cF) (E:=67) (s:=3) (n:=zs.length) (xs:=(zs.map (λ(z:List Value×Revo)=>z.1)).flatten) (by exact Rem.here) λr hr=>?_;refine zy (γ:=Nat×List Int) (λg=>[(5,.map (some bM)),(11,.slice aF zs.length cF),(12,.int .i64 (zs.length:Int)),(13,.int .i64 (g.1:Int))]) (λg=>[r,mapR bM (ents g.2 0) g.2.length]) (λg=>g.1<=zs.length/\ ∀u,u∈g.2↔ ∃z∈zs.take g.1,z.2.serial=u) (λg=>zs.length - g.1) (0,[]) ⟨Nat.zero_le _,λu=>by simp⟩ ?_ ?_ ?_
 ·exact q_h
 ·exact q_h
 rintro ⟨i,ks⟩ ⟨hi,hks⟩;dsimp only at hi hks ⊢;by_cases hlt:i < zs.length
 ·obtain ⟨bF,J,rfl,rfl⟩:=hr q_o;have htk:zs.take (i+1)=zs.take i ++ [zs[i]]:=zac hlt;have hsg:=zoB (k:=3) (zs:=zs) (λz hz=>by obtain ⟨q,e⟩:=hzc z hz;rw [e];rfl) hlt J;obtain ⟨q,hq⟩:=hzc zs[i] (List.getElem_mem hlt);rw [hq] at hsg;have hks': ∀u,u∈addK ks zs[i].2.serial↔ ∃z∈zs.take (i+1),z.2.serial=u:=λu=>by
   rw [zoy,hks u,htk];constructor
   ·rintro (⟨z,h1,h2⟩|rfl)
    ·exact ⟨z,List.mem_append_left _ h1,h2⟩
    ·exact ⟨zs[i],List.mem_append_right _ List.mem_cons_self,rfl⟩
   ·rintro ⟨z,h1,h2⟩;rcases List.mem_append.1 h1 with h1|h1
    ·exact .inl ⟨z,h1,h2⟩
    ·rw [List.mem_singleton.1 h1] at h2;exact .inr h2.symm
  generalize zs[i].2=x at *;have g1:decide ((i:Int) < (zs.length:Int))=true:=q_d;have g5:IntKind.i64.wrap ((i:Int)+1)=((i+1:Nat):Int):=q_w;have hsg':Seg ((zs.map (·.1)).flatten ++ J) (0+i*3) (revoL q x):=by rw [Nat.zero_add];exact hsg
  unfold revoL at hsg';repeat' (first|refine s_t ?_|(refine zb 3 ?_;refine yv (zn (hr:=g1)) (k:=?_))|(refine zb 4 ?_;refine yv (zA (j:=i)) (k:=?_);refine yv (zf (B:=[.slice q.1 x.issuer.parts.length q.2,strV x.issuer.realm,.int .i64 x.serial]) (hv:=hsg')) (k:=?_);refine zj ?_;intro _;refine yn (zE (h1:=rfl)) (k:=?_))|(refine zb 5 (za ?_);refine zm ?_;(refine yn (zmD (l:=ks) (u:=x.serial) mapTy intTy) (k:=?_)))|(refine zb 6 ?_;refine yv (zu (hr:=g5)) (k:=za ?_)))
  refine zq (i+1,addK ks x.serial) ⟨hlt,hks'⟩ ?_ ?_ ?_
  ·show zs.length - (i+1) < zs.length - i;omega
  ·exact q_h
  ·show SubR [_,mapR bM (ents (if x.serial∈ks then ks else ks ++ [x.serial]) 0) (if x.serial∈ks then ks else ks ++ [x.serial]).length] _;exact q_h
 obtain rfl:i=zs.length:=q_o;rw [List.take_of_length_le (Nat.le_refl _)] at hks;have g1:decide ((zs.length:Int) < (zs.length:Int))=false:=q_f;repeat' (first|refine s_0 ?_|(refine zb 3 ?_;refine yv (zn (hr:=g1)) (k:=?_))|(refine zb 7 (za ?_)))
 refine ret1 rfl (resTmp rfl) (R:=[mapR bM (ents ks 0) ks.length]) q_h ⟨bM,ks,rfl,rfl,λu=>?_⟩;rw [hks u];constructor
 ·rintro ⟨z,h1,h2⟩;have:z.2∈rs.filter (λx=>x.issuer.same p):=by rw [<-hzs];exact List.mem_map.2 ⟨z,h1,rfl⟩
  exact ⟨z.2,(List.mem_filter.1 this).1,(List.mem_filter.1 this).2,h2⟩
 ·rintro ⟨x,h1,h2,h3⟩;have:x∈zs.map (·.2):=by rw [hzs];exact List.mem_filter.2 ⟨h1,h2⟩
  obtain ⟨z,h4,rfl⟩:=List.mem_map.1 this;exact ⟨z,h4,h3⟩
end Go.Proofs.YtdnlngbjpdbffaaGreatDoor
end
