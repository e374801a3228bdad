/- Certificates, walked: the checks of one certificate; issuers. -/
import Derived.Test.YtdnlngbjpdbffaaGreatDoorLJ42
import Derived.Test.YtdnlngbjpdbffaaGreatDoorLJ38
set_option maxHeartbeats 4000000
set_option maxRecDepth 10000
set_option linter.all false
section
namespace Go.Ct
open Go Go.Sy
theorem zmA {w:World}{b o:Nat}{C B:List Value}(h:w.rangeAt b 0 C) (hs:(C.drop o).take B.length=B):w.rangeAt b o B:=λj v hj=>by
 have:=h (o+j) v (Seg.at hs j v hj);rwa [Nat.zero_add] at this
end Go.Ct
namespace Go.Proofs.YtdnlngbjpdbffaaGreatDoor
open Go Go.Sy Go.Ct Go.Nt Go.RowKit
attribute [local irreducible] Sy SyL SyX SyC SyF Sy.Fn callFunc
theorem zol (b:Nat) (u:Bool) (w:World) (h:w.cell? ⟨b,0,none⟩=some (.bool u)):Sy.Fn Tryz.prog 61 [.pointer (some ⟨b,0,none⟩)] w No (Gives (.int .i64 (if u then 0 else 220))):=by
 refine zg Tryz.func61 rfl Tryz.ntmps61 q_p Holds.nil ?_;have hf:=λw'=>zeq (!u) 220 w';repeat' (first|refine s_0 ?_|(refine zb 0 (za ?_))|(refine zb 1 ?_;refine yv (zl (hv:=h)) (k:=za ?_);refine yv (zd (hc:=λ_ _ _ _=>(hf _))) (k:=?_);refine za ?_))
 exact ret1 rfl (resTmp rfl) SubR.nil ⟨by cases u <;> rfl,rfl⟩
theorem zoJ (b d:Nat) (p:Pl) (c:Cert) (z:Int) (s:Bs) (w:World) (hG:GT w) (hT:Tab w No) (hS:ST w) (hD:w.rangeAt b 0 (certL p c)) (hK:w.rangeAt d 0 [.int .i64 z,s.val]) (h:CertAt w p c) (hf:c.fine) (hs:s.ok w):
  Sy.Fn Tryz.prog 63 [.pointer (some ⟨b,0,none⟩),.pointer (some ⟨d,0,none⟩)] w No (Gives (.int .i64 (signE svK sfK c z s.l))):=by
 refine zg Tryz.func63 rfl Tryz.ntmps63 q_p Holds.nil ?_;have hC:(certL p c).length=11:=rfl;have k0:w.cell? ⟨d,0,none⟩=some (.int .i64 z):=hK 0 _ rfl;have k1:w.cell? ⟨d,1,none⟩=some s.val:=hK 1 _ rfl;have hc:=λw' (hk:Keep No w w')=>zl9 p c z s w' (hG.to hk) (hT.no hk) (hS.to hk) (h.keep hk) hf (hs.keep hk);generalize certL p c=C at *;repeat' (first|refine s_0 ?_|(refine zb 0 (za ?_))|(refine zb 1 ?_;refine yv (zz (hv:=hD) (hz:=hC.symm)) (k:=za ?_);refine yv (zl (hv:=k0)) (k:=za ?_);refine yv (zl (hv:=k1)) (k:=?_);refine yv (zd (f:=24) (hc:=zr hc)) (k:=?_);refine za ?_))
 exact q_r
theorem zoV (d b:Nat) (p:Pl) (c:Cert) (now:Int) (w:World) (hN:w.cell? ⟨d,0,none⟩=some (.int .i64 now)) (hD:w.rangeAt b 0 (certL p c)):
  Sy.Fn Tryz.prog 64 [.pointer (some ⟨d,0,none⟩),.pointer (some ⟨b,0,none⟩)] w No (Gives (.int .i64 (if now < c.fr\/c.til < now then 222 else 0))):=by
 refine zg Tryz.func64 rfl Tryz.ntmps64 q_p Holds.nil ?_;have k5:w.cell? ⟨b,0+5,none⟩=some (.int .i64 c.fr):=hD 5 _ rfl;have k6:w.cell? ⟨b,0+6,none⟩=some (.int .i64 c.til):=hD 6 _ rfl;have ht:=λw'=>zeq true 222 w';have hf:=λw'=>zeq false 222 w';have hc:now < c.fr\/(¬now < c.fr/\c.til < now)\/(¬now < c.fr/\ ¬c.til < now):=q_o;rcases hc with h|⟨h,h'⟩|⟨h,h'⟩
 ·rw [if_pos (.inl h)];repeat' (first|refine s_0 ?_|(refine zb 0 (za ?_))|(refine zb 1 ?_;refine yv (zl (hv:=hN)) (k:=za ?_);refine yv (zl (hv:=k5)) (k:=?_);refine yv (zn (hr:=decide_eq_true h)) (k:=za ?_);refine yv (zd (hc:=λ_ _ _ _=>(ht _))) (k:=?_);refine za ?_))
  exact q_r
 ·rw [if_pos (.inr h')];repeat' (first|refine s_0 ?_|(refine zb 0 (za ?_))|(refine zb 1 ?_;refine yv (zl (hv:=hN)) (k:=za ?_);refine yv (zl (hv:=k5)) (k:=?_);refine yv (zn (hr:=decide_eq_false h)) (k:=za ?_);refine yv (zl (hv:=hN)) (k:=za ?_);refine yv (zl (hv:=k6)) (k:=?_);refine yv (zU (hr:=decide_eq_true h')) (k:=za ?_);refine yv (zd (hc:=λ_ _ _ _=>(ht _))) (k:=?_);refine za ?_))
  exact q_r
 ·rw [if_neg q_o];repeat' (first|refine s_0 ?_|(refine zb 0 (za ?_))|(refine zb 1 ?_;refine yv (zl (hv:=hN)) (k:=za ?_);refine yv (zl (hv:=k5)) (k:=?_);refine yv (zn (hr:=decide_eq_false h)) (k:=za ?_);refine yv (zl (hv:=hN)) (k:=za ?_);refine yv (zl (hv:=k6)) (k:=?_);refine yv (zU (hr:=decide_eq_false h')) (k:=za ?_);refine yv (zd (hc:=λ_ _ _ _=>(hf _))) (k:=?_);refine za ?_))
  exact q_r
theorem zod (b d:Nat) (p:Pl) (c:Cert) (a:Option Addr) (n k:Nat) (ps:List (Option Addr×Nat)) (rs:List Revo) (w:World) (hD:w.rangeAt b 0 (certL p c)) (hR:w.cell? ⟨d,0,none⟩=some (.slice a n k)) (hc:CertAt w p c) (h:RevosAt w a k ps rs) (hn:rs.length=n) (hf: ∀x∈rs,x.issuer.fine) (hb:n < 1000):
  Sy.Fn Tryz.prog 65 [.pointer (some ⟨b,0,none⟩),.pointer (some ⟨d,0,none⟩)] w No (Gives (.int .i64 (if revd rs c then 223 else 0))):=by
 refine zg Tryz.func65 rfl Tryz.ntmps65 q_p Holds.nil ?_;have k0:w.cell? ⟨b,0+0,none⟩=some (.int .i64 c.serial):=hD 0 _ rfl;have k1:w.rangeAt b (0+1) (prinL p.a1 p.k1 c.issuer):=zmA hD rfl;have hr:=λw' (hk:Keep No w w')=>zpa (prinL p.a1 p.k1 c.issuer) c.issuer a n k ps rs w' (hc.iss.keep hk) (h.keep hk (λp x hx=>hx.keep hk)) hn hf hb;have hfl:=λu w'=>zeq u 223 w';unfold prinL at *;repeat' (first|refine s_0 ?_|(refine zb 0 (za ?_)))
 (refine zbU (id:=1) [0,1,2,4,5] [3,6,7,8] mixed ?_ ?_;kernel_rfl;refine yfv zS (k:=?_);refine yfv (zz (hv:=k1)) (k:=?_);refine yfv (zl (hv:=hR)) (k:=?_);refine yfv zS (k:=?_);refine yfv (zl (hv:=k0)) (k:=?_);refine yf0 ?_;try refine yc0 (k:=?_))
 refine ycs (zh (f:=66) (hc:=zr hr)) (k:=?_);rintro _ _ ⟨R,rfl,bM,ks,rfl,rfl,hks⟩;have hrv:decide (c.serial∈ks)=revd rs c:=by
  rw [Bool.eq_iff_iff,decide_eq_true_iff,hks,revd,List.any_eq_true];constructor
  ·rintro ⟨r,h1,h2,h3⟩;exact ⟨r,h1,by rw [h2,decide_eq_true h3];rfl⟩
  ·rintro ⟨r,h1,h2⟩;rw [Bool.and_eq_true,decide_eq_true_eq] at h2;exact ⟨r,h1,h2.1,h2.2⟩
 refine ycv (znx (l:=ks) (u:=c.serial) mapTy intTy boolZero) (k:=?_);rw [hrv];refine ycv (zd (f:=62) (hc:=λw' X hk hh=>hfl (revd rs c) w')) (k:=?_);refine ycv za9 (k:=?_);refine yc0 (k:=?_);repeat' (first|refine s_0 ?_|fail)
 exact q_r
theorem zoK (d b:Nat) (p:Pl) (c:Cert) (i:Int) (w:World) (hN:w.cell? ⟨d,0,none⟩=some (.int .i64 i)) (hD:w.rangeAt b 0 (certL p c)):
  Sy.Fn Tryz.prog 67 [.pointer (some ⟨d,0,none⟩),.pointer (some ⟨b,0,none⟩)] w No (Gives (.int .i64 (if (!decide (i=0) && !c.auth)=true then 224 else 0))):=by
 refine zg Tryz.func67 rfl Tryz.ntmps67 q_p Holds.nil ?_;have k7:w.cell? ⟨b,0+7,none⟩=some (.bool c.auth):=hD 7 _ rfl;have hfl:=λu w'=>zeq u 224 w';by_cases h:i=0
 ·rw [decide_eq_true h];have hf:=hfl false;repeat' (first|refine s_0 ?_|(refine zb 0 (za ?_))|(refine zb 1 ?_;refine yv (zl (hv:=hN)) (k:=?_);refine yv (zag (hr:=decide_eq_false (λh'=>h' h))) (k:=za ?_);refine yv (zd (hc:=λ_ _ _ _=>(hf _))) (k:=?_);refine za ?_))
  exact q_r
 ·rw [decide_eq_false h];have hf:=hfl (!c.auth);repeat' (first|refine s_0 ?_|(refine zb 0 (za ?_))|(refine zb 1 ?_;refine yv (zl (hv:=hN)) (k:=?_);refine yv (zag (hr:=decide_eq_true h)) (k:=za ?_);refine yv (zl (hv:=k7)) (k:=za ?_);refine yv (zd (hc:=λ_ _ _ _=>(hf _))) (k:=?_);refine za ?_))
  exact ret1 rfl (resTmp rfl) SubR.nil ⟨by cases c.auth <;> rfl,rfl⟩
def KeyR (w:World) (x:Anch) (u:Bool) (v:Value) (R:List Res):Prop:=∃s:Bs,v= .tuple #[.agg #[.int .i64 x.group,s.val],.bool u]/\s.l=x.pub/\s.ok w/\R= []
theorem KeyR.done {w:World}{x:Anch}{u:Bool}{s:Bs}(h1:s.l=x.pub) (h2:s.ok w):KeyR w x u (.tuple #[.agg #[.int .i64 x.group,s.val],.bool u]) []:=⟨s,rfl,h1,h2,rfl⟩
theorem zkv (a:Option Addr) (n c i:Nat) (ps:List Pl) (l:List Cert) (va:Value) (va1:va.oneCell'=true) (wb w:World) (hkb:Keep No wb w) (hn:l.length=n) (hB:ChainAt wb a c ps l) (hf: ∀x∈l,x.fine) (hb:n < 1000000) (hi:i+1 < n):
  Sy.Fn Tryz.prog 59 [.slice a n c,.int .i64 (i:Int),va] w No (KeyR wb ⟨l[i+1].subject,l[i+1].group,l[i+1].pub⟩ (l[i+1].subject.same l[i].issuer)):=by
 refine zg Tryz.func59 rfl Tryz.ntmps59 q_p Holds.nil ?_;have h:=hB.keep hkb (λp x hx=>hx.keep hkb);obtain ⟨bl,ol,p,rfl,hp,hat,hc⟩:=h.at (k:=11) q_e (λ_ _=>rfl) (i:=i) q_o;obtain ⟨bl',ol',p',e',hp',hat',hc'⟩:=h.at (k:=11) q_e (λ_ _=>rfl) (i:=i+1) q_o;cases e';have hfx':=hf l[i+1] (List.getElem_mem q_o);have he:=λw' (hk:Keep No w w')=>zfu _ _ _ _ w' (hat'.sub.keep hk) (hat.iss.keep hk) hfx'.s.1;have hpb:=(hB.each (i+1) p' l[i+1] hp' (List.getElem?_eq_getElem q_o)).pub;generalize l[i]=x at *;generalize l[i+1]=x' at *;unfold certL prinL at *;have g1:IntKind.i64.wrap ((n:Int) - 1)=((n - 1:Nat):Int):=q_w;have g2:decide ((i:Int) < ((n - 1:Nat):Int))=true:=q_d;have g3:IntKind.i64.wrap ((i:Int)+1)=((i+1:Nat):Int):=q_w;repeat' (first|refine s_0 ?_|(refine zb 0 ?_;refine zO ?_;intro _)|(refine zb 1 (za ?_);refine yv (zA (j:=i)) (k:=?_);refine yv (zz (hv:=hc)) (k:=?_);refine zj ?_;intro _;refine yn (zE (h1:=rfl)) (k:=?_))|(refine zb 2 (za ?_);refine yv (zD (hr:=g1)) (k:=?_);refine yv (zn (hr:=g2)) (k:=?_))|(refine zb 3 (za ?_);refine yv (zu (hr:=g3)) (k:=?_);refine yv (zA (j:=i+1)) (k:=?_);refine yv (zz (hv:=hc')) (k:=?_);refine zj ?_;intro _;refine yn (zE (h1:=rfl)) (k:=?_)))
 (refine zic (id:=4) [2] [0,1,2,3,4,5,6,7,8] [9,10,11] mixed ?_ ?_;kernel_rfl;refine yfv zS (k:=?_);refine yfv zC (k:=?_);refine yfv zS (k:=?_);refine yfv zC (k:=?_);refine yfv zeg (k:=?_);refine yfv zS (k:=?_);refine yfv (zf (B:=[.slice p'.a2 x'.subject.parts.length p'.k2,strV x'.subject.realm]) (hv:=Seg.at rfl)) (k:=?_);refine yfv zS (k:=?_);refine yfv (zf (B:=[.slice p.a1 x.issuer.parts.length p.k1,strV x.issuer.realm]) (hv:=Seg.at rfl)) (k:=?_);refine yf0 ?_;try refine yc0 (k:=?_))
 refine ycv (zd (f:=73) (hc:=zr he)) (k:=?_);refine ycn (zE (h1:=rfl)) (k:=?_);refine ycv za9 (k:=?_);refine yc0 (k:=?_);repeat' (first|refine s_0 ?_|fail)
 exact ret2 rfl (resCells (B:=[.int .i64 x'.group,.slice p'.a3 x'.pub.length p'.k3]) rfl (ty rfl) rfl Has.go Seg.all rfl) (resTmp rfl) SubR.nil (KeyR.done (x:=⟨x'.subject,x'.group,x'.pub⟩) (s:=⟨p'.a3,x'.pub.length,p'.k3,x'.pub⟩) rfl hpb)
theorem zmN {γ:Type}(q:Anch->Bool) (zs:List (γ×Anch)):((zs.filter (λp=>q p.2)).head?).map (·.2)=(zs.map (·.2)).find? q:=by
 induction zs with
 |nil=>rfl
 |cons z zs ih=>
  cases h:q z.2
  ·rw [List.filter_cons_of_neg (by simp [h]),ih,List.map_cons,List.find?_cons_of_neg (by simp [h])]
  ·rw [List.filter_cons_of_pos (by simp [h]),List.map_cons,List.find?_cons_of_pos (by simp [h])];rfl
theorem zko (a aa:Option Addr) (n c na ca i:Nat) (ps:List Pl) (l:List Cert) (pas:List Pa) (an:List Anch) (wb w:World) (hkb:Keep No wb w) (hn:l.length=n) (h:ChainAt w a c ps l) (hb:n < 1000000) (hi:i+1=n) (hna:an.length=na) (hAb:AnchsAt wb aa ca pas an) (hfa: ∀x∈an,x.name.fine) (hnb:na < 1000):
  Sy.Fn Tryz.prog 59 [.slice a n c,.int .i64 (i:Int),.slice aa na ca] w No (KeyR wb (anch an l[i].issuer) (an.find? (λx=>x.name.same l[i].issuer)).isSome):=by
 refine zg Tryz.func59 rfl Tryz.ntmps59 q_p Holds.nil ?_;obtain ⟨bl,ol,p,rfl,hp,hat,hc⟩:=h.at (k:=11) q_e (λ_ _=>rfl) (i:=i) q_o;generalize l[i]=x at *;have hA:=hAb.keep hkb (λp x hx=>hx.keep hkb);have hCl:(List.zipWith anchL pas an).length=na:=by rw [List.length_zipWith,hA.len,hna,Nat.min_self]
 have hfil:=λw' (hk:Keep No w w') b8 (hD:w'.rangeAt b8 0 (certL p x))=>zpz aa na ca 142 [.pointer (some ⟨b8,0,none⟩)] an (List.zipWith anchL pas an) (λy=>y.name.same x.issuer) w' (en rfl) hna hCl (λC hC=>by
  obtain ⟨q,y,rfl⟩:=LstAt.at.mem_zipWith hC;exact ⟨rfl,rfl⟩) ((SlF.of hA.mem).to (Mi:=No) hk (λ_ h=> .inr h)).sla hnb (λi C y e1 e2 w'' hk'=>by
  rw [List.getElem?_zipWith,e2] at e1;cases hq:pas[i]? with
  |none=>rw [hq] at e1;cases e1
  |some q=>
   rw [hq] at e1;cases e1;have hay:=hA.each i q y hq e2;exact zq5 b8 p x q y w'' (zaw hD hk' (λh=>h)) ((hat.keep hk).keep hk') ((hay.keep hk).keep hk') (hfa y (List.mem_of_getElem? e2)))
 unfold FiltR at hfil;have hzc: ∀z∈(List.zip (List.zipWith anchL pas an) an).filter (λz=>z.2.name.same x.issuer),∃q,z.1=anchL q z.2/\AnchAt wb q z.2:=λz hz=>by
  obtain ⟨q,h1,j,h2,h3⟩:=zfi (List.mem_filter.1 hz).1;exact ⟨q,h1,hAb.each j q z.2 h2 h3⟩
 have hff:=zmN (λy:Anch=>y.name.same x.issuer) (List.zip (List.zipWith anchL pas an) an);rw [zhN hA.len] at hff;have hzl:((List.zip (List.zipWith anchL pas an) an).filter (λz=>z.2.name.same x.issuer)).length<=na:=by
  refine Nat.le_trans (List.length_filter_le _ _) ?_;rw [List.length_zip,hCl,hna,Nat.min_self];exact Nat.le_refl _
 unfold anch;generalize (List.zip (List.zipWith anchL pas an) an).filter (λz=>z.2.name.same x.issuer)=zs at *;rw [<-hff];clear hff;have hC:(certL p x).length=11:=rfl;have hC1:(certL p x).all (·.oneCell')=true:=rfl;generalize certL p x=C at *;have g1:IntKind.i64.wrap ((n:Int) - 1)=((n - 1:Nat):Int):=q_w;have g2:decide ((i:Int) < ((n - 1:Nat):Int))=false:=q_f;repeat' (first|refine s_0 ?_|(refine zb 0 ?_;refine zO ?_;intro _)|(refine zb 1 (za ?_);refine yv (zA (j:=i)) (k:=?_);refine yv (zz (hv:=hc) (hz:=hC.symm)) (k:=?_);refine zj ?_;intro _;refine yn (zE (B:=C) (hv:=hC1) (h1:=hC.symm) (hC:=by exact hC.symm)) (k:=?_)))
 rename_i b6 b8;repeat' (first|refine s_0 ?_|(refine zb 2 (za ?_);refine yv (zD (hr:=g1)) (k:=?_);refine yv (zn (hr:=g2)) (k:=?_))|(refine zb 5 (za ?_);refine zaa ?_;(refine ys (zh (f:=141) (hc:=λw' X hk hh=>hfil w' hk b8 (zp (hh.has (r:=.blk b8 45 C) q_h) Seg.all))) (k:=?_);rintro _ _ ⟨R,rfl,aF,cF,rfl,rfl⟩);refine za ?_))
 cases zs with
 |nil=>
  repeat' (first|refine s_0 ?_|(refine zb 6 (za ?_);refine zan ?_)|(refine zb 7 ?_;refine za4 ?_;refine yn (zE (h1:=rfl)) (k:=za ?_)))
  exact ret2 rfl (resCells (B:=[.int .i64 0,.slice none 0 0]) rfl (ty rfl) rfl Has.go Seg.all rfl) (resTmp rfl) SubR.nil (KeyR.done (x:=noAnch) (s:=⟨none,0,0,[]⟩) rfl ⟨rfl,Nat.le_refl _,.inl rfl,λ_=>rfl⟩)
 |cons z zs=>
  obtain ⟨q,hq,hqa⟩:=hzc z List.mem_cons_self;have hpb:=hqa.pub;obtain ⟨zc,y⟩:=z;dsimp only at *;subst hq;refine zh3 (a:=aF) (cp:=cF) (E:=65) (s:=4) (n:=((anchL q y,y)::zs).length) (xs:=(((anchL q y,y)::zs).map (λ(z:List Value×Anch)=>z.1)).flatten) (by exact Rem.here) λr hr=>?_;obtain ⟨bF,J,rfl,rfl⟩:=hr (by rw [List.length_cons];omega);have e0:(((anchL q y,y)::zs).map (λ(z:List Value×Anch)=>z.1)).flatten ++ J=anchL q y ++ ((zs.map (·.1)).flatten ++ J):=by simp
  rw [e0];have hsz:(((anchL q y,y)::zs).length:Int)=(zs.length:Int)+1:=by simp
  have g3:decide ((((anchL q y,y)::zs).length:Int)=0)=false:=q_f;have hl0:0 < ((anchL q y,y)::zs).length:=by rw [List.length_cons];omega
  unfold anchL;repeat' (first|refine s_0 ?_|(refine zb 6 (za ?_);refine yv (zX (hr:=g3)) (k:=?_)))
  (refine zic (id:=8) [2] [0,1,2,3,4,5,6,7,8] [9,10] mixed ?_ ?_;kernel_rfl;refine yfv zbK (k:=?_);refine yfv zA (k:=?_);refine yfv zS (k:=?_);refine yfv zC (k:=?_);refine yfv zbK (k:=?_);refine yfv zA (k:=?_);refine yfv zS (k:=?_);refine yfv zC (k:=?_);refine yfv zeg (k:=?_);refine yf0 ?_;refine ycn zE (k:=?_);refine ycv za9 (k:=?_);try refine yc0 (k:=?_))
  repeat' (first|refine s_0 ?_|fail)
  exact ret2 rfl (resCells (B:=[.int .i64 y.group,.slice q.a2 y.pub.length q.k2]) rfl (ty rfl) rfl Has.go Seg.all rfl) (resTmp rfl) SubR.nil (KeyR.done (x:=y) (s:=⟨q.a2,y.pub.length,q.k2,y.pub⟩) rfl hpb)
end Go.Proofs.YtdnlngbjpdbffaaGreatDoor
end
section
namespace Go.Ct
open Go Go.Sy
section
variable (sv:Int->List UInt8->Bool) (sf:Int->List UInt8->List UInt8->List UInt8->Bool)
theorem zec (e:Int) (es:List Int):exam (e::es)=if e=0 then exam es else e:=by
 unfold exam;rw [List.find?_cons];by_cases h:e=0
 ·simp [h]
 ·simp [h]
theorem znY:exam []=0:=rfl
theorem zm0 {x:Cert}{X:Anch}{u:Bool}{rs:List Revo}{now i:Int}{first:Bool}(hi:decide (i=0)=first) (hu:u=x.issuer.same X.name) (hs:u=true->sv X.group X.pub=true) (hok:x.ok sv=true):
  exam [if u then 0 else 220,signE sv sf x X.group X.pub,if now < x.fr\/x.til < now then 222 else 0,if revd rs x then 223 else 0,if (!decide (i=0) && !x.auth)=true then 224 else 0]=vone sf x X rs now first:=by
 subst hi;unfold vone signE;rw [<-hu];cases u
 ·rw [zec];rfl
 ·rw [zec,if_pos rfl,if_pos rfl,zec,hok,hs rfl];simp only [zec,znY,Bool.and_self,if_true,Bool.not_true];cases sf X.group X.pub x.body x.sig
  ·simp
  ·by_cases ht:now < x.fr\/x.til < now
   ·simp [ht]
   ·cases hr:revd rs x
    ·cases hz:(!decide (i=0) && !x.auth) <;> simp [ht]
    ·simp [ht]
end
end Go.Ct
namespace Go.Proofs.YtdnlngbjpdbffaaGreatDoor
open Go Go.Sy Go.Ct Go.Nt Go.RowKit
attribute [local irreducible] Sy SyL SyX SyC SyF Sy.Fn callFunc
def nextA (a0:Anch) (l:List Cert) (k:Nat):Anch:=match l[k]? with
 |none=>a0
 |some x=>⟨x.subject,x.group,x.pub⟩
theorem zik {an:List Anch}{p:Prin}{x:Anch}(h:an.find? (λa=>a.name.same p)=some x):anch an p=x/\x∈an/\x.name.same p=true:=⟨by unfold anch;rw [h];rfl,List.mem_of_find?_eq_some h,by have:=List.find?_some h;simpa using this⟩
theorem zgU (a aa ar:Option Addr) (n c na ca nr cr:Nat) (ps:List Pl) (l:List Cert) (pas:List Pa) (an:List Anch) (prs:List (Option Addr×Nat)) (rs:List Revo) (now:Int) (w:World) (hG:GT w) (hT:Tab w No) (hS:ST w)
  (hn:l.length=n) (hna:an.length=na) (hnr:rs.length=nr) (h:ChainAt w a c ps l) (hA:AnchsAt w aa ca pas an) (hR:RevosAt w ar cr prs rs) (hf: ∀x∈l,x.fine) (hfa: ∀x∈an,x.name.fine) (hfr: ∀x∈rs,x.issuer.fine) (hb:n < 1000) (hnb:na < 1000) (hrb:nr < 1000):
  Sy.Fn Tryz.prog 25 [.slice a n c,.slice aa na ca,.slice ar nr cr,.int .i64 now] w No (Gives (.tuple #[.int .i64 (verify sfK svK l an rs now).1,.int .i64 (verify sfK svK l an rs now).2])):=by
 refine zg Tryz.func25 rfl Tryz.ntmps25 q_p Holds.nil ?_;have hk1:=λw' (hk:Keep No w w')=>h.keep hk (λp x hx=>hx.keep hk);have hk2:=λw' (hk:Keep No w w')=>hA.keep hk (λp x hx=>hx.keep hk);have hk3:=λw' (hk:Keep No w w')=>hR.keep hk (λp x hx=>hx.keep hk);have hvc:=λw' (hk:Keep No w w')=>znp a n c ps l w' (hG.to hk) hn (hk1 w' hk) hf q_o;have hva:=λw' (hk:Keep No w w')=>zoR aa na ca pas an w' (hG.to hk) hna (hk2 w' hk) hfa q_o;have hvt:=λw'=>zgr now w';have hva64:vargs svK l an rs now=(chainOk svK l && (decide (an.length<=64) && an.all (Anch.ok svK)) && decide (rs.length<=64) && btwB now):=by unfold vargs btwB;simp only [Bool.and_assoc]
 unfold verify;rw [hva64,hnr];have hcase:chainOk svK l=false\/(chainOk svK l=true/\(decide (an.length<=64) && an.all (Anch.ok svK))=false)\/(chainOk svK l=true/\(decide (an.length<=64) && an.all (Anch.ok svK))=true/\64 < nr)\/(chainOk svK l=true/\(decide (an.length<=64) && an.all (Anch.ok svK))=true/\nr<=64/\btwB now=false)\/(chainOk svK l=true/\(decide (an.length<=64) && an.all (Anch.ok svK))=true/\nr<=64/\btwB now=true):=by
  rcases Nat.lt_or_ge 64 nr with h1|h1 <;> cases chainOk svK l <;> cases (decide (an.length<=64) && an.all (Anch.ok svK)) <;> cases btwB now <;> simp [h1] <;> omega
 rcases hcase with e1|⟨e1,e2⟩|⟨e1,e2,e3⟩|⟨e1,e2,e3,e4⟩|⟨e1,e2,e3,e4⟩
 ·rw [e1] at hvc ⊢;rw [if_neg q_p];repeat' (first|refine s_0 ?_|refine zbT ?_|refine zaZ ?_|(refine zb 0 ?_;refine zj ?_;intro _;refine zO ?_;intro _)|(refine zb 1 (za ?_);refine yv (zd (f:=39) (hc:=zr hvc)) (k:=?_);refine za ?_)|(refine zb 2 (za ?_)))
  exact q_r
 ·rw [e1] at hvc ⊢;rw [e2] at hva ⊢;rw [if_neg q_p];repeat' (first|refine s_0 ?_|refine zbT ?_|refine zaZ ?_|(refine zb 0 ?_;refine zj ?_;intro _;refine zO ?_;intro _)|(refine zb 1 (za ?_);refine yv (zd (f:=39) (hc:=zr hvc)) (k:=?_);refine za ?_;refine yv (zd (f:=57) (hc:=zr hva)) (k:=?_);refine za ?_)|(refine zb 2 (za ?_)))
  exact q_r
 ·rw [e1] at hvc ⊢;rw [e2] at hva ⊢;rw [if_neg (by simp;omega)];have g:decide ((nr:Int) > 64)=true:=q_d;repeat' (first|refine s_0 ?_|refine zbT ?_|refine zaZ ?_|(refine zb 0 ?_;refine zj ?_;intro _;refine zO ?_;intro _)|(refine zb 1 (za ?_);refine yv (zd (f:=39) (hc:=zr hvc)) (k:=?_);refine za ?_;refine yv (zd (f:=57) (hc:=zr hva)) (k:=?_);refine za ?_;refine zm ?_;refine za ?_;refine yv (zU (hr:=g)) (k:=za ?_))|(refine zb 2 (za ?_)))
  exact q_r
 ·rw [e1] at hvc ⊢;rw [e2] at hva ⊢;rw [e4] at hvt ⊢;rw [if_neg q_p];have g:decide ((nr:Int) > 64)=false:=q_f;repeat' (first|refine s_0 ?_|refine zbT ?_|refine zaZ ?_|(refine zb 0 ?_;refine zj ?_;intro _;refine zO ?_;intro _)|(refine zb 1 (za ?_);refine yv (zd (f:=39) (hc:=zr hvc)) (k:=?_);refine za ?_;refine yv (zd (f:=57) (hc:=zr hva)) (k:=?_);refine za ?_;refine zm ?_;refine za ?_;refine yv (zU (hr:=g)) (k:=za ?_);refine zm ?_;refine yv (zd (hc:=λ_ _ _ _=>(hvt _))) (k:=?_);refine za ?_)|(refine zb 2 (za ?_)))
  exact q_r
 have e1':=e1;have e2':=e2;rw [e1] at hvc;rw [e2] at hva;rw [e4] at hvt;rw [e1,e2,e4,decide_eq_true e3,if_pos (by rfl)];have g:decide ((nr:Int) > 64)=false:=q_f;simp only [chainOk,Bool.and_eq_true,decide_eq_true_eq,List.all_eq_true] at e1' e2';obtain ⟨⟨hn1,hn5⟩,hall⟩:=e1';obtain ⟨ha64,haall⟩:=e2';rw [hn] at hn1 hn5;obtain ⟨a0,ha0⟩: ∃a0,a0=anch an l[n - 1].issuer:=⟨_,rfl⟩;have hrev:l.reverse=l[n - 1]::(l.take (n - 1)).reverse:=by
  have h1:=zac (l:=l) (i:=n - 1) q_o;rw [show n - 1+1=n by omega,List.take_of_length_le q_o] at h1;exact (congrArg List.reverse h1).trans q_p
 rw [hrev];dsimp only;rw [<-ha0,<-hrev];have g4:IntKind.i64.wrap ((n:Int) - 1)=(n:Int) - 1:=IntWalk.i64_in _ q_o;repeat' (first|refine s_t ?_|refine zbT ?_|(refine zb 0 ?_;refine zj ?_;intro _;refine zO ?_;intro _)|(refine zb 1 (za ?_);refine yv (zd (f:=39) (hc:=zr hvc)) (k:=?_);refine za ?_;refine yv (zd (f:=57) (hc:=zr hva)) (k:=?_);refine za ?_;refine zm ?_;refine za ?_;refine yv (zU (hr:=g)) (k:=za ?_);refine zm ?_;refine yv (zd (hc:=λ_ _ _ _=>(hvt _))) (k:=?_);refine za ?_)|(refine zb 3 (za ?_))|(refine zb 4 (za ?_);refine yv (zD (hr:=g4)) (k:=?_);refine zj ?_;intro _;refine zI ?_))
 rename_i b6 b7 b12;refine zy (γ:=Nat×Nat) (λg=>[(0,.slice a n c),(1,.slice aa na ca),(6,.pointer (some ⟨b6,0,none⟩)),(7,.pointer (some ⟨b7,0,none⟩)),(12,.pointer (some ⟨g.2,0,none⟩)),(10,.int .i64 0),(11,.int .i64 0)])
  (λg=>[.blk g.2 3 [.int .i64 ((g.1:Int) - 1)],.blk b6 38 [.slice ar nr cr],.blk b7 3 [.int .i64 now]]) (λg=>g.1<=n/\vwalk sfK rs now l.reverse a0=vwalk sfK rs now (l.take g.1).reverse (nextA a0 l g.1)) (λg=>g.1) (n,b12) ⟨Nat.le_refl _,?_⟩ ?_ ?_ ?_
 ·have e:nextA a0 l n=a0:=by unfold nextA;rw [List.getElem?_eq_none q_o]
  dsimp only;rw [List.take_of_length_le q_o,e]
 ·exact q_h
 ·exact q_h
 clear b12;rintro ⟨k,b12⟩ ⟨hk,hinv⟩;dsimp only at hk hinv ⊢;rcases Nat.eq_zero_or_pos k with hk0|hk0
 ·subst hk0;have g5:decide (((0:Nat):Int) - 1>=0)=false:=rfl;have hz:vwalk sfK rs now l.reverse a0=(0,0):=hinv;rw [hz];repeat' (first|refine s_0 ?_|refine zaZ ?_|(refine zb 5 ?_;refine zm ?_;refine yv (zab (hr:=g5)) (k:=?_))|(refine zb 14 (za ?_)))
  exact q_r
 obtain ⟨i,rfl⟩: ∃i,k=i+1:=⟨k - 1,by omega⟩;have hii:(((i+1:Nat):Int) - 1)=((i:Nat):Int):=q_o;rw [hii];have hxl:i < l.length:=q_o;obtain ⟨bl,ol,p,rfl,hp,hat,hc⟩:=h.at (k:=11) q_e (λ_ _=>rfl) (i:=i) hxl;have hxm:l[i]∈l:=List.getElem_mem hxl;have hxok:=hall l[i] hxm;have hxf:=hf l[i] hxm;obtain ⟨X,u,hiss,hX,hu,hsv⟩: ∃(X:Anch) (u:Bool),(∀w',Keep No w w'->Sy.Fn Tryz.prog 59 [.slice (some ⟨bl,ol,none⟩) n c,.int .i64 (i:Int),.slice aa na ca] w' No (KeyR w X u))/\X=nextA a0 l (i+1)/\u=l[i].issuer.same X.name/\(u=true->svK X.group X.pub=true):=by
  rcases (show i+1 < n\/i+1=n by omega) with h1|h1
  ·have hxl':i+1 < l.length:=q_o;refine ⟨⟨l[i+1].subject,l[i+1].group,l[i+1].pub⟩,l[i+1].subject.same l[i].issuer,λw' hk=>zkv (some ⟨bl,ol,none⟩) n c i ps l _ rfl w w' hk hn h hf q_o h1,?_,?_,λ_=>?_⟩
   ·unfold nextA;rw [List.getElem?_eq_getElem hxl']
   ·exact Prin.same_comm _ _
   ·have:=hall l[i+1] (List.getElem_mem hxl');simp only [Cert.ok,Bool.and_eq_true] at this;exact this.2
  ·have ha0':a0=anch an l[i].issuer:=by
    obtain rfl:n=i+1:=h1.symm;exact ha0
   refine ⟨a0,(an.find? (λx=>x.name.same l[i].issuer)).isSome,λw' hk=>?_,?_,?_,?_⟩
   ·rw [ha0'];exact zko (some ⟨bl,ol,none⟩) aa n c na ca i ps l pas an w w' hk hn (hk1 w' hk) q_o h1 hna hA hfa hnb
   ·unfold nextA;rw [List.getElem?_eq_none q_o]
   ·rw [ha0'];cases hfd:an.find? (λx=>x.name.same l[i].issuer) with
    |none=>
     have e0:anch an l[i].issuer=noAnch:=by unfold anch;rw [hfd];rfl
     rw [e0];have:l[i].issuer.same noAnch.name=false:=by
      rw [Bool.eq_false_iff];intro he;rw [Prin.same_iff] at he;simp only [Cert.ok,Bool.and_eq_true] at hxok;have:=hxok.1.1.1.1.1.1.2;rw [he] at this;simp [Prin.ok,noAnch] at this
     rw [this];rfl
    |some x=>
     obtain ⟨e0,_,e1⟩:=zik hfd;rw [e0,Prin.same_comm,e1];rfl
   ·intro he;rw [ha0'];cases hfd:an.find? (λx=>x.name.same l[i].issuer) with
    |none=>rw [hfd] at he;cases he
    |some x=>
     obtain ⟨e0,e2,_⟩:=zik hfd;rw [e0];have:=haall x e2;simp only [Anch.ok,Bool.and_eq_true] at this;exact this.2
 have htk:(l.take (i+1)).reverse=l[i]::(l.take i).reverse:=by rw [zac hxl];simp
 have hnx:(⟨l[i].subject,l[i].group,l[i].pub⟩:Anch)=nextA a0 l i:=by unfold nextA;rw [List.getElem?_eq_getElem hxl]
 have hemp:(l.take i).reverse.isEmpty=decide ((i:Int)=0):=by
  cases i with
  |zero=>rfl
  |succ i=>
   rw [decide_eq_false (show ¬(((i+1:Nat):Int)=0) by omega),List.isEmpty_eq_false_iff,ne_eq,List.reverse_eq_nil_iff];intro e;have:=congrArg List.length e;rw [List.length_take,List.length_nil] at this;omega
 have hlen:(l.take i).reverse.length=i:=by rw [List.length_reverse,List.length_take];omega
 rw [htk,<-hX,vwalk,hemp,hlen,hnx] at hinv;have hex:=zm0 svK sfK (rs:=rs) (now:=now) (i:=(i:Int)) (first:=decide ((i:Int)=0)) rfl hu hsv hxok;have hC:(certL p l[i]).length=11:=rfl;have hC1:(certL p l[i]).all (·.oneCell')=true:=rfl;clear hX hu hsv hnx htk;generalize l[i]=x at *;generalize vone sfK x X rs now (decide ((i:Int)=0))=E at *;have g5:decide ((i:Int)>=0)=true:=q_d;repeat' (first|refine s_t ?_|(refine zb 5 ?_;refine zm ?_;refine yv (zab (hr:=g5)) (k:=?_))|(refine zb 7 (za ?_);refine zm ?_;refine yv (zA (j:=i)) (k:=?_);refine yv (zz (hv:=hc) (hz:=hC.symm)) (k:=?_);refine zj ?_;intro _;refine yn (zE (B:=certL p x) (hv:=hC1) (h1:=hC.symm) (hC:=by exact hC.symm)) (k:=?_)))
 rename_i b13;repeat' (first|refine s_0 ?_|(refine zb 8 (za ?_);refine zm ?_;refine za ?_;(refine ys (zh (f:=59) (hc:=zr hiss)) (k:=?_);rintro _ _ ⟨R,rfl,s,rfl,hsl,hsok,rfl⟩);refine za ?_;refine zj ?_;intro _;refine zj ?_;intro _;refine yn (zE (h1:=rfl)) (k:=?_);refine zI ?_))
 rename_i b14 b15;repeat' (first|(refine zb 9 ?_;refine zaa ?_;refine zaa ?_;refine zaa ?_;refine zaa ?_;refine zaa ?_;(refine ys zt (k:=?_);rintro _ _ ⟨bL,rfl,rfl⟩)))
 have hcall: ∀(w':World),Keep No w w'->w'.rangeAt b15 0 [.bool u]->w'.rangeAt b14 0 [.int .i64 X.group,s.val]->w'.rangeAt b13 0 (certL p x)->w'.rangeAt b12 0 [.int .i64 (i:Int)]->w'.rangeAt b6 0 [.slice ar nr cr]->w'.rangeAt b7 0 [.int .i64 now]->
   w'.rangeAt bL 0 [.func (.func 61) #[] #[.pointer (some ⟨b15,0,none⟩)],.func (.func 63) #[] #[.pointer (some ⟨b13,0,none⟩),.pointer (some ⟨b14,0,none⟩)],.func (.func 64) #[] #[.pointer (some ⟨b7,0,none⟩),.pointer (some ⟨b13,0,none⟩)],.func (.func 65) #[] #[.pointer (some ⟨b13,0,none⟩),.pointer (some ⟨b6,0,none⟩)],.func (.func 67) #[] #[.pointer (some ⟨b12,0,none⟩),.pointer (some ⟨b13,0,none⟩)]]->
   Sy.Fn Tryz.prog 60 [.slice (some ⟨bL,0,none⟩) 5 5] w' No (Gives (.int .i64 E)):=by
  intro w' hk r15 r14 r13 r12 r6 r7 rL;rw [<-hex];refine zp4 bL 5 5 _ _ w' rfl rfl q_e rL (λj e he hall0=>?_);have hj:j < 5:=(List.getElem?_eq_some_iff.1 he).1;have kp:=λ{w'':World}{b:Nat}{B:List Value}(hk':Keep No w' w'') (h:w'.rangeAt b 0 B)=>zaw h hk' (λh=>h);rcases (show j=0\/j=1\/j=2\/j=3\/j=4 by omega) with rfl|rfl|rfl|rfl|rfl
  ·cases he;exact ⟨_,[_],rfl,en rfl,λw'' hk'=>zol b15 u w'' (kp hk' r15 0 _ rfl)⟩
  ·cases he;rw [<-hsl];exact ⟨_,[_,_],rfl,en rfl,λw'' hk'=>zoJ b13 b14 p x X.group s w'' ((hG.to hk).to hk') ((hT.no hk).no hk') ((hS.to hk).to hk') (kp hk' r13) (kp hk' r14) ((hat.keep hk).keep hk') hxf ((hsok.keep hk).keep hk')⟩
  ·cases he;exact ⟨_,[_,_],rfl,en rfl,λw'' hk'=>zoV b7 b13 p x now w'' (kp hk' r7 0 _ rfl) (kp hk' r13)⟩
  ·cases he;exact ⟨_,[_,_],rfl,en rfl,λw'' hk'=>zod b13 b6 p x ar nr cr prs rs w'' (kp hk' r13) (kp hk' r6 0 _ rfl) ((hat.keep hk).keep hk') ((hk3 w' hk).keep hk' (λp x hx=>hx.keep hk')) hnr hfr hrb⟩
  ·cases he;exact ⟨_,[_,_],rfl,en rfl,λw'' hk'=>zoK b12 b13 p x (i:Int) w'' (kp hk' r12 0 _ rfl) (kp hk' r13)⟩
 refine yv (zd (f:=60) (hc:=λw' X' hk hh=>hcall w' hk (zp (hh.has q_h) Seg.all) (zp (hh.has q_h) Seg.all) (zp (hh.has q_h) Seg.all) (zp (hh.has q_h) Seg.all) (zp (hh.has q_h) Seg.all) (zp (hh.has q_h) Seg.all) (zp (hh.has q_h) Seg.all))) (k:=?_);have g6:IntKind.i64.wrap ((i:Int) - 1)=(i:Int) - 1:=IntWalk.i64_in _ q_o;by_cases hE:E=0
 ·rw [if_pos hE] at hinv;have g7:decide (E≠0)=false:=decide_eq_false (λh=>h hE);subst hE;repeat' (first|refine s_0 ?_|(refine zb 10 (za ?_);refine yv (zag (hr:=g7)) (k:=?_))|(refine zb 12 ?_;refine zm ?_)|(refine zb 13 ?_;refine zj ?_;intro _;refine zI ?_)|(refine zb 6 ?_;refine zm ?_;refine yv (zD (hr:=g6)) (k:=?_);refine zI ?_)|(refine zP ?_;first|refine zx ?_|fail)|fail)
  rename_i b12';refine zq (i,b12') ⟨by dsimp only;omega,hinv⟩ ?_ ?_ ?_
  ·show i < i+1;omega
  ·exact q_h
  ·exact q_h
 ·rw [if_neg hE] at hinv;rw [hinv];have g7:decide (E≠0)=true:=decide_eq_true hE;repeat' (first|refine s_0 ?_|refine zaZ ?_|(refine zb 10 (za ?_);refine yv (zag (hr:=g7)) (k:=?_))|(refine zb 11 ?_;refine zm ?_;refine za ?_)|(refine zb 14 (za ?_))|(refine zP ?_;first|refine zx ?_|fail)|fail)
  exact q_r
end Go.Proofs.YtdnlngbjpdbffaaGreatDoor
end
section
namespace Go.Proofs.YtdnlngbjpdbffaaGreatDoor
open Go Go.Sy Go.Nt Go.RowKit
attribute [local irreducible] Sy SyL SyX Sy.Fn callFunc natC rowN refC iC gP gQ gL memB safeC fixB gnum gel gsca chal Sh.sum glen
end Go.Proofs.YtdnlngbjpdbffaaGreatDoor
namespace Go.Proofs.YtdnlngbjpdbffaaGreatDoor
open Go Go.Sy Go.Nt Go.RowKit
attribute [local irreducible] Sy SyL SyX Sy.Fn callFunc natC rowN refC iC memB safeC chal Sh.sum
theorem zi0 {z:Int}{key nonce m s:List UInt8}(hs:sSig z key nonce m=some s):s.length=2*gL z.toNat:=by
 unfold sSig at hs;split at hs
 ·rename_i hk;obtain ⟨hk,-,-,-⟩:=hk;cases hs;unfold skey at hk;rw [Bool.and_eq_true,decide_eq_true_eq] at hk;obtain ⟨i,-,hi,h0,h5⟩:=zbA (zdK hk.1).1;rw [hi];have hQ0:0 < gQ i:=Nat.lt_of_lt_of_le q_e (zaB i h0 h5);have hE:sE i (gnum z key).1 (gsca z nonce).1 m < gQ i:=zeB h0 h5 _ _ _;have hS:sS i (gnum z key).1 (gsca z nonce).1 m < gQ i:=Nat.mod_lt _ hQ0;rw [List.length_append,zbH _ _ (zf4 h0 h5 hE),zbH _ _ (zf4 h0 h5 hS)];omega
 ·cases hs
theorem fix2 (a b:Nat) (ha:a < 256) (hb:0 < b/\b < 256):fixB 2 (a*256+b)= [UInt8.ofNat a,UInt8.ofNat b]:=by
 by_cases h0:a=0
 ·subst h0;have n1:nd 256 (0*256+b)=1:=zbh 256 _ 1 q_e q_o (λ_=>by omega);unfold fixB byt be cd;rw [n1];simp [dg,Nat.mod_eq_of_lt hb.2]
 ·have n2:nd 256 (a*256+b)=2:=zbh 256 _ 2 q_e q_o (λ_=>by omega);unfold fixB byt be cd;rw [n2];have h1:(a*256+b) % 256=b:=q_o;have h2:(a*256+b) / 256 % 256=a:=q_o;simp [dg,h1,h2]
theorem zjH:skey 1 [0,6]=true/\(gnum 1 [0,6]).1=6:=by
 have hg:gnum 1 [0,6]=(6,0):=by decide +kernel
 unfold skey;rw [hg];exact ⟨rfl,rfl⟩
theorem zjn:sPub 1 [0,6]=some [4,193]:=by
 unfold sPub;rw [if_pos zjH.1,zjH.2];have h:4 ^ 6 % gP (1:Int).toNat=4*256+193:=by decide +kernel
 rw [h];exact congrArg some (fix2 4 193 q_e q_e)
theorem zr2 (m:List UInt8) (hm:m.length<=65536): ∃s:List UInt8,sSig 1 [0,6] [7] m=some s/\s.length=4/\sVer 1 [4,193] m s=0/\sVer 1 [4,193] m (s.take 3)=10:=by
 have hg:gsca 1 [7]=(7,0):=by unfold gsca;rw [if_pos q_e];decide +kernel
 have hs:=zfo (z:=1) (pl:=[0,6]) (nl:=[7]) (ml:=m) zjH.1 (by rw [hg]) (by rw [hg];decide) hm;have hl:=zi0 hs;refine ⟨_,hs,hl,zqL zjn hs,zgt ?_ ?_⟩
 ·rintro (h|h)
  ·rw [zfY zjn] at h;exact h rfl
  ·omega
 ·rw [List.length_take,hl];decide
end Go.Proofs.YtdnlngbjpdbffaaGreatDoor
end
