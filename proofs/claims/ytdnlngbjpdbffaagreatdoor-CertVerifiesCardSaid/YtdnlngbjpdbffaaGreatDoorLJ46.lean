/- The specification's Verify. -/
import Derived.Test.YtdnlngbjpdbffaaGreatDoorLJ45
import Derived.Test.YtdnlngbjpdbffaaGreatDoorLJ43
set_option maxHeartbeats 4000000
set_option maxRecDepth 10000
set_option linter.all false
section
namespace Go.Ct
theorem zmQ (x:Anch) (r:List Anch) (p:Prin):anch (x::r) p=if x.name.same p then x else anch r p:=by
 unfold anch;rw [List.find?_cons];cases x.name.same p <;> rfl
end Go.Ct
namespace Go.Proofs.YtdnlngbjpdbffaaGreatDoor
open Go Go.Sy Go.Ct Go.Nt Go.RowKit
attribute [local irreducible] Sy SyL SyX SyC SyF Sy.Fn callFunc
def noPa:Pa:=⟨none,0,none,0⟩
theorem zne {w:World} :AnchAt w noPa noAnch:=
 ⟨⟨⟨none,0,rfl,Nat.le_refl _,Nat.zero_le _,.inl rfl,λ_=>rfl⟩,Nat.zero_le _,λx hx=>by cases hx⟩,⟨rfl,Nat.le_refl _,.inl rfl,λ_=>rfl⟩,by show (Lit.int .i64 0).wf=true;decide⟩
theorem zkG (a aa ar:Option Addr) (n c na ca nr cr:Nat) (ps:List Pl) (l:List Cert) (pas:List Pa) (an:List Anch) (prs:List (Option Addr×Nat)) (rs:List Revo) (now:Int) (kb ko kc:Nat) (w:World) (hG:GT w) (hRT:RTab w No kb ko kc)
  (hn:l.length=n) (hna:an.length=na) (hnr:rs.length=nr) (h:ChainAt w a c ps l) (hA:AnchsAt w aa ca pas an) (hR:RevosAt w ar cr prs rs) (hf: ∀x∈l,x.fine) (hfa: ∀x∈an,x.name.fine) (hfr: ∀x∈rs,x.issuer.fine) (hb:n < 1000) (hnb:na < 1000) (hrb:nr < 1000):
  Sy.Fn Tryz.prog 29 [.slice a n c,.slice aa na ca,.slice ar nr cr,.int .i64 now] w No (Gives (.tuple #[.int .i64 (verify sfK svK l an rs now).1,.int .i64 (verify sfK svK l an rs now).2])):=by
 refine zg Tryz.func29 rfl Tryz.ntmps29 q_p Holds.nil ?_;have hk1:=λw' (hk:Keep No w w')=>h.keep hk (λp x hx=>hx.keep hk);have hk3:=λw' (hk:Keep No w w')=>hR.keep hk (λp x hx=>hx.keep hk);have hvc:=λw' (hk:Keep No w w')=>zlY a n c ps l w' (hG.to hk) hn (hk1 w' hk) hf q_o;have hvt:=λw'=>zjJ now 0 1099511627776 w';obtain ⟨V,hV⟩: ∃V,V=verify sfK svK l an rs now:=⟨_,rfl⟩;rw [<-hV];unfold verify at hV;have hva:vargs svK l an rs now=(chainOk svK l && decide (na<=64) && decide (nr<=64) && (decide (0<=now) && decide (now<=1099511627776)) && an.all (Anch.ok svK)):=by
  unfold vargs;rw [hna,hnr];generalize decide (na<=64)=x1;generalize decide (nr<=64)=x2;generalize an.all (Anch.ok svK)=x3;cases x1 <;> cases x2 <;> cases x3 <;> simp [Bool.and_assoc]
 obtain ⟨y1,g1⟩: ∃y,decide ((na:Int) > 64)=y:=⟨_,rfl⟩;obtain ⟨y2,g2⟩: ∃y,decide ((nr:Int) > 64)=y:=⟨_,rfl⟩;have d1:decide (na<=64)=!y1:=by rw [<-g1];by_cases h:na<=64 <;> simp [h] <;> omega
 have d2:decide (nr<=64)=!y2:=by rw [<-g2];by_cases h:nr<=64 <;> simp [h] <;> omega
 rw [d1,d2] at hva;rw [hva] at hV;clear hva;have hcase:chainOk svK l=false\/(chainOk svK l=true/\y1=true)\/(chainOk svK l=true/\y1=false/\y2=true)\/(chainOk svK l=true/\y1=false/\y2=false/\(decide (0<=now) && decide (now<=1099511627776))=false)\/(chainOk svK l=true/\y1=false/\y2=false/\(decide (0<=now) && decide (now<=1099511627776))=true):=by
  generalize (decide (0<=now) && decide (now<=1099511627776))=x;cases chainOk svK l <;> cases y1 <;> cases y2 <;> cases x <;> simp
 rcases hcase with e1|⟨e1,rfl⟩|⟨e1,rfl,rfl⟩|⟨e1,rfl,rfl,e4⟩|⟨e1,rfl,rfl,e4⟩
 ·rw [e1] at hvc hV;rw [if_neg q_p] at hV;subst hV;repeat' (first|refine s_0 ?_|(refine zB [0,2] ?_;refine za ?_)|(refine zb 1 (za ?_);refine yv (zd (f:=13) (hc:=zr hvc)) (k:=?_);refine za ?_))
  exact q_r
 ·rw [e1] at hvc hV;rw [if_neg q_p] at hV;subst hV;repeat' (first|refine s_0 ?_|(refine zB [0,2] ?_;refine za ?_)|(refine zb 1 (za ?_);refine yv (zd (f:=13) (hc:=zr hvc)) (k:=?_);refine za ?_;refine yv (zU (hr:=g1)) (k:=za ?_)))
  exact q_r
 ·rw [e1] at hvc hV;rw [if_neg q_p] at hV;subst hV;repeat' (first|refine s_0 ?_|(refine zB [0,2] ?_;refine za ?_)|(refine zb 1 (za ?_);refine yv (zd (f:=13) (hc:=zr hvc)) (k:=?_);refine za ?_;refine yv (zU (hr:=g1)) (k:=za ?_);refine yv (zU (hr:=g2)) (k:=za ?_)))
  exact q_r
 ·rw [e1] at hvc hV;rw [e4] at hvt hV;rw [if_neg q_p] at hV;subst hV;repeat' (first|refine s_0 ?_|(refine zB [0,2] ?_;refine za ?_)|(refine zb 1 (za ?_);refine yv (zd (f:=13) (hc:=zr hvc)) (k:=?_);refine za ?_;refine yv (zU (hr:=g1)) (k:=za ?_);refine yv (zU (hr:=g2)) (k:=za ?_);refine yv (zd (hc:=λ_ _ _ _=>(hvt _))) (k:=?_);refine za ?_))
  exact q_r
 have e1':=e1;rw [e1] at hvc hV;rw [e4] at hvt hV;simp only [chainOk,Bool.and_eq_true,decide_eq_true_eq,List.all_eq_true] at e1';obtain ⟨⟨hn1,hn5⟩,hall⟩:=e1';rw [hn] at hn1 hn5;have hrev:l.reverse=l[n - 1]::(l.take (n - 1)).reverse:=by
  have h1:=zac (l:=l) (i:=n - 1) q_o;rw [show n - 1+1=n by omega,List.take_of_length_le q_o] at h1;exact (congrArg List.reverse h1).trans q_p
 rw [hrev] at hV;dsimp only at hV;rw [<-hrev] at hV;simp only [Bool.not_false,Bool.true_and] at hV;have g4:IntKind.i64.wrap ((na:Int) - 1)=(na:Int) - 1:=IntWalk.i64_in _ q_o;have g4':IntKind.i64.wrap ((n:Int) - 1)=((n - 1:Nat):Int):=q_w;have g4'':IntKind.i64.wrap ((n:Int) - 1)=(n:Int) - 1:=IntWalk.i64_in _ q_o;repeat' (first|refine s_t ?_|(refine zb 0 (za ?_))|(refine zb 1 (za ?_);refine yv (zd (f:=13) (hc:=zr hvc)) (k:=?_);refine za ?_;refine yv (zU (hr:=g1)) (k:=za ?_);refine yv (zU (hr:=g2)) (k:=za ?_);refine yv (zd (hc:=λ_ _ _ _=>(hvt _))) (k:=?_);refine za ?_)|(refine zb 3 ?_;refine zj ?_;intro _)|(refine zb 4 (za ?_);refine yv (zD (hr:=g4)) (k:=za ?_)))
 rename_i b10;refine zy (γ:=Nat×Pa×Anch) (λg=>[(0,.slice a n c),(1,.slice aa na ca),(2,.slice ar nr cr),(3,.int .i64 now),(10,.pointer (some ⟨b10,0,none⟩)),(11,.int .i64 ((g.1:Int) - 1))]) (λg=>[.blk b10 65 (anchL g.2.1 g.2.2)]) (λg=>g.1<=na/\(an.drop g.1).all (Anch.ok svK)=true/\g.2.2=anch (an.drop g.1) l[n - 1].issuer/\AnchAt w g.2.1 g.2.2/\(svK g.2.2.group g.2.2.pub=true\/g.2.2=noAnch)) (λg=>g.1) (na,noPa,noAnch) ⟨Nat.le_refl _,?_,?_,zne,.inr rfl⟩ ?_ ?_ ?_
 ·dsimp only;rw [List.drop_eq_nil_of_le q_o];rfl
 ·dsimp only;rw [List.drop_eq_nil_of_le q_o];rfl
 ·exact q_h
 ·exact q_h
 rintro ⟨k,pq,xq⟩ ⟨hk,hao,hxq,hat,hsv⟩;dsimp only at hk hao hxq hat hsv ⊢;rcases Nat.eq_zero_or_pos k with hk0|hk0
 ·subst hk0;rw [List.drop_zero] at hao hxq;have g5:decide (((0:Nat):Int) - 1>=0)=false:=rfl;rw [hao,if_pos rfl] at hV;repeat' (first|refine s_t ?_|(refine zb 5 (za ?_);refine yv (zab (hr:=g5)) (k:=?_))|(refine zb 11 (za ?_);refine yv (zD (hr:=g4'')) (k:=za ?_)))
  refine zy (γ:=Nat×Pa×Anch) (λg=>[(0,.slice a n c),(2,.slice ar nr cr),(3,.int .i64 now),(10,.pointer (some ⟨b10,0,none⟩)),(12,.int .i64 ((g.1:Int) - 1))]) (λg=>[.blk b10 65 (anchL g.2.1 g.2.2)]) (λg=>g.1<=n/\V=vwalk sfK rs now (l.take g.1).reverse g.2.2/\AnchAt w g.2.1 g.2.2/\(svK g.2.2.group g.2.2.pub=true\/g.2.2=noAnch)) (λg=>g.1) (n,pq,xq) ⟨Nat.le_refl _,by dsimp only;rw [hV,List.take_of_length_le q_o,hxq],hat,hsv⟩ ?_ ?_ ?_
  ·exact q_h
  ·exact q_h
  clear hV hao hxq hat hsv;rintro ⟨k,pq,xq⟩ ⟨hk,hV,hat,hsv⟩;dsimp only at hk hV hat hsv ⊢;rcases Nat.eq_zero_or_pos k with hk0|hk0
  ·subst hk0;have g5:decide (((0:Nat):Int) - 1>=0)=false:=rfl;obtain rfl:V=(0,0):=hV;repeat' (first|refine s_0 ?_|(refine zb 12 (za ?_);refine yv (zab (hr:=g5)) (k:=?_))|(refine zb 18 (za ?_)))
   exact q_r
  obtain ⟨i,rfl⟩: ∃i,k=i+1:=⟨k - 1,by omega⟩;have hii:(((i+1:Nat):Int) - 1)=((i:Nat):Int):=q_o;rw [hii];have hxl:i < l.length:=q_o;obtain ⟨bl,ol,p,rfl,hp,hatx,hc⟩:=h.at (k:=11) q_e (λ_ _=>rfl) (i:=i) hxl;have hxm:l[i]∈l:=List.getElem_mem hxl;have hxok:=hall l[i] hxm;have hxf:=hf l[i] hxm;have htk:(l.take (i+1)).reverse=l[i]::(l.take i).reverse:=by rw [zac hxl];simp
  have hemp:(l.take i).reverse.isEmpty=decide ((i:Int)=0):=by
   cases i with
   |zero=>rfl
   |succ i=>
    rw [decide_eq_false (show ¬(((i+1:Nat):Int)=0) by omega),List.isEmpty_eq_false_iff,ne_eq,List.reverse_eq_nil_iff];intro e;have:=congrArg List.length e;rw [List.length_take,List.length_nil] at this;omega
  have hlen:(l.take i).reverse.length=i:=by rw [List.length_reverse,List.length_take];omega
  rw [htk,vwalk,hemp,hlen] at hV;have hAx:svK xq.group xq.pub=true\/l[i].issuer.same xq.name=false:=by
   rcases hsv with h|rfl
   ·exact .inl h
   ·right
    rw [Bool.eq_false_iff];intro he;rw [Prin.same_iff] at he;simp only [Cert.ok,Bool.and_eq_true] at hxok;have:=hxok.1.1.1.1.1.1.2;rw [he] at this;simp [Prin.ok,noAnch] at this
  have hsvx:svK l[i].group l[i].pub=true:=by
   simp only [Cert.ok,Bool.and_eq_true] at hxok;exact hxok.2
  have hone:=λw' (hk:Keep No w w')=>zqi p l[i] pq xq ar nr cr prs rs now (decide ((i:Int)=0)) kb ko kc w' (hG.to hk) (hRT.no hk) (hatx.keep hk) hxf hxok (hat.keep hk) hAx (hk3 w' hk) hnr hfr q_o;have hatn:AnchAt w ⟨p.a2,p.k2,p.a3,p.k3⟩ ⟨l[i].subject,l[i].group,l[i].pub⟩:=⟨hatx.sub,hatx.pub,hatx.rng.2.2.2⟩;have hC:(certL p l[i]).length=11:=rfl;have hcS:w.rangeAt bl (ol+i*11+3) (prinL p.a2 p.k2 l[i].subject):=λj v hj=>by
   have h':=hc (3+j) v (by
    have:(certL p l[i]).drop 3=prinL p.a2 p.k2 l[i].subject ++ (certL p l[i]).drop 5:=rfl;rw [<-List.getElem?_drop,this,List.getElem?_append_left (List.getElem?_eq_some_iff.1 hj).1];exact hj)
   rwa [show ol+i*11+(3+j)=ol+i*11+3+j by omega] at h'
  have hcG:w.cell? ⟨bl,ol+i*11+8,none⟩=some (.int .i64 l[i].group):=hc 8 _ rfl;have hcP:w.cell? ⟨bl,ol+i*11+9,none⟩=some (.slice p.a3 l[i].pub.length p.k3):=hc 9 _ rfl;have hP2:(prinL p.a2 p.k2 l[i].subject).length=2:=rfl;generalize l[i]=x at *;obtain ⟨E,hE⟩: ∃E,E=vone sfK x xq rs now (decide ((i:Int)=0)):=⟨_,rfl⟩;rw [<-hE] at hV hone;have g5:decide ((i:Int)>=0)=true:=q_d;have g6:IntKind.i64.wrap ((i:Int) - 1)=(i:Int) - 1:=IntWalk.i64_in _ q_o;have hnew:anchL ⟨p.a2,p.k2,p.a3,p.k3⟩ ⟨x.subject,x.group,x.pub⟩= [.slice p.a2 x.subject.parts.length p.k2,strV x.subject.realm,.int .i64 x.group,.slice p.a3 x.pub.length p.k3]:=rfl;generalize certL p x=C at *;unfold anchL prinL at *;have g7: ∀y,y=decide ((i:Int)=0)->decide ((i:Int)=0)=y:=λy h=>h.symm;repeat' (first|refine s_t ?_|(refine zb 12 (za ?_);refine yv (zab (hr:=g5)) (k:=?_))|(refine zM (id:=14) 14 [[],[],[0,1],[0,1,2],[],[4],[],[6],[],[8],[],[],[],[12],[0,1,2,3,4,5,6,7,8,9,10,11,12,13],[0,1,2,3,4,5,6,7,8,9,10,11,12,13,14]] mixed ?_ ?_;kernel_rfl;refine zk ?_;refine zk ?_;refine dc (λ_ _=>zA (j:=i)) (k:=?_);refine dc (λ_ _=>zz (hv:=hc) (hz:=hC.symm)) (k:=?_);refine zR ?_;refine dc (λ_ _=>zf (B:=[.slice pq.a1 xq.name.parts.length pq.k1,strV xq.name.realm]) (hv:=Seg.at rfl)) (k:=?_);refine zR ?_;refine zal ?_;refine zR ?_;refine zal ?_;refine zk ?_;refine zk ?_;refine zk ?_;refine dc (λ_ _=>zX (hr:=rfl)) (k:=?_);refine zY ?_;refine yv (zd (f:=72) (hc:=λw' X hk hh=>hone w' hk)) (k:=?_);refine zx ?_)|fail)
  clear hone g7;by_cases hE0:E=0
  ·rw [if_pos hE0] at hV;have g8:decide (E≠0)=false:=decide_eq_false (λh=>h hE0);repeat' (first|refine s_0 ?_|(refine zb 15 (za ?_);refine yv (zag (hr:=g8)) (k:=?_))|(refine zM (id:=17) 15 [[],[],[0,1],[0,1,2],[0,1,2,3],[],[],[5,6],[5,6,7],[5,6,7,8],[],[],[10,11],[10,11,12],[10,11,12,13],[0,1,2,3,4,5,6,7,8,9,10,11,12,13,14],[0,1,2,3,4,5,6,7,8,9,10,11,12,13,14,15]] mixed ?_ ?_;kernel_rfl;refine zk ?_;refine zk ?_;refine dc (λ_ _=>zA (j:=i)) (k:=?_);refine zR ?_;refine dc (λ_ _=>zz (hv:=hcS) (hz:=hP2.symm)) (k:=?_);refine zk ?_;refine zk ?_;refine dc (λ_ _=>zA (j:=i)) (k:=?_);refine zR ?_;refine dc (λ_ _=>zl (hv:=hcG)) (k:=?_);refine zk ?_;refine zk ?_;refine dc (λ_ _=>zA (j:=i)) (k:=?_);refine zR ?_;refine dc (λ_ _=>zl (hv:=hcP)) (k:=?_);refine zY ?_;refine za4 ?_;refine yn (zE (h1:=rfl)) (k:=?_))|(refine zb 13 (za ?_);refine yv (zD (hr:=g6)) (k:=za ?_)))
   refine zq (i,⟨p.a2,p.k2,p.a3,p.k3⟩,⟨x.subject,x.group,x.pub⟩) ⟨by dsimp only;omega,hV,hatn,.inl hsvx⟩ ?_ ?_ ?_
   ·show i < i+1;omega
   ·exact q_h
   ·exact q_h
  ·rw [if_neg hE0] at hV;subst hV;have g8:decide (E≠0)=true:=decide_eq_true hE0;repeat' (first|refine s_0 ?_|(refine zb 15 (za ?_);refine yv (zag (hr:=g8)) (k:=?_))|(refine zb 16 (za ?_)))
   exact q_r
 obtain ⟨i,rfl⟩: ∃i,k=i+1:=⟨k - 1,by omega⟩;have hii:(((i+1:Nat):Int) - 1)=((i:Nat):Int):=q_o;rw [hii];obtain ⟨bl,ol,p,rfl,hp,hatx,hc⟩:=hA.at (k:=4) q_e (λ_ _=>rfl) (i:=i) q_o;have hin:an[i]∈an:=List.getElem_mem q_o;have hdr:an.drop i=an[i]::an.drop (i+1):=List.drop_eq_getElem_cons q_o;have hfx:=hfa _ hin;obtain ⟨bl',ol',p',rfl,hp',hatl,hcl⟩:=h.at (k:=11) q_e (λ_ _=>rfl) (i:=n - 1) q_o;have hvp:=λw' (hk:Keep No w w')=>zi9 _ _ an[i].name w' (hatx.name.keep hk) hfx.1 hfx.2.1 hfx.2.2;have hvs:=λw' (hk:Keep No w w')=>zfh an[i].group p.a2 an[i].pub.length p.k2 an[i].pub w' rfl (hatx.pub.keep hk).sla;rw [show decide ((gel an[i].group an[i].pub).2=0)=svK an[i].group an[i].pub from rfl] at hvs;have hsp:=λw' (hk:Keep No w w')=>zfB p.a1 p'.a1 p.k1 p'.k1 an[i].name l[n - 1].issuer w' (hatx.name.keep hk) (hatl.iss.keep hk) hfx.1;have hc0:w.rangeAt bl (ol+i*4) (prinL p.a1 p.k1 an[i].name):=λj v hj=>hc j v (by
  have:anchL p an[i]=prinL p.a1 p.k1 an[i].name ++ [.int .i64 an[i].group,.slice p.a2 an[i].pub.length p.k2]:=rfl;rw [this,List.getElem?_append_left (List.getElem?_eq_some_iff.1 hj).1];exact hj)
 have hc2:w.cell? ⟨bl,ol+i*4+2,none⟩=some (.int .i64 an[i].group):=hc 2 _ rfl;have hc3:w.cell? ⟨bl,ol+i*4+3,none⟩=some (.slice p.a2 an[i].pub.length p.k2):=hc 3 _ rfl;have hc1:w.rangeAt bl' (ol'+(n - 1)*11+1) (prinL p'.a1 p'.k1 l[n - 1].issuer):=λj v hj=>by
  have h':=hcl (1+j) v (by
   have:(certL p' l[n - 1]).drop 1=prinL p'.a1 p'.k1 l[n - 1].issuer ++ (certL p' l[n - 1]).drop 3:=rfl;rw [<-List.getElem?_drop,this,List.getElem?_append_left (List.getElem?_eq_some_iff.1 hj).1];exact hj)
  rwa [show ol'+(n - 1)*11+(1+j)=ol'+(n - 1)*11+1+j by omega] at h'
 have hP:(prinL p.a1 p.k1 an[i].name).length=2:=rfl;have hP':(prinL p'.a1 p'.k1 l[n - 1].issuer).length=2:=rfl;have hX:(anchL p an[i]).length=4:=rfl;have hX1:(anchL p an[i]).all (·.oneCell')=true:=rfl;have hq:(anchL pq xq).length=4:=rfl;have hbad:Anch.ok svK an[i]=false->V=(0,2):=λh=>by
  have:an.all (Anch.ok svK)=false:=by rw [List.all_eq_false];exact ⟨_,hin,by rw [h];decide⟩
  rw [hV,this];rfl
 have hgo:Anch.ok svK an[i]=true->(an.drop i).all (Anch.ok svK)=true:=λh=>by rw [hdr,List.all_cons,h,hao];rfl
 have hnx:=zmQ an[i] (an.drop (i+1)) l[n - 1].issuer;rw [<-hdr,<-hxq] at hnx;have hoke:Anch.ok svK an[i]=(an[i].name.ok && svK an[i].group an[i].pub):=rfl;rw [hoke] at hbad hgo;clear hoke hV hdr;generalize an[i]=x at *;generalize l[n - 1]=z at *;generalize hokx:x.name.ok=u1 at *;generalize hsvx:svK x.group x.pub=u2 at *;have g5:decide ((i:Int)>=0)=true:=q_d;have g6:IntKind.i64.wrap ((i:Int) - 1)=(i:Int) - 1:=IntWalk.i64_in _ q_o;have hcs:u1=false\/(u1=true/\u2=false)\/(u1=true/\u2=true):=by cases u1 <;> cases u2 <;> simp
 rcases hcs with rfl|⟨rfl,rfl⟩|⟨rfl,rfl⟩
 ·obtain rfl:=hbad rfl;repeat' (first|refine s_t ?_|(refine zb 5 (za ?_);refine yv (zab (hr:=g5)) (k:=?_))|(refine zM (id:=7) 18 [[],[],[0,1],[0,1,2],[0,1,2,3],[0,1,2,3,4],[0,1,2,3,4,5],[0,1,2,3,4,5,6],[0,1,2,3,4,5,6,7],[0,1,2,3,4,5,6,7],[0,1,2,3,4,5,6,7,8,9],[0,1,2,3,4,5,6,7,8,9,10],[0,1,2,3,4,5,6,7,8,9,10,11],[0,1,2,3,4,5,6,7],[0,1,2,3,4,5,6,7],[0,1,2,3,4,5,6,7,13,14],[0,1,2,3,4,5,6,7,13,14,15],[0,1,2,3,4,5,6,7,13,14,15,16],[0,1,2,3,4,5,6,7,8,9,10,11,12,13,14,15,16,17],[0,1,2,3,4,5,6,7,8,9,10,11,12,13,14,15,16,17,18],[0,1,2,3,4,5,6,7,8,9,10,11,12,13,14,15,16,17,18,19]] mixed ?_ ?_;kernel_rfl;refine zk ?_;refine zk ?_;refine dc (λ_ _=>zA (j:=i)) (k:=?_);refine zR ?_;refine dc (λ_ _=>zz (hv:=hc0) (hz:=hP.symm)) (k:=?_);refine dc (λ_ _=>zd (f:=71) (hc:=λw' X hk hh=>hvp w' hk)) (k:=?_);refine zhk ?_;refine zk ?_;refine zat (λ_=>rfl) rfl ?_;refine zat (λ_=>rfl) rfl ?_;refine zat (λ_=>rfl) rfl ?_;refine zat (λ_=>rfl) rfl ?_;refine zat (λ_=>rfl) rfl ?_;refine zat (λ_=>rfl) rfl ?_;refine zat (λ_=>rfl) rfl ?_;refine zat (λ_=>rfl) rfl ?_;refine zat (λ_=>rfl) rfl ?_;refine zat (λ_=>rfl) rfl ?_;refine zY ?_;refine zam rfl rfl rfl ?_;refine zam rfl rfl rfl ?_;refine za1 ?_)|(refine zb 8 (za ?_)))
  exact q_r
 ·obtain rfl:=hbad rfl;repeat' (first|refine s_t ?_|(refine zb 5 (za ?_);refine yv (zab (hr:=g5)) (k:=?_))|(refine zM (id:=7) 18 [[],[],[0,1],[0,1,2],[0,1,2,3],[0,1,2,3,4],[0,1,2,3,4,5],[0,1,2,3,4,5,6],[0,1,2,3,4,5,6,7],[0,1,2,3,4,5,6,7],[0,1,2,3,4,5,6,7,8,9],[0,1,2,3,4,5,6,7,8,9,10],[0,1,2,3,4,5,6,7,8,9,10,11],[0,1,2,3,4,5,6,7],[0,1,2,3,4,5,6,7],[0,1,2,3,4,5,6,7,13,14],[0,1,2,3,4,5,6,7,13,14,15],[0,1,2,3,4,5,6,7,13,14,15,16],[0,1,2,3,4,5,6,7,8,9,10,11,12,13,14,15,16,17],[0,1,2,3,4,5,6,7,8,9,10,11,12,13,14,15,16,17,18],[0,1,2,3,4,5,6,7,8,9,10,11,12,13,14,15,16,17,18,19]] mixed ?_ ?_;kernel_rfl;refine zk ?_;refine zk ?_;refine dc (λ_ _=>zA (j:=i)) (k:=?_);refine zR ?_;refine dc (λ_ _=>zz (hv:=hc0) (hz:=hP.symm)) (k:=?_);refine dc (λ_ _=>zd (f:=71) (hc:=λw' X hk hh=>hvp w' hk)) (k:=?_);refine zhk ?_;refine zk ?_;refine zk ?_;refine zk ?_;refine dc (λ_ _=>zA (j:=i)) (k:=?_);refine zR ?_;refine dc (λ_ _=>zl (hv:=hc2)) (k:=?_);refine zk ?_;refine zk ?_;refine dc (λ_ _=>zA (j:=i)) (k:=?_);refine zR ?_;refine dc (λ_ _=>zl (hv:=hc3)) (k:=?_);refine zY ?_;refine yv (zd (f:=69) (hc:=λw' X hk hh=>hvs w' hk)) (k:=?_);refine zb8 ?_;refine za1 ?_)|(refine zb 8 (za ?_)))
  exact q_r
 ·have hg:=hgo rfl;cases hy:x.name.same z.issuer with
  |false=>
   rw [hy] at hsp hnx;rw [if_neg q_e] at hnx;repeat' (first|refine s_t ?_|(refine zb 5 (za ?_);refine yv (zab (hr:=g5)) (k:=?_))|(refine zM (id:=7) 18 [[],[],[0,1],[0,1,2],[0,1,2,3],[0,1,2,3,4],[0,1,2,3,4,5],[0,1,2,3,4,5,6],[0,1,2,3,4,5,6,7],[0,1,2,3,4,5,6,7],[0,1,2,3,4,5,6,7,8,9],[0,1,2,3,4,5,6,7,8,9,10],[0,1,2,3,4,5,6,7,8,9,10,11],[0,1,2,3,4,5,6,7],[0,1,2,3,4,5,6,7],[0,1,2,3,4,5,6,7,13,14],[0,1,2,3,4,5,6,7,13,14,15],[0,1,2,3,4,5,6,7,13,14,15,16],[0,1,2,3,4,5,6,7,8,9,10,11,12,13,14,15,16,17],[0,1,2,3,4,5,6,7,8,9,10,11,12,13,14,15,16,17,18],[0,1,2,3,4,5,6,7,8,9,10,11,12,13,14,15,16,17,18,19]] mixed ?_ ?_;kernel_rfl;refine zk ?_;refine zk ?_;refine dc (λ_ _=>zA (j:=i)) (k:=?_);refine zR ?_;refine dc (λ_ _=>zz (hv:=hc0) (hz:=hP.symm)) (k:=?_);refine dc (λ_ _=>zd (f:=71) (hc:=λw' X hk hh=>hvp w' hk)) (k:=?_);refine zhk ?_;refine zk ?_;refine zk ?_;refine zk ?_;refine dc (λ_ _=>zA (j:=i)) (k:=?_);refine zR ?_;refine dc (λ_ _=>zl (hv:=hc2)) (k:=?_);refine zk ?_;refine zk ?_;refine dc (λ_ _=>zA (j:=i)) (k:=?_);refine zR ?_;refine dc (λ_ _=>zl (hv:=hc3)) (k:=?_);refine zY ?_;refine yv (zd (f:=69) (hc:=λw' X hk hh=>hvs w' hk)) (k:=?_);refine zb8 ?_;refine za1 ?_)|(refine zM (id:=9) 12 [[],[],[0,1],[0,1,2],[0,1,2,3],[],[],[6],[6,7],[5,6,7,8],[5,6,7,8,9],[5,6,7,8,9,10],[0,1,2,3,4,5,6,7,8,9,10,11]] mixed ?_ ?_;kernel_rfl;refine zk ?_;refine zk ?_;refine dc (λ_ _=>zA (j:=i)) (k:=?_);refine zR ?_;refine dc (λ_ _=>zz (hv:=hc0) (hz:=hP.symm)) (k:=?_);refine zk ?_;refine zk ?_;refine ziK ?_;refine dc (λ_ _=>zD (hr:=g4')) (k:=?_);refine dc (λ_ _=>zA (j:=n - 1)) (k:=?_);refine zR ?_;refine dc (λ_ _=>zz (hv:=hc1) (hz:=hP'.symm)) (k:=?_);refine zY ?_;refine yv (zd (f:=54) (hc:=λw' X hk hh=>hsp w' hk)) (k:=?_))|(refine zb 6 (za ?_);refine yv (zD (hr:=g6)) (k:=za ?_)))
   refine zq (i,pq,xq) ⟨by dsimp only;omega,hg,hnx.symm,hat,hsv⟩ ?_ ?_ ?_
   ·show i < i+1;omega
   ·exact q_h
   ·exact q_h
  |true=>
   rw [hy] at hsp hnx;rw [if_pos rfl] at hnx;repeat' (first|refine s_t ?_|(refine zb 5 (za ?_);refine yv (zab (hr:=g5)) (k:=?_))|(refine zM (id:=7) 18 [[],[],[0,1],[0,1,2],[0,1,2,3],[0,1,2,3,4],[0,1,2,3,4,5],[0,1,2,3,4,5,6],[0,1,2,3,4,5,6,7],[0,1,2,3,4,5,6,7],[0,1,2,3,4,5,6,7,8,9],[0,1,2,3,4,5,6,7,8,9,10],[0,1,2,3,4,5,6,7,8,9,10,11],[0,1,2,3,4,5,6,7],[0,1,2,3,4,5,6,7],[0,1,2,3,4,5,6,7,13,14],[0,1,2,3,4,5,6,7,13,14,15],[0,1,2,3,4,5,6,7,13,14,15,16],[0,1,2,3,4,5,6,7,8,9,10,11,12,13,14,15,16,17],[0,1,2,3,4,5,6,7,8,9,10,11,12,13,14,15,16,17,18],[0,1,2,3,4,5,6,7,8,9,10,11,12,13,14,15,16,17,18,19]] mixed ?_ ?_;kernel_rfl;refine zk ?_;refine zk ?_;refine dc (λ_ _=>zA (j:=i)) (k:=?_);refine zR ?_;refine dc (λ_ _=>zz (hv:=hc0) (hz:=hP.symm)) (k:=?_);refine dc (λ_ _=>zd (f:=71) (hc:=λw' X hk hh=>hvp w' hk)) (k:=?_);refine zhk ?_;refine zk ?_;refine zk ?_;refine zk ?_;refine dc (λ_ _=>zA (j:=i)) (k:=?_);refine zR ?_;refine dc (λ_ _=>zl (hv:=hc2)) (k:=?_);refine zk ?_;refine zk ?_;refine dc (λ_ _=>zA (j:=i)) (k:=?_);refine zR ?_;refine dc (λ_ _=>zl (hv:=hc3)) (k:=?_);refine zY ?_;refine yv (zd (f:=69) (hc:=λw' X hk hh=>hvs w' hk)) (k:=?_);refine zb8 ?_;refine za1 ?_)|(refine zM (id:=9) 12 [[],[],[0,1],[0,1,2],[0,1,2,3],[],[],[6],[6,7],[5,6,7,8],[5,6,7,8,9],[5,6,7,8,9,10],[0,1,2,3,4,5,6,7,8,9,10,11]] mixed ?_ ?_;kernel_rfl;refine zk ?_;refine zk ?_;refine dc (λ_ _=>zA (j:=i)) (k:=?_);refine zR ?_;refine dc (λ_ _=>zz (hv:=hc0) (hz:=hP.symm)) (k:=?_);refine zk ?_;refine zk ?_;refine ziK ?_;refine dc (λ_ _=>zD (hr:=g4')) (k:=?_);refine dc (λ_ _=>zA (j:=n - 1)) (k:=?_);refine zR ?_;refine dc (λ_ _=>zz (hv:=hc1) (hz:=hP'.symm)) (k:=?_);refine zY ?_;refine yv (zd (f:=54) (hc:=λw' X hk hh=>hsp w' hk)) (k:=?_))|(refine zb 10 (za ?_);refine yv (zA (j:=i)) (k:=?_);refine yv (zz (hv:=hc) (hz:=hX.symm)) (k:=?_);refine yn (zE (B:=anchL p x) (hv:=hX1) (h1:=hX.symm) (hC:=by exact hq.trans hX.symm)) (k:=?_))|(refine zb 6 (za ?_);refine yv (zD (hr:=g6)) (k:=za ?_)))
   refine zq (i,p,x) ⟨by dsimp only;omega,hg,hnx.symm,hatx,.inl hsvx⟩ ?_ ?_ ?_
   ·show i < i+1;omega
   ·exact q_h
   ·exact q_h
end Go.Proofs.YtdnlngbjpdbffaaGreatDoor
end
section
namespace Go.Ct
open Go Go.Sy
def chained (l:List Cert):Bool:=l.all Cert.tiny && decide (l.length<=7)
def fewA (an:List Anch):Bool:=an.all (λx=>x.name.short && decide (x.pub.length<=300))
def fewR (rs:List Revo):Bool:=rs.all (λr=>r.issuer.short)
theorem zjL {l:List Cert}(h:chained l=true):l.length<=7/\ ∀x∈l,x.fine:=by
 simp only [chained,Bool.and_eq_true,decide_eq_true_eq,List.all_eq_true] at h;exact ⟨h.2,λx hx=>(Cert.tiny_fine (h.1 x hx)).1⟩
end Go.Ct
namespace Go.Proofs.YtdnlngbjpdbffaaGreatDoor
open Go Go.Sy Go.Ct Go.Nt Go.RowKit
attribute [local irreducible] Sy SyL SyX SyC SyF Sy.Fn callFunc
theorem zlQ (a:Option Addr) (n c:Nat) (ps:List Pl) (l:List Cert) (w:World) (hn:l.length=n) (h:ChainAt w a c ps l) (hb:n<=maxLen):Sy.Fn Tryz.prog 10 [.slice a n c] w No (Gives (.bool (chained l))):=by
 refine zg Tryz.func10 rfl Tryz.ntmps10 q_p Holds.nil ?_;unfold maxLen at hb;unfold chained;repeat' (first|refine s_t ?_|(refine zB [0,1] ?_;refine za ?_))
 refine zy (γ:=Nat) (λi=>[(0,.slice a n c),(2,.bool false),(3,.int .i64 (i:Int))]) (λ_=>[]) (λi=>i<=n/\(l.take i).all Cert.tiny=true) (λi=>n - i) 0 ⟨Nat.zero_le _,rfl⟩ ?_ ?_ ?_
 ·exact q_h
 ·exact q_h
 rintro i ⟨hi,hal⟩;by_cases hlt:i < n
 ·obtain ⟨bl,ol,p,rfl,hp,hat,hc⟩:=h.at (k:=11) q_e (λ_ _=>rfl) (i:=i) q_o;have hin:l[i]∈l:=List.getElem_mem q_o;have htk:l.take (i+1)=l.take i ++ [l[i]]:=zac q_o;have hv:=λw' (hk:Keep No w w')=>zoj p l[i] w' (hat.keep hk);have hC:(certL p l[i]).length=11:=rfl;generalize l[i]=x at *;generalize certL p x=C at *;have g1:decide ((i:Int) < (n:Int))=true:=q_d;have g5:IntKind.i64.wrap ((i:Int)+1)=((i+1:Nat):Int):=q_w;by_cases hx:x.tiny=true
  ·rw [hx] at hv;repeat' (first|refine s_t ?_|(refine zb 2 (za ?_);refine yv (zn (hr:=g1)) (k:=?_))|(refine zb 4 (za ?_);refine yv (zA (j:=i)) (k:=?_);refine yv (zz (hv:=hc) (hz:=hC.symm)) (k:=?_);refine yv (zd (f:=26) (hc:=zr hv)) (k:=?_);refine za ?_)|(refine zb 3 (za ?_);refine yv (zu (hr:=g5)) (k:=za ?_)))
   refine zq (i+1) ⟨hlt,by rw [htk,List.all_append,hal];simp [hx]⟩ ?_ ?_ ?_
   ·show n - (i+1) < n - i;omega
   ·exact q_h
   ·exact q_h
  ·rw [Bool.not_eq_true] at hx;rw [hx] at hv;have hbad:l.all Cert.tiny=false:=by rw [List.all_eq_false];exact ⟨x,hin,by rw [hx];decide⟩
   rw [hbad,Bool.false_and];repeat' (first|refine s_t ?_|(refine zb 2 (za ?_);refine yv (zn (hr:=g1)) (k:=?_))|(refine zb 4 (za ?_);refine yv (zA (j:=i)) (k:=?_);refine yv (zz (hv:=hc) (hz:=hC.symm)) (k:=?_);refine yv (zd (f:=26) (hc:=zr hv)) (k:=?_);refine za ?_)|(refine zb 5 (za ?_)))
   exact q_r
 obtain rfl:i=n:=q_o;rw [List.take_of_length_le q_o] at hal;rw [hal,Bool.true_and,hn];have g1:decide ((i:Int) < (i:Int))=false:=q_f;have g2:decide ((i:Int)<=7)=decide (i<=7):=decide_eq_decide.2 q_o;repeat' (first|refine s_0 ?_|(refine zb 2 (za ?_);refine yv (zn (hr:=g1)) (k:=?_))|(refine zb 6 (za ?_);refine yv (zau (hr:=g2)) (k:=za ?_)))
 exact q_r
theorem zrv (aa ar:Option Addr) (na ca nr cr:Nat) (pas:List Pa) (an:List Anch) (prs:List (Option Addr×Nat)) (rs:List Revo) (w:World) (hna:an.length=na) (hnr:rs.length=nr) (hA:AnchsAt w aa ca pas an) (hR:RevosAt w ar cr prs rs) (hb:na<=maxLen) (hb':nr<=maxLen):Sy.Fn Tryz.prog 19 [.slice aa na ca,.slice ar nr cr] w No (Gives (.bool (fewA an && fewR rs && (decide (na<=5) && decide (nr<=5))))):=by
 refine zg Tryz.func19 rfl Tryz.ntmps19 q_p Holds.nil ?_;unfold maxLen at hb hb';repeat' (first|refine s_t ?_|(refine zB [0,1] ?_;refine za ?_))
 refine zy (γ:=Nat) (λi=>[(0,.slice aa na ca),(1,.slice ar nr cr),(4,.bool false),(5,.int .i64 (i:Int))]) (λ_=>[]) (λi=>i<=na/\fewA (an.take i)=true) (λi=>na - i) 0 ⟨Nat.zero_le _,rfl⟩ ?_ ?_ ?_
 ·exact q_h
 ·exact q_h
 rintro i ⟨hi,hal⟩;by_cases hlt:i < na
 ·obtain ⟨bl,ol,p,rfl,hp,hat,hc⟩:=hA.at (k:=4) q_e (λ_ _=>rfl) (i:=i) q_o;have hin:an[i]∈an:=List.getElem_mem q_o;have htk:an.take (i+1)=an.take i ++ [an[i]]:=zac q_o;have hv:=λw' (hk:Keep No w w')=>zeO _ _ an[i].name w' (hat.name.keep hk);have hc0:w.rangeAt bl (ol+i*4) (prinL p.a1 p.k1 an[i].name):=λj v hj=>hc j v (by
   have:anchL p an[i]=prinL p.a1 p.k1 an[i].name ++ [.int .i64 an[i].group,.slice p.a2 an[i].pub.length p.k2]:=rfl;rw [this,List.getElem?_append_left (List.getElem?_eq_some_iff.1 hj).1];exact hj)
  have hc3:w.cell? ⟨bl,ol+i*4+3,none⟩=some (.slice p.a2 an[i].pub.length p.k2):=hc 3 _ rfl;have hP:(prinL p.a1 p.k1 an[i].name).length=2:=rfl;generalize an[i]=x at *;generalize prinL p.a1 p.k1 x.name=P1 at *;have g1:decide ((i:Int) < (na:Int))=true:=q_d;have g5:IntKind.i64.wrap ((i:Int)+1)=((i+1:Nat):Int):=q_w;have hbad:(x.name.short && decide (x.pub.length<=300))=false->fewA an=false:=λh=>by
   unfold fewA;rw [List.all_eq_false];exact ⟨x,hin,by rw [h];decide⟩
  have hgo:(x.name.short && decide (x.pub.length<=300))=true->fewA (an.take (i+1))=true:=λh=>by
   unfold fewA at hal ⊢;rw [htk,List.all_append,hal,List.all_cons,List.all_nil,h];rfl
  generalize x.name.short=u at *;rcases (show u=false\/(u=true/\300 < x.pub.length)\/(u=true/\x.pub.length<=300) by cases u <;> simp <;> omega) with rfl|⟨rfl,hl⟩|⟨rfl,hl⟩
  ·rw [hbad rfl,Bool.false_and,Bool.false_and];repeat' (first|refine s_t ?_|(refine zb 2 (za ?_);refine yv (zn (hr:=g1)) (k:=?_))|(refine zb 4 (za ?_);refine yv (zA (j:=i)) (k:=za ?_);refine yv (zz (hv:=hc0) (hz:=hP.symm)) (k:=?_);refine yv (zd (f:=48) (hc:=zr hv)) (k:=?_);refine za ?_)|(refine zb 5 (za ?_)))
   exact q_r
  ·rw [hbad (by rw [decide_eq_false q_o];rfl),Bool.false_and,Bool.false_and];have g2:decide ((x.pub.length:Int) > 300)=true:=q_d;repeat' (first|refine s_t ?_|(refine zb 2 (za ?_);refine yv (zn (hr:=g1)) (k:=?_))|(refine zb 4 (za ?_);refine yv (zA (j:=i)) (k:=za ?_);refine yv (zz (hv:=hc0) (hz:=hP.symm)) (k:=?_);refine yv (zd (f:=48) (hc:=zr hv)) (k:=?_);refine za ?_;refine yv (zA (j:=i)) (k:=za ?_);refine yv (zl (hv:=hc3)) (k:=za ?_);refine yv (zU (hr:=g2)) (k:=za ?_))|(refine zb 5 (za ?_)))
   exact q_r
  ·have hg:=hgo (by rw [decide_eq_true hl];rfl);have g2:decide ((x.pub.length:Int) > 300)=false:=q_f;repeat' (first|refine s_t ?_|(refine zb 2 (za ?_);refine yv (zn (hr:=g1)) (k:=?_))|(refine zb 4 (za ?_);refine yv (zA (j:=i)) (k:=za ?_);refine yv (zz (hv:=hc0) (hz:=hP.symm)) (k:=?_);refine yv (zd (f:=48) (hc:=zr hv)) (k:=?_);refine za ?_;refine yv (zA (j:=i)) (k:=za ?_);refine yv (zl (hv:=hc3)) (k:=za ?_);refine yv (zU (hr:=g2)) (k:=za ?_))|(refine zb 3 (za ?_);refine yv (zu (hr:=g5)) (k:=za ?_)))
   refine zq (i+1) ⟨hlt,hg⟩ ?_ ?_ ?_
   ·show na - (i+1) < na - i;omega
   ·exact q_h
   ·exact q_h
 obtain rfl:i=na:=q_o;rw [List.take_of_length_le q_o] at hal;rw [hal,Bool.true_and];have g1:decide ((i:Int) < (i:Int))=false:=q_f;repeat' (first|refine s_t ?_|(refine zb 2 (za ?_);refine yv (zn (hr:=g1)) (k:=?_))|(refine zb 6 (za ?_)))
 refine zy (γ:=Nat) (λj=>[(0,.slice aa i ca),(1,.slice ar nr cr),(4,.bool false),(6,.int .i64 (j:Int))]) (λ_=>[]) (λj=>j<=nr/\fewR (rs.take j)=true) (λj=>nr - j) 0 ⟨Nat.zero_le _,rfl⟩ ?_ ?_ ?_
 ·exact q_h
 ·exact q_h
 clear hal;rintro j ⟨hj,hal⟩;by_cases hlt:j < nr
 ·obtain ⟨bl,ol,p,rfl,hp,hat,hc⟩:=hR.at (k:=3) q_e (λ_ _=>rfl) (i:=j) q_o;have hin:rs[j]∈rs:=List.getElem_mem q_o;have htk:rs.take (j+1)=rs.take j ++ [rs[j]]:=zac q_o;have hv:=λw' (hk:Keep No w w')=>zeO _ _ rs[j].issuer w' (hat.name.keep hk);have hc0:w.rangeAt bl (ol+j*3) (prinL p.1 p.2 rs[j].issuer):=λi v hi=>hc i v (by
   have:revoL p rs[j]=prinL p.1 p.2 rs[j].issuer ++ [.int .i64 rs[j].serial]:=rfl;rw [this,List.getElem?_append_left (List.getElem?_eq_some_iff.1 hi).1];exact hi)
  have hP:(prinL p.1 p.2 rs[j].issuer).length=2:=rfl;generalize rs[j]=x at *;generalize prinL p.1 p.2 x.issuer=P1 at *;have g1:decide ((j:Int) < (nr:Int))=true:=q_d;have g5:IntKind.i64.wrap ((j:Int)+1)=((j+1:Nat):Int):=q_w;have hbad:x.issuer.short=false->fewR rs=false:=λh=>by
   unfold fewR;rw [List.all_eq_false];exact ⟨x,hin,by rw [h];decide⟩
  have hgo:x.issuer.short=true->fewR (rs.take (j+1))=true:=λh=>by
   unfold fewR at hal ⊢;rw [htk,List.all_append,hal,List.all_cons,List.all_nil,h];rfl
  generalize x.issuer.short=u at *;cases u
  ·rw [hbad rfl,Bool.false_and];repeat' (first|refine s_t ?_|(refine zb 7 (za ?_);refine yv (zn (hr:=g1)) (k:=?_))|(refine zb 9 (za ?_);refine yv (zA (j:=j)) (k:=za ?_);refine yv (zz (hv:=hc0) (hz:=hP.symm)) (k:=?_);refine yv (zd (f:=48) (hc:=zr hv)) (k:=?_);refine za ?_)|(refine zb 10 (za ?_)))
   exact q_r
  ·have hg:=hgo rfl;repeat' (first|refine s_t ?_|(refine zb 7 (za ?_);refine yv (zn (hr:=g1)) (k:=?_))|(refine zb 9 (za ?_);refine yv (zA (j:=j)) (k:=za ?_);refine yv (zz (hv:=hc0) (hz:=hP.symm)) (k:=?_);refine yv (zd (f:=48) (hc:=zr hv)) (k:=?_);refine za ?_)|(refine zb 8 (za ?_);refine yv (zu (hr:=g5)) (k:=za ?_)))
   refine zq (j+1) ⟨hlt,hg⟩ ?_ ?_ ?_
   ·show nr - (j+1) < nr - j;omega
   ·exact q_h
   ·exact q_h
 obtain rfl:j=nr:=q_o;rw [List.take_of_length_le q_o] at hal;rw [hal,Bool.true_and];have g1:decide ((j:Int) < (j:Int))=false:=q_f;have g2:decide ((i:Int)<=5)=decide (i<=5):=decide_eq_decide.2 q_o;have g3:decide ((j:Int)<=5)=decide (j<=5):=decide_eq_decide.2 q_o;generalize decide (i<=5)=x at *;generalize decide (j<=5)=y at *;cases x;all_goals repeat' (first|refine s_0 ?_|(refine zb 7 (za ?_);refine yv (zn (hr:=g1)) (k:=?_))|(refine zb 11 (za ?_);refine yv (zau (hr:=g2)) (k:=za ?_);(first|refine yv (zau (hr:=g3)) (k:=?_)|skip|fail);(try refine za ?_)))
 all_goals exact q_r
theorem zhf (a aa ar:Option Addr) (n c na ca nr cr:Nat) (ps:List Pl) (l:List Cert) (pas:List Pa) (an:List Anch) (prs:List (Option Addr×Nat)) (rs:List Revo) (now:Int) (kb ko kc:Nat) (w:World) (hG:GT w) (hT:Tab w No) (hRT:RTab w No kb ko kc) (hS:ST w)
  (hn:l.length=n) (hna:an.length=na) (hnr:rs.length=nr) (h:ChainAt w a c ps l) (hA:AnchsAt w aa ca pas an) (hR:RevosAt w ar cr prs rs) (hb:n<=maxLen) (hnb:na<=maxLen) (hrb:nr<=maxLen):
  Sy.Fn Tryz.prog 6 [.slice a n c,.slice aa na ca,.slice ar nr cr,.int .i64 now] w No (Gives (.bool true)):=by
 refine zg Tryz.func6 rfl Tryz.ntmps6 q_p Holds.nil ?_;have hkn:=λw' (hk:Keep No w w')=>zl5 w' (hG.to hk) (hT.no hk) (hS.to hk);have hc1:=λw' (hk:Keep No w w')=>zlQ a n c ps l w' hn (h.keep hk (λp x hx=>hx.keep hk)) hb;have hc2:=λw' (hk:Keep No w w')=>zrv aa ar na ca nr cr pas an prs rs w' hna hnr (hA.keep hk (λp x hx=>hx.keep hk)) (hR.keep hk (λp x hx=>hx.keep hk)) hnb hrb;rcases (show chained l=false\/(chained l=true/\(fewA an && fewR rs && (decide (na<=5) && decide (nr<=5)))=false)\/(chained l=true/\(fewA an && fewR rs && (decide (na<=5) && decide (nr<=5)))=true) by cases chained l <;> cases (fewA an && fewR rs && (decide (na<=5) && decide (nr<=5))) <;> simp) with e|⟨e,e'⟩|⟨e,e'⟩
 ·rw [e] at hc1;repeat' (first|refine s_0 ?_|(refine zb 0 (za ?_))|(refine zb 1 (za ?_);refine yv (zd (f:=10) (hc:=zr hc1)) (k:=?_);refine za ?_)|(refine zb 2 ?_;refine yv (zd (f:=11) (hc:=zr hkn)) (k:=?_);refine za ?_))
  exact q_r
 ·rw [e] at hc1;rw [e'] at hc2;repeat' (first|refine s_0 ?_|(refine zb 0 (za ?_))|(refine zb 1 (za ?_);refine yv (zd (f:=10) (hc:=zr hc1)) (k:=?_);refine za ?_;refine yv (zd (f:=19) (hc:=zr hc2)) (k:=?_);refine za ?_)|(refine zb 2 ?_;refine yv (zd (f:=11) (hc:=zr hkn)) (k:=?_);refine za ?_))
  exact q_r
 rw [e] at hc1;rw [e'] at hc2;obtain ⟨hl7,hf⟩:=zjL e;simp only [Bool.and_eq_true,decide_eq_true_eq,fewA,fewR,List.all_eq_true] at e';obtain ⟨⟨f1,f2⟩,f3,f4⟩:=e';have hfa: ∀x∈an,x.name.fine:=λx hx=>Prin.short_iff (f1 x hx).1;have hfr: ∀x∈rs,x.issuer.fine:=λx hx=>Prin.short_iff (f2 x hx);have hv1:=λw' (hk:Keep No w w')=>zgU a aa ar n c na ca nr cr ps l pas an prs rs now w' (hG.to hk) (hT.no hk) (hS.to hk) hn hna hnr (h.keep hk (λp x hx=>hx.keep hk)) (hA.keep hk (λp x hx=>hx.keep hk)) (hR.keep hk (λp x hx=>hx.keep hk)) hf hfa hfr q_o q_o q_o;have hv2:=λw' (hk:Keep No w w')=>zkG a aa ar n c na ca nr cr ps l pas an prs rs now kb ko kc w' (hG.to hk) (hRT.no hk) hn hna hnr (h.keep hk (λp x hx=>hx.keep hk)) (hA.keep hk (λp x hx=>hx.keep hk)) (hR.keep hk (λp x hx=>hx.keep hk)) hf hfa hfr q_o q_o q_o;have hnum:=λe w'=>zgq e w';generalize (verify sfK svK l an rs now).1=V1 at *;generalize (verify sfK svK l an rs now).2=V2 at *;repeat' (first|refine s_0 ?_|(refine zb 0 (za ?_))|(refine zb 1 (za ?_);refine yv (zd (f:=10) (hc:=zr hc1)) (k:=?_);refine za ?_;refine yv (zd (f:=19) (hc:=zr hc2)) (k:=?_);refine za ?_)|(refine zb 3 (za ?_);refine yv (zd (f:=25) (hc:=zr hv1)) (k:=?_);refine za ?_)|(refine zb 4 (za ?_);refine yv (zd (f:=29) (hc:=zr hv2)) (k:=?_);refine za ?_)|(refine zb 5 (za ?_);refine zan ?_;refine za ?_;refine yv (zd (hc:=λ_ _ _ _=>(hnum _ _))) (k:=?_);refine za ?_;refine zan ?_;refine za ?_;refine yv (zd (f:=11) (hc:=zr hkn)) (k:=?_);refine za ?_))
 exact q_r
end Go.Proofs.YtdnlngbjpdbffaaGreatDoor
end
