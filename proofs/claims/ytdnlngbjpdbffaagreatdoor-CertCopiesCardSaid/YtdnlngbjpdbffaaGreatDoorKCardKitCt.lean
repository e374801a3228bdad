/- What the cards of layer cert share: certificates, and lists of them, that come in. -/
import Derived.Test.YtdnlngbjpdbffaaGreatDoorKJ38
set_option linter.all false
namespace Go.Proofs.YtdnlngbjpdbffaaGreatDoor
open Go Go.Sy Go.Ct Go.Wd Go.Sh Go.RowKit
noncomputable def zwD(t:TypeId):Array Field:=match Tryz.prog.underlying t with
 |some (.struct fs)=>fs
 |_=> #[]
noncomputable def fld(t:TypeId)(i:Nat):Field:=(zwD t).toList.getD i default
theorem zwE:PrinTy Tryz.prog 43:=⟨41,9,9,fld 43 0,fld 43 1,by kernel_rfl,by kernel_rfl,by kernel_rfl,by kernel_rfl,by kernel_rfl,by kernel_rfl,by kernel_rfl,by kernel_rfl,by kernel_rfl,by kernel_rfl,by kernel_rfl,by kernel_rfl⟩
theorem zwp:CertTy Tryz.prog 45 43 3 4 23 5:=
 ⟨⟨fld 45,by kernel_rfl,by kernel_rfl,by kernel_rfl,by kernel_rfl,by kernel_rfl,by kernel_rfl,by kernel_rfl,by kernel_rfl,by kernel_rfl,by kernel_rfl,by kernel_rfl,by kernel_rfl,by kernel_rfl,by kernel_rfl,by kernel_rfl,by kernel_rfl,by kernel_rfl,by kernel_rfl,by kernel_rfl⟩,by kernel_rfl,zwE,by kernel_rfl,by kernel_rfl,by kernel_rfl,by kernel_rfl,by kernel_rfl,by kernel_rfl,by kernel_rfl,by kernel_rfl,by kernel_rfl⟩
variable {H:Type}{enc:TypeId×Value->H}{W:World}{v:Value}{d:DataW H}{ps:List MemPlace}
theorem zkE(h:DataW.Trod enc Tryz.prog W 0 (λ_=>true) true 45 v d ps):∃p c,v= .agg (zx p c).toArray/\CertAt W p c:=by
 obtain⟨j,h⟩:=h;obtain⟨c,m⟩:=zvs (t:=45) ⟨j,_,h⟩ zwp;obtain⟨p,e,q⟩:=CertIn.at m;exact⟨p,c,zqY e (by show(11:Nat)≠1;decide),q⟩
end Go.Proofs.YtdnlngbjpdbffaaGreatDoor
