/- Lemmas of this proof. -/
import Derived.Test.YtdnlngbjpdbffaaGreatDoorHJ45
set_option maxRecDepth 10000
set_option linter.all false
namespace Go.Ct
open Go Go.Sy
theorem zvv{sv:Int->List UInt8->Bool}{b:List UInt8}{c:Cert}(h:zdX sv b=some c):c.rd b.length:=by
 unfold zdX at h;split at h
 ·rename_i d j;split at h
  ·cases h;exact ziv j
  ·cases h
 ·cases h
end Go.Ct
namespace Go.Proofs.YtdnlngbjpdbffaaGreatDoor
open Go Go.Sy Go.Ct Go.Nt Go.RowKit
attribute [local irreducible] Sy SyL SyX SyC SyF SyG SyH Sy.Fn Sy.FnP callFunc
def zxz(d:Cert)(v:Value)(R:List Res):Prop:=∃p,v= .tuple #[.agg (zE p d).toArray,.int .i64 0]/\R=zac p d
theorem DecR.some{l:List UInt8}{d:Cert}(h:zdX svK l=some d){v:Value}{R:List Res}(hv:DecR l v R):zxz d v R:=by
 rcases hv with ⟨c,p,j,m,q⟩|⟨j,-,-⟩
 ·rw[h] at j;cases j;exact⟨p,m,q⟩
 ·rw[h] at j;cases j
end Go.Proofs.YtdnlngbjpdbffaaGreatDoor
namespace Go.Sy
open Go Go.RowKit
def ze3(a b c:Int):Int:=if c<(if b<a then b else a) then c else (if b<a then b else a)
def zg1(a b c:Int):Int:=if (if a<b then b else a)<c then c else (if a<b then b else a)
variable {P:Program}{ro:Option Nat}{N:Nat}{w0:World}{M:Nat->Prop}{ds:List Deferred}{g:Nat->Option Value}{L:List Res}{o:Oper}
theorem zv6{x y z:Operand}{a b c:Int}{m:Array TypeId}(q:o.op= .call { callee:=.builtin .min,args:=#[x,y,z],argTypes:=m } :=by exact rfl)(hx:ev g x=some (.int .i64 a):=by exact rfl)(r:ev g y=some (.int .i64 b):=by exact rfl)(hz:ev g z=some (.int .i64 c):=by exact rfl):OpT P ro N w0 M ds o g L (Det (.int .i64 (ze3 a b c)) L):=
 Eu (by rw[q];rfl) λw X A j=>by
  simp[execOp,q,resolve,invoke,builtin,j.agr.eval hx,j.agr.eval r,j.agr.eval hz,Builtin.min_,Builtin.min2,ze3]
theorem zv2{x y z:Operand}{a b c:Int}{m:Array TypeId}(q:o.op= .call { callee:=.builtin .max,args:=#[x,y,z],argTypes:=m } :=by exact rfl)(hx:ev g x=some (.int .i64 a):=by exact rfl)(r:ev g y=some (.int .i64 b):=by exact rfl)(hz:ev g z=some (.int .i64 c):=by exact rfl):OpT P ro N w0 M ds o g L (Det (.int .i64 (zg1 a b c)) L):=
 Eu (by rw[q];rfl) λw X A j=>by
  simp[execOp,q,resolve,invoke,builtin,j.agr.eval hx,j.agr.eval r,j.agr.eval hz,Builtin.max_,Builtin.max2,zg1]
theorem zwa{a b c:Int} :ze3 a b c<=a/\ze3 a b c<=b/\ze3 a b c<=c:=by unfold ze3;(repeat' split) <;> omega
theorem zvw{a b c:Int} :a<=zg1 a b c/\b<=zg1 a b c/\c<=zg1 a b c:=by unfold zg1;(repeat' split) <;> omega
variable {fr:Fr}
theorem zsH{γ:Type}{Q:Exit->Act->World->Prop}(f:γ->Fr)(R:γ->List Res)(I:γ->Prop){x y z:Code}(h:Sy P ro N w0 M ds x (Exit.then (CK P ro y (Exit.then (zoc N w0 M ds f R I) Q)) (Exit.then (zoc N w0 M ds f R I) Q)) fr L)
  (h2:∀g,I g->Sy P ro N w0 M ds z Q (f g) (R g)):Sy P ro N w0 M ds x (Exit.then (CK P ro (.seq y z) Q) Q) fr L:=
 λa w B=>wpIn_mono (h a w B) (λe q r j=>by
  cases e with
  |normal=>
   exact wpIn_seq (wpIn_mono j (λe q r j=>by
    cases e with
    |normal=>obtain⟨g,A,m⟩:=j;exact h2 g A q r m
    |exit id=>exact j
    |goto l=>exact j
    |ret=>exact j
    |panic c=>exact j
    |outgrown=>exact j))
  |exit id=>exact j
  |goto l=>exact j
  |ret=>exact j
  |panic c=>exact j
  |outgrown=>exact j)
end Go.Sy
