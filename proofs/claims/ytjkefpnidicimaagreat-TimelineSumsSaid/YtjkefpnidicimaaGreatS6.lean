/- Part 6 of a proof: O27. -/
import Derived.Test.YtjkefpnidicimaaGreatChecked
import Derived.Test.YtjkefpnidicimaaGreatS5
/- What the readers of law 5 read, within the reach: steps, numbers. -/
namespace An.S
open Go Go.Proofs An
open Go.ChangeShapes Go.WideShapes Go.ChangeAt Go.RowKit
set_option maxRecDepth 100000
theorem own:ownKnob Tryz.prog.godebug=none:=by kernel_rfl
theorem laidOut:laidOutB Tryz.prog=true:=by kernel_rfl
theorem oBool:Opn Tryz.prog 4 1 false (fun b:Bool=>tB b) (fun _=>True):=Opn.bool Tryz.underlying4 (by kernel_rfl)
theorem oInt:Opn Tryz.prog 3 1 false (fun n:Int=>tI n) (fun n=>IntKind.i64.min≤n∧n≤IntKind.i64.max):=Opn.int Tryz.underlying3 (by kernel_rfl)
theorem oU16:Opn Tryz.prog 64 1 false (fun n:Nat=>tE (.int .u16 n)) (fun n=>n < 65536):=Opn.nat Tryz.underlying64 (by kernel_rfl) rfl rfl
theorem oU8:Opn Tryz.prog 5 1 false (fun n:Nat=>tE (.int .u8 n)) (fun n=>n < 256):=Opn.nat Tryz.underlying5 (by kernel_rfl) rfl rfl
theorem oLm:OpnW Tryz.prog 37 1 false (fun l:List Nat=>tLm l) (fun l=>Dig 65536 l∧l.length≤70368744177664):=(OpnW.slice (by_:=2) Tryz.underlying37 (by kernel_rfl) (by kernel_rfl) (OpnW.of oU16)).as id (fun _=>rfl) (fun l h=>⟨h.1,by have h2:l.length*2≤140737488351232:=h.2;show l.length≤_;omega⟩)
/-- Numbers whose limbs are within the reach. -/
def whFits (x:Wh):Prop:=Dig 65536 x.l∧x.l.length≤70368744177664
def frFits (x:Fr):Prop:=whFits x.n∧whFits x.d
theorem oWh:OpnW Tryz.prog 39 2 true (fun x:Wh=>tWh x) whFits:=
  (OpnW.struct Tryz.underlying39 (by kernel_rfl) (by decide) (OpnWF.cons (OpnW.of oBool) rfl rfl (OpnWF.cons oLm rfl rfl OpnWF.nil rfl) rfl)).as (fun x=>⟨x.1,x.2.1⟩) (fun _=>rfl) (fun _ h=>h.2.1)
theorem oFr:OpnW Tryz.prog 41 4 true (fun x:Fr=>tFr x) frFits:=
  (OpnW.struct Tryz.underlying41 (by kernel_rfl) (by decide) (OpnWF.cons oWh rfl rfl (OpnWF.cons oWh rfl rfl OpnWF.nil rfl) rfl)).as (fun x=>⟨x.1,x.2.1⟩) (fun _=>rfl) (fun _ h=>⟨h.1,h.2.1⟩)
theorem oVa:OpnW Tryz.prog 57 6 true (fun x:Va=>tVa x) (fun x=>frFits x.f):=
  (OpnW.struct Tryz.underlying57 (by kernel_rfl) (by decide) (OpnWF.cons (OpnW.of oU8) rfl rfl (OpnWF.cons oFr rfl rfl (OpnWF.cons (OpnW.of oInt) rfl rfl OpnWF.nil rfl) rfl) rfl)).as (fun x=>⟨x.1,x.2.1,x.2.2.1⟩) (fun _=>rfl) (fun _ h=>h.2.1)
theorem oTs:OpnW Tryz.prog 59 8 true (fun x:Tst=>tTs x) (fun x=>frFits x.v.f):=
  (OpnW.struct Tryz.underlying59 (by kernel_rfl) (by decide) (OpnWF.cons (OpnW.of oInt) rfl rfl (OpnWF.cons (OpnW.of oInt) rfl rfl (OpnWF.cons oVa rfl rfl OpnWF.nil rfl) rfl) rfl)).as (fun x=>⟨x.1,x.2.1,x.2.2.1⟩) (fun _=>rfl) (fun _ h=>h.2.2.1)
theorem oSteps:OpnW Tryz.prog 51 1 false (fun l:List Tst=>tL 8 true tTs l) (fun l=> ∀s∈l,frFits s.v.f):=(OpnW.slice (by_:=96) Tryz.underlying51 (by kernel_rfl) (by kernel_rfl) oTs).as id (fun _=>rfl) (fun l h=>h.1)
theorem oIntW:OpnW Tryz.prog 3 1 false (fun n:Int=>tI n) (fun n=>IntKind.i64.min≤n∧n≤IntKind.i64.max):=OpnW.of oInt
theorem digs {l:List Tst} (h: ∀s∈l,frFits s.v.f): ∀s∈l,s.v.f.dig:=fun s hs=>⟨(h s hs).1.1,(h s hs).2.1⟩
theorem lens {l:List Tst} (h: ∀s∈l,frFits s.v.f): ∀s∈l,s.v.f.n.l.length≤70368744177664∧s.v.f.d.l.length≤70368744177664:=fun s hs=>⟨(h s hs).1.2,(h s hs).2.2⟩
/-- What a contract says, as the frame of a statement wants it. -/
theorem walked {f:FuncId} {ts:List Ty} (h:Ct Tryz.prog f ts (tB true)) {vs:List Value} {W:World} (ha:Tup.all (Old W) W ts vs):Calls Tryz.prog f vs.toArray W fun e W'=>e= .returned (.bool true)∧Ext W W':=
  (h (Old W) W vs ha).mono fun e W' ⟨v,h1,h2,h3⟩=>by
    have h3:v= .bool true:=h3
    subst h3;exact ⟨h1,h2⟩
end An.S
