/- Part 6 of a proof: O41. -/
import Derived.Test.YtjkefpnidicimaaGreatChecked
import Derived.Test.YtjkefpnidicimaaGreatT5
set_option maxHeartbeats 4000000
set_option maxRecDepth 100000
namespace An.S
open Go Go.Proofs An Tryz
open Go.ChangeShapes Go.WideShapes Go.ChangeAt Go.RowKit
theorem own:ownKnob Tryz.prog.godebug=none:=by kernel_rfl
theorem laidOut:laidOutB Tryz.prog=true:=by kernel_rfl
theorem oBool:Opn Tryz.prog 4 1 false (fun b:Bool=>tB b) (fun _=>True):=Opn.bool zhb (by kernel_rfl)
theorem oInt:Opn Tryz.prog 3 1 false (fun n:Int=>tI n) (fun n=>IntKind.i64.min<=n/\n<=IntKind.i64.max):=Opn.int zgz (by kernel_rfl)
theorem oU16:Opn Tryz.prog 64 1 false (fun n:Nat=>tE (.int .u16 n)) (fun n=>n < 65536):=Opn.nat zgv (by kernel_rfl) rfl rfl
theorem oLm:Opn Tryz.prog 37 1 false (fun l:List Nat=>tLm l) (fun l=>Dig 65536 l):=(Opn.slice zgr (by kernel_rfl) oU16).as id (fun _=>rfl) (fun _ h=>h)
theorem oInts:Opn Tryz.prog 23 1 false (fun l:List Int=>tIs l) (fun l=> ∀x∈l, -9223372036854775808<=x/\x<=9223372036854775807):=(Opn.slice zgt (by kernel_rfl) oInt).as id (fun _=>rfl) (fun _ h=>h)
theorem oWh:Opn Tryz.prog 39 2 true (fun x:Wh=>tWh x) (fun x=>Dig 65536 x.l):=
 (Opn.struct underlying39 (by kernel_rfl) (by decide) (OpnF.cons oBool rfl rfl (OpnF.cons oLm rfl rfl OpnF.nil rfl) rfl)).as (fun x=>⟨x.1,x.2.1⟩) (fun _=>rfl) (fun _ h=>h.2.1)
theorem oFr:Opn Tryz.prog 41 4 true (fun x:Fr=>tFr x) (fun x=>x.dig):=
 (Opn.struct underlying41 (by kernel_rfl) (by decide) (OpnF.cons oWh rfl rfl (OpnF.cons oWh rfl rfl OpnF.nil rfl) rfl)).as (fun x=>⟨x.1,x.2.1⟩) (fun _=>rfl) (fun _ h=>⟨h.1,h.2.1⟩)
theorem oDeal:Opn Tryz.prog 44 7 true (fun x:Deal=>tDeal x) (fun x=>x.share.dig):=
 (Opn.struct underlying44 (by kernel_rfl) (by decide) (OpnF.cons oInt rfl rfl (OpnF.cons oInt rfl rfl (OpnF.cons oFr rfl rfl (OpnF.cons oInt rfl rfl OpnF.nil rfl) rfl) rfl) rfl)).as (fun x=>⟨x.1,x.2.1,x.2.2.1,x.2.2.2.1⟩) (fun _=>rfl) (fun _ h=>h.2.2.1)
theorem oDeals:Opn Tryz.prog 22 1 false (fun l:List Deal=>tL 7 true tDeal l) (fun l=> ∀d∈l,d.share.dig):=Opn.slice zhd (by kernel_rfl) oDeal
theorem oState:Opn Tryz.prog 25 3 true (fun x:Int×List Int×List Int=>tState x.1 x.2.1 x.2.2) (fun _=>True):=
 (Opn.struct zhe (by kernel_rfl) (by decide) (OpnF.cons oInt rfl rfl (OpnF.cons oInts rfl rfl (OpnF.cons oInts rfl rfl OpnF.nil rfl) rfl) rfl)).as (fun x=>(x.1,x.2.1,x.2.2.1)) (fun _=>rfl) (fun _ _=>trivial)
theorem oIntW:OpnW Tryz.prog 3 1 false (fun n:Int=>tI n) (fun n=>IntKind.i64.min<=n/\n<=IntKind.i64.max):=OpnW.of oInt
theorem oDealsW:OpnW Tryz.prog 22 1 false (fun l:List Deal=>tL 7 true tDeal l) (fun l=> ∀d∈l,d.share.dig):=OpnW.of oDeals
theorem oStateW:OpnW Tryz.prog 25 3 true (fun x:Int×List Int×List Int=>tState x.1 x.2.1 x.2.2) (fun _=>True):=OpnW.of oState
theorem walked {f:FuncId} {ts:List Ty} (h:Ct Tryz.prog f ts (tB true)) {vs:List Value} {W:World} (ha:Tup.all (Old W) W ts vs):Calls Tryz.prog f vs.toArray W fun e W'=>e= .returned (.bool true)/\Ext W W':=
 (h (Old W) W vs ha).mono fun e W' ⟨v,h1,h2,h3⟩=>by
  have h3:v= .bool true:=h3;subst h3;exact ⟨h1,h2⟩
end An.S
