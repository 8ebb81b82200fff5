/- Part 5 of a proof: F14. -/
import Derived.Test.YtdilcbnmhgjheaaGreatDoorW4
set_option maxHeartbeats 4000000
set_option maxRecDepth 100000
namespace An.S
open Go Go.Proofs An
instance sl62:SlI Tryz.prog 62 24 1 false:=⟨Tryz.underlying62,ti24⟩
instance fi23:FnI Tryz.prog 23:=⟨_,Tryz.func23,by kernel_rfl,rfl⟩
instance fi24:FnI Tryz.prog 24:=⟨_,Tryz.func24,by kernel_rfl,rfl⟩
instance fi25:FnI Tryz.prog 25:=⟨_,Tryz.func25,by kernel_rfl,rfl⟩
theorem el24:ElI Tryz.prog 24 1 24 false (.slice none 0 0):=⟨ti24,by kernel_rfl,by kernel_rfl⟩
theorem zr61:(Tryz.prog.info? 61).bind (·.zero)=some (.agg #[.string ⟨#[]⟩,.int .i64 0,.int .i64 0,.int .i64 0,.bool false,.int .u8 0,.bool false,.slice none 0 0,.bool false,.slice none 0 0,.int .i64 0,.string ⟨#[]⟩,.int .i64 0,.int .i64 0,.int .i64 0,.bool false,.int .u8 0,.bool false,.slice none 0 0,.bool false,.slice none 0 0,.int .i64 0,.string ⟨#[]⟩,.int .i64 0,.int .i64 0,.int .i64 0,.bool false,.int .u8 0,.bool false,.slice none 0 0,.bool false,.slice none 0 0,.int .i64 0,.string ⟨#[]⟩,.int .i64 0,.int .i64 0,.int .i64 0,.bool false,.int .u8 0,.bool false,.slice none 0 0,.bool false,.slice none 0 0,.int .i64 0,.string ⟨#[]⟩,.int .i64 0,.int .i64 0,.int .i64 0,.bool false,.int .u8 0,.bool false,.slice none 0 0,.bool false,.slice none 0 0,.int .i64 0,.string ⟨#[]⟩,.int .i64 0,.int .i64 0,.int .i64 0,.bool false,.int .u8 0,.bool false,.slice none 0 0,.bool false,.slice none 0 0,.int .i64 0,.string ⟨#[]⟩,.int .i64 0,.int .i64 0,.int .i64 0,.bool false,.int .u8 0,.bool false,.slice none 0 0,.bool false,.slice none 0 0,.int .i64 0,.string ⟨#[]⟩,.int .i64 0,.int .i64 0,.int .i64 0,.bool false,.int .u8 0,.bool false,.slice none 0 0,.bool false,.slice none 0 0,.int .i64 0,.string ⟨#[]⟩,.int .i64 0,.int .i64 0,.int .i64 0,.bool false,.int .u8 0,.bool false,.slice none 0 0,.bool false,.slice none 0 0,.int .i64 0])∧ ∀F w,(tS [⟨11,true,(tS [⟨1,false,(tE (.string ⟨#[]⟩))⟩,⟨1,false,(tE (.int .i64 0))⟩,⟨1,false,(tE (.int .i64 0))⟩,⟨1,false,(tE (.int .i64 0))⟩,⟨1,false,(tE (.bool false))⟩,⟨6,true,(tS [⟨1,false,(tE (.int .u8 0))⟩,⟨4,true,(tS [⟨2,true,(tS [⟨1,false,(tE (.bool false))⟩,⟨1,false,(tLm [])⟩])⟩,⟨2,true,(tS [⟨1,false,(tE (.bool false))⟩,⟨1,false,(tLm [])⟩])⟩])⟩,⟨1,false,(tE (.int .i64 0))⟩])⟩])⟩,⟨11,true,(tS [⟨1,false,(tE (.string ⟨#[]⟩))⟩,⟨1,false,(tE (.int .i64 0))⟩,⟨1,false,(tE (.int .i64 0))⟩,⟨1,false,(tE (.int .i64 0))⟩,⟨1,false,(tE (.bool false))⟩,⟨6,true,(tS [⟨1,false,(tE (.int .u8 0))⟩,⟨4,true,(tS [⟨2,true,(tS [⟨1,false,(tE (.bool false))⟩,⟨1,false,(tLm [])⟩])⟩,⟨2,true,(tS [⟨1,false,(tE (.bool false))⟩,⟨1,false,(tLm [])⟩])⟩])⟩,⟨1,false,(tE (.int .i64 0))⟩])⟩])⟩,⟨11,true,(tS [⟨1,false,(tE (.string ⟨#[]⟩))⟩,⟨1,false,(tE (.int .i64 0))⟩,⟨1,false,(tE (.int .i64 0))⟩,⟨1,false,(tE (.int .i64 0))⟩,⟨1,false,(tE (.bool false))⟩,⟨6,true,(tS [⟨1,false,(tE (.int .u8 0))⟩,⟨4,true,(tS [⟨2,true,(tS [⟨1,false,(tE (.bool false))⟩,⟨1,false,(tLm [])⟩])⟩,⟨2,true,(tS [⟨1,false,(tE (.bool false))⟩,⟨1,false,(tLm [])⟩])⟩])⟩,⟨1,false,(tE (.int .i64 0))⟩])⟩])⟩,⟨11,true,(tS [⟨1,false,(tE (.string ⟨#[]⟩))⟩,⟨1,false,(tE (.int .i64 0))⟩,⟨1,false,(tE (.int .i64 0))⟩,⟨1,false,(tE (.int .i64 0))⟩,⟨1,false,(tE (.bool false))⟩,⟨6,true,(tS [⟨1,false,(tE (.int .u8 0))⟩,⟨4,true,(tS [⟨2,true,(tS [⟨1,false,(tE (.bool false))⟩,⟨1,false,(tLm [])⟩])⟩,⟨2,true,(tS [⟨1,false,(tE (.bool false))⟩,⟨1,false,(tLm [])⟩])⟩])⟩,⟨1,false,(tE (.int .i64 0))⟩])⟩])⟩,⟨11,true,(tS [⟨1,false,(tE (.string ⟨#[]⟩))⟩,⟨1,false,(tE (.int .i64 0))⟩,⟨1,false,(tE (.int .i64 0))⟩,⟨1,false,(tE (.int .i64 0))⟩,⟨1,false,(tE (.bool false))⟩,⟨6,true,(tS [⟨1,false,(tE (.int .u8 0))⟩,⟨4,true,(tS [⟨2,true,(tS [⟨1,false,(tE (.bool false))⟩,⟨1,false,(tLm [])⟩])⟩,⟨2,true,(tS [⟨1,false,(tE (.bool false))⟩,⟨1,false,(tLm [])⟩])⟩])⟩,⟨1,false,(tE (.int .i64 0))⟩])⟩])⟩,⟨11,true,(tS [⟨1,false,(tE (.string ⟨#[]⟩))⟩,⟨1,false,(tE (.int .i64 0))⟩,⟨1,false,(tE (.int .i64 0))⟩,⟨1,false,(tE (.int .i64 0))⟩,⟨1,false,(tE (.bool false))⟩,⟨6,true,(tS [⟨1,false,(tE (.int .u8 0))⟩,⟨4,true,(tS [⟨2,true,(tS [⟨1,false,(tE (.bool false))⟩,⟨1,false,(tLm [])⟩])⟩,⟨2,true,(tS [⟨1,false,(tE (.bool false))⟩,⟨1,false,(tLm [])⟩])⟩])⟩,⟨1,false,(tE (.int .i64 0))⟩])⟩])⟩,⟨11,true,(tS [⟨1,false,(tE (.string ⟨#[]⟩))⟩,⟨1,false,(tE (.int .i64 0))⟩,⟨1,false,(tE (.int .i64 0))⟩,⟨1,false,(tE (.int .i64 0))⟩,⟨1,false,(tE (.bool false))⟩,⟨6,true,(tS [⟨1,false,(tE (.int .u8 0))⟩,⟨4,true,(tS [⟨2,true,(tS [⟨1,false,(tE (.bool false))⟩,⟨1,false,(tLm [])⟩])⟩,⟨2,true,(tS [⟨1,false,(tE (.bool false))⟩,⟨1,false,(tLm [])⟩])⟩])⟩,⟨1,false,(tE (.int .i64 0))⟩])⟩])⟩,⟨11,true,(tS [⟨1,false,(tE (.string ⟨#[]⟩))⟩,⟨1,false,(tE (.int .i64 0))⟩,⟨1,false,(tE (.int .i64 0))⟩,⟨1,false,(tE (.int .i64 0))⟩,⟨1,false,(tE (.bool false))⟩,⟨6,true,(tS [⟨1,false,(tE (.int .u8 0))⟩,⟨4,true,(tS [⟨2,true,(tS [⟨1,false,(tE (.bool false))⟩,⟨1,false,(tLm [])⟩])⟩,⟨2,true,(tS [⟨1,false,(tE (.bool false))⟩,⟨1,false,(tLm [])⟩])⟩])⟩,⟨1,false,(tE (.int .i64 0))⟩])⟩])⟩,⟨11,true,(tS [⟨1,false,(tE (.string ⟨#[]⟩))⟩,⟨1,false,(tE (.int .i64 0))⟩,⟨1,false,(tE (.int .i64 0))⟩,⟨1,false,(tE (.int .i64 0))⟩,⟨1,false,(tE (.bool false))⟩,⟨6,true,(tS [⟨1,false,(tE (.int .u8 0))⟩,⟨4,true,(tS [⟨2,true,(tS [⟨1,false,(tE (.bool false))⟩,⟨1,false,(tLm [])⟩])⟩,⟨2,true,(tS [⟨1,false,(tE (.bool false))⟩,⟨1,false,(tLm [])⟩])⟩])⟩,⟨1,false,(tE (.int .i64 0))⟩])⟩])⟩]).p F w (.agg #[.string ⟨#[]⟩,.int .i64 0,.int .i64 0,.int .i64 0,.bool false,.int .u8 0,.bool false,.slice none 0 0,.bool false,.slice none 0 0,.int .i64 0,.string ⟨#[]⟩,.int .i64 0,.int .i64 0,.int .i64 0,.bool false,.int .u8 0,.bool false,.slice none 0 0,.bool false,.slice none 0 0,.int .i64 0,.string ⟨#[]⟩,.int .i64 0,.int .i64 0,.int .i64 0,.bool false,.int .u8 0,.bool false,.slice none 0 0,.bool false,.slice none 0 0,.int .i64 0,.string ⟨#[]⟩,.int .i64 0,.int .i64 0,.int .i64 0,.bool false,.int .u8 0,.bool false,.slice none 0 0,.bool false,.slice none 0 0,.int .i64 0,.string ⟨#[]⟩,.int .i64 0,.int .i64 0,.int .i64 0,.bool false,.int .u8 0,.bool false,.slice none 0 0,.bool false,.slice none 0 0,.int .i64 0,.string ⟨#[]⟩,.int .i64 0,.int .i64 0,.int .i64 0,.bool false,.int .u8 0,.bool false,.slice none 0 0,.bool false,.slice none 0 0,.int .i64 0,.string ⟨#[]⟩,.int .i64 0,.int .i64 0,.int .i64 0,.bool false,.int .u8 0,.bool false,.slice none 0 0,.bool false,.slice none 0 0,.int .i64 0,.string ⟨#[]⟩,.int .i64 0,.int .i64 0,.int .i64 0,.bool false,.int .u8 0,.bool false,.slice none 0 0,.bool false,.slice none 0 0,.int .i64 0,.string ⟨#[]⟩,.int .i64 0,.int .i64 0,.int .i64 0,.bool false,.int .u8 0,.bool false,.slice none 0 0,.bool false,.slice none 0 0,.int .i64 0]):=⟨by kernel_rfl,fun _ _=>⟨_,rfl,rfl,⟨fun h=>Bool.noConfusion h,⟨_,rfl,rfl,⟨fun _=>rfl,rfl⟩,⟨fun _=>rfl,rfl⟩,⟨fun _=>rfl,rfl⟩,⟨fun _=>rfl,rfl⟩,⟨fun _=>rfl,rfl⟩,⟨fun h=>Bool.noConfusion h,⟨_,rfl,rfl,⟨fun _=>rfl,rfl⟩,⟨fun h=>Bool.noConfusion h,⟨_,rfl,rfl,⟨fun h=>Bool.noConfusion h,⟨_,rfl,rfl,⟨fun _=>rfl,rfl⟩,⟨fun _=>rfl,⟨none,0,rfl,Nat.le_refl _,by decide,.inl rfl⟩⟩,trivial⟩⟩,⟨fun h=>Bool.noConfusion h,⟨_,rfl,rfl,⟨fun _=>rfl,rfl⟩,⟨fun _=>rfl,⟨none,0,rfl,Nat.le_refl _,by decide,.inl rfl⟩⟩,trivial⟩⟩,trivial⟩⟩,⟨fun _=>rfl,rfl⟩,trivial⟩⟩,trivial⟩⟩,⟨fun h=>Bool.noConfusion h,⟨_,rfl,rfl,⟨fun _=>rfl,rfl⟩,⟨fun _=>rfl,rfl⟩,⟨fun _=>rfl,rfl⟩,⟨fun _=>rfl,rfl⟩,⟨fun _=>rfl,rfl⟩,⟨fun h=>Bool.noConfusion h,⟨_,rfl,rfl,⟨fun _=>rfl,rfl⟩,⟨fun h=>Bool.noConfusion h,⟨_,rfl,rfl,⟨fun h=>Bool.noConfusion h,⟨_,rfl,rfl,⟨fun _=>rfl,rfl⟩,⟨fun _=>rfl,⟨none,0,rfl,Nat.le_refl _,by decide,.inl rfl⟩⟩,trivial⟩⟩,⟨fun h=>Bool.noConfusion h,⟨_,rfl,rfl,⟨fun _=>rfl,rfl⟩,⟨fun _=>rfl,⟨none,0,rfl,Nat.le_refl _,by decide,.inl rfl⟩⟩,trivial⟩⟩,trivial⟩⟩,⟨fun _=>rfl,rfl⟩,trivial⟩⟩,trivial⟩⟩,⟨fun h=>Bool.noConfusion h,⟨_,rfl,rfl,⟨fun _=>rfl,rfl⟩,⟨fun _=>rfl,rfl⟩,⟨fun _=>rfl,rfl⟩,⟨fun _=>rfl,rfl⟩,⟨fun _=>rfl,rfl⟩,⟨fun h=>Bool.noConfusion h,⟨_,rfl,rfl,⟨fun _=>rfl,rfl⟩,⟨fun h=>Bool.noConfusion h,⟨_,rfl,rfl,⟨fun h=>Bool.noConfusion h,⟨_,rfl,rfl,⟨fun _=>rfl,rfl⟩,⟨fun _=>rfl,⟨none,0,rfl,Nat.le_refl _,by decide,.inl rfl⟩⟩,trivial⟩⟩,⟨fun h=>Bool.noConfusion h,⟨_,rfl,rfl,⟨fun _=>rfl,rfl⟩,⟨fun _=>rfl,⟨none,0,rfl,Nat.le_refl _,by decide,.inl rfl⟩⟩,trivial⟩⟩,trivial⟩⟩,⟨fun _=>rfl,rfl⟩,trivial⟩⟩,trivial⟩⟩,⟨fun h=>Bool.noConfusion h,⟨_,rfl,rfl,⟨fun _=>rfl,rfl⟩,⟨fun _=>rfl,rfl⟩,⟨fun _=>rfl,rfl⟩,⟨fun _=>rfl,rfl⟩,⟨fun _=>rfl,rfl⟩,⟨fun h=>Bool.noConfusion h,⟨_,rfl,rfl,⟨fun _=>rfl,rfl⟩,⟨fun h=>Bool.noConfusion h,⟨_,rfl,rfl,⟨fun h=>Bool.noConfusion h,⟨_,rfl,rfl,⟨fun _=>rfl,rfl⟩,⟨fun _=>rfl,⟨none,0,rfl,Nat.le_refl _,by decide,.inl rfl⟩⟩,trivial⟩⟩,⟨fun h=>Bool.noConfusion h,⟨_,rfl,rfl,⟨fun _=>rfl,rfl⟩,⟨fun _=>rfl,⟨none,0,rfl,Nat.le_refl _,by decide,.inl rfl⟩⟩,trivial⟩⟩,trivial⟩⟩,⟨fun _=>rfl,rfl⟩,trivial⟩⟩,trivial⟩⟩,⟨fun h=>Bool.noConfusion h,⟨_,rfl,rfl,⟨fun _=>rfl,rfl⟩,⟨fun _=>rfl,rfl⟩,⟨fun _=>rfl,rfl⟩,⟨fun _=>rfl,rfl⟩,⟨fun _=>rfl,rfl⟩,⟨fun h=>Bool.noConfusion h,⟨_,rfl,rfl,⟨fun _=>rfl,rfl⟩,⟨fun h=>Bool.noConfusion h,⟨_,rfl,rfl,⟨fun h=>Bool.noConfusion h,⟨_,rfl,rfl,⟨fun _=>rfl,rfl⟩,⟨fun _=>rfl,⟨none,0,rfl,Nat.le_refl _,by decide,.inl rfl⟩⟩,trivial⟩⟩,⟨fun h=>Bool.noConfusion h,⟨_,rfl,rfl,⟨fun _=>rfl,rfl⟩,⟨fun _=>rfl,⟨none,0,rfl,Nat.le_refl _,by decide,.inl rfl⟩⟩,trivial⟩⟩,trivial⟩⟩,⟨fun _=>rfl,rfl⟩,trivial⟩⟩,trivial⟩⟩,⟨fun h=>Bool.noConfusion h,⟨_,rfl,rfl,⟨fun _=>rfl,rfl⟩,⟨fun _=>rfl,rfl⟩,⟨fun _=>rfl,rfl⟩,⟨fun _=>rfl,rfl⟩,⟨fun _=>rfl,rfl⟩,⟨fun h=>Bool.noConfusion h,⟨_,rfl,rfl,⟨fun _=>rfl,rfl⟩,⟨fun h=>Bool.noConfusion h,⟨_,rfl,rfl,⟨fun h=>Bool.noConfusion h,⟨_,rfl,rfl,⟨fun _=>rfl,rfl⟩,⟨fun _=>rfl,⟨none,0,rfl,Nat.le_refl _,by decide,.inl rfl⟩⟩,trivial⟩⟩,⟨fun h=>Bool.noConfusion h,⟨_,rfl,rfl,⟨fun _=>rfl,rfl⟩,⟨fun _=>rfl,⟨none,0,rfl,Nat.le_refl _,by decide,.inl rfl⟩⟩,trivial⟩⟩,trivial⟩⟩,⟨fun _=>rfl,rfl⟩,trivial⟩⟩,trivial⟩⟩,⟨fun h=>Bool.noConfusion h,⟨_,rfl,rfl,⟨fun _=>rfl,rfl⟩,⟨fun _=>rfl,rfl⟩,⟨fun _=>rfl,rfl⟩,⟨fun _=>rfl,rfl⟩,⟨fun _=>rfl,rfl⟩,⟨fun h=>Bool.noConfusion h,⟨_,rfl,rfl,⟨fun _=>rfl,rfl⟩,⟨fun h=>Bool.noConfusion h,⟨_,rfl,rfl,⟨fun h=>Bool.noConfusion h,⟨_,rfl,rfl,⟨fun _=>rfl,rfl⟩,⟨fun _=>rfl,⟨none,0,rfl,Nat.le_refl _,by decide,.inl rfl⟩⟩,trivial⟩⟩,⟨fun h=>Bool.noConfusion h,⟨_,rfl,rfl,⟨fun _=>rfl,rfl⟩,⟨fun _=>rfl,⟨none,0,rfl,Nat.le_refl _,by decide,.inl rfl⟩⟩,trivial⟩⟩,trivial⟩⟩,⟨fun _=>rfl,rfl⟩,trivial⟩⟩,trivial⟩⟩,⟨fun h=>Bool.noConfusion h,⟨_,rfl,rfl,⟨fun _=>rfl,rfl⟩,⟨fun _=>rfl,rfl⟩,⟨fun _=>rfl,rfl⟩,⟨fun _=>rfl,rfl⟩,⟨fun _=>rfl,rfl⟩,⟨fun h=>Bool.noConfusion h,⟨_,rfl,rfl,⟨fun _=>rfl,rfl⟩,⟨fun h=>Bool.noConfusion h,⟨_,rfl,rfl,⟨fun h=>Bool.noConfusion h,⟨_,rfl,rfl,⟨fun _=>rfl,rfl⟩,⟨fun _=>rfl,⟨none,0,rfl,Nat.le_refl _,by decide,.inl rfl⟩⟩,trivial⟩⟩,⟨fun h=>Bool.noConfusion h,⟨_,rfl,rfl,⟨fun _=>rfl,rfl⟩,⟨fun _=>rfl,⟨none,0,rfl,Nat.le_refl _,by decide,.inl rfl⟩⟩,trivial⟩⟩,trivial⟩⟩,⟨fun _=>rfl,rfl⟩,trivial⟩⟩,trivial⟩⟩,⟨fun h=>Bool.noConfusion h,⟨_,rfl,rfl,⟨fun _=>rfl,rfl⟩,⟨fun _=>rfl,rfl⟩,⟨fun _=>rfl,rfl⟩,⟨fun _=>rfl,rfl⟩,⟨fun _=>rfl,rfl⟩,⟨fun h=>Bool.noConfusion h,⟨_,rfl,rfl,⟨fun _=>rfl,rfl⟩,⟨fun h=>Bool.noConfusion h,⟨_,rfl,rfl,⟨fun h=>Bool.noConfusion h,⟨_,rfl,rfl,⟨fun _=>rfl,rfl⟩,⟨fun _=>rfl,⟨none,0,rfl,Nat.le_refl _,by decide,.inl rfl⟩⟩,trivial⟩⟩,⟨fun h=>Bool.noConfusion h,⟨_,rfl,rfl,⟨fun _=>rfl,rfl⟩,⟨fun _=>rfl,⟨none,0,rfl,Nat.le_refl _,by decide,.inl rfl⟩⟩,trivial⟩⟩,trivial⟩⟩,⟨fun _=>rfl,rfl⟩,trivial⟩⟩,trivial⟩⟩,trivial⟩⟩
theorem bu61:BuI Tryz.prog 61 (fun i=>some (i*11,11)) (.agg #[.string ⟨#[]⟩,.int .i64 0,.int .i64 0,.int .i64 0,.bool false,.int .u8 0,.bool false,.slice none 0 0,.bool false,.slice none 0 0,.int .i64 0,.string ⟨#[]⟩,.int .i64 0,.int .i64 0,.int .i64 0,.bool false,.int .u8 0,.bool false,.slice none 0 0,.bool false,.slice none 0 0,.int .i64 0,.string ⟨#[]⟩,.int .i64 0,.int .i64 0,.int .i64 0,.bool false,.int .u8 0,.bool false,.slice none 0 0,.bool false,.slice none 0 0,.int .i64 0,.string ⟨#[]⟩,.int .i64 0,.int .i64 0,.int .i64 0,.bool false,.int .u8 0,.bool false,.slice none 0 0,.bool false,.slice none 0 0,.int .i64 0,.string ⟨#[]⟩,.int .i64 0,.int .i64 0,.int .i64 0,.bool false,.int .u8 0,.bool false,.slice none 0 0,.bool false,.slice none 0 0,.int .i64 0,.string ⟨#[]⟩,.int .i64 0,.int .i64 0,.int .i64 0,.bool false,.int .u8 0,.bool false,.slice none 0 0,.bool false,.slice none 0 0,.int .i64 0,.string ⟨#[]⟩,.int .i64 0,.int .i64 0,.int .i64 0,.bool false,.int .u8 0,.bool false,.slice none 0 0,.bool false,.slice none 0 0,.int .i64 0,.string ⟨#[]⟩,.int .i64 0,.int .i64 0,.int .i64 0,.bool false,.int .u8 0,.bool false,.slice none 0 0,.bool false,.slice none 0 0,.int .i64 0,.string ⟨#[]⟩,.int .i64 0,.int .i64 0,.int .i64 0,.bool false,.int .u8 0,.bool false,.slice none 0 0,.bool false,.slice none 0 0,.int .i64 0]):=BuI.array Tryz.underlying61 ti34 zr61.1
theorem zf24:Flat 1 false (.slice none 0 0):=xb8 rfl
instance un62:UnI Tryz.prog 62 (.slice 24):=⟨Tryz.underlying62⟩
def badF:List Fa:=[(⟨(⟨#[]⟩:ByteArray),0,1,0,false,(nV 1 2)⟩:Fa),(⟨(⟨#[97,98,99,100,101,102,103,104,105,106,107,108,109,110,111,112,113,114,115,116,117,118,119,120,121]⟩:ByteArray),0,1,0,false,(nV 1 2)⟩:Fa),(⟨(⟨#[120]⟩:ByteArray),1,1,0,false,(nV 1 2)⟩:Fa),(⟨(⟨#[120]⟩:ByteArray), -1,1,0,false,(nV 1 2)⟩:Fa),(⟨(⟨#[120]⟩:ByteArray),0,65537,0,false,(nV 1 2)⟩:Fa),(⟨(⟨#[120]⟩:ByteArray),0,1,65536,false,(nV 1 2)⟩:Fa),(⟨(⟨#[120]⟩:ByteArray),0,1, -1,false,(nV 1 2)⟩:Fa),(⟨(⟨#[120]⟩:ByteArray),0,1,0,false,An.va0⟩:Fa),(⟨(⟨#[120]⟩:ByteArray),0,1,0,true,(nV 1 2)⟩:Fa)]
def cV:Va:=⟨3,fr (kfr 1 2),0⟩
def mxA:Fa:=⟨(⟨#[120]⟩:ByteArray),0,1,0,false,nV 1 2⟩
def mxB:Fa:=⟨(⟨#[120]⟩:ByteArray),5,9,0,false,cV⟩
theorem bad_not (u:Nat):fRight (badF.getD (u%9) fa0)=false:=by
 have key: ∀i:Fin 9,fRight (badF.getD i.val fa0)=false:=by decide+kernel
 exact key ⟨u%9,Nat.mod_lt _ (by decide)⟩
def shF (a:List Fa):Prop:=a.length≤2000∧ ∀f∈a,txOk f.v
theorem txOk_nV:txOk (nV 1 2):=⟨by decide+kernel,by decide+kernel,by decide+kernel,by decide+kernel,dig_frG _⟩
theorem txOk_cV:txOk cV:=⟨by decide+kernel,by decide+kernel,by decide+kernel,by decide+kernel,dig_frG _⟩
theorem txOk_va0:txOk An.va0:=⟨by decide,by decide,by decide,by decide,⟨fun _ h=>absurd h List.not_mem_nil,fun _ h=>absurd h List.not_mem_nil⟩⟩
theorem bad_tx (u:Nat):txOk (badF.getD (u%9) fa0).v:=by
 have key: ∀i:Fin 9,(badF.getD i.val fa0).v=nV 1 2∨(badF.getD i.val fa0).v=An.va0:=by decide+kernel
 rcases key ⟨u%9,Nat.mod_lt _ (by decide)⟩ with e | e
 ·show txOk (badF.getD (u%9) fa0).v
  rw [show (badF.getD (u%9) fa0).v=nV 1 2 from e];exact txOk_nV
 ·rw [show (badF.getD (u%9) fa0).v=An.va0 from e];exact txOk_va0
theorem gF1.txv {D B:Int} {f:Fa} (h:gF1 D B f):txOk f.v:=by
 have h4:=h.2
 by_cases hg:f.gone=true
 ·rw [if_pos hg] at h4;rw [h4];exact txOk_va0
 ·rw [if_neg hg] at h4;exact h4.2
theorem shF.sm {a:List Fa} (h:shF a):smF a:=fun f hf=>by
 have:=(h.2 f hf).2.2
 exact ⟨by omega,by omega⟩
theorem shF.dg {a:List Fa} (h:shF a): ∀f∈a,f.v.f.dig:=fun f hf=>(h.2 f hf).2.2.2.2
theorem vw_dig {T:List Fa} (h: ∀f∈T,f.v.f.dig): ∀s∈vwT T,s.v.f.dig:=by
 rw [vwT]
 refine pst_all (P:=fun s=>s.v.f.dig) (fun x s hx hs e=>hx) _ _ (fun s hs=>by cases hs) fun s hs _=> ?_
 obtain ⟨_,_,h3⟩:=segL_mem hs
 obtain ⟨f,hf,_,e,_⟩:=gF_some h3
 rw [←e];exact h f hf
section
variable {a:List Fa}
theorem c_ViewX (h:shF a) (hr:recOk a=false) (key:ByteArray) (kn:Int):Ct Tryz.prog 12 [tL 11 true tFa a,tSt key,tI kn] (tT [tL 8 true tTs [],tI 2]):=by
 have h1:=c_View a key kn (by have:=h.1;omega) h.sm h.dg
 rw [if_neg (by rw [hr];decide),if_neg (by rw [hr];decide)] at h1;exact h1
theorem c_FAtX (h:shF a) (hr:recOk a=false) (key:ByteArray) (d kn:Int):Ct Tryz.prog 19 [tL 11 true tFa a,tSt key,tI d,tI kn] (tT [tVa An.va0,tB false]):=by
 have h1:=c_FAt a key d kn (by have:=h.1;omega) h.sm h.dg
 rw [atF,if_neg (by rw [hr];decide)] at h1;exact h1
theorem c_LearnsX (h:shF a) (hr:recOk a=false) (key:ByteArray):Ct Tryz.prog 14 [tL 11 true tFa a,tSt key] (tL 1 false tI []):=by
 have h1:=c_Learns a key (by have:=h.1;omega) h.dg fun f hf _=>h.2 f hf
 rw [lrnA,if_neg (by rw [hr];decide)] at h1;exact h1
theorem c_FDiffX (h:shF a) (hr:recOk a=false) (key:ByteArray) (k1 k2:Int):Ct Tryz.prog 15 [tL 11 true tFa a,tSt key,tI k1,tI k2] (tT [tL 2 true tSn [],tI 2]):=by
 have hd: ∀kn,∀s∈vwT (toldT a key kn),s.v.f.dig:=fun kn=>vw_dig fun f hf=>h.dg f (told_mem.1 hf).1
 have hl: ∀kn,(vwT (toldT a key kn)).length≤200000:=fun kn=>by
  have h1:=vw_len (T:=toldT a key kn)
  have h2:=told_len2 (a:=a) (key:=key) (kn:=kn)
  have h3:=h.1
  omega
 have h1:=c_FDiff a key k1 k2 (by have:=h.1;omega) h.sm h.dg (hd k1) (hd k2) (hl k1) (hl k2)
 rw [dfF,dfE,if_neg (by rw [hr];decide),if_neg (by rw [hr];decide)] at h1;exact h1
theorem c_ValidX (h:shF a) (hr:recOk a=false):Ct Tryz.prog 26 [tL 11 true tFa a] (tB false):=by
 have h1:=xm2 a h.dg
 rw [hr] at h1;exact h1
end
theorem c_ValidG {D B:Int} {a:List Fa} (h:gR D B a):Ct Tryz.prog 26 [tL 11 true tFa a] (tB true):=by
 have h1:=xm2 a h.dg
 rw [h.rec] at h1;exact h1
theorem c_RightBad (u:Nat):Ct Tryz.prog 27 [tFa (badF.getD (u%9) fa0)] (tB false):=by
 have h1:=c_FRight (badF.getD (u%9) fa0) (bad_tx u).2.2.2.2
 rw [bad_not] at h1;exact h1
def spF (a:List Fa) (k u:Nat):List Fa:=a.take k++[badF.getD (u%9) fa0]++a.drop k
theorem rec_all {a:List Fa} {f:Fa} (hf:f∈a) (h:fRight f=false):recOk a=false:=by
 have h1:a.all fRight=false:=List.all_eq_false.2 ⟨f,hf,by rw [h];decide⟩
 rw [recOk,h1,Bool.and_false,Bool.false_and]
theorem sp_bad (a:List Fa) (k u:Nat):recOk (spF a k u)=false:=rec_all (f:=badF.getD (u%9) fa0) (by simp [spF]) (bad_not u)
theorem sp_sh {D B:Int} {a:List Fa} (h:gR D B a) (hl:a.length≤100) (k u:Nat):shF (spF a k u):=⟨by simp [spF];omega,fun f hf=>by
 rcases List.mem_append.1 hf with h1 | h1
 ·rcases List.mem_append.1 h1 with h2 | h2
  ·exact (h.2 f ((List.take_sublist ..).subset h2)).txv
  ·rw [List.mem_singleton.1 h2];exact bad_tx u
 ·exact (h.2 f ((List.drop_sublist ..).subset h1)).txv⟩
theorem mx_sh {D B:Int} {a:List Fa} (h:gR D B a) (hl:a.length≤100):shF (a++[mxA,mxB]):=⟨by simp;omega,fun f hf=>by
 rcases List.mem_append.1 hf with h1 | h1
 ·exact (h.2 f h1).txv
 ·simp only [List.mem_cons,List.not_mem_nil,or_false] at h1
  rcases h1 with rfl | rfl
  ·exact txOk_nV
  ·exact txOk_cV⟩
theorem mx_bad {D B:Int} {a:List Fa} (h:gR D B a):recOk (a++[mxA,mxB])=false:=by
 have hk:kOk (a++[mxA,mxB])=false:=by
  refine kOk_bad (i:=a.length+1) (by simp) ?_
  have e1:(a++[mxA,mxB]).take (a.length+1)=a++[mxA]:=by rw [List.take_append,List.take_of_length_le (by omega)];simp
  have e2:(a++[mxA,mxB]).getD (a.length+1) fa0=mxB:=by rw [List.getD_eq_getElem?_getD,List.getElem?_append_right (by omega)];simp
  rw [e1,e2,kBad_iff]
  have e3:kGet (kM (a++[mxA])) mxB.key=max (kGet (kM a) mxA.key) 2:=by rw [kM_app,if_pos (by rfl)];rfl
  rw [e3]
  refine ⟨by omega,rfl,?_⟩
  have hk:=gR.kGet h.2 a.length (Nat.le_refl _) mxA.key
  rw [List.take_length] at hk
  show max (kGet (kM a) mxA.key) 2≠3
  rw [hk]
  split <;> decide
 rw [recOk,hk,Bool.and_false]
theorem c_KeysX (a:List Fa) (h:shF a) (hr:recOk a=false):
  Ct Tryz.prog 23 [tL 11 true tFa a] (tL 1 false tSt []):=by
 refine Ct.intro Tryz.func23 rfl Tryz.ntmps23 rfl ?_
 intro w F
 refine A9 ?_
 refine R1 (x4 (c_ValidX h hr) fi26 rfl) rfl ?_
 refine A11 ?_
 exact x3 Plain.mk' rfl rfl (leNil rfl)
theorem c_KindX (a:List Fa) (key:ByteArray) (h:shF a) (hr:recOk a=false):
  Ct Tryz.prog 24 [tL 11 true tFa a,tSt key] (tE (.int .u8 0)):=by
 refine Ct.intro Tryz.func24 rfl Tryz.ntmps24 rfl ?_
 intro w F
 refine A9 ?_
 refine R1 (x4 (c_ValidX h hr) fi26 rfl) rfl ?_
 refine A11 ?_
 exact x3 Plain.mk' rfl rfl Le.refl
theorem c_FaWrong (m:List Nt) (u b:Nat) (hm: ∀n∈m,ntOk n) (hu:u < 256) (hb:b < 256):
  Ct Tryz.prog 7 [tL 5 true tNt m,tE (.int .u8 (u:Int)),tE (.int .u8 (b:Int))] (tB true):=by
 have hR:=btT_ok (m:=(m.take (min m.length 39))) (fun n hn=>hm n ((List.take_sublist ..).subset hn))
 have hbl:=btT_len (m:=(m.take (min m.length 39)))
 have hB:=c_Built06 (m.take (min m.length 39)) (fun n hn=>hm n ((List.take_sublist ..).subset hn))
 generalize btT (m.take (min m.length 39))=a at*
 have hkl:b%(a.length+1)≤a.length:=by have:=Nat.mod_lt b (show 0 < a.length+1 by omega);omega
 have hkz:((b%(a.length+1):Nat):Int)=(b:Int)%((a.length:Int)+1):=by rw [Int.natCast_emod];rfl
 generalize b%(a.length+1)=k at*
 have hX: ∀i,i < 2→shF ([(spF a k u),(a++[mxA,mxB])].getD i [])∧recOk ([(spF a k u),(a++[mxA,mxB])].getD i [])=false:=fun i hi=>by
  match i,hi with
  | 0,_=>exact ⟨sp_sh hR (by omega) _ u,sp_bad _ _ u⟩
  | 1,_=>exact ⟨mx_sh hR (by omega),mx_bad hR⟩
 refine Ct.intro Tryz.func7 rfl Tryz.ntmps7 rfl ?_
 intro w F
 refine xe7 (s:=0) rfl (fun hl0=> ?_)
 refine A8 ?_
 refine R0 (x4 c_awake06 fi10 rfl) ?_
 refine A11 ?_
 refine R2 d_min2 rfl rfl (R2 (d_sliceTo sl22 (min m.length 39) (by omega) (by omega) rfl) rfl rfl (R1 (x4 hB fi11 rfl) rfl ?_))
 refine A5 ?_
 refine R2 (x4 (c_Num 1 2 (by decide) (by decide) (by decide) (by decide)) fi22 rfl) rfl rfl (RE (xa7 (k:=8) (n:=6) (agg:=true) zr32.1 zr32.2 rfl) trivial trivial ⟨rfl,trivial⟩ ?_)
 refine A6 ?_
 refine RE (xa8 (r:=tS [⟨1,false,tSt (⟨#[]⟩:ByteArray)⟩,⟨1,false,tI (0)⟩,⟨1,false,tI (1)⟩,⟨1,false,(tE (.int .i64 0))⟩,⟨1,false,(tE (.bool false))⟩,⟨6,true,tVa (nV 1 2)⟩]) (ts:=[(0,tSt (⟨#[]⟩:ByteArray)),(1,tI (0)),(2,tI (1)),(5,tVa (nV 1 2))]) bu34 zr34.2 (Bc 0 rfl rfl rfl (Bc 1 rfl rfl rfl (Bc 2 rfl rfl rfl (Bc 5 rfl rfl rfl Le.refl))))) ⟨rfl,rfl,rfl,rfl,trivial⟩ trivial trivial ?_
 refine A1 ?_
 refine RE (xa8 (r:=tS [⟨1,false,tSt (⟨#[97,98,99,100,101,102,103,104,105,106,107,108,109,110,111,112,113,114,115,116,117,118,119,120,121]⟩:ByteArray)⟩,⟨1,false,tI (0)⟩,⟨1,false,tI (1)⟩,⟨1,false,(tE (.int .i64 0))⟩,⟨1,false,(tE (.bool false))⟩,⟨6,true,tVa (nV 1 2)⟩]) (ts:=[(0,tSt (⟨#[97,98,99,100,101,102,103,104,105,106,107,108,109,110,111,112,113,114,115,116,117,118,119,120,121]⟩:ByteArray)),(1,tI (0)),(2,tI (1)),(5,tVa (nV 1 2))]) bu34 zr34.2 (Bc 0 rfl rfl rfl (Bc 1 rfl rfl rfl (Bc 2 rfl rfl rfl (Bc 5 rfl rfl rfl Le.refl))))) ⟨rfl,rfl,rfl,rfl,trivial⟩ trivial trivial ?_
 refine A1 ?_
 refine RE (xa8 (r:=tS [⟨1,false,tSt (⟨#[120]⟩:ByteArray)⟩,⟨1,false,tI (1)⟩,⟨1,false,tI (1)⟩,⟨1,false,(tE (.int .i64 0))⟩,⟨1,false,(tE (.bool false))⟩,⟨6,true,tVa (nV 1 2)⟩]) (ts:=[(0,tSt (⟨#[120]⟩:ByteArray)),(1,tI (1)),(2,tI (1)),(5,tVa (nV 1 2))]) bu34 zr34.2 (Bc 0 rfl rfl rfl (Bc 1 rfl rfl rfl (Bc 2 rfl rfl rfl (Bc 5 rfl rfl rfl Le.refl))))) ⟨rfl,rfl,rfl,rfl,trivial⟩ trivial trivial ?_
 refine A1 ?_
 refine RE (xa8 (r:=tS [⟨1,false,tSt (⟨#[120]⟩:ByteArray)⟩,⟨1,false,tI (-1)⟩,⟨1,false,tI (1)⟩,⟨1,false,(tE (.int .i64 0))⟩,⟨1,false,(tE (.bool false))⟩,⟨6,true,tVa (nV 1 2)⟩]) (ts:=[(0,tSt (⟨#[120]⟩:ByteArray)),(1,tI (-1)),(2,tI (1)),(5,tVa (nV 1 2))]) bu34 zr34.2 (Bc 0 rfl rfl rfl (Bc 1 rfl rfl rfl (Bc 2 rfl rfl rfl (Bc 5 rfl rfl rfl Le.refl))))) ⟨rfl,rfl,rfl,rfl,trivial⟩ trivial trivial ?_
 refine A1 ?_
 refine RE (xa8 (r:=tS [⟨1,false,tSt (⟨#[120]⟩:ByteArray)⟩,⟨1,false,tI (0)⟩,⟨1,false,tI (65537)⟩,⟨1,false,(tE (.int .i64 0))⟩,⟨1,false,(tE (.bool false))⟩,⟨6,true,tVa (nV 1 2)⟩]) (ts:=[(0,tSt (⟨#[120]⟩:ByteArray)),(1,tI (0)),(2,tI (65537)),(5,tVa (nV 1 2))]) bu34 zr34.2 (Bc 0 rfl rfl rfl (Bc 1 rfl rfl rfl (Bc 2 rfl rfl rfl (Bc 5 rfl rfl rfl Le.refl))))) ⟨rfl,rfl,rfl,rfl,trivial⟩ trivial trivial ?_
 refine A1 ?_
 refine RE (xa8 (r:=tS [⟨1,false,tSt (⟨#[120]⟩:ByteArray)⟩,⟨1,false,tI (0)⟩,⟨1,false,tI (1)⟩,⟨1,false,tI (65536)⟩,⟨1,false,(tE (.bool false))⟩,⟨6,true,tVa (nV 1 2)⟩]) (ts:=[(0,tSt (⟨#[120]⟩:ByteArray)),(1,tI (0)),(2,tI (1)),(3,tI (65536)),(5,tVa (nV 1 2))]) bu34 zr34.2 (Bc 0 rfl rfl rfl (Bc 1 rfl rfl rfl (Bc 2 rfl rfl rfl (Bc 3 rfl rfl rfl (Bc 5 rfl rfl rfl Le.refl)))))) ⟨rfl,rfl,rfl,rfl,rfl,trivial⟩ trivial trivial ?_
 refine A1 ?_
 refine RE (xa8 (r:=tS [⟨1,false,tSt (⟨#[120]⟩:ByteArray)⟩,⟨1,false,tI (0)⟩,⟨1,false,tI (1)⟩,⟨1,false,tI (-1)⟩,⟨1,false,(tE (.bool false))⟩,⟨6,true,tVa (nV 1 2)⟩]) (ts:=[(0,tSt (⟨#[120]⟩:ByteArray)),(1,tI (0)),(2,tI (1)),(3,tI (-1)),(5,tVa (nV 1 2))]) bu34 zr34.2 (Bc 0 rfl rfl rfl (Bc 1 rfl rfl rfl (Bc 2 rfl rfl rfl (Bc 3 rfl rfl rfl (Bc 5 rfl rfl rfl Le.refl)))))) ⟨rfl,rfl,rfl,rfl,rfl,trivial⟩ trivial trivial (R3 (xa8 (r:=tS [⟨1,false,tSt (⟨#[120]⟩:ByteArray)⟩,⟨1,false,tI (0)⟩,⟨1,false,tI (1)⟩,⟨1,false,(tE (.int .i64 0))⟩,⟨1,false,(tE (.bool false))⟩,⟨6,true,(tS [⟨1,false,(tE (.int .u8 0))⟩,⟨4,true,(tS [⟨2,true,(tS [⟨1,false,(tE (.bool false))⟩,⟨1,false,(tLm [])⟩])⟩,⟨2,true,(tS [⟨1,false,(tE (.bool false))⟩,⟨1,false,(tLm [])⟩])⟩])⟩,⟨1,false,(tE (.int .i64 0))⟩])⟩]) (ts:=[(0,tSt (⟨#[120]⟩:ByteArray)),(1,tI (0)),(2,tI (1))]) bu34 zr34.2 (Bc 0 rfl rfl rfl (Bc 1 rfl rfl rfl (Bc 2 rfl rfl rfl Le.refl)))) rfl rfl rfl ?_)
 refine A1 ?_
 refine RE (xa8 (r:=tS [⟨1,false,tSt (⟨#[120]⟩:ByteArray)⟩,⟨1,false,tI (0)⟩,⟨1,false,tI (1)⟩,⟨1,false,(tE (.int .i64 0))⟩,⟨1,false,tB true⟩,⟨6,true,tVa (nV 1 2)⟩]) (ts:=[(0,tSt (⟨#[120]⟩:ByteArray)),(1,tI (0)),(2,tI (1)),(4,tB true),(5,tVa (nV 1 2))]) bu34 zr34.2 (Bc 0 rfl rfl rfl (Bc 1 rfl rfl rfl (Bc 2 rfl rfl rfl (Bc 4 rfl rfl rfl (Bc 5 rfl rfl rfl Le.refl)))))) ⟨rfl,rfl,rfl,rfl,rfl,trivial⟩ trivial trivial (RE (xa8 (r:=tS [⟨11,true,tFa (⟨(⟨#[]⟩:ByteArray),0,1,0,false,(nV 1 2)⟩:Fa)⟩,⟨11,true,tFa (⟨(⟨#[97,98,99,100,101,102,103,104,105,106,107,108,109,110,111,112,113,114,115,116,117,118,119,120,121]⟩:ByteArray),0,1,0,false,(nV 1 2)⟩:Fa)⟩,⟨11,true,tFa (⟨(⟨#[120]⟩:ByteArray),1,1,0,false,(nV 1 2)⟩:Fa)⟩,⟨11,true,tFa (⟨(⟨#[120]⟩:ByteArray), -1,1,0,false,(nV 1 2)⟩:Fa)⟩,⟨11,true,tFa (⟨(⟨#[120]⟩:ByteArray),0,65537,0,false,(nV 1 2)⟩:Fa)⟩,⟨11,true,tFa (⟨(⟨#[120]⟩:ByteArray),0,1,65536,false,(nV 1 2)⟩:Fa)⟩,⟨11,true,tFa (⟨(⟨#[120]⟩:ByteArray),0,1, -1,false,(nV 1 2)⟩:Fa)⟩,⟨11,true,tFa (⟨(⟨#[120]⟩:ByteArray),0,1,0,false,An.va0⟩:Fa)⟩,⟨11,true,tFa (⟨(⟨#[120]⟩:ByteArray),0,1,0,true,(nV 1 2)⟩:Fa)⟩]) (ts:=[(0,tFa (⟨(⟨#[]⟩:ByteArray),0,1,0,false,(nV 1 2)⟩:Fa)),(1,tFa (⟨(⟨#[97,98,99,100,101,102,103,104,105,106,107,108,109,110,111,112,113,114,115,116,117,118,119,120,121]⟩:ByteArray),0,1,0,false,(nV 1 2)⟩:Fa)),(2,tFa (⟨(⟨#[120]⟩:ByteArray),1,1,0,false,(nV 1 2)⟩:Fa)),(3,tFa (⟨(⟨#[120]⟩:ByteArray), -1,1,0,false,(nV 1 2)⟩:Fa)),(4,tFa (⟨(⟨#[120]⟩:ByteArray),0,65537,0,false,(nV 1 2)⟩:Fa)),(5,tFa (⟨(⟨#[120]⟩:ByteArray),0,1,65536,false,(nV 1 2)⟩:Fa)),(6,tFa (⟨(⟨#[120]⟩:ByteArray),0,1, -1,false,(nV 1 2)⟩:Fa)),(7,tFa (⟨(⟨#[120]⟩:ByteArray),0,1,0,false,An.va0⟩:Fa)),(8,tFa (⟨(⟨#[120]⟩:ByteArray),0,1,0,true,(nV 1 2)⟩:Fa))]) bu61 zr61.2 (Bc 0 rfl rfl rfl (Bc 1 rfl rfl rfl (Bc 2 rfl rfl rfl (Bc 3 rfl rfl rfl (Bc 4 rfl rfl rfl (Bc 5 rfl rfl rfl (Bc 6 rfl rfl rfl (Bc 7 rfl rfl rfl (Bc 8 rfl rfl rfl Le.refl)))))))))) ⟨rfl,rfl,rfl,rfl,rfl,rfl,rfl,rfl,rfl,trivial⟩ trivial trivial ?_)
 refine A1 ?_
 refine R2 (d_remP (by omega) (by omega)) rfl rfl (R2 (d_indexV (es:=11) (agg:=true) (t:=tS (badF.map fun x=>⟨11,true,tFa x⟩)) (t':=tFa (badF.getD (u%9) fa0)) Tryz.underlying61 ti34 (u%9) (by omega) (by omega) (At.row (l:=badF) fa0 (show u%9 < 9 by omega))) rfl rfl (RE (xa7 (k:=9) (n:=11) (agg:=true) zr34.1 zr34.2 rfl) trivial trivial ⟨rfl,trivial⟩ ?_))
 refine A6 ?_
 refine R1 (x5 Tryz.underlying3 (isS Tryz.underlying5) (wr64 (by omega) (by omega))) rfl ?_
 refine A3 ?_
 refine R2 (d_remP (by omega) (by omega)) rfl rfl ?_
 refine A5 ?_
 refine RE (d_empty (k:=57) Tryz.underlying24 el34 rfl (fun h=>by cases h)) trivial trivial ⟨rfl,trivial⟩ ?_
 refine A2 ?_
 refine R2 (d_sliceTo sl24 k (by omega) (by omega) rfl) rfl rfl (RE (xa9 (k:=57) (k':=61) (f:=tFa) (ys:=(a.take k)) (ts':=rV tFa (a.take k)) Tryz.underlying24 el34 zf34 rfl rfl (fun _=>inferInstance) rfl (by simp;omega) (by simp;omega) (by simp [rV]) (n':=(a.take k).length) (by simp)) ⟨rfl,rfl,trivial⟩ ⟨rfl,trivial⟩ ⟨rfl,trivial⟩ ?_)
 refine A1 ?_
 refine R1 (xc0 (n:=1) (f:=tFa) [(badF.getD (u%9) fa0)] Tryz.underlying24 el34 zf34 rfl (fun _=>inferInstance) rfl rfl rfl) rfl (RE (xa9 (k:=61) (k':=64) (f:=tFa) (ys:=[(badF.getD (u%9) fa0)]) (ts':=rV tFa ((a.take k)++[(badF.getD (u%9) fa0)])) Tryz.underlying24 el34 zf34 rfl rfl (fun _=>inferInstance) xb7 (by simp;omega) (by simp;omega) (by simp [rV]) (n':=(a.take k).length+1) rfl) ⟨rfl,rfl,trivial⟩ ⟨rfl,trivial⟩ ⟨rfl,trivial⟩ ?_)
 refine A2 ?_
 refine R2 (d_sliceFrom sl24 k (by omega) (by omega) rfl) rfl rfl (RE (xa9 (k:=64) (k':=68) (f:=tFa) (ys:=(a.drop k)) (ts':=rV tFa (spF a k u)) Tryz.underlying24 el34 zf34 rfl rfl (fun _=>inferInstance) (n:=(a.take k).length+1) (by simp [rV]) (by simp;omega) (by simp;omega) (by simp [rV,spF]) (n':=(spF a k u).length) (by simp [spF] <;> omega)) ⟨rfl,rfl,trivial⟩ ⟨rfl,trivial⟩ ⟨rfl,trivial⟩ ?_)
 refine A5 ?_
 refine RE (d_empty (k:=69) Tryz.underlying24 el34 rfl (fun h=>by cases h)) trivial trivial ⟨rfl,trivial⟩ ?_
 refine A1 ?_
 refine RE (xa9 (k:=69) (k':=71) (f:=tFa) (ys:=a) (ts':=rV tFa a) Tryz.underlying24 el34 zf34 rfl rfl (fun _=>inferInstance) rfl (by simp;omega) (by simp;omega) (by simp [rV]) (n':=a.length) (by simp)) ⟨rfl,rfl,trivial⟩ ⟨rfl,trivial⟩ ⟨rfl,trivial⟩ ?_
 refine A1 ?_
 refine RE (xa8 (r:=tS [⟨1,false,tSt (⟨#[120]⟩:ByteArray)⟩,⟨1,false,tI 0⟩,⟨1,false,tI 1⟩,⟨1,false,(tE (.int .i64 0))⟩,⟨1,false,(tE (.bool false))⟩,⟨6,true,tVa (nV 1 2)⟩]) (ts:=[(0,tSt (⟨#[120]⟩:ByteArray)),(1,tI 0),(2,tI 1),(5,tVa (nV 1 2))]) bu34 zr34.2 (Bc 0 rfl rfl rfl (Bc 1 rfl rfl rfl (Bc 2 rfl rfl rfl (Bc 5 rfl rfl rfl Le.refl))))) ⟨rfl,rfl,rfl,rfl,trivial⟩ trivial trivial (R2 (x4 (c_Cash 1 2 (by decide) (by decide) (by decide) (by decide)) fi25 rfl) rfl rfl (RE (xa8 (r:=tS [⟨1,false,tSt (⟨#[120]⟩:ByteArray)⟩,⟨1,false,tI 5⟩,⟨1,false,tI 9⟩,⟨1,false,(tE (.int .i64 0))⟩,⟨1,false,(tE (.bool false))⟩,⟨6,true,tVa cV⟩]) (ts:=[(0,tSt (⟨#[120]⟩:ByteArray)),(1,tI 5),(2,tI 9),(5,tVa cV)]) bu34 zr34.2 (Bc 0 rfl rfl rfl (Bc 1 rfl rfl rfl (Bc 2 rfl rfl rfl (Bc 5 rfl rfl rfl Le.refl))))) ⟨rfl,rfl,rfl,rfl,trivial⟩ trivial trivial (R2 (xc0 (n:=2) (f:=tFa) [mxA,mxB] Tryz.underlying24 el34 zf34 rfl (fun _=>inferInstance) rfl rfl rfl) rfl rfl (RE (xa9 (k:=71) (k':=77) (f:=tFa) (ys:=[mxA,mxB]) (ts':=rV tFa (a++[mxA,mxB])) Tryz.underlying24 el34 zf34 rfl rfl (fun _=>inferInstance) xb7 (by simp;omega) (by simp;omega) (by simp [rV]) (n':=(a++[mxA,mxB]).length) (by simp)) ⟨rfl,rfl,trivial⟩ ⟨rfl,trivial⟩ ⟨rfl,trivial⟩ ?_))))
 refine A5 ?_
 refine C_give (t:=11) (k:=68) (f:=tFa) (xs:=(spF a k u)) rfl rfl (fun _ h=>h) (xf2 rfl) rfl (C_give (t:=12) (k:=77) (f:=tFa) (xs:=(a++[mxA,mxB])) rfl rfl (fun _ h=>h) (xf2 rfl) rfl ?_)
 refine A3 ?_
 refine R2 (xc0 (n:=2) (f:=fun l=>tL 11 true tFa l) [(spF a k u),(a++[mxA,mxB])] Tryz.underlying62 el24 zf24 rfl (fun _=>inferInstance) rfl rfl rfl) rfl rfl ?_
 refine A5 ?_
 refine cL (fun (i:Nat)=>i≤2) (fun (i:Nat)=>upd (upd (upd (upd (upd (fun _=>none) 7 (some (.val (tL 11 true tFa a)))) 9 (some (.own (.ptr 9 0)))) 80 (some (.val (tL 1 false (fun l=>tL 11 true tFa l) [(spF a k u),(a++[mxA,mxB])])))) 81 (some (.val (tI 2)))) 82 (some (.val (tI i)))) (fun (i:Nat)=>upd (fun _=>none) 9 (some (⟨34,11,true,[.val (tFa (badF.getD (u%9) fa0))]⟩))) [9] (fun (i:Nat)=>2 - i) (0) (Nat.zero_le _) (hh:=((SubK.consI rfl ImpK.refl) SubK.nil)) ?_
 intro i hI
 refine A6 ?_
 refine x9 rfl (fun h230=> ?_) (fun h230=> ?_)
 ·
  refine A6 ?_
  refine R2 (x7 sl62 (i) (by omega) (gD (l:=[(spF a k u),(a++[mxA,mxB])]) (n:=i) (d:=[]) (by simp;omega))) rfl rfl ?_
  refine A5 ?_
  have z1:([]:List Tst).length=0:=rfl
  have z2:([]:List Sn).length=0:=rfl
  have z3:([]:List Int).length=0:=rfl
  have z4:([]:List ByteArray).length=0:=rfl
  have z5:An.va0.kind=0:=rfl
  have hXi:=hX i (by omega)
  generalize ([(spF a k u),(a++[mxA,mxB])].getD i [])=z at*
  refine A2 ?_
  refine R3 (x4 (c_ViewX hXi.1 hXi.2 kPay 100) fi12 rfl) rfl rfl rfl ?_
  refine A10 ?_
  refine RE (x4 (c_FDiffX hXi.1 hXi.2 kPay 0 100) fi15 rfl) ⟨rfl,rfl,rfl,rfl,trivial⟩ trivial trivial ?_
  refine A10 ?_
  refine RE (x4 (c_FAtX hXi.1 hXi.2 kPay 10 100) fi19 rfl) ⟨rfl,rfl,rfl,rfl,trivial⟩ trivial trivial ?_
  refine A3 ?_
  refine RE (xa7 (k:=19) (n:=6) (agg:=true) zr32.1 zr32.2 rfl) trivial trivial ⟨rfl,trivial⟩ ?_
  refine A9 ?_
  refine RGon (decide_eq_false (by omega)) rfl xb0 rfl ⟨rfl,trivial⟩ trivial trivial (RGon (decide_eq_false (by omega)) rfl d_neq rfl ⟨rfl,rfl,trivial⟩ trivial trivial (R2 (xe6 (decide_eq_false (by omega))) rfl rfl ?_))
  refine A1 ?_
  refine RGon (decide_eq_false (by omega)) rfl xb0 rfl ⟨rfl,trivial⟩ trivial trivial (RGon (decide_eq_false (by omega)) rfl (d_len Tryz.underlying36) rfl ⟨rfl,trivial⟩ trivial trivial (RGon (decide_eq_false (by omega)) rfl xb0 rfl ⟨rfl,trivial⟩ trivial trivial (RGon (decide_eq_false (by omega)) rfl (d_len Tryz.underlying44) rfl ⟨rfl,trivial⟩ trivial trivial (RGon (decide_eq_false (by omega)) rfl (xf5 (wr64 (by omega) (by omega))) rfl ⟨rfl,rfl,trivial⟩ trivial trivial (RGon (decide_eq_false (by omega)) rfl xb0 rfl ⟨rfl,trivial⟩ trivial trivial (RGon (decide_eq_false (by omega)) rfl (x4 (c_KeysX z hXi.1 hXi.2) fi23 rfl) rfl ⟨rfl,trivial⟩ trivial trivial (RGon (decide_eq_false (by omega)) rfl (d_len Tryz.underlying35) rfl ⟨rfl,trivial⟩ trivial trivial ?_)))))))
  refine RGon (decide_eq_false (by omega)) rfl (xf5 (wr64 (by omega) (by omega))) rfl ⟨rfl,rfl,trivial⟩ trivial trivial (RGon (decide_eq_false (by omega)) rfl xb0 rfl ⟨rfl,trivial⟩ trivial trivial (RGon (decide_eq_false (by omega)) rfl (x4 (c_LearnsX hXi.1 hXi.2 kPay) fi14 rfl) rfl ⟨rfl,rfl,trivial⟩ trivial trivial (RGon (decide_eq_false (by omega)) rfl (d_len Tryz.underlying42) rfl ⟨rfl,trivial⟩ trivial trivial (RGon (decide_eq_false (by omega)) rfl (xf5 (wr64 (by omega) (by omega))) rfl ⟨rfl,rfl,trivial⟩ trivial trivial (RGon (decide_eq_false (by omega)) rfl d_neq rfl ⟨rfl,rfl,trivial⟩ trivial trivial (R2 (xe6 (decide_eq_false (by omega))) rfl rfl ?_))))))
  refine A1 ?_
  refine RGon (decide_eq_false (by decide)) rfl xb0 rfl ⟨rfl,trivial⟩ trivial trivial (R2 (xe6 (decide_eq_false (by decide))) rfl rfl ?_)
  refine A6 ?_
  refine RGon (decide_eq_false (by omega)) rfl xb0 rfl ⟨rfl,trivial⟩ trivial trivial (RGon (decide_eq_false (by omega)) rfl (x4 (c_KindX z kPay hXi.1 hXi.2) fi24 rfl) rfl ⟨rfl,rfl,trivial⟩ trivial trivial (RGon (decide_eq_false (by omega)) rfl d_neq rfl ⟨rfl,rfl,trivial⟩ trivial trivial (R2 (xe6 (decide_eq_false (by omega))) rfl rfl ?_)))
  refine A1 ?_
  refine RGon (decide_eq_false (by omega)) rfl xb0 rfl ⟨rfl,trivial⟩ trivial trivial (RGon (decide_eq_false (by omega)) rfl (x4 (c_ValidX hXi.1 hXi.2) fi26 rfl) rfl ⟨rfl,trivial⟩ trivial trivial (R2 (xe6 (decide_eq_false (by omega))) rfl rfl ?_))
  refine A10 ?_
  exact kF (i+1) ⟨(by omega),(by omega)⟩ (hh:=((SubK.consI rfl ImpK.refl) SubK.nil))
 ·
  refine A8 ?_
  refine R1 (x4 (c_RightBad u) fi27 rfl) rfl ?_
  refine A3 ?_
  refine RGon rfl rfl (x4 (c_ValidG hR) fi26 rfl) rfl ⟨rfl,trivial⟩ trivial trivial ?_
  refine A5 ?_
  exact x3 Plain.mk' rfl rfl Le.refl
end An.S
