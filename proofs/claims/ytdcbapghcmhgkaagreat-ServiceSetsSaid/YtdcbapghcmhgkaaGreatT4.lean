/- Part 4 of a proof: S4, Tl2, S5, LibY, LibZ, S6, LibZb, S7, Tl3, S8, S9, S10, S11, N1, Sv, Tv, Tv2, Tv3, LibZe, LibZd, Tw, LibZf, P1, Gs, Tx, Chg, Chg2a, Ty, LibZc, P2, LibZg, P3, P4, V16. -/
import Derived.ProofKit
import Derived.OpenShut
import Derived.Deep.Slices
import Derived.Shelf.SlSortCmp.NoneTotal
import Derived.Shelf.Sort.Plain
import Derived.Shelf.Slices.In.SortNone
import Derived.Shelf.Slices.CompactI
import Derived.Test.YtdcbapghcmhgkaaGreatT3
/- Layer 5: values and timelines. -/
namespace An.S
open Go Go.Proofs An
set_option maxHeartbeats 2000000
instance ti34:TyI Tryz.prog 34 8 true:=⟨by kernel_rfl,by kernel_rfl⟩
instance fi9:FnI Tryz.prog 9:=⟨_,Tryz.func9,by kernel_rfl,rfl⟩
instance fi12:FnI Tryz.prog 12:=⟨_,Tryz.func12,by kernel_rfl,rfl⟩
instance fi206:FnI Tryz.prog 206:=⟨_,Tryz.func206,by kernel_rfl,rfl⟩
theorem zr32:(Tryz.prog.info? 32).bind (·.zero)=some (.agg #[.int .u8 0,.bool false,.slice none 0 0,.bool false,.slice none 0 0,.int .i64 0])∧ ∀F w,(tS [⟨1,false,(tE (.int .u8 0))⟩,⟨4,true,(tS [⟨2,true,(tS [⟨1,false,(tE (.bool false))⟩,⟨1,false,(tLm [])⟩])⟩,⟨2,true,(tS [⟨1,false,(tE (.bool false))⟩,⟨1,false,(tLm [])⟩])⟩])⟩,⟨1,false,(tE (.int .i64 0))⟩]).p F w (.agg #[.int .u8 0,.bool false,.slice none 0 0,.bool false,.slice none 0 0,.int .i64 0]):=⟨by kernel_rfl,fun _ _=>⟨_,rfl,rfl,⟨fun _=>rfl,rfl⟩,⟨fun h=>Bool.noConfusion h,⟨_,rfl,rfl,⟨fun h=>Bool.noConfusion h,⟨_,rfl,rfl,⟨fun _=>rfl,rfl⟩,⟨fun _=>rfl,⟨none,0,rfl,Nat.le_refl _,by decide,.inl rfl⟩⟩,trivial⟩⟩,⟨fun h=>Bool.noConfusion h,⟨_,rfl,rfl,⟨fun _=>rfl,rfl⟩,⟨fun _=>rfl,⟨none,0,rfl,Nat.le_refl _,by decide,.inl rfl⟩⟩,trivial⟩⟩,trivial⟩⟩,⟨fun _=>rfl,rfl⟩,trivial⟩⟩
theorem zr34:(Tryz.prog.info? 34).bind (·.zero)=some (.agg #[.int .i64 0,.int .i64 0,.int .u8 0,.bool false,.slice none 0 0,.bool false,.slice none 0 0,.int .i64 0])∧ ∀F w,(tS [⟨1,false,(tE (.int .i64 0))⟩,⟨1,false,(tE (.int .i64 0))⟩,⟨6,true,(tS [⟨1,false,(tE (.int .u8 0))⟩,⟨4,true,(tS [⟨2,true,(tS [⟨1,false,(tE (.bool false))⟩,⟨1,false,(tLm [])⟩])⟩,⟨2,true,(tS [⟨1,false,(tE (.bool false))⟩,⟨1,false,(tLm [])⟩])⟩])⟩,⟨1,false,(tE (.int .i64 0))⟩])⟩]).p F w (.agg #[.int .i64 0,.int .i64 0,.int .u8 0,.bool false,.slice none 0 0,.bool false,.slice none 0 0,.int .i64 0]):=⟨by kernel_rfl,fun _ _=>⟨_,rfl,rfl,⟨fun _=>rfl,rfl⟩,⟨fun _=>rfl,rfl⟩,⟨fun h=>Bool.noConfusion h,⟨_,rfl,rfl,⟨fun _=>rfl,rfl⟩,⟨fun h=>Bool.noConfusion h,⟨_,rfl,rfl,⟨fun h=>Bool.noConfusion h,⟨_,rfl,rfl,⟨fun _=>rfl,rfl⟩,⟨fun _=>rfl,⟨none,0,rfl,Nat.le_refl _,by decide,.inl rfl⟩⟩,trivial⟩⟩,⟨fun h=>Bool.noConfusion h,⟨_,rfl,rfl,⟨fun _=>rfl,rfl⟩,⟨fun _=>rfl,⟨none,0,rfl,Nat.le_refl _,by decide,.inl rfl⟩⟩,trivial⟩⟩,trivial⟩⟩,⟨fun _=>rfl,rfl⟩,trivial⟩⟩,trivial⟩⟩
theorem bu32:BuI Tryz.prog 32 (fun i=>[(0,1),(1,4),(5,1)][i]?) (.agg #[.int .u8 0,.bool false,.slice none 0 0,.bool false,.slice none 0 0,.int .i64 0]):=BuI.struct Tryz.underlying32 (by kernel_rfl) (by kernel_rfl)
theorem bu34:BuI Tryz.prog 34 (fun i=>[(0,1),(1,1),(2,6)][i]?) (.agg #[.int .i64 0,.int .i64 0,.int .u8 0,.bool false,.slice none 0 0,.bool false,.slice none 0 0,.int .i64 0]):=BuI.struct Tryz.underlying34 (by kernel_rfl) (by kernel_rfl)
theorem c_Num (n d:Int) (h1: -9223372036854775808≤n) (h2:n≤9223372036854775807) (h3: -9223372036854775808≤d) (h4:d≤9223372036854775807):
  Ct Tryz.prog 9 [tI n,tI d] (tVa ⟨2,fr (kfr n d),0⟩):=by
 refine Ct.intro Tryz.func9 rfl Tryz.ntmps9 rfl ?_
 intro w F
 refine A2 ?_
 refine RE (xa6 (k:=4) (n:=6) (agg:=true) zr32.1 zr32.2 rfl) trivial trivial ⟨rfl,trivial⟩ ?_
 refine A6 ?_
 refine R2 (x3 (c_KFrac n d h1 h2 h3 h4) fi12 rfl) rfl rfl (R2 (xb0 (r:=tS [⟨1,false,tE (.int .u8 2)⟩,⟨4,true,tFr (fr (kfr n d))⟩,⟨1,false,(tE (.int .i64 0))⟩]) (ts:=[(0,tE (.int .u8 2)),(1,tFr (fr (kfr n d)))]) bu32 zr32.2 ⟨_,rfl⟩ rfl ⟨_,_,_,_,rfl,Up.f (fs:=[⟨1,false,(tE (.int .u8 0))⟩,⟨4,true,(tS [⟨2,true,(tS [⟨1,false,(tE (.bool false))⟩,⟨1,false,(tLm [])⟩])⟩,⟨2,true,(tS [⟨1,false,(tE (.bool false))⟩,⟨1,false,(tLm [])⟩])⟩])⟩,⟨1,false,(tE (.int .i64 0))⟩]) (f:=⟨1,false,(tE (.int .u8 0))⟩) (fs':=[⟨1,false,tE (.int .u8 2)⟩,⟨4,true,(tS [⟨2,true,(tS [⟨1,false,(tE (.bool false))⟩,⟨1,false,(tLm [])⟩])⟩,⟨2,true,(tS [⟨1,false,(tE (.bool false))⟩,⟨1,false,(tLm [])⟩])⟩])⟩,⟨1,false,(tE (.int .i64 0))⟩]) 0 rfl rfl rfl,inferInstance,⟨_,_,_,_,rfl,Up.f (fs:=[⟨1,false,tE (.int .u8 2)⟩,⟨4,true,(tS [⟨2,true,(tS [⟨1,false,(tE (.bool false))⟩,⟨1,false,(tLm [])⟩])⟩,⟨2,true,(tS [⟨1,false,(tE (.bool false))⟩,⟨1,false,(tLm [])⟩])⟩])⟩,⟨1,false,(tE (.int .i64 0))⟩]) (f:=⟨4,true,(tS [⟨2,true,(tS [⟨1,false,(tE (.bool false))⟩,⟨1,false,(tLm [])⟩])⟩,⟨2,true,(tS [⟨1,false,(tE (.bool false))⟩,⟨1,false,(tLm [])⟩])⟩])⟩) (fs':=[⟨1,false,tE (.int .u8 2)⟩,⟨4,true,tFr (fr (kfr n d))⟩,⟨1,false,(tE (.int .i64 0))⟩]) 1 rfl rfl rfl,inferInstance,Le.refl⟩⟩) rfl rfl ?_)
 refine A4 ?_
 exact xd5 Plain.mk' rfl ⟨_,_,_,_,_,rfl,rfl,ti32,(Le.of rfl)⟩
theorem c_step08 (a b n d:Int) (h1: -9223372036854775808≤n) (h2:n≤9223372036854775807) (h3: -9223372036854775808≤d) (h4:d≤9223372036854775807):
  Ct Tryz.prog 10 [tI a,tI b,tI n,tI d] (tTs ⟨a,b,⟨2,fr (kfr n d),0⟩⟩):=by
 refine Ct.intro Tryz.func10 rfl Tryz.ntmps10 rfl ?_
 intro w F
 refine A2 ?_
 refine RE (xa6 (k:=8) (n:=8) (agg:=true) zr34.1 zr34.2 rfl) trivial trivial ⟨rfl,trivial⟩ ?_
 refine A8 ?_
 refine R2 (x3 (c_Num n d h1 h2 h3 h4) fi9 rfl) rfl rfl (R3 (xb0 (r:=tS [⟨1,false,tI a⟩,⟨1,false,tI b⟩,⟨6,true,tVa ⟨2,fr (kfr n d),0⟩⟩]) (ts:=[(0,tI a),(1,tI b),(2,tVa ⟨2,fr (kfr n d),0⟩)]) bu34 zr34.2 ⟨_,rfl⟩ rfl ⟨_,_,_,_,rfl,Up.f (fs:=[⟨1,false,(tE (.int .i64 0))⟩,⟨1,false,(tE (.int .i64 0))⟩,⟨6,true,(tS [⟨1,false,(tE (.int .u8 0))⟩,⟨4,true,(tS [⟨2,true,(tS [⟨1,false,(tE (.bool false))⟩,⟨1,false,(tLm [])⟩])⟩,⟨2,true,(tS [⟨1,false,(tE (.bool false))⟩,⟨1,false,(tLm [])⟩])⟩])⟩,⟨1,false,(tE (.int .i64 0))⟩])⟩]) (f:=⟨1,false,(tE (.int .i64 0))⟩) (fs':=[⟨1,false,tI a⟩,⟨1,false,(tE (.int .i64 0))⟩,⟨6,true,(tS [⟨1,false,(tE (.int .u8 0))⟩,⟨4,true,(tS [⟨2,true,(tS [⟨1,false,(tE (.bool false))⟩,⟨1,false,(tLm [])⟩])⟩,⟨2,true,(tS [⟨1,false,(tE (.bool false))⟩,⟨1,false,(tLm [])⟩])⟩])⟩,⟨1,false,(tE (.int .i64 0))⟩])⟩]) 0 rfl rfl rfl,inferInstance,⟨_,_,_,_,rfl,Up.f (fs:=[⟨1,false,tI a⟩,⟨1,false,(tE (.int .i64 0))⟩,⟨6,true,(tS [⟨1,false,(tE (.int .u8 0))⟩,⟨4,true,(tS [⟨2,true,(tS [⟨1,false,(tE (.bool false))⟩,⟨1,false,(tLm [])⟩])⟩,⟨2,true,(tS [⟨1,false,(tE (.bool false))⟩,⟨1,false,(tLm [])⟩])⟩])⟩,⟨1,false,(tE (.int .i64 0))⟩])⟩]) (f:=⟨1,false,(tE (.int .i64 0))⟩) (fs':=[⟨1,false,tI a⟩,⟨1,false,tI b⟩,⟨6,true,(tS [⟨1,false,(tE (.int .u8 0))⟩,⟨4,true,(tS [⟨2,true,(tS [⟨1,false,(tE (.bool false))⟩,⟨1,false,(tLm [])⟩])⟩,⟨2,true,(tS [⟨1,false,(tE (.bool false))⟩,⟨1,false,(tLm [])⟩])⟩])⟩,⟨1,false,(tE (.int .i64 0))⟩])⟩]) 1 rfl rfl rfl,inferInstance,⟨_,_,_,_,rfl,Up.f (fs:=[⟨1,false,tI a⟩,⟨1,false,tI b⟩,⟨6,true,(tS [⟨1,false,(tE (.int .u8 0))⟩,⟨4,true,(tS [⟨2,true,(tS [⟨1,false,(tE (.bool false))⟩,⟨1,false,(tLm [])⟩])⟩,⟨2,true,(tS [⟨1,false,(tE (.bool false))⟩,⟨1,false,(tLm [])⟩])⟩])⟩,⟨1,false,(tE (.int .i64 0))⟩])⟩]) (f:=⟨6,true,(tS [⟨1,false,(tE (.int .u8 0))⟩,⟨4,true,(tS [⟨2,true,(tS [⟨1,false,(tE (.bool false))⟩,⟨1,false,(tLm [])⟩])⟩,⟨2,true,(tS [⟨1,false,(tE (.bool false))⟩,⟨1,false,(tLm [])⟩])⟩])⟩,⟨1,false,(tE (.int .i64 0))⟩])⟩) (fs':=[⟨1,false,tI a⟩,⟨1,false,tI b⟩,⟨6,true,tVa ⟨2,fr (kfr n d),0⟩⟩]) 2 rfl rfl rfl,inferInstance,Le.refl⟩⟩⟩) rfl rfl rfl ?_)
 refine A4 ?_
 exact xd5 Plain.mk' rfl ⟨_,_,_,_,_,rfl,rfl,ti34,Le.refl⟩
theorem c_TSame (x y:Va):
  Ct Tryz.prog 142 [tVa x,tVa y] (tB (decide (x=y))):=by
 refine Ct.intro Tryz.func142 rfl Tryz.ntmps142 rfl ?_
 intro w F
 refine A9 ?_
 refine A6 ?_
 refine RGcaseD (t:=10) rfl (fun h34=> ?_) (fun h34=> ?_)
 ·
  refine A7 ?_
  refine RGcaseD (t:=17) rfl (fun h34_2=> ?_) (fun h34_2=> ?_)
  ·
   refine A4 ?_
   refine RGon (decide_eq_true h34_2) rfl (x3 (c_FSame _ _) fi206 rfl) rfl ⟨rfl,rfl,trivial⟩ trivial trivial ?_
   refine A5 ?_
   exact x4 Plain.mk' rfl rfl (Le.bool (by obtain ⟨a,b,e⟩:=x;obtain ⟨c,d,f⟩:=y;simp only [Va.mk.injEq] at*;simp_all <;> omega))
  ·
   refine A9 ?_
   refine A1 ?_
   exact x4 Plain.mk' rfl rfl (Le.bool (by obtain ⟨a,b,e⟩:=x;obtain ⟨c,d,f⟩:=y;simp only [Va.mk.injEq] at*;simp_all <;> omega))
 ·
  refine A9 ?_
  refine A8 ?_
  exact x4 Plain.mk' rfl rfl (Le.bool (by obtain ⟨a,b,e⟩:=x;obtain ⟨c,d,f⟩:=y;simp only [Va.mk.injEq] at*;simp_all <;> omega))
theorem c_isPart (a b:Int):
  Ct Tryz.prog 186 [tI a,tI b] (tB (Sn.ok ⟨a,b⟩)):=by
 refine Ct.intro Tryz.func186 rfl Tryz.ntmps186 rfl ?_
 intro w F
 refine A9 ?_
 refine A1 ?_
 refine RGcaseD (t:=7) rfl (fun h56=> ?_) (fun h56=> ?_)
 ·
  refine A5 ?_
  refine RGcaseD (t:=12) rfl (fun h56_2=> ?_) (fun h56_2=> ?_)
  ·
   refine A7 ?_
   exact x4 Plain.mk' rfl rfl (Le.bool (by simp [Sn.ok, *]))
  ·
   refine A7 ?_
   exact x4 Plain.mk' rfl rfl (Le.bool (by simp [Sn.ok, *]))
 ·
  refine A9 ?_
  refine A3 ?_
  exact x4 Plain.mk' rfl rfl (Le.bool (by simp [Sn.ok, *]))
theorem upN (v:Va):Up (tVa v) (1+(0+1)) 1 false (tLm v.f.n.l) (tVa v):=
  Up.t (t1:=tFr v.f) (t1':=tFr v.f) (At.g 1 rfl rfl) (Up.f (f:=⟨4,true,tFr v.f⟩) 1 rfl rfl rfl) (Up.t (t1:=tWh v.f.n) (t1':=tWh v.f.n) (At.g 0 rfl rfl) (Up.f (f:=⟨2,true,tWh v.f.n⟩) 0 rfl rfl rfl) (Up.f (f:=⟨1,false,tLm v.f.n.l⟩) 1 rfl rfl rfl))
theorem upD (v:Va):Up (tVa v) (1+(2+1)) 1 false (tLm v.f.d.l) (tVa v):=
  Up.t (t1:=tFr v.f) (t1':=tFr v.f) (At.g 1 rfl rfl) (Up.f (f:=⟨4,true,tFr v.f⟩) 1 rfl rfl rfl) (Up.t (t1:=tWh v.f.d) (t1':=tWh v.f.d) (At.g 1 rfl rfl) (Up.f (f:=⟨2,true,tWh v.f.d⟩) 1 rfl rfl rfl) (Up.f (f:=⟨1,false,tLm v.f.d.l⟩) 1 rfl rfl rfl))
theorem c_copied (v:Va) (h1:v.f.n.l.length≤1000000) (h2:v.f.d.l.length≤1000000):
  Ct Tryz.prog 218 [tVa v] (tVa v):=by
 refine Ct.intro Tryz.func218 rfl Tryz.ntmps218 rfl ?_
 intro w F
 refine A3 ?_
 refine RE (xa6 (k:=2) (n:=6) (agg:=true) zr32.1 zr32.2 rfl) trivial trivial ⟨rfl,trivial⟩ ?_
 refine A7 ?_
 refine xg1 (0) ti26 rfl rfl rfl (At.t (At.g 1 rfl rfl) (At.t (At.g 0 rfl rfl) (At.g 1 rfl rfl))) rfl (R1 (x3 (c_clone16V _ h1) fi120 rfl) rfl ?_)
 refine A3 ?_
 refine RE (d_storeF (k:=1) (T0:=32) (es:=6) (ts:=[.val (tVa v)]) (0) ti26 rfl (upN v) rfl rfl) ⟨rfl,rfl,trivial⟩ ⟨rfl,trivial⟩ trivial ?_
 refine A7 ?_
 refine xg1 (0) ti26 rfl rfl rfl (At.t (At.g 1 rfl rfl) (At.t (At.g 1 rfl rfl) (At.g 1 rfl rfl))) rfl (R1 (x3 (c_clone16V _ h2) fi120 rfl) rfl ?_)
 refine A3 ?_
 refine RE (d_storeF (k:=1) (T0:=32) (es:=6) (ts:=[.val (tVa v)]) (0) ti26 rfl (upD v) rfl rfl) ⟨rfl,rfl,trivial⟩ ⟨rfl,trivial⟩ trivial ?_
 refine A9 ?_
 exact xd5 Plain.mk' rfl ⟨_,_,_,_,_,rfl,rfl,ti32,Le.refl⟩
theorem va23 {v:Va} {b:Bool} (h:(v.kind:Int)=2∨(v.kind:Int)=3) (hb:b=(decide (v.i=0) && v.f.valid)):b=v.valid:=by
  rw [Va.valid,if_pos (by omega)];exact hb
theorem va1 {v:Va} {b:Bool} (h:(v.kind:Int)=1) (hb:b=(decide (v.f=fr0) && decide (0≤v.i) && decide (v.i≤1))):b=v.valid:=by
  rw [Va.valid,if_neg (by omega),if_pos (by omega)];exact hb
theorem va4 {v:Va} {b:Bool} (h:(v.kind:Int)=4) (hb:b=(decide (v.f=fr0) && decide (0≤v.i) && decide (v.i < 65536))):b=v.valid:=by
  rw [Va.valid,if_neg (by omega),if_neg (by omega),if_pos (by omega)];exact hb
theorem va56 {v:Va} {b:Bool} (h:(v.kind:Int)=5∨(v.kind:Int)=6) (hb:b=(decide (v.f=fr0) && decide (-1048576≤v.i) && decide (v.i≤1048576))):b=v.valid:=by
  rw [Va.valid,if_neg (by omega),if_neg (by omega),if_neg (by omega),if_pos (by omega)];exact hb
theorem va0 {v:Va} (h1: ¬((v.kind:Int)=2∨(v.kind:Int)=3)) (h2: ¬(v.kind:Int)=1) (h3: ¬(v.kind:Int)=4) (h4: ¬((v.kind:Int)=5∨(v.kind:Int)=6)):false=v.valid:=by
  rw [Va.valid,if_neg (by omega),if_neg (by omega),if_neg (by omega),if_neg (by omega)]
theorem c_TValid (v:Va) (hD:v.f.dig):
  Ct Tryz.prog 144 [tVa v] (tB v.valid):=by
 refine Ct.intro Tryz.func144 rfl Tryz.ntmps144 rfl ?_
 intro w F
 refine A9 ?_
 refine A9 ?_
 refine A3 ?_
 refine x9 rfl (fun h20=> ?_) (fun h20=> ?_)
 ·
  refine A2 ?_
  refine x9 rfl (fun h20_2=> ?_) (fun h20_2=> ?_)
  ·
   refine A6 ?_
   refine RGcaseD (t:=11) rfl (fun h21=> ?_) (fun h21=> ?_)
   ·
    refine A2 ?_
    refine RGon (decide_eq_true h21) rfl (x3 (c_FValid _ hD.1 hD.2) fi60 rfl) rfl ⟨rfl,trivial⟩ trivial trivial ?_
    refine A7 ?_
    exact x4 Plain.mk' rfl rfl (Le.bool (va23 (by omega) (by first | (simp [*];done) | simp [*])))
   ·
    refine A9 ?_
    refine A1 ?_
    exact x4 Plain.mk' rfl rfl (Le.bool (va23 (by omega) (by first | (simp [*];done) | simp [*])))
  ·
   refine A6 ?_
   refine x9 rfl (fun h22=> ?_) (fun h22=> ?_)
   ·
    refine A4 ?_
    refine R0 (xb0 (r:=tS [⟨2,true,(tS [⟨1,false,(tE (.bool false))⟩,⟨1,false,(tLm [])⟩])⟩,⟨2,true,(tS [⟨1,false,(tE (.bool false))⟩,⟨1,false,(tLm [])⟩])⟩]) (ts:=[]) bu30 zr30.2 ⟨_,rfl⟩ rfl Le.refl) (R2 (x3 (c_FSame _ fr0) fi206 rfl) rfl rfl ?_)
    refine A1 ?_
    refine RGcaseD (t:=22) rfl (fun h23=> ?_) (fun h23=> ?_)
    ·
     refine A5 ?_
     refine RGcaseD (t:=27) rfl (fun h23_2=> ?_) (fun h23_2=> ?_)
     ·
      refine A9 ?_
      refine A1 ?_
      exact x4 Plain.mk' rfl rfl (Le.bool (va1 (by omega) (by simp [*])))
     ·
      refine A9 ?_
      refine A1 ?_
      exact x4 Plain.mk' rfl rfl (Le.bool (va1 (by omega) (by simp [*])))
    ·
     refine A9 ?_
     refine A6 ?_
     exact x4 Plain.mk' rfl rfl (Le.bool (va1 (by omega) (by simp [*])))
   ·
    refine A6 ?_
    refine x9 rfl (fun h24=> ?_) (fun h24=> ?_)
    ·
     refine A4 ?_
     refine R0 (xb0 (r:=tS [⟨2,true,(tS [⟨1,false,(tE (.bool false))⟩,⟨1,false,(tLm [])⟩])⟩,⟨2,true,(tS [⟨1,false,(tE (.bool false))⟩,⟨1,false,(tLm [])⟩])⟩]) (ts:=[]) bu30 zr30.2 ⟨_,rfl⟩ rfl Le.refl) (R2 (x3 (c_FSame _ fr0) fi206 rfl) rfl rfl ?_)
     refine A1 ?_
     refine RGcaseD (t:=38) rfl (fun h25=> ?_) (fun h25=> ?_)
     ·
      refine A5 ?_
      refine RGcaseD (t:=43) rfl (fun h25_2=> ?_) (fun h25_2=> ?_)
      ·
       refine A9 ?_
       refine A1 ?_
       exact x4 Plain.mk' rfl rfl (Le.bool (va4 (by omega) (by simp [*])))
      ·
       refine A9 ?_
       refine A1 ?_
       exact x4 Plain.mk' rfl rfl (Le.bool (va4 (by omega) (by simp [*])))
     ·
      refine A9 ?_
      refine A6 ?_
      exact x4 Plain.mk' rfl rfl (Le.bool (va4 (by omega) (by simp [*])))
    ·
     refine A7 ?_
     refine x9 rfl (fun h26=> ?_) (fun h26=> ?_)
     ·
      refine A2 ?_
      refine x9 rfl (fun h26_2=> ?_) (fun h26_2=> ?_)
      ·
       refine A4 ?_
       refine R0 (xb0 (r:=tS [⟨2,true,(tS [⟨1,false,(tE (.bool false))⟩,⟨1,false,(tLm [])⟩])⟩,⟨2,true,(tS [⟨1,false,(tE (.bool false))⟩,⟨1,false,(tLm [])⟩])⟩]) (ts:=[]) bu30 zr30.2 ⟨_,rfl⟩ rfl Le.refl) (R2 (x3 (c_FSame _ fr0) fi206 rfl) rfl rfl ?_)
       refine A1 ?_
       refine RGcaseD (t:=55) rfl (fun h27=> ?_) (fun h27=> ?_)
       ·
        refine A5 ?_
        refine RGcaseD (t:=60) rfl (fun h27_2=> ?_) (fun h27_2=> ?_)
        ·
         refine A9 ?_
         refine A1 ?_
         exact x4 Plain.mk' rfl rfl (Le.bool (va56 (by omega) (by simp [*])))
        ·
         refine A9 ?_
         refine A1 ?_
         exact x4 Plain.mk' rfl rfl (Le.bool (va56 (by omega) (by simp [*])))
       ·
        refine A9 ?_
        refine A6 ?_
        exact x4 Plain.mk' rfl rfl (Le.bool (va56 (by omega) (by simp [*])))
      ·
       refine A9 ?_
       exact x4 Plain.mk' rfl rfl (Le.bool (va0 (by omega) (by omega) (by omega) (by omega)))
     ·
      refine A5 ?_
      refine x9 rfl (fun h26_2=> ?_) (fun h26_2=> ?_)
      ·
       refine A4 ?_
       refine R0 (xb0 (r:=tS [⟨2,true,(tS [⟨1,false,(tE (.bool false))⟩,⟨1,false,(tLm [])⟩])⟩,⟨2,true,(tS [⟨1,false,(tE (.bool false))⟩,⟨1,false,(tLm [])⟩])⟩]) (ts:=[]) bu30 zr30.2 ⟨_,rfl⟩ rfl Le.refl) (R2 (x3 (c_FSame _ fr0) fi206 rfl) rfl rfl ?_)
       refine A1 ?_
       refine RGcaseD (t:=55) rfl (fun h27=> ?_) (fun h27=> ?_)
       ·
        refine A5 ?_
        refine RGcaseD (t:=60) rfl (fun h27_2=> ?_) (fun h27_2=> ?_)
        ·
         refine A9 ?_
         refine A1 ?_
         exact x4 Plain.mk' rfl rfl (Le.bool (va56 (by omega) (by simp [*])))
        ·
         refine A9 ?_
         refine A1 ?_
         exact x4 Plain.mk' rfl rfl (Le.bool (va56 (by omega) (by simp [*])))
       ·
        refine A9 ?_
        refine A6 ?_
        exact x4 Plain.mk' rfl rfl (Le.bool (va56 (by omega) (by simp [*])))
      ·
       refine A9 ?_
       exact x4 Plain.mk' rfl rfl (Le.bool (va0 (by omega) (by omega) (by omega) (by omega)))
 ·
  refine A5 ?_
  refine x9 rfl (fun h20_2=> ?_) (fun h20_2=> ?_)
  ·
   refine A6 ?_
   refine RGcaseD (t:=11) rfl (fun h21=> ?_) (fun h21=> ?_)
   ·
    refine A2 ?_
    refine RGon (decide_eq_true h21) rfl (x3 (c_FValid _ hD.1 hD.2) fi60 rfl) rfl ⟨rfl,trivial⟩ trivial trivial ?_
    refine A7 ?_
    exact x4 Plain.mk' rfl rfl (Le.bool (va23 (by omega) (by first | (simp [*];done) | simp [*])))
   ·
    refine A9 ?_
    refine A1 ?_
    exact x4 Plain.mk' rfl rfl (Le.bool (va23 (by omega) (by first | (simp [*];done) | simp [*])))
  ·
   refine A6 ?_
   refine x9 rfl (fun h22=> ?_) (fun h22=> ?_)
   ·
    refine A4 ?_
    refine R0 (xb0 (r:=tS [⟨2,true,(tS [⟨1,false,(tE (.bool false))⟩,⟨1,false,(tLm [])⟩])⟩,⟨2,true,(tS [⟨1,false,(tE (.bool false))⟩,⟨1,false,(tLm [])⟩])⟩]) (ts:=[]) bu30 zr30.2 ⟨_,rfl⟩ rfl Le.refl) (R2 (x3 (c_FSame _ fr0) fi206 rfl) rfl rfl ?_)
    refine A1 ?_
    refine RGcaseD (t:=22) rfl (fun h23=> ?_) (fun h23=> ?_)
    ·
     refine A5 ?_
     refine RGcaseD (t:=27) rfl (fun h23_2=> ?_) (fun h23_2=> ?_)
     ·
      refine A9 ?_
      refine A1 ?_
      exact x4 Plain.mk' rfl rfl (Le.bool (va1 (by omega) (by simp [*])))
     ·
      refine A9 ?_
      refine A1 ?_
      exact x4 Plain.mk' rfl rfl (Le.bool (va1 (by omega) (by simp [*])))
    ·
     refine A9 ?_
     refine A6 ?_
     exact x4 Plain.mk' rfl rfl (Le.bool (va1 (by omega) (by simp [*])))
   ·
    refine A6 ?_
    refine x9 rfl (fun h24=> ?_) (fun h24=> ?_)
    ·
     refine A4 ?_
     refine R0 (xb0 (r:=tS [⟨2,true,(tS [⟨1,false,(tE (.bool false))⟩,⟨1,false,(tLm [])⟩])⟩,⟨2,true,(tS [⟨1,false,(tE (.bool false))⟩,⟨1,false,(tLm [])⟩])⟩]) (ts:=[]) bu30 zr30.2 ⟨_,rfl⟩ rfl Le.refl) (R2 (x3 (c_FSame _ fr0) fi206 rfl) rfl rfl ?_)
     refine A1 ?_
     refine RGcaseD (t:=38) rfl (fun h25=> ?_) (fun h25=> ?_)
     ·
      refine A5 ?_
      refine RGcaseD (t:=43) rfl (fun h25_2=> ?_) (fun h25_2=> ?_)
      ·
       refine A9 ?_
       refine A1 ?_
       exact x4 Plain.mk' rfl rfl (Le.bool (va4 (by omega) (by simp [*])))
      ·
       refine A9 ?_
       refine A1 ?_
       exact x4 Plain.mk' rfl rfl (Le.bool (va4 (by omega) (by simp [*])))
     ·
      refine A9 ?_
      refine A6 ?_
      exact x4 Plain.mk' rfl rfl (Le.bool (va4 (by omega) (by simp [*])))
    ·
     refine A7 ?_
     refine x9 rfl (fun h26=> ?_) (fun h26=> ?_)
     ·
      refine A2 ?_
      refine x9 rfl (fun h26_2=> ?_) (fun h26_2=> ?_)
      ·
       refine A4 ?_
       refine R0 (xb0 (r:=tS [⟨2,true,(tS [⟨1,false,(tE (.bool false))⟩,⟨1,false,(tLm [])⟩])⟩,⟨2,true,(tS [⟨1,false,(tE (.bool false))⟩,⟨1,false,(tLm [])⟩])⟩]) (ts:=[]) bu30 zr30.2 ⟨_,rfl⟩ rfl Le.refl) (R2 (x3 (c_FSame _ fr0) fi206 rfl) rfl rfl ?_)
       refine A1 ?_
       refine RGcaseD (t:=55) rfl (fun h27=> ?_) (fun h27=> ?_)
       ·
        refine A5 ?_
        refine RGcaseD (t:=60) rfl (fun h27_2=> ?_) (fun h27_2=> ?_)
        ·
         refine A9 ?_
         refine A1 ?_
         exact x4 Plain.mk' rfl rfl (Le.bool (va56 (by omega) (by simp [*])))
        ·
         refine A9 ?_
         refine A1 ?_
         exact x4 Plain.mk' rfl rfl (Le.bool (va56 (by omega) (by simp [*])))
       ·
        refine A9 ?_
        refine A6 ?_
        exact x4 Plain.mk' rfl rfl (Le.bool (va56 (by omega) (by simp [*])))
      ·
       refine A9 ?_
       exact x4 Plain.mk' rfl rfl (Le.bool (va0 (by omega) (by omega) (by omega) (by omega)))
     ·
      refine A5 ?_
      refine x9 rfl (fun h26_2=> ?_) (fun h26_2=> ?_)
      ·
       refine A4 ?_
       refine R0 (xb0 (r:=tS [⟨2,true,(tS [⟨1,false,(tE (.bool false))⟩,⟨1,false,(tLm [])⟩])⟩,⟨2,true,(tS [⟨1,false,(tE (.bool false))⟩,⟨1,false,(tLm [])⟩])⟩]) (ts:=[]) bu30 zr30.2 ⟨_,rfl⟩ rfl Le.refl) (R2 (x3 (c_FSame _ fr0) fi206 rfl) rfl rfl ?_)
       refine A1 ?_
       refine RGcaseD (t:=55) rfl (fun h27=> ?_) (fun h27=> ?_)
       ·
        refine A5 ?_
        refine RGcaseD (t:=60) rfl (fun h27_2=> ?_) (fun h27_2=> ?_)
        ·
         refine A9 ?_
         refine A1 ?_
         exact x4 Plain.mk' rfl rfl (Le.bool (va56 (by omega) (by simp [*])))
        ·
         refine A9 ?_
         refine A1 ?_
         exact x4 Plain.mk' rfl rfl (Le.bool (va56 (by omega) (by simp [*])))
       ·
        refine A9 ?_
        refine A6 ?_
        exact x4 Plain.mk' rfl rfl (Le.bool (va56 (by omega) (by simp [*])))
      ·
       refine A9 ?_
       exact x4 Plain.mk' rfl rfl (Le.bool (va0 (by omega) (by omega) (by omega) (by omega)))
end An.S

/- Layer 5: timelines are checked; the first step that fits. Plain data. -/
namespace An
open Go
theorem ranges_stop {n i:Nat} {f:Nat→Bool} (hi:i < n) (h:f i=false):(List.range n).all f=false:=by
  rw [List.all_eq_false]
  exact ⟨i,List.mem_range.2 hi,by simp [h]⟩
theorem xj0 {i:Nat} {f:Nat→Bool}:(List.range (i+1)).all f=((List.range i).all f && f i):=by
  rw [List.range_succ,List.all_append];simp
theorem tOk_iff {l:List Tst} {i:Nat}:tOk l i=true↔0≤(l.getD i tst0).lo∧(l.getD i tst0).lo < (l.getD i tst0).hi∧(l.getD i tst0).hi≤65536∧(i=0∨(l.getD (i - 1) tst0).hi≤(l.getD i tst0).lo∧(l.getD (i - 1) tst0).v.kind=(l.getD i tst0).v.kind∧ ¬((l.getD (i - 1) tst0).hi=(l.getD i tst0).lo∧(l.getD (i - 1) tst0).v=(l.getD i tst0).v)):=by
  simp only [tOk,Bool.and_eq_true,Bool.or_eq_true,Bool.not_eq_true',Bool.and_eq_false_iff,decide_eq_true_eq,decide_eq_false_iff_not,and_assoc,Decidable.not_and_iff_not_or_not]
theorem tRight_bad {l:List Tst} {i:Nat} (hi:i < l.length) (h: ¬(0≤(l.getD i tst0).lo∧(l.getD i tst0).lo < (l.getD i tst0).hi∧(l.getD i tst0).hi≤65536∧(i=0∨(l.getD (i - 1) tst0).hi≤(l.getD i tst0).lo∧(l.getD (i - 1) tst0).v.kind=(l.getD i tst0).v.kind∧ ¬((l.getD (i - 1) tst0).hi=(l.getD i tst0).lo∧(l.getD (i - 1) tst0).v=(l.getD i tst0).v)))):false=tRight l:=by
  rw [tRight,ranges_stop hi (Bool.eq_false_iff.2 fun h'=>h (tOk_iff.1 h'))];rfl
/-- The index of the first step that fits, or -1. -/
def ixF (p:Tst→Bool) (l:List Tst):Int:=if l.any p then ((l.takeWhile fun s=> !p s).length:Int) else -1
theorem ixF_at {p:Tst→Bool}: ∀{l:List Tst} {i:Nat},i < l.length→(l.take i).any p=false→p (l.getD i tst0)=true→(i:Int)=ixF p l
  | [],i,hi,_,_=>by simp at hi
  | x::xs,0,_,_,h=>by
    have h:p x=true:=h
    simp [ixF,h]
  | x::xs,i+1,hi,ha,h=>by
    simp only [List.take_succ_cons,List.any_cons,Bool.or_eq_false_iff] at ha
    have h2:p (xs.getD i tst0)=true:=by simpa using h
    have hi2:i < xs.length:=by simpa using hi
    have ih:=ixF_at hi2 ha.2 h2
    have hany:xs.any p=true:=List.any_eq_true.2 ⟨xs.getD i tst0,by rw [List.getD_eq_getElem?_getD,List.getElem?_eq_getElem hi2];exact List.getElem_mem hi2,h2⟩
    rw [ixF,if_pos hany] at ih
    simp only [ixF,List.any_cons,ha.1,hany,Bool.or_true,if_true,Bool.not_false,List.takeWhile_cons,List.length_cons]
    omega
theorem ixF_end {p:Tst→Bool} {l:List Tst} (h:l.any p=false): -1=ixF p l:=by simp [ixF,h]
theorem ixF_any {p:Tst→Bool} {l:List Tst}:decide (ixF p l≥0)=l.any p:=by
  rw [ixF]
  cases l.any p with
  | true=>simp
  | false=>simp
theorem any_next {p:Tst→Bool} {l:List Tst} {i:Nat} (hi:i < l.length):(l.take (i+1)).any p=((l.take i).any p || p (l.getD i tst0)):=by
  rw [List.take_succ_eq_append_getElem hi,List.any_append,List.getD_eq_getElem?_getD,List.getElem?_eq_getElem hi];simp
theorem all_any {l:List Tst}:(!l.any fun s=> !s.v.valid)=l.all fun s=>s.v.valid:=by
  rw [List.not_any_eq_all_not];simp
theorem xc2 {l:List Tst} {i:Nat} (hi:i < l.length):l.getD i tst0∈l:=by
  rw [List.getD_eq_getElem?_getD,List.getElem?_eq_getElem hi];exact List.getElem_mem hi
theorem tRight_valid {l:List Tst} (h:tRight l=true): ∀s∈l,s.v.valid=true:=by
  simp only [tRight,Bool.and_eq_true,List.all_eq_true] at h;exact h.2
theorem va_len {v:Va} (h:v.valid=true):v.f.n.l.length≤256∧v.f.d.l.length≤256:=by
  have z:fr0.n.l.length≤256∧fr0.d.l.length≤256:=by decide
  rw [Va.valid] at h
  split at h
  · simp only [Bool.and_eq_true,Fr.valid,Fr.sh,decide_eq_true_eq] at h
    exact h.2.1.1.1.1
  · split at h
    · simp only [Bool.and_eq_true,decide_eq_true_eq] at h;rw [h.1.1];exact z
    · split at h
      · simp only [Bool.and_eq_true,decide_eq_true_eq] at h;rw [h.1.1];exact z
      · split at h
        · simp only [Bool.and_eq_true,decide_eq_true_eq] at h;rw [h.1.1];exact z
        · cases h
/-- A piece, behind a timeline. -/
def pst1 (acc:List Tst) (s:Tst):List Tst:=
  if s.hi≤s.lo then acc
  else if 0 < acc.length∧(acc.getD (acc.length - 1) tst0).hi=s.lo∧(acc.getD (acc.length - 1) tst0).v=s.v then acc.set (acc.length - 1) ⟨(acc.getD (acc.length - 1) tst0).lo,s.hi,(acc.getD (acc.length - 1) tst0).v⟩
  else acc++[s]
def pst (acc ps:List Tst):List Tst:=ps.foldl pst1 acc
def clip (a b:Int) (s:Tst):Tst:=⟨max s.lo a,min s.hi b,s.v⟩
def cutT (l:List Tst) (a b:Int):List Tst:=pst [] (l.map (clip a b))
theorem pst1_len (acc:List Tst) (s:Tst):(pst1 acc s).length≤acc.length+1:=by
  rw [pst1];split
  · omega
  · split
    · simp
    · simp
theorem pst_len: ∀(ps acc:List Tst),(pst acc ps).length≤acc.length+ps.length
  | [],acc=>by simp [pst]
  | s::r,acc=>by
    have h1:=pst_len r (pst1 acc s)
    have h2:=pst1_len acc s
    simp only [pst,List.foldl_cons,List.length_cons] at*
    omega
theorem pst_snoc {l:List Tst} {i:Nat} (acc:List Tst) (hi:i < l.length):pst acc (l.take (i+1))=pst1 (pst acc (l.take i)) (l.getD i tst0):=by
  rw [List.take_succ_eq_append_getElem hi,pst,List.foldl_append,List.getD_eq_getElem?_getD,List.getElem?_eq_getElem hi];rfl
end An

/- Layer 5: timelines are checked. -/
namespace An.S
open Go Go.Proofs An
set_option maxHeartbeats 2000000
instance sl22:SlI Tryz.prog 22 34 8 true:=⟨Tryz.underlying22,ti34⟩
instance fo34_0:FoI Tryz.prog 34 0 0:=⟨by kernel_rfl⟩
instance fo34_1:FoI Tryz.prog 34 1 1:=⟨by kernel_rfl⟩
instance fo34_2:FoI Tryz.prog 34 2 2:=⟨by kernel_rfl⟩
instance fi74:FnI Tryz.prog 74:=⟨_,Tryz.func74,by kernel_rfl,rfl⟩
instance fi142:FnI Tryz.prog 142:=⟨_,Tryz.func142,by kernel_rfl,rfl⟩
instance fi143:FnI Tryz.prog 143:=⟨_,Tryz.func143,by kernel_rfl,rfl⟩
instance fi144:FnI Tryz.prog 144:=⟨_,Tryz.func144,by kernel_rfl,rfl⟩
instance fi145:FnI Tryz.prog 145:=⟨_,Tryz.func145,by kernel_rfl,rfl⟩
instance un22:UnI Tryz.prog 22 (.slice 34):=⟨Tryz.underlying22⟩
theorem c_TRight1 (s:Tst) (hD:s.v.f.dig):
  Ct Tryz.prog 143 [tTs s] (tB (!s.v.valid)):=by
 refine Ct.intro Tryz.func143 rfl Tryz.ntmps143 rfl ?_
 intro w F
 refine A9 ?_
 refine A1 ?_
 refine R1 (x3 (c_TValid s.v hD) fi144 rfl) rfl ?_
 refine A5 ?_
 exact x4 Plain.mk' rfl rfl Le.refl
theorem c_TIndex (l:List Tst) (hD: ∀s∈l,s.v.f.dig):
  Ct Tryz.prog 145 [tL 8 true tTs l,tE (.func (.func 143) #[] #[])] (tI (ixF (fun s:Tst=> !s.v.valid) l)):=by
 refine Ct.intro Tryz.func145 rfl Tryz.ntmps145 rfl ?_
 intro w F
 refine C_len (s:=0) rfl (fun hl0=> ?_)
 refine A9 ?_
 refine A5 ?_
 refine cL (fun (i:Nat)=>i≤l.length∧(l.take i).any (fun s:Tst=> !s.v.valid)=false) (fun (i:Nat)=>upd (upd (upd (upd (fun _=>none) 0 (some (.val (tL 8 true tTs l)))) 1 (some (.val (tE (.func (.func 143) #[] #[]))))) 7 (some (.val (tI l.length)))) 8 (some (.val (tI i)))) (fun (i:Nat)=>fun _=>none) [] (fun (i:Nat)=>l.length - i) (0) ⟨Nat.zero_le _,rfl⟩ ?_
 intro i hI
 obtain ⟨hi,ha⟩:=hI
 refine A6 ?_
 refine x9 rfl (fun h108=> ?_) (fun h108=> ?_)
 ·
  refine A9 ?_
  refine A6 ?_
  refine R2 (x6 sl22 (i) (by omega) (gD (l:=l) (n:=i) (d:=tst0) (by omega))) rfl rfl ?_
  refine A1 ?_
  refine R2 (d_callF (c_TRight1 (l.getD i tst0) (hD _ (xc2 (by omega)))) fi143 rfl) rfl rfl ?_
  refine A2 ?_
  refine xd2 rfl (fun h109=> ?_) (fun h109=> ?_)
  ·
   refine A9 ?_
   refine A3 ?_
   exact x4 Plain.mk' rfl rfl (Le.int (ixF_at (by omega) ha h109))
  ·
   refine A7 ?_
   exact kF (i+1) ⟨⟨by omega,by rw [any_next (by omega),ha,h109];rfl⟩,(by omega)⟩
 ·
  refine A9 ?_
  refine A2 ?_
  exact x4 Plain.mk' rfl rfl (Le.int (ixF_end (by rw [←ha,show i=l.length by omega,List.take_length])))
theorem c_TContains (l:List Tst) (hD: ∀s∈l,s.v.f.dig):
  Ct Tryz.prog 74 [tL 8 true tTs l,tE (.func (.func 143) #[] #[])] (tB (l.any (fun s:Tst=> !s.v.valid))):=by
 refine Ct.intro Tryz.func74 rfl Tryz.ntmps74 rfl ?_
 intro w F
 refine A9 ?_
 refine R2 (x3 (c_TIndex l hD) fi145 rfl) rfl rfl ?_
 refine A5 ?_
 exact x4 Plain.mk' rfl rfl (Le.bool ixF_any)
theorem c_TRight (l:List Tst) (hD: ∀s∈l,s.v.f.dig):
  Ct Tryz.prog 73 [tL 8 true tTs l] (tB (tRight l)):=by
 refine Ct.intro Tryz.func73 rfl Tryz.ntmps73 rfl ?_
 intro w F
 refine C_len (s:=0) rfl (fun hl0=> ?_)
 refine A9 ?_
 refine A5 ?_
 refine cL (fun (i:Nat)=>i≤l.length∧(List.range i).all (tOk l)=true) (fun (i:Nat)=>upd (upd (upd (upd (fun _=>none) 0 (some (.val (tL 8 true tTs l)))) 6 (some (.val (tL 8 true tTs l)))) 7 (some (.val (tI l.length)))) 8 (some (.val (tI i)))) (fun (i:Nat)=>fun _=>none) [] (fun (i:Nat)=>l.length - i) (0) ⟨Nat.zero_le _,rfl⟩ ?_
 intro i hI
 obtain ⟨hi,ha⟩:=hI
 refine A6 ?_
 refine x9 rfl (fun h39=> ?_) (fun h39=> ?_)
 ·
  refine A7 ?_
  refine R2 (x6 sl22 (i) (by omega) (gD (l:=l) (n:=i) (d:=tst0) (by omega))) rfl rfl ?_
  refine A1 ?_
  refine RE (xa6 (k:=4) (n:=8) (agg:=true) zr34.1 zr34.2 rfl) trivial trivial ⟨rfl,trivial⟩ ?_
  refine A9 ?_
  refine A2 ?_
  refine RGcaseD (t:=16) rfl (fun h40=> ?_) (fun h40=> ?_)
  ·
   refine A9 ?_
   refine A9 ?_
   refine A8 ?_
   exact x4 Plain.mk' rfl rfl (Le.bool (tRight_bad (i:=i) (by omega) (by omega)))
  ·
   refine A7 ?_
   refine RGcaseD (t:=23) rfl (fun h40_2=> ?_) (fun h40_2=> ?_)
   ·
    refine A9 ?_
    refine A9 ?_
    refine A1 ?_
    exact x4 Plain.mk' rfl rfl (Le.bool (tRight_bad (i:=i) (by omega) (by omega)))
   ·
    refine A6 ?_
    refine x9 rfl (fun h40_3=> ?_) (fun h40_3=> ?_)
    ·
     refine A9 ?_
     refine A3 ?_
     exact x4 Plain.mk' rfl rfl (Le.bool (tRight_bad (i:=i) (by omega) (by omega)))
    ·
     refine A9 ?_
     refine x9 rfl (fun h43=> ?_) (fun h43=> ?_)
     ·
      refine A8 ?_
      have hok:tOk l i=true:=tOk_iff.2 ⟨by omega,by omega,by omega,.inl (by omega)⟩
      exact kF (i+1) ⟨⟨by omega,by rw [xj0,ha,Bool.true_and];exact hok⟩,(by omega)⟩
     ·
      refine A7 ?_
      refine R2 (x6 sl22 (i - 1) (by omega) (gD (l:=l) (n:=i - 1) (d:=tst0) (by omega))) rfl rfl ?_
      refine A1 ?_
      refine RE (xa6 (k:=5) (n:=8) (agg:=true) zr34.1 zr34.2 rfl) trivial trivial ⟨rfl,trivial⟩ ?_
      refine A9 ?_
      refine A2 ?_
      refine RGcaseD (t:=40) rfl (fun h47=> ?_) (fun h47=> ?_)
      ·
       refine A9 ?_
       refine A9 ?_
       refine A9 ?_
       refine A9 ?_
       exact x4 Plain.mk' rfl rfl (Le.bool (tRight_bad (i:=i) (by omega) (by omega)))
      ·
       refine A2 ?_
       refine xc5 (decide_eq_false h47) rfl rfl (0) ti5 rfl rfl rfl (At.t (At.g 2 rfl rfl) (At.g 0 rfl rfl)) rfl ?_
       refine A2 ?_
       refine xc5 (decide_eq_false h47) rfl rfl (0) ti5 rfl rfl rfl (At.t (At.g 2 rfl rfl) (At.g 0 rfl rfl)) rfl ?_
       refine A3 ?_
       refine RGcaseD (t:=49) rfl (fun h47_2=> ?_) (fun h47_2=> ?_)
       ·
        refine A9 ?_
        refine A9 ?_
        refine A9 ?_
        exact x4 Plain.mk' rfl rfl (Le.bool (tRight_bad (i:=i) (by omega) (by omega)))
       ·
        refine A6 ?_
        refine RGcaseD (t:=55) rfl (fun h47_3=> ?_) (fun h47_3=> ?_)
        ·
         refine A4 ?_
         refine RGon (decide_eq_true h47_3) rfl (x3 (c_TSame _ _) fi142 rfl) rfl ⟨rfl,rfl,trivial⟩ trivial trivial (RGon (decide_eq_false h47_2) rfl (xg7 (decide_eq_true h47_3)) rfl ⟨rfl,rfl,trivial⟩ trivial trivial ?_)
         refine A3 ?_
         refine x9 rfl (fun h47_4=> ?_) (fun h47_4=> ?_)
         ·
          refine A9 ?_
          refine A2 ?_
          exact x4 Plain.mk' rfl rfl (Le.bool (tRight_bad (i:=i) (by omega) (by rintro ⟨_,_,_,h | ⟨_,_,h⟩⟩;omega;exact h ⟨by omega,h47_4⟩)))
         ·
          refine A7 ?_
          have hok:tOk l i=true:=tOk_iff.2 ⟨by omega,by omega,by omega,.inr ⟨by omega,by omega,fun h=>h47_4 h.2⟩⟩
          exact kF (i+1) ⟨⟨by omega,by rw [xj0,ha,Bool.true_and];exact hok⟩,(by omega)⟩
        ·
         refine A5 ?_
         refine RGon (decide_eq_false h47_2) rfl (xg3 (decide_eq_false h47_3)) rfl ⟨rfl,rfl,trivial⟩ trivial trivial ?_
         refine A9 ?_
         refine A2 ?_
         have hok:tOk l i=true:=tOk_iff.2 ⟨by omega,by omega,by omega,.inr ⟨by omega,by omega,fun h=>h47_3 h.1⟩⟩
         exact kF (i+1) ⟨⟨by omega,by rw [xj0,ha,Bool.true_and];exact hok⟩,(by omega)⟩
 ·
  refine A8 ?_
  refine R2 (x3 (c_TContains l hD) fi74 rfl) rfl rfl ?_
  refine A5 ?_
  exact x4 Plain.mk' rfl rfl (Le.bool (by rw [tRight,←all_any,←show i=l.length by omega,ha,Bool.true_and]))
end An.S

/- From what a statement's reader reads to typed values: for any program. -/
namespace An
open Go Go.ChangeShapes Go.WideShapes Go.ChangeAt Go.RowKit
/-- The blocks that there are. -/
def Old (w:World):Dom:=fun b=>b < w.heap.size
/-- Whatever the reader reads at the type T is one of these values, of n cells each. -/
structure Opn {α:Type} (P:Program) (T n:Nat) (agg:Bool) (f:α→Ty) (ok:α→Prop):Prop where
  size:P.cellsOf T=n
  pos:0 < n
  one:agg=false→n=1
  go: ∀{H:Type} {enc:TypeId×Value→H} {w:World} {sp:Nat→Bool} {held:Bool} {fuel:Nat} {cs:List Value} {x:DataW H×List MemPlace},
    DataW.trod enc P w 0 sp held fuel T cs=some x→cs.length=n∧ ∃a,ok a∧(f a).p (Old w) w (pick agg n cs.toArray 0)
theorem Opn.int {P:Program} {T:Nat} {k:IntKind} (ht:P.underlying T=some (.int k)) (hc:P.cellsOf T=1):Opn P T 1 false (fun n:Int=>tE (.int k n)) (fun n=>k.min≤n∧n≤k.max) where
  size:=hc
  pos:=by decide
  one:=fun _=>rfl
  go:=fun h=>by
    obtain ⟨n,rfl,_,hw⟩:=DataW.trod_int ht h
    refine ⟨rfl,n,?_,rfl⟩
    simpa [Lit.wf] using hw
theorem Opn.nat {P:Program} {T:Nat} {k:IntKind} (ht:P.underlying T=some (.int k)) (hc:P.cellsOf T=1) (h0:k.min=0) {B:Nat} (hB:k.max+1=B):Opn P T 1 false (fun n:Nat=>tE (.int k n)) (fun n=>n < B) where
  size:=hc
  pos:=by decide
  one:=fun _=>rfl
  go:=fun h=>by
    obtain ⟨_,n,⟨h1,h2⟩,h3⟩:=(Opn.int ht hc).go h
    obtain ⟨m,rfl⟩:=Int.eq_ofNat_of_zero_le (show 0≤n by omega)
    exact ⟨‹_›,m,by omega,h3⟩
theorem Opn.bool {P:Program} {T:Nat} (ht:P.underlying T=some .bool) (hc:P.cellsOf T=1):Opn P T 1 false (fun b:Bool=>tE (.bool b)) (fun _=>True) where
  size:=hc
  pos:=by decide
  one:=fun _=>rfl
  go:=fun h=>by
    obtain ⟨n,rfl,_⟩:=DataW.trod_bool ht h
    exact ⟨rfl,n,trivial,rfl⟩
/-- A row of cells that is read lies in memory. -/
theorem mem_of_cells {w:World} {base:Nat} {a:Addr} {n:Nat} {agg:Bool} {cs:List Value} (h:w.cells? base a n=some cs) (h0:0 < n) (h1:agg=false→n=1):(a.spot=none)∧a.block < w.heap.size∧Mem w a.block a.off n agg (pick agg n cs.toArray 0):=by
  obtain ⟨_,hl,hc⟩:=World.cells?_some h
  have hsome: ∀i,i < n→ ∃c t fr,w.heap[(a.add i).block]? =some (.cells c t fr)∧(a.add i).spot=none∧c[(a.add i).off]? =cs[i]? ∧(a.add i).off < c.size:=fun i hi=>by
    have hi':=hc i hi
    have hlt:i < cs.length:=by omega
    rw [List.getElem?_eq_getElem hlt] at hi' ⊢
    simp only [World.cell?] at hi'
    split at hi'
    · rename_i c t fr hb
      split at hi'
      · cases hi'
      · rename_i hs
        refine ⟨c,t,fr,hb,by simpa using hs,hi',(Array.getElem?_eq_some_iff.1 hi').1⟩
    · cases hi'
  have ha0:a.add 0=a:=by simp [Addr.add]
  obtain ⟨c,t,fr,hb,hs,_,_⟩:=hsome 0 h0
  rw [ha0] at hb hs
  have hoff: ∀i,(a.add i).off=a.off+i:=fun i=>by
    simp only [Addr.add];split
    · omega
    · rfl
  have hblk: ∀i,(a.add i).block=a.block:=fun i=>by
    simp only [Addr.add];split <;> rfl
  have hget: ∀i,i < n→c[a.off+i]? =cs[i]? ∧a.off+i < c.size:=fun i hi=>by
    obtain ⟨c',t',fr',hb',_,h3,h4⟩:=hsome i hi
    rw [hblk,hb] at hb'
    cases hb'
    rw [hoff] at h3 h4
    exact ⟨h3,h4⟩
  refine ⟨hs,xb6 hb,c,t,fr,hb,?_,h0,h1,?_⟩
  · have:=(hget (n - 1) (by omega)).2;omega
  · cases agg with
    | true=>
      simp only [pick,cond_true,Value.agg.injEq]
      apply Array.ext_getElem?
      intro i
      rw [Array.getElem?_extract,Array.getElem?_extract]
      have hsz:=(hget (n - 1) (by omega)).2
      simp only [List.size_toArray,Nat.zero_add]
      by_cases hi:i < n
      · rw [if_pos (by omega),if_pos (by omega),(hget i hi).1];simp
      · rw [if_neg (by omega),if_neg (by omega)]
    | false=>
      have:=h1 rfl
      subst this
      simp only [pick,cond_false]
      have:=(hget 0 (by omega)).1
      rw [Array.getD_eq_getD_getElem?,Array.getD_eq_getD_getElem?,show c[a.off]? =cs[0]? from this];simp
theorem list_of {α:Type} {p:Nat→α→Prop}: ∀n:Nat,(∀i,i < n→ ∃x,p i x)→ ∃xs:List α,xs.length=n∧ ∀i x,xs[i]? =some x→p i x
  | 0,_=>⟨[],rfl,fun i x h=>by simp at h⟩
  | n+1,h=>by
    obtain ⟨xs,h1,h2⟩:=list_of n fun i hi=>h i (by omega)
    obtain ⟨x,hx⟩:=h n (by omega)
    refine ⟨xs++[x],by simp [h1],fun i y hy=> ?_⟩
    rcases Nat.lt_or_ge i n with hi | hi
    · rw [List.getElem?_append_left (by omega)] at hy;exact h2 i y hy
    · rw [List.getElem?_append_right (by omega)] at hy
      have hi':i=n:=by
        have:=(List.getElem?_eq_some_iff.1 hy).1
        simp at this;omega
      subst hi'
      simp [h1] at hy
      subst hy;exact hx
theorem Opn.slice {α:Type} {P:Program} {T E es:Nat} {agg:Bool} {f:α→Ty} {ok:α→Prop} (ht:P.underlying T=some (.slice E)) (hc:P.cellsOf T=1) (he:Opn P E es agg f ok):
    Opn P T 1 false (fun xs:List α=>tL es agg f xs) (fun xs=> ∀x∈xs,ok x) where
  size:=hc
  pos:=by decide
  one:=fun _=>rfl
  go:=fun {H enc w sp held fuel cs x} h=>by
    rcases Go.Deep.open_slice ht h with ⟨rfl,_⟩ | ⟨a,len,cap,m,n,D,Pl,rfl,_,hl,hm,hmm,_,hx⟩
    · exact ⟨rfl,[],fun x hx=>by simp at hx,none,0,rfl,Nat.le_refl _,by decide,.inl rfl⟩
    · refine ⟨rfl,?_⟩
      have hlm:len≤m:=by rw [hmm];split <;> omega
      have hel: ∀i,i < len→ ∃y,ok y∧(a.add (i*es)).spot=none∧a.block < w.heap.size∧(∃u,Mem w a.block (a.off+i*es) es agg u∧(f y).p (Old w) w u):=fun i hi=>by
        obtain ⟨cs',h1,h2⟩:=hx i (by omega)
        rw [he.size] at h1
        obtain ⟨_,y,hy,hy2⟩:=he.go h2
        obtain ⟨h3,h4,h5⟩:=mem_of_cells h1 he.pos he.one
        have hblk:(a.add (i*es)).block=a.block:=by simp only [Addr.add];split <;> rfl
        have hoff:(a.add (i*es)).off=a.off+i*es:=by
          simp only [Addr.add];split
          · omega
          · rfl
        rw [hblk] at h4 h5;rw [hoff] at h5
        exact ⟨y,hy,h3,h4,_,h5,hy2⟩
      obtain ⟨ys,h1,h2⟩:=list_of len hel
      refine ⟨ys,fun y hy=> ?_,some a,cap,?_,by omega,by simpa [maxLen] using hm,?_⟩
      · obtain ⟨i,hi⟩:=List.getElem?_of_mem hy
        exact (h2 i y hi).1
      · simp [pick,h1]
      · cases ys with
        | nil=>exact .inl rfl
        | cons y ys=>
          obtain ⟨_,hs,hb,_⟩:=h2 0 y rfl
          have ha:a.add (0*es)=a:=by simp [Addr.add]
          rw [ha] at hs
          refine .inr ⟨a.block,a.off,?_,hb,fun i x hi=>(h2 i x hi).2.2.2⟩
          obtain ⟨b,o,s⟩:=a
          simp only at hs
          rw [hs]
/-- The fields of a struct, from the offset o on. -/
structure OpnF {α:Type} (P:Program) (fs:List Field) (o m:Nat) (fds:α→List Fd) (ok:α→Prop):Prop where
  sum: ∀a,Fd.sum (fds a)=m
  go: ∀{H:Type} {enc:TypeId×Value→H} {w:World} {sp:Nat→Bool} {held:Bool} {fuel:Nat} {cs:List Value},
    (∀fd∈fs,∃y,DataW.trod enc P w 0 sp held fuel fd.type ((cs.drop fd.offset).take (P.cellsOf fd.type))=some y)→ ∃a,ok a∧Fd.all (Old w) w cs.toArray o (fds a)
theorem OpnF.nil {P:Program} {o:Nat}:OpnF P [] o 0 (fun _:Unit=>[]) (fun _=>True):=⟨fun _=>rfl,fun _=>⟨(),trivial,trivial⟩⟩
theorem pick_drop {agg:Bool} {n o:Nat} {cs:List Value} (h1:agg=false→n=1) (h0:0 < n) (hl:((cs.drop o).take n).length=n):pick agg n ((cs.drop o).take n).toArray 0=pick agg n cs.toArray o:=by
  have hl':o+n≤cs.length:=by simp at hl;omega
  cases agg with
  | true=>
    simp only [pick,cond_true,Value.agg.injEq]
    apply Array.ext_getElem?
    intro i
    rw [Array.getElem?_extract,Array.getElem?_extract]
    simp only [List.size_toArray,Nat.zero_add,List.getElem?_toArray]
    by_cases hi:i < n
    · rw [if_pos (by omega),if_pos (by omega),List.getElem?_take,if_pos hi,List.getElem?_drop]
    · rw [if_neg (by omega),if_neg (by omega)]
  | false=>
    have:=h1 rfl
    subst this
    simp only [pick,cond_false,Array.getD_eq_getD_getElem?,List.getElem?_toArray,List.getElem?_take,List.getElem?_drop]
    simp
theorem OpnF.cons {α β:Type} {P:Program} {fd:Field} {fs:List Field} {o n o' m m':Nat} {agg:Bool} {f:α→Ty} {ok:α→Prop} {g:β→List Fd} {ok':β→Prop} (h:Opn P fd.type n agg f ok) (ho:fd.offset=o) (ho':o+n=o') (hr:OpnF P fs o' m g ok') (hm:n+m=m'):
    OpnF P (fd::fs) o m' (fun x:α×β=>⟨n,agg,f x.1⟩::g x.2) (fun x=>ok x.1∧ok' x.2) where
  sum:=fun a=>by simp only [Fd.sum,hr.sum];exact hm
  go:=fun {H enc w sp held fuel cs} hx=>by
    subst ho ho'
    obtain ⟨y,hy⟩:=hx fd (by simp)
    obtain ⟨h1,a,h2,h3⟩:=h.go hy
    obtain ⟨b,h4,h5⟩:=hr.go (cs:=cs) (fun fd' h'=>hx fd' (by simp [h']))
    rw [h.size] at h1 h3
    rw [pick_drop h.one h.pos h1] at h3
    exact ⟨(a,b),⟨h2,h4⟩,⟨h.one,h3⟩,h5⟩
theorem Opn.struct {α:Type} {P:Program} {T m:Nat} {fs:Array Field} {fds:α→List Fd} {ok:α→Prop} (ht:P.underlying T=some (.struct fs)) (hc:P.cellsOf T=m) (h0:0 < m) (h:OpnF P fs.toList 0 m fds ok):
    Opn P T m true (fun a=>tS (fds a)) ok where
  size:=hc
  pos:=h0
  one:=fun h=>by cases h
  go:=fun {H enc w sp held fuel cs x} hx=>by
    obtain ⟨xs,n,_,_,hl,hlen,hf⟩:=DataW.trod_struct ht hx
    rw [hc] at hl
    obtain ⟨a,h1,h2⟩:=h.go (enc:=enc) (w:=w) (sp:=sp) (held:=held) (fuel:=n) (cs:=cs) (fun fd hfd=>by
      obtain ⟨i,hi⟩:=List.getElem?_of_mem hfd
      rw [Array.getElem?_toList] at hi
      have:=hf i fd hi
      have hlt:i < xs.length:=by rw [hlen];exact (Array.getElem?_eq_some_iff.1 hi).1
      rw [List.getElem?_eq_getElem hlt] at this
      exact ⟨_,this⟩)
    refine ⟨hl,a,h1,cs.toArray,?_,by simp [hl,h.sum],h2⟩
    simp only [pick,cond_true,Value.agg.injEq]
    apply Array.ext_getElem?
    intro i
    rw [Array.getElem?_extract]
    simp only [List.size_toArray,Nat.zero_add]
    by_cases hi:i < m
    · rw [if_pos (by omega)]
    · rw [if_neg (by omega),Array.getElem?_eq_none (by simp;omega)]
/-- The same values, under other names. -/
theorem Opn.as {α β:Type} {P:Program} {T n:Nat} {agg:Bool} {f:α→Ty} {ok:α→Prop} {f':β→Ty} {ok':β→Prop} (h:Opn P T n agg f ok) (g:α→β) (hf: ∀a,f' (g a)=f a) (hok: ∀a,ok a→ok' (g a)):Opn P T n agg f' ok' where
  size:=h.size
  pos:=h.pos
  one:=h.one
  go:=fun hx=>by
    obtain ⟨h1,a,h2,h3⟩:=h.go hx
    exact ⟨h1,g a,hok a h2,by rw [hf];exact h3⟩
section
variable {α:Type} {P:Program} {T n:Nat} {f:α→Ty} {ok:α→Prop} {r:Reach} {b0:Nat} {v:Value} {H:Type} {enc:TypeId×Value→H} {w:World} {sp:Nat→Bool} {held:Bool} {d:DataW H} {p:List MemPlace}
/-- An argument of one cell. -/
theorem Opn.arg1 (h:Opn P T 1 false f ok) (hv:v.cells= #[v]) (hd:DataW.Trod enc P w 0 sp held T v d p): ∃a,ok a∧(f a).p (Old w) w v:=by
  obtain ⟨fuel,hf⟩:=hd
  obtain ⟨_,a,h2,h3⟩:=h.go hf
  refine ⟨a,h2,?_⟩
  rw [hv] at h3
  exact h3
/-- A slice as an argument. -/
theorem Opn.argL {E:Nat} (h:Opn P T 1 false f ok) (ht:P.underlying T=some (.slice E)) (hw:Value.okWide P w r b0 T v) (hd:DataW.Trod enc P w 0 sp held T v d p): ∃a,ok a∧(f a).p (Old w) w v:=by
  obtain ⟨a,len,cap,rfl⟩:=okWide_slice ht hw
  exact h.arg1 rfl hd
/-- A number as an argument. -/
theorem Opn.argI {k:IntKind} (h:Opn P T 1 false f ok) (ht:P.underlying T=some (.int k)) (hw:Value.okWide P w r b0 T v) (hd:DataW.Trod enc P w 0 sp held T v d p): ∃a,ok a∧(f a).p (Old w) w v:=by
  obtain ⟨m,rfl⟩:=okWide_int ht hw
  exact h.arg1 rfl hd
end
theorem Ext.below {w w':World} (h:Ext w w'):Below w.heap.size w w':=⟨h.os,h.tape,h.output,h.size,h.block⟩
end An

/- slices.SortFunc at structs, as a contract that is lent the row. For any program. -/
namespace An
open Go Go.Proofs Go.Shelf Go.Sort
section
variable {α:Type} [Inhabited α]
/-- What the sort leaves. -/
def srt (cf:α→α→Int) (xs:List α):List α:=(pdq (ltOf cf) xs.toArray 0 xs.toArray.size (Go.Lib.bitLen xs.toArray.size) true true).toList
theorem srt_spec {cf:α→α→Int} (hO:SWO (ltOf cf)) (xs:List α):(srt cf xs).length=xs.length∧(srt cf xs).Perm xs∧(srt cf xs).Pairwise fun a b=>ltOf cf b a=false:=by
  obtain ⟨⟨h1,_,h2⟩,h3⟩:=pdq_sorts (ltOf cf) hO xs.toArray 0 xs.toArray.size (Go.Lib.bitLen xs.toArray.size) true true (Nat.zero_le _) (Nat.le_refl _) (Or.inl rfl)
  rw [srt]
  generalize pdq (ltOf cf) xs.toArray 0 xs.toArray.size (Go.Lib.bitLen xs.toArray.size) true true=D at*
  have e1:D.size=xs.length:=by simpa using h1
  have x1:D.extract 0 xs.toArray.size=D:=by rw [←h1];simp
  have x2:xs.toArray.extract 0 xs.toArray.size=xs.toArray:=by simp
  rw [x1,x2] at h2
  refine ⟨by simpa using e1,by simpa using h2,?_⟩
  rw [List.pairwise_iff_getElem]
  intro i j hi hj hij
  have hi':i < D.size:=by simpa using hi
  have hj':j < D.size:=by simpa using hj
  have h6:=h3 i j (Nat.zero_le _) hij (by rw [←h1];exact hj')
  rw [getElem!_pos _ i hi',getElem!_pos _ j hj'] at h6
  simpa using h6
/-- A row that ascends stays as it is. -/
theorem srt_asc {cf:α→α→Int} (hO:SWO (ltOf cf)) {xs:List α} (h:xs.Pairwise fun a b=>ltOf cf a b=true):srt cf xs=xs:=by
  have hp:=(srt_spec hO xs).2.1
  have hs:=(srt_spec hO xs).2.2
  generalize srt cf xs=ys at*
  induction xs generalizing ys with
  | nil=>exact hp.eq_nil
  | cons x xs ih=>
    cases ys with
    | nil=>exact absurd hp.symm.eq_nil (by simp)
    | cons y ys=>
      obtain ⟨h1,h2⟩:=List.pairwise_cons.1 h
      obtain ⟨s1,s2⟩:=List.pairwise_cons.1 hs
      have hxy:y=x:=by
        have hy:y∈x::xs:=hp.mem_iff.1 (by simp)
        rcases List.mem_cons.1 hy with e | hy
        · exact e
        · have hx:x∈y::ys:=hp.mem_iff.2 (by simp)
          rcases List.mem_cons.1 hx with e | hx
          · exact e.symm
          · have a1:=s1 x hx
            have a2:=h1 y hy
            rw [a2] at a1;cases a1
      subst hxy
      rw [ih h2 ys (List.perm_cons y |>.1 hp) s2]
end
theorem flat_at {α:Type} [Inhabited α] {enc:α→List Value} {k:Nat} (_hk: ∀x,(enc x).length=k) (d:Array α) {i j:Nat} (hi:i < d.size) (hj:j < k):(flatK enc k d)[i*k+j]! =(enc d[i]!)[j]! :=by
  have lt:i*k+j < d.size*k:=by
    have:=Nat.mul_le_mul_right k (show i+1≤d.size from hi);rw [Nat.add_mul,Nat.one_mul] at this;omega
  rw [get_flatK _ _ _ _ lt]
  have e1:(i*k+j) / k=i:=by rw [Nat.mul_comm,Nat.mul_add_div (by omega),Nat.div_eq_of_lt hj];omega
  have e2:(i*k+j)%k=j:=by rw [Nat.mul_comm,Nat.mul_add_mod,Nat.mod_eq_of_lt hj]
  rw [e1,e2]
/-- slices.SortFunc. -/
theorem sortG {P:Program} {ρ:Ren} {α:Type} [Inhabited α] (L:SlLaysF0.n6 P ρ) {T k:Nat} {f:α→Ty} {enc:α→List Value} {cf:α→α→Int} {g:Nat} (aE: ∀w,(isAgg (ρ.t 24)).run P w= .ok true w) (zE: ∀w,(Go.sizeOf (ρ.t 24)).run P w= .ok k w)
    (hk: ∀x,(enc x).length=k) (h1: ∀x,∀v∈enc x,v.oneCell'=true) (hf1: ∀F w x v,(f x).p F w v→v= .agg (enc x).toArray) (hf2: ∀F w x,(f x).p F w (.agg (enc x).toArray)) (hO:SWO (ltOf cf))
    (eg: ∀args w,(callFunc g args).run P w= .ok (.enter g args) w) (hcmp: ∀(x y:α) (W:World),Calls P g #[.agg (enc x).toArray,.agg (enc y).toArray] W fun e w'=>e= .returned (.int .i64 (cf x y))∧ ∃q os',w'=grow (W.drewN q) os') (xs:List α) (hn:xs.length < 4611686018427387904):
    CtG P (ρ.f 6) [(1,⟨T,k,true,rV f xs⟩)] [.own (.sl 1 k 0 xs.length),.val (tE (.func (.func g) #[] #[]))] (.val (tE (.tuple #[]))) [(1,⟨T,k,true,rV f (srt cf xs)⟩)] []:=by
  intro F w η vs hS hA hI hF
  match vs,hS with
  | [v0,v1],hS=>
  obtain ⟨⟨A,rfl,hle,hadr⟩,h2,_⟩:=hS
  have h2:v1= .func (.func g) #[] #[]:=h2
  subst h2
  obtain ⟨k1,k2,k3,k4,k5⟩:=hA (1,⟨T,k,true,rV f xs⟩) (by simp)
  have k1:(rV f xs).length≤η.c 1:=k1
  have k2:0 < k:=k2
  have k4:η.c 1≤9223372036854775807:=k4
  rw [xf1] at k1
  obtain ⟨s1,s2,_⟩:=srt_spec hO xs
  by_cases h0:xs.length=0
  · have hx:xs=[]:=List.length_eq_zero_iff.1 h0
    subst hx
    have e0:srt cf ([]:List α)=[]:=List.length_eq_zero_iff.1 s1
    rw [e0]
    refine (AnyF.slices_SortFunc_none L A (η.c 1 - 0) (.func (.func g) #[] #[]) w).mono ?_
    rintro e w' ⟨rfl,rfl⟩
    refine ⟨_,η,rfl,⟨Stp.refl _ _,fun _ _=>⟨rfl,rfl⟩,rfl,fun x hx=> ?_,hI,fun b hb=> .inl hb⟩⟩
    simp only [List.mem_singleton] at hx
    subst hx
    refine ⟨by simp [rV],k2,k3,k4,fun hc=> ?_⟩
    obtain ⟨cs,c1,c2,_⟩:=k5 hc
    exact ⟨cs,c1,c2,fun i e hi=>by simp [rV] at hi⟩
  · have hc0:0 < η.c 1:=by omega
    obtain ⟨cs,c1,c2,c3⟩:=k5 hc0
    have c1:w.heap[η.b 1]? =some (.cells cs T (0,0)):=c1
    have c2:cs.size=η.c 1*k:=c2
    have hA':=hadr hc0
    rw [Nat.zero_mul] at hA'
    subst hA'
    have hblk:η.b 1 < w.heap.size:=xb6 c1
    have hmul: ∀i,i < xs.length→i*k+k≤cs.size:=fun i hi=>by
      rw [c2,←Nat.succ_mul];exact Nat.mul_le_mul_right _ (by omega)
    have hget: ∀i (hi:i < xs.length) j,j < k→cs[i*k+j]? =(enc xs[i])[j]? :=fun i hi j hj=>by
      have h3:=c3 i (.val (f xs[i])) (by rw [rV,List.getElem?_map,List.getElem?_eq_getElem hi];rfl)
      have h4:=hf1 _ _ _ _ h3
      simp only [pick,cond_true,Value.agg.injEq] at h4
      have h5:=congrArg (fun a:Array Value=>a[j]?) h4
      simp only [Array.getElem?_extract,List.getElem?_toArray] at h5
      have:=hmul i hi
      rw [if_pos (by omega)] at h5
      exact h5
    have hsize:xs.toArray.size=xs.length:=by simp
    have hH:HoldsK enc k w (η.b 1) 0 xs.toArray:=by
      intro j hj
      rw [size_flatK,hsize] at hj
      have hj1:j / k < xs.length:=by rw [Nat.div_lt_iff_lt_mul k2];exact hj
      have hj2:j%k < k:=Nat.mod_lt _ k2
      have hje:j / k*k+j%k=j:=by rw [Nat.mul_comm];exact Nat.div_add_mod j k
      have h6:=hget (j / k) hj1 (j%k) hj2
      rw [hje] at h6
      have h7:=flat_at hk xs.toArray (i:=j / k) (j:=j%k) (by rw [hsize];exact hj1) hj2
      rw [hje] at h7
      have hlen:j%k < (enc xs[j / k]).length:=by rw [hk];exact hj2
      have h8:xs.toArray[j / k]! =xs[j / k]:=by rw [getElem!_pos _ _ (by rw [hsize];exact hj1)];simp
      refine ⟨?_,?_⟩
      · show w.cell? ⟨η.b 1,0+j,none⟩=some (flatK enc k xs.toArray)[j]!
        rw [h7,h8,getElem!_pos (enc xs[j / k]) (j%k) hlen]
        simp only [World.cell?,c1,Nat.zero_add,Option.isSome_none,Bool.false_eq_true,if_false]
        rw [h6,List.getElem?_eq_getElem hlen]
      · simp [World.frozen?,c1]
    have hcon:=AnyQ.slices_SortFunc_eq L k aE zE enc hk h1 cf hO g #[] (η.b 1) 0 (η.c 1 - 0) xs.toArray w eg (fun m os dk _ x y=>hcmp x y _) hH hblk (by rw [hsize];exact hn)
    rw [hsize] at hcon
    refine hcon.mono ?_
    rintro e w' ⟨rfl,m,os,rfl⟩
    have hd:(pdq (ltOf cf) xs.toArray 0 xs.length (Go.Lib.bitLen xs.length) true true).size=xs.length:=by
      have:(srt cf xs).length=xs.length:=s1
      simpa [srt] using this
    have hl:(pdq (ltOf cf) xs.toArray 0 xs.length (Go.Lib.bitLen xs.length) true true).toList=srt cf xs:=by simp [srt]
    generalize pdq (ltOf cf) xs.toArray 0 xs.length (Go.Lib.bitLen xs.length) true true=d at hd hl
    have hheap: ∀b',b' < w.heap.size→(sortWorldK enc k w (η.b 1) 0 m d os).heap[b']? =if b'=η.b 1 then some (.cells (putCells id 0 (flatK enc k d) cs) T (0,0)) else w.heap[b']? :=fun b' hb'=>by
      show (grow (putRowK enc k (Sort.ahead w m) (η.b 1) 0 d) os).heap[b']? =_
      rw [heap_grow_old _ _ (by simp [putRowK];exact hb')]
      simp only [putRowK,putRow,mapBlock,Array.getElem?_modify]
      by_cases hb:b'=η.b 1
      · subst hb
        rw [if_pos rfl,if_pos rfl]
        show Option.map _ (w.heap[η.b 1]?)=_
        rw [c1];rfl
      · rw [if_neg (fun h=>hb h.symm),if_neg hb];rfl
    have hsz:w.heap.size≤(sortWorldK enc k w (η.b 1) 0 m d os).heap.size:=by
      show w.heap.size≤(grow (putRowK enc k (Sort.ahead w m) (η.b 1) 0 d) os).heap.size
      simp [grow,putRowK,putRow,mapBlock,Sort.ahead]
    refine ⟨_,η,rfl,⟨⟨rfl,rfl,rfl,hsz,fun b' hb' hn'=> ?_⟩,fun _ _=>⟨rfl,rfl⟩,rfl,fun x hx=> ?_,fun x hx y hy hne=> ?_,fun b' hb'=> .inl ?_⟩⟩
    · rw [hheap b' hb',if_neg]
      intro hb;exact hn' ⟨(1,⟨T,k,true,rV f xs⟩),by simp,hc0,hb⟩
    · simp only [List.mem_singleton] at hx
      subst hx
      refine ⟨by rw [xf1,s1];exact k1,k2,k3,k4,fun _=>⟨putCells id 0 (flatK enc k d) cs,?_,?_,fun i e hi=> ?_⟩⟩
      · rw [hheap _ hblk,if_pos rfl]
      · simp only [putCells,Array.size_mapIdx];exact c2
      · have hil:i < (srt cf xs).length:=by
          have:=(List.getElem?_eq_some_iff.1 hi).1;rwa [xf1] at this
        have hi2:i < xs.length:=by rw [←s1];exact hil
        rw [rV,List.getElem?_map,List.getElem?_eq_getElem hil] at hi
        simp only [Option.map_some,Option.some.injEq] at hi
        subst hi
        have hdi:d[i]! =(srt cf xs)[i]:=by
          rw [getElem!_pos d i (by rw [hd];exact hi2)]
          simp only [←hl,Array.getElem_toList]
        have:pick true k (putCells id 0 (flatK enc k d) cs) (i*k)= .agg (enc (srt cf xs)[i]).toArray:=by
          simp only [pick,cond_true,Value.agg.injEq]
          apply Array.ext_getElem?
          intro j
          rw [Array.getElem?_extract]
          have hm:=hmul i hi2
          simp only [List.getElem?_toArray]
          by_cases hj:j < k
          · rw [if_pos (by simp only [putCells,Array.size_mapIdx];omega)]
            have hlt:i*k+j < d.size*k:=by
              rw [hd]
              have:=Nat.mul_le_mul_right k (show i+1≤xs.length from hi2);rw [Nat.add_mul,Nat.one_mul] at this;omega
            simp only [putCells,Array.getElem?_mapIdx,size_flatK]
            have hcs:cs[i*k+j]? =some (cs[i*k+j]'(by omega)):=by rw [Array.getElem?_eq_getElem]
            rw [hcs]
            simp only [Option.map_some]
            rw [if_pos ⟨Nat.zero_le _,by omega⟩,Nat.sub_zero,flat_at hk d (by rw [hd];exact hi2) hj,hdi]
            have hjl:j < (enc (srt cf xs)[i]).length:=by rw [hk];exact hj
            rw [getElem!_pos (enc (srt cf xs)[i]) j hjl,List.getElem?_eq_getElem hjl];rfl
          · rw [if_neg (by simp only [putCells,Array.size_mapIdx];omega),List.getElem?_eq_none (by rw [hk];omega)]
        simp only []
        rw [this]
        exact hf2 _ _ _
    · simp only [List.mem_singleton] at hx hy
      subst hx;subst hy
      exact absurd rfl hne
    · obtain ⟨x,hx,hc,rfl⟩:=hb'
      simp only [List.mem_singleton] at hx
      subst hx
      exact ⟨(1,⟨T,k,true,rV f xs⟩),by simp,hc,rfl⟩
end An

/- Layer 4: sets of days. -/
namespace An.S
open Go Go.Proofs An
open Go.RowKit Go.Sort
set_option maxHeartbeats 2000000
instance fo62_0:FoI Tryz.prog 62 0 0:=⟨by kernel_rfl⟩
instance fo62_1:FoI Tryz.prog 62 1 1:=⟨by kernel_rfl⟩
instance fi152:FnI Tryz.prog 152:=⟨_,Tryz.func152,by kernel_rfl,rfl⟩
instance fi153:FnI Tryz.prog 153:=⟨_,Tryz.func153,by kernel_rfl,rfl⟩
theorem el62:ElI Tryz.prog 62 2 16 true (.agg #[.int .i64 0,.int .i64 0]):=⟨ti62,by kernel_rfl,by kernel_rfl⟩
theorem zf62:Flat 2 true (.agg #[.int .i64 0,.int .i64 0]):=flat_agg (by intro u hu;simp at hu;rcases hu with rfl | rfl <;> rfl)
def cmpI (a b:Int):Int:=if a < b then -1 else if b < a then 1 else 0
theorem cmpInt (a b:Int) (W:World):Calls Tryz.prog 155 #[.int .i64 a,.int .i64 b] W fun e w'=>e= .returned (.int .i64 (cmpI a b))∧w'=W:=by
  have hn: ∀(x:Int) (W:World),Calls Tryz.prog 212 #[.int .i64 x] W fun e w'=>e= .returned (.bool false)∧w'=W:=fun x W=>by
    have h1:(x==x)=true:=by simp
    go_enter Tryz.func212,Tryz.ntmps212
    go_wp2
    go_ret
    exact ⟨by simp,rfl⟩
  by_cases h1:a < b
  · rw [show cmpI a b= -1 by simp [cmpI,h1]]
    go_enter Tryz.func155,Tryz.ntmps155
    go_wp2_with (go_at_call 212;refine (hn _ _).mono ?_;rintro e w' ⟨rfl,rfl⟩)
    go_ret
    exact ⟨rfl,rfl⟩
  · by_cases h2:b < a
    · rw [show cmpI a b=1 by simp [cmpI,h1,h2]]
      go_enter Tryz.func155,Tryz.ntmps155
      go_wp2_with (go_at_call 212;refine (hn _ _).mono ?_;rintro e w' ⟨rfl,rfl⟩)
      go_ret
      exact ⟨rfl,rfl⟩
    · rw [show cmpI a b=0 by simp [cmpI,h1,h2]]
      go_enter Tryz.func155,Tryz.ntmps155
      go_wp2_with (go_at_call 212;refine (hn _ _).mono ?_;rintro e w' ⟨rfl,rfl⟩)
      go_ret
      exact ⟨rfl,rfl⟩
/-- The numbers of the functions and types of slices.SortFunc in this program. -/
def sortSpanR:Go.Shelf.Ren:=⟨fun n=>match n with | 6=>153 | 14=>210 | 15=>211 | 20=>236 | 21=>237 | 22=>238 | 23=>239 | 24=>240 | 25=>241 | 26=>242 | 27=>243 | 28=>244 | 29=>245 | 46=>256 | 47=>257 | 48=>258 | 49=>259 | 50=>260 | 57=>268 | n=>n,fun n=>match n with | 0=>0 | 3=>3 | 4=>4 | 5=>5 | 9=>9 | 22=>45 | 24=>62 | 25=>182 | 39=>121 | 45=>285 | 46=>286 | 50=>290 | 53=>262 | 55=>68 | 66=>304 | 70=>308 | 76=>316 | 77=>317 | n=>n,fun n=>n⟩
theorem sortSpan:Go.Proofs.SlLaysF0.n6 Tryz.prog sortSpanR where
  mixed:=by kernel_rfl
  f6:=⟨Tryz.f153.name,by kernel_rfl,by kernel_rfl⟩
  f14:=⟨Tryz.f210.name,by kernel_rfl,by kernel_rfl⟩
  f15:=by kernel_rfl
  f20:=⟨Tryz.f236.name,by kernel_rfl,by kernel_rfl⟩
  f21:=⟨Tryz.f237.name,by kernel_rfl,by kernel_rfl⟩
  f22:=⟨Tryz.f238.name,by kernel_rfl,by kernel_rfl⟩
  f23:=⟨Tryz.f239.name,by kernel_rfl,by kernel_rfl⟩
  f24:=⟨Tryz.f240.name,by kernel_rfl,by kernel_rfl⟩
  f25:=⟨Tryz.f241.name,by kernel_rfl,by kernel_rfl⟩
  f26:=⟨Tryz.f242.name,by kernel_rfl,by kernel_rfl⟩
  f27:=⟨Tryz.f243.name,by kernel_rfl,by kernel_rfl⟩
  f28:=by kernel_rfl
  f29:=by kernel_rfl
  f46:=⟨Tryz.f256.name,by kernel_rfl,by kernel_rfl⟩
  f47:=by kernel_rfl
  f48:=by kernel_rfl
  f49:=⟨Tryz.f259.name,by kernel_rfl,by kernel_rfl⟩
  f50:=⟨Tryz.f260.name,by kernel_rfl,by kernel_rfl⟩
  f57:=⟨Tryz.f268.name,by kernel_rfl,by kernel_rfl⟩
  t0:=by kernel_rfl
  a0:=fun w=>by kernel_rfl
  z0:=fun w=>by kernel_rfl
  v0:=fun w=>by kernel_rfl
  t3:=by kernel_rfl
  a3:=fun w=>by kernel_rfl
  z3:=fun w=>by kernel_rfl
  v3:=fun w=>by kernel_rfl
  t4:=by kernel_rfl
  a4:=fun w=>by kernel_rfl
  z4:=fun w=>by kernel_rfl
  v4:=fun w=>by kernel_rfl
  t5:=by kernel_rfl
  a5:=fun w=>by kernel_rfl
  z5:=fun w=>by kernel_rfl
  v5:=fun w=>by kernel_rfl
  t9:=by kernel_rfl
  a9:=fun w=>by kernel_rfl
  z9:=fun w=>by kernel_rfl
  v9:=fun w=>by kernel_rfl
  t22:=by kernel_rfl
  a22:=fun w=>by kernel_rfl
  z22:=fun w=>by kernel_rfl
  v22:=fun w=>by kernel_rfl
  t25:=by kernel_rfl
  a25:=fun w=>by kernel_rfl
  z25:=fun w=>by kernel_rfl
  v25:=fun w=>by kernel_rfl
  t39:=by kernel_rfl
  a39:=fun w=>by kernel_rfl
  z39:=fun w=>by kernel_rfl
  v39:=fun w=>by kernel_rfl
  t45:=by kernel_rfl
  a45:=fun w=>by kernel_rfl
  z45:=fun w=>by kernel_rfl
  v45:=fun w=>by kernel_rfl
  t46:=by kernel_rfl
  a46:=fun w=>by kernel_rfl
  z46:=fun w=>by kernel_rfl
  v46:=fun w=>by kernel_rfl
  t50:=by kernel_rfl
  a50:=fun w=>by kernel_rfl
  z50:=fun w=>by kernel_rfl
  v50:=fun w=>by kernel_rfl
  t53:=by kernel_rfl
  a53:=fun w=>by kernel_rfl
  z53:=fun w=>by kernel_rfl
  v53:=fun w=>by kernel_rfl
  t55:=by kernel_rfl
  a55:=fun w=>by kernel_rfl
  z55:=fun w=>by kernel_rfl
  v55:=fun w=>by kernel_rfl
  t66:=by kernel_rfl
  a66:=fun w=>by kernel_rfl
  z66:=fun w=>by kernel_rfl
  v66:=fun w=>by kernel_rfl
  t70:=by kernel_rfl
  a70:=fun w=>by kernel_rfl
  z70:=fun w=>by kernel_rfl
  v70:=fun w=>by kernel_rfl
  t76:=by kernel_rfl
  a76:=fun w=>by kernel_rfl
  z76:=fun w=>by kernel_rfl
  v76:=fun w=>by kernel_rfl
  t77:=by kernel_rfl
  a77:=fun w=>by kernel_rfl
  z77:=fun w=>by kernel_rfl
  v77:=fun w=>by kernel_rfl
def cfSn (x y:Sn):Int:=cmpI x.lo y.lo
def encSn (x:Sn):List Value:=[.int .i64 x.lo,.int .i64 x.hi]
theorem ltSn (x y:Sn):Go.Proofs.ltOf cfSn x y=decide (x.lo < y.lo):=by
  unfold Go.Proofs.ltOf cfSn cmpI
  by_cases h1:x.lo < y.lo
  · simp [h1]
  · by_cases h2:y.lo < x.lo <;> simp [h1,h2]
theorem swoSn:SWO (Go.Proofs.ltOf cfSn) where
  irrefl x:=by rw [ltSn];simp
  trans x y z h1 h2:=by rw [ltSn] at*;simp at*;omega
  ntrans x y z h1 h2:=by rw [ltSn] at*;simp at*;omega
theorem closSn (x y:Sn) (W:World):Calls Tryz.prog 154 #[.agg (encSn x).toArray,.agg (encSn y).toArray] W fun e w'=>e= .returned (.int .i64 (cfSn x y))∧ ∃q os',w'=grow (W.drewN q) os':=by
  have hcon:=fun W'=>cmpInt x.lo y.lo W'
  show Calls Tryz.prog 154 #[.agg #[.int .i64 x.lo,.int .i64 x.hi],.agg #[.int .i64 y.lo,.int .i64 y.hi]] W fun e w'=>e= .returned (.int .i64 (cmpI x.lo y.lo))∧ ∃q os',w'=grow (W.drewN q) os'
  generalize cmpI x.lo y.lo=r at hcon ⊢
  go_enter Tryz.func154,Tryz.ntmps154
  go_wp2_with (go_at_call 155;refine (hcon _).mono ?_;rintro e w' ⟨rfl,rfl⟩)
  go_ret
  exact ⟨rfl,0,_,by rw [alloc_eq_grow,alloc_eq_grow,grow_grow];rfl⟩
theorem c_sortSn (xs:List Sn) (hn:xs.length < 4611686018427387904):CtG Tryz.prog 153 [(1,⟨62,2,true,rV tSn xs⟩)] [.own (.sl 1 2 0 xs.length),.val (tE (.func (.func 154) #[] #[]))] (.val (tE (.tuple #[]))) [(1,⟨62,2,true,rV tSn (srt cfSn xs)⟩)] []:=
  sortG sortSpan (enc:=encSn) (cf:=cfSn) (fun w=>by kernel_rfl) (fun w=>by kernel_rfl) (fun _=>rfl) (fun x v hv=>by simp [encSn] at hv;rcases hv with rfl | rfl <;> rfl) (fun F w x v h=>tSn_val h) (fun F w x=>tSn_mk) swoSn (enters_of Tryz.func154 (by kernel_rfl) rfl) closSn xs hn
theorem srtSn_len {xs:List Sn}:(srt cfSn xs).length=xs.length:=(srt_spec swoSn xs).1
/-- The set of the days of spans. -/
def pos (s:Sn):Bool:=decide (s.lo < s.hi)
def mkS (l:List Sn):List Sn:=mrg (srt cfSn (l.filter pos))
theorem filter_next {l:List Sn} {i:Nat} (hi:i < l.length):(l.take (i+1)).filter pos=(l.take i).filter pos++(if pos (l.getD i sn0) then [l.getD i sn0] else []):=by
  rw [List.take_succ_eq_append_getElem hi,List.filter_append,List.getD_eq_getElem?_getD,List.getElem?_eq_getElem hi]
  by_cases h:pos l[i]=true <;> simp [h]
theorem mrg_next {l:List Sn} {i:Nat} (hi:i < l.length):mrg (l.take (i+1))=mrg1 (mrg (l.take i)) (l.getD i sn0):=by
  rw [List.take_succ_eq_append_getElem hi,mrg,List.foldl_append,List.getD_eq_getElem?_getD,List.getElem?_eq_getElem hi];rfl
theorem allS_next {p:Sn→Bool} {l:List Sn} {i:Nat} (hi:i < l.length):(l.take (i+1)).all p=((l.take i).all p && p (l.getD i sn0)):=by
  rw [List.take_succ_eq_append_getElem hi,List.all_append,List.getD_eq_getElem?_getD,List.getElem?_eq_getElem hi];simp
theorem allS_stop {p:Sn→Bool} {l:List Sn} {i:Nat} (hi:i < l.length) (h:p (l.getD i sn0)=false):l.all p=false:=by
  rw [List.all_eq_false]
  exact ⟨l.getD i sn0,by rw [List.getD_eq_getElem?_getD,List.getElem?_eq_getElem hi];exact List.getElem_mem hi,by rw [h];exact Bool.false_ne_true⟩
theorem mrg1_len (acc:List Sn) (s:Sn):(mrg1 acc s).length≤acc.length+1:=by
  rw [mrg1];split <;> simp
theorem mrg_len: ∀(xs acc:List Sn),(xs.foldl mrg1 acc).length≤acc.length+xs.length
  | [],acc=>by simp
  | s::r,acc=>by
    have h1:=mrg_len r (mrg1 acc s)
    have h2:=mrg1_len acc s
    simp only [List.foldl_cons,List.length_cons]
    omega
theorem filter_le {l:List Sn} {i:Nat}:((l.take i).filter pos).length≤i:=by
  have h1:=List.length_filter_le pos (l.take i)
  rw [List.length_take] at h1;omega
theorem c_isSpan (s:Sn):
  Ct Tryz.prog 152 [tSn s] (tB s.ok):=by
 refine Ct.intro Tryz.func152 rfl Tryz.ntmps152 rfl ?_
 intro w F
 refine A9 ?_
 refine A3 ?_
 refine RGcaseD (t:=6) rfl (fun h15=> ?_) (fun h15=> ?_)
 ·
  refine A7 ?_
  refine RGcaseD (t:=13) rfl (fun h15_2=> ?_) (fun h15_2=> ?_)
  ·
   refine A8 ?_
   exact x4 Plain.mk' rfl rfl (Le.bool (by simp [Sn.ok, *]))
  ·
   refine A8 ?_
   exact x4 Plain.mk' rfl rfl (Le.bool (by simp [Sn.ok, *]))
 ·
  refine A9 ?_
  refine A6 ?_
  exact x4 Plain.mk' rfl rfl (Le.bool (by simp [Sn.ok, *]))
theorem c_SnMake (l:List Sn) (hl:l.length≤1000000):
  Ct Tryz.prog 86 [tL 2 true tSn l] (tT [tL 2 true tSn (if l.all Sn.ok=true then mkS l else []),tI (if l.all Sn.ok=true then 0 else 2)]):=by
 refine Ct.intro Tryz.func86 rfl Tryz.ntmps86 rfl ?_
 intro w F
 refine A8 ?_
 refine RE (xd3 (k:=4) 62 2 true rfl (fun h=>by cases h)) trivial trivial ⟨rfl,trivial⟩ ?_
 refine A9 ?_
 refine A2 ?_
 refine cL (fun (fm:(Nat)×(List Sn))=>(fun (i:Nat) (xs:List Sn)=>i≤l.length∧(l.take i).all Sn.ok=true∧xs=(l.take i).filter pos) fm.1 fm.2) (fun (fm:(Nat)×(List Sn))=>(fun (i:Nat) (xs:List Sn)=>upd (upd (upd (upd (upd (fun _=>none) 0 (some (.val (tL 2 true tSn l)))) 4 (some (.own (.sl 4 2 0 xs.length)))) 11 (some (.val (tL 2 true tSn l)))) 12 (some (.val (tI l.length)))) 13 (some (.val (tI i)))) fm.1 fm.2) (fun (fm:(Nat)×(List Sn))=>(fun (i:Nat) (xs:List Sn)=>upd (fun _=>none) 4 (some (⟨62,2,true,rV tSn xs⟩))) fm.1 fm.2) [4] (fun (fm:(Nat)×(List Sn))=>(fun (i:Nat) (xs:List Sn)=>l.length - i) fm.1 fm.2) ((0,[])) (by dsimp only;exact ⟨Nat.zero_le _,rfl,rfl⟩) (hh:=((SubK.consI rfl ImpK.refl) SubK.nil)) ?_
 intro fm hI
 obtain ⟨i,xs⟩:=fm
 replace hI:i≤l.length∧(l.take i).all Sn.ok=true∧xs=(l.take i).filter pos:=hI
 show wc _ _ _ _ (upd (upd (upd (upd (upd (fun _=>none) 0 (some (.val (tL 2 true tSn l)))) 4 (some (.own (.sl 4 2 0 xs.length)))) 11 (some (.val (tL 2 true tSn l)))) 12 (some (.val (tI l.length)))) 13 (some (.val (tI i)))) (upd (fun _=>none) 4 (some (⟨62,2,true,rV tSn xs⟩))) _
 obtain ⟨hi,ha,hx⟩:=hI
 have hxl:xs.length≤i:=hx▸filter_le
 refine A6 ?_
 refine x9 rfl (fun h31=> ?_) (fun h31=> ?_)
 ·
  refine A6 ?_
  refine R2 (x6 sl45 (i) (by omega) (gD (l:=l) (n:=i) (d:=sn0) (by omega))) rfl rfl ?_
  refine A1 ?_
  refine RE (xa6 (k:=6) (n:=2) (agg:=true) zr62.1 zr62.2 rfl) trivial trivial ⟨rfl,trivial⟩ ?_
  refine A7 ?_
  refine R1 (x3 (c_isSpan _) fi152 rfl) rfl ?_
  refine A3 ?_
  refine xd2 rfl (fun h32=> ?_) (fun h32=> ?_)
  ·
   have hbad:l.all Sn.ok=false:=allS_stop (i:=i) (by omega) (by rw [Bool.not_eq_true'] at h32;exact h32)
   refine A9 ?_
   refine A4 ?_
   exact xc8 Plain.mk' rfl rfl rfl (leNil (by rw [if_neg (by rw [hbad];exact Bool.false_ne_true)])) (Le.int (by rw [if_neg (by rw [hbad];exact Bool.false_ne_true)]))
  ·
   rw [Bool.not_eq_false'] at h32
   refine A9 ?_
   refine A2 ?_
   refine x9 rfl (fun h35=> ?_) (fun h35=> ?_)
   ·
    refine A3 ?_
    refine R1 (xd6 (n:=1) (f:=tSn) [(l.getD i sn0)] Tryz.underlying45 el62 zf62 rfl (fun _=>inferInstance) rfl rfl rfl) rfl (RE (xc1 (k:=4) (k':=28) (f:=tSn) (ys:=[(l.getD i sn0)]) (ts':=rV tSn (xs++[(l.getD i sn0)])) Tryz.underlying45 el62 zf62 rfl rfl (fun _=>inferInstance) xf1 (by simp;omega) (by simp;omega) (by simp [rV]) (n':=xs.length+1) rfl) ⟨rfl,rfl,trivial⟩ ⟨rfl,trivial⟩ ⟨rfl,trivial⟩ ?_)
    refine A8 ?_
    exact xe6 (l:=[4]) (fun j=>cond (Nat.beq j 4) 28 (j)) ((i+1,xs++[(l.getD i sn0)])) ⟨(by dsimp only;exact ⟨by omega,by rw [allS_next (by omega),ha,h32];rfl,by rw [filter_next (by omega),←hx,if_pos (show pos _=true from decide_eq_true h35)]⟩),(by dsimp only;omega)⟩ (SubR.int rfl (by first | omega | rfl | (dsimp only;omega)) (SubR.int rfl (by first | omega | rfl | (dsimp only;omega)) (SubR.cons rfl ((SubR.consI rfl (Imp.of (by dsimp only;rw [List.length_append];rfl))) (SubR.cons rfl SubR.nil))))) ((SubKR.consI rfl (ImpK.of xb9.symm)) SubKR.nil) (SupG.val (SupG.val (SupG.val (SupG.own rfl (SupG.val SupG.nil))))) (SupH.cons rfl (supJ xa9) SupH.nil) (lkOk rfl) rfl rfl (fun _ h=>by cases h)
   ·
    refine A7 ?_
    exact kF ((i+1,xs)) ⟨(by dsimp only;exact ⟨by omega,by rw [allS_next (by omega),ha,h32];rfl,by rw [filter_next (by omega),←hx,if_neg (by rw [pos,decide_eq_false h35];exact Bool.false_ne_true),List.append_nil]⟩),(by dsimp only;omega)⟩ (hh:=((SubK.consI rfl ImpK.refl) SubK.nil))
 ·
  refine A6 ?_
  have hil:i=l.length:=by omega
  subst hil
  rw [List.take_length] at ha hx
  have hall:=ha
  have hmk:mkS l=mrg (srt cfSn xs):=by rw [mkS,hx]
  refine A2 ?_
  refine RE (xe0 (fun _=>4) (c_sortSn xs (by omega)) fi153 rfl (krC (ρ:=fun _=>4) (k:=1) xb9 (krN (ρ:=fun _=>4))) (krC (ρ:=fun _=>4) (k:=1) xb9 (krN (ρ:=fun _=>4))) ⟨⟨rfl,xa9⟩,trivial⟩ rfl) ⟨rfl,rfl,trivial⟩ ⟨rfl,trivial⟩ trivial ?_
  refine A4 ?_
  refine RE (xd3 (k:=7) 62 2 true rfl (fun h=>by cases h)) trivial trivial ⟨rfl,trivial⟩ ?_
  refine A9 ?_
  refine A2 ?_
  refine cL (fun (fm:(Nat)×(List Sn))=>(fun (i:Nat) (zs:List Sn)=>i≤xs.length∧zs=mrg ((srt cfSn xs).take i)) fm.1 fm.2) (fun (fm:(Nat)×(List Sn))=>(fun (i:Nat) (zs:List Sn)=>upd (upd (upd (upd (upd (fun _=>none) 4 (some (.own (.sl 4 2 0 xs.length)))) 7 (some (.own (.sl 7 2 0 zs.length)))) 32 (some (.own (.sl 4 2 0 xs.length)))) 33 (some (.val (tI xs.length)))) 34 (some (.val (tI i)))) fm.1 fm.2) (fun (fm:(Nat)×(List Sn))=>(fun (i:Nat) (zs:List Sn)=>upd (upd (fun _=>none) 4 (some (⟨62,2,true,rV tSn (srt cfSn xs)⟩))) 7 (some (⟨62,2,true,rV tSn zs⟩))) fm.1 fm.2) [4,7] (fun (fm:(Nat)×(List Sn))=>(fun (i:Nat) (zs:List Sn)=>xs.length - i) fm.1 fm.2) ((0,[])) (by dsimp only;exact ⟨Nat.zero_le _,rfl⟩) (hh:=((SubK.consI rfl ImpK.refl) ((SubK.consI rfl ImpK.refl) SubK.nil))) ?_
  intro fm hI
  obtain ⟨i,zs⟩:=fm
  replace hI:i≤xs.length∧zs=mrg ((srt cfSn xs).take i):=hI
  show wc _ _ _ _ (upd (upd (upd (upd (upd (fun _=>none) 4 (some (.own (.sl 4 2 0 xs.length)))) 7 (some (.own (.sl 7 2 0 zs.length)))) 32 (some (.own (.sl 4 2 0 xs.length)))) 33 (some (.val (tI xs.length)))) 34 (some (.val (tI i)))) (upd (upd (fun _=>none) 4 (some (⟨62,2,true,rV tSn (srt cfSn xs)⟩))) 7 (some (⟨62,2,true,rV tSn zs⟩))) _
  obtain ⟨hi',hz⟩:=hI
  have hsl:=srtSn_len (xs:=xs)
  have hzl:zs.length≤i:=by
   have h:=mrg_len ((srt cfSn xs).take i) []
   rw [List.length_take] at h
   have h2:zs.length≤([]:List Sn).length+min i (srt cfSn xs).length:=by rw [hz];exact h
   simp at h2;omega
  refine A6 ?_
  refine x9 rfl (fun h41=> ?_) (fun h41=> ?_)
  ·
   refine A6 ?_
   refine R2 (xa5 sl45 (by omega) (by omega) rfl) rfl rfl (RE (xb2 (i) ti62 (xh3 (d:=sn0) (by omega)) (by omega)) ⟨rfl,trivial⟩ ⟨rfl,trivial⟩ trivial (RE (xa6 (k:=9) (n:=2) (agg:=true) zr62.1 zr62.2 rfl) trivial trivial ⟨rfl,trivial⟩ ?_))
   refine A9 ?_
   refine A6 ?_
   refine RGcaseD (t:=42) rfl (fun h42=> ?_) (fun h42=> ?_)
   ·
    refine A2 ?_
    refine RGon (decide_eq_true h42) rfl (xe4 (wr64 (by omega) (by omega))) rfl ⟨rfl,rfl,trivial⟩ trivial trivial (RGon (decide_eq_true h42) rfl (xa5 sl45 (by omega) (by omega) rfl) rfl ⟨rfl,rfl,trivial⟩ trivial trivial ?_)
    refine A1 ?_
    refine RGon (decide_eq_true h42) rfl (d_loadF (es:=2) (o:=1) (zs.length - 1) ti3 (xh3 (d:=sn0) (by omega)) (At.g 1 rfl rfl) (by omega)) rfl ⟨rfl,trivial⟩ ⟨rfl,trivial⟩ trivial ?_
    refine A6 ?_
    refine x9 rfl (fun h42_2=> ?_) (fun h42_2=> ?_)
    ·
     refine A7 ?_
     refine R2 (xa5 sl45 (by omega) (by omega) rfl) rfl rfl ?_
     refine A1 ?_
     refine RE (d_loadF (es:=2) (o:=1) (zs.length - 1) ti3 (xh3 (d:=sn0) (by omega)) (At.g 1 rfl rfl) (by omega)) ⟨rfl,trivial⟩ ⟨rfl,trivial⟩ trivial ?_
     refine A2 ?_
     refine R2 d_max2 rfl rfl (R2 (xa5 sl45 (by omega) (by omega) rfl) rfl rfl ?_)
     refine A1 ?_
     refine RE (d_storeF (es:=2) (o:=1) (t2:=tSn ⟨(zs.getD (zs.length - 1) sn0).lo,max (zs.getD (zs.length - 1) sn0).hi ((srt cfSn xs).getD i sn0).hi⟩) (zs.length - 1) ti3 (xh3 (d:=sn0) (by omega)) (Up.f (f:=⟨1,false,tI (zs.getD (zs.length - 1) sn0).hi⟩) 1 rfl rfl rfl) (by omega) (rV_set rfl)) ⟨rfl,rfl,trivial⟩ ⟨rfl,trivial⟩ trivial ?_
     refine A7 ?_
     exact kF ((i+1,(zs.set (zs.length - 1) ⟨(zs.getD (zs.length - 1) sn0).lo,max (zs.getD (zs.length - 1) sn0).hi ((srt cfSn xs).getD i sn0).hi⟩))) ⟨(by dsimp only;exact ⟨by omega,by rw [mrg_next (by omega),←hz,mrg1,if_pos ⟨by omega,by omega⟩]⟩),(by dsimp only;omega)⟩ (hg:=(sI (sI (sC ((Sub.consI rfl (Imp.of (by dsimp only;rw [List.length_set]))) (sC Sub.nil)))))) (hh:=((SubK.consI rfl ImpK.refl) ((SubK.consI rfl ImpK.refl) SubK.nil)))
    ·
     refine A3 ?_
     refine R1 (xd6 (n:=1) (f:=tSn) [((srt cfSn xs).getD i sn0)] Tryz.underlying45 el62 zf62 rfl (fun _=>inferInstance) rfl rfl rfl) rfl (RE (xc1 (k:=7) (k':=70) (f:=tSn) (ys:=[((srt cfSn xs).getD i sn0)]) (ts':=rV tSn (zs++[((srt cfSn xs).getD i sn0)])) Tryz.underlying45 el62 zf62 rfl rfl (fun _=>inferInstance) xf1 (by simp;omega) (by simp;omega) (by simp [rV]) (n':=zs.length+1) rfl) ⟨rfl,rfl,trivial⟩ ⟨rfl,trivial⟩ ⟨rfl,trivial⟩ ?_)
     refine A8 ?_
     exact xe6 (l:=[4,7]) (fun j=>cond (Nat.beq j 7) 70 (j)) ((i+1,zs++[((srt cfSn xs).getD i sn0)])) ⟨(by dsimp only;exact ⟨by omega,by rw [mrg_next (by omega),←hz,mrg1,if_neg (by omega)]⟩),(by dsimp only;omega)⟩ (SubR.int rfl (by first | omega | rfl | (dsimp only;omega)) (SubR.int rfl (by first | omega | rfl | (dsimp only;omega)) (SubR.cons rfl ((SubR.consI rfl (Imp.of (by dsimp only;rw [List.length_append];rfl))) (SubR.cons rfl SubR.nil))))) ((SubKR.consI rfl (ImpK.of xb9.symm)) ((SubKR.consI rfl (ImpK.of xb9.symm)) SubKR.nil)) (SupG.val (SupG.val (SupG.own rfl (SupG.own rfl (SupG.own rfl SupG.nil))))) (SupH.cons rfl (supJ xa9) (SupH.cons rfl (supJ xa9) SupH.nil)) (lkOk rfl) rfl rfl (fun _ h=>by cases h)
   ·
    refine A9 ?_
    refine A7 ?_
    refine R1 (xd6 (n:=1) (f:=tSn) [((srt cfSn xs).getD i sn0)] Tryz.underlying45 el62 zf62 rfl (fun _=>inferInstance) rfl rfl rfl) rfl (RE (xc1 (k:=7) (k':=70) (f:=tSn) (ys:=[((srt cfSn xs).getD i sn0)]) (ts':=rV tSn (zs++[((srt cfSn xs).getD i sn0)])) Tryz.underlying45 el62 zf62 rfl rfl (fun _=>inferInstance) xf1 (by simp;omega) (by simp;omega) (by simp [rV]) (n':=zs.length+1) rfl) ⟨rfl,rfl,trivial⟩ ⟨rfl,trivial⟩ ⟨rfl,trivial⟩ ?_)
    refine A8 ?_
    exact xe6 (l:=[4,7]) (fun j=>cond (Nat.beq j 7) 70 (j)) ((i+1,zs++[((srt cfSn xs).getD i sn0)])) ⟨(by dsimp only;exact ⟨by omega,by rw [mrg_next (by omega),←hz,mrg1,if_neg (by omega)]⟩),(by dsimp only;omega)⟩ (SubR.int rfl (by first | omega | rfl | (dsimp only;omega)) (SubR.int rfl (by first | omega | rfl | (dsimp only;omega)) (SubR.cons rfl ((SubR.consI rfl (Imp.of (by dsimp only;rw [List.length_append];rfl))) (SubR.cons rfl SubR.nil))))) ((SubKR.consI rfl (ImpK.of xb9.symm)) ((SubKR.consI rfl (ImpK.of xb9.symm)) SubKR.nil)) (SupG.val (SupG.val (SupG.own rfl (SupG.own rfl (SupG.own rfl SupG.nil))))) (SupH.cons rfl (supJ xa9) (SupH.cons rfl (supJ xa9) SupH.nil)) (lkOk rfl) rfl rfl (fun _ h=>by cases h)
  ·
   refine A8 ?_
   refine RE (d_assignS (f:=tSn) (xs:=zs) (fun _ h=>h) (rV_all rfl) rfl) ⟨rfl,trivial⟩ ⟨rfl,trivial⟩ trivial ?_
   refine A4 ?_
   exact xc8 Plain.mk' rfl rfl rfl (Le.of (by rw [if_pos hall,hmk,hz,show i=(srt cfSn xs).length by omega,List.take_length])) (Le.int (by rw [if_pos hall]))
end An.S

/- A slice of memory that was lent gets a name of one's own. For any program. -/
namespace An
open Go
theorem C_renS {P:Program} {c:Base} {g:Slots} {h:Keys} {al:Names} {Q:Exit→Act→World→Prop} {x:Code} {t k es off len:Nat} {y:HEnt} (k':Nat) (hs:g t=some (.own (.sl k es off len))) (hk:h k=some y) (hk':al k'=false)
    (H:wc P c x Q (upd g t (some (.own (.sl k' es off len)))) (upd (upd h k none) k' (some y)) (fun j=>Nat.beq j k' || al j)):wc P c x Q g h al:=fun a w hst=>by
  obtain ⟨η,s⟩:=hst
  have s2:=s.rename hk hk'
  have h1:=(s2.slot t _ hs).2.2
  have hk1:k≠k':=fun e=>by have:=(s.key k _ hk).1;rw [e,hk'] at this;cases this
  obtain ⟨hb,hc⟩:=η.set_other (k:=k') (j:=k) (η.b k) (η.c k) hk1
  have h2:Ent.sat (c.dom (upd (upd h k none) k' (some y)) (η.set k' (η.b k) (η.c k))) w (η.set k' (η.b k) (η.c k)) (.own (.sl k' es off len)) (a.tmps.getD t undef):=by
    obtain ⟨A,e1,e2,e3⟩:=h1
    rw [hc] at e1 e2 e3;rw [hb] at e3
    exact ⟨A,by rw [Env.set_c];exact e1,by rw [Env.set_c];exact e2,by rw [Env.set_c,Env.set_b];exact e3⟩
  have s3:=s2.put (s2.slot t _ hs).1 h2 fun j hj=>by
    simp only [Ent.supp,VP.supp,List.mem_singleton] at hj
    subst hj;simp
  have ea:a.put (some t) (a.tmps.getD t undef)=a:=by
    have hlt:t < a.tmps.size:=by rw [s.tn];exact (s.slot t _ hs).1
    have:a.tmps.setIfInBounds t (a.tmps.getD t undef)=a.tmps:=by
      apply Array.ext_getElem?
      intro i
      rw [Array.getElem?_setIfInBounds]
      by_cases hi:t=i
      · subst hi;simp [hlt]
      · simp [hi]
    simp only [Act.put,this]
  rw [ea] at s3
  exact H a w ⟨_,s3⟩
end An

/- Layers 4 and 5: sets are checked and bridged, pieces of timelines are put together. -/
namespace An.S
open Go Go.Proofs An
set_option maxHeartbeats 2000000
instance fi73:FnI Tryz.prog 73:=⟨_,Tryz.func73,by kernel_rfl,rfl⟩
instance fi87:FnI Tryz.prog 87:=⟨_,Tryz.func87,by kernel_rfl,rfl⟩
instance fi186:FnI Tryz.prog 186:=⟨_,Tryz.func186,by kernel_rfl,rfl⟩
instance fi187:FnI Tryz.prog 187:=⟨_,Tryz.func187,by kernel_rfl,rfl⟩
instance fi218:FnI Tryz.prog 218:=⟨_,Tryz.func218,by kernel_rfl,rfl⟩
theorem el34:ElI Tryz.prog 34 8 96 true (.agg #[.int .i64 0,.int .i64 0,.int .u8 0,.bool false,.slice none 0 0,.bool false,.slice none 0 0,.int .i64 0]):=⟨ti34,by kernel_rfl,by kernel_rfl⟩
theorem zf34:Flat 8 true (.agg #[.int .i64 0,.int .i64 0,.int .u8 0,.bool false,.slice none 0 0,.bool false,.slice none 0 0,.int .i64 0]):=flat_agg (by intro u hu;simp at hu;rcases hu with rfl | rfl | rfl | rfl | rfl | rfl | rfl | rfl <;> rfl)
/-- A span and the one before it. -/
def sOkA (l:List Sn) (i:Nat):Bool:=(l.getD i sn0).ok && decide ((l.getD i sn0).lo≠(l.getD i sn0).hi) && (decide (i=0) || decide ((l.getD (i - 1) sn0).hi < (l.getD i sn0).lo))
def sVal (l:List Sn):Bool:=(List.range l.length).all (sOkA l)
theorem xi5 {l:List Sn} {i:Nat}:sOkA l i=true↔(l.getD i sn0).ok=true∧(l.getD i sn0).lo≠(l.getD i sn0).hi∧(i=0∨(l.getD (i - 1) sn0).hi < (l.getD i sn0).lo):=by
  simp only [sOkA,Bool.and_eq_true,Bool.or_eq_true,decide_eq_true_eq,and_assoc]
theorem sVal_bad {l:List Sn} {i:Nat} (hi:i < l.length) (h: ¬((l.getD i sn0).ok=true∧(l.getD i sn0).lo≠(l.getD i sn0).hi∧(i=0∨(l.getD (i - 1) sn0).hi < (l.getD i sn0).lo))):false=sVal l:=by
  rw [sVal,ranges_stop hi (Bool.eq_false_iff.2 fun h'=>h (xi5.1 h'))]
theorem xe5 {l:List Sn} {i:Nat} (h:sVal l=true) (hi:i < l.length):0≤(l.getD i sn0).lo∧(l.getD i sn0).lo < (l.getD i sn0).hi∧(l.getD i sn0).hi≤65536:=by
  have h1:=xi5.1 (List.all_eq_true.1 h i (List.mem_range.2 hi))
  simp only [Sn.ok,Bool.and_eq_true,decide_eq_true_eq] at h1
  omega
/-- Bridged: a span, behind a set. -/
def brg1 (d:Int) (acc:List Sn) (s:Sn):List Sn:=
  if 0 < acc.length∧s.lo - (acc.getD (acc.length - 1) sn0).hi≤d then acc.set (acc.length - 1) ⟨(acc.getD (acc.length - 1) sn0).lo,s.hi⟩ else acc++[s]
def brg (d:Int) (l:List Sn):List Sn:=l.foldl (brg1 d) []
theorem brg_next {d:Int} {l:List Sn} {i:Nat} (hi:i < l.length):brg d (l.take (i+1))=brg1 d (brg d (l.take i)) (l.getD i sn0):=by
  rw [List.take_succ_eq_append_getElem hi,brg,List.foldl_append,List.getD_eq_getElem?_getD,List.getElem?_eq_getElem hi];rfl
theorem set_last {l:List Sn} {x:Sn} (h:0 < l.length):(l.set (l.length - 1) x).getD ((l.set (l.length - 1) x).length - 1) sn0=x:=by
  rw [List.length_set,List.getD_eq_getElem?_getD,List.getElem?_set_self (by omega)];rfl
theorem snoc_last {l:List Sn} {x:Sn}:(l++[x]).getD ((l++[x]).length - 1) sn0=x:=by
  simp [List.getD_eq_getElem?_getD]
theorem c_SValid (l:List Sn):
  Ct Tryz.prog 87 [tL 2 true tSn l] (tB (sVal l)):=by
 refine Ct.intro Tryz.func87 rfl Tryz.ntmps87 rfl ?_
 intro w F
 refine C_len (s:=0) rfl (fun hl0=> ?_)
 refine A9 ?_
 refine A5 ?_
 refine cL (fun (i:Nat)=>i≤l.length∧(List.range i).all (sOkA l)=true) (fun (i:Nat)=>upd (upd (upd (upd (fun _=>none) 0 (some (.val (tL 2 true tSn l)))) 5 (some (.val (tL 2 true tSn l)))) 6 (some (.val (tI l.length)))) 7 (some (.val (tI i)))) (fun (i:Nat)=>fun _=>none) [] (fun (i:Nat)=>l.length - i) (0) ⟨Nat.zero_le _,rfl⟩ ?_
 intro i hI
 obtain ⟨hi,ha⟩:=hI
 refine A6 ?_
 refine x9 rfl (fun h20=> ?_) (fun h20=> ?_)
 ·
  refine A7 ?_
  refine R2 (x6 sl45 (i) (by omega) (gD (l:=l) (n:=i) (d:=sn0) (by omega))) rfl rfl ?_
  refine A1 ?_
  refine RE (xa6 (k:=4) (n:=2) (agg:=true) zr62.1 zr62.2 rfl) trivial trivial ⟨rfl,trivial⟩ ?_
  refine A7 ?_
  refine R1 (x3 (c_isSpan _) fi152 rfl) rfl ?_
  refine A2 ?_
  refine RGcase (t:=15) rfl (fun h21=> ?_) (fun h21=> ?_)
  ·
   refine A9 ?_
   refine A9 ?_
   refine A9 ?_
   refine A8 ?_
   exact x4 Plain.mk' rfl rfl (Le.bool (sVal_bad (i:=i) (by omega) fun h=>by rw [h.1] at h21;cases h21))
  ·
   refine A7 ?_
   refine RGcaseD (t:=22) rfl (fun h21_2=> ?_) (fun h21_2=> ?_)
   ·
    refine A9 ?_
    refine A9 ?_
    refine A9 ?_
    refine A1 ?_
    exact x4 Plain.mk' rfl rfl (Le.bool (sVal_bad (i:=i) (by omega) (by omega)))
   ·
    refine A3 ?_
    refine RGcaseD (t:=25) rfl (fun h21_3=> ?_) (fun h21_3=> ?_)
    ·
     refine A2 ?_
     refine RGon (decide_eq_true h21_3) rfl (xe4 (wr64 (by omega) (by omega))) rfl ⟨rfl,rfl,trivial⟩ trivial trivial (RGon (decide_eq_true h21_3) rfl (x6 sl45 (i - 1) (by omega) (gD (l:=l) (n:=i - 1) (d:=sn0) (by omega))) rfl ⟨rfl,rfl,trivial⟩ trivial trivial (RGon (decide_eq_true h21_3) rfl (xb4 fo62_1.h (At.f 1 rfl rfl) rfl) rfl ⟨rfl,trivial⟩ trivial trivial ?_))
     refine A4 ?_
     refine RGon (decide_eq_false h21_2) rfl (xg7 (decide_eq_true h21_3)) rfl ⟨rfl,rfl,trivial⟩ trivial trivial ?_
     refine A3 ?_
     refine x9 rfl (fun h21_4=> ?_) (fun h21_4=> ?_)
     ·
      refine A9 ?_
      refine A2 ?_
      exact x4 Plain.mk' rfl rfl (Le.bool (sVal_bad (i:=i) (by omega) (by omega)))
     ·
      refine A7 ?_
      have hok:sOkA l i=true:=xi5.2 ⟨by simpa using h21,by omega,by omega⟩
      exact kF (i+1) ⟨⟨by omega,by rw [xj0,ha,Bool.true_and];exact hok⟩,(by omega)⟩
    ·
     refine A9 ?_
     refine RGon (decide_eq_false h21_2) rfl (xg3 (decide_eq_false h21_3)) rfl ⟨rfl,rfl,trivial⟩ trivial trivial ?_
     refine A9 ?_
     refine A2 ?_
     have hok:sOkA l i=true:=xi5.2 ⟨by simpa using h21,by omega,by omega⟩
     exact kF (i+1) ⟨⟨by omega,by rw [xj0,ha,Bool.true_and];exact hok⟩,(by omega)⟩
 ·
  refine A9 ?_
  refine A2 ?_
  exact x4 Plain.mk' rfl rfl (Le.bool (by rw [sVal,←show i=l.length by omega,ha]))
theorem c_SBridge (l:List Sn) (d:Int) (hl:l.length≤1000000):
  Ct Tryz.prog 46 [tL 2 true tSn l,tI d] (tT [tL 2 true tSn (if sVal l=true∧0≤d then brg d l else []),tI (if sVal l=true∧0≤d then 0 else 2)]):=by
 refine Ct.intro Tryz.func46 rfl Tryz.ntmps46 rfl ?_
 intro w F
 refine A9 ?_
 refine A1 ?_
 refine R1 (x3 (c_SValid _) fi87 rfl) rfl ?_
 refine A2 ?_
 refine RGcase (t:=13) rfl (fun h124=> ?_) (fun h124=> ?_)
 ·
  refine A9 ?_
  refine A5 ?_
  exact xc8 Plain.mk' rfl rfl rfl (leNil (by rw [if_neg fun h=>by rw [h.1] at h124;cases h124])) (Le.int (by rw [if_neg fun h=>by rw [h.1] at h124;cases h124]))
 ·
  refine A5 ?_
  refine x9 rfl (fun h124_2=> ?_) (fun h124_2=> ?_)
  ·
   refine A8 ?_
   exact xc8 Plain.mk' rfl rfl rfl (leNil (by rw [if_neg (by omega)])) (Le.int (by rw [if_neg (by omega)]))
  ·
   refine A4 ?_
   refine RE (xd3 (k:=6) 62 2 true rfl (fun h=>by cases h)) trivial trivial ⟨rfl,trivial⟩ ?_
   refine A9 ?_
   refine A2 ?_
   have hok:sVal l=true∧0≤d:=⟨by simpa using h124,by omega⟩
   refine cL (fun (fm:(Nat)×(List Sn))=>(fun (i:Nat) (zs:List Sn)=>i≤l.length∧zs=brg d (l.take i)∧zs.length≤i∧(0 < zs.length→0≤(zs.getD (zs.length - 1) sn0).hi∧(zs.getD (zs.length - 1) sn0).hi≤65536)) fm.1 fm.2) (fun (fm:(Nat)×(List Sn))=>(fun (i:Nat) (zs:List Sn)=>upd (upd (upd (upd (upd (fun _=>none) 1 (some (.val (tI d)))) 6 (some (.own (.sl 6 2 0 zs.length)))) 17 (some (.val (tL 2 true tSn l)))) 18 (some (.val (tI l.length)))) 19 (some (.val (tI i)))) fm.1 fm.2) (fun (fm:(Nat)×(List Sn))=>(fun (i:Nat) (zs:List Sn)=>upd (fun _=>none) 6 (some (⟨62,2,true,rV tSn zs⟩))) fm.1 fm.2) [6] (fun (fm:(Nat)×(List Sn))=>(fun (i:Nat) (zs:List Sn)=>l.length - i) fm.1 fm.2) ((0,[])) (by dsimp only;exact ⟨Nat.zero_le _,rfl,Nat.le_refl _,fun h=>absurd h (Nat.lt_irrefl _)⟩) (hh:=((SubK.consI rfl ImpK.refl) SubK.nil)) ?_
   intro fm hI
   obtain ⟨i,zs⟩:=fm
   replace hI:i≤l.length∧zs=brg d (l.take i)∧zs.length≤i∧(0 < zs.length→0≤(zs.getD (zs.length - 1) sn0).hi∧(zs.getD (zs.length - 1) sn0).hi≤65536):=hI
   show wc _ _ _ _ (upd (upd (upd (upd (upd (fun _=>none) 1 (some (.val (tI d)))) 6 (some (.own (.sl 6 2 0 zs.length)))) 17 (some (.val (tL 2 true tSn l)))) 18 (some (.val (tI l.length)))) 19 (some (.val (tI i)))) (upd (fun _=>none) 6 (some (⟨62,2,true,rV tSn zs⟩))) _
   obtain ⟨hi,hz,hzl,hlast⟩:=hI
   refine A6 ?_
   refine x9 rfl (fun h128=> ?_) (fun h128=> ?_)
   ·
    refine A6 ?_
    have hs:=xe5 hok.1 (i:=i) (by omega)
    refine R2 (x6 sl45 (i) (by omega) (gD (l:=l) (n:=i) (d:=sn0) (by omega))) rfl rfl ?_
    refine A1 ?_
    refine RE (xa6 (k:=8) (n:=2) (agg:=true) zr62.1 zr62.2 rfl) trivial trivial ⟨rfl,trivial⟩ ?_
    refine A9 ?_
    refine A6 ?_
    refine RGcaseD (t:=27) rfl (fun h129=> ?_) (fun h129=> ?_)
    ·
     refine A4 ?_
     refine RGon (decide_eq_true h129) rfl (xe4 (wr64 (by omega) (by omega))) rfl ⟨rfl,rfl,trivial⟩ trivial trivial (RGon (decide_eq_true h129) rfl (xa5 sl45 (by omega) (by omega) rfl) rfl ⟨rfl,rfl,trivial⟩ trivial trivial ?_)
     refine A1 ?_
     refine RGon (decide_eq_true h129) rfl (d_loadF (es:=2) (o:=1) (zs.length - 1) ti3 (xh3 (d:=sn0) (by omega)) (At.g 1 rfl rfl) (by omega)) rfl ⟨rfl,trivial⟩ ⟨rfl,trivial⟩ trivial (RGon (decide_eq_true h129) rfl (xe4 (wr64 (by omega) (by omega))) rfl ⟨rfl,rfl,trivial⟩ trivial trivial ?_)
     refine A5 ?_
     refine x9 rfl (fun h129_2=> ?_) (fun h129_2=> ?_)
     ·
      refine A6 ?_
      refine R2 (xa5 sl45 (by omega) (by omega) rfl) rfl rfl ?_
      refine A1 ?_
      refine RE (d_storeF (es:=2) (o:=1) (t2:=tSn ⟨(zs.getD (zs.length - 1) sn0).lo,(l.getD i sn0).hi⟩) (zs.length - 1) ti3 (xh3 (d:=sn0) (by omega)) (Up.g 1 rfl rfl rfl) (by omega) (rV_set rfl)) ⟨rfl,rfl,trivial⟩ ⟨rfl,trivial⟩ trivial ?_
      refine A7 ?_
      exact kF ((i+1,(zs.set (zs.length - 1) ⟨(zs.getD (zs.length - 1) sn0).lo,(l.getD i sn0).hi⟩))) ⟨(by dsimp only;exact ⟨by omega,by rw [brg_next (by omega),←hz,brg1,if_pos ⟨by omega,by omega⟩],by rw [List.length_set];omega,fun _=>by rw [set_last (by omega)];dsimp only;omega⟩),(by dsimp only;omega)⟩ (hg:=(sI (sI (sC ((Sub.consI rfl (Imp.of (by dsimp only;rw [List.length_set]))) (sI Sub.nil)))))) (hh:=((SubK.consI rfl ImpK.refl) SubK.nil))
     ·
      refine A3 ?_
      refine R1 (xd6 (n:=1) (f:=tSn) [(l.getD i sn0)] Tryz.underlying45 el62 zf62 rfl (fun _=>inferInstance) rfl rfl rfl) rfl (RE (xc1 (k:=6) (k':=50) (f:=tSn) (ys:=[(l.getD i sn0)]) (ts':=rV tSn (zs++[(l.getD i sn0)])) Tryz.underlying45 el62 zf62 rfl rfl (fun _=>inferInstance) xf1 (by simp;omega) (by simp;omega) (by simp [rV]) (n':=zs.length+1) rfl) ⟨rfl,rfl,trivial⟩ ⟨rfl,trivial⟩ ⟨rfl,trivial⟩ ?_)
      refine A8 ?_
      exact xe6 (l:=[6]) (fun j=>cond (Nat.beq j 6) 50 (j)) ((i+1,zs++[(l.getD i sn0)])) ⟨(by dsimp only;exact ⟨by omega,by rw [brg_next (by omega),←hz,brg1,if_neg (by omega)],by rw [List.length_append];simp;omega,fun _=>by rw [snoc_last];omega⟩),(by dsimp only;omega)⟩ (SubR.int rfl (by first | omega | rfl | (dsimp only;omega)) (SubR.int rfl (by first | omega | rfl | (dsimp only;omega)) (SubR.cons rfl ((SubR.consI rfl (Imp.of (by dsimp only;rw [List.length_append];rfl))) (SubR.int rfl (by first | omega | rfl | (dsimp only;omega)) SubR.nil))))) ((SubKR.consI rfl (ImpK.of xb9.symm)) SubKR.nil) (SupG.val (SupG.val (SupG.val (SupG.own rfl (SupG.val SupG.nil))))) (SupH.cons rfl (supJ xa9) SupH.nil) (lkOk rfl) rfl rfl (fun _ h=>by cases h)
    ·
     refine A9 ?_
     refine A9 ?_
     refine R1 (xd6 (n:=1) (f:=tSn) [(l.getD i sn0)] Tryz.underlying45 el62 zf62 rfl (fun _=>inferInstance) rfl rfl rfl) rfl (RE (xc1 (k:=6) (k':=50) (f:=tSn) (ys:=[(l.getD i sn0)]) (ts':=rV tSn (zs++[(l.getD i sn0)])) Tryz.underlying45 el62 zf62 rfl rfl (fun _=>inferInstance) xf1 (by simp;omega) (by simp;omega) (by simp [rV]) (n':=zs.length+1) rfl) ⟨rfl,rfl,trivial⟩ ⟨rfl,trivial⟩ ⟨rfl,trivial⟩ ?_)
     refine A8 ?_
     exact xe6 (l:=[6]) (fun j=>cond (Nat.beq j 6) 50 (j)) ((i+1,zs++[(l.getD i sn0)])) ⟨(by dsimp only;exact ⟨by omega,by rw [brg_next (by omega),←hz,brg1,if_neg (by omega)],by rw [List.length_append];simp;omega,fun _=>by rw [snoc_last];omega⟩),(by dsimp only;omega)⟩ (SubR.int rfl (by first | omega | rfl | (dsimp only;omega)) (SubR.int rfl (by first | omega | rfl | (dsimp only;omega)) (SubR.cons rfl ((SubR.consI rfl (Imp.of (by dsimp only;rw [List.length_append];rfl))) (SubR.int rfl (by first | omega | rfl | (dsimp only;omega)) SubR.nil))))) ((SubKR.consI rfl (ImpK.of xb9.symm)) SubKR.nil) (SupG.val (SupG.val (SupG.val (SupG.own rfl (SupG.val SupG.nil))))) (SupH.cons rfl (supJ xa9) SupH.nil) (lkOk rfl) rfl rfl (fun _ h=>by cases h)
   ·
    refine A8 ?_
    refine RE (d_assignS (f:=tSn) (xs:=zs) (fun _ h=>h) (rV_all rfl) rfl) ⟨rfl,trivial⟩ ⟨rfl,trivial⟩ trivial ?_
    refine A4 ?_
    exact xc8 Plain.mk' rfl rfl rfl (Le.of (by rw [if_pos hok,hz,show i=l.length by omega,List.take_length])) (Le.int (by rw [if_pos hok]))
theorem c_paste (zs ps:List Tst) (hz:zs.length≤1000000) (hp:ps.length≤1000000) (hD: ∀s∈ps,s.v.f.n.l.length≤1000000∧s.v.f.d.l.length≤1000000):
  CtG Tryz.prog 187 [(1,⟨34,8,true,rV tTs zs⟩)] [.own (.sl 1 8 0 zs.length),.val (tL 8 true tTs ps)] (.own (.sl 90 8 0 (pst zs ps).length)) [(90,⟨34,8,true,rV tTs (pst zs ps)⟩)] [90]:=by
 refine CtG.intro [1] Tryz.func187 rfl Tryz.ntmps187 rfl rfl ⟨⟨rfl,xa9⟩,trivial⟩ ?_
 intro w F η
 refine C_renS (t:=0) (k:=1) 90 rfl rfl rfl ?_
 refine A9 ?_
 refine A5 ?_
 refine cL (fun (fm:(Nat)×(List Tst))=>(fun (i:Nat) (xs:List Tst)=>i≤ps.length∧xs=pst zs (ps.take i)) fm.1 fm.2) (fun (fm:(Nat)×(List Tst))=>(fun (i:Nat) (xs:List Tst)=>upd (upd (upd (upd (fun _=>none) 0 (some (.own (.sl 90 8 0 xs.length)))) 8 (some (.val (tL 8 true tTs ps)))) 9 (some (.val (tI ps.length)))) 10 (some (.val (tI i)))) fm.1 fm.2) (fun (fm:(Nat)×(List Tst))=>(fun (i:Nat) (xs:List Tst)=>upd (fun _=>none) 90 (some (⟨34,8,true,rV tTs xs⟩))) fm.1 fm.2) [90,1] (fun (fm:(Nat)×(List Tst))=>(fun (i:Nat) (xs:List Tst)=>ps.length - i) fm.1 fm.2) ((0,zs)) (by dsimp only;exact ⟨Nat.zero_le _,rfl⟩) (hh:=((SubK.consI rfl ImpK.refl) SubK.nil)) ?_
 intro fm hI
 obtain ⟨i,xs⟩:=fm
 replace hI:i≤ps.length∧xs=pst zs (ps.take i):=hI
 show wc _ _ _ _ (upd (upd (upd (upd (fun _=>none) 0 (some (.own (.sl 90 8 0 xs.length)))) 8 (some (.val (tL 8 true tTs ps)))) 9 (some (.val (tI ps.length)))) 10 (some (.val (tI i)))) (upd (fun _=>none) 90 (some (⟨34,8,true,rV tTs xs⟩))) _
 obtain ⟨hi,hx⟩:=hI
 have hxl:xs.length≤zs.length+i:=by
  have h:=pst_len (ps.take i) zs
  rw [←hx,List.length_take] at h;omega
 refine A6 ?_
 refine x9 rfl (fun h68=> ?_) (fun h68=> ?_)
 ·
  refine A6 ?_
  refine R2 (x6 sl22 (i) (by omega) (gD (l:=ps) (n:=i) (d:=tst0) (by omega))) rfl rfl ?_
  refine A1 ?_
  refine RE (xa6 (k:=6) (n:=8) (agg:=true) zr34.1 zr34.2 rfl) trivial trivial ⟨rfl,trivial⟩ ?_
  refine A9 ?_
  refine A4 ?_
  refine x9 rfl (fun h69=> ?_) (fun h69=> ?_)
  ·
   refine A8 ?_
   exact kF ((i+1,xs)) ⟨(by dsimp only;exact ⟨by omega,by rw [pst_snoc _ (by omega),←hx,pst1,if_pos (by omega)]⟩),(by dsimp only;omega)⟩ (hh:=((SubK.consI rfl ImpK.refl) SubK.nil))
  ·
   refine A9 ?_
   refine A5 ?_
   refine RGcaseD (t:=23) rfl (fun h72=> ?_) (fun h72=> ?_)
   ·
    refine A2 ?_
    refine RGon (decide_eq_true h72) rfl (xe4 (wr64 (by omega) (by omega))) rfl ⟨rfl,rfl,trivial⟩ trivial trivial (RGon (decide_eq_true h72) rfl (xa5 sl22 (by omega) (by omega) rfl) rfl ⟨rfl,rfl,trivial⟩ trivial trivial ?_)
    refine A1 ?_
    refine RGon (decide_eq_true h72) rfl (d_loadF (es:=8) (o:=1) (xs.length - 1) ti3 (xh3 (d:=tst0) (by omega)) (At.g 1 rfl rfl) (by omega)) rfl ⟨rfl,trivial⟩ ⟨rfl,trivial⟩ trivial ?_
    refine A5 ?_
    refine RGcaseD (t:=34) rfl (fun h72_2=> ?_) (fun h72_2=> ?_)
    ·
     refine A2 ?_
     refine RGon (decide_eq_true h72_2) rfl (xe4 (wr64 (by omega) (by omega))) rfl ⟨rfl,rfl,trivial⟩ trivial trivial (RGon (decide_eq_true h72_2) rfl (xa5 sl22 (by omega) (by omega) rfl) rfl ⟨rfl,rfl,trivial⟩ trivial trivial ?_)
     refine A1 ?_
     refine RGon (decide_eq_true h72_2) rfl (d_loadF (es:=8) (o:=2) (xs.length - 1) ti32 (xh3 (d:=tst0) (by omega)) (At.g 2 rfl rfl) (by omega)) rfl ⟨rfl,trivial⟩ ⟨rfl,trivial⟩ trivial ?_
     refine A2 ?_
     refine RGon (decide_eq_true h72_2) rfl (x3 (c_TSame _ _) fi142 rfl) rfl ⟨rfl,rfl,trivial⟩ trivial trivial ?_
     refine A3 ?_
     refine x9 rfl (fun h72_3=> ?_) (fun h72_3=> ?_)
     ·
      refine A6 ?_
      refine R2 (xa5 sl22 (by omega) (by omega) rfl) rfl rfl ?_
      refine A1 ?_
      refine RE (d_storeF (es:=8) (o:=1) (t2:=tTs ⟨(xs.getD (xs.length - 1) tst0).lo,(ps.getD i tst0).hi,(xs.getD (xs.length - 1) tst0).v⟩) (xs.length - 1) ti3 (xh3 (d:=tst0) (by omega)) (Up.g 1 rfl rfl rfl) (by omega) (rV_set rfl)) ⟨rfl,rfl,trivial⟩ ⟨rfl,trivial⟩ trivial ?_
      refine A7 ?_
      exact kF ((i+1,(xs.set (xs.length - 1) ⟨(xs.getD (xs.length - 1) tst0).lo,(ps.getD i tst0).hi,(xs.getD (xs.length - 1) tst0).v⟩))) ⟨(by dsimp only;exact ⟨by omega,by rw [pst_snoc _ (by omega),←hx,pst1,if_neg (by omega),if_pos ⟨by omega,by omega,h72_3⟩]⟩),(by dsimp only;omega)⟩ (hg:=(sI (sI (sC ((Sub.consI rfl (Imp.of (by dsimp only;rw [List.length_set]))) Sub.nil))))) (hh:=((SubK.consI rfl ImpK.refl) SubK.nil))
     ·
      refine A8 ?_
      refine R1 (x3 (c_copied _ (hD _ (xc2 (l:=ps) (by omega))).1 (hD _ (xc2 (l:=ps) (by omega))).2) fi218 rfl) rfl (R3 (xb0 (r:=tS [⟨1,false,tI (ps.getD i tst0).lo⟩,⟨1,false,tI (ps.getD i tst0).hi⟩,⟨6,true,tVa (ps.getD i tst0).v⟩]) (ts:=[(0,tI (ps.getD i tst0).lo),(1,tI (ps.getD i tst0).hi),(2,tVa (ps.getD i tst0).v)]) bu34 zr34.2 ⟨_,rfl⟩ rfl ⟨_,_,_,_,rfl,Up.f (fs:=[⟨1,false,(tE (.int .i64 0))⟩,⟨1,false,(tE (.int .i64 0))⟩,⟨6,true,(tS [⟨1,false,(tE (.int .u8 0))⟩,⟨4,true,(tS [⟨2,true,(tS [⟨1,false,(tE (.bool false))⟩,⟨1,false,(tLm [])⟩])⟩,⟨2,true,(tS [⟨1,false,(tE (.bool false))⟩,⟨1,false,(tLm [])⟩])⟩])⟩,⟨1,false,(tE (.int .i64 0))⟩])⟩]) (f:=⟨1,false,(tE (.int .i64 0))⟩) (fs':=[⟨1,false,tI (ps.getD i tst0).lo⟩,⟨1,false,(tE (.int .i64 0))⟩,⟨6,true,(tS [⟨1,false,(tE (.int .u8 0))⟩,⟨4,true,(tS [⟨2,true,(tS [⟨1,false,(tE (.bool false))⟩,⟨1,false,(tLm [])⟩])⟩,⟨2,true,(tS [⟨1,false,(tE (.bool false))⟩,⟨1,false,(tLm [])⟩])⟩])⟩,⟨1,false,(tE (.int .i64 0))⟩])⟩]) 0 rfl rfl rfl,inferInstance,⟨_,_,_,_,rfl,Up.f (fs:=[⟨1,false,tI (ps.getD i tst0).lo⟩,⟨1,false,(tE (.int .i64 0))⟩,⟨6,true,(tS [⟨1,false,(tE (.int .u8 0))⟩,⟨4,true,(tS [⟨2,true,(tS [⟨1,false,(tE (.bool false))⟩,⟨1,false,(tLm [])⟩])⟩,⟨2,true,(tS [⟨1,false,(tE (.bool false))⟩,⟨1,false,(tLm [])⟩])⟩])⟩,⟨1,false,(tE (.int .i64 0))⟩])⟩]) (f:=⟨1,false,(tE (.int .i64 0))⟩) (fs':=[⟨1,false,tI (ps.getD i tst0).lo⟩,⟨1,false,tI (ps.getD i tst0).hi⟩,⟨6,true,(tS [⟨1,false,(tE (.int .u8 0))⟩,⟨4,true,(tS [⟨2,true,(tS [⟨1,false,(tE (.bool false))⟩,⟨1,false,(tLm [])⟩])⟩,⟨2,true,(tS [⟨1,false,(tE (.bool false))⟩,⟨1,false,(tLm [])⟩])⟩])⟩,⟨1,false,(tE (.int .i64 0))⟩])⟩]) 1 rfl rfl rfl,inferInstance,⟨_,_,_,_,rfl,Up.f (fs:=[⟨1,false,tI (ps.getD i tst0).lo⟩,⟨1,false,tI (ps.getD i tst0).hi⟩,⟨6,true,(tS [⟨1,false,(tE (.int .u8 0))⟩,⟨4,true,(tS [⟨2,true,(tS [⟨1,false,(tE (.bool false))⟩,⟨1,false,(tLm [])⟩])⟩,⟨2,true,(tS [⟨1,false,(tE (.bool false))⟩,⟨1,false,(tLm [])⟩])⟩])⟩,⟨1,false,(tE (.int .i64 0))⟩])⟩]) (f:=⟨6,true,(tS [⟨1,false,(tE (.int .u8 0))⟩,⟨4,true,(tS [⟨2,true,(tS [⟨1,false,(tE (.bool false))⟩,⟨1,false,(tLm [])⟩])⟩,⟨2,true,(tS [⟨1,false,(tE (.bool false))⟩,⟨1,false,(tLm [])⟩])⟩])⟩,⟨1,false,(tE (.int .i64 0))⟩])⟩) (fs':=[⟨1,false,tI (ps.getD i tst0).lo⟩,⟨1,false,tI (ps.getD i tst0).hi⟩,⟨6,true,tVa (ps.getD i tst0).v⟩]) 2 rfl rfl rfl,inferInstance,Le.refl⟩⟩⟩) rfl rfl rfl (R1 (xd6 (n:=1) (f:=tTs) [(ps.getD i tst0)] Tryz.underlying22 el34 zf34 rfl (fun _=>inferInstance) rfl rfl rfl) rfl (RE (xc1 (k:=90) (k':=62) (f:=tTs) (ys:=[(ps.getD i tst0)]) (ts':=rV tTs (xs++[(ps.getD i tst0)])) Tryz.underlying22 el34 zf34 rfl rfl (fun _=>inferInstance) xf1 (by simp;omega) (by simp;omega) (by simp [rV]) (n':=xs.length+1) rfl) ⟨rfl,rfl,trivial⟩ ⟨rfl,trivial⟩ ⟨rfl,trivial⟩ ?_)))
      refine A8 ?_
      exact xe6 (l:=[90,1]) (fun j=>cond (Nat.beq j 90) 62 (j)) ((i+1,xs++[(ps.getD i tst0)])) ⟨(by dsimp only;exact ⟨by omega,by rw [pst_snoc _ (by omega),←hx,pst1,if_neg (by omega),if_neg fun h=>h72_3 h.2.2]⟩),(by dsimp only;omega)⟩ (SubR.int rfl (by first | omega | rfl | (dsimp only;omega)) (SubR.int rfl (by first | omega | rfl | (dsimp only;omega)) (SubR.cons rfl ((SubR.consI rfl (Imp.of (by dsimp only;rw [List.length_append];rfl))) SubR.nil)))) ((SubKR.consI rfl (ImpK.of xb9.symm)) SubKR.nil) (SupG.val (SupG.val (SupG.val (SupG.own rfl SupG.nil)))) (SupH.cons rfl (supJ xa9) SupH.nil) (lkOk rfl) rfl rfl (fun _ h=>by cases h)
    ·
     refine A9 ?_
     refine A9 ?_
     refine A3 ?_
     refine R1 (x3 (c_copied _ (hD _ (xc2 (l:=ps) (by omega))).1 (hD _ (xc2 (l:=ps) (by omega))).2) fi218 rfl) rfl (R3 (xb0 (r:=tS [⟨1,false,tI (ps.getD i tst0).lo⟩,⟨1,false,tI (ps.getD i tst0).hi⟩,⟨6,true,tVa (ps.getD i tst0).v⟩]) (ts:=[(0,tI (ps.getD i tst0).lo),(1,tI (ps.getD i tst0).hi),(2,tVa (ps.getD i tst0).v)]) bu34 zr34.2 ⟨_,rfl⟩ rfl ⟨_,_,_,_,rfl,Up.f (fs:=[⟨1,false,(tE (.int .i64 0))⟩,⟨1,false,(tE (.int .i64 0))⟩,⟨6,true,(tS [⟨1,false,(tE (.int .u8 0))⟩,⟨4,true,(tS [⟨2,true,(tS [⟨1,false,(tE (.bool false))⟩,⟨1,false,(tLm [])⟩])⟩,⟨2,true,(tS [⟨1,false,(tE (.bool false))⟩,⟨1,false,(tLm [])⟩])⟩])⟩,⟨1,false,(tE (.int .i64 0))⟩])⟩]) (f:=⟨1,false,(tE (.int .i64 0))⟩) (fs':=[⟨1,false,tI (ps.getD i tst0).lo⟩,⟨1,false,(tE (.int .i64 0))⟩,⟨6,true,(tS [⟨1,false,(tE (.int .u8 0))⟩,⟨4,true,(tS [⟨2,true,(tS [⟨1,false,(tE (.bool false))⟩,⟨1,false,(tLm [])⟩])⟩,⟨2,true,(tS [⟨1,false,(tE (.bool false))⟩,⟨1,false,(tLm [])⟩])⟩])⟩,⟨1,false,(tE (.int .i64 0))⟩])⟩]) 0 rfl rfl rfl,inferInstance,⟨_,_,_,_,rfl,Up.f (fs:=[⟨1,false,tI (ps.getD i tst0).lo⟩,⟨1,false,(tE (.int .i64 0))⟩,⟨6,true,(tS [⟨1,false,(tE (.int .u8 0))⟩,⟨4,true,(tS [⟨2,true,(tS [⟨1,false,(tE (.bool false))⟩,⟨1,false,(tLm [])⟩])⟩,⟨2,true,(tS [⟨1,false,(tE (.bool false))⟩,⟨1,false,(tLm [])⟩])⟩])⟩,⟨1,false,(tE (.int .i64 0))⟩])⟩]) (f:=⟨1,false,(tE (.int .i64 0))⟩) (fs':=[⟨1,false,tI (ps.getD i tst0).lo⟩,⟨1,false,tI (ps.getD i tst0).hi⟩,⟨6,true,(tS [⟨1,false,(tE (.int .u8 0))⟩,⟨4,true,(tS [⟨2,true,(tS [⟨1,false,(tE (.bool false))⟩,⟨1,false,(tLm [])⟩])⟩,⟨2,true,(tS [⟨1,false,(tE (.bool false))⟩,⟨1,false,(tLm [])⟩])⟩])⟩,⟨1,false,(tE (.int .i64 0))⟩])⟩]) 1 rfl rfl rfl,inferInstance,⟨_,_,_,_,rfl,Up.f (fs:=[⟨1,false,tI (ps.getD i tst0).lo⟩,⟨1,false,tI (ps.getD i tst0).hi⟩,⟨6,true,(tS [⟨1,false,(tE (.int .u8 0))⟩,⟨4,true,(tS [⟨2,true,(tS [⟨1,false,(tE (.bool false))⟩,⟨1,false,(tLm [])⟩])⟩,⟨2,true,(tS [⟨1,false,(tE (.bool false))⟩,⟨1,false,(tLm [])⟩])⟩])⟩,⟨1,false,(tE (.int .i64 0))⟩])⟩]) (f:=⟨6,true,(tS [⟨1,false,(tE (.int .u8 0))⟩,⟨4,true,(tS [⟨2,true,(tS [⟨1,false,(tE (.bool false))⟩,⟨1,false,(tLm [])⟩])⟩,⟨2,true,(tS [⟨1,false,(tE (.bool false))⟩,⟨1,false,(tLm [])⟩])⟩])⟩,⟨1,false,(tE (.int .i64 0))⟩])⟩) (fs':=[⟨1,false,tI (ps.getD i tst0).lo⟩,⟨1,false,tI (ps.getD i tst0).hi⟩,⟨6,true,tVa (ps.getD i tst0).v⟩]) 2 rfl rfl rfl,inferInstance,Le.refl⟩⟩⟩) rfl rfl rfl (R1 (xd6 (n:=1) (f:=tTs) [(ps.getD i tst0)] Tryz.underlying22 el34 zf34 rfl (fun _=>inferInstance) rfl rfl rfl) rfl (RE (xc1 (k:=90) (k':=62) (f:=tTs) (ys:=[(ps.getD i tst0)]) (ts':=rV tTs (xs++[(ps.getD i tst0)])) Tryz.underlying22 el34 zf34 rfl rfl (fun _=>inferInstance) xf1 (by simp;omega) (by simp;omega) (by simp [rV]) (n':=xs.length+1) rfl) ⟨rfl,rfl,trivial⟩ ⟨rfl,trivial⟩ ⟨rfl,trivial⟩ ?_)))
     refine A8 ?_
     exact xe6 (l:=[90,1]) (fun j=>cond (Nat.beq j 90) 62 (j)) ((i+1,xs++[(ps.getD i tst0)])) ⟨(by dsimp only;exact ⟨by omega,by rw [pst_snoc _ (by omega),←hx,pst1,if_neg (by omega),if_neg (by omega)]⟩),(by dsimp only;omega)⟩ (SubR.int rfl (by first | omega | rfl | (dsimp only;omega)) (SubR.int rfl (by first | omega | rfl | (dsimp only;omega)) (SubR.cons rfl ((SubR.consI rfl (Imp.of (by dsimp only;rw [List.length_append];rfl))) SubR.nil)))) ((SubKR.consI rfl (ImpK.of xb9.symm)) SubKR.nil) (SupG.val (SupG.val (SupG.val (SupG.own rfl SupG.nil)))) (SupH.cons rfl (supJ xa9) SupH.nil) (lkOk rfl) rfl rfl (fun _ h=>by cases h)
   ·
    refine A9 ?_
    refine A9 ?_
    refine A9 ?_
    refine A5 ?_
    refine R1 (x3 (c_copied _ (hD _ (xc2 (l:=ps) (by omega))).1 (hD _ (xc2 (l:=ps) (by omega))).2) fi218 rfl) rfl (R3 (xb0 (r:=tS [⟨1,false,tI (ps.getD i tst0).lo⟩,⟨1,false,tI (ps.getD i tst0).hi⟩,⟨6,true,tVa (ps.getD i tst0).v⟩]) (ts:=[(0,tI (ps.getD i tst0).lo),(1,tI (ps.getD i tst0).hi),(2,tVa (ps.getD i tst0).v)]) bu34 zr34.2 ⟨_,rfl⟩ rfl ⟨_,_,_,_,rfl,Up.f (fs:=[⟨1,false,(tE (.int .i64 0))⟩,⟨1,false,(tE (.int .i64 0))⟩,⟨6,true,(tS [⟨1,false,(tE (.int .u8 0))⟩,⟨4,true,(tS [⟨2,true,(tS [⟨1,false,(tE (.bool false))⟩,⟨1,false,(tLm [])⟩])⟩,⟨2,true,(tS [⟨1,false,(tE (.bool false))⟩,⟨1,false,(tLm [])⟩])⟩])⟩,⟨1,false,(tE (.int .i64 0))⟩])⟩]) (f:=⟨1,false,(tE (.int .i64 0))⟩) (fs':=[⟨1,false,tI (ps.getD i tst0).lo⟩,⟨1,false,(tE (.int .i64 0))⟩,⟨6,true,(tS [⟨1,false,(tE (.int .u8 0))⟩,⟨4,true,(tS [⟨2,true,(tS [⟨1,false,(tE (.bool false))⟩,⟨1,false,(tLm [])⟩])⟩,⟨2,true,(tS [⟨1,false,(tE (.bool false))⟩,⟨1,false,(tLm [])⟩])⟩])⟩,⟨1,false,(tE (.int .i64 0))⟩])⟩]) 0 rfl rfl rfl,inferInstance,⟨_,_,_,_,rfl,Up.f (fs:=[⟨1,false,tI (ps.getD i tst0).lo⟩,⟨1,false,(tE (.int .i64 0))⟩,⟨6,true,(tS [⟨1,false,(tE (.int .u8 0))⟩,⟨4,true,(tS [⟨2,true,(tS [⟨1,false,(tE (.bool false))⟩,⟨1,false,(tLm [])⟩])⟩,⟨2,true,(tS [⟨1,false,(tE (.bool false))⟩,⟨1,false,(tLm [])⟩])⟩])⟩,⟨1,false,(tE (.int .i64 0))⟩])⟩]) (f:=⟨1,false,(tE (.int .i64 0))⟩) (fs':=[⟨1,false,tI (ps.getD i tst0).lo⟩,⟨1,false,tI (ps.getD i tst0).hi⟩,⟨6,true,(tS [⟨1,false,(tE (.int .u8 0))⟩,⟨4,true,(tS [⟨2,true,(tS [⟨1,false,(tE (.bool false))⟩,⟨1,false,(tLm [])⟩])⟩,⟨2,true,(tS [⟨1,false,(tE (.bool false))⟩,⟨1,false,(tLm [])⟩])⟩])⟩,⟨1,false,(tE (.int .i64 0))⟩])⟩]) 1 rfl rfl rfl,inferInstance,⟨_,_,_,_,rfl,Up.f (fs:=[⟨1,false,tI (ps.getD i tst0).lo⟩,⟨1,false,tI (ps.getD i tst0).hi⟩,⟨6,true,(tS [⟨1,false,(tE (.int .u8 0))⟩,⟨4,true,(tS [⟨2,true,(tS [⟨1,false,(tE (.bool false))⟩,⟨1,false,(tLm [])⟩])⟩,⟨2,true,(tS [⟨1,false,(tE (.bool false))⟩,⟨1,false,(tLm [])⟩])⟩])⟩,⟨1,false,(tE (.int .i64 0))⟩])⟩]) (f:=⟨6,true,(tS [⟨1,false,(tE (.int .u8 0))⟩,⟨4,true,(tS [⟨2,true,(tS [⟨1,false,(tE (.bool false))⟩,⟨1,false,(tLm [])⟩])⟩,⟨2,true,(tS [⟨1,false,(tE (.bool false))⟩,⟨1,false,(tLm [])⟩])⟩])⟩,⟨1,false,(tE (.int .i64 0))⟩])⟩) (fs':=[⟨1,false,tI (ps.getD i tst0).lo⟩,⟨1,false,tI (ps.getD i tst0).hi⟩,⟨6,true,tVa (ps.getD i tst0).v⟩]) 2 rfl rfl rfl,inferInstance,Le.refl⟩⟩⟩) rfl rfl rfl (R1 (xd6 (n:=1) (f:=tTs) [(ps.getD i tst0)] Tryz.underlying22 el34 zf34 rfl (fun _=>inferInstance) rfl rfl rfl) rfl (RE (xc1 (k:=90) (k':=62) (f:=tTs) (ys:=[(ps.getD i tst0)]) (ts':=rV tTs (xs++[(ps.getD i tst0)])) Tryz.underlying22 el34 zf34 rfl rfl (fun _=>inferInstance) xf1 (by simp;omega) (by simp;omega) (by simp [rV]) (n':=xs.length+1) rfl) ⟨rfl,rfl,trivial⟩ ⟨rfl,trivial⟩ ⟨rfl,trivial⟩ ?_)))
    refine A8 ?_
    exact xe6 (l:=[90,1]) (fun j=>cond (Nat.beq j 90) 62 (j)) ((i+1,xs++[(ps.getD i tst0)])) ⟨(by dsimp only;exact ⟨by omega,by rw [pst_snoc _ (by omega),←hx,pst1,if_neg (by omega),if_neg (by omega)]⟩),(by dsimp only;omega)⟩ (SubR.int rfl (by first | omega | rfl | (dsimp only;omega)) (SubR.int rfl (by first | omega | rfl | (dsimp only;omega)) (SubR.cons rfl ((SubR.consI rfl (Imp.of (by dsimp only;rw [List.length_append];rfl))) SubR.nil)))) ((SubKR.consI rfl (ImpK.of xb9.symm)) SubKR.nil) (SupG.val (SupG.val (SupG.val (SupG.own rfl SupG.nil)))) (SupH.cons rfl (supJ xa9) SupH.nil) (lkOk rfl) rfl rfl (fun _ h=>by cases h)
 ·
  refine A6 ?_
  have hil:i=ps.length:=by omega
  subst hil
  rw [List.take_length] at hx
  subst hx
  refine A6 ?_
  exact xe3 LentC.mk' rfl rfl Imp.refl ⟨rfl,trivial⟩ rfl ⟨⟨rfl,xa9⟩,trivial⟩ rfl
theorem getD_map {f:Tst→Tst} {l:List Tst} {i:Nat} (hi:i < l.length):(l.map f).getD i tst0=f (l.getD i tst0):=by
  rw [List.getD_eq_getElem?_getD,List.getD_eq_getElem?_getD,List.getElem?_map,List.getElem?_eq_getElem hi];rfl
theorem cut_next {a b:Int} {l:List Tst} {i:Nat} (hi:i < l.length):pst [] ((l.map (clip a b)).take (i+1))=pst (pst [] ((l.map (clip a b)).take i)) [clip a b (l.getD i tst0)]:=by
  rw [pst_snoc _ (by simpa using hi),getD_map hi];rfl
theorem c_Cut (l:List Tst) (a b:Int) (hl:l.length≤500000) (hD: ∀s∈l,s.v.f.dig):
  Ct Tryz.prog 115 [tL 8 true tTs l,tI a,tI b] (tT [tL 8 true tTs (if tRight l=true∧Sn.ok ⟨a,b⟩=true then cutT l a b else []),tI (if tRight l=true∧Sn.ok ⟨a,b⟩=true then 0 else 2)]):=by
 refine Ct.intro Tryz.func115 rfl Tryz.ntmps115 rfl ?_
 intro w F
 refine A9 ?_
 refine A1 ?_
 refine R1 (x3 (c_TRight l hD) fi73 rfl) rfl ?_
 refine A2 ?_
 refine RGcase (t:=14) rfl (fun h95=> ?_) (fun h95=> ?_)
 ·
  refine A9 ?_
  refine A7 ?_
  exact xc8 Plain.mk' rfl rfl rfl (leNil (by rw [if_neg fun h=>by rw [h.1] at h95;cases h95])) (Le.int (by rw [if_neg fun h=>by rw [h.1] at h95;cases h95]))
 ·
  refine A2 ?_
  refine RGon h95 rfl (x3 (c_isPart _ _) fi186 rfl) rfl ⟨rfl,rfl,trivial⟩ trivial trivial ?_
  refine A4 ?_
  refine xd2 rfl (fun h95_2=> ?_) (fun h95_2=> ?_)
  ·
   refine A8 ?_
   exact xc8 Plain.mk' rfl rfl rfl (leNil (by rw [if_neg fun h=>by rw [h.2] at h95_2;cases h95_2])) (Le.int (by rw [if_neg fun h=>by rw [h.2] at h95_2;cases h95_2]))
  ·
   refine A4 ?_
   refine RE (xd3 (k:=8) 34 8 true rfl (fun h=>by cases h)) trivial trivial ⟨rfl,trivial⟩ ?_
   refine A9 ?_
   refine A2 ?_
   have hok:tRight l=true∧Sn.ok ⟨a,b⟩=true:=⟨by simpa using h95,by simpa using h95_2⟩
   have hlen:=fun s hs=>va_len (tRight_valid hok.1 s hs)
   refine cL (fun (fm:(Nat)×(List Tst))=>(fun (i:Nat) (zs:List Tst)=>i≤l.length∧zs=pst [] ((l.map (clip a b)).take i)) fm.1 fm.2) (fun (fm:(Nat)×(List Tst))=>(fun (i:Nat) (zs:List Tst)=>upd (upd (upd (upd (upd (upd (fun _=>none) 1 (some (.val (tI a)))) 2 (some (.val (tI b)))) 8 (some (.own (.sl 8 8 0 zs.length)))) 20 (some (.val (tL 8 true tTs l)))) 21 (some (.val (tI l.length)))) 22 (some (.val (tI i)))) fm.1 fm.2) (fun (fm:(Nat)×(List Tst))=>(fun (i:Nat) (zs:List Tst)=>upd (fun _=>none) 8 (some (⟨34,8,true,rV tTs zs⟩))) fm.1 fm.2) [8] (fun (fm:(Nat)×(List Tst))=>(fun (i:Nat) (zs:List Tst)=>l.length - i) fm.1 fm.2) ((0,[])) (by dsimp only;exact ⟨Nat.zero_le _,rfl⟩) (hh:=((SubK.consI rfl ImpK.refl) SubK.nil)) ?_
   intro fm hI
   obtain ⟨i,zs⟩:=fm
   replace hI:i≤l.length∧zs=pst [] ((l.map (clip a b)).take i):=hI
   show wc _ _ _ _ (upd (upd (upd (upd (upd (upd (fun _=>none) 1 (some (.val (tI a)))) 2 (some (.val (tI b)))) 8 (some (.own (.sl 8 8 0 zs.length)))) 20 (some (.val (tL 8 true tTs l)))) 21 (some (.val (tI l.length)))) 22 (some (.val (tI i)))) (upd (fun _=>none) 8 (some (⟨34,8,true,rV tTs zs⟩))) _
   obtain ⟨hi,hz⟩:=hI
   have hzl:zs.length≤i:=by
    have h:=pst_len ((l.map (clip a b)).take i) []
    rw [←hz,List.length_take] at h;simp at h;omega
   refine A6 ?_
   refine x9 rfl (fun h99=> ?_) (fun h99=> ?_)
   ·
    refine A6 ?_
    refine R2 (x6 sl22 (i) (by omega) (gD (l:=l) (n:=i) (d:=tst0) (by omega))) rfl rfl ?_
    refine A1 ?_
    refine RE (xa6 (k:=10) (n:=8) (agg:=true) zr34.1 zr34.2 rfl) trivial trivial ⟨rfl,trivial⟩ ?_
    refine A8 ?_
    refine R2 d_max2 rfl rfl ?_
    refine A3 ?_
    refine R2 d_min2 rfl rfl ?_
    refine A2 ?_
    refine R3 (xb0 (r:=tS [⟨1,false,tI (max (l.getD i tst0).lo a)⟩,⟨1,false,tI (min (l.getD i tst0).hi b)⟩,⟨6,true,tVa (l.getD i tst0).v⟩]) (ts:=[(0,tI (max (l.getD i tst0).lo a)),(1,tI (min (l.getD i tst0).hi b)),(2,tVa (l.getD i tst0).v)]) bu34 zr34.2 ⟨_,rfl⟩ rfl ⟨_,_,_,_,rfl,Up.f (fs:=[⟨1,false,(tE (.int .i64 0))⟩,⟨1,false,(tE (.int .i64 0))⟩,⟨6,true,(tS [⟨1,false,(tE (.int .u8 0))⟩,⟨4,true,(tS [⟨2,true,(tS [⟨1,false,(tE (.bool false))⟩,⟨1,false,(tLm [])⟩])⟩,⟨2,true,(tS [⟨1,false,(tE (.bool false))⟩,⟨1,false,(tLm [])⟩])⟩])⟩,⟨1,false,(tE (.int .i64 0))⟩])⟩]) (f:=⟨1,false,(tE (.int .i64 0))⟩) (fs':=[⟨1,false,tI (max (l.getD i tst0).lo a)⟩,⟨1,false,(tE (.int .i64 0))⟩,⟨6,true,(tS [⟨1,false,(tE (.int .u8 0))⟩,⟨4,true,(tS [⟨2,true,(tS [⟨1,false,(tE (.bool false))⟩,⟨1,false,(tLm [])⟩])⟩,⟨2,true,(tS [⟨1,false,(tE (.bool false))⟩,⟨1,false,(tLm [])⟩])⟩])⟩,⟨1,false,(tE (.int .i64 0))⟩])⟩]) 0 rfl rfl rfl,inferInstance,⟨_,_,_,_,rfl,Up.f (fs:=[⟨1,false,tI (max (l.getD i tst0).lo a)⟩,⟨1,false,(tE (.int .i64 0))⟩,⟨6,true,(tS [⟨1,false,(tE (.int .u8 0))⟩,⟨4,true,(tS [⟨2,true,(tS [⟨1,false,(tE (.bool false))⟩,⟨1,false,(tLm [])⟩])⟩,⟨2,true,(tS [⟨1,false,(tE (.bool false))⟩,⟨1,false,(tLm [])⟩])⟩])⟩,⟨1,false,(tE (.int .i64 0))⟩])⟩]) (f:=⟨1,false,(tE (.int .i64 0))⟩) (fs':=[⟨1,false,tI (max (l.getD i tst0).lo a)⟩,⟨1,false,tI (min (l.getD i tst0).hi b)⟩,⟨6,true,(tS [⟨1,false,(tE (.int .u8 0))⟩,⟨4,true,(tS [⟨2,true,(tS [⟨1,false,(tE (.bool false))⟩,⟨1,false,(tLm [])⟩])⟩,⟨2,true,(tS [⟨1,false,(tE (.bool false))⟩,⟨1,false,(tLm [])⟩])⟩])⟩,⟨1,false,(tE (.int .i64 0))⟩])⟩]) 1 rfl rfl rfl,inferInstance,⟨_,_,_,_,rfl,Up.f (fs:=[⟨1,false,tI (max (l.getD i tst0).lo a)⟩,⟨1,false,tI (min (l.getD i tst0).hi b)⟩,⟨6,true,(tS [⟨1,false,(tE (.int .u8 0))⟩,⟨4,true,(tS [⟨2,true,(tS [⟨1,false,(tE (.bool false))⟩,⟨1,false,(tLm [])⟩])⟩,⟨2,true,(tS [⟨1,false,(tE (.bool false))⟩,⟨1,false,(tLm [])⟩])⟩])⟩,⟨1,false,(tE (.int .i64 0))⟩])⟩]) (f:=⟨6,true,(tS [⟨1,false,(tE (.int .u8 0))⟩,⟨4,true,(tS [⟨2,true,(tS [⟨1,false,(tE (.bool false))⟩,⟨1,false,(tLm [])⟩])⟩,⟨2,true,(tS [⟨1,false,(tE (.bool false))⟩,⟨1,false,(tLm [])⟩])⟩])⟩,⟨1,false,(tE (.int .i64 0))⟩])⟩) (fs':=[⟨1,false,tI (max (l.getD i tst0).lo a)⟩,⟨1,false,tI (min (l.getD i tst0).hi b)⟩,⟨6,true,tVa (l.getD i tst0).v⟩]) 2 rfl rfl rfl,inferInstance,Le.refl⟩⟩⟩) rfl rfl rfl (R1 (xd6 (n:=1) (f:=tTs) [(clip a b (l.getD i tst0))] Tryz.underlying22 el34 zf34 rfl (fun _=>inferInstance) rfl rfl rfl) rfl ?_)
    have hcl: ∀s∈[(clip a b (l.getD i tst0))],s.v.f.n.l.length≤1000000∧s.v.f.d.l.length≤1000000:=by
     intro s hs
     rw [List.mem_singleton.1 hs]
     have h:=hlen _ (xc2 (l:=l) (i:=i) (by omega))
     exact ⟨by show (l.getD i tst0).v.f.n.l.length≤_;omega,by show (l.getD i tst0).v.f.d.l.length≤_;omega⟩
    refine RE (xe0 (fun j=>cond (Nat.beq j 1) 8 (39)) (c_paste zs [(clip a b (l.getD i tst0))] (by omega) (by simp) hcl) fi187 rfl (krC (ρ:=fun j=>cond (Nat.beq j 1) 8 (39)) (k:=1) xb9 (krN (ρ:=fun j=>cond (Nat.beq j 1) 8 (39)))) (krC (ρ:=fun j=>cond (Nat.beq j 1) 8 (39)) (k:=90) xb9 (krN (ρ:=fun j=>cond (Nat.beq j 1) 8 (39)))) ⟨⟨rfl,xa9⟩,trivial⟩ rfl) ⟨rfl,rfl,trivial⟩ ⟨rfl,trivial⟩ ⟨rfl,trivial⟩ ?_
    refine A8 ?_
    exact xe6 (l:=[8]) (fun j=>cond (Nat.beq j 8) 39 (j)) ((i+1,pst zs [(clip a b (l.getD i tst0))])) ⟨(by dsimp only;exact ⟨by omega,by rw [cut_next (by omega),←hz]⟩),(by dsimp only;omega)⟩ (SubR.int rfl (by first | omega | rfl | (dsimp only;omega)) (SubR.int rfl (by first | omega | rfl | (dsimp only;omega)) (SubR.cons rfl (SubR.cons rfl (SubR.int rfl (by first | omega | rfl | (dsimp only;omega)) (SubR.int rfl (by first | omega | rfl | (dsimp only;omega)) SubR.nil)))))) ((SubKR.consI rfl (ImpK.of xb9.symm)) SubKR.nil) (SupG.val (SupG.val (SupG.val (SupG.own rfl (SupG.val (SupG.val SupG.nil)))))) (SupH.cons rfl (supJ xa9) SupH.nil) (lkOk rfl) rfl rfl (fun _ h=>by cases h)
   ·
    refine A8 ?_
    refine RE (d_assignS (f:=tTs) (xs:=zs) (fun _ h=>h) (rV_all rfl) rfl) ⟨rfl,trivial⟩ ⟨rfl,trivial⟩ trivial ?_
    refine A4 ?_
    exact xc8 Plain.mk' rfl rfl rfl (Le.of (by rw [if_pos hok,hz,cutT,show i=(l.map (clip a b)).length by simp;omega,List.take_length])) (Le.int (by rw [if_pos hok]))
end An.S

/- Layer 5: parts of timelines, and sums. Plain data. -/
namespace An
open Go
theorem pst_all {P:Tst→Prop} (hset: ∀a s,P a→P s→a.hi=s.lo→P ⟨a.lo,s.hi,a.v⟩): ∀(ps acc:List Tst),(∀s∈acc,P s)→(∀s∈ps,s.lo < s.hi→P s)→ ∀s∈pst acc ps,P s
  | [],acc,ha,_=>ha
  | s::r,acc,ha,hp=>by
    refine pst_all hset r (pst1 acc s) ?_ fun x hx=>hp x (List.mem_cons_of_mem _ hx)
    intro x hx
    rw [pst1] at hx
    split at hx
    · exact ha x hx
    · rename_i h1
      split at hx
      · rename_i h2
        rcases List.mem_or_eq_of_mem_set hx with h | h
        · exact ha x h
        · subst h
          exact hset _ s (ha _ (xc2 (by omega))) (hp s (List.mem_cons_self ..) (by omega)) h2.2.1
      · rcases List.mem_append.1 hx with h | h
        · exact ha x h
        · rw [List.mem_singleton.1 h];exact hp s (List.mem_cons_self ..) (by omega)
theorem xh9 {l:List Tst} (h:tRight l=true) {i:Nat} (hi:i < l.length):0≤(l.getD i tst0).lo∧(l.getD i tst0).lo < (l.getD i tst0).hi∧(l.getD i tst0).hi≤65536∧(i=0∨(l.getD (i - 1) tst0).hi≤(l.getD i tst0).lo∧(l.getD (i - 1) tst0).v.kind=(l.getD i tst0).v.kind∧ ¬((l.getD (i - 1) tst0).hi=(l.getD i tst0).lo∧(l.getD (i - 1) tst0).v=(l.getD i tst0).v)):=by
  simp only [tRight,Bool.and_eq_true,List.all_eq_true] at h
  exact tOk_iff.1 (h.1 i (List.mem_range.2 hi))
theorem kind_at {l:List Tst} (h:tRight l=true): ∀{i:Nat},i < l.length→(l.getD i tst0).v.kind=(l.getD 0 tst0).v.kind
  | 0,_=>rfl
  | i+1,hi=>by
    rcases (xh9 h hi).2.2.2 with h0 | h0
    · omega
    · rw [←h0.2.1];exact kind_at h (by omega)
theorem xh5 {l:List Tst} {s:Tst} (hs:s∈l): ∃i,i < l.length∧s=l.getD i tst0:=by
  obtain ⟨i,hi,e⟩:=List.getElem_of_mem hs
  exact ⟨i,hi,by rw [List.getD_eq_getElem?_getD,List.getElem?_eq_getElem hi];exact e.symm⟩
/-- A step of numbers. -/
def sNum (s:Tst):Prop:=0≤s.lo∧s.lo < s.hi∧s.hi≤65536∧s.v.f=fr s.v.f.rat∧short s.v.f.rat
def numK (l:List Tst):Prop:=l.length=0∨(l.getD 0 tst0).v.kind=2∨(l.getD 0 tst0).v.kind=3
instance (l:List Tst):Decidable (numK l):=inferInstanceAs (Decidable (_∨_))
theorem num_fr {v:Va} (hv:v.valid=true) (hD:v.f.dig) (hk:v.kind=2∨v.kind=3):v.f=fr v.f.rat∧short v.f.rat:=by
  rw [Va.valid,if_pos hk,Bool.and_eq_true] at hv
  exact Fr.of_valid' hD hv.2
theorem num_mem {l:List Tst} (h:tRight l=true) (hD: ∀s∈l,s.v.f.dig) (hk:numK l) {s:Tst} (hs:s∈l):sNum s:=by
  obtain ⟨i,hi,rfl⟩:=xh5 hs
  have h1:=xh9 h hi
  have h2:=kind_at h hi
  have h3:=num_fr (tRight_valid h _ hs) (hD _ hs) (by rw [h2];rcases hk with h0 | h0;omega;exact h0)
  exact ⟨h1.1,h1.2.1,h1.2.2.1,h3⟩
theorem cut_num {l:List Tst} {a b:Int} (h:tRight l=true) (hD: ∀s∈l,s.v.f.dig) (hk:numK l): ∀s∈cutT l a b,sNum s:=by
  refine pst_all (P:=sNum) (fun x s hx hs e=>⟨hx.1,by have:=hx.2.1;have:=hs.2.1;dsimp only;omega,hs.2.2.1,hx.2.2.2⟩) _ _ (fun s hs=>by cases hs) fun s hs hlt=> ?_
  obtain ⟨x,hx,rfl⟩:=List.mem_map.1 hs
  have h1:=num_mem h hD hk hx
  simp only [clip] at hlt
  refine ⟨?_,hlt,?_,h1.2.2.2⟩
  · have:=h1.1;simp only [clip];omega
  · have:=h1.2.2.1;simp only [clip];omega
/-- The sum of the days' values. -/
def sumStep:Option Rat→Tst→Option Rat
  | none,_=>none
  | some q,s=>if short (s.v.f.rat*((s.hi - s.lo:Int):Rat))∧short (q+s.v.f.rat*((s.hi - s.lo:Int):Rat)) then some (q+s.v.f.rat*((s.hi - s.lo:Int):Rat)) else none
def sumT (l:List Tst):Option Rat:=l.foldl sumStep (some ((0:Int):Rat))
theorem sum_next {l:List Tst} {i:Nat} (hi:i < l.length):sumT (l.take (i+1))=sumStep (sumT (l.take i)) (l.getD i tst0):=by
  rw [List.take_succ_eq_append_getElem hi,sumT,List.foldl_append,List.getD_eq_getElem?_getD,List.getElem?_eq_getElem hi];rfl
theorem sum_none: ∀l:List Tst,l.foldl sumStep none=none
  | []=>rfl
  | _::r=>sum_none r
theorem sum_stop {l:List Tst} {i:Nat} (h:sumT (l.take i)=none):sumT l=none:=by
  rw [sumT,←List.take_append_drop i l,List.foldl_append]
  rw [sumT] at h;rw [h];exact sum_none _
def sumF:Option Rat→Fr
  | some q=>fr q
  | none=>fr0
def sumE:Option Rat→Int
  | some _=>0
  | none=>3
def sumC (l:List Tst) (a b:Int):Prop:=(tRight l=true∧Sn.ok ⟨a,b⟩=true)∧numK l
instance (l:List Tst) (a b:Int):Decidable (sumC l a b):=inferInstanceAs (Decidable (_∧_))
theorem resFE_zero {q:Rat} (h:resFE q=0):short q:=by
  rw [resFE] at h;split at h
  · assumption
  · cases h
theorem resFE_not {q:Rat} (h: ¬resFE q=0): ¬short q:=fun hs=>h (if_pos hs)
end An

/- Layer 5: sums. -/
namespace An.S
open Go Go.Proofs An
set_option maxHeartbeats 2000000
instance fi56:FnI Tryz.prog 56:=⟨_,Tryz.func56,by kernel_rfl,rfl⟩
instance fi58:FnI Tryz.prog 58:=⟨_,Tryz.func58,by kernel_rfl,rfl⟩
instance fi62:FnI Tryz.prog 62:=⟨_,Tryz.func62,by kernel_rfl,rfl⟩
instance fi115:FnI Tryz.prog 115:=⟨_,Tryz.func115,by kernel_rfl,rfl⟩
theorem c_FMulT (f:Fr) (n:Int) (hf:f=fr f.rat) (hs:short f.rat) (hn:short (n:Rat)):Ct Tryz.prog 58 [tFr f,tFr (fr (n:Rat))] (tT [tFr (resF (f.rat*(n:Rat))),tI (resFE (f.rat*(n:Rat)))]):=by
  have h:=c_FMul f.rat n hs hn
  rw [←hf] at h;exact h
theorem c_FAddR (q p:Rat) (hq:short q) (hp:short p):Ct Tryz.prog 62 [tFr (fr q),tFr (resF p)] (tT [tFr (resF (q+p)),tI (resFE (q+p))]):=by
  rw [show resF p=fr p from if_pos hp];exact c_FAdd q p hq hp
theorem c_TSum (l:List Tst) (a b:Int) (hl:l.length≤500000) (hD: ∀s∈l,s.v.f.dig):
  Ct Tryz.prog 57 [tL 8 true tTs l,tI a,tI b] (tT [tFr (if sumC l a b then sumF (sumT (cutT l a b)) else fr0),tI (if sumC l a b then sumE (sumT (cutT l a b)) else 2)]):=by
 have hcut:=c_Cut l a b hl hD
 obtain ⟨part,hpart⟩: ∃p:List Tst,p=(if (tRight l=true∧Sn.ok ⟨a,b⟩=true) then cutT l a b else []):=⟨_,rfl⟩
 obtain ⟨er,her⟩: ∃e:Int,e=(if (tRight l=true∧Sn.ok ⟨a,b⟩=true) then 0 else 2):=⟨_,rfl⟩
 rw [←hpart,←her] at hcut
 refine Ct.intro Tryz.func57 rfl Tryz.ntmps57 rfl ?_
 intro w F
 refine A2 ?_
 refine RE (xa6 (k:=6) (n:=4) (agg:=true) zr30.1 zr30.2 rfl) trivial trivial ⟨rfl,trivial⟩ ?_
 refine A8 ?_
 refine R3 (x3 hcut fi115 rfl) rfl rfl rfl ?_
 refine A9 ?_
 refine A5 ?_
 refine x9 rfl (fun h181=> ?_) (fun h181=> ?_)
 ·
  have hb0: ¬(tRight l=true∧Sn.ok ⟨a,b⟩=true):=fun h=>h181 (by rw [her,if_pos h])
  have hb: ¬sumC l a b:=fun h=>hb0 h.1
  refine A2 ?_
  refine R0 (xb0 (r:=tS [⟨2,true,(tS [⟨1,false,(tE (.bool false))⟩,⟨1,false,(tLm [])⟩])⟩,⟨2,true,(tS [⟨1,false,(tE (.bool false))⟩,⟨1,false,(tLm [])⟩])⟩]) (ts:=[]) bu30 zr30.2 ⟨_,rfl⟩ rfl Le.refl) ?_
  refine A7 ?_
  exact xe2 Plain.mk' (rs:=[.cell 6 30,.tmp 7]) rfl rfl ⟨⟨_,_,_,_,_,rfl,rfl,ti30,(Le.of (by rw [if_neg hb];rfl))⟩,⟨_,rfl,(Le.int (by rw [if_neg hb,her,if_neg hb0]))⟩,trivial⟩
 ·
  have hok:(tRight l=true∧Sn.ok ⟨a,b⟩=true):=Classical.byContradiction fun h=>h181 (by rw [her,if_neg h];decide)
  refine A2 ?_
  refine xh2 (fun (_j:Unit)=>numK l) (fun (_j:Unit)=>upd (upd (fun _=>none) 6 (some (.own (.ptr 6 0)))) 8 (some (.val (tL 8 true tTs part)))) (fun (_j:Unit)=>upd (fun _=>none) 6 (some (⟨30,4,true,[.val (tFr fr0)]⟩))) (nm [6]) ?_ ?_
  ·
   refine A6 ?_
   refine RGcaseD (t:=29) rfl (fun h184=> ?_) (fun h184=> ?_)
   ·
    refine A1 ?_
    refine RGon (decide_eq_true h184) rfl (x6 sl22 (0) (by omega) (gD (l:=l) (n:=0) (d:=tst0) (by omega))) rfl ⟨rfl,rfl,trivial⟩ trivial trivial (RGon (decide_eq_true h184) rfl (xb4 fo34_2.h (At.f 2 rfl rfl) rfl) rfl ⟨rfl,trivial⟩ trivial trivial (RGon (decide_eq_true h184) rfl (xb4 fo32_0.h (At.f 0 rfl rfl) rfl) rfl ⟨rfl,trivial⟩ trivial trivial ?_))
    refine A4 ?_
    refine RGcaseD (t:=37) rfl (fun h184_2=> ?_) (fun h184_2=> ?_)
    ·
     refine A1 ?_
     refine RGon (decide_eq_true h184_2) rfl (x6 sl22 (0) (by omega) (gD (l:=l) (n:=0) (d:=tst0) (by omega))) rfl ⟨rfl,rfl,trivial⟩ trivial trivial (RGon (decide_eq_true h184_2) rfl (xb4 fo34_2.h (At.f 2 rfl rfl) rfl) rfl ⟨rfl,trivial⟩ trivial trivial (RGon (decide_eq_true h184_2) rfl (xb4 fo32_0.h (At.f 0 rfl rfl) rfl) rfl ⟨rfl,trivial⟩ trivial trivial ?_))
     refine A5 ?_
     refine x9 rfl (fun h184_3=> ?_) (fun h184_3=> ?_)
     ·
      refine A2 ?_
      refine R0 (xb0 (r:=tS [⟨2,true,(tS [⟨1,false,(tE (.bool false))⟩,⟨1,false,(tLm [])⟩])⟩,⟨2,true,(tS [⟨1,false,(tE (.bool false))⟩,⟨1,false,(tLm [])⟩])⟩]) (ts:=[]) bu30 zr30.2 ⟨_,rfl⟩ rfl Le.refl) ?_
      refine A6 ?_
      exact xe2 Plain.mk' (rs:=[.cell 6 30,.tmp 7]) rfl rfl ⟨⟨_,_,_,_,_,rfl,rfl,ti30,(Le.of (by rw [if_neg (fun h=>by have:=h.2;simp only [numK] at this;omega)];rfl))⟩,⟨_,rfl,(Le.int (by rw [if_neg (fun h=>by have:=h.2;simp only [numK] at this;omega)]))⟩,trivial⟩
     ·
      refine A1 ?_
      exact kF (()) (by simp only [numK];omega) (hh:=((SubK.consI rfl ImpK.refl) SubK.nil))
    ·
     refine A9 ?_
     refine A2 ?_
     exact kF (()) (by simp only [numK];omega) (hh:=((SubK.consI rfl ImpK.refl) SubK.nil))
   ·
    refine A9 ?_
    refine A9 ?_
    refine A1 ?_
    exact kF (()) (by simp only [numK];omega) (hh:=((SubK.consI rfl ImpK.refl) SubK.nil))
  ·
   intro _j hnk
   refine A2 ?_
   refine R1 (x3 (c_FFromInt 0 (by decide) (by decide)) fi56 rfl) rfl (RE (xa6 (k:=10) (n:=4) (agg:=true) zr30.1 zr30.2 rfl) trivial trivial ⟨rfl,trivial⟩ ?_)
   refine A9 ?_
   refine A3 ?_
   have hc:sumC l a b:=⟨hok,hnk⟩
   have hnum:=cut_num (a:=a) (b:=b) hok.1 hD hc.2
   rw [if_pos hok] at hpart
   rw [←hpart] at hnum
   refine C_len (s:=47) rfl (fun hl0=> ?_)
   refine cL (fun (fm:(Nat)×(Rat))=>(fun (i:Nat) (q:Rat)=>i≤part.length∧sumT (part.take i)=some q∧short q) fm.1 fm.2) (fun (fm:(Nat)×(Rat))=>(fun (i:Nat) (q:Rat)=>upd (upd (upd (upd (upd (fun _=>none) 6 (some (.own (.ptr 6 0)))) 10 (some (.own (.ptr 10 0)))) 47 (some (.val (tL 8 true tTs part)))) 48 (some (.val (tI part.length)))) 49 (some (.val (tI i)))) fm.1 fm.2) (fun (fm:(Nat)×(Rat))=>(fun (i:Nat) (q:Rat)=>upd (upd (fun _=>none) 6 (some (⟨30,4,true,[.val (tFr fr0)]⟩))) 10 (some (⟨30,4,true,[.val (tFr (fr q))]⟩))) fm.1 fm.2) [6,10] (fun (fm:(Nat)×(Rat))=>(fun (i:Nat) (q:Rat)=>part.length - i) fm.1 fm.2) ((0,((0:Int):Rat))) (by dsimp only;exact ⟨Nat.zero_le _,rfl,short_int (Nat.le_trans (len16_64 (by decide) (by decide)) (by decide))⟩) (hh:=((SubK.consI rfl ImpK.refl) ((SubK.consI rfl ImpK.refl) SubK.nil))) ?_
   intro fm hI
   obtain ⟨i,q⟩:=fm
   replace hI:i≤part.length∧sumT (part.take i)=some q∧short q:=hI
   show wc _ _ _ _ (upd (upd (upd (upd (upd (fun _=>none) 6 (some (.own (.ptr 6 0)))) 10 (some (.own (.ptr 10 0)))) 47 (some (.val (tL 8 true tTs part)))) 48 (some (.val (tI part.length)))) 49 (some (.val (tI i)))) (upd (upd (fun _=>none) 6 (some (⟨30,4,true,[.val (tFr fr0)]⟩))) 10 (some (⟨30,4,true,[.val (tFr (fr q))]⟩))) _
   obtain ⟨hi,hq,hs⟩:=hI
   refine A6 ?_
   refine x9 rfl (fun h188=> ?_) (fun h188=> ?_)
   ·
    refine A6 ?_
    obtain ⟨n1,n2,n3,n4,n5⟩:=hnum _ (xc2 (l:=part) (i:=i) (by omega))
    refine R2 (x6 sl22 (i) (by omega) (gD (l:=part) (n:=i) (d:=tst0) (by omega))) rfl rfl ?_
    refine A1 ?_
    refine RE (xa6 (k:=12) (n:=8) (agg:=true) zr34.1 zr34.2 rfl) trivial trivial ⟨rfl,trivial⟩ ?_
    refine A7 ?_
    refine xg1 (0) ti30 rfl rfl rfl (At.t (At.g 2 rfl rfl) (At.g 1 rfl rfl)) rfl ?_
    refine A5 ?_
    refine R1 (x3 (c_FFromInt ((part.getD i tst0).hi - (part.getD i tst0).lo) (by omega) (by omega)) fi56 rfl) rfl (R2 (x3 (c_FMulT (part.getD i tst0).v.f ((part.getD i tst0).hi - (part.getD i tst0).lo) n4 n5 (short_int (Nat.le_trans (len16_64 (by omega) (by omega)) (by decide)))) fi58 rfl) rfl rfl ?_)
    refine A3 ?_
    refine RE (xa6 (k:=13) (n:=4) (agg:=true) zr30.1 zr30.2 rfl) trivial trivial ⟨rfl,trivial⟩ ?_
    refine A9 ?_
    refine A2 ?_
    refine x9 rfl (fun h190=> ?_) (fun h190=> ?_)
    ·
     have hp:=resFE_zero h190
     refine A3 ?_
     refine R2 (x3 (c_FAddR q ((part.getD i tst0).v.f.rat*(((part.getD i tst0).hi - (part.getD i tst0).lo:Int):Rat)) hs hp) fi62 rfl) rfl rfl ?_
     refine A9 ?_
     refine A4 ?_
     refine x9 rfl (fun h193=> ?_) (fun h193=> ?_)
     ·
      refine A2 ?_
      refine R0 (xb0 (r:=tS [⟨2,true,(tS [⟨1,false,(tE (.bool false))⟩,⟨1,false,(tLm [])⟩])⟩,⟨2,true,(tS [⟨1,false,(tE (.bool false))⟩,⟨1,false,(tLm [])⟩])⟩]) (ts:=[]) bu30 zr30.2 ⟨_,rfl⟩ rfl Le.refl) ?_
      refine A9 ?_
      refine A2 ?_
      exact xe2 Plain.mk' (rs:=[.cell 6 30,.tmp 7]) rfl rfl ⟨⟨_,_,_,_,_,rfl,rfl,ti30,(Le.of (by rw [if_pos hc,←hpart,sum_stop (i:=i+1) (by rw [sum_next (by omega),hq,sumStep,if_neg (fun h=>resFE_not h193 h.2)])];rfl))⟩,⟨_,rfl,(Le.int (by rw [if_pos hc,←hpart,sum_stop (i:=i+1) (by rw [sum_next (by omega),hq,sumStep,if_neg (fun h=>resFE_not h193 h.2)]),resFE,if_neg (resFE_not h193)];rfl))⟩,trivial⟩
     ·
      have h193z:=Decidable.not_not.1 h193
      refine A7 ?_
      exact kF ((i+1,q+((part.getD i tst0).v.f.rat*(((part.getD i tst0).hi - (part.getD i tst0).lo:Int):Rat)))) ⟨(by dsimp only;exact ⟨by omega,by rw [sum_next (by omega),hq,sumStep,if_pos ⟨hp,resFE_zero h193z⟩],resFE_zero h193z⟩),(by dsimp only;omega)⟩ (hh:=((SubK.consI rfl (ImpK.of (by dsimp only;rw [resF,if_pos (resFE_zero h193z)];rfl))) ((SubK.consI rfl ImpK.refl) SubK.nil)))
    ·
     refine A8 ?_
     refine x9 rfl (fun h193=> ?_) (fun h193=> ?_)
     ·
      refine A2 ?_
      refine R0 (xb0 (r:=tS [⟨2,true,(tS [⟨1,false,(tE (.bool false))⟩,⟨1,false,(tLm [])⟩])⟩,⟨2,true,(tS [⟨1,false,(tE (.bool false))⟩,⟨1,false,(tLm [])⟩])⟩]) (ts:=[]) bu30 zr30.2 ⟨_,rfl⟩ rfl Le.refl) ?_
      refine A9 ?_
      refine A2 ?_
      exact xe2 Plain.mk' (rs:=[.cell 6 30,.tmp 7]) rfl rfl ⟨⟨_,_,_,_,_,rfl,rfl,ti30,(Le.of (by rw [if_pos hc,←hpart,sum_stop (i:=i+1) (by rw [sum_next (by omega),hq,sumStep,if_neg (fun h=>resFE_not h193 h.1)])];rfl))⟩,⟨_,rfl,(Le.int (by rw [if_pos hc,←hpart,sum_stop (i:=i+1) (by rw [sum_next (by omega),hq,sumStep,if_neg (fun h=>resFE_not h193 h.1)]),resFE,if_neg (resFE_not h193)];rfl))⟩,trivial⟩
     ·
      have h193z:=Decidable.not_not.1 h193
      refine A7 ?_
      exact kF ((i+1,q)) ⟨(by dsimp only;exact absurd h193z h190),(by dsimp only;omega)⟩ (hh:=((SubK.consI rfl ImpK.refl) ((SubK.consI rfl ImpK.refl) SubK.nil)))
   ·
    refine A9 ?_
    refine A4 ?_
    exact xe2 Plain.mk' (rs:=[.cell 6 30,.tmp 7]) rfl rfl ⟨⟨_,_,_,_,_,rfl,rfl,ti30,(Le.of (by rw [if_pos hc,←hpart,←List.take_length (l:=part),←show i=part.length by omega,hq];rfl))⟩,⟨_,rfl,(Le.int (by rw [if_pos hc,←hpart,←List.take_length (l:=part),←show i=part.length by omega,hq];rfl))⟩,trivial⟩
end An.S

/- Layer 8: service records. -/
namespace An.S
open Go Go.Proofs An
set_option maxHeartbeats 2000000
instance ti22:TyI Tryz.prog 22 1 false:=⟨by kernel_rfl,by kernel_rfl⟩
instance ti72:TyI Tryz.prog 72 3 true:=⟨by kernel_rfl,by kernel_rfl⟩
instance fo72_0:FoI Tryz.prog 72 0 0:=⟨by kernel_rfl⟩
instance fo72_1:FoI Tryz.prog 72 1 2:=⟨by kernel_rfl⟩
instance fi35:FnI Tryz.prog 35:=⟨_,Tryz.func35,by kernel_rfl,rfl⟩
instance fi55:FnI Tryz.prog 55:=⟨_,Tryz.func55,by kernel_rfl,rfl⟩
instance fi61:FnI Tryz.prog 61:=⟨_,Tryz.func61,by kernel_rfl,rfl⟩
instance fi75:FnI Tryz.prog 75:=⟨_,Tryz.func75,by kernel_rfl,rfl⟩
instance fi85:FnI Tryz.prog 85:=⟨_,Tryz.func85,by kernel_rfl,rfl⟩
instance fi86:FnI Tryz.prog 86:=⟨_,Tryz.func86,by kernel_rfl,rfl⟩
theorem zr72:(Tryz.prog.info? 72).bind (·.zero)=some (.agg #[.int .i64 0,.int .i64 0,.slice none 0 0])∧ ∀F w,(tS [⟨2,true,(tS [⟨1,false,(tE (.int .i64 0))⟩,⟨1,false,(tE (.int .i64 0))⟩])⟩,⟨1,false,(tE (.slice none 0 0))⟩]).p F w (.agg #[.int .i64 0,.int .i64 0,.slice none 0 0]):=⟨by kernel_rfl,fun _ _=>⟨_,rfl,rfl,⟨fun h=>Bool.noConfusion h,⟨_,rfl,rfl,⟨fun _=>rfl,rfl⟩,⟨fun _=>rfl,rfl⟩,trivial⟩⟩,⟨fun _=>rfl,rfl⟩,trivial⟩⟩
theorem bu72:BuI Tryz.prog 72 (fun i=>[(0,2),(2,1)][i]?) (.agg #[.int .i64 0,.int .i64 0,.slice none 0 0]):=BuI.struct Tryz.underlying72 (by kernel_rfl) (by kernel_rfl)
theorem c_FCmpV (f g:Fr) (hf:f.dig) (hg:g.dig) (vf:f.valid=true) (vg:g.valid=true):Ct Tryz.prog 61 [tFr f,tFr g] (tI (cmpQ f.rat g.rat)):=by
  obtain ⟨e1,s1⟩:=Fr.of_valid' hf vf
  obtain ⟨e2,s2⟩:=Fr.of_valid' hg vg
  have h:=c_FCmp f.rat g.rat s1 s2
  rw [←e1,←e2] at h;exact h
theorem short_one:short (1:Rat):=short_int (n:=1) (by show (wh 1).l.length≤256;rw [wh_one];decide)
theorem c_FCmp1 (f:Fr) (hf:f.dig) (vf:f.valid=true):Ct Tryz.prog 61 [tFr f,tFr (fr ((1:Int):Rat))] (tI (cmpQ f.rat 1)):=by
  have h:=c_FCmpV f (fr ((1:Int):Rat)) hf ⟨xc3 x7 _,xc3 x7 _⟩ vf (valid_fr short_one)
  rw [rat_fr] at h;exact h
theorem cmpQ_pos {a b:Rat}:0 < cmpQ a b↔ ¬a≤b:=by
  simp only [cmpQ]
  split
  · rename_i h;simp [Rat.le_of_lt h]
  · rename_i h
    split
    · rename_i h2;subst h2;simp
    · rename_i h2
      simp only [Int.zero_lt_one,true_iff]
      intro h3
      rcases Rat.le_iff_lt_or_eq.1 h3 with h4 | h4
      · exact h h4
      · exact h2 h4
theorem num_valid {v:Va} (h:v.valid=true) (hk:v.kind=2):v.f.valid=true:=by
  rw [Va.valid,if_pos (.inl hk),Bool.and_eq_true] at h;exact h.2
theorem sOk_not {s:Tst} {b:Bool} (h:b=false↔s.v.kind=2∧s.v.f.n.neg=false∧s.v.f.rat≤1):b= !sOk s:=by
  cases b
  · have h:=h.1 rfl
    simp [sOk,h]
  · have h: ¬(s.v.kind=2∧s.v.f.n.neg=false∧s.v.f.rat≤1):=fun h'=>by have:=h.2 h';cases this
    by_cases h1:sOk s=true
    · simp only [sOk,Bool.and_eq_true,decide_eq_true_eq,Bool.not_eq_true'] at h1
      exact (h ⟨h1.1.1,h1.1.2,h1.2⟩).elim
    · simp [h1]
theorem all_any2 {l:List Tst}:(!l.any fun s=> !sOk s)=l.all sOk:=by
  rw [List.not_any_eq_all_not];simp
theorem c_SvR1 (s:Tst) (hv:s.v.valid=true) (hD:s.v.f.dig):
  CtG Tryz.prog 75 [(3,⟨30,4,true,[.val (tFr (fr ((1:Int):Rat)))]⟩)] [.val (tTs s),.own (.ptr 3 0)] (.val (tB (!sOk s))) [(3,⟨30,4,true,[.val (tFr (fr ((1:Int):Rat)))]⟩)] []:=by
 refine CtG.intro [3] Tryz.func75 rfl Tryz.ntmps75 rfl rfl ⟨⟨rfl,(SupX.lit rfl)⟩,trivial⟩ ?_
 intro w F η
 refine A9 ?_
 refine A1 ?_
 refine xg1 (0) ti5 rfl rfl rfl (At.t (At.g 2 rfl rfl) (At.g 0 rfl rfl)) rfl ?_
 refine A2 ?_
 refine RGcaseD (t:=8) rfl (fun h59=> ?_) (fun h59=> ?_)
 ·
  refine A9 ?_
  refine A9 ?_
  exact xe3 LentC.mk' rfl rfl (Imp.le (Le.bool (sOk_not (by first | (simp;omega) | (simp [*];done) | (simp [cmpQ_pos, *];omega) | (simp [cmpQ_pos, *]))))) ⟨rfl,trivial⟩ rfl ⟨⟨rfl,(SupX.lit rfl)⟩,trivial⟩ rfl
 ·
  refine A4 ?_
  refine xc5 (decide_eq_false h59) rfl rfl (0) ti4 rfl rfl rfl (At.t (At.g 2 rfl rfl) (At.t (At.g 1 rfl rfl) (At.t (At.g 0 rfl rfl) (At.g 0 rfl rfl)))) rfl ?_
  refine A2 ?_
  refine RGcase (t:=15) rfl (fun h59_2=> ?_) (fun h59_2=> ?_)
  ·
   refine A9 ?_
   refine A2 ?_
   exact xe3 LentC.mk' rfl rfl (Imp.le (Le.bool (sOk_not (by first | (simp;omega) | (simp [*];done) | (simp [cmpQ_pos, *];omega) | (simp [cmpQ_pos, *]))))) ⟨rfl,trivial⟩ rfl ⟨⟨rfl,(SupX.lit rfl)⟩,trivial⟩ rfl
  ·
   refine A2 ?_
   refine xc5 h59_2 rfl rfl (0) ti30 rfl rfl rfl (At.t (At.g 2 rfl rfl) (At.g 1 rfl rfl)) rfl ?_
   refine A1 ?_
   refine RGon h59_2 rfl (x3 (c_FCmp1 s.v.f hD (num_valid hv (by omega))) fi61 rfl) rfl ⟨rfl,rfl,trivial⟩ trivial trivial ?_
   refine A6 ?_
   exact xe3 LentC.mk' rfl rfl (Imp.le (Le.bool (sOk_not (by first | (simp;omega) | (simp [*];done) | (simp [cmpQ_pos, *];omega) | (simp [cmpQ_pos, *]))))) ⟨rfl,trivial⟩ rfl ⟨⟨rfl,(SupX.lit rfl)⟩,trivial⟩ rfl
theorem c_SvIndex (l:List Tst) (hv: ∀s∈l,s.v.valid=true) (hD: ∀s∈l,s.v.f.dig):
  CtG Tryz.prog 145 [(3,⟨30,4,true,[.val (tFr (fr ((1:Int):Rat)))]⟩)] [.val (tL 8 true tTs l),.own (.fn 75 [.ptr 3 0])] (.val (tI (ixF (fun s:Tst=> !sOk s) l))) [(3,⟨30,4,true,[.val (tFr (fr ((1:Int):Rat)))]⟩)] []:=by
 refine CtG.intro [3] Tryz.func145 rfl Tryz.ntmps145 rfl rfl ⟨⟨rfl,(SupX.lit rfl)⟩,trivial⟩ ?_
 intro w F η
 refine C_len (s:=0) rfl (fun hl0=> ?_)
 refine A9 ?_
 refine A5 ?_
 refine cL (fun (i:Nat)=>i≤l.length∧(l.take i).any (fun s:Tst=> !sOk s)=false) (fun (i:Nat)=>upd (upd (upd (upd (fun _=>none) 0 (some (.val (tL 8 true tTs l)))) 1 (some (.own (.fn 75 [.ptr 3 0])))) 7 (some (.val (tI l.length)))) 8 (some (.val (tI i)))) (fun (i:Nat)=>upd (fun _=>none) 3 (some (⟨30,4,true,[.val (tFr (fr ((1:Int):Rat)))]⟩))) [3] (fun (i:Nat)=>l.length - i) (0) ⟨Nat.zero_le _,rfl⟩ ?_
 intro i hI
 obtain ⟨hi,ha⟩:=hI
 refine A6 ?_
 refine x9 rfl (fun h108=> ?_) (fun h108=> ?_)
 ·
  refine A9 ?_
  refine A6 ?_
  refine R2 (x6 sl22 (i) (by omega) (gD (l:=l) (n:=i) (d:=tst0) (by omega))) rfl rfl ?_
  refine A1 ?_
  refine RE (d_callCX (ps:=[.val (tTs _)]) (caps:=[.ptr 3 0]) (fun _=>3) (c_SvR1 (l.getD i tst0) (hv _ (xc2 (by omega))) (hD _ (xc2 (by omega)))) fi75 rfl (krC (ρ:=fun _=>3) (k:=3) rfl (krN (ρ:=fun _=>3))) (krC (ρ:=fun _=>3) (k:=3) rfl (krN (ρ:=fun _=>3))) ⟨⟨rfl,(SupX.lit rfl)⟩,trivial⟩ rfl) ⟨rfl,rfl,trivial⟩ ⟨rfl,trivial⟩ trivial ?_
  refine A2 ?_
  refine xd2 rfl (fun h109=> ?_) (fun h109=> ?_)
  ·
   refine A9 ?_
   refine A3 ?_
   exact xe3 LentC.mk' rfl rfl (Imp.int (ixF_at (by omega) ha h109)) ⟨rfl,trivial⟩ rfl ⟨⟨rfl,(SupX.lit rfl)⟩,trivial⟩ rfl
  ·
   refine A7 ?_
   exact kF (i+1) ⟨⟨by omega,by rw [any_next (by omega),ha,h109];rfl⟩,(by omega)⟩
 ·
  refine A9 ?_
  refine A2 ?_
  exact xe3 LentC.mk' rfl rfl (Imp.int (ixF_end (by rw [←ha,show i=l.length by omega,List.take_length]))) ⟨rfl,trivial⟩ rfl ⟨⟨rfl,(SupX.lit rfl)⟩,trivial⟩ rfl
theorem c_SvContains (l:List Tst) (hv: ∀s∈l,s.v.valid=true) (hD: ∀s∈l,s.v.f.dig):
  CtG Tryz.prog 74 [(3,⟨30,4,true,[.val (tFr (fr ((1:Int):Rat)))]⟩)] [.val (tL 8 true tTs l),.own (.fn 75 [.ptr 3 0])] (.val (tB (l.any (fun s:Tst=> !sOk s)))) [(3,⟨30,4,true,[.val (tFr (fr ((1:Int):Rat)))]⟩)] []:=by
 refine CtG.intro [3] Tryz.func74 rfl Tryz.ntmps74 rfl rfl ⟨⟨rfl,(SupX.lit rfl)⟩,trivial⟩ ?_
 intro w F η
 refine A9 ?_
 refine RE (xe0 (fun _=>3) (c_SvIndex l hv hD) fi145 rfl (krC (ρ:=fun _=>3) (k:=3) rfl (krN (ρ:=fun _=>3))) (krC (ρ:=fun _=>3) (k:=3) rfl (krN (ρ:=fun _=>3))) ⟨⟨rfl,(SupX.lit rfl)⟩,trivial⟩ rfl) ⟨rfl,rfl,trivial⟩ ⟨rfl,trivial⟩ trivial ?_
 refine A5 ?_
 exact xe3 LentC.mk' rfl rfl (Imp.le (Le.bool ixF_any)) ⟨rfl,trivial⟩ rfl ⟨⟨rfl,(SupX.lit rfl)⟩,trivial⟩ rfl
theorem c_SvRight (l:List Tst) (hD: ∀s∈l,s.v.f.dig):
  Ct Tryz.prog 35 [tL 8 true tTs l] (tB (sRight l)):=by
 refine Ct.intro Tryz.func35 rfl Tryz.ntmps35 rfl ?_
 intro w F
 refine A9 ?_
 refine R1 (x3 (c_TRight l hD) fi73 rfl) rfl ?_
 refine A3 ?_
 refine xd2 rfl (fun h54=> ?_) (fun h54=> ?_)
 ·
  refine A7 ?_
  exact x4 Plain.mk' rfl rfl (Le.bool (by rw [sRight,show tRight l=false by simpa using h54];rfl))
 ·
  have ht:tRight l=true:=by simpa using h54
  have hv:=tRight_valid ht
  refine A4 ?_
  refine R1 (x3 (c_FFromInt 1 (by decide) (by decide)) fi56 rfl) rfl (RE (xa6 (k:=3) (n:=4) (agg:=true) zr30.1 zr30.2 rfl) trivial trivial ⟨rfl,trivial⟩ ?_)
  refine A6 ?_
  refine R1 (d_makeFunc (ps:=[.ptr 3 0]) rfl) rfl (RE (xe0 (fun _=>3) (c_SvContains l hv hD) fi74 rfl (krC (ρ:=fun _=>3) (k:=3) rfl (krN (ρ:=fun _=>3))) (krC (ρ:=fun _=>3) (k:=3) rfl (krN (ρ:=fun _=>3))) ⟨⟨rfl,(SupX.lit rfl)⟩,trivial⟩ rfl) ⟨rfl,rfl,trivial⟩ ⟨rfl,trivial⟩ trivial ?_)
  refine A5 ?_
  exact x4 Plain.mk' rfl rfl (Le.bool (by rw [sRight,ht,Bool.true_and,←all_any2]))
abbrev tRec (l:List Tst) (a b:Int):Ty:=tS [⟨2,true,tSn ⟨a,b⟩⟩,⟨1,false,tL 8 true tTs l⟩]
def askB (l:List Tst) (a b:Int):Bool:=sRight l && decide (0≤a) && decide (a≤65536) && decide (0≤b) && decide (b≤65536)
theorem askB_iff {l:List Tst} {a b:Int}:askB l a b=true↔sRight l=true∧0≤a∧a≤65536∧0≤b∧b≤65536:=by
  simp only [askB,Bool.and_eq_true,decide_eq_true_eq,and_assoc]
theorem c_asked (l:List Tst) (a b:Int) (hD: ∀s∈l,s.v.f.dig):
  Ct Tryz.prog 44 [tL 8 true tTs l,tI a,tI b] (tT [tRec l a b,tB (askB l a b)]):=by
 refine Ct.intro Tryz.func44 rfl Tryz.ntmps44 rfl ?_
 intro w F
 refine A2 ?_
 refine RE (xa6 (k:=6) (n:=3) (agg:=true) zr72.1 zr72.2 rfl) trivial trivial ⟨rfl,trivial⟩ ?_
 refine A6 ?_
 refine R1 (x3 (c_SvRight l hD) fi35 rfl) rfl ?_
 refine A1 ?_
 refine RGcase (t:=11) rfl (fun h25=> ?_) (fun h25=> ?_)
 ·
  refine A4 ?_
  refine RGcaseD (t:=15) rfl (fun h25_2=> ?_) (fun h25_2=> ?_)
  ·
   refine A4 ?_
   refine RGcaseD (t:=19) rfl (fun h25_3=> ?_) (fun h25_3=> ?_)
   ·
    refine A4 ?_
    refine RGcaseD (t:=23) rfl (fun h25_4=> ?_) (fun h25_4=> ?_)
    ·
     refine A9 ?_
     refine A1 ?_
     refine R2 (xb0 (r:=tS [⟨1,false,tI a⟩,⟨1,false,tI b⟩]) (ts:=[(0,tI a),(1,tI b)]) bu62 zr62.2 ⟨_,rfl⟩ rfl ⟨_,_,_,_,rfl,Up.f (fs:=[⟨1,false,(tE (.int .i64 0))⟩,⟨1,false,(tE (.int .i64 0))⟩]) (f:=⟨1,false,(tE (.int .i64 0))⟩) (fs':=[⟨1,false,tI a⟩,⟨1,false,(tE (.int .i64 0))⟩]) 0 rfl rfl rfl,inferInstance,⟨_,_,_,_,rfl,Up.f (fs:=[⟨1,false,tI a⟩,⟨1,false,(tE (.int .i64 0))⟩]) (f:=⟨1,false,(tE (.int .i64 0))⟩) (fs':=[⟨1,false,tI a⟩,⟨1,false,tI b⟩]) 1 rfl rfl rfl,inferInstance,Le.refl⟩⟩) rfl rfl ?_
     refine A1 ?_
     refine R2 (xb0 (r:=tS [⟨2,true,tSn ⟨a,b⟩⟩,⟨1,false,tL 8 true tTs l⟩]) (ts:=[(0,tSn ⟨a,b⟩),(1,tL 8 true tTs l)]) bu72 zr72.2 ⟨_,rfl⟩ rfl ⟨_,_,_,_,rfl,Up.f (fs:=[⟨2,true,(tS [⟨1,false,(tE (.int .i64 0))⟩,⟨1,false,(tE (.int .i64 0))⟩])⟩,⟨1,false,(tE (.slice none 0 0))⟩]) (f:=⟨2,true,(tS [⟨1,false,(tE (.int .i64 0))⟩,⟨1,false,(tE (.int .i64 0))⟩])⟩) (fs':=[⟨2,true,tSn ⟨a,b⟩⟩,⟨1,false,(tE (.slice none 0 0))⟩]) 0 rfl rfl rfl,inferInstance,⟨_,_,_,_,rfl,Up.f (fs:=[⟨2,true,tSn ⟨a,b⟩⟩,⟨1,false,(tE (.slice none 0 0))⟩]) (f:=⟨1,false,(tE (.slice none 0 0))⟩) (fs':=[⟨2,true,tSn ⟨a,b⟩⟩,⟨1,false,tL 8 true tTs l⟩]) 1 rfl rfl rfl,inferInstance,Le.refl⟩⟩) rfl rfl ?_
     refine A6 ?_
     exact xe2 Plain.mk' (rs:=[.cell 6 72,.tmp 7]) rfl rfl ⟨⟨_,_,_,_,_,rfl,rfl,ti72,Le.refl⟩,⟨_,rfl,(Le.bool (by simp only [askB];simp [*]))⟩,trivial⟩
    ·
     refine A9 ?_
     refine A1 ?_
     refine R2 (xb0 (r:=tS [⟨1,false,tI a⟩,⟨1,false,tI b⟩]) (ts:=[(0,tI a),(1,tI b)]) bu62 zr62.2 ⟨_,rfl⟩ rfl ⟨_,_,_,_,rfl,Up.f (fs:=[⟨1,false,(tE (.int .i64 0))⟩,⟨1,false,(tE (.int .i64 0))⟩]) (f:=⟨1,false,(tE (.int .i64 0))⟩) (fs':=[⟨1,false,tI a⟩,⟨1,false,(tE (.int .i64 0))⟩]) 0 rfl rfl rfl,inferInstance,⟨_,_,_,_,rfl,Up.f (fs:=[⟨1,false,tI a⟩,⟨1,false,(tE (.int .i64 0))⟩]) (f:=⟨1,false,(tE (.int .i64 0))⟩) (fs':=[⟨1,false,tI a⟩,⟨1,false,tI b⟩]) 1 rfl rfl rfl,inferInstance,Le.refl⟩⟩) rfl rfl ?_
     refine A1 ?_
     refine R2 (xb0 (r:=tS [⟨2,true,tSn ⟨a,b⟩⟩,⟨1,false,tL 8 true tTs l⟩]) (ts:=[(0,tSn ⟨a,b⟩),(1,tL 8 true tTs l)]) bu72 zr72.2 ⟨_,rfl⟩ rfl ⟨_,_,_,_,rfl,Up.f (fs:=[⟨2,true,(tS [⟨1,false,(tE (.int .i64 0))⟩,⟨1,false,(tE (.int .i64 0))⟩])⟩,⟨1,false,(tE (.slice none 0 0))⟩]) (f:=⟨2,true,(tS [⟨1,false,(tE (.int .i64 0))⟩,⟨1,false,(tE (.int .i64 0))⟩])⟩) (fs':=[⟨2,true,tSn ⟨a,b⟩⟩,⟨1,false,(tE (.slice none 0 0))⟩]) 0 rfl rfl rfl,inferInstance,⟨_,_,_,_,rfl,Up.f (fs:=[⟨2,true,tSn ⟨a,b⟩⟩,⟨1,false,(tE (.slice none 0 0))⟩]) (f:=⟨1,false,(tE (.slice none 0 0))⟩) (fs':=[⟨2,true,tSn ⟨a,b⟩⟩,⟨1,false,tL 8 true tTs l⟩]) 1 rfl rfl rfl,inferInstance,Le.refl⟩⟩) rfl rfl ?_
     refine A6 ?_
     exact xe2 Plain.mk' (rs:=[.cell 6 72,.tmp 7]) rfl rfl ⟨⟨_,_,_,_,_,rfl,rfl,ti72,Le.refl⟩,⟨_,rfl,(Le.bool (by simp only [askB];simp [*]))⟩,trivial⟩
   ·
    refine A9 ?_
    refine A5 ?_
    refine R2 (xb0 (r:=tS [⟨1,false,tI a⟩,⟨1,false,tI b⟩]) (ts:=[(0,tI a),(1,tI b)]) bu62 zr62.2 ⟨_,rfl⟩ rfl ⟨_,_,_,_,rfl,Up.f (fs:=[⟨1,false,(tE (.int .i64 0))⟩,⟨1,false,(tE (.int .i64 0))⟩]) (f:=⟨1,false,(tE (.int .i64 0))⟩) (fs':=[⟨1,false,tI a⟩,⟨1,false,(tE (.int .i64 0))⟩]) 0 rfl rfl rfl,inferInstance,⟨_,_,_,_,rfl,Up.f (fs:=[⟨1,false,tI a⟩,⟨1,false,(tE (.int .i64 0))⟩]) (f:=⟨1,false,(tE (.int .i64 0))⟩) (fs':=[⟨1,false,tI a⟩,⟨1,false,tI b⟩]) 1 rfl rfl rfl,inferInstance,Le.refl⟩⟩) rfl rfl ?_
    refine A1 ?_
    refine R2 (xb0 (r:=tS [⟨2,true,tSn ⟨a,b⟩⟩,⟨1,false,tL 8 true tTs l⟩]) (ts:=[(0,tSn ⟨a,b⟩),(1,tL 8 true tTs l)]) bu72 zr72.2 ⟨_,rfl⟩ rfl ⟨_,_,_,_,rfl,Up.f (fs:=[⟨2,true,(tS [⟨1,false,(tE (.int .i64 0))⟩,⟨1,false,(tE (.int .i64 0))⟩])⟩,⟨1,false,(tE (.slice none 0 0))⟩]) (f:=⟨2,true,(tS [⟨1,false,(tE (.int .i64 0))⟩,⟨1,false,(tE (.int .i64 0))⟩])⟩) (fs':=[⟨2,true,tSn ⟨a,b⟩⟩,⟨1,false,(tE (.slice none 0 0))⟩]) 0 rfl rfl rfl,inferInstance,⟨_,_,_,_,rfl,Up.f (fs:=[⟨2,true,tSn ⟨a,b⟩⟩,⟨1,false,(tE (.slice none 0 0))⟩]) (f:=⟨1,false,(tE (.slice none 0 0))⟩) (fs':=[⟨2,true,tSn ⟨a,b⟩⟩,⟨1,false,tL 8 true tTs l⟩]) 1 rfl rfl rfl,inferInstance,Le.refl⟩⟩) rfl rfl ?_
    refine A6 ?_
    exact xe2 Plain.mk' (rs:=[.cell 6 72,.tmp 7]) rfl rfl ⟨⟨_,_,_,_,_,rfl,rfl,ti72,Le.refl⟩,⟨_,rfl,(Le.bool (by simp only [askB];simp [*]))⟩,trivial⟩
  ·
   refine A9 ?_
   refine A9 ?_
   refine R2 (xb0 (r:=tS [⟨1,false,tI a⟩,⟨1,false,tI b⟩]) (ts:=[(0,tI a),(1,tI b)]) bu62 zr62.2 ⟨_,rfl⟩ rfl ⟨_,_,_,_,rfl,Up.f (fs:=[⟨1,false,(tE (.int .i64 0))⟩,⟨1,false,(tE (.int .i64 0))⟩]) (f:=⟨1,false,(tE (.int .i64 0))⟩) (fs':=[⟨1,false,tI a⟩,⟨1,false,(tE (.int .i64 0))⟩]) 0 rfl rfl rfl,inferInstance,⟨_,_,_,_,rfl,Up.f (fs:=[⟨1,false,tI a⟩,⟨1,false,(tE (.int .i64 0))⟩]) (f:=⟨1,false,(tE (.int .i64 0))⟩) (fs':=[⟨1,false,tI a⟩,⟨1,false,tI b⟩]) 1 rfl rfl rfl,inferInstance,Le.refl⟩⟩) rfl rfl ?_
   refine A1 ?_
   refine R2 (xb0 (r:=tS [⟨2,true,tSn ⟨a,b⟩⟩,⟨1,false,tL 8 true tTs l⟩]) (ts:=[(0,tSn ⟨a,b⟩),(1,tL 8 true tTs l)]) bu72 zr72.2 ⟨_,rfl⟩ rfl ⟨_,_,_,_,rfl,Up.f (fs:=[⟨2,true,(tS [⟨1,false,(tE (.int .i64 0))⟩,⟨1,false,(tE (.int .i64 0))⟩])⟩,⟨1,false,(tE (.slice none 0 0))⟩]) (f:=⟨2,true,(tS [⟨1,false,(tE (.int .i64 0))⟩,⟨1,false,(tE (.int .i64 0))⟩])⟩) (fs':=[⟨2,true,tSn ⟨a,b⟩⟩,⟨1,false,(tE (.slice none 0 0))⟩]) 0 rfl rfl rfl,inferInstance,⟨_,_,_,_,rfl,Up.f (fs:=[⟨2,true,tSn ⟨a,b⟩⟩,⟨1,false,(tE (.slice none 0 0))⟩]) (f:=⟨1,false,(tE (.slice none 0 0))⟩) (fs':=[⟨2,true,tSn ⟨a,b⟩⟩,⟨1,false,tL 8 true tTs l⟩]) 1 rfl rfl rfl,inferInstance,Le.refl⟩⟩) rfl rfl ?_
   refine A6 ?_
   exact xe2 Plain.mk' (rs:=[.cell 6 72,.tmp 7]) rfl rfl ⟨⟨_,_,_,_,_,rfl,rfl,ti72,Le.refl⟩,⟨_,rfl,(Le.bool (by simp only [askB];simp [*]))⟩,trivial⟩
 ·
  refine A9 ?_
  refine A9 ?_
  refine A4 ?_
  refine R2 (xb0 (r:=tS [⟨1,false,tI a⟩,⟨1,false,tI b⟩]) (ts:=[(0,tI a),(1,tI b)]) bu62 zr62.2 ⟨_,rfl⟩ rfl ⟨_,_,_,_,rfl,Up.f (fs:=[⟨1,false,(tE (.int .i64 0))⟩,⟨1,false,(tE (.int .i64 0))⟩]) (f:=⟨1,false,(tE (.int .i64 0))⟩) (fs':=[⟨1,false,tI a⟩,⟨1,false,(tE (.int .i64 0))⟩]) 0 rfl rfl rfl,inferInstance,⟨_,_,_,_,rfl,Up.f (fs:=[⟨1,false,tI a⟩,⟨1,false,(tE (.int .i64 0))⟩]) (f:=⟨1,false,(tE (.int .i64 0))⟩) (fs':=[⟨1,false,tI a⟩,⟨1,false,tI b⟩]) 1 rfl rfl rfl,inferInstance,Le.refl⟩⟩) rfl rfl ?_
  refine A1 ?_
  refine R2 (xb0 (r:=tS [⟨2,true,tSn ⟨a,b⟩⟩,⟨1,false,tL 8 true tTs l⟩]) (ts:=[(0,tSn ⟨a,b⟩),(1,tL 8 true tTs l)]) bu72 zr72.2 ⟨_,rfl⟩ rfl ⟨_,_,_,_,rfl,Up.f (fs:=[⟨2,true,(tS [⟨1,false,(tE (.int .i64 0))⟩,⟨1,false,(tE (.int .i64 0))⟩])⟩,⟨1,false,(tE (.slice none 0 0))⟩]) (f:=⟨2,true,(tS [⟨1,false,(tE (.int .i64 0))⟩,⟨1,false,(tE (.int .i64 0))⟩])⟩) (fs':=[⟨2,true,tSn ⟨a,b⟩⟩,⟨1,false,(tE (.slice none 0 0))⟩]) 0 rfl rfl rfl,inferInstance,⟨_,_,_,_,rfl,Up.f (fs:=[⟨2,true,tSn ⟨a,b⟩⟩,⟨1,false,(tE (.slice none 0 0))⟩]) (f:=⟨1,false,(tE (.slice none 0 0))⟩) (fs':=[⟨2,true,tSn ⟨a,b⟩⟩,⟨1,false,tL 8 true tTs l⟩]) 1 rfl rfl rfl,inferInstance,Le.refl⟩⟩) rfl rfl ?_
  refine A6 ?_
  exact xe2 Plain.mk' (rs:=[.cell 6 72,.tmp 7]) rfl rfl ⟨⟨_,_,_,_,_,rfl,rfl,ti72,Le.refl⟩,⟨_,rfl,(Le.bool (by simp only [askB];simp [*]))⟩,trivial⟩
theorem c_none (l:List Tst) (a b:Int):
  Ct Tryz.prog 55 [tRec l a b] (tB (decide (b≤a))):=by
 refine Ct.intro Tryz.func55 rfl Tryz.ntmps55 rfl ?_
 intro w F
 refine A9 ?_
 refine A1 ?_
 refine xg1 (0) ti3 rfl rfl rfl (At.t (At.g 0 rfl rfl) (At.g 1 rfl rfl)) rfl ?_
 refine A2 ?_
 refine xg1 (0) ti3 rfl rfl rfl (At.t (At.g 0 rfl rfl) (At.g 0 rfl rfl)) rfl ?_
 refine A5 ?_
 exact x4 Plain.mk' rfl rfl Le.refl
/-- No working day of the days asked for. -/
def idle (a b:Int) (s:Tst):Bool:=decide (s.v.f.n.l.length=0) || decide (s.hi≤a) || decide (b≤s.lo)
theorem idle_iff {a b:Int} {s:Tst}:idle a b s=true↔(s.v.f.n.l.length:Int)=0∨s.hi≤a∨b≤s.lo:=by
  simp only [idle,Bool.or_eq_true,decide_eq_true_eq,or_assoc];omega
theorem idle_eq {a b:Int} {s:Tst} {c:Bool} (h:c=true↔(s.v.f.n.l.length:Int)=0∨s.hi≤a∨b≤s.lo):c=idle a b s:=Bool.eq_iff_iff.2 (h.trans idle_iff.symm)
def clipS (a b:Int) (s:Tst):Sn:=⟨max s.lo a,min s.hi b⟩
def wkS (l:List Tst) (a b:Int):List Sn:=(l.filter fun s=> !idle a b s).map (clipS a b)
def wkd (l:List Tst) (a b:Int):List Sn:=if b≤a then [] else if (wkS l a b).all Sn.ok=true then mkS (wkS l a b) else []
theorem wkS_next {l:List Tst} {a b:Int} {i:Nat} (hi:i < l.length):wkS (l.take (i+1)) a b=wkS (l.take i) a b++(if idle a b (l.getD i tst0) then [] else [clipS a b (l.getD i tst0)]):=by
  rw [wkS,List.take_succ_eq_append_getElem hi,List.filter_append,List.map_append,List.getD_eq_getElem?_getD,List.getElem?_eq_getElem hi]
  by_cases h:idle a b l[i]=true <;> simp [h,wkS]
theorem wkS_len {l:List Tst} {a b:Int}:(wkS l a b).length≤l.length:=by
  rw [wkS,List.length_map];exact List.length_filter_le _ _
theorem c_idle (l:List Tst) (a b:Int) (s:Tst):
  CtG Tryz.prog 85 [(1,⟨72,3,true,[.val (tRec l a b)]⟩)] [.val (tTs s),.own (.ptr 1 0)] (.val (tB (idle a b s))) [(1,⟨72,3,true,[.val (tRec l a b)]⟩)] []:=by
 refine CtG.intro [1] Tryz.func85 rfl Tryz.ntmps85 rfl rfl ⟨⟨rfl,(SupX.lit rfl)⟩,trivial⟩ ?_
 intro w F η
 refine A9 ?_
 refine A3 ?_
 refine xg1 (0) ti26 rfl rfl rfl (At.t (At.g 2 rfl rfl) (At.t (At.g 1 rfl rfl) (At.t (At.g 0 rfl rfl) (At.g 1 rfl rfl)))) rfl ?_
 refine A3 ?_
 refine RGcaseD (t:=11) rfl (fun h40=> ?_) (fun h40=> ?_)
 ·
  refine A9 ?_
  refine A9 ?_
  refine A1 ?_
  exact xe3 LentC.mk' rfl rfl (Imp.le (Le.bool (idle_eq (by (try dsimp only at*);(try first | simp only [true_iff] | simp only [decide_eq_true_eq]);omega)))) ⟨rfl,trivial⟩ rfl ⟨⟨rfl,(SupX.lit rfl)⟩,trivial⟩ rfl
 ·
  refine A4 ?_
  refine xc5 (decide_eq_false h40) rfl rfl (0) ti3 rfl rfl rfl (At.t (At.g 0 rfl rfl) (At.g 0 rfl rfl)) rfl ?_
  refine A3 ?_
  refine RGcaseD (t:=19) rfl (fun h40_2=> ?_) (fun h40_2=> ?_)
  ·
   refine A9 ?_
   refine A2 ?_
   exact xe3 LentC.mk' rfl rfl (Imp.le (Le.bool (idle_eq (by (try dsimp only at*);(try first | simp only [true_iff] | simp only [decide_eq_true_eq]);omega)))) ⟨rfl,trivial⟩ rfl ⟨⟨rfl,(SupX.lit rfl)⟩,trivial⟩ rfl
  ·
   refine A4 ?_
   refine xc5 (decide_eq_false h40_2) rfl rfl (0) ti3 rfl rfl rfl (At.t (At.g 0 rfl rfl) (At.g 1 rfl rfl)) rfl ?_
   refine A6 ?_
   exact xe3 LentC.mk' rfl rfl (Imp.le (Le.bool (idle_eq (by (try dsimp only at*);(try first | simp only [true_iff] | simp only [decide_eq_true_eq]);omega)))) ⟨rfl,trivial⟩ rfl ⟨⟨rfl,(SupX.lit rfl)⟩,trivial⟩ rfl
theorem c_worked (l:List Tst) (a b:Int) (hl:l.length≤1000000):
  Ct Tryz.prog 45 [tRec l a b] (tL 2 true tSn (wkd l a b)):=by
 refine Ct.intro Tryz.func45 rfl Tryz.ntmps45 rfl ?_
 intro w F
 refine A9 ?_
 refine A1 ?_
 refine R1 (x3 (c_none l a b) fi55 rfl) rfl ?_
 refine A2 ?_
 refine x9 rfl (fun h36=> ?_) (fun h36=> ?_)
 ·
  refine A7 ?_
  exact x4 Plain.mk' rfl rfl (leNil (by rw [wkd,if_pos h36]))
 ·
  refine A4 ?_
  refine R1 (d_makeFunc (ps:=[.ptr 1 0]) rfl) rfl ?_
  refine A5 ?_
  refine RE (xd3 (k:=4) 62 2 true rfl (fun h=>by cases h)) trivial trivial ⟨rfl,trivial⟩ ?_
  refine A9 ?_
  refine A3 ?_
  refine cL (fun (fm:(Nat)×(List Sn))=>(fun (i:Nat) (xs:List Sn)=>i≤l.length∧xs=wkS (l.take i) a b) fm.1 fm.2) (fun (fm:(Nat)×(List Sn))=>(fun (i:Nat) (xs:List Sn)=>upd (upd (upd (upd (upd (upd (fun _=>none) 1 (some (.own (.ptr 1 0)))) 3 (some (.own (.fn 85 [.ptr 1 0])))) 4 (some (.own (.sl 4 2 0 xs.length)))) 13 (some (.val (tL 8 true tTs l)))) 14 (some (.val (tI l.length)))) 15 (some (.val (tI i)))) fm.1 fm.2) (fun (fm:(Nat)×(List Sn))=>(fun (i:Nat) (xs:List Sn)=>upd (upd (fun _=>none) 1 (some (⟨72,3,true,[.val (tRec l a b)]⟩))) 4 (some (⟨62,2,true,rV tSn xs⟩))) fm.1 fm.2) [1,4] (fun (fm:(Nat)×(List Sn))=>(fun (i:Nat) (xs:List Sn)=>l.length - i) fm.1 fm.2) ((0,[])) (by dsimp only;exact ⟨Nat.zero_le _,rfl⟩) (hh:=((SubK.consI rfl ImpK.refl) ((SubK.consI rfl ImpK.refl) SubK.nil))) ?_
  intro fm hI
  obtain ⟨i,xs⟩:=fm
  replace hI:i≤l.length∧xs=wkS (l.take i) a b:=hI
  show wc _ _ _ _ (upd (upd (upd (upd (upd (upd (fun _=>none) 1 (some (.own (.ptr 1 0)))) 3 (some (.own (.fn 85 [.ptr 1 0])))) 4 (some (.own (.sl 4 2 0 xs.length)))) 13 (some (.val (tL 8 true tTs l)))) 14 (some (.val (tI l.length)))) 15 (some (.val (tI i)))) (upd (upd (fun _=>none) 1 (some (⟨72,3,true,[.val (tRec l a b)]⟩))) 4 (some (⟨62,2,true,rV tSn xs⟩))) _
  obtain ⟨hi,hx⟩:=hI
  have hxl:xs.length≤i:=by
   have h:=wkS_len (l:=l.take i) (a:=a) (b:=b)
   rw [←hx,List.length_take] at h;omega
  refine A6 ?_
  refine x9 rfl (fun h43=> ?_) (fun h43=> ?_)
  ·
   refine A6 ?_
   refine R2 (x6 sl22 (i) (by omega) (gD (l:=l) (n:=i) (d:=tst0) (by omega))) rfl rfl ?_
   refine A1 ?_
   refine RE (xa6 (k:=6) (n:=8) (agg:=true) zr34.1 zr34.2 rfl) trivial trivial ⟨rfl,trivial⟩ ?_
   refine A7 ?_
   refine RE (d_callCX (ps:=[.val (tTs _)]) (caps:=[.ptr 1 0]) (fun _=>1) (c_idle l a b (l.getD i tst0)) fi85 rfl (krC (ρ:=fun _=>1) (k:=1) rfl (krN (ρ:=fun _=>1))) (krC (ρ:=fun _=>1) (k:=1) rfl (krN (ρ:=fun _=>1))) ⟨⟨rfl,(SupX.lit rfl)⟩,trivial⟩ rfl) ⟨rfl,rfl,trivial⟩ ⟨rfl,trivial⟩ trivial ?_
   refine A3 ?_
   refine xd2 rfl (fun h44=> ?_) (fun h44=> ?_)
   ·
    refine A6 ?_
    refine xg1 (0) ti3 rfl rfl rfl (At.t (At.g 0 rfl rfl) (At.g 0 rfl rfl)) rfl (R2 d_max2 rfl rfl ?_)
    refine A4 ?_
    refine xg1 (0) ti3 rfl rfl rfl (At.t (At.g 0 rfl rfl) (At.g 1 rfl rfl)) rfl (R2 d_min2 rfl rfl (R2 (xb0 (r:=tS [⟨1,false,tI (max (l.getD i tst0).lo a)⟩,⟨1,false,tI (min (l.getD i tst0).hi b)⟩]) (ts:=[(0,tI (max (l.getD i tst0).lo a)),(1,tI (min (l.getD i tst0).hi b))]) bu62 zr62.2 ⟨_,rfl⟩ rfl ⟨_,_,_,_,rfl,Up.f (fs:=[⟨1,false,(tE (.int .i64 0))⟩,⟨1,false,(tE (.int .i64 0))⟩]) (f:=⟨1,false,(tE (.int .i64 0))⟩) (fs':=[⟨1,false,tI (max (l.getD i tst0).lo a)⟩,⟨1,false,(tE (.int .i64 0))⟩]) 0 rfl rfl rfl,inferInstance,⟨_,_,_,_,rfl,Up.f (fs:=[⟨1,false,tI (max (l.getD i tst0).lo a)⟩,⟨1,false,(tE (.int .i64 0))⟩]) (f:=⟨1,false,(tE (.int .i64 0))⟩) (fs':=[⟨1,false,tI (max (l.getD i tst0).lo a)⟩,⟨1,false,tI (min (l.getD i tst0).hi b)⟩]) 1 rfl rfl rfl,inferInstance,Le.refl⟩⟩) rfl rfl (R1 (xd6 (n:=1) (f:=tSn) [(clipS a b (l.getD i tst0))] Tryz.underlying45 el62 zf62 rfl (fun _=>inferInstance) rfl rfl rfl) rfl (RE (xc1 (k:=4) (k':=38) (f:=tSn) (ys:=[(clipS a b (l.getD i tst0))]) (ts':=rV tSn (xs++[(clipS a b (l.getD i tst0))])) Tryz.underlying45 el62 zf62 rfl rfl (fun _=>inferInstance) xf1 (by simp;omega) (by simp;omega) (by simp [rV]) (n':=xs.length+1) rfl) ⟨rfl,rfl,trivial⟩ ⟨rfl,trivial⟩ ⟨rfl,trivial⟩ ?_))))
    refine A8 ?_
    exact xe6 (l:=[1,4]) (fun j=>cond (Nat.beq j 4) 38 (j)) ((i+1,xs++[(clipS a b (l.getD i tst0))])) ⟨(by dsimp only;exact ⟨by omega,by rw [wkS_next (by omega),←hx,if_neg (by simpa using h44)]⟩),(by dsimp only;omega)⟩ (SubR.int rfl (by first | omega | rfl | (dsimp only;omega)) (SubR.int rfl (by first | omega | rfl | (dsimp only;omega)) (SubR.cons rfl ((SubR.consI rfl (Imp.of (by dsimp only;rw [List.length_append];rfl))) (SubR.cons rfl (SubR.cons rfl SubR.nil)))))) ((SubKR.consI rfl (ImpK.of xb9.symm)) ((SubKR.consI rfl ImpK.refl) SubKR.nil)) (SupG.val (SupG.val (SupG.val (SupG.own rfl (SupG.own rfl (SupG.own rfl SupG.nil)))))) (SupH.cons rfl (supJ xa9) (SupH.cons rfl (supJL rfl) SupH.nil)) (lkOk rfl) rfl rfl (fun _ h=>by cases h)
   ·
    refine A7 ?_
    exact kF ((i+1,xs)) ⟨(by dsimp only;exact ⟨by omega,by rw [wkS_next (by omega),←hx,if_pos (by simpa using h44),List.append_nil]⟩),(by dsimp only;omega)⟩ (hh:=((SubK.consI rfl ImpK.refl) ((SubK.consI rfl ImpK.refl) SubK.nil)))
  ·
   refine A7 ?_
   refine RE (xg0 (f:=tSn) (xs:=xs) (fun _ h=>h) (rV_all rfl) rfl) ⟨rfl,trivial⟩ ⟨rfl,trivial⟩ trivial (R1 (x3 (c_SnMake xs (by omega)) fi86 rfl) rfl ?_)
   refine A9 ?_
   refine A5 ?_
   exact x4 Plain.mk' rfl rfl (Le.of (by rw [wkd,if_neg h36,hx,show i=l.length by omega,List.take_length]))
end An.S

/- Layer 8: service. -/
namespace An.S
open Go Go.Proofs An
set_option maxHeartbeats 2000000
instance fi44:FnI Tryz.prog 44:=⟨_,Tryz.func44,by kernel_rfl,rfl⟩
instance fi57:FnI Tryz.prog 57:=⟨_,Tryz.func57,by kernel_rfl,rfl⟩
theorem nonneg_of {f:Fr} (hD:f.dig) (hv:f.valid=true) (hn:f.n.neg=false):0≤f.rat:=by
  obtain ⟨e,_⟩:=Fr.of_valid' hD hv
  rw [e] at hn
  have h1: ¬f.rat.num < 0:=of_decide_eq_false hn
  exact Rat.num_nonneg.1 (by omega)
def q4:Rat:=4 / 1461
theorem fr_q4:fr q4=⟨wh 4,wh 1461⟩:=by
  have h1:q4.num=4:=by decide+kernel
  have h2:q4.den=1461:=by decide+kernel
  rw [fr,h1,h2];rfl
theorem len16_small {n:Int} (h1: -9223372036854775808≤n) (h2:n≤9223372036854775807):len16 n≤256:=Nat.le_trans (len16_64 h1 h2) (by decide)
theorem short_q4:short q4:=by
  have h1:q4.num=4:=by decide+kernel
  have h2:q4.den=1461:=by decide+kernel
  exact ⟨by rw [h1];exact len16_small (by decide) (by decide),by rw [h2];exact len16_small (by decide) (by decide)⟩
theorem c_FMulQ4 (q:Rat) (hq:short q):Ct Tryz.prog 58 [tFr (fr q),tFr ⟨wh 4,wh 1461⟩] (tT [tFr (resF (q*q4)),tI (resFE (q*q4))]):=by
  have h:=c_FMul q q4 hq short_q4
  rw [fr_q4] at h;exact h
theorem c_FMulQ4s {o:Option Rat} {q:Rat} (ho:o=some q) (hq:short q):Ct Tryz.prog 58 [tFr (sumF o),tFr ⟨wh 4,wh 1461⟩] (tT [tFr (resF (q*q4)),tI (resFE (q*q4))]):=by
  rw [ho];exact c_FMulQ4 q hq
theorem sum_short: ∀(l:List Tst) (o:Option Rat),(∀q,o=some q→short q)→ ∀q,l.foldl sumStep o=some q→short q
  | [],o,ho,q,h=>ho q h
  | s::r,o,ho,q,h=>sum_short r (sumStep o s) (fun p hp=>by
      cases o with
      | none=>cases hp
      | some x=>
        simp only [sumStep] at hp
        split at hp
        · rename_i h2;cases hp;exact h2.2
        · cases hp) q h
theorem sumT_short {l:List Tst} {q:Rat} (h:sumT l=some q):short q:=sum_short l _ (fun p hp=>by cases hp;exact short_int (len16_small (by decide) (by decide))) q h
def mulO (q p:Rat):Option Rat:=if short (q*p) then some (q*p) else none
theorem resF_mulO {q p:Rat}:resF (q*p)=sumF (mulO q p):=by rw [resF,mulO];split <;> rfl
theorem resFE_mulO {q p:Rat}:resFE (q*p)=sumE (mulO q p):=by rw [resFE,mulO];split <;> rfl
/-- Years of service. -/
def yq (l:List Tst) (a b:Int):Option Rat:=if b≤a then some ((0:Int):Rat) else (sumT (cutT l a b)).bind fun q=>mulO q q4
theorem ask_sum {l:List Tst} {a b:Int} (h:askB l a b=true) (hab: ¬b≤a):sumC l a b:=by
  obtain ⟨h1,h2,h3,h4,h5⟩:=askB_iff.1 h
  simp only [sRight,Bool.and_eq_true,List.all_eq_true] at h1
  refine ⟨⟨h1.1,by simp [Sn.ok];omega⟩,?_⟩
  rcases Nat.eq_zero_or_pos l.length with h0 | h0
  · exact .inl h0
  · have:=h1.2 _ (xc2 (l:=l) h0)
    simp only [sOk,Bool.and_eq_true,decide_eq_true_eq] at this
    exact .inr (.inl this.1.1)
theorem sumF_short {o:Option Rat} (h: ∀q,o=some q→short q):sumE o=0→ ∃q,o=some q∧short q:=by
  cases o with
  | none=>intro h;cases h
  | some q=>intro _;exact ⟨q,rfl,h q rfl⟩
theorem yq_short {l:List Tst} {a b:Int} {q:Rat} (h:yq l a b=some q):short q:=by
  rw [yq] at h
  split at h
  · cases h;exact short_int (len16_small (by decide) (by decide))
  · cases hs:sumT (cutT l a b) with
    | none=>rw [hs] at h;cases h
    | some x=>
      rw [hs,Option.bind_some,mulO] at h
      split at h
      · cases h;assumption
      · cases h
theorem c_TSumOk (l:List Tst) (a b:Int) (hl:l.length≤500000) (hD: ∀s∈l,s.v.f.dig) (h:sumC l a b):Ct Tryz.prog 57 [tL 8 true tTs l,tI a,tI b] (tT [tFr (sumF (sumT (cutT l a b))),tI (sumE (sumT (cutT l a b)))]):=by
  have:=c_TSum l a b hl hD
  rw [if_pos h,if_pos h] at this;exact this
theorem c_Years (l:List Tst) (a b:Int) (hl:l.length≤500000) (hD: ∀s∈l,s.v.f.dig):
  Ct Tryz.prog 27 [tL 8 true tTs l,tI a,tI b] (tT [tFr (if askB l a b=true then sumF (yq l a b) else fr0),tI (if askB l a b=true then sumE (yq l a b) else 2)]):=by
 refine Ct.intro Tryz.func27 rfl Tryz.ntmps27 rfl ?_
 intro w F
 refine A2 ?_
 refine RE (xa6 (k:=6) (n:=4) (agg:=true) zr30.1 zr30.2 rfl) trivial trivial ⟨rfl,trivial⟩ ?_
 refine A8 ?_
 refine R3 (x3 (c_asked l a b hD) fi44 rfl) rfl rfl rfl ?_
 refine A3 ?_
 refine RE (xa6 (k:=8) (n:=3) (agg:=true) zr72.1 zr72.2 rfl) trivial trivial ⟨rfl,trivial⟩ ?_
 refine A9 ?_
 refine A2 ?_
 refine xd2 rfl (fun h66=> ?_) (fun h66=> ?_)
 ·
  have hk: ¬askB l a b=true:=by simpa using h66
  refine A2 ?_
  refine R0 (xb0 (r:=tS [⟨2,true,(tS [⟨1,false,(tE (.bool false))⟩,⟨1,false,(tLm [])⟩])⟩,⟨2,true,(tS [⟨1,false,(tE (.bool false))⟩,⟨1,false,(tLm [])⟩])⟩]) (ts:=[]) bu30 zr30.2 ⟨_,rfl⟩ rfl Le.refl) ?_
  refine A6 ?_
  exact xe2 Plain.mk' (rs:=[.cell 6 30,.tmp 7]) rfl rfl ⟨⟨_,_,_,_,_,rfl,rfl,ti30,(Le.of (by rw [if_neg hk];rfl))⟩,⟨_,rfl,(Le.int (by rw [if_neg hk]))⟩,trivial⟩
 ·
  have hk:askB l a b=true:=by simpa using h66
  refine A6 ?_
  refine R1 (x3 (c_none l a b) fi55 rfl) rfl ?_
  refine A2 ?_
  refine x9 rfl (fun h69=> ?_) (fun h69=> ?_)
  ·
   refine A2 ?_
   refine R1 (x3 (c_FFromInt 0 (by decide) (by decide)) fi56 rfl) rfl ?_
   refine A6 ?_
   exact xe2 Plain.mk' (rs:=[.cell 6 30,.tmp 7]) rfl rfl ⟨⟨_,_,_,_,_,rfl,rfl,ti30,(Le.of (by rw [if_pos hk,yq,if_pos h69];rfl))⟩,⟨_,rfl,(Le.int (by rw [if_pos hk,yq,if_pos h69];rfl))⟩,trivial⟩
  ·
   refine A7 ?_
   refine R3 (x3 (c_TSumOk l a b hl hD (ask_sum hk h69)) fi57 rfl) rfl rfl rfl ?_
   refine A3 ?_
   refine RE (xa6 (k:=10) (n:=4) (agg:=true) zr30.1 zr30.2 rfl) trivial trivial ⟨rfl,trivial⟩ ?_
   refine A9 ?_
   refine A2 ?_
   refine x9 rfl (fun h73=> ?_) (fun h73=> ?_)
   ·
    refine A2 ?_
    refine R0 (xb0 (r:=tS [⟨2,true,(tS [⟨1,false,(tE (.bool false))⟩,⟨1,false,(tLm [])⟩])⟩,⟨2,true,(tS [⟨1,false,(tE (.bool false))⟩,⟨1,false,(tLm [])⟩])⟩]) (ts:=[]) bu30 zr30.2 ⟨_,rfl⟩ rfl Le.refl) ?_
    refine A7 ?_
    exact xe2 Plain.mk' (rs:=[.cell 6 30,.tmp 7]) rfl rfl ⟨⟨_,_,_,_,_,rfl,rfl,ti30,(Le.of (by rw [if_pos hk,yq,if_neg h69];cases hs:sumT (cutT l a b) with | none=>rfl | some q=>rw [hs] at h73;exact absurd rfl h73))⟩,⟨_,rfl,(Le.int (by rw [if_pos hk,yq,if_neg h69];cases hs:sumT (cutT l a b) with | none=>rfl | some q=>rw [hs] at h73;exact absurd rfl h73))⟩,trivial⟩
   ·
    obtain ⟨q,hq,hqs⟩:=sumF_short (fun q h=>sumT_short h) (Decidable.not_not.1 h73)
    refine A5 ?_
    refine R1 (x3 (c_FromInt 4 (by decide) (by decide)) fi59 rfl) rfl (R1 (x3 (c_FromInt 1461 (by decide) (by decide)) fi59 rfl) rfl (R2 (xb0 (r:=tS [⟨2,true,tWh (wh 4)⟩,⟨2,true,tWh (wh 1461)⟩]) (ts:=[(0,tWh (wh 4)),(1,tWh (wh 1461))]) bu30 zr30.2 ⟨_,rfl⟩ rfl ⟨_,_,_,_,rfl,Up.f (fs:=[⟨2,true,(tS [⟨1,false,(tE (.bool false))⟩,⟨1,false,(tLm [])⟩])⟩,⟨2,true,(tS [⟨1,false,(tE (.bool false))⟩,⟨1,false,(tLm [])⟩])⟩]) (f:=⟨2,true,(tS [⟨1,false,(tE (.bool false))⟩,⟨1,false,(tLm [])⟩])⟩) (fs':=[⟨2,true,tWh (wh 4)⟩,⟨2,true,(tS [⟨1,false,(tE (.bool false))⟩,⟨1,false,(tLm [])⟩])⟩]) 0 rfl rfl rfl,inferInstance,⟨_,_,_,_,rfl,Up.f (fs:=[⟨2,true,tWh (wh 4)⟩,⟨2,true,(tS [⟨1,false,(tE (.bool false))⟩,⟨1,false,(tLm [])⟩])⟩]) (f:=⟨2,true,(tS [⟨1,false,(tE (.bool false))⟩,⟨1,false,(tLm [])⟩])⟩) (fs':=[⟨2,true,tWh (wh 4)⟩,⟨2,true,tWh (wh 1461)⟩]) 1 rfl rfl rfl,inferInstance,Le.refl⟩⟩) rfl rfl (R2 (x3 (c_FMulQ4s hq hqs) fi58 rfl) rfl rfl ?_)))
    refine A7 ?_
    exact xe2 Plain.mk' (rs:=[.cell 6 30,.tmp 7]) rfl rfl ⟨⟨_,_,_,_,_,rfl,rfl,ti30,(Le.of (by rw [if_pos hk,yq,if_neg h69,hq,resF_mulO];rfl))⟩,⟨_,rfl,(Le.int (by rw [if_pos hk,yq,if_neg h69,hq,resFE_mulO];rfl))⟩,trivial⟩
end An.S

/- Layer 8: service, limits, months, sets. -/
namespace An.S
open Go Go.Proofs An
set_option maxHeartbeats 2000000
instance fi27:FnI Tryz.prog 27:=⟨_,Tryz.func27,by kernel_rfl,rfl⟩
instance fi45:FnI Tryz.prog 45:=⟨_,Tryz.func45,by kernel_rfl,rfl⟩
instance fi46:FnI Tryz.prog 46:=⟨_,Tryz.func46,by kernel_rfl,rfl⟩
instance fi63:FnI Tryz.prog 63:=⟨_,Tryz.func63,by kernel_rfl,rfl⟩
instance fi65:FnI Tryz.prog 65:=⟨_,Tryz.func65,by kernel_rfl,rfl⟩
theorem c_FCmpE {x:Fr} {q:Rat} (hx:x=fr q) (hq:short q) (f:Fr) (hf:f=fr f.rat) (hs:short f.rat):Ct Tryz.prog 61 [tFr x,tFr f] (tI (cmpQ q f.rat)):=by
  have h:=c_FCmp q f.rat hq hs
  rw [←hf,←hx] at h;exact h
theorem c_FAddE (f:Fr) (hf:f=fr f.rat) (hs:short f.rat):Ct Tryz.prog 62 [tFr f,tFr (fr ((0:Int):Rat))] (tT [tFr f,tI 0]):=by
  have h:=c_FAdd f.rat ((0:Int):Rat) hs (short_int (len16_small (by decide) (by decide)))
  have e:f.rat+((0:Int):Rat)=f.rat:=by simp;exact Rat.add_zero _
  rw [e,resF,resFE,if_pos hs,if_pos hs,←hf] at h;exact h
theorem yr_ok {l:List Tst} {a b:Int} (h:(if askB l a b=true then sumE (yq l a b) else 2)=0):askB l a b=true∧ ∃q,yq l a b=some q∧short q:=by
  split at h
  · rename_i hk;exact ⟨hk,sumF_short (fun q h=>yq_short h) h⟩
  · cases h
def capO (l:List Tst) (a b:Int) (f:Fr):Option Rat:=(yq l a b).map fun q=>if q≤f.rat then q else f.rat
def capC (l:List Tst) (a b:Int) (f:Fr):Prop:=(f.valid=true∧f.n.neg=false)∧askB l a b=true
instance (l:List Tst) (a b:Int) (f:Fr):Decidable (capC l a b f):=inferInstanceAs (Decidable (_∧_))
theorem cap_bad {l:List Tst} {a b:Int} {f:Fr} (hv2:f.valid=true∧f.n.neg=false) (h:(if askB l a b=true then sumE (yq l a b) else 2)≠0):(if capC l a b f then sumF (capO l a b f) else fr0)=fr0∧(if askB l a b=true then sumE (yq l a b) else 2)=(if capC l a b f then sumE (capO l a b f) else 2):=by
  by_cases ha:askB l a b=true
  · rw [if_pos ha] at h
    cases hy:yq l a b with
    | none=>rw [if_pos ⟨hv2,ha⟩,if_pos ha,if_pos ⟨hv2,ha⟩,capO,hy];exact ⟨rfl,rfl⟩
    | some q=>rw [hy] at h;exact absurd rfl h
  · have hn: ¬capC l a b f:=fun h=>ha h.2
    rw [if_neg hn,if_neg hn,if_neg ha];exact ⟨rfl,rfl⟩
theorem c_Capped (l:List Tst) (a b:Int) (f:Fr) (hl:l.length≤500000) (hD: ∀s∈l,s.v.f.dig) (hF:f.dig):
  Ct Tryz.prog 28 [tL 8 true tTs l,tI a,tI b,tFr f] (tT [tFr (if capC l a b f then sumF (capO l a b f) else fr0),tI (if capC l a b f then sumE (capO l a b f) else 2)]):=by
 refine Ct.intro Tryz.func28 rfl Tryz.ntmps28 rfl ?_
 intro w F
 refine A3 ?_
 refine RE (xa6 (k:=8) (n:=4) (agg:=true) zr30.1 zr30.2 rfl) trivial trivial ⟨rfl,trivial⟩ ?_
 refine A7 ?_
 refine R1 (x3 (c_FValid f hF.1 hF.2) fi60 rfl) rfl ?_
 refine A2 ?_
 refine RGcase (t:=15) rfl (fun h81=> ?_) (fun h81=> ?_)
 ·
  have hk: ¬capC l a b f:=fun h=>by rw [h.1.1] at h81;cases h81
  refine A9 ?_
  refine R0 (xb0 (r:=tS [⟨2,true,(tS [⟨1,false,(tE (.bool false))⟩,⟨1,false,(tLm [])⟩])⟩,⟨2,true,(tS [⟨1,false,(tE (.bool false))⟩,⟨1,false,(tLm [])⟩])⟩]) (ts:=[]) bu30 zr30.2 ⟨_,rfl⟩ rfl Le.refl) ?_
  refine A6 ?_
  exact xe2 Plain.mk' (rs:=[.cell 8 30,.tmp 9]) rfl rfl ⟨⟨_,_,_,_,_,rfl,rfl,ti30,(Le.of (by rw [if_neg hk];rfl))⟩,⟨_,rfl,(Le.int (by rw [if_neg hk]))⟩,trivial⟩
 ·
  have hv:f.valid=true:=by simpa using h81
  refine A2 ?_
  refine xc5 h81 rfl rfl (0) ti4 rfl rfl rfl (At.t (At.g 0 rfl rfl) (At.g 0 rfl rfl)) rfl ?_
  refine A3 ?_
  refine xd2 rfl (fun h81_2=> ?_) (fun h81_2=> ?_)
  ·
   have hk: ¬capC l a b f:=fun h=>by rw [h.1.2] at h81_2;cases h81_2
   refine A2 ?_
   refine R0 (xb0 (r:=tS [⟨2,true,(tS [⟨1,false,(tE (.bool false))⟩,⟨1,false,(tLm [])⟩])⟩,⟨2,true,(tS [⟨1,false,(tE (.bool false))⟩,⟨1,false,(tLm [])⟩])⟩]) (ts:=[]) bu30 zr30.2 ⟨_,rfl⟩ rfl Le.refl) ?_
   refine A6 ?_
   exact xe2 Plain.mk' (rs:=[.cell 8 30,.tmp 9]) rfl rfl ⟨⟨_,_,_,_,_,rfl,rfl,ti30,(Le.of (by rw [if_neg hk];rfl))⟩,⟨_,rfl,(Le.int (by rw [if_neg hk]))⟩,trivial⟩
  ·
   have hv2:f.valid=true∧f.n.neg=false:=⟨hv,h81_2⟩
   have hf:=Fr.of_valid' hF hv
   refine A7 ?_
   refine R3 (x3 (c_Years l a b hl hD) fi27 rfl) rfl rfl rfl ?_
   refine A3 ?_
   refine RE (xa6 (k:=10) (n:=4) (agg:=true) zr30.1 zr30.2 rfl) trivial trivial ⟨rfl,trivial⟩ ?_
   refine A9 ?_
   refine A2 ?_
   refine x9 rfl (fun h85=> ?_) (fun h85=> ?_)
   ·
    refine A2 ?_
    refine R0 (xb0 (r:=tS [⟨2,true,(tS [⟨1,false,(tE (.bool false))⟩,⟨1,false,(tLm [])⟩])⟩,⟨2,true,(tS [⟨1,false,(tE (.bool false))⟩,⟨1,false,(tLm [])⟩])⟩]) (ts:=[]) bu30 zr30.2 ⟨_,rfl⟩ rfl Le.refl) ?_
    refine A7 ?_
    exact xe2 Plain.mk' (rs:=[.cell 8 30,.tmp 9]) rfl rfl ⟨⟨_,_,_,_,_,rfl,rfl,ti30,(Le.of (by rw [(cap_bad hv2 h85).1];rfl))⟩,⟨_,rfl,(Le.int (cap_bad hv2 h85).2)⟩,trivial⟩
   ·
    obtain ⟨hk,q,hq,hqs⟩:=yr_ok (Decidable.not_not.1 h85)
    have hc:capC l a b f:=⟨hv2,hk⟩
    refine A7 ?_
    refine R2 (x3 (c_FCmpE (x:=if askB l a b=true then sumF (yq l a b) else fr0) (q:=q) (by rw [if_pos hk,hq];rfl) hqs f hf.1 hf.2) fi61 rfl) rfl rfl ?_
    refine A3 ?_
    refine x9 rfl (fun h88=> ?_) (fun h88=> ?_)
    ·
     refine A9 ?_
     exact xe2 Plain.mk' (rs:=[.cell 8 30,.tmp 9]) rfl rfl ⟨⟨_,_,_,_,_,rfl,rfl,ti30,(Le.of (by rw [if_pos hc,capO,hq,if_pos hk,Option.map_some,if_pos (Decidable.byContradiction fun h=>absurd (cmpQ_pos.2 h) (by omega))]))⟩,⟨_,rfl,(Le.int (by rw [if_pos hc,capO,hq];rfl))⟩,trivial⟩
    ·
     refine A5 ?_
     refine R1 (x3 (c_FFromInt 0 (by decide) (by decide)) fi56 rfl) rfl (R2 (x3 (c_FAddE f hf.1 hf.2) fi62 rfl) rfl rfl ?_)
     refine A7 ?_
     exact xe2 Plain.mk' (rs:=[.cell 8 30,.tmp 9]) rfl rfl ⟨⟨_,_,_,_,_,rfl,rfl,ti30,(Le.of (by rw [if_pos hc,capO,hq,Option.map_some,if_neg (cmpQ_pos.1 (by omega)),hf.1,rat_fr];rfl))⟩,⟨_,rfl,(Le.int (by rw [if_pos hc,capO,hq];rfl))⟩,trivial⟩
theorem c_FFloor (q:Rat) (h:short q):
  Ct Tryz.prog 63 [tFr (fr q)] (tT [tWh (wh q.floor),tI 0]):=by
 obtain ⟨qn,qd⟩:=h
 have h:short q:=⟨qn,qd⟩
 have hdp:(0:Int) < (q.den:Int):=by have:=q.den_pos;omega
 refine Ct.intro Tryz.func63 rfl Tryz.ntmps63 rfl ?_
 intro w F
 refine A3 ?_
 refine RE (xa6 (k:=2) (n:=2) (agg:=true) zr28.1 zr28.2 rfl) trivial trivial ⟨rfl,trivial⟩ ?_
 refine A7 ?_
 refine R1 (x3 (c_FValidQ q h) fi60 rfl) rfl ?_
 refine A9 ?_
 refine A3 ?_
 refine R2 (x3 (c_fdivide q.num (q.den:Int) (by omega) (by omega) hdp) fi123 rfl) rfl rfl ?_
 refine A3 ?_
 refine RE (xa6 (k:=4) (n:=2) (agg:=true) zr28.1 zr28.2 rfl) trivial trivial ⟨rfl,trivial⟩ (RE (xa6 (k:=5) (n:=2) (agg:=true) zr28.1 zr28.2 rfl) trivial trivial ⟨rfl,trivial⟩ ?_)
 refine A9 ?_
 refine A3 ?_
 exact xe2 Plain.mk' (rs:=[.cell 2 28,.tmp 3]) rfl rfl ⟨⟨_,_,_,_,_,rfl,rfl,ti28,(Le.of (by rw [Rat.floor_def]))⟩,⟨_,rfl,Le.refl⟩,trivial⟩
theorem c_FFloorR (q:Rat) (h:short q):Ct Tryz.prog 63 [tFr (resF q)] (tT [tWh (wh q.floor),tI 0]):=by
  rw [show resF q=fr q from if_pos h];exact c_FFloor q h
def m12 (f:Fr):Rat:=f.rat*((12:Int):Rat)
def moB (f:Fr):Prop:=f.valid=true∧f.n.neg=false
def moC (f:Fr):Prop:=moB f∧short (m12 f)∧(m12 f).floor≤1048576
instance (f:Fr):Decidable (moB f):=inferInstanceAs (Decidable (_∧_))
instance (f:Fr):Decidable (moC f):=inferInstanceAs (Decidable (_∧_))
theorem m12_nonneg {f:Fr} (hF:f.dig) (h:moB f):0≤(m12 f).floor:=by
  have h1:=nonneg_of hF h.1 h.2
  have h2:(0:Rat)≤m12 f:=Rat.mul_nonneg h1 (by decide+kernel)
  exact Rat.le_floor_iff.2 (by simpa using h2)
theorem len_floor {q:Rat} (h:short q):len16 q.floor≤256:=by rw [Rat.floor_def];exact len16_div h.1
theorem cmpZ_pos {x y:Int}:0 < cmpZ x y↔y < x:=by
  simp only [cmpZ];split
  · omega
  · split <;> omega
theorem c_Months (f:Fr) (hF:f.dig):
  Ct Tryz.prog 29 [tFr f] (tT [tI (if moC f then (m12 f).floor else 0),tI (if moB f then (if moC f then 0 else 3) else 2)]):=by
 refine Ct.intro Tryz.func29 rfl Tryz.ntmps29 rfl ?_
 intro w F
 refine A9 ?_
 refine A2 ?_
 refine R1 (x3 (c_FValid f hF.1 hF.2) fi60 rfl) rfl ?_
 refine A2 ?_
 refine RGcase (t:=11) rfl (fun h96=> ?_) (fun h96=> ?_)
 ·
  have hk: ¬moB f:=fun h=>by rw [h.1] at h96;cases h96
  refine A9 ?_
  refine A6 ?_
  exact xc8 Plain.mk' rfl rfl rfl (Le.int (by rw [if_neg (fun h=>hk h.1)])) (Le.int (by rw [if_neg hk]))
 ·
  have hv:f.valid=true:=by simpa using h96
  refine A2 ?_
  refine xc5 h96 rfl rfl (0) ti4 rfl rfl rfl (At.t (At.g 0 rfl rfl) (At.g 0 rfl rfl)) rfl ?_
  refine A3 ?_
  refine xd2 rfl (fun h96_2=> ?_) (fun h96_2=> ?_)
  ·
   have hk: ¬moB f:=fun h=>by rw [h.2] at h96_2;cases h96_2
   refine A8 ?_
   exact xc8 Plain.mk' rfl rfl rfl (Le.int (by rw [if_neg (fun h=>hk h.1)])) (Le.int (by rw [if_neg hk]))
  ·
   have hb:moB f:=⟨hv,h96_2⟩
   have hf:=Fr.of_valid' hF hv
   refine A5 ?_
   refine R1 (x3 (c_FFromInt 12 (by decide) (by decide)) fi56 rfl) rfl (R2 (x3 (c_FMulT f 12 hf.1 hf.2 (short_int (len16_small (by decide) (by decide)))) fi58 rfl) rfl rfl ?_)
   refine A3 ?_
   refine RE (xa6 (k:=4) (n:=4) (agg:=true) zr30.1 zr30.2 rfl) trivial trivial ⟨rfl,trivial⟩ ?_
   refine A9 ?_
   refine A2 ?_
   refine x9 rfl (fun h100=> ?_) (fun h100=> ?_)
   ·
    refine A9 ?_
    exact xc8 Plain.mk' rfl rfl rfl (Le.int (by rw [if_neg (fun h:moC f=>resFE_not h100 h.2.1)])) (Le.int (by rw [if_pos hb,if_neg (fun h:moC f=>resFE_not h100 h.2.1),resFE,if_neg (resFE_not h100)]))
   ·
    have hs:short (m12 f):=resFE_zero (Decidable.not_not.1 h100)
    have hlen:=len_floor hs
    have hl2:=len16_small (n:=1048576) (by decide) (by decide)
    have hn0:=m12_nonneg hF hb
    refine A5 ?_
    refine R1 (x3 (c_FFloorR (m12 f) hs) fi63 rfl) rfl ?_
    refine A3 ?_
    refine RE (xa6 (k:=6) (n:=2) (agg:=true) zr28.1 zr28.2 rfl) trivial trivial ⟨rfl,trivial⟩ ?_
    refine A8 ?_
    refine R1 (x3 (c_FromInt 1048576 (by decide) (by decide)) fi59 rfl) rfl (R2 (x3 (c_Cmp (m12 f).floor 1048576 (by omega) (by omega)) fi64 rfl) rfl rfl ?_)
    refine A3 ?_
    refine x9 rfl (fun h104=> ?_) (fun h104=> ?_)
    ·
     have hgt:=cmpZ_pos.1 h104
     refine A8 ?_
     exact xc8 Plain.mk' rfl rfl rfl (Le.int (by rw [if_neg (fun h:moC f=>absurd h.2.2 (by omega))])) (Le.int (by rw [if_pos hb,if_neg (fun h:moC f=>absurd h.2.2 (by omega))]))
    ·
     have hle:(m12 f).floor≤1048576:=Int.not_lt.1 fun h=>h104 (cmpZ_pos.2 h)
     have hc:moC f:=⟨hb,hs,hle⟩
     have hfit:fits (m12 f).floor=true:=by simp only [fits,Bool.and_eq_true,decide_eq_true_eq];omega
     refine A5 ?_
     refine R1 (x3 (c_WInt (m12 f).floor (by omega)) fi65 rfl) rfl ?_
     refine A7 ?_
     exact xc8 Plain.mk' rfl rfl rfl (Le.int (by rw [if_pos hc,hfit];rfl)) (Le.int (by rw [if_pos hb,if_pos hc,hfit];rfl))
/-- Between neighbours. -/
def brk (w:List Sn):List Sn:=(List.range (w.length - 1)).map fun i=>⟨(w.getD i sn0).hi,(w.getD (i+1) sn0).lo⟩
theorem brk_snoc {w:List Sn} {n:Nat}:(List.range (n+1)).map (fun i=>(⟨(w.getD i sn0).hi,(w.getD (i+1) sn0).lo⟩:Sn))=(List.range n).map (fun i=>(⟨(w.getD i sn0).hi,(w.getD (i+1) sn0).lo⟩:Sn))++[⟨(w.getD n sn0).hi,(w.getD (n+1) sn0).lo⟩]:=by
  rw [List.range_succ,List.map_append];rfl
theorem wkd_len {l:List Tst} {a b:Int}:(wkd l a b).length≤l.length:=by
  rw [wkd];split
  · simp
  · split
    · have h1:=mrg_len (srt cfSn ((wkS l a b).filter pos)) []
      have h2:=srtSn_len (xs:=(wkS l a b).filter pos)
      have h3:=List.length_filter_le pos (wkS l a b)
      have h4:=wkS_len (l:=l) (a:=a) (b:=b)
      have h5:(mkS (wkS l a b)).length≤([]:List Sn).length+(srt cfSn ((wkS l a b).filter pos)).length:=h1
      simp at h5;omega
    · simp
theorem c_Worked (l:List Tst) (a b:Int) (hl:l.length≤500000) (hD: ∀s∈l,s.v.f.dig):
  Ct Tryz.prog 17 [tL 8 true tTs l,tI a,tI b] (tT [tL 2 true tSn (if askB l a b=true then wkd l a b else []),tI (if askB l a b=true then 0 else 2)]):=by
 refine Ct.intro Tryz.func17 rfl Tryz.ntmps17 rfl ?_
 intro w F
 refine A9 ?_
 refine A2 ?_
 refine R3 (x3 (c_asked l a b hD) fi44 rfl) rfl rfl rfl ?_
 refine A3 ?_
 refine RE (xa6 (k:=8) (n:=3) (agg:=true) zr72.1 zr72.2 rfl) trivial trivial ⟨rfl,trivial⟩ ?_
 refine A9 ?_
 refine A2 ?_
 refine xd2 rfl (fun h113=> ?_) (fun h113=> ?_)
 ·
  have hk: ¬askB l a b=true:=by simpa using h113
  refine A8 ?_
  exact xc8 Plain.mk' rfl rfl rfl (leNil (by rw [if_neg hk])) (Le.int (by rw [if_neg hk]))
 ·
  have hk:askB l a b=true:=by simpa using h113
  refine A5 ?_
  refine R1 (x3 (c_worked l a b (by omega)) fi45 rfl) rfl ?_
  refine A5 ?_
  exact xc8 Plain.mk' rfl rfl rfl (Le.of (by rw [if_pos hk])) (Le.int (by rw [if_pos hk]))
theorem c_Breaks (l:List Tst) (a b:Int) (hl:l.length≤500000) (hD: ∀s∈l,s.v.f.dig):
  Ct Tryz.prog 18 [tL 8 true tTs l,tI a,tI b] (tT [tL 2 true tSn (if askB l a b=true then brk (wkd l a b) else []),tI (if askB l a b=true then 0 else 2)]):=by
 have hwl:=wkd_len (l:=l) (a:=a) (b:=b)
 refine Ct.intro Tryz.func18 rfl Tryz.ntmps18 rfl ?_
 intro w F
 refine A9 ?_
 refine A2 ?_
 refine R3 (x3 (c_asked l a b hD) fi44 rfl) rfl rfl rfl ?_
 refine A3 ?_
 refine RE (xa6 (k:=8) (n:=3) (agg:=true) zr72.1 zr72.2 rfl) trivial trivial ⟨rfl,trivial⟩ ?_
 refine A9 ?_
 refine A2 ?_
 refine xd2 rfl (fun h122=> ?_) (fun h122=> ?_)
 ·
  have hk: ¬askB l a b=true:=by simpa using h122
  refine A8 ?_
  exact xc8 Plain.mk' rfl rfl rfl (leNil (by rw [if_neg hk])) (Le.int (by rw [if_neg hk]))
 ·
  have hk:askB l a b=true:=by simpa using h122
  refine A4 ?_
  refine RE (xd3 (k:=10) 62 2 true rfl (fun h=>by cases h)) trivial trivial ⟨rfl,trivial⟩ ?_
  refine A5 ?_
  refine R1 (x3 (c_worked l a b (by omega)) fi45 rfl) rfl ?_
  refine A9 ?_
  refine A1 ?_
  refine cL (fun (fm:(Nat)×(List Sn))=>(fun (i:Nat) (xs:List Sn)=>(i=0∨i+1≤(wkd l a b).length)∧xs=(List.range i).map (fun i=>(⟨((wkd l a b).getD i sn0).hi,((wkd l a b).getD (i+1) sn0).lo⟩:Sn))) fm.1 fm.2) (fun (fm:(Nat)×(List Sn))=>(fun (i:Nat) (xs:List Sn)=>upd (upd (upd (fun _=>none) 10 (some (.own (.sl 10 2 0 xs.length)))) 11 (some (.val (tL 2 true tSn (wkd l a b))))) 12 (some (.val (tI ((i:Int)+1))))) fm.1 fm.2) (fun (fm:(Nat)×(List Sn))=>(fun (i:Nat) (xs:List Sn)=>upd (fun _=>none) 10 (some (⟨62,2,true,rV tSn xs⟩))) fm.1 fm.2) [10] (fun (fm:(Nat)×(List Sn))=>(fun (i:Nat) (xs:List Sn)=>(wkd l a b).length - i) fm.1 fm.2) ((0,[])) (by dsimp only;exact ⟨.inl rfl,rfl⟩) (hh:=((SubK.consI rfl ImpK.refl) SubK.nil)) ?_
  intro fm hI
  obtain ⟨i,xs⟩:=fm
  replace hI:(i=0∨i+1≤(wkd l a b).length)∧xs=(List.range i).map (fun i=>(⟨((wkd l a b).getD i sn0).hi,((wkd l a b).getD (i+1) sn0).lo⟩:Sn)):=hI
  show wc _ _ _ _ (upd (upd (upd (fun _=>none) 10 (some (.own (.sl 10 2 0 xs.length)))) 11 (some (.val (tL 2 true tSn (wkd l a b))))) 12 (some (.val (tI ((i:Int)+1))))) (upd (fun _=>none) 10 (some (⟨62,2,true,rV tSn xs⟩))) _
  obtain ⟨hi,hx⟩:=hI
  have hxl:xs.length=i:=by rw [hx];simp
  refine A9 ?_
  refine x9 rfl (fun h127=> ?_) (fun h127=> ?_)
  ·
   refine A9 ?_
   refine R2 (x6 sl45 (i) (by omega) (gD (l:=wkd l a b) (n:=i) (d:=sn0) (by omega))) rfl rfl (R1 (xb4 fo62_1.h (At.f 1 rfl rfl) rfl) rfl ?_)
   refine A3 ?_
   refine R2 (x6 sl45 (i+1) (by omega) (gD (l:=wkd l a b) (n:=i+1) (d:=sn0) (by omega))) rfl rfl (R1 (xb4 fo62_0.h (At.f 0 rfl rfl) rfl) rfl ?_)
   refine A1 ?_
   refine R2 (xb0 (r:=tS [⟨1,false,tI ((wkd l a b).getD i sn0).hi⟩,⟨1,false,tI ((wkd l a b).getD (i+1) sn0).lo⟩]) (ts:=[(0,tI ((wkd l a b).getD i sn0).hi),(1,tI ((wkd l a b).getD (i+1) sn0).lo)]) bu62 zr62.2 ⟨_,rfl⟩ rfl ⟨_,_,_,_,rfl,Up.f (fs:=[⟨1,false,(tE (.int .i64 0))⟩,⟨1,false,(tE (.int .i64 0))⟩]) (f:=⟨1,false,(tE (.int .i64 0))⟩) (fs':=[⟨1,false,tI ((wkd l a b).getD i sn0).hi⟩,⟨1,false,(tE (.int .i64 0))⟩]) 0 rfl rfl rfl,inferInstance,⟨_,_,_,_,rfl,Up.f (fs:=[⟨1,false,tI ((wkd l a b).getD i sn0).hi⟩,⟨1,false,(tE (.int .i64 0))⟩]) (f:=⟨1,false,(tE (.int .i64 0))⟩) (fs':=[⟨1,false,tI ((wkd l a b).getD i sn0).hi⟩,⟨1,false,tI ((wkd l a b).getD (i+1) sn0).lo⟩]) 1 rfl rfl rfl,inferInstance,Le.refl⟩⟩) rfl rfl (R1 (xd6 (n:=1) (f:=tSn) [⟨((wkd l a b).getD i sn0).hi,((wkd l a b).getD (i+1) sn0).lo⟩] Tryz.underlying45 el62 zf62 rfl (fun _=>inferInstance) rfl rfl rfl) rfl (RE (xc1 (k:=10) (k':=44) (f:=tSn) (ys:=[⟨((wkd l a b).getD i sn0).hi,((wkd l a b).getD (i+1) sn0).lo⟩]) (ts':=rV tSn (xs++[⟨((wkd l a b).getD i sn0).hi,((wkd l a b).getD (i+1) sn0).lo⟩])) Tryz.underlying45 el62 zf62 rfl rfl (fun _=>inferInstance) xf1 (by simp;omega) (by simp;omega) (by simp [rV]) (n':=xs.length+1) rfl) ⟨rfl,rfl,trivial⟩ ⟨rfl,trivial⟩ ⟨rfl,trivial⟩ ?_))
   refine A9 ?_
   exact xe6 (l:=[10]) (fun j=>cond (Nat.beq j 10) 44 (j)) ((i+1,xs++[⟨((wkd l a b).getD i sn0).hi,((wkd l a b).getD (i+1) sn0).lo⟩])) ⟨(by dsimp only;exact ⟨by omega,by rw [brk_snoc,←hx]⟩),(by dsimp only;omega)⟩ (SubR.int rfl (by first | omega | rfl | (dsimp only;omega)) (SubR.cons rfl ((SubR.consI rfl (Imp.of (by dsimp only;rw [List.length_append];rfl))) SubR.nil))) ((SubKR.consI rfl (ImpK.of xb9.symm)) SubKR.nil) (SupG.val (SupG.val (SupG.own rfl SupG.nil))) (SupH.cons rfl (supJ xa9) SupH.nil) (lkOk rfl) rfl rfl (fun _ h=>by cases h)
  ·
   refine A8 ?_
   refine RE (d_assignS (f:=tSn) (xs:=xs) (fun _ h=>h) (rV_all rfl) rfl) ⟨rfl,trivial⟩ ⟨rfl,trivial⟩ trivial ?_
   refine A4 ?_
   exact xc8 Plain.mk' rfl rfl rfl (Le.of (by rw [if_pos hk,hx,brk,show i=(wkd l a b).length - 1 by omega])) (Le.int (by rw [if_pos hk]))
theorem c_Periods (l:List Tst) (a b:Int) (d:Int) (hl:l.length≤500000) (hD: ∀s∈l,s.v.f.dig):
  Ct Tryz.prog 19 [tL 8 true tTs l,tI a,tI b,tI d] (tT [tL 2 true tSn (if askB l a b=true∧sVal (wkd l a b)=true∧0≤d then brg d (wkd l a b) else []),tI (if askB l a b=true∧sVal (wkd l a b)=true∧0≤d then 0 else 2)]):=by
 have hwl:=wkd_len (l:=l) (a:=a) (b:=b)
 refine Ct.intro Tryz.func19 rfl Tryz.ntmps19 rfl ?_
 intro w F
 refine A9 ?_
 refine A2 ?_
 refine R3 (x3 (c_asked l a b hD) fi44 rfl) rfl rfl rfl ?_
 refine A3 ?_
 refine RE (xa6 (k:=10) (n:=3) (agg:=true) zr72.1 zr72.2 rfl) trivial trivial ⟨rfl,trivial⟩ ?_
 refine A9 ?_
 refine A1 ?_
 refine RGcase (t:=21) rfl (fun h136=> ?_) (fun h136=> ?_)
 ·
  have hk: ¬(askB l a b=true∧sVal (wkd l a b)=true∧0≤d):=fun h=>by rw [h.1] at h136;cases h136
  refine A9 ?_
  refine A5 ?_
  exact xc8 Plain.mk' rfl rfl rfl (leNil (by rw [if_neg hk])) (Le.int (by rw [if_neg hk]))
 ·
  have hk0:askB l a b=true:=by simpa using h136
  refine A5 ?_
  refine x9 rfl (fun h136_2=> ?_) (fun h136_2=> ?_)
  ·
   have hk: ¬(askB l a b=true∧sVal (wkd l a b)=true∧0≤d):=by omega
   refine A8 ?_
   exact xc8 Plain.mk' rfl rfl rfl (leNil (by rw [if_neg hk])) (Le.int (by rw [if_neg hk]))
  ·
   refine A5 ?_
   refine R1 (x3 (c_worked l a b (by omega)) fi45 rfl) rfl ?_
   refine A1 ?_
   refine R2 (x3 (c_SBridge (wkd l a b) d (by omega)) fi46 rfl) rfl rfl ?_
   refine A7 ?_
   exact xc8 Plain.mk' rfl rfl rfl (Le.of (by by_cases hs:sVal (wkd l a b)=true∧0≤d <;> simp [hk0,hs])) (Le.int (by by_cases hs:sVal (wkd l a b)=true∧0≤d <;> simp [hk0,hs]))
end An.S

/- Results that lie in new memory: sums, years of service. -/
namespace An.S
open Go Go.Proofs An
set_option maxHeartbeats 2000000
set_option maxRecDepth 100000
theorem tG_up {m n:Nat} {t:Ty} (h:n≤m):Le (tG (up m) t) (tG (up n) t):=tG_sub fun _ hb=>Nat.le_trans h hb
theorem fr0N {G:Dom}:Le (tFr fr0) (tG G (tFr fr0)):=leG_S ⟨⟨rfl,rfl,leG_S ⟨⟨rfl,rfl,tG_E⟩,⟨rfl,rfl,leG_nil⟩,trivial⟩⟩,⟨rfl,rfl,leG_S ⟨⟨rfl,rfl,tG_E⟩,⟨rfl,rfl,leG_nil⟩,trivial⟩⟩,trivial⟩
end An.S

/- Layers 4 and 5: steps in order, sets of days. Plain data, but for what the walks define. -/
namespace An.S
open Go
theorem tRight_iff {l:List Tst}:tRight l=true↔(∀i,i < l.length→tOk l i=true)∧ ∀s∈l,s.v.valid=true:=by
  simp only [tRight,Bool.and_eq_true,List.all_eq_true,List.mem_range]
theorem getD_snoc {l:List Tst} {s:Tst} {i:Nat}:(l++[s]).getD i tst0=if i < l.length then l.getD i tst0 else if i=l.length then s else tst0:=by
  simp only [List.getD_eq_getElem?_getD,List.getElem?_append]
  by_cases h:i < l.length
  · simp [h]
  · by_cases h2:i=l.length
    · simp [h2]
    · have:i - l.length≠0:=by omega
      simp only [h,h2,if_false]
      rw [List.getElem?_eq_none (by simp;omega)];rfl
theorem getD_setT {l:List Tst} {s:Tst} {i j:Nat} (hj:j < l.length):(l.set j s).getD i tst0=if i=j then s else l.getD i tst0:=by
  simp only [List.getD_eq_getElem?_getD]
  by_cases h:i=j
  · subst h;rw [List.getElem?_set_self hj];simp
  · rw [List.getElem?_set_ne (Ne.symm h)];simp [h]
/-- One more piece: still a timeline. -/
theorem pst1_right {l:List Tst} {s:Tst} (h:tRight l=true) (h0:0≤s.lo) (h1:s.hi≤65536) (hv:s.v.valid=true) (hl:0 < l.length→(l.getD (l.length - 1) tst0).hi≤s.lo∧(l.getD (l.length - 1) tst0).v.kind=s.v.kind):tRight (pst1 l s)=true:=by
  rw [pst1]
  split
  · exact h
  · rename_i hlt
    obtain ⟨ha,hb⟩:=tRight_iff.1 h
    split
    · rename_i hm
      refine tRight_iff.2 ⟨fun i hi=> ?_,fun x hx=> ?_⟩
      · rw [List.length_set] at hi
        have ho:=tOk_iff.1 (ha i hi)
        refine tOk_iff.2 ?_
        rw [getD_setT (by omega),getD_setT (by omega)]
        by_cases e:i=l.length - 1
        · subst e
          rw [if_pos rfl]
          refine ⟨ho.1,by dsimp only;have:=ho.2.1;omega,h1,?_⟩
          by_cases e0:l.length - 1=0
          · exact .inl e0
          · rw [if_neg (by omega)]
            exact .inr (ho.2.2.2.resolve_left e0)
        · rw [if_neg e]
          by_cases e0:i=0
          · exact ⟨ho.1,ho.2.1,ho.2.2.1,.inl e0⟩
          · rw [if_neg (by omega)];exact ho
      · rcases List.mem_or_eq_of_mem_set hx with h' | h'
        · exact hb x h'
        · subst h';exact hb (l.getD (l.length - 1) tst0) (xc2 (by omega))
    · rename_i hm
      refine tRight_iff.2 ⟨fun i hi=> ?_,fun x hx=> ?_⟩
      · refine tOk_iff.2 ?_
        rw [List.length_append,List.length_singleton] at hi
        rw [getD_snoc,getD_snoc]
        by_cases e:i < l.length
        · have ho:=tOk_iff.1 (ha i e)
          rw [if_pos e,if_pos (by omega)];exact ho
        · have e2:i=l.length:=by omega
          subst e2
          rw [if_neg (by omega),if_pos rfl]
          refine ⟨h0,by omega,h1,?_⟩
          by_cases e0:l.length=0
          · exact .inl e0
          · rw [if_pos (by omega)]
            have:=hl (by omega)
            exact .inr ⟨this.1,this.2,fun h'=>hm ⟨by omega,h'.1,h'.2⟩⟩
      · rcases List.mem_append.1 hx with h' | h'
        · exact hb x h'
        · rw [List.mem_singleton.1 h'];exact hv
theorem tRight_lt {l:List Tst} (h:tRight l=true): ∀{j i:Nat},i < j→j < l.length→(l.getD i tst0).hi≤(l.getD j tst0).lo
  | j+1,i,hij,hj=>by
    have h1:=(xh9 h hj).2.2.2.resolve_left (by omega)
    have h1:(l.getD j tst0).hi≤(l.getD (j+1) tst0).lo:=h1.1
    rcases Nat.lt_or_ge i j with h2 | h2
    · have h3:=tRight_lt h h2 (by omega)
      have h4:=(xh9 h (i:=j) (by omega)).2.1
      omega
    · have:i=j:=by omega
      subst this;exact h1
theorem tRight_pair {l:List Tst} (h:tRight l=true):l.Pairwise fun s t=>s.hi≤t.lo:=by
  refine List.pairwise_iff_getElem.2 fun i j hi hj hij=> ?_
  have:=tRight_lt h hij hj
  rwa [List.getD_eq_getElem?_getD,List.getD_eq_getElem?_getD,List.getElem?_eq_getElem hi,List.getElem?_eq_getElem hj] at this
/-! Worked days. -/
def okS (s:Sn):Prop:=0≤s.lo∧s.lo < s.hi∧s.hi≤65536
def ascS (l:List Sn):Prop:=(∀s∈l,okS s)∧l.Pairwise fun s t=>s.hi≤t.lo
theorem ascS_pos {l:List Sn} (h:ascS l):l.filter pos=l:=List.filter_eq_self.2 fun s hs=>by
  have:=h.1 s hs
  simp only [pos,decide_eq_true_eq];exact this.2.1
theorem ascS_srt {l:List Sn} (h:ascS l):srt cfSn l=l:=by
  refine srt_asc swoSn ?_
  refine List.pairwise_iff_forall_sublist.2 fun {s t} hst=> ?_
  have h1:=List.pairwise_iff_forall_sublist.1 h.2 hst
  have h2:=(h.1 s (hst.subset (List.mem_cons_self ..))).2.1
  rw [ltSn];simp;omega
theorem ascS_ok {l:List Sn} (h:ascS l):l.all Sn.ok=true:=List.all_eq_true.2 fun s hs=>by
  have:=h.1 s hs
  simp only [Sn.ok,Bool.and_eq_true,decide_eq_true_eq];simp only [okS] at this;omega
/-! Sets. -/
def lastS (l:List Sn):Sn:=l.getD (l.length - 1) sn0
theorem sVal_iff {l:List Sn}:sVal l=true↔ ∀i,i < l.length→sOkA l i=true:=by
  simp only [sVal,List.all_eq_true,List.mem_range]
theorem getD_snocS {l:List Sn} {s:Sn} {i:Nat}:(l++[s]).getD i sn0=if i < l.length then l.getD i sn0 else if i=l.length then s else sn0:=by
  simp only [List.getD_eq_getElem?_getD,List.getElem?_append]
  by_cases h:i < l.length
  · simp [h]
  · by_cases h2:i=l.length
    · simp [h2]
    · have:i - l.length≠0:=by omega
      simp only [h,h2,if_false]
      rw [List.getElem?_eq_none (by simp;omega)];rfl
theorem getD_setS {l:List Sn} {s:Sn} {i j:Nat} (hj:j < l.length):(l.set j s).getD i sn0=if i=j then s else l.getD i sn0:=by
  simp only [List.getD_eq_getElem?_getD]
  by_cases h:i=j
  · subst h;rw [List.getElem?_set_self hj];simp
  · rw [List.getElem?_set_ne (Ne.symm h)];simp [h]
/-- A set, a span behind it. -/
theorem sVal_snoc {l:List Sn} {s:Sn} (h:sVal l=true) (hs:okS s) (hl:0 < l.length→(lastS l).hi < s.lo):sVal (l++[s])=true:=by
  refine sVal_iff.2 fun i hi=>xi5.2 ?_
  rw [List.length_append,List.length_singleton] at hi
  rw [getD_snocS,getD_snocS]
  by_cases e:i < l.length
  · have ho:=xi5.1 (sVal_iff.1 h i e)
    rw [if_pos e,if_pos (by omega)];exact ho
  · have e2:i=l.length:=by omega
    subst e2
    rw [if_neg (by omega),if_pos rfl]
    obtain ⟨h1,h2,h3⟩:=hs
    refine ⟨by simp [Sn.ok];omega,by omega,?_⟩
    by_cases e0:l.length=0
    · exact .inl e0
    · rw [if_pos (by omega)];exact .inr (hl (by omega))
/-- A set whose last span ends later. -/
theorem sVal_long {l:List Sn} {e:Int} (h:sVal l=true) (hl:0 < l.length) (h1:(lastS l).hi≤e) (h2:e≤65536):sVal (l.set (l.length - 1) ⟨(lastS l).lo,e⟩)=true:=by
  refine sVal_iff.2 fun i hi=>xi5.2 ?_
  rw [List.length_set] at hi
  have ho:=xi5.1 (sVal_iff.1 h i hi)
  rw [getD_setS (by omega),getD_setS (by omega)]
  by_cases e1:i=l.length - 1
  · subst e1
    have ho1:(lastS l).ok=true∧(lastS l).lo≠(lastS l).hi∧(l.length - 1=0∨(l.getD (l.length - 1 - 1) sn0).hi < (lastS l).lo):=ho
    rw [if_pos rfl]
    have h3:=ho1.1
    simp only [Sn.ok,Bool.and_eq_true,decide_eq_true_eq] at h3
    refine ⟨by simp [Sn.ok];omega,by have:=ho1.2.1;dsimp only;omega,?_⟩
    by_cases e0:l.length - 1=0
    · exact .inl e0
    · rw [if_neg (by omega)];exact .inr (ho1.2.2.resolve_left e0)
  · rw [if_neg e1]
    by_cases e0:i=0
    · exact ⟨ho.1,ho.2.1,.inl e0⟩
    · rw [if_neg (by omega)];exact ho
def dayS (l:List Sn):Int:=(l.map fun s=>s.hi - s.lo).sum
theorem dayS_snoc {l:List Sn} {s:Sn}:dayS (l++[s])=dayS l+(s.hi - s.lo):=by simp [dayS]
theorem split_last {l:List Sn} (h:0 < l.length):l=l.take (l.length - 1)++[lastS l]:=by
  have e:l.take (l.length - 1+1)=l.take (l.length - 1)++[l[l.length - 1]]:=List.take_succ_eq_append_getElem (by omega)
  rw [show l.length - 1+1=l.length by omega,List.take_length] at e
  rw [lastS,List.getD_eq_getElem?_getD,List.getElem?_eq_getElem (by omega)];exact e
theorem set_lastE {l:List Sn} {x:Sn} (h:0 < l.length):l.set (l.length - 1) x=l.take (l.length - 1)++[x]:=by
  have e:=List.set_eq_take_append_cons_drop (l:=l) (i:=l.length - 1) (a:=x)
  rw [if_pos (by omega),show l.length - 1+1=l.length by omega,List.drop_length] at e
  exact e
theorem dayS_long {l:List Sn} {e:Int} (h:0 < l.length):dayS (l.set (l.length - 1) ⟨(lastS l).lo,e⟩)=dayS l+(e - (lastS l).hi):=by
  have h1:dayS l=dayS (l.take (l.length - 1))+((lastS l).hi - (lastS l).lo):=by rw [←dayS_snoc,←split_last h]
  rw [h1,set_lastE h,dayS_snoc];dsimp only;omega
/-- What is merged in order is a set with the same days. -/
theorem mrg_asc: ∀(xs acc:List Sn),ascS xs→sVal acc=true→(0 < acc.length→ ∀s∈xs,(lastS acc).hi≤s.lo)→sVal (xs.foldl mrg1 acc)=true∧dayS (xs.foldl mrg1 acc)=dayS acc+dayS xs
  | [],acc,_,hv,_=>⟨hv,by simp [dayS]⟩
  | s::r,acc,hx,hv,hl=>by
    have hs:=hx.1 s (List.mem_cons_self ..)
    have hp:=List.pairwise_cons.1 hx.2
    have hr:ascS r:=⟨fun t ht=>hx.1 t (List.mem_cons_of_mem _ ht),hp.2⟩
    have key:sVal (mrg1 acc s)=true∧dayS (mrg1 acc s)=dayS acc+(s.hi - s.lo)∧0 < (mrg1 acc s).length∧(lastS (mrg1 acc s)).hi=s.hi:=by
      rw [mrg1]
      split
      · rename_i hm
        have h1:(lastS acc).hi=s.lo:=by have:=hl hm.1 s (List.mem_cons_self ..);have h2:s.lo≤(lastS acc).hi:=hm.2;omega
        have hmax:max (acc.getD (acc.length - 1) sn0).hi s.hi=s.hi:=by
          have h2:(acc.getD (acc.length - 1) sn0).hi=s.lo:=h1
          have:=hs.2.1;omega
        rw [hmax]
        refine ⟨sVal_long hv hm.1 (by have:=hs.2.1;omega) hs.2.2,by rw [show (acc.getD (acc.length - 1) sn0).lo=(lastS acc).lo from rfl,dayS_long hm.1];omega,by rw [List.length_set];exact hm.1,?_⟩
        rw [lastS,List.length_set,getD_setS (by omega),if_pos rfl]
      · rename_i hm
        refine ⟨sVal_snoc hv hs fun h0=> ?_,by rw [dayS_snoc],by simp,?_⟩
        · have:=hl h0 s (List.mem_cons_self ..)
          have h2: ¬s.lo≤(lastS acc).hi:=fun h'=>hm ⟨h0,h'⟩
          omega
        · rw [lastS,getD_snocS,List.length_append,List.length_singleton,if_neg (by omega),if_pos (by omega)]
    have ih:=mrg_asc r (mrg1 acc s) hr key.1 fun _ t ht=>by rw [key.2.2.2];exact hp.1 t ht
    refine ⟨ih.1,?_⟩
    rw [List.foldl_cons,ih.2,key.2.1]
    have:dayS (s::r)=(s.hi - s.lo)+dayS r:=by simp [dayS]
    omega
end An.S

/- Layer 5: a timeline is known by the values of its days. Plain data, but for what the walks define. -/
namespace An.S
open Go
def hasD (d:Int) (s:Tst):Bool:=decide (s.lo≤d) && decide (d < s.hi)
theorem hasD_iff {d:Int} {s:Tst}:hasD d s=true↔s.lo≤d∧d < s.hi:=by simp [hasD]
/-- The value of a day. -/
def valT (l:List Tst) (d:Int):Option Va:=(l.find? (hasD d)).map (·.v)
theorem xf3 {s:Tst} {r:List Tst} {d:Int}:valT (s::r) d=if s.lo≤d∧d < s.hi then some s.v else valT r d:=by
  by_cases h:s.lo≤d∧d < s.hi
  · rw [if_pos h,valT,List.find?_cons_of_pos (hasD_iff.2 h)];rfl
  · rw [if_neg h,valT,List.find?_cons_of_neg (fun h'=>h (hasD_iff.1 h'))];rfl
theorem valT_none {l:List Tst} {d:Int}:valT l d=none↔ ∀s∈l,¬(s.lo≤d∧d < s.hi):=by
  rw [valT,Option.map_eq_none_iff,List.find?_eq_none]
  simp only [hasD_iff]
theorem valT_append {a b:List Tst} {d:Int}:valT (a++b) d=(valT a d).or (valT b d):=by
  rw [valT,List.find?_append,valT,valT]
  cases a.find? (hasD d) <;> rfl
theorem valT_some {l:List Tst} {d:Int} {v:Va} (h:valT l d=some v): ∃s∈l,(s.lo≤d∧d < s.hi)∧s.v=v:=by
  obtain ⟨s,h1,h2⟩:=Option.map_eq_some_iff.1 h
  exact ⟨s,List.mem_of_find?_eq_some h1,hasD_iff.1 (List.find?_some h1),h2⟩
def ascT (l:List Tst):Prop:=(∀s∈l,s.lo < s.hi)∧l.Pairwise fun s t=>s.hi≤t.lo
/-- Neighbours differ. -/
def nbT:List Tst→Prop
  | []=>True
  | [_]=>True
  | s::t::r=> ¬(s.hi=t.lo∧s.v=t.v)∧nbT (t::r)
theorem tl_ext: ∀{a b:List Tst},ascT a→nbT a→ascT b→nbT b→(∀d,valT a d=valT b d)→a=b
  | [],[],_,_,_,_,_=>rfl
  | [],t::u,_,_,hb,_,h=>by
    have h1:=hb.1 t (List.mem_cons_self ..)
    have h2:=h t.lo
    rw [xf3,if_pos ⟨Int.le_refl _,h1⟩] at h2;cases h2
  | s::r,[],ha,_,_,_,h=>by
    have h1:=ha.1 s (List.mem_cons_self ..)
    have h2:=h s.lo
    rw [xf3,if_pos ⟨Int.le_refl _,h1⟩] at h2;cases h2
  | s::r,t::u,ha,na,hb,nb,h=>by
    have hs:=ha.1 s (List.mem_cons_self ..)
    have ht:=hb.1 t (List.mem_cons_self ..)
    have pa:=List.pairwise_cons.1 ha.2
    have pb:=List.pairwise_cons.1 hb.2
    have a0:valT (s::r) s.lo=some s.v:=by rw [xf3,if_pos ⟨Int.le_refl _,hs⟩]
    have b0:valT (t::u) t.lo=some t.v:=by rw [xf3,if_pos ⟨Int.le_refl _,ht⟩]
    have l1:t.lo≤s.lo:=by
      obtain ⟨x,hx,hx2,_⟩:=valT_some ((h s.lo).symm.trans a0)
      rcases List.mem_cons.1 hx with rfl | hx
      · exact hx2.1
      · have:=pb.1 x hx;omega
    have l2:s.lo≤t.lo:=by
      obtain ⟨x,hx,hx2,_⟩:=valT_some ((h t.lo).trans b0)
      rcases List.mem_cons.1 hx with rfl | hx
      · exact hx2.1
      · have:=pa.1 x hx;omega
    have elo:s.lo=t.lo:=by omega
    have ev:s.v=t.v:=by
      have:=(h s.lo).symm.trans a0
      rw [elo,b0] at this;exact (Option.some.inj this).symm
    have key: ∀{s t:Tst} {r u:List Tst},ascT (s::r)→nbT (s::r)→s.lo=t.lo→s.v=t.v→(∀d,valT (s::r) d=valT (t::u) d)→ ¬s.hi < t.hi:=by
      intro s t r u ha na elo ev h h1
      have hs:=ha.1 s (List.mem_cons_self ..)
      have pa:=List.pairwise_cons.1 ha.2
      have h2:=h s.hi
      rw [xf3,if_neg (by omega),xf3,if_pos (by omega)] at h2
      obtain ⟨x,hx,hx2,hx3⟩:=valT_some h2
      cases r with
      | nil=>cases hx
      | cons y q=>
        have hy:=pa.1 y (List.mem_cons_self ..)
        have py:=List.pairwise_cons.1 pa.2
        have e:x=y:=by
          rcases List.mem_cons.1 hx with rfl | hx
          · rfl
          · have:=py.1 x hx;have:=ha.1 y (List.mem_cons_of_mem _ (List.mem_cons_self ..));omega
        subst e
        exact na.1 ⟨by omega,by rw [hx3,ev]⟩
    have ehi:s.hi=t.hi:=by
      have:=key ha na elo ev h
      have:=key hb nb elo.symm ev.symm (fun d=>(h d).symm)
      omega
    have est:s=t:=by
      obtain ⟨a1,a2,a3⟩:=s;obtain ⟨b1,b2,b3⟩:=t
      simp only at elo ev ehi
      rw [elo,ev,ehi]
    subst est
    congr 1
    refine tl_ext ⟨fun x hx=>ha.1 x (List.mem_cons_of_mem _ hx),pa.2⟩ ?_ ⟨fun x hx=>hb.1 x (List.mem_cons_of_mem _ hx),pb.2⟩ ?_ fun d=> ?_
    · cases r with
      | nil=>trivial
      | cons y q=>exact na.2
    · cases u with
      | nil=>trivial
      | cons y q=>exact nb.2
    · rcases Int.lt_or_le d s.hi with h1 | h1
      · have e1:valT r d=none:=valT_none.2 fun x hx h'=>by have:=pa.1 x hx;omega
        have e2:valT u d=none:=valT_none.2 fun x hx h'=>by have:=pb.1 x hx;omega
        rw [e1,e2]
      · have h2:=h d
        rwa [xf3,if_neg (by omega),xf3,if_neg (by omega)] at h2
/-! Pieces, put together. -/
theorem nb_snoc {s:Tst}: ∀{l:List Tst} {x:Tst},nbT (l++[x])→ ¬(x.hi=s.lo∧x.v=s.v)→nbT (l++[x]++[s])
  | [],_,_,h=>⟨h,trivial⟩
  | [_],_,h1,h=>⟨h1.1,h,trivial⟩
  | _::z::r,_,h1,h=>⟨h1.1,nb_snoc (l:=z::r) h1.2 h⟩
theorem nb_set {x':Tst}: ∀{l:List Tst} {x:Tst},nbT (l++[x])→x'.lo=x.lo→x'.v=x.v→nbT (l++[x'])
  | [],_,_,_,_=>trivial
  | [_],_,h1,e1,e2=>⟨by rw [e1,e2];exact h1.1,trivial⟩
  | _::z::r,_,h1,e1,e2=>⟨h1.1,nb_set (l:=z::r) h1.2 e1 e2⟩
theorem asc_snoc {l:List Tst} {s:Tst} (h:ascT l) (hs:s.lo < s.hi) (hl: ∀x∈l,x.hi≤s.lo):ascT (l++[s]):=by
  refine ⟨fun x hx=> ?_,List.pairwise_append.2 ⟨h.2,List.pairwise_singleton ..,fun x hx y hy=>by rw [List.mem_singleton.1 hy];exact hl x hx⟩⟩
  rcases List.mem_append.1 hx with hx | hx
  · exact h.1 x hx
  · rw [List.mem_singleton.1 hx];exact hs
theorem split_lastT {l:List Tst} (h:0 < l.length):l=l.take (l.length - 1)++[l.getD (l.length - 1) tst0]:=by
  have e:l.take (l.length - 1+1)=l.take (l.length - 1)++[l[l.length - 1]]:=List.take_succ_eq_append_getElem (by omega)
  rw [show l.length - 1+1=l.length by omega,List.take_length] at e
  rw [List.getD_eq_getElem?_getD,List.getElem?_eq_getElem (by omega)];exact e
theorem set_lastT {l:List Tst} {x:Tst} (h:0 < l.length):l.set (l.length - 1) x=l.take (l.length - 1)++[x]:=by
  have e:=List.set_eq_take_append_cons_drop (l:=l) (i:=l.length - 1) (a:=x)
  rw [if_pos (by omega),show l.length - 1+1=l.length by omega,List.drop_length] at e
  exact e
/-- One more piece. -/
theorem pst1_val {acc:List Tst} {s:Tst} (h:ascT acc) (hn:nbT acc) (hs:s.lo < s.hi) (hl: ∀x∈acc,x.hi≤s.lo):ascT (pst1 acc s)∧nbT (pst1 acc s)∧(∀x∈pst1 acc s,x.hi≤s.hi)∧ ∀d,valT (pst1 acc s) d=(valT acc d).or (if s.lo≤d∧d < s.hi then some s.v else none):=by
  have e1: ∀d,valT [s] d=if s.lo≤d∧d < s.hi then some s.v else none:=fun d=>by rw [xf3];rfl
  rw [pst1,if_neg (by omega)]
  split
  · rename_i hm
    have ea:=split_lastT hm.1
    rw [set_lastT hm.1]
    generalize acc.getD (acc.length - 1) tst0=x at*
    generalize acc.take (acc.length - 1)=q at*
    subst ea
    have hp:=List.pairwise_append.1 h.2
    have hx:=h.1 x (List.mem_append_right _ (List.mem_singleton.2 rfl))
    have hq:ascT q:=⟨fun y hy=>h.1 y (List.mem_append_left _ hy),hp.1⟩
    have hqx: ∀y∈q,y.hi≤x.lo:=fun y hy=>hp.2.2 y hy x (List.mem_singleton.2 rfl)
    refine ⟨asc_snoc hq (by dsimp only;omega) hqx,nb_set hn rfl rfl,fun y hy=> ?_,fun d=> ?_⟩
    · rcases List.mem_append.1 hy with hy | hy
      · have:=hqx y hy;omega
      · rw [List.mem_singleton.1 hy];exact Int.le_refl _
    · rw [valT_append,valT_append,xf3,xf3]
      cases hv:valT q d with
      | some v=>rfl
      | none=>
        simp only [Option.none_or]
        have h1:=hm.2.1
        by_cases c1:x.lo≤d∧d < x.hi
        · rw [if_pos (by omega),if_pos c1];rfl
        · by_cases c2:s.lo≤d∧d < s.hi
          · rw [if_pos (by omega),if_neg c1,if_pos c2,hm.2.2];rfl
          · rw [if_neg (by omega),if_neg c1,if_neg c2];rfl
  · rename_i hm
    refine ⟨asc_snoc h hs hl,?_,fun y hy=> ?_,fun d=>by rw [valT_append,e1]⟩
    · rcases Nat.eq_zero_or_pos acc.length with h0 | h0
      · rw [List.eq_nil_of_length_eq_zero h0];trivial
      · have ea:=split_lastT h0
        have h2: ¬((acc.getD (acc.length - 1) tst0).hi=s.lo∧(acc.getD (acc.length - 1) tst0).v=s.v):=fun h'=>hm ⟨h0,h'.1,h'.2⟩
        rw [ea] at hn ⊢
        exact nb_snoc hn h2
    · rcases List.mem_append.1 hy with hy | hy
      · have:=hl y hy;omega
      · rw [List.mem_singleton.1 hy];exact Int.le_refl _
/-- Pieces in order: what is put together has their values. -/
theorem pst_val: ∀(ps acc:List Tst),ascT acc→nbT acc→(ps.Pairwise fun s t=>s.lo < s.hi→s.hi≤t.lo)→(∀x∈acc,∀s∈ps,s.lo < s.hi→x.hi≤s.lo)→ascT (pst acc ps)∧nbT (pst acc ps)∧ ∀d,valT (pst acc ps) d=(valT acc d).or (valT ps d)
  | [],acc,h,hn,_,_=>⟨h,hn,fun d=>by show valT acc d=_;cases valT acc d <;> rfl⟩
  | s::r,acc,h,hn,hp,hl=>by
    have hp1:=List.pairwise_cons.1 hp
    have e:pst acc (s::r)=pst (pst1 acc s) r:=rfl
    rw [e]
    by_cases hs:s.lo < s.hi
    · obtain ⟨k1,k2,k3,k4⟩:=pst1_val h hn hs fun x hx=>hl x hx s (List.mem_cons_self ..) hs
      have ih:=pst_val r (pst1 acc s) k1 k2 hp1.2 fun x hx t ht htl=>by
        have:=k3 x hx
        have:=hp1.1 t ht hs;omega
      refine ⟨ih.1,ih.2.1,fun d=> ?_⟩
      rw [ih.2.2,k4,xf3,Option.or_assoc]
      congr 1
      split <;> rfl
    · have e1:pst1 acc s=acc:=by rw [pst1,if_pos (by omega)]
      rw [e1]
      have ih:=pst_val r acc h hn hp1.2 fun x hx t ht=>hl x hx t (List.mem_cons_of_mem _ ht)
      refine ⟨ih.1,ih.2.1,fun d=> ?_⟩
      rw [ih.2.2,xf3,if_neg (by omega)]
end An.S

/- Layer 5: segments between days; parts and joins by the values of their days. Plain data, but for what the walks define. -/
namespace An.S
open Go
/-- Pieces between neighbouring days. -/
def segL (g:Int→Option Va):List Int→List Tst
  | x::y::r=>(match g x with | some v=>[⟨x,y,v⟩] | none=>[])++segL g (y::r)
  | _=>[]
/-- Between neighbouring days nothing changes. -/
def cOn (g:Int→Option Va):List Int→Prop
  | x::y::r=>(∀d,x≤d→d < y→g d=g x)∧cOn g (y::r)
  | _=>True
theorem segL_lo {g:Int→Option Va}: ∀{ds:List Int} {x:Int} {s:Tst},(x::ds).Pairwise (· < ·)→s∈segL g (x::ds)→x≤s.lo
  | [],x,s,_,h=>by cases h
  | y::r,x,s,hp,h=>by
    have hp1:=List.pairwise_cons.1 hp
    rw [segL] at h
    rcases List.mem_append.1 h with h | h
    · cases hg:g x with
      | none=>rw [hg] at h;cases h
      | some v=>rw [hg] at h;rw [List.mem_singleton.1 h];exact Int.le_refl _
    · have:=segL_lo hp1.2 h
      have:=hp1.1 y (List.mem_cons_self ..);omega
theorem segL_pw {g:Int→Option Va}: ∀{ds:List Int},ds.Pairwise (· < ·)→(∀s∈segL g ds,s.lo < s.hi)∧(segL g ds).Pairwise fun s t=>s.hi≤t.lo
  | [],_=>⟨fun s h=>(by cases h),.nil⟩
  | [x],_=>⟨fun s h=>(by cases h),.nil⟩
  | x::y::r,hp=>by
    have hp1:=List.pairwise_cons.1 hp
    have hxy:=hp1.1 y (List.mem_cons_self ..)
    have ih:=segL_pw (g:=g) hp1.2
    rw [segL]
    cases hg:g x with
    | none=>exact ih
    | some v=>
      refine ⟨fun s h=> ?_,List.pairwise_cons.2 ⟨fun t ht=>segL_lo hp1.2 ht,ih.2⟩⟩
      rcases List.mem_cons.1 h with rfl | h
      · exact hxy
      · exact ih.1 s h
/-- All ends of steps are among these days. -/
def ends (ds:List Int) (l:List Tst):Prop:= ∀s∈l,s.lo∈ds∧s.hi∈ds
/-- The join of two timelines. -/
def jnG (a b:List Tst) (d:Int):Option Va:=(valT b d).or (valT a d)
/-- A part of a timeline. -/
theorem cut_val {l:List Tst} {a b:Int} (h:ascT l):ascT (cutT l a b)∧nbT (cutT l a b)∧ ∀d,valT (cutT l a b) d=if a≤d∧d < b then valT l d else none:=by
  have hp:(l.map (clip a b)).Pairwise fun s t=>s.lo < s.hi→s.hi≤t.lo:=h.2.map (clip a b) fun s t hst _=>by simp only [clip];omega
  have:=pst_val (l.map (clip a b)) [] ⟨fun s hs=>(by cases hs),.nil⟩ trivial hp fun x hx=>by cases hx
  refine ⟨this.1,this.2.1,fun d=> ?_⟩
  rw [cutT,this.2.2]
  show valT (l.map (clip a b)) d=_
  clear this hp h
  induction l with
  | nil=>simp [valT]
  | cons s r ih=>
    rw [List.map_cons,xf3,xf3,ih]
    show (if max s.lo a≤d∧d < min s.hi b then some s.v else if a≤d∧d < b then valT r d else none)=if a≤d∧d < b then (if s.lo≤d∧d < s.hi then some s.v else valT r d) else none
    by_cases c1:a≤d∧d < b
    · rw [if_pos c1,if_pos c1]
      by_cases c2:s.lo≤d∧d < s.hi
      · rw [if_pos c2,if_pos ⟨by omega,by omega⟩]
      · rw [if_neg c2,if_neg (fun h=>c2 ⟨by omega,by omega⟩)]
    · rw [if_neg c1,if_neg c1,if_neg (fun h=>c1 ⟨by omega,by omega⟩)]
/-- What lies outside of a span. -/
def woP (a b:Int) (s:Tst):List Tst:=[⟨s.lo,min s.hi a,s.v⟩,⟨max s.lo b,s.hi,s.v⟩]
def woT (l:List Tst) (a b:Int):List Tst:=pst [] (l.flatMap (woP a b))
end An.S

/- Layer 5: being a timeline, by neighbours. Plain data, but for what the walks define. -/
namespace An.S
open Go
theorem nb_of: ∀{l:List Tst},(∀i,i+1 < l.length→ ¬((l.getD i tst0).hi=(l.getD (i+1) tst0).lo∧(l.getD i tst0).v=(l.getD (i+1) tst0).v))→nbT l
  | [],_=>trivial
  | [_],_=>trivial
  | s::t::r,h=>⟨h 0 (by simp),nb_of (l:=t::r) fun i hi=>h (i+1) (by simpa using hi)⟩
theorem nb_at: ∀{l:List Tst} {i:Nat},nbT l→i+1 < l.length→ ¬((l.getD i tst0).hi=(l.getD (i+1) tst0).lo∧(l.getD i tst0).v=(l.getD (i+1) tst0).v)
  | [],_,_,hi=>by simp at hi
  | [_],_,_,hi=>by simp at hi
  | s::t::r,0,h,_=>h.1
  | s::t::r,i+1,h,hi=>nb_at (l:=t::r) h.2 (by simpa using hi)
theorem tRight_asc {l:List Tst} (h:tRight l=true):ascT l:=⟨fun s hs=>by
  obtain ⟨i,hi,rfl⟩:=xh5 hs
  exact (xh9 h hi).2.1,tRight_pair h⟩
theorem tRight_nb {l:List Tst} (h:tRight l=true):nbT l:=nb_of fun i hi=>by
  have:=(xh9 h hi).2.2.2.resolve_left (by omega)
  exact this.2.2
theorem asc_lt {l:List Tst} (h:ascT l) {i j:Nat} (hij:i < j) (hj:j < l.length):(l.getD i tst0).hi≤(l.getD j tst0).lo:=by
  have:=List.pairwise_iff_getElem.1 h.2 i j (by omega) hj hij
  rwa [List.getD_eq_getElem?_getD,List.getD_eq_getElem?_getD,List.getElem?_eq_getElem (show i < l.length by omega),List.getElem?_eq_getElem hj]
/-- Steps in order, of one kind, are a timeline. -/
theorem right_of {l:List Tst} {K:Nat} (h:ascT l) (hn:nbT l) (hv: ∀s∈l,0≤s.lo∧s.hi≤65536∧s.v.valid=true∧s.v.kind=K):tRight l=true:=by
  refine tRight_iff.2 ⟨fun i hi=>tOk_iff.2 ?_,fun s hs=>(hv s hs).2.2.1⟩
  have h1:=hv _ (xc2 (l:=l) hi)
  refine ⟨h1.1,h.1 _ (xc2 hi),h1.2.1,?_⟩
  by_cases h0:i=0
  · exact .inl h0
  · have h2:=hv _ (xc2 (l:=l) (i:=i - 1) (by omega))
    have h3:=nb_at hn (i:=i - 1) (by omega)
    rw [show i - 1+1=i by omega] at h3
    exact .inr ⟨asc_lt h (by omega) hi,by rw [h2.2.2.2,h1.2.2.2],h3⟩
/-- Two timelines with the same values are the same. -/
theorem tl_same {a b:List Tst} (ha:tRight a=true) (hb:tRight b=true) (h: ∀d,valT a d=valT b d):a=b:=tl_ext (tRight_asc ha) (tRight_nb ha) (tRight_asc hb) (tRight_nb hb) h
end An.S

/- Pointers that may be nil. For any program. -/
namespace An
open Go
/-- A pointer to this, or nil. -/
def tO {α:Type} (n:Nat) (agg:Bool) (f:α→Ty):Option α→Ty
  | none=>tE (.pointer none)
  | some x=>tP n agg (f x)
instance {α:Type} {n:Nat} {agg:Bool} {f:α→Ty} {o:Option α}:Shape (tO n agg f o) 1 false:=⟨fun h=>by
  cases o with
  | none=>have h:_=_:=h;rw [h];exact xf5 rfl
  | some x=>obtain ⟨_,_,_,h,_⟩:=h;rw [h];exact xf5 rfl⟩
section
variable {P:Program} {c:Base} {d ty:Nat} {pos:String} {af:Array Edge} {gd:Option (Nat×Bool)} {α:Type} {n:Nat} {agg:Bool} {f:α→Ty}
end
end An

/- slices.Sort and slices.Compact at ints, as contracts that are lent the row. For any program. -/
namespace An
open Go Go.Proofs Go.Shelf Go.Sort
def srtI (xs:List Int):List Int:=xs.mergeSort fun x y=>decide (x≤y)
/-- Sorted, without duplicates. -/
def brd (xs:List Int):List Int:=Lib.compact (srtI xs)
theorem brd_aux {d:Array Int} (hd: ∀i j,i < j→j < d.size→d[i]! ≤d[j]!): ∀m,m≤d.size→(Lib.compactUpTo d m).Pairwise (· < ·)∧ ∀x,x∈Lib.compactUpTo d m↔ ∃i,i < m∧d[i]! =x
  | 0,_=>⟨List.Pairwise.nil,fun x=>⟨fun h=>(List.not_mem_nil h).elim,fun ⟨i,hi,_⟩=>absurd hi (Nat.not_lt_zero _)⟩⟩
  | m+1,hm=>by
    obtain ⟨h1,h2⟩:=brd_aux hd m (by omega)
    rw [Lib.compactUpTo_succ]
    by_cases hk:Lib.keeps d m=true
    · rw [if_pos hk]
      have hk':m=0∨d[m]! ≠d[m - 1]! :=of_decide_eq_true hk
      refine ⟨List.pairwise_append.2 ⟨h1,List.pairwise_singleton _ _,fun x hx y hy=> ?_⟩,fun x=> ?_⟩
      · rw [List.mem_singleton.1 hy]
        obtain ⟨i,hi,rfl⟩:=(h2 x).1 hx
        have hm0:m≠0:=by omega
        have h3:=hk'.resolve_left hm0
        have h4:=hd (m - 1) m (by omega) (by omega)
        have h5:d[i]! ≤d[m - 1]! :=by
          rcases Nat.lt_or_ge i (m - 1) with h | h
          · exact hd i (m - 1) h (by omega)
          · rw [show i=m - 1 by omega];exact Int.le_refl _
        omega
      · rw [List.mem_append,List.mem_singleton,h2]
        constructor
        · rintro (⟨i,hi,e⟩ | rfl)
          · exact ⟨i,by omega,e⟩
          · exact ⟨m,by omega,rfl⟩
        · rintro ⟨i,hi,e⟩
          rcases Nat.lt_or_ge i m with h | h
          · exact .inl ⟨i,h,e⟩
          · exact .inr (by rw [←e,show i=m by omega])
    · rw [if_neg hk,List.append_nil]
      have hk': ¬(m=0∨d[m]! ≠d[m - 1]!):=fun h=>hk (decide_eq_true h)
      refine ⟨h1,fun x=> ?_⟩
      rw [h2]
      constructor
      · rintro ⟨i,hi,e⟩;exact ⟨i,by omega,e⟩
      · rintro ⟨i,hi,e⟩
        rcases Nat.lt_or_ge i m with h | h
        · exact ⟨i,h,e⟩
        · have hm0:m≠0:=fun h=>hk' (.inl h)
          have he:d[m]! =d[m - 1]! :=Decidable.byContradiction fun h=>hk' (.inr h)
          exact ⟨m - 1,by omega,by rw [←he,←e,show i=m by omega]⟩
theorem brd_spec (xs:List Int):(brd xs).Pairwise (· < ·)∧ ∀x,x∈brd xs↔x∈xs:=by
  have hs:(srtI xs).Pairwise fun x y=>decide (x≤y)=true:=List.pairwise_mergeSort (fun a b c h1 h2=>by simp at*;omega) (fun a b=>by simp;omega) xs
  have hp:(srtI xs).Perm xs:=List.mergeSort_perm ..
  have h:=brd_aux (d:=(srtI xs).toArray) (fun i j hij hj=>by
    have hj:j < (srtI xs).length:=by simpa using hj
    have:=List.pairwise_iff_getElem.1 hs i j (by omega) hj hij
    rw [getElem!_pos _ _ (by simp;omega),getElem!_pos _ _ (by simpa using hj)]
    simpa using this) (srtI xs).length (by simp)
  refine ⟨h.1,fun x=>(h.2 x).trans ⟨fun ⟨i,hi,e⟩=> ?_,fun hx=> ?_⟩⟩
  · rw [getElem!_pos _ _ (by simpa using hi)] at e
    rw [←hp.mem_iff,←e];simp
  · obtain ⟨i,hi,e⟩:=List.getElem_of_mem (hp.mem_iff.2 hx)
    exact ⟨i,hi,by rw [getElem!_pos _ _ (by simpa using hi)];simpa using e⟩
end An

/- Layer 5: two timelines, walked together. Plain data, but for what the walks define. -/
namespace An.S
open Go
def onL (l:List Tst) (d:Int):List Tst:=l.dropWhile fun s=>decide (s.hi≤d)
def onV (l:List Tst) (d:Int):Option Va:=if 0 < (onL l d).length∧((onL l d).getD 0 tst0).lo≤d then some ((onL l d).getD 0 tst0).v else none
theorem onL_len {l:List Tst} {d:Int}:(onL l d).length≤l.length:=(List.dropWhile_sublist _).length_le
theorem onL_asc {l:List Tst} {d:Int} (h:ascT l):ascT (onL l d):=⟨fun s hs=>h.1 s ((List.dropWhile_sublist _).subset hs),h.2.sublist (List.dropWhile_sublist _)⟩
theorem onL_val {d:Int}: ∀{l:List Tst},∀e,d≤e→valT (onL l d) e=valT l e
  | [],_,_=>rfl
  | s::r,e,h=>by
    by_cases h1:s.hi≤d
    · have:onL (s::r) d=onL r d:=by rw [onL,List.dropWhile_cons_of_pos (by simpa using h1)];rfl
      rw [this,onL_val e h,xf3,if_neg (by omega)]
    · have:onL (s::r) d=s::r:=by rw [onL,List.dropWhile_cons_of_neg (by simpa using h1)]
      rw [this]
theorem onV_val {l:List Tst} {d:Int} (h:ascT l):onV l d=valT l d:=by
  rw [←onL_val d (Int.le_refl _),onV]
  have hd:0 < (onL l d).length→d < ((onL l d).getD 0 tst0).hi:=fun h0=>by
    clear h
    induction l with
    | nil=>simp [onL] at h0
    | cons s r ih=>
      by_cases h1:s.hi≤d
      · have:onL (s::r) d=onL r d:=by rw [onL,List.dropWhile_cons_of_pos (by simpa using h1)];rfl
        rw [this] at h0 ⊢;exact ih h0
      · have:onL (s::r) d=s::r:=by rw [onL,List.dropWhile_cons_of_neg (by simpa using h1)]
        rw [this];show d < s.hi;omega
  have ha:=onL_asc (d:=d) h
  generalize onL l d=xs at*
  cases xs with
  | nil=>rfl
  | cons s r=>
    have h1:d < s.hi:=hd (by simp)
    rw [xf3]
    by_cases h2:s.lo≤d
    · rw [if_pos ⟨by simp,h2⟩,if_pos ⟨h2,h1⟩];rfl
    · rw [if_neg (fun h=>h2 h.2),if_neg (fun h=>h2 h.1)]
      symm
      refine valT_none.2 fun t ht h=> ?_
      have:=(List.pairwise_cons.1 ha.2).1 t ht
      omega
/-- The ends of the steps of two timelines. -/
def eds (l:List Tst):List Int:=l.flatMap fun s=>[s.lo,s.hi]
def bds (ls:List (List Tst)):List Int:=brd (ls.flatMap eds)
theorem eds_mem {l:List Tst} {x:Int}:x∈eds l↔ ∃s∈l,x=s.lo∨x=s.hi:=by
  simp [eds,List.mem_flatMap]
def tlen (ls:List (List Tst)):Nat:=(ls.map List.length).sum
theorem bds_pw {ls:List (List Tst)}:(bds ls).Pairwise (· < ·):=(brd_spec _).1
theorem bds_mem {ls:List (List Tst)} {x:Int}:x∈bds ls↔ ∃l∈ls,∃s∈l,x=s.lo∨x=s.hi:=by
  rw [bds,(brd_spec _).2,List.mem_flatMap]
  simp only [eds_mem]
/-- The piece of a round. -/
def segI (g:Int→Option Va) (ds:List Int) (i:Nat):List Tst:=match g (ds.getD i 0) with
  | some v=>[⟨ds.getD i 0,ds.getD (i+1) 0,v⟩]
  | none=>[]
def segN (g:Int→Option Va) (ds:List Int) (k:Nat):List Tst:=(List.range k).flatMap (segI g ds)
/-- The join, up to a round. -/
def jnK (a b:List Tst) (k:Nat):List Tst:=pst [] (segN (jnG a b) (bds [a,b]) k)
def jnT (a b:List Tst):List Tst:=pst [] (segL (jnG a b) (bds [a,b]))
/-- The days on which two timelines differ, up to a round. -/
def dfB (a b:List Tst) (d:Int):Bool:=decide (valT a d≠valT b d)
def dfI (a b:List Tst) (i:Nat):List Sn:=if dfB a b ((bds [a,b]).getD i 0) then [⟨(bds [a,b]).getD i 0,(bds [a,b]).getD (i+1) 0⟩] else []
def dfK (a b:List Tst) (k:Nat):List Sn:=(List.range k).flatMap (dfI a b)
def dfT (a b:List Tst):List Sn:=dfK a b ((bds [a,b]).length - 1)
/-- What holds when two timelines are walked together. -/
def ogI (a b:List Tst) (xa xb:List Tst) (d:Int):Prop:=(ascT xa∧xa.length≤a.length∧ ∀e,d≤e→valT xa e=valT a e)∧ascT xb∧xb.length≤b.length∧ ∀e,d≤e→valT xb e=valT b e
theorem ogI.next {a b xa xb:List Tst} {d e:Int} (h:ogI a b xa xb d) (hde:d≤e):onV xa e=valT a e∧onV xb e=valT b e∧ogI a b (onL xa e) (onL xb e) e:=by
  obtain ⟨⟨h1,h2,h3⟩,h4,h5,h6⟩:=h
  refine ⟨(onV_val h1).trans (h3 e hde),(onV_val h4).trans (h6 e hde),⟨onL_asc h1,Nat.le_trans onL_len h2,fun x hx=>(onL_val x hx).trans (h3 x (Int.le_trans hde hx))⟩,onL_asc h4,Nat.le_trans onL_len h5,fun x hx=>(onL_val x hx).trans (h6 x (Int.le_trans hde hx))⟩
theorem ogI.mono {a b xa xb:List Tst} {d e:Int} (h:ogI a b xa xb d) (hde:d≤e):ogI a b xa xb e:=⟨⟨h.1.1,h.1.2.1,fun x hx=>h.1.2.2 x (Int.le_trans hde hx)⟩,h.2.1,h.2.2.1,fun x hx=>h.2.2.2 x (Int.le_trans hde hx)⟩
theorem ogI.zero {a b:List Tst} (ha:ascT a) (hb:ascT b) (d:Int):ogI a b a b d:=⟨⟨ha,Nat.le_refl _,fun _ _=>rfl⟩,hb,Nat.le_refl _,fun _ _=>rfl⟩
end An.S

/- A region whose operations come in whatever order, but for the last ones, ahead of which all others come: a function that feeds a loop calls back in such a region. For any program. -/
namespace An
open Go
section
variable {P:Program} {c:Base}
end
/-- Ahead of the operations from the n-th on come all others. -/
def lastB (n:Nat) (ops:List Oper):Bool:=(List.range ops.length).all fun i=>Nat.blt i n || (List.range i).all fun j=>((masks ops #[]).getD i 0).testBit j
def chkY (ops:List Oper) (sms:List Sm) (n N:Nat):Bool:=goAll (masks ops #[]) [] sms && dOk N sms && nkOk sms [] && edgesOk 0 ops && lastB n ops && Nat.ble n ops.length
section
variable {P:Program} {c:Base} {Q:Exit→Act→World→Prop} {g:Slots} {h:Keys} {al:Names}
end
end An

/- Layer 5: two timelines, walked together. -/
namespace An.S
open Go Go.Proofs An
set_option maxHeartbeats 2000000
abbrev tPr (x y:Option Va):Ty:=tS [⟨1,false,tO 6 true tVa x⟩,⟨1,false,tO 6 true tVa y⟩]
def tgY (a b:List Tst) (k:Nat):List Ty:=[tSn ⟨(bds [a,b]).getD k 0,(bds [a,b]).getD (k+1) 0⟩,tPr (valT a ((bds [a,b]).getD k 0)) (valT b ((bds [a,b]).getD k 0))]
end An.S

/- Layer 5: sums over timelines whose values have one denominator. Plain data, but for what the walks define. -/
namespace An.S
open Go
theorem sum_nxT {f:Tst→Int} {l:List Tst} {i:Nat} (hi:i < l.length):((l.take (i+1)).map f).sum=((l.take i).map f).sum+f (l.getD i tst0):=by
  rw [List.take_succ_eq_append_getElem hi,List.map_append,List.sum_append,List.getD_eq_getElem?_getD,List.getElem?_eq_getElem hi];simp
def dyG (a b:Int) (s:Tst):Int:=min s.hi b - max s.lo a
/-- A value, as so many parts. -/
def wt (D:Int) (v:Va):Int:=(v.f.rat*(D:Rat)).num
theorem int_div (n:Int):(n:Rat)=Rat.divInt n 1:=by
  have:=Rat.num_divInt_den (n:Rat)
  rw [Rat.num_intCast,Rat.den_intCast] at this;exact this.symm
theorem wt_is {D k:Int} (hD:0 < D) {v:Va} (h:v.f.rat=Rat.divInt k D):wt D v=k:=by
  have e:Rat.divInt k D*(D:Rat)=(k:Rat):=by
    rw [int_div D,int_div k,Rat.divInt_mul_divInt]
    exact (Rat.divInt_eq_divInt_iff (by omega) (by decide)).2 (by rw [Int.mul_one,Int.mul_one])
  rw [wt,h,e,Rat.num_intCast]
theorem mulG (D:Int) (a n:Int):Rat.divInt a D*(n:Rat)=Rat.divInt (a*n) D:=by
  rw [int_div n,Rat.divInt_mul_divInt,Int.mul_one]
theorem addG {D:Int} (hD:0 < D) (a b:Int):Rat.divInt a D+Rat.divInt b D=Rat.divInt (a+b) D:=by
  rw [Rat.divInt_add_divInt a b (by omega) (by omega)]
  exact (Rat.divInt_eq_divInt_iff (Int.ne_of_gt (Int.mul_pos hD hD)) (by omega)).2 (by rw [←Int.add_mul,Int.mul_assoc])
theorem short_dv {n d:Int} (hd:0 < d) (h1: -9223372036854775808≤n) (h2:n≤9223372036854775807) (h3:d≤9223372036854775807):short (Rat.divInt n d):=by
  have l16: ∀{n:Int}, -9223372036854775808≤n→n≤9223372036854775807→len16 n≤256:=fun h1 h2=>Nat.le_trans (len16_64 h1 h2) (by decide)
  have e:=lowest_eq (n:=n) hd
  have e1:(wh (Rat.divInt n d).num).l.length=(wh (n / (Int.gcd n d:Int))).l.length:=congrArg (fun f:Fr=>f.n.l.length) e
  have e2:(wh ((Rat.divInt n d).den:Int)).l.length=(wh (d / (Int.gcd n d:Int))).l.length:=congrArg (fun f:Fr=>f.d.l.length) e
  refine ⟨?_,?_⟩
  · show (wh (Rat.divInt n d).num).l.length≤256
    rw [e1];exact len16_div (l16 h1 h2)
  · show (wh ((Rat.divInt n d).den:Int)).l.length≤256
    rw [e2];exact len16_div (l16 (by omega) h3)
/-- Weights and days. -/
def wsG (w:Va→Int) (xs:List Tst):Int:=(xs.map fun s=>w s.v*(s.hi - s.lo)).sum
theorem wsG_snoc {w:Va→Int} {xs:List Tst} {s:Tst}:wsG w (xs++[s])=wsG w xs+w s.v*(s.hi - s.lo):=by simp [wsG]
theorem splitG {l:List Tst} (h:0 < l.length):l=l.take (l.length - 1)++[l.getD (l.length - 1) tst0]:=by
  have e:l.take (l.length - 1+1)=l.take (l.length - 1)++[l[l.length - 1]]:=List.take_succ_eq_append_getElem (by omega)
  rw [show l.length - 1+1=l.length by omega,List.take_length] at e
  rw [List.getD_eq_getElem?_getD,List.getElem?_eq_getElem (by omega)];exact e
theorem setG {l:List Tst} {x:Tst} (h:0 < l.length):l.set (l.length - 1) x=l.take (l.length - 1)++[x]:=by
  have e:=List.set_eq_take_append_cons_drop (l:=l) (i:=l.length - 1) (a:=x)
  rw [if_pos (by omega),show l.length - 1+1=l.length by omega,List.drop_length] at e
  exact e
theorem wsG_pst1 {w:Va→Int} {acc:List Tst} {s:Tst}:wsG w (pst1 acc s)=wsG w acc+if s.hi≤s.lo then 0 else w s.v*(s.hi - s.lo):=by
  rw [pst1]
  split
  · omega
  · split
    · rename_i hm
      have h1:wsG w acc=wsG w (acc.take (acc.length - 1))+w (acc.getD (acc.length - 1) tst0).v*((acc.getD (acc.length - 1) tst0).hi - (acc.getD (acc.length - 1) tst0).lo):=by rw [←wsG_snoc,←splitG hm.1]
      rw [setG hm.1,wsG_snoc,h1,←hm.2.2,hm.2.1]
      simp only [Int.mul_sub];omega
    · rw [wsG_snoc]
theorem wsG_pst {w:Va→Int}: ∀(ps acc:List Tst),wsG w (pst acc ps)=wsG w acc+(ps.map fun s=>if s.hi≤s.lo then 0 else w s.v*(s.hi - s.lo)).sum
  | [],acc=>by simp [pst]
  | s::r,acc=>by
    have ih:=wsG_pst (w:=w) r (pst1 acc s)
    rw [wsG_pst1] at ih
    simp only [pst,List.foldl_cons,List.map_cons,List.sum_cons] at*
    omega
def gS1 (w:Va→Int) (a b:Int) (s:Tst):Int:=if dyG a b s≤0 then 0 else w s.v*dyG a b s
/-- The sum of the days from a to b. -/
def gS (w:Va→Int) (l:List Tst) (a b:Int):Int:=(l.map (gS1 w a b)).sum
theorem wsG_cut {w:Va→Int} {l:List Tst} {a b:Int}:wsG w (cutT l a b)=gS w l a b:=by
  rw [cutT,wsG_pst]
  simp only [wsG,List.map_nil,List.sum_nil,Int.zero_add,List.map_map,gS]
  congr 1
  refine List.map_congr_left fun s _=> ?_
  have e1:(clip a b s).hi=min s.hi b:=rfl
  have e2:(clip a b s).lo=max s.lo a:=rfl
  show (if (clip a b s).hi≤(clip a b s).lo then (0:Int) else w s.v*((clip a b s).hi - (clip a b s).lo))=gS1 w a b s
  by_cases h:(clip a b s).hi≤(clip a b s).lo
  · rw [if_pos h,gS1,if_pos (by simp only [dyG];omega)]
  · rw [if_neg h,gS1,if_neg (by simp only [dyG];omega)];rfl
/-- The days of a list of steps. -/
def dsG (xs:List Tst):Int:=(xs.map fun s=>s.hi - s.lo).sum
theorem dsG_le: ∀{xs:List Tst} {c e:Int},ascT xs→(∀s∈xs,c≤s.lo∧s.hi≤e)→c≤e→0≤dsG xs∧dsG xs≤e - c
  | [],c,e,_,_,h=>by simp [dsG];omega
  | s::r,c,e,ha,hb,h=>by
    have hs:=ha.1 s (List.mem_cons_self ..)
    have hsb:=hb s (List.mem_cons_self ..)
    have hp:=List.pairwise_cons.1 ha.2
    have ih:=dsG_le (xs:=r) (c:=s.hi) (e:=e) ⟨fun x hx=>ha.1 x (List.mem_cons_of_mem _ hx),hp.2⟩ (fun x hx=>⟨hp.1 x hx,(hb x (List.mem_cons_of_mem _ hx)).2⟩) hsb.2
    have e1:dsG (s::r)=(s.hi - s.lo)+dsG r:=rfl
    omega
theorem wsG_bd {w:Va→Int} {B:Int}: ∀{xs:List Tst},(∀s∈xs,s.lo < s.hi∧ -B≤w s.v∧w s.v≤B)→ -(B*dsG xs)≤wsG w xs∧wsG w xs≤B*dsG xs
  | [],_=>by simp [dsG,wsG]
  | s::r,h=>by
    obtain ⟨h1,h2,h3⟩:=h s (List.mem_cons_self ..)
    have ih:=wsG_bd (w:=w) (B:=B) (xs:=r) fun x hx=>h x (List.mem_cons_of_mem _ hx)
    have e1:dsG (s::r)=(s.hi - s.lo)+dsG r:=rfl
    have e2:wsG w (s::r)=w s.v*(s.hi - s.lo)+wsG w r:=rfl
    rw [e1,e2,Int.mul_add]
    have m1:=Int.mul_le_mul_of_nonneg_right h2 (show 0≤s.hi - s.lo by omega)
    have m2:=Int.mul_le_mul_of_nonneg_right h3 (show 0≤s.hi - s.lo by omega)
    rw [Int.neg_mul] at m1
    omega
/-- Steps whose values have the denominator D, and no more than B parts. -/
def wtOk (D B:Int) (l:List Tst):Prop:= ∀s∈l,s.v.f.rat=Rat.divInt (wt D s.v) D∧ -B≤wt D s.v∧wt D s.v≤B
theorem sum_G {D B:Int} {l:List Tst} (hD:0 < D) (hDb:D≤9223372036854775807) (hB0:0≤B) (hB:B≤140737488355327) (ha:ascT l) (hb: ∀s∈l,0≤s.lo∧s.hi≤65536) (hw:wtOk D B l): ∀i,i≤l.length→sumT (l.take i)=some (Rat.divInt (wsG (wt D) (l.take i)) D)
  | 0,_=>by
    rw [List.take_zero]
    show some ((0:Int):Rat)=some (Rat.divInt 0 D)
    rw [Rat.zero_divInt];rfl
  | i+1,hi=>by
    have ih:=sum_G hD hDb hB0 hB ha hb hw i (by omega)
    have hm:=xc2 (l:=l) (i:=i) (by omega)
    have h1:=ha.1 _ hm
    have h2:=hb _ hm
    obtain ⟨w1,w2,w3⟩:=hw _ hm
    have sub: ∀s∈l.take (i+1),s∈l:=fun s hs=>List.mem_of_mem_take hs
    have hd:=dsG_le (xs:=l.take (i+1)) (c:=0) (e:=65536) ⟨fun s hs=>ha.1 s (sub s hs),ha.2.sublist (List.take_sublist ..)⟩ (fun s hs=>hb s (sub s hs)) (by decide)
    have hbd:=wsG_bd (w:=wt D) (B:=B) (xs:=l.take (i+1)) fun s hs=>⟨ha.1 s (sub s hs),(hw s (sub s hs)).2⟩
    have e:wsG (wt D) (l.take (i+1))=wsG (wt D) (l.take i)+wt D (l.getD i tst0).v*((l.getD i tst0).hi - (l.getD i tst0).lo):=sum_nxT (by omega)
    have big:B*dsG (l.take (i+1))≤9223372036854775807:=by
      have h3:=Int.mul_le_mul hB hd.2 hd.1 (by decide)
      omega
    have m1:=Int.mul_le_mul_of_nonneg_right w2 (show 0≤(l.getD i tst0).hi - (l.getD i tst0).lo by omega)
    have m2:=Int.mul_le_mul_of_nonneg_right w3 (show 0≤(l.getD i tst0).hi - (l.getD i tst0).lo by omega)
    have m3:=Int.mul_le_mul hB (show (l.getD i tst0).hi - (l.getD i tst0).lo≤65536 by omega) (by omega) (by decide)
    rw [Int.neg_mul] at m1
    rw [sum_next (by omega),ih,sumStep,w1,mulG,addG hD,←e,if_pos ⟨short_dv hD (by omega) (by omega) hDb,short_dv hD (by omega) (by omega) hDb⟩]
theorem cut_pieces {l:List Tst} {a b:Int} {P:Va→Prop} (h: ∀s∈l,(0≤s.lo∧s.hi≤65536)∧P s.v): ∀s∈cutT l a b,(0≤s.lo∧s.hi≤65536)∧P s.v:=by
  refine pst_all (P:=fun s=>(0≤s.lo∧s.hi≤65536)∧P s.v) (fun x s hx hs e=>⟨⟨hx.1.1,hs.1.2⟩,hx.2⟩) _ _ (fun s hs=>by cases hs) fun s hs hlt=> ?_
  obtain ⟨x,hx,rfl⟩:=List.mem_map.1 hs
  have h1:=h x hx
  refine ⟨?_,h1.2⟩
  simp only [clip] at*
  omega
/-- The sum of the days from a to b, as a fraction. -/
theorem sum_cut {D B:Int} {l:List Tst} {a b:Int} (hD:0 < D) (hDb:D≤9223372036854775807) (hB0:0≤B) (hB:B≤140737488355327) (hr:ascT l) (hb: ∀s∈l,0≤s.lo∧s.hi≤65536) (hw:wtOk D B l):sumT (cutT l a b)=some (Rat.divInt (gS (wt D) l a b) D):=by
  have hp:=cut_pieces (a:=a) (b:=b) (P:=fun v=>v.f.rat=Rat.divInt (wt D v) D∧ -B≤wt D v∧wt D v≤B) fun s hs=>⟨hb s hs,hw s hs⟩
  have:=sum_G (l:=cutT l a b) hD hDb hB0 hB (cut_val hr).1 (fun s hs=>(hp s hs).1) (fun s hs=>(hp s hs).2) _ (Nat.le_refl _)
  rwa [List.take_length,wsG_cut] at this
end An.S

/- Layer 5: timelines whose values have one kind and one denominator. Plain data, but for what the walks define. -/
namespace An.S
open Go
theorem dig_frG (q:Rat):(fr q).dig:=⟨xc3 x7 _,xc3 x7 _⟩
/-- A value of the kind K, of at most B parts. -/
def gOk (K:Nat) (D B:Int) (v:Va):Prop:=(v.valid=true∧v.kind=K∧v.i=0∧v.f=fr v.f.rat∧short v.f.rat)∧v.f.rat=Rat.divInt (wt D v) D∧ -B≤wt D v∧wt D v≤B
theorem gOk.dig {K:Nat} {D B:Int} {v:Va} (h:gOk K D B v):v.f.dig:=by rw [h.1.2.2.2.1];exact dig_frG _
theorem gOk.mk {K:Nat} {D B k:Int} (hK:K=2∨K=3) (hD:0 < D) (hDb:D≤9223372036854775807) (h1: -B≤k) (h2:k≤B) (hB:B≤9223372036854775807):gOk K D B ⟨K,fr (Rat.divInt k D),0⟩:=by
  have hs:short (Rat.divInt k D):=short_dv hD (by omega) (by omega) hDb
  have hw:wt D ⟨K,fr (Rat.divInt k D),0⟩=k:=wt_is hD (rat_fr _)
  refine ⟨⟨?_,rfl,rfl,by rw [rat_fr],by rw [rat_fr];exact hs⟩,?_,?_,?_⟩
  · rw [Va.valid,if_pos hK]
    simp only [Bool.and_eq_true,decide_eq_true_eq]
    exact ⟨trivial,valid_fr hs⟩
  · rw [hw];exact rat_fr _
  · rw [hw];exact h1
  · rw [hw];exact h2
theorem gOk.mono {K:Nat} {D B B':Int} {v:Va} (h:gOk K D B v) (hB:B≤B'):gOk K D B' v:=⟨h.1,h.2.1,by have:=h.2.2.1;omega,by have:=h.2.2.2;omega⟩
def isG (K:Nat) (D B:Int) (l:List Tst):Prop:=tRight l=true∧ ∀s∈l,gOk K D B s.v
section
variable {K:Nat} {D B:Int} {l a b:List Tst}
theorem isG.dig (h:isG K D B l): ∀s∈l,s.v.f.dig:=fun s hs=>(h.2 s hs).dig
theorem isG.bd (h:isG K D B l): ∀s∈l,0≤s.lo∧s.lo < s.hi∧s.hi≤65536:=fun s hs=>by
  obtain ⟨i,hi,rfl⟩:=xh5 hs
  have:=xh9 h.1 hi
  exact ⟨this.1,this.2.1,this.2.2.1⟩
theorem isG.asc (h:isG K D B l):ascT l:=tRight_asc h.1
theorem isG.nb (h:isG K D B l):nbT l:=tRight_nb h.1
theorem isG.wt (h:isG K D B l):wtOk D B l:=fun s hs=>(h.2 s hs).2
theorem isG.out (h:isG K D B l): ∀s∈l,0≤s.lo∧s.hi≤65536:=fun s hs=>by have:=h.bd s hs;omega
theorem isG.mono {B':Int} (h:isG K D B l) (hB:B≤B'):isG K D B' l:=⟨h.1,fun s hs=>(h.2 s hs).mono hB⟩
theorem isG_of (h:ascT l) (hn:nbT l) (hv: ∀s∈l,(0≤s.lo∧s.hi≤65536)∧gOk K D B s.v):isG K D B l:=
  ⟨right_of (K:=K) h hn fun s hs=>⟨(hv s hs).1.1,(hv s hs).1.2,(hv s hs).2.1.1,(hv s hs).2.1.2.1⟩,fun s hs=>(hv s hs).2⟩
theorem isG.pst1 {s:Tst} (h:isG K D B l) (h0:0≤s.lo) (h1:s.hi≤65536) (hv:gOk K D B s.v) (hl:0 < l.length→(l.getD (l.length - 1) tst0).hi≤s.lo):isG K D B (An.pst1 l s):=by
  refine ⟨pst1_right h.1 h0 h1 hv.1.1 fun hp=>⟨hl hp,?_⟩,?_⟩
  · have:=(h.2 _ (xc2 (l:=l) (i:=l.length - 1) (by omega))).1.2.1
    rw [this,hv.1.2.1]
  · intro x hx
    rw [An.pst1] at hx
    split at hx
    · exact h.2 x hx
    · split at hx
      · rcases List.mem_or_eq_of_mem_set hx with h' | h'
        · exact h.2 x h'
        · subst h';exact h.2 (l.getD (l.length - 1) tst0) (xc2 (by omega))
      · rcases List.mem_append.1 hx with h' | h'
        · exact h.2 x h'
        · rw [List.mem_singleton.1 h'];exact hv
/-- Put together out of pieces. -/
theorem isG_pst {ps:List Tst} (hp:ps.Pairwise fun s t=>s.lo < s.hi→s.hi≤t.lo) (hv: ∀s∈ps,s.lo < s.hi→(0≤s.lo∧s.hi≤65536)∧gOk K D B s.v):isG K D B (pst [] ps):=by
  have h:=pst_val ps [] ⟨fun s hs=>(by cases hs),.nil⟩ trivial hp fun x hx=>by cases hx
  exact isG_of h.1 h.2.1 (pst_all (P:=fun s=>(0≤s.lo∧s.hi≤65536)∧gOk K D B s.v) (fun x s hx hs e=>⟨⟨hx.1.1,hs.1.2⟩,hx.2⟩) _ _ (fun s hs=>by cases hs) hv)
theorem isG.cut {x y:Int} (h:isG K D B l):isG K D B (cutT l x y):=by
  refine isG_pst (h.asc.2.map (clip x y) fun s t hst _=>by simp only [clip];omega) fun s hs _=> ?_
  obtain ⟨z,hz,rfl⟩:=List.mem_map.1 hs
  have:=h.bd z hz
  exact ⟨by simp only [clip];omega,h.2 z hz⟩
theorem bds_bd (ha:isG K D B a) (hb:isG K D B b) {x:Int} (hx:x∈bds [a,b]):0≤x∧x≤65536:=by
  obtain ⟨l,hl,s,hs,he⟩:=bds_mem.1 hx
  have:0≤s.lo∧s.lo < s.hi∧s.hi≤65536:=by
    rcases List.mem_cons.1 hl with rfl | hl
    · exact ha.bd s hs
    · rw [List.mem_singleton.1 hl] at hs;exact hb.bd s hs
  omega
theorem segL_mem {g:Int→Option Va}: ∀{ds:List Int} {s:Tst},s∈segL g ds→s.lo∈ds∧s.hi∈ds∧g s.lo=some s.v
  | [],s,h=>by cases h
  | [x],s,h=>by cases h
  | x::y::r,s,h=>by
    rw [segL] at h
    rcases List.mem_append.1 h with h | h
    · cases hg:g x with
      | none=>rw [hg] at h;cases h
      | some v=>
        rw [hg] at h
        rw [List.mem_singleton.1 h]
        exact ⟨by simp,by simp,hg⟩
    · have:=segL_mem h
      exact ⟨List.mem_cons_of_mem _ this.1,List.mem_cons_of_mem _ this.2.1,this.2.2⟩
theorem isG.join (ha:isG K D B a) (hb:isG K D B b):isG K D B (jnT a b):=by
  refine isG_pst ((segL_pw bds_pw).2.imp (S:=fun s t:Tst=>s.lo < s.hi→s.hi≤t.lo) fun h' _=>h') fun s hs _=> ?_
  obtain ⟨h1,h2,h3⟩:=segL_mem hs
  have b1:=bds_bd ha hb h1
  have b2:=bds_bd ha hb h2
  refine ⟨⟨b1.1,b2.2⟩,?_⟩
  rw [jnG] at h3
  rcases Option.or_eq_some_iff.1 h3 with h4 | ⟨_,h4⟩
  · obtain ⟨t,ht,_,e⟩:=valT_some h4
    rw [←e];exact hb.2 t ht
  · obtain ⟨t,ht,_,e⟩:=valT_some h4
    rw [←e];exact ha.2 t ht
theorem isG.same {D' B':Int} {K':Nat} (ha:isG K D B a) (hb:isG K' D' B' b) (h: ∀d,valT a d=valT b d):a=b:=tl_same ha.1 hb.1 h
/-- What Sum returns. -/
theorem isG.sum {x y:Int} (hK:K=2∨K=3) (hD:0 < D) (hDb:D≤9223372036854775807) (hB0:0≤B) (hB:B≤140737488355327) (h:isG K D B l) (hxy:Sn.ok ⟨x,y⟩=true):sumC l x y∧sumT (cutT l x y)=some (Rat.divInt (gS (An.S.wt D) l x y) D):=by
  refine ⟨⟨⟨h.1,hxy⟩,?_⟩,sum_cut hD hDb hB0 hB h.asc h.out h.wt⟩
  rcases Nat.eq_zero_or_pos l.length with h0 | h0
  · exact .inl h0
  · have:=(h.2 _ (xc2 (l:=l) h0)).1.2.1
    rcases hK with rfl | rfl
    · exact .inr (.inl this)
    · exact .inr (.inr this)
end
end An.S

/- Layer 4: sets are swept day by day. Plain data. -/
namespace An.S
open Go
/-- The i-th border of a set. -/
def bd (l:List Sn) (i:Nat):Int:=if i%2=0 then (l.getD (i / 2) sn0).lo else (l.getD (i / 2) sn0).hi
/-- The next day at which something changes, if the borders i and j come next. -/
def cday1 (a:List Sn) (i:Nat):Int:=if i < 2*a.length then min 65536 (bd a i) else 65536
def cday (a b:List Sn) (i j:Nat):Int:=if j < 2*b.length then min (cday1 a i) (bd b j) else cday1 a i
def cnxt (a:List Sn) (i:Nat) (d:Int):Nat:=if i < 2*a.length∧bd a i=d then i+1 else i
abbrev Ch:=Int×Nat×Nat
def ch0:Ch:=(0,0,0)
def chL (a b:List Sn):Nat→Nat→Nat→List Ch
  | 0,_,_=>[]
  | f+1,i,j=>if i < 2*a.length∨j < 2*b.length then (cday a b i j,cnxt a i (cday a b i j),cnxt b j (cday a b i j))::chL a b f (cnxt a i (cday a b i j)) (cnxt b j (cday a b i j)) else []
def chAll (a b:List Sn):List Ch:=chL a b (2*a.length+2*b.length) 0 0
theorem bd_le {l:List Sn} {i:Nat} (h:sVal l=true) (hi:i < 2*l.length):0≤bd l i∧bd l i≤65536:=by
  have:=xe5 h (i:=i / 2) (by omega)
  rw [bd];split <;> omega
theorem bd_succ {l:List Sn} {i:Nat} (h:sVal l=true) (hi:i+1 < 2*l.length):bd l i < bd l (i+1):=by
  rcases Nat.mod_two_eq_zero_or_one i with h0 | h0
  · have:=xe5 h (i:=i / 2) (by omega)
    rw [bd,bd,if_pos h0,if_neg (by omega),show (i+1) / 2=i / 2 by omega];exact this.2.1
  · have:=(xi5.1 (sVal_iff.1 h ((i+1) / 2) (by omega))).2.2.resolve_left (by omega)
    rw [bd,bd,if_neg (by omega),if_pos (by omega)]
    rw [show (i+1) / 2 - 1=i / 2 by omega] at this;exact this
theorem bd_lt {l:List Sn} (h:sVal l=true): ∀{j i:Nat},i < j→j < 2*l.length→bd l i < bd l j
  | j+1,i,hij,hj=>by
    have h1:=bd_succ h hj
    rcases Nat.lt_or_ge i j with h2 | h2
    · have:=bd_lt h h2 (by omega);omega
    · have:i=j:=by omega
      subst this;exact h1
/-- One of two borders is reached. -/
theorem cday_is {a b:List Sn} {i j:Nat} (ha:sVal a=true) (hb:sVal b=true) (h:i < 2*a.length∨j < 2*b.length):(i < 2*a.length→cday a b i j≤bd a i)∧(j < 2*b.length→cday a b i j≤bd b j)∧(i < 2*a.length∧cday a b i j=bd a i∨j < 2*b.length∧cday a b i j=bd b j):=by
  have h1:=fun hi=>bd_le (i:=i) ha hi
  have h2:=fun hj=>bd_le (i:=j) hb hj
  simp only [cday,cday1]
  by_cases hi:i < 2*a.length
  · have h1:=h1 hi
    by_cases hj:j < 2*b.length
    · have h2:=h2 hj
      rw [if_pos hj,if_pos hi];omega
    · rw [if_neg hj,if_pos hi];omega
  · have hj:j < 2*b.length:=h.resolve_left hi
    have h2:=h2 hj
    rw [if_pos hj,if_neg hi];omega
theorem cnxt_adv {a b:List Sn} {i j:Nat} (ha:sVal a=true) (hb:sVal b=true) (h:i < 2*a.length∨j < 2*b.length):i≤cnxt a i (cday a b i j)∧cnxt a i (cday a b i j)≤i+1∧j≤cnxt b j (cday a b i j)∧cnxt b j (cday a b i j)≤j+1∧i+j < cnxt a i (cday a b i j)+cnxt b j (cday a b i j):=by
  have:=(cday_is ha hb h).2.2
  generalize cday a b i j=d at*
  simp only [cnxt]
  rcases this with h1 | h1
  · rw [if_pos ⟨h1.1,h1.2.symm⟩];split <;> omega
  · rw [if_pos (c:=j < 2*b.length∧bd b j=d) ⟨h1.1,h1.2.symm⟩];split <;> omega
theorem cnxt_le {a:List Sn} {i:Nat} {d:Int} (h:i≤2*a.length):cnxt a i d≤2*a.length:=by rw [cnxt];split <;> omega
theorem drop_cons {α:Type} {l r:List α} {x:α} {k:Nat} (h:l.drop k=x::r):k < l.length∧l[k]? =some x∧l.drop (k+1)=r:=by
  have hk:k < l.length:=by
    rcases Nat.lt_or_ge k l.length with h1 | h1
    · exact h1
    · rw [List.drop_eq_nil_of_le h1] at h;cases h
  rw [List.drop_eq_getElem_cons hk,List.cons.injEq] at h
  exact ⟨hk,by rw [List.getElem?_eq_getElem hk,h.1],h.2⟩
/-- The round k, with the borders i and j next. -/
def CI (a b:List Sn) (k i j:Nat):Prop:=i≤2*a.length∧j≤2*b.length∧k≤(chAll a b).length∧ ∃f,chL a b f i j=(chAll a b).drop k∧2*a.length+2*b.length≤f+(i+j)
theorem CI.next {a b:List Sn} {k i j:Nat} (ha:sVal a=true) (hb:sVal b=true) (h:CI a b k i j) (hij:i < 2*a.length∨j < 2*b.length):k < (chAll a b).length∧(chAll a b).getD k ch0=(cday a b i j,cnxt a i (cday a b i j),cnxt b j (cday a b i j))∧CI a b (k+1) (cnxt a i (cday a b i j)) (cnxt b j (cday a b i j))∧i+j < cnxt a i (cday a b i j)+cnxt b j (cday a b i j):=by
  obtain ⟨h1,h2,h3,f,h4,h5⟩:=h
  have hadv:=cnxt_adv ha hb hij
  cases f with
  | zero=>omega
  | succ f=>
    rw [chL,if_pos hij] at h4
    obtain ⟨e1,e2,e3⟩:=drop_cons h4.symm
    refine ⟨e1,by rw [List.getD_eq_getElem?_getD,e2];rfl,⟨cnxt_le h1,cnxt_le h2,e1,f,e3.symm,by omega⟩,hadv.2.2.2.2⟩
theorem CI.stop {a b:List Sn} {k i j:Nat} (h:CI a b k i j) (hij: ¬(i < 2*a.length∨j < 2*b.length)):(chAll a b).length≤k:=by
  obtain ⟨_,_,_,f,h4,_⟩:=h
  have:chL a b f i j=[]:=by cases f with
    | zero=>rfl
    | succ f=>rw [chL,if_neg hij]
  rw [this] at h4
  have:=congrArg List.length h4
  simp at this;omega
theorem CI.zero {a b:List Sn}:CI a b 0 0 0:=⟨Nat.zero_le _,Nat.zero_le _,Nat.zero_le _,_,rfl,by omega⟩
/-- What is chosen. -/
structure Ck where
  xs:List Sn
  lo:Int
  ins:Bool
def ck1 (kp:Bool→Bool→Bool) (s:Ck) (c:Ch):Ck:=
  ⟨if s.ins && !kp (c.2.1%2==1) (c.2.2%2==1) then s.xs++[⟨if kp (c.2.1%2==1) (c.2.2%2==1) && !s.ins then c.1 else s.lo,c.1⟩] else s.xs,if kp (c.2.1%2==1) (c.2.2%2==1) && !s.ins then c.1 else s.lo,kp (c.2.1%2==1) (c.2.2%2==1)⟩
def ckRun (kp:Bool→Bool→Bool) (a b:List Sn):Ck:=(chAll a b).foldl (ck1 kp) ⟨[],0,false⟩
end An.S

/- Layer 4: what is chosen is the set of the days that are wanted; sets with the same days are the same. Plain data. -/
namespace An.S
open Go
def mem (l:List Sn) (d:Int):Bool:=l.any fun s=>decide (s.lo≤d) && decide (d < s.hi)
theorem mem_iff {l:List Sn} {d:Int}:mem l d=true↔ ∃s∈l,s.lo≤d∧d < s.hi:=by simp [mem]
theorem mem_no {l:List Sn} {d:Int}:mem l d=false↔ ∀s∈l,¬(s.lo≤d∧d < s.hi):=by
  rw [←Bool.not_eq_true,mem_iff];simp only [not_exists,not_and]
theorem mem_snoc {l:List Sn} {s:Sn} {d:Int}:mem (l++[s]) d=(mem l d || (decide (s.lo≤d) && decide (d < s.hi))):=by simp [mem]
/-- The border i is the first one behind the day D. -/
def Pos (l:List Sn) (i:Nat) (D:Int):Prop:=i≤2*l.length∧(∀k,k < i→bd l k≤D)∧ ∀k,i≤k→k < 2*l.length→D < bd l k
theorem xh4 {l:List Sn} {s:Sn} (hs:s∈l): ∃i,i < l.length∧s=l.getD i sn0:=by
  obtain ⟨i,hi,e⟩:=List.getElem_of_mem hs
  exact ⟨i,hi,by rw [List.getD_eq_getElem?_getD,List.getElem?_eq_getElem hi];exact e.symm⟩
theorem mem_getS {l:List Sn} {i:Nat} (hi:i < l.length):l.getD i sn0∈l:=by
  rw [List.getD_eq_getElem?_getD,List.getElem?_eq_getElem hi];exact List.getElem_mem hi
theorem bd_even (l:List Sn) (p:Nat):bd l (2*p)=(l.getD p sn0).lo:=by rw [bd,if_pos (by omega),show 2*p / 2=p by omega]
theorem bd_odd (l:List Sn) (p:Nat):bd l (2*p+1)=(l.getD p sn0).hi:=by rw [bd,if_neg (by omega),show (2*p+1) / 2=p by omega]
theorem Pos.mem {l:List Sn} {i:Nat} {D:Int} (h:Pos l i D):mem l D=(i%2==1):=by
  obtain ⟨h1,h2,h3⟩:=h
  rw [Bool.eq_iff_iff,mem_iff,beq_iff_eq]
  constructor
  · rintro ⟨s,hs,h4,h5⟩
    obtain ⟨p,hp,rfl⟩:=xh4 hs
    rw [←bd_even] at h4;rw [←bd_odd] at h5
    have a1: ¬i≤2*p:=fun h'=>by have:=h3 _ h' (by omega);omega
    have a2: ¬2*p+1 < i:=fun h'=>by have:=h2 _ h';omega
    omega
  · intro h4
    have e:i=2*(i / 2)+1:=by omega
    refine ⟨l.getD (i / 2) sn0,mem_getS (by omega),?_,?_⟩
    · rw [←bd_even];exact h2 _ (by omega)
    · rw [←bd_odd];exact h3 _ (by omega) (by omega)
theorem Pos.stay {l:List Sn} {i:Nat} {D d e:Int} (hv:sVal l=true) (h:Pos l i D) (hd:D≤d) (he:d < e) (hb:i < 2*l.length→e≤bd l i):Pos l i d:=by
  refine ⟨h.1,fun k hk=>by have:=h.2.1 k hk;omega,fun k hk hk2=> ?_⟩
  have h1:=hb (by omega)
  rcases Nat.lt_or_ge i k with h2 | h2
  · have:=bd_lt hv h2 hk2;omega
  · have:k=i:=by omega
    subst this;omega
theorem Pos.next {l:List Sn} {i:Nat} {D e:Int} (hv:sVal l=true) (h:Pos l i D) (he:D < e) (hb:i < 2*l.length→e≤bd l i):Pos l (cnxt l i e) e:=by
  refine ⟨cnxt_le h.1,fun k hk=> ?_,fun k hk hk2=> ?_⟩
  · rw [cnxt] at hk
    split at hk
    · rename_i hc
      rcases Nat.lt_or_ge k i with h2 | h2
      · have:=h.2.1 k h2;omega
      · have:k=i:=by omega
        subst this;omega
    · have:=h.2.1 k hk;omega
  · rw [cnxt] at hk
    split at hk
    · rename_i hc
      have:=bd_lt hv (show i < k by omega) hk2;omega
    · rename_i hc
      have h1:=hb (by omega)
      rcases Nat.lt_or_ge i k with h2 | h2
      · have:=bd_lt hv h2 hk2;omega
      · have:k=i:=by omega
        subst this
        have: ¬bd l k=e:=fun h'=>hc ⟨hk2,h'⟩
        omega
theorem Pos.zero {l:List Sn} (hv:sVal l=true):Pos l 0 (-1):=⟨Nat.zero_le _,fun k hk=>by omega,fun k _ hk2=>by have:=bd_le hv hk2;omega⟩
theorem sVal_lt {l:List Sn} (h:sVal l=true) {i j:Nat} (hij:i < j) (hj:j < l.length):(l.getD i sn0).hi < (l.getD j sn0).lo:=by
  have:=bd_lt h (show 2*i+1 < 2*j by omega) (by omega)
  rwa [bd_odd,bd_even] at this
theorem lastS_no {l:List Sn} {d:Int} (h:sVal l=true) (hl:0 < l.length→(lastS l).hi≤d):mem l d=false:=mem_no.2 fun s hs h'=>by
  obtain ⟨i,hi,rfl⟩:=xh4 hs
  have h1:=hl (by omega)
  have h2:=xe5 h hi
  rcases Nat.lt_or_ge i (l.length - 1) with h3 | h3
  · have h4:=sVal_lt h h3 (by omega)
    have h5:=xe5 h (i:=l.length - 1) (by omega)
    have h6:(l.getD (l.length - 1) sn0).hi≤d:=h1
    omega
  · have:i=l.length - 1:=by omega
    subst this
    have h6:(l.getD (l.length - 1) sn0).hi≤d:=h1
    omega
structure CkI (kp:Bool→Bool→Bool) (a b:List Sn) (s:Ck) (i j:Nat) (D:Int):Prop where
  d0: -1≤D
  pa:Pos a i D
  pb:Pos b j D
  ins:s.ins=kp (i%2==1) (j%2==1)
  val:sVal s.xs=true
  last:0 < s.xs.length→(lastS s.xs).hi≤D∧(s.ins=true→(lastS s.xs).hi < s.lo)
  lo:s.ins=true→0≤s.lo∧s.lo≤D
  all: ∀d,d≤D→(mem s.xs d || (s.ins && decide (s.lo≤d)))=kp (mem a d) (mem b d)
theorem CkI.next {kp:Bool→Bool→Bool} {a b:List Sn} {s:Ck} {i j:Nat} {D:Int} (ha:sVal a=true) (hb:sVal b=true) (h:CkI kp a b s i j D) (hij:i < 2*a.length∨j < 2*b.length):CkI kp a b (ck1 kp s (cday a b i j,cnxt a i (cday a b i j),cnxt b j (cday a b i j))) (cnxt a i (cday a b i j)) (cnxt b j (cday a b i j)) (cday a b i j):=by
  obtain ⟨c1,c2,c3⟩:=cday_is ha hb hij
  have hD:D < cday a b i j:=by
    rcases c3 with c3 | c3
    · have:=h.pa.2.2 i (Nat.le_refl _) c3.1;omega
    · have:=h.pb.2.2 j (Nat.le_refl _) c3.1;omega
  have hE:cday a b i j≤65536:=by
    rcases c3 with c3 | c3
    · have:=bd_le ha c3.1;omega
    · have:=bd_le hb c3.1;omega
  generalize cday a b i j=e at*
  have pa:=h.pa.next ha hD c1
  have pb:=h.pb.next hb hD c2
  have mid: ∀d,D < d→d < e→kp (mem a d) (mem b d)=s.ins:=fun d h1 h2=>by
    rw [(h.pa.stay ha (by omega) h2 c1).mem,(h.pb.stay hb (by omega) h2 c2).mem,h.ins]
  have now:kp (mem a e) (mem b e)=kp (cnxt a i e%2==1) (cnxt b j e%2==1):=by rw [pa.mem,pb.mem]
  have hno: ∀d,D≤d→mem s.xs d=false:=fun d hd=>lastS_no h.val fun h0=>by have:=(h.last h0).1;omega
  obtain ⟨xs,lo,ins⟩:=s
  have hd0:=h.d0
  have hd1: -1≤e:=by omega
  obtain ⟨_,_,_,h3,h4,h5,h6,h7⟩:=h
  simp only at*
  cases hn:kp (cnxt a i e%2==1) (cnxt b j e%2==1) <;> cases ins
  · -- outside,outside
    have e1:ck1 kp ⟨xs,lo,false⟩ (e,cnxt a i e,cnxt b j e)=⟨xs,lo,false⟩:=by simp [ck1,hn]
    rw [e1]
    refine ⟨hd1,pa,pb,hn.symm,h4,fun h0=>⟨by have:=(h5 h0).1;show (lastS xs).hi≤e;omega,fun h'=>by cases h'⟩,fun h'=>(by cases h'),fun d hd=> ?_⟩
    show (mem xs d || (false && decide (lo≤d)))=_
    rcases Int.lt_or_le D d with hd2 | hd2
    · rw [hno d (by omega)]
      rcases Int.lt_or_le d e with hd3 | hd3
      · rw [mid d hd2 hd3];rfl
      · rw [show d=e by omega,now,hn];rfl
    · exact h7 d hd2
  · -- ends
    have e1:ck1 kp ⟨xs,lo,true⟩ (e,cnxt a i e,cnxt b j e)=⟨xs++[⟨lo,e⟩],lo,false⟩:=by simp [ck1,hn]
    rw [e1]
    obtain ⟨l0,l1⟩:=h6 rfl
    refine ⟨hd1,pa,pb,hn.symm,sVal_snoc h4 ⟨l0,by show lo < e;omega,hE⟩ fun h0=>(h5 h0).2 rfl,fun _=>⟨?_,fun h'=>by cases h'⟩,fun h'=>(by cases h'),fun d hd=> ?_⟩
    · show (lastS (xs++[⟨lo,e⟩])).hi≤e
      rw [lastS,getD_snocS,List.length_append,List.length_singleton,if_neg (by omega),if_pos (by omega)]
      exact Int.le_refl _
    · show (mem (xs++[⟨lo,e⟩]) d || (false && _))=_
      rw [mem_snoc]
      rcases Int.lt_or_le D d with hd2 | hd2
      · rw [hno d (by omega)]
        rcases Int.lt_or_le d e with hd3 | hd3
        · rw [mid d hd2 hd3];simp;omega
        · rw [show d=e by omega,now,hn];simp
      · rw [←h7 d hd2,show decide (d < e)=true from decide_eq_true (by omega)];simp
  · -- begins
    have e1:ck1 kp ⟨xs,lo,false⟩ (e,cnxt a i e,cnxt b j e)=⟨xs,e,true⟩:=by simp [ck1,hn]
    rw [e1]
    refine ⟨hd1,pa,pb,hn.symm,h4,fun h0=>⟨by have:=(h5 h0).1;show (lastS xs).hi≤e;omega,fun _=>by have:=(h5 h0).1;show (lastS xs).hi < e;omega⟩,fun _=>⟨by show 0≤e;omega,Int.le_refl _⟩,fun d hd=> ?_⟩
    show (mem xs d || (true && decide (e≤d)))=_
    rcases Int.lt_or_le D d with hd2 | hd2
    · rw [hno d (by omega)]
      rcases Int.lt_or_le d e with hd3 | hd3
      · rw [mid d hd2 hd3];simp;omega
      · rw [show d=e by omega,now,hn];simp
    · rw [←h7 d hd2,show decide (e≤d)=false from decide_eq_false (by omega)];simp
  · -- inside,inside
    have e1:ck1 kp ⟨xs,lo,true⟩ (e,cnxt a i e,cnxt b j e)=⟨xs,lo,true⟩:=by simp [ck1,hn]
    rw [e1]
    obtain ⟨l0,l1⟩:=h6 rfl
    refine ⟨hd1,pa,pb,hn.symm,h4,fun h0=>⟨by have:=(h5 h0).1;show (lastS xs).hi≤e;omega,(h5 h0).2⟩,fun _=>⟨l0,by show lo≤e;omega⟩,fun d hd=> ?_⟩
    show (mem xs d || (true && decide (lo≤d)))=_
    rcases Int.lt_or_le D d with hd2 | hd2
    · rw [hno d (by omega)]
      rcases Int.lt_or_le d e with hd3 | hd3
      · rw [mid d hd2 hd3];simp;omega
      · rw [show d=e by omega,now,hn];simp;omega
    · exact h7 d hd2
theorem ck_run {kp:Bool→Bool→Bool} {a b:List Sn} (ha:sVal a=true) (hb:sVal b=true) (hk:kp false false=false): ∀(f i j:Nat) (D:Int) (s:Ck),CkI kp a b s i j D→2*a.length+2*b.length≤f+(i+j)→
    sVal ((chL a b f i j).foldl (ck1 kp) s).xs=true∧ ∀d,mem ((chL a b f i j).foldl (ck1 kp) s).xs d=kp (mem a d) (mem b d)
  | f,i,j,D,s,h,hf=>by
    by_cases hij:i < 2*a.length∨j < 2*b.length
    · cases f with
      | zero=>have:=h.pa.1;have:=h.pb.1;omega
      | succ f=>
        have hadv:=cnxt_adv ha hb hij
        rw [chL,if_pos hij,List.foldl_cons]
        exact ck_run ha hb hk f _ _ _ _ (h.next ha hb hij) (by omega)
    · have e:chL a b f i j=[]:=by cases f with
        | zero=>rfl
        | succ f=>rw [chL,if_neg hij]
      have hi:i=2*a.length:=by have:=h.pa.1;omega
      have hj:j=2*b.length:=by have:=h.pb.1;omega
      have hins:s.ins=false:=by
        rw [h.ins,show (i%2==1)=false by simp;omega,show (j%2==1)=false by simp;omega,hk]
      rw [e]
      refine ⟨h.val,fun d=> ?_⟩
      show mem s.xs d=_
      rcases Int.lt_or_le D d with hd | hd
      · rw [lastS_no h.val (fun h0=>by have:=(h.last h0).1;omega),(h.pa.stay ha (Int.le_of_lt hd) (Int.lt_succ d) (fun h'=>by omega)).mem,(h.pb.stay hb (Int.le_of_lt hd) (Int.lt_succ d) (fun h'=>by omega)).mem,show (i%2==1)=false by simp;omega,show (j%2==1)=false by simp;omega,hk]
      · have:=h.all d hd
        rw [hins] at this;simpa using this
theorem ck_zero {kp:Bool→Bool→Bool} {a b:List Sn} (ha:sVal a=true) (hb:sVal b=true) (hk:kp false false=false):CkI kp a b ⟨[],0,false⟩ 0 0 (-1) where
  d0:=by omega
  pa:=Pos.zero ha
  pb:=Pos.zero hb
  ins:=hk.symm
  val:=rfl
  last:=fun h=>by cases h
  lo:=fun h=>by cases h
  all:=fun d hd=>by
    have e1:mem a d=false:=mem_no.2 fun s hs h'=>by
      obtain ⟨i,hi,rfl⟩:=xh4 hs
      have:=xe5 ha hi;omega
    have e2:mem b d=false:=mem_no.2 fun s hs h'=>by
      obtain ⟨i,hi,rfl⟩:=xh4 hs
      have:=xe5 hb hi;omega
    rw [e1,e2,hk];rfl
/-- What is chosen is the set of the days that are wanted. -/
theorem ck_all {kp:Bool→Bool→Bool} {a b:List Sn} (ha:sVal a=true) (hb:sVal b=true) (hk:kp false false=false):sVal (ckRun kp a b).xs=true∧ ∀d,mem (ckRun kp a b).xs d=kp (mem a d) (mem b d):=
  ck_run ha hb hk _ 0 0 (-1) _ (ck_zero ha hb hk) (by omega)
/-! Sets with the same days are the same. -/
def setS (l:List Sn):Prop:=(∀s∈l,okS s)∧l.Pairwise fun s t=>s.hi < t.lo
theorem sVal_set {l:List Sn} (h:sVal l=true):setS l:=by
  refine ⟨fun s hs=> ?_,List.pairwise_iff_getElem.2 fun i j hi hj hij=> ?_⟩
  · obtain ⟨i,hi,rfl⟩:=xh4 hs
    exact xe5 h hi
  · have:=sVal_lt h hij hj
    rwa [List.getD_eq_getElem?_getD,List.getD_eq_getElem?_getD,List.getElem?_eq_getElem hi,List.getElem?_eq_getElem hj] at this
theorem mem_cons {s:Sn} {r:List Sn} {d:Int}:mem (s::r) d=((decide (s.lo≤d) && decide (d < s.hi)) || mem r d):=by simp [mem]
theorem mem_low {s:Sn} {r:List Sn} {d:Int} (h:setS (s::r)) (hd:d≤s.hi):mem r d=false:=mem_no.2 fun t ht h'=>by
  have:=(List.pairwise_cons.1 h.2).1 t ht;omega
theorem set_ext: ∀{a b:List Sn},setS a→setS b→(∀d,mem a d=mem b d)→a=b
  | [],[],_,_,_=>rfl
  | [],t::u,_,hb,h=>by
    have h1:=hb.1 t (List.mem_cons_self ..)
    have h2:=h t.lo
    rw [mem_cons] at h2
    simp [mem,h1.2.1] at h2
  | s::r,[],ha,_,h=>by
    have h1:=ha.1 s (List.mem_cons_self ..)
    have h2:=h s.lo
    rw [mem_cons] at h2
    simp [mem,h1.2.1] at h2
  | s::r,t::u,ha,hb,h=>by
    have hs:=ha.1 s (List.mem_cons_self ..)
    have ht:=hb.1 t (List.mem_cons_self ..)
    have pa:=List.pairwise_cons.1 ha.2
    have pb:=List.pairwise_cons.1 hb.2
    have l1:t.lo≤s.lo:=by
      obtain ⟨x,hx,hx2⟩:=mem_iff.1 ((h s.lo).symm.trans (by rw [mem_cons];simp [hs.2.1]))
      rcases List.mem_cons.1 hx with rfl | hx
      · exact hx2.1
      · have:=pb.1 x hx;have:=ht.2.1;omega
    have l2:s.lo≤t.lo:=by
      obtain ⟨x,hx,hx2⟩:=mem_iff.1 ((h t.lo).trans (by rw [mem_cons];simp [ht.2.1]))
      rcases List.mem_cons.1 hx with rfl | hx
      · exact hx2.1
      · have:=pa.1 x hx;have:=hs.2.1;omega
    have l3:t.hi≤s.hi:=by
      rcases Int.lt_or_le s.hi t.hi with h1 | h1
      · have h2:=h s.hi
        have:=hs.2.1
        rw [mem_cons,mem_cons,mem_low ha (Int.le_refl _)] at h2
        simp [h1,show t.lo≤s.hi by omega] at h2
      · exact h1
    have l4:s.hi≤t.hi:=by
      rcases Int.lt_or_le t.hi s.hi with h1 | h1
      · have h2:=h t.hi
        have:=ht.2.1
        rw [mem_cons,mem_cons,mem_low hb (Int.le_refl _)] at h2
        simp [h1,show s.lo≤t.hi by omega] at h2
      · exact h1
    have est:s=t:=by
      obtain ⟨a1,a2⟩:=s;obtain ⟨b1,b2⟩:=t
      simp only at l1 l2 l3 l4
      rw [show a1=b1 by omega,show a2=b2 by omega]
    subst est
    congr 1
    refine set_ext ⟨fun x hx=>ha.1 x (List.mem_cons_of_mem _ hx),pa.2⟩ ⟨fun x hx=>hb.1 x (List.mem_cons_of_mem _ hx),pb.2⟩ fun d=> ?_
    rcases Int.lt_or_le d s.hi with h1 | h1
    · rw [mem_low ha (by omega),mem_low hb (by omega)]
    · have h2:=h d
      rw [mem_cons,mem_cons] at h2
      simpa [show ¬d < s.hi by omega] using h2
theorem set_same {a b:List Sn} (ha:sVal a=true) (hb:sVal b=true) (h: ∀d,mem a d=mem b d):a=b:=set_ext (sVal_set ha) (sVal_set hb) h
/-! Worked days. -/
theorem mem_append {a b:List Sn} {d:Int}:mem (a++b) d=(mem a d || mem b d):=by simp [mem]
theorem mem_mrg {d:Int}: ∀(xs acc:List Sn),ascS xs→sVal acc=true→(0 < acc.length→ ∀s∈xs,(lastS acc).hi≤s.lo)→mem (xs.foldl mrg1 acc) d=(mem acc d || mem xs d)
  | [],acc,_,_,_=>by simp [mem]
  | s::r,acc,hx,hv,hl=>by
    have hs:=hx.1 s (List.mem_cons_self ..)
    have hp:=List.pairwise_cons.1 hx.2
    have hr:ascS r:=⟨fun t ht=>hx.1 t (List.mem_cons_of_mem _ ht),hp.2⟩
    have h1:=mrg_asc [s] acc ⟨fun t ht=>hx.1 t (by rw [List.mem_singleton.1 ht];exact List.mem_cons_self ..),List.pairwise_singleton ..⟩ hv fun h0 t ht=>hl h0 t (by rw [List.mem_singleton.1 ht];exact List.mem_cons_self ..)
    have key:mem (mrg1 acc s) d=(mem acc d || (decide (s.lo≤d) && decide (d < s.hi)))∧(lastS (mrg1 acc s)).hi=s.hi:=by
      rw [mrg1]
      split
      · rename_i hm
        have h2:(lastS acc).hi=s.lo:=by have:=hl hm.1 s (List.mem_cons_self ..);have h2:s.lo≤(lastS acc).hi:=hm.2;omega
        have hmax:max (acc.getD (acc.length - 1) sn0).hi s.hi=s.hi:=by
          have h3:(acc.getD (acc.length - 1) sn0).hi=s.lo:=h2
          have:=hs.2.1;omega
        rw [hmax]
        refine ⟨?_,by rw [lastS,List.length_set,getD_setS (by omega),if_pos rfl]⟩
        rw [set_lastE hm.1,mem_snoc]
        have e3:mem acc d=(mem (acc.take (acc.length - 1)) d || (decide ((lastS acc).lo≤d) && decide (d < (lastS acc).hi))):=by rw [←mem_snoc,←split_last hm.1]
        rw [e3,h2]
        have h4:=xe5 hv (i:=acc.length - 1) (by omega)
        have h5:(lastS acc).lo < s.lo:=by rw [←h2];exact h4.2.1
        have h6:(acc.getD (acc.length - 1) sn0).lo=(lastS acc).lo:=rfl
        have:=hs.2.1
        dsimp only
        rw [h6,Bool.or_assoc]
        congr 1
        rw [Bool.eq_iff_iff];simp;omega
      · rename_i hm
        exact ⟨mem_snoc,by rw [lastS,getD_snocS,List.length_append,List.length_singleton,if_neg (by omega),if_pos (by omega)]⟩
    have ih:=mem_mrg (d:=d) r (mrg1 acc s) hr h1.1 fun _ t ht=>by rw [key.2];exact hp.1 t ht
    rw [List.foldl_cons,ih,key.1,mem_cons,Bool.or_assoc]
end An.S

/- Layer 5: days looked for, days covered, days that differ. Plain data, but for what the walks define. -/
namespace An.S
open Go
/-- The index of the first step that has days from d on. -/
def fndT (l:List Tst) (d:Int):Nat:=(l.takeWhile fun s=>decide (s.hi≤d)).length
/-- What At returns. -/
def atR (l:List Tst) (d:Int):Option Va:=if tRight l=true then valT l d else none
/-- The days of the steps. -/
def spT (s:Tst):Sn:=⟨s.lo,s.hi⟩
def cvS (l:List Tst):List Sn:=l.map spT
def cvL (l:List Tst) (i:Nat):List Sn:=(l.take i).map spT++List.replicate (l.length - i) sn0
/-- What Covers returns. -/
def cvT (l:List Tst):List Sn:=mkS (cvS l)
/-- When Join, when Diff are right. -/
def jnC (a b:List Tst):Prop:=(tRight a=true∧tRight b=true)∧ ¬(0 < a.length∧0 < b.length∧(a.getD 0 tst0).v.kind≠(b.getD 0 tst0).v.kind)
instance (a b:List Tst):Decidable (jnC a b):=inferInstanceAs (Decidable (_∧_))
/-- The days on which two timelines differ: pieces in order. -/
def gdf (a b:List Tst) (d:Int):Option Va:=if dfB a b d then some An.va0 else none
/-- The set of the days on which two timelines differ. -/
def dfS (a b:List Tst):List Sn:=mkS (dfT a b)
end An.S

/- Arrays of structs that are written out, and their elements; the empty slice that is written out, as one's own. For any program. -/
namespace An
open Go
theorem BuI.array {P:Program} {T E len n:Nat} {agg:Bool} {z:Value} (hu:P.underlying T=some (.array len E)) (te:TyI P E n agg) (hz:(P.info? T).bind (·.zero)=some z):BuI P T (fun i=>some (i*n,n)) z:=by
  refine ⟨fun parts w cs hf=> ?_⟩
  simp only [Instr.build,Sem.run_bind,run_zero hz,Result.andThen_ok,run_underlying hu,te.size_run w]
  rw [hf]
  simp
section
variable {P:Program} {c:Base} {d ty:Nat} {pos:String} {af:Array Edge} {gd:Option (Nat×Bool)}
end
end An

/- Layer 5: joins, parts, days. -/
namespace An.S
open Go Go.Proofs An
set_option maxHeartbeats 2000000
end An.S

/- An element of an array value. For any program. -/
namespace An
open Go
theorem off_mapV {α:Type} {es:Nat} {agg:Bool} {f:α→Ty}: ∀(l:List α) (i:Nat),i < l.length→Fd.off (l.map fun x=>⟨es,agg,f x⟩) i=i*es
  | [],i,h=>by simp at h
  | _::r,0,_=>by simp [Fd.off]
  | _::r,i+1,h=>by
    rw [List.map_cons,Fd.off,off_mapV r i (by simpa using h),Nat.succ_mul]
    exact Nat.add_comm _ _
/-- The element i of a row of fields of one kind. -/
theorem At.row {α:Type} {es:Nat} {agg:Bool} {f:α→Ty} {l:List α} {i:Nat} (d:α) (hi:i < l.length):At (tS (l.map fun x=>⟨es,agg,f x⟩)) (i*es) es agg (f (l.getD i d)):=
  At.f i (f:=⟨es,agg,f (l.getD i d)⟩) (by rw [List.getElem?_map,gD (d:=d) hi];rfl) (off_mapV l i hi)
section
variable {P:Program} {c:Base} {d ty:Nat} {pos:String} {af:Array Edge} {gd:Option (Nat×Bool)}
end
end An

/- Law 5: timelines are built; days and values without the program. -/
namespace An.S
open Go Go.Proofs An
set_option maxHeartbeats 2000000
instance fi8:FnI Tryz.prog 8:=⟨_,Tryz.func8,by kernel_rfl,rfl⟩
theorem c_SameStep (x y:Tst):
  Ct Tryz.prog 52 [tTs x,tTs y] (tB (decide (x=y))):=by
 refine Ct.intro Tryz.func52 rfl Tryz.ntmps52 rfl ?_
 intro w F
 refine A9 ?_
 refine A6 ?_
 refine RGcaseD (t:=10) rfl (fun h196=> ?_) (fun h196=> ?_)
 ·
  refine A7 ?_
  refine RGcaseD (t:=17) rfl (fun h196_2=> ?_) (fun h196_2=> ?_)
  ·
   refine A4 ?_
   refine RGon (decide_eq_true h196_2) rfl (x3 (c_SameValue _ _) fi8 rfl) rfl ⟨rfl,rfl,trivial⟩ trivial trivial ?_
   refine A5 ?_
   exact x4 Plain.mk' rfl rfl (Le.bool (by obtain ⟨a,b,e⟩:=x;obtain ⟨c,d,f⟩:=y;simp only [Tst.mk.injEq] at*;simp_all <;> omega))
  ·
   refine A9 ?_
   refine A1 ?_
   exact x4 Plain.mk' rfl rfl (Le.bool (by obtain ⟨a,b,e⟩:=x;obtain ⟨c,d,f⟩:=y;simp only [Tst.mk.injEq] at*;simp_all <;> omega))
 ·
  refine A9 ?_
  refine A8 ?_
  exact x4 Plain.mk' rfl rfl (Le.bool (by obtain ⟨a,b,e⟩:=x;obtain ⟨c,d,f⟩:=y;simp only [Tst.mk.injEq] at*;simp_all <;> omega))
abbrev tP2 (p:Int×Int):Ty:=tS [⟨1,false,tI p.1⟩,⟨1,false,tI p.2⟩]
def plP:List (Int×Int):=[(0,1),(1,1),(1,2),(-3,4),(5,3),(65537,7),(-1,1),(1099511627776,1)]
def plQ (n:Nat):Int×Int:=plP.getD (n%8) (0,1)
def plV (n:Nat):Va:=⟨2,fr (kfr (plQ n).1 (plQ n).2),0⟩
def tbF (m:List Nat) (k:Nat) (t:Int):Int:=t+((m.getD (3*k) 0:Nat):Int)%3000
def tbE (m:List Nat) (k:Nat) (t:Int):Int:=tbF m k t+1+((m.getD (3*k+1) 0:Nat):Int)%3000
def tbS (m:List Nat) (k:Nat) (t:Int):Tst:=⟨tbF m k t,tbE m k t,plV (m.getD (3*k+2) 0)⟩
def tbRun (m:List Nat):Nat→Nat→List Tst→Int→List Tst
  | 0,_,out,_=>out
  | f+1,k,out,t=>if 3*k+2 < m.length∧k < 40 then (if 65536 < tbE m k t then out else tbRun m f (k+1) (pst1 out (tbS m k t)) (tbE m k t)) else out
def tbT (m:List Nat):List Tst:=tbRun m 41 0 [] 0
def eds4 (l:List Tst):List Int:=l.flatMap fun s=>[s.lo - 1,s.lo,s.hi - 1,s.hi]
/-- The days about the ends of steps. -/
def lkT (a b:List Tst) (d:Int):List Int:=d::[a,b].flatMap eds4
end An.S

/- Law 5: what Built makes; contracts at timelines of one kind; the examples of the chapter. -/
namespace An.S
open Go Go.Proofs An
set_option maxHeartbeats 2000000
set_option maxRecDepth 100000
end An.S

/- The reference of layer 1: limbs. -/
namespace An.S
open Go Go.Proofs An
set_option maxHeartbeats 2000000
instance fi235:FnI Tryz.prog 235:=⟨_,Tryz.func235,by kernel_rfl,rfl⟩
theorem c_RTrim (a:List Nat):
  Ct Tryz.prog 235 [tLm a] (tLm (trimL a)):=by
 refine Ct.intro Tryz.func235 rfl Tryz.ntmps235 rfl ?_
 intro w F
 refine C_len (s:=0) rfl (fun hl0=> ?_)
 refine A9 ?_
 refine A5 ?_
 refine cL (fun (k:Nat)=>k≤a.length∧trimL (a.take k)=trimL a) (fun (k:Nat)=>upd (upd (fun _=>none) 0 (some (.val (tLm a)))) 3 (some (.val (tI k)))) (fun (k:Nat)=>fun _=>none) [] (fun (k:Nat)=>k) (a.length) ⟨Nat.le_refl _,by rw [List.take_length]⟩ ?_
 intro k hI
 obtain ⟨hk,hc⟩:=hI
 refine A6 ?_
 refine RGcaseD (t:=8) rfl (fun h12=> ?_) (fun h12=> ?_)
 ·
  refine A2 ?_
  refine RGon (decide_eq_true h12) rfl (xe4 (wr64 (by omega) (by omega))) rfl ⟨rfl,rfl,trivial⟩ trivial trivial (RGon (decide_eq_true h12) rfl (x6 sl26 (k - 1) (by omega) (gN (by omega))) rfl ⟨rfl,rfl,trivial⟩ trivial trivial ?_)
  refine A5 ?_
  refine x9 rfl (fun h12_2=> ?_) (fun h12_2=> ?_)
  ·
   refine A9 ?_
   exact kF (k - 1) ⟨⟨by omega,by rw [trim_step' hk (by omega) (by omega)];exact hc⟩,(by omega)⟩
  ·
   refine A9 ?_
   refine R2 (d_sliceTo sl26 k (by omega) (by omega) rfl) rfl rfl ?_
   refine A4 ?_
   exact x4 Plain.mk' rfl rfl (Le.of (congrArg tLm (by rw [←hc,trim_stop' hk (by omega) (by omega)])))
 ·
  refine A9 ?_
  refine A9 ?_
  refine A1 ?_
  refine R2 (d_sliceTo sl26 k (by omega) (by omega) rfl) rfl rfl ?_
  refine A4 ?_
  exact x4 Plain.mk' rfl rfl (Le.of (congrArg tLm (by rw [←hc,show k=0 by omega,List.take_zero];rfl)))
theorem c_RLess (a b:Nat):
  Ct Tryz.prog 231 [tM a,tM b] (tB (decide (a < b))):=by
 refine Ct.intro Tryz.func231 rfl Tryz.ntmps231 rfl ?_
 intro w F
 refine C_len (s:=0) rfl (fun hl0=> ?_)
 refine C_len (s:=1) rfl (fun hl1=> ?_)
 have ha:=xh0 x7 a
 have hb:=xh0 x7 b
 refine A9 ?_
 refine A6 ?_
 refine x9 rfl (fun h20=> ?_) (fun h20=> ?_)
 ·
  refine A9 ?_
  refine A3 ?_
  exact x4 Plain.mk' rfl rfl (Le.bool (decide_eq_decide.2 ⟨fun h=>len_lt x7 (by omega),fun h=>by have:=xe7 x7 (Nat.le_of_lt h);omega⟩))
 ·
  refine A9 ?_
  refine A3 ?_
  have hlen:(dig 65536 a).length=(dig 65536 b).length:=by omega
  rw [←hlen] at hb
  refine cL (fun (k:Nat)=>k≤(dig 65536 a).length∧a / 65536 ^ k=b / 65536 ^ k) (fun (k:Nat)=>upd (upd (upd (fun _=>none) 0 (some (.val (tM a)))) 1 (some (.val (tM b)))) 5 (some (.val (tI ((k:Int) - 1))))) (fun (k:Nat)=>fun _=>none) [] (fun (k:Nat)=>k) ((dig 65536 a).length) ⟨Nat.le_refl _,by rw [Nat.div_eq_of_lt ha,Nat.div_eq_of_lt hb]⟩ ?_
  intro k hI
  obtain ⟨hk,hc⟩:=hI
  refine A7 ?_
  refine x9 rfl (fun h23=> ?_) (fun h23=> ?_)
  ·
   obtain ⟨j,rfl⟩: ∃j,k=j+1:=⟨k - 1,by omega⟩
   refine A8 ?_
   refine R2 (x6 sl26 (j) (by omega) (gN (by omega))) rfl rfl ?_
   refine A3 ?_
   refine R2 (x6 sl26 (j) (by omega) (gN (by omega))) rfl rfl ?_
   refine A4 ?_
   refine x9 rfl (fun h24=> ?_) (fun h24=> ?_)
   ·
    refine A4 ?_
    refine R2 (x6 sl26 (j) (by omega) (gN (by omega))) rfl rfl ?_
    refine A3 ?_
    refine R2 (x6 sl26 (j) (by omega) (gN (by omega))) rfl rfl ?_
    refine A9 ?_
    refine A2 ?_
    exact x4 Plain.mk' rfl rfl (Le.bool (decide_eq_decide.2 ⟨fun h=>dig_lt_of x7 hc (by omega),fun h=>Classical.byContradiction fun h2=>by have:=dig_lt_of x7 hc.symm (show (dig 65536 b).getD j 0 < (dig 65536 a).getD j 0 by omega);omega⟩))
   ·
    refine A8 ?_
    exact kF (j) ⟨⟨by omega,cmp_step (by decide) hc (by rw [←xc4 x7,←xc4 x7];omega)⟩,(by omega)⟩
  ·
   refine A9 ?_
   refine A2 ?_
   exact x4 Plain.mk' rfl rfl (Le.bool (decide_eq_false (by have h0:=hc;rw [show k=0 by omega] at h0;simp at h0;omega)).symm)
theorem len_ne {v:Nat}:(0:Int) < ((dig 65536 v).length:Nat)↔v≠0:=by
  have h:(dig 65536 v).length=0↔v=0:=by rw [List.length_eq_zero_iff,xi1 x7]
  omega
theorem c_RMake (p:Bool) (v:Nat):
  Ct Tryz.prog 203 [tB p,tM v] (tWh (wh (sgn p v))):=by
 refine Ct.intro Tryz.func203 rfl Tryz.ntmps203 rfl ?_
 intro w F
 refine A2 ?_
 refine RE (xa6 (k:=4) (n:=2) (agg:=true) zr28.1 zr28.2 rfl) trivial trivial ⟨rfl,trivial⟩ ?_
 refine A6 ?_
 refine RGcase (t:=6) rfl (fun h129=> ?_) (fun h129=> ?_)
 ·
  refine A5 ?_
  refine R2 (xb0 (r:=tS [⟨1,false,tB (decide ((0:Int) < ((dig 65536 v).length:Nat)))⟩,⟨1,false,tM v⟩]) (ts:=[(0,tB (decide ((0:Int) < ((dig 65536 v).length:Nat)))),(1,tM v)]) bu28 zr28.2 ⟨_,rfl⟩ rfl ⟨_,_,_,_,rfl,Up.f (fs:=[⟨1,false,(tE (.bool false))⟩,⟨1,false,(tLm [])⟩]) (f:=⟨1,false,(tE (.bool false))⟩) (fs':=[⟨1,false,tB (decide ((0:Int) < ((dig 65536 v).length:Nat)))⟩,⟨1,false,(tLm [])⟩]) 0 rfl rfl rfl,inferInstance,⟨_,_,_,_,rfl,Up.f (fs:=[⟨1,false,tB (decide ((0:Int) < ((dig 65536 v).length:Nat)))⟩,⟨1,false,(tLm [])⟩]) (f:=⟨1,false,(tLm [])⟩) (fs':=[⟨1,false,tB (decide ((0:Int) < ((dig 65536 v).length:Nat)))⟩,⟨1,false,tM v⟩]) 1 rfl rfl rfl,inferInstance,Le.refl⟩⟩) rfl rfl ?_
  refine A4 ?_
  exact xd5 Plain.mk' rfl ⟨_,_,_,_,_,rfl,rfl,ti28,(Le.of (by rw [wh_sgn,h129,Bool.true_and,decide_eq_decide.2 (show (0:Int) < ((dig 65536 v).length:Nat)↔v≠0 from len_ne)]))⟩
 ·
  refine A5 ?_
  refine R2 (xb0 (r:=tS [⟨1,false,tB false⟩,⟨1,false,tM v⟩]) (ts:=[(0,tB false),(1,tM v)]) bu28 zr28.2 ⟨_,rfl⟩ rfl ⟨_,_,_,_,rfl,Up.f (fs:=[⟨1,false,(tE (.bool false))⟩,⟨1,false,(tLm [])⟩]) (f:=⟨1,false,(tE (.bool false))⟩) (fs':=[⟨1,false,tB false⟩,⟨1,false,(tLm [])⟩]) 0 rfl rfl rfl,inferInstance,⟨_,_,_,_,rfl,Up.f (fs:=[⟨1,false,tB false⟩,⟨1,false,(tLm [])⟩]) (f:=⟨1,false,(tLm [])⟩) (fs':=[⟨1,false,tB false⟩,⟨1,false,tM v⟩]) 1 rfl rfl rfl,inferInstance,Le.refl⟩⟩) rfl rfl ?_
  refine A4 ?_
  exact xd5 Plain.mk' rfl ⟨_,_,_,_,_,rfl,rfl,ti28,(Le.of (by rw [wh_sgn,h129,Bool.false_and]))⟩
theorem iquo64 {a b:Nat} (ha:a < 9223372036854775808):IntKind.i64.wrap ((a:Int).tdiv (b:Int))=((a / b:Nat):Int):=by
  rw [Int.tdiv_eq_ediv_of_nonneg (by omega)]
  have h:(a:Int) / (b:Int)=((a / b:Nat):Int):=(Int.natCast_ediv a b).symm
  rw [h]
  have:=Nat.div_le_self a b
  generalize a / b=q at*
  exact wr64 (by omega) (by omega)
theorem c_RShort (a d:Nat) (ha:(dig 65536 a).length≤100000) (hd:0 < d) (hdW:d < 65536):
  Ct Tryz.prog 230 [tM a,tI d] (tT [tM (a / d),tM (a%d)]):=by
 refine Ct.intro Tryz.func230 rfl Tryz.ntmps230 rfl ?_
 intro w F
 refine A9 ?_
 refine A1 ?_
 refine RE (xg8 (k:=11) (t:=tE (.int .u16 0)) (ts:=rW .u16 (List.replicate ((dig 65536 a).length) 0)) ((dig 65536 a).length) ((dig 65536 a).length) Tryz.underlying26 el42 (fun _ _=>rfl) rfl (by omega) (by omega) (Nat.le_refl _) (by omega) (by omega) (rW_rep _)) ⟨rfl,rfl,trivial⟩ trivial ⟨rfl,trivial⟩ ?_
 refine A9 ?_
 refine A9 ?_
 refine cL (fun (fm:(Nat)×(List Nat))=>(fun (k:Nat) (qs:List Nat)=>k≤(dig 65536 a).length∧qs.length=(dig 65536 a).length∧Dig 65536 qs∧val 65536 (qs.drop k)=a / 65536 ^ k / d) fm.1 fm.2) (fun (fm:(Nat)×(List Nat))=>(fun (k:Nat) (qs:List Nat)=>upd (upd (upd (upd (upd (fun _=>none) 0 (some (.val (tM a)))) 1 (some (.val (tI d)))) 6 (some (.own (.sl 11 1 0 (dig 65536 a).length)))) 7 (some (.val (tI ((a / 65536 ^ k%d:Nat):Int))))) 8 (some (.val (tI ((k:Int) - 1))))) fm.1 fm.2) (fun (fm:(Nat)×(List Nat))=>(fun (k:Nat) (qs:List Nat)=>upd (fun _=>none) 11 (some (⟨42,1,false,rW .u16 qs⟩))) fm.1 fm.2) [11] (fun (fm:(Nat)×(List Nat))=>(fun (k:Nat) (qs:List Nat)=>k) fm.1 fm.2) (((dig 65536 a).length,List.replicate (dig 65536 a).length 0)) (by dsimp only;exact ⟨Nat.le_refl _,by simp,Dig.rep (by decide) _,by rw [Nat.div_eq_of_lt (xh0 x7 a),Nat.zero_div,List.drop_replicate,xg5]⟩) (hg:=(sI (Sub.le rfl (Le.int (by dsimp only;rw [Nat.div_eq_of_lt (xh0 x7 a),Nat.zero_mod];rfl)) (sC (sI (sC Sub.nil)))))) (hh:=((SubK.consI rfl ImpK.refl) SubK.nil)) ?_
 intro fm hI
 obtain ⟨k,qs⟩:=fm
 replace hI:k≤(dig 65536 a).length∧qs.length=(dig 65536 a).length∧Dig 65536 qs∧val 65536 (qs.drop k)=a / 65536 ^ k / d:=hI
 show wc _ _ _ _ (upd (upd (upd (upd (upd (fun _=>none) 0 (some (.val (tM a)))) 1 (some (.val (tI d)))) 6 (some (.own (.sl 11 1 0 (dig 65536 a).length)))) 7 (some (.val (tI ((a / 65536 ^ k%d:Nat):Int))))) 8 (some (.val (tI ((k:Int) - 1))))) (upd (fun _=>none) 11 (some (⟨42,1,false,rW .u16 qs⟩))) _
 obtain ⟨hk,hl,hD,hv⟩:=hI
 have hr:a / 65536 ^ k%d < d:=Nat.mod_lt _ hd
 refine A7 ?_
 refine x9 rfl (fun h93=> ?_) (fun h93=> ?_)
 ·
  obtain ⟨j,rfl⟩: ∃j,k=j+1:=⟨k - 1,by omega⟩
  have hx:=xc4 x7 a j
  have hx1:=(xc3 x7 a).getD (by decide) j
  obtain ⟨n1,n2,n3,n4,n5⟩:=short_in (k:=j) (by omega) hl hD hd rfl hv (by rw [←hx])
  have hq0:=Nat.zero_le (((a / 65536 ^ (j+1)%d)*65536+(dig 65536 a).getD j 0) / d)
  refine A7 ?_
  refine R2 (d_mul (r:=(((a / 65536 ^ (j+1)%d)*65536:Nat):Int)) (by rw [wr64 (by omega) (by omega)];omega)) rfl rfl ?_
  refine A2 ?_
  refine R2 (x6 sl26 (j) (by omega) (gN (by omega))) rfl rfl ?_
  refine A1 ?_
  refine R1 (x8 Tryz.underlying3 (isS Tryz.underlying42) (wr64 (by omega) (by omega))) rfl (R2 (xd4 (r:=((((a / 65536 ^ (j+1)%d)*65536+(dig 65536 a).getD j 0):Nat):Int)) (by rw [wr64 (by omega) (by omega)];omega)) rfl rfl ?_)
  refine A9 ?_
  refine R2 (d_quo (r:=((((a / 65536 ^ (j+1)%d)*65536+(dig 65536 a).getD j 0) / d:Nat):Int)) (by omega) (iquo64 (by omega))) rfl rfl (R1 (x8 Tryz.underlying42 (isS Tryz.underlying3) (wu16 (by omega) (by omega))) rfl (R2 (xa5 sl26 (by omega) (by omega) rfl) rfl rfl (RE (xc6 (j) ti42 (rW_lt (by omega)) (by omega) (rW_set (m:=_) rfl)) ⟨rfl,rfl,trivial⟩ ⟨rfl,trivial⟩ trivial ?_)))
  refine A5 ?_
  refine R2 (d_rem (by omega) wrem64) rfl rfl ?_
  refine A9 ?_
  exact kF ((j,qs.set j (((a / 65536 ^ (j+1)%d)*65536+(dig 65536 a).getD j 0) / d))) ⟨(by dsimp only;exact ⟨by omega,n1,n2,n4⟩),(by dsimp only;omega)⟩ (hg:=(sI (Sub.le rfl (Le.int (by dsimp only;rw [hx,n3])) (sC (sI (sC Sub.nil)))))) (hh:=((SubK.consI rfl ImpK.refl) SubK.nil))
 ·
  have hk0:k=0:=by omega
  subst hk0
  rw [List.drop_zero,Nat.pow_zero,Nat.div_one] at hv
  refine A7 ?_
  refine RE (xg0 (f:=fun n:Nat=>tE (.int .u16 n)) (fun _ h=>h) (rW_all hl) hl) ⟨rfl,trivial⟩ ⟨rfl,trivial⟩ trivial (R1 (x3 (c_RTrim _) fi235 rfl) rfl ?_)
  refine A1 ?_
  refine R1 (x8 Tryz.underlying42 (isS Tryz.underlying3) (wu16 (by omega) (by omega))) rfl (R1 (d_nums (n:=1) [a / 65536 ^ 0%d] Tryz.underlying26 el42 zf42 rfl rfl rfl) rfl (R1 (x3 (c_RTrim _) fi235 rfl) rfl ?_))
  refine A5 ?_
  exact xc8 Plain.mk' rfl rfl rfl (Le.of (congrArg tLm (by rw [xf0 x7 hD,hv]))) (Le.of (congrArg tLm (by rw [trim1L (by omega),Nat.pow_zero,Nat.div_one])))
end An.S
