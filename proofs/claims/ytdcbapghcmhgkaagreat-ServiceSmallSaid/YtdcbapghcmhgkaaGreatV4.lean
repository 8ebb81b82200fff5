/- Part 4 of a proof: S9, S10, S11, N1, Sv, Tv, Tv2, Tv3, LibZe, LibZd, Tw, LibZf, P1, Gs, Tx, Chg, Chg2a, Ty, LibZc, P2, LibZg, P3, P4, V16, V17, V18, V19, U20, Ref4, U34, X1, X2, X3, LibLx, X4, Y0, R5. -/
import Derived.Shelf.Sort.Plain
import Derived.Shelf.Slices.In.SortNone
import Derived.Shelf.Slices.CompactI
import Derived.Test.YtdcbapghcmhgkaaGreatV3
set_option maxHeartbeats 4000000
set_option maxRecDepth 100000
namespace An.S
open Go Go.Proofs An
instance ti22:TyI Tryz.prog 22 1 false:=⟨by kernel_rfl,by kernel_rfl⟩
instance ti72:TyI Tryz.prog 72 3 true:=⟨by kernel_rfl,by kernel_rfl⟩
instance fo72_0:FoI Tryz.prog 72 0 0:=⟨by kernel_rfl⟩
instance fo72_1:FoI Tryz.prog 72 1 2:=⟨by kernel_rfl⟩
instance fi35:FnI Tryz.prog 35:=⟨_,Tryz.func35,by kernel_rfl,rfl⟩
instance fi55:FnI Tryz.prog 55:=⟨_,Tryz.func55,by kernel_rfl,rfl⟩
instance fi61:FnI Tryz.prog 61:=⟨_,Tryz.func61,by kernel_rfl,rfl⟩
instance fi75:FnI Tryz.prog 75:=⟨_,Tryz.func75,by kernel_rfl,rfl⟩
instance fi85:FnI Tryz.prog 85:=⟨_,Tryz.func85,by kernel_rfl,rfl⟩
instance fi86:FnI Tryz.prog 86:=⟨_,Tryz.func86,by kernel_rfl,rfl⟩
theorem zr72:(Tryz.prog.info? 72).bind (·.zero)=some (.agg #[.int .i64 0,.int .i64 0,.slice none 0 0])∧ ∀F w,(tS [⟨2,true,(tS [⟨1,false,(tE (.int .i64 0))⟩,⟨1,false,(tE (.int .i64 0))⟩])⟩,⟨1,false,(tE (.slice none 0 0))⟩]).p F w (.agg #[.int .i64 0,.int .i64 0,.slice none 0 0]):=⟨by kernel_rfl,fun _ _=>⟨_,rfl,rfl,⟨fun h=>Bool.noConfusion h,⟨_,rfl,rfl,⟨fun _=>rfl,rfl⟩,⟨fun _=>rfl,rfl⟩,trivial⟩⟩,⟨fun _=>rfl,rfl⟩,trivial⟩⟩
theorem bu72:BuI Tryz.prog 72 (fun i=>[(0,2),(2,1)][i]?) (.agg #[.int .i64 0,.int .i64 0,.slice none 0 0]):=BuI.struct Tryz.underlying72 (by kernel_rfl) (by kernel_rfl)
theorem c_FCmpV (f g:Fr) (hf:f.dig) (hg:g.dig) (vf:f.valid=true) (vg:g.valid=true):Ct Tryz.prog 61 [tFr f,tFr g] (tI (cmpQ f.rat g.rat)):=by
 obtain ⟨e1,s1⟩:=Fr.of_valid' hf vf
 obtain ⟨e2,s2⟩:=Fr.of_valid' hg vg
 have h:=c_FCmp f.rat g.rat s1 s2
 rw [←e1,←e2] at h;exact h
theorem short_one:short (1:Rat):=xh6 (n:=1) (by show (wh 1).l.length≤256;rw [wh_one];decide)
theorem c_FCmp1 (f:Fr) (hf:f.dig) (vf:f.valid=true):Ct Tryz.prog 61 [tFr f,tFr (fr ((1:Int):Rat))] (tI (cmpQ f.rat 1)):=by
 have h:=c_FCmpV f (fr ((1:Int):Rat)) hf ⟨xc6 xa0 _,xc6 xa0 _⟩ vf (valid_fr short_one)
 rw [rat_fr] at h;exact h
theorem xj3 {a b:Rat}:0 < cmpQ a b↔ ¬a≤b:=by
 simp only [cmpQ]
 split
 ·rename_i h;simp [Rat.le_of_lt h]
 ·rename_i h
  split
  ·rename_i h2;subst h2;simp
  ·rename_i h2
   simp only [Int.zero_lt_one,true_iff]
   intro h3
   rcases Rat.le_iff_lt_or_eq.1 h3 with h4 | h4
   ·exact h h4
   ·exact h2 h4
theorem num_valid {v:Va} (h:v.valid=true) (hk:v.kind=2):v.f.valid=true:=by
 rw [Va.valid,if_pos (.inl hk),Bool.and_eq_true] at h;exact h.2
theorem sOk_not {s:Tst} {b:Bool} (h:b=false↔s.v.kind=2∧s.v.f.n.neg=false∧s.v.f.rat≤1):b= !sOk s:=by
 cases b
 ·have h:=h.1 rfl
  simp [sOk,h]
 ·have h: ¬(s.v.kind=2∧s.v.f.n.neg=false∧s.v.f.rat≤1):=fun h'=>by have:=h.2 h';cases this
  by_cases h1:sOk s=true
  ·simp only [sOk,Bool.and_eq_true,decide_eq_true_eq,Bool.not_eq_true'] at h1
   exact (h ⟨h1.1.1,h1.1.2,h1.2⟩).elim
  ·simp [h1]
theorem all_any2 {l:List Tst}:(!l.any fun s=> !sOk s)=l.all sOk:=by
 rw [List.not_any_eq_all_not];simp
theorem c_SvR1 (s:Tst) (hv:s.v.valid=true) (hD:s.v.f.dig):
  CtG Tryz.prog 75 [(3,⟨30,4,true,[.val (tFr (fr ((1:Int):Rat)))]⟩)] [.val (tTs s),.own (.ptr 3 0)] (.val (tB (!sOk s))) [(3,⟨30,4,true,[.val (tFr (fr ((1:Int):Rat)))]⟩)] []:=by
 refine CtG.intro [3] Tryz.func75 rfl Tryz.ntmps75 rfl rfl ⟨⟨rfl,(SupX.lit rfl)⟩,trivial⟩ ?_
 intro w F η
 refine A10 ?_
 refine xh1 (0) ti5 rfl rfl rfl (At.t (At.g 2 rfl rfl) (At.g 0 rfl rfl)) rfl ?_
 refine A2 ?_
 refine RGcaseD (t:=8) rfl (fun h59=> ?_) (fun h59=> ?_)
 ·
  refine A18 ?_
  exact xe8 LentC.mk' rfl rfl (Imp.le (Le.bool (sOk_not (by first | (simp;omega) | (simp [*];done) | (simp [xj3, *];omega) | (simp [xj3, *]))))) ⟨rfl,trivial⟩ rfl ⟨⟨rfl,(SupX.lit rfl)⟩,trivial⟩ rfl
 ·
  refine A4 ?_
  refine xd0 (decide_eq_false h59) rfl rfl (0) ti4 rfl rfl rfl (At.t (At.g 2 rfl rfl) (At.t (At.g 1 rfl rfl) (At.t (At.g 0 rfl rfl) (At.g 0 rfl rfl)))) rfl ?_
  refine A2 ?_
  refine RGcase (t:=15) rfl (fun h59_2=> ?_) (fun h59_2=> ?_)
  ·
   refine A11 ?_
   exact xe8 LentC.mk' rfl rfl (Imp.le (Le.bool (sOk_not (by first | (simp;omega) | (simp [*];done) | (simp [xj3, *];omega) | (simp [xj3, *]))))) ⟨rfl,trivial⟩ rfl ⟨⟨rfl,(SupX.lit rfl)⟩,trivial⟩ rfl
  ·
   refine A2 ?_
   refine xd0 h59_2 rfl rfl (0) ti30 rfl rfl rfl (At.t (At.g 2 rfl rfl) (At.g 1 rfl rfl)) rfl ?_
   refine A1 ?_
   refine RGon h59_2 rfl (x3 (c_FCmp1 s.v.f hD (num_valid hv (by omega))) fi61 rfl) rfl ⟨rfl,rfl,trivial⟩ trivial trivial ?_
   refine A6 ?_
   exact xe8 LentC.mk' rfl rfl (Imp.le (Le.bool (sOk_not (by first | (simp;omega) | (simp [*];done) | (simp [xj3, *];omega) | (simp [xj3, *]))))) ⟨rfl,trivial⟩ rfl ⟨⟨rfl,(SupX.lit rfl)⟩,trivial⟩ rfl
theorem c_SvIndex (l:List Tst) (hv: ∀s∈l,s.v.valid=true) (hD: ∀s∈l,s.v.f.dig):
  CtG Tryz.prog 145 [(3,⟨30,4,true,[.val (tFr (fr ((1:Int):Rat)))]⟩)] [.val (tL 8 true tTs l),.own (.fn 75 [.ptr 3 0])] (.val (tI (ixF (fun s:Tst=> !sOk s) l))) [(3,⟨30,4,true,[.val (tFr (fr ((1:Int):Rat)))]⟩)] []:=by
 refine CtG.intro [3] Tryz.func145 rfl Tryz.ntmps145 rfl rfl ⟨⟨rfl,(SupX.lit rfl)⟩,trivial⟩ ?_
 intro w F η
 refine xj2 (s:=0) rfl (fun hl0=> ?_)
 refine A14 ?_
 refine cL (fun (i:Nat)=>i≤l.length∧(l.take i).any (fun s:Tst=> !sOk s)=false) (fun (i:Nat)=>upd (upd (upd (upd (fun _=>none) 0 (some (.val (tL 8 true tTs l)))) 1 (some (.own (.fn 75 [.ptr 3 0])))) 7 (some (.val (tI l.length)))) 8 (some (.val (tI i)))) (fun (i:Nat)=>upd (fun _=>none) 3 (some (⟨30,4,true,[.val (tFr (fr ((1:Int):Rat)))]⟩))) [3] (fun (i:Nat)=>l.length - i) (0) ⟨Nat.zero_le _,rfl⟩ ?_
 intro i hI
 obtain ⟨hi,ha⟩:=hI
 refine A6 ?_
 refine x8 rfl (fun h108=> ?_) (fun h108=> ?_)
 ·
  refine A15 ?_
  refine R2 (x6 sl22 (i) (by omega) (gD (l:=l) (n:=i) (d:=tst0) (by omega))) rfl rfl ?_
  refine A1 ?_
  refine RE (xp3 (ps:=[.val (tTs _)]) (caps:=[.ptr 3 0]) (fun _=>3) (c_SvR1 (l.getD i tst0) (hv _ (xd5 (by omega))) (hD _ (xd5 (by omega)))) fi75 rfl (krC (ρ:=fun _=>3) (k:=3) rfl (krN (ρ:=fun _=>3))) (krC (ρ:=fun _=>3) (k:=3) rfl (krN (ρ:=fun _=>3))) ⟨⟨rfl,(SupX.lit rfl)⟩,trivial⟩ rfl) ⟨rfl,rfl,trivial⟩ ⟨rfl,trivial⟩ trivial ?_
  refine A2 ?_
  refine xd4 rfl (fun h109=> ?_) (fun h109=> ?_)
  ·
   refine A12 ?_
   exact xe8 LentC.mk' rfl rfl (Imp.int (ixF_at (by omega) ha h109)) ⟨rfl,trivial⟩ rfl ⟨⟨rfl,(SupX.lit rfl)⟩,trivial⟩ rfl
  ·
   refine A7 ?_
   exact kF (i+1) ⟨⟨by omega,by rw [any_next (by omega),ha,h109];rfl⟩,(by omega)⟩
 ·
  refine A11 ?_
  exact xe8 LentC.mk' rfl rfl (Imp.int (ixF_end (by rw [←ha,show i=l.length by omega,List.take_length]))) ⟨rfl,trivial⟩ rfl ⟨⟨rfl,(SupX.lit rfl)⟩,trivial⟩ rfl
theorem c_SvContains (l:List Tst) (hv: ∀s∈l,s.v.valid=true) (hD: ∀s∈l,s.v.f.dig):
  CtG Tryz.prog 74 [(3,⟨30,4,true,[.val (tFr (fr ((1:Int):Rat)))]⟩)] [.val (tL 8 true tTs l),.own (.fn 75 [.ptr 3 0])] (.val (tB (l.any (fun s:Tst=> !sOk s)))) [(3,⟨30,4,true,[.val (tFr (fr ((1:Int):Rat)))]⟩)] []:=by
 refine CtG.intro [3] Tryz.func74 rfl Tryz.ntmps74 rfl rfl ⟨⟨rfl,(SupX.lit rfl)⟩,trivial⟩ ?_
 intro w F η
 refine A9 ?_
 refine RE (xe2 (fun _=>3) (c_SvIndex l hv hD) fi145 rfl (krC (ρ:=fun _=>3) (k:=3) rfl (krN (ρ:=fun _=>3))) (krC (ρ:=fun _=>3) (k:=3) rfl (krN (ρ:=fun _=>3))) ⟨⟨rfl,(SupX.lit rfl)⟩,trivial⟩ rfl) ⟨rfl,rfl,trivial⟩ ⟨rfl,trivial⟩ trivial ?_
 refine A5 ?_
 exact xe8 LentC.mk' rfl rfl (Imp.le (Le.bool ixF_any)) ⟨rfl,trivial⟩ rfl ⟨⟨rfl,(SupX.lit rfl)⟩,trivial⟩ rfl
theorem c_SvRight (l:List Tst) (hD: ∀s∈l,s.v.f.dig):
  Ct Tryz.prog 35 [tL 8 true tTs l] (tB (sRight l)):=by
 refine Ct.intro Tryz.func35 rfl Tryz.ntmps35 rfl ?_
 intro w F
 refine A9 ?_
 refine R1 (x3 (c_TRight l hD) fi73 rfl) rfl ?_
 refine A3 ?_
 refine xd4 rfl (fun h54=> ?_) (fun h54=> ?_)
 ·
  refine A7 ?_
  exact x4 Plain.mk' rfl rfl (Le.bool (by rw [sRight,show tRight l=false by simpa using h54];rfl))
 ·
  have ht:tRight l=true:=by simpa using h54
  have hv:=xr0 ht
  refine A4 ?_
  refine R1 (x3 (xk2 1 (by decide) (by decide)) fi56 rfl) rfl (RE (x9 (k:=3) (n:=4) (agg:=true) zr30.1 zr30.2 rfl) trivial trivial ⟨rfl,trivial⟩ ?_)
  refine A6 ?_
  refine R1 (xp5 (ps:=[.ptr 3 0]) rfl) rfl (RE (xe2 (fun _=>3) (c_SvContains l hv hD) fi74 rfl (krC (ρ:=fun _=>3) (k:=3) rfl (krN (ρ:=fun _=>3))) (krC (ρ:=fun _=>3) (k:=3) rfl (krN (ρ:=fun _=>3))) ⟨⟨rfl,(SupX.lit rfl)⟩,trivial⟩ rfl) ⟨rfl,rfl,trivial⟩ ⟨rfl,trivial⟩ trivial ?_)
  refine A5 ?_
  exact x4 Plain.mk' rfl rfl (Le.bool (by rw [sRight,ht,Bool.true_and,←all_any2]))
abbrev tRec (l:List Tst) (a b:Int):Ty:=tS [⟨2,true,tSn ⟨a,b⟩⟩,⟨1,false,tL 8 true tTs l⟩]
def askB (l:List Tst) (a b:Int):Bool:=sRight l && decide (0≤a) && decide (a≤65536) && decide (0≤b) && decide (b≤65536)
theorem askB_iff {l:List Tst} {a b:Int}:askB l a b=true↔sRight l=true∧0≤a∧a≤65536∧0≤b∧b≤65536:=by
 simp only [askB,Bool.and_eq_true,decide_eq_true_eq,and_assoc]
theorem xs9 (l:List Tst) (a b:Int) (hD: ∀s∈l,s.v.f.dig):
  Ct Tryz.prog 44 [tL 8 true tTs l,tI a,tI b] (tT [tRec l a b,tB (askB l a b)]):=by
 refine Ct.intro Tryz.func44 rfl Tryz.ntmps44 rfl ?_
 intro w F
 refine A2 ?_
 refine RE (x9 (k:=6) (n:=3) (agg:=true) zr72.1 zr72.2 rfl) trivial trivial ⟨rfl,trivial⟩ ?_
 refine A6 ?_
 refine R1 (x3 (c_SvRight l hD) fi35 rfl) rfl ?_
 refine A1 ?_
 refine RGcase (t:=11) rfl (fun h25=> ?_) (fun h25=> ?_)
 ·
  refine A4 ?_
  refine RGcaseD (t:=15) rfl (fun h25_2=> ?_) (fun h25_2=> ?_)
  ·
   refine A4 ?_
   refine RGcaseD (t:=19) rfl (fun h25_3=> ?_) (fun h25_3=> ?_)
   ·
    refine A4 ?_
    refine RGcaseD (t:=23) rfl (fun h25_4=> ?_) (fun h25_4=> ?_)
    ·
     refine A10 ?_
     refine R2 (xb8 (r:=tS [⟨1,false,tI a⟩,⟨1,false,tI b⟩]) (ts:=[(0,tI a),(1,tI b)]) bu62 zr62.2 (Bc 0 rfl rfl rfl (Bc 1 rfl rfl rfl Le.refl))) rfl rfl ?_
     refine A1 ?_
     refine R2 (xb8 (r:=tS [⟨2,true,tSn ⟨a,b⟩⟩,⟨1,false,tL 8 true tTs l⟩]) (ts:=[(0,tSn ⟨a,b⟩),(1,tL 8 true tTs l)]) bu72 zr72.2 (Bc 0 rfl rfl rfl (Bc 1 rfl rfl rfl Le.refl))) rfl rfl ?_
     refine A6 ?_
     exact xb9 Plain.mk' (rs:=[.cell 6 72,.tmp 7]) rfl rfl ⟨⟨_,_,_,_,_,rfl,rfl,ti72,Le.refl⟩,⟨_,rfl,(Le.bool (by simp only [askB];simp [*]))⟩,trivial⟩
    ·
     refine A10 ?_
     refine R2 (xb8 (r:=tS [⟨1,false,tI a⟩,⟨1,false,tI b⟩]) (ts:=[(0,tI a),(1,tI b)]) bu62 zr62.2 (Bc 0 rfl rfl rfl (Bc 1 rfl rfl rfl Le.refl))) rfl rfl ?_
     refine A1 ?_
     refine R2 (xb8 (r:=tS [⟨2,true,tSn ⟨a,b⟩⟩,⟨1,false,tL 8 true tTs l⟩]) (ts:=[(0,tSn ⟨a,b⟩),(1,tL 8 true tTs l)]) bu72 zr72.2 (Bc 0 rfl rfl rfl (Bc 1 rfl rfl rfl Le.refl))) rfl rfl ?_
     refine A6 ?_
     exact xb9 Plain.mk' (rs:=[.cell 6 72,.tmp 7]) rfl rfl ⟨⟨_,_,_,_,_,rfl,rfl,ti72,Le.refl⟩,⟨_,rfl,(Le.bool (by simp only [askB];simp [*]))⟩,trivial⟩
   ·
    refine A14 ?_
    refine R2 (xb8 (r:=tS [⟨1,false,tI a⟩,⟨1,false,tI b⟩]) (ts:=[(0,tI a),(1,tI b)]) bu62 zr62.2 (Bc 0 rfl rfl rfl (Bc 1 rfl rfl rfl Le.refl))) rfl rfl ?_
    refine A1 ?_
    refine R2 (xb8 (r:=tS [⟨2,true,tSn ⟨a,b⟩⟩,⟨1,false,tL 8 true tTs l⟩]) (ts:=[(0,tSn ⟨a,b⟩),(1,tL 8 true tTs l)]) bu72 zr72.2 (Bc 0 rfl rfl rfl (Bc 1 rfl rfl rfl Le.refl))) rfl rfl ?_
    refine A6 ?_
    exact xb9 Plain.mk' (rs:=[.cell 6 72,.tmp 7]) rfl rfl ⟨⟨_,_,_,_,_,rfl,rfl,ti72,Le.refl⟩,⟨_,rfl,(Le.bool (by simp only [askB];simp [*]))⟩,trivial⟩
  ·
   refine A18 ?_
   refine R2 (xb8 (r:=tS [⟨1,false,tI a⟩,⟨1,false,tI b⟩]) (ts:=[(0,tI a),(1,tI b)]) bu62 zr62.2 (Bc 0 rfl rfl rfl (Bc 1 rfl rfl rfl Le.refl))) rfl rfl ?_
   refine A1 ?_
   refine R2 (xb8 (r:=tS [⟨2,true,tSn ⟨a,b⟩⟩,⟨1,false,tL 8 true tTs l⟩]) (ts:=[(0,tSn ⟨a,b⟩),(1,tL 8 true tTs l)]) bu72 zr72.2 (Bc 0 rfl rfl rfl (Bc 1 rfl rfl rfl Le.refl))) rfl rfl ?_
   refine A6 ?_
   exact xb9 Plain.mk' (rs:=[.cell 6 72,.tmp 7]) rfl rfl ⟨⟨_,_,_,_,_,rfl,rfl,ti72,Le.refl⟩,⟨_,rfl,(Le.bool (by simp only [askB];simp [*]))⟩,trivial⟩
 ·
  refine A18 ?_
  refine A4 ?_
  refine R2 (xb8 (r:=tS [⟨1,false,tI a⟩,⟨1,false,tI b⟩]) (ts:=[(0,tI a),(1,tI b)]) bu62 zr62.2 (Bc 0 rfl rfl rfl (Bc 1 rfl rfl rfl Le.refl))) rfl rfl ?_
  refine A1 ?_
  refine R2 (xb8 (r:=tS [⟨2,true,tSn ⟨a,b⟩⟩,⟨1,false,tL 8 true tTs l⟩]) (ts:=[(0,tSn ⟨a,b⟩),(1,tL 8 true tTs l)]) bu72 zr72.2 (Bc 0 rfl rfl rfl (Bc 1 rfl rfl rfl Le.refl))) rfl rfl ?_
  refine A6 ?_
  exact xb9 Plain.mk' (rs:=[.cell 6 72,.tmp 7]) rfl rfl ⟨⟨_,_,_,_,_,rfl,rfl,ti72,Le.refl⟩,⟨_,rfl,(Le.bool (by simp only [askB];simp [*]))⟩,trivial⟩
theorem c_none (l:List Tst) (a b:Int):
  Ct Tryz.prog 55 [tRec l a b] (tB (decide (b≤a))):=by
 refine Ct.intro Tryz.func55 rfl Tryz.ntmps55 rfl ?_
 intro w F
 refine A10 ?_
 refine xh1 (0) ti3 rfl rfl rfl (At.t (At.g 0 rfl rfl) (At.g 1 rfl rfl)) rfl ?_
 refine A2 ?_
 refine xh1 (0) ti3 rfl rfl rfl (At.t (At.g 0 rfl rfl) (At.g 0 rfl rfl)) rfl ?_
 refine A5 ?_
 exact x4 Plain.mk' rfl rfl Le.refl
def idle (a b:Int) (s:Tst):Bool:=decide (s.v.f.n.l.length=0) || decide (s.hi≤a) || decide (b≤s.lo)
theorem idle_iff {a b:Int} {s:Tst}:idle a b s=true↔(s.v.f.n.l.length:Int)=0∨s.hi≤a∨b≤s.lo:=by
 simp only [idle,Bool.or_eq_true,decide_eq_true_eq,or_assoc];omega
theorem idle_eq {a b:Int} {s:Tst} {c:Bool} (h:c=true↔(s.v.f.n.l.length:Int)=0∨s.hi≤a∨b≤s.lo):c=idle a b s:=Bool.eq_iff_iff.2 (h.trans idle_iff.symm)
def clipS (a b:Int) (s:Tst):Sn:=⟨max s.lo a,min s.hi b⟩
def wkS (l:List Tst) (a b:Int):List Sn:=(l.filter fun s=> !idle a b s).map (clipS a b)
def wkd (l:List Tst) (a b:Int):List Sn:=if b≤a then [] else if (wkS l a b).all Sn.ok=true then mkS (wkS l a b) else []
theorem wkS_next {l:List Tst} {a b:Int} {i:Nat} (hi:i < l.length):wkS (l.take (i+1)) a b=wkS (l.take i) a b++(if idle a b (l.getD i tst0) then [] else [clipS a b (l.getD i tst0)]):=by
 rw [wkS,List.take_succ_eq_append_getElem hi,List.filter_append,List.map_append,List.getD_eq_getElem?_getD,List.getElem?_eq_getElem hi]
 by_cases h:idle a b l[i]=true <;> simp [h,wkS]
theorem wkS_len {l:List Tst} {a b:Int}:(wkS l a b).length≤l.length:=by
 rw [wkS,List.length_map];exact List.length_filter_le _ _
theorem c_idle (l:List Tst) (a b:Int) (s:Tst):
  CtG Tryz.prog 85 [(1,⟨72,3,true,[.val (tRec l a b)]⟩)] [.val (tTs s),.own (.ptr 1 0)] (.val (tB (idle a b s))) [(1,⟨72,3,true,[.val (tRec l a b)]⟩)] []:=by
 refine CtG.intro [1] Tryz.func85 rfl Tryz.ntmps85 rfl rfl ⟨⟨rfl,(SupX.lit rfl)⟩,trivial⟩ ?_
 intro w F η
 refine A12 ?_
 refine xh1 (0) ti26 rfl rfl rfl (At.t (At.g 2 rfl rfl) (At.t (At.g 1 rfl rfl) (At.t (At.g 0 rfl rfl) (At.g 1 rfl rfl)))) rfl ?_
 refine A3 ?_
 refine RGcaseD (t:=11) rfl (fun h40=> ?_) (fun h40=> ?_)
 ·
  refine A18 ?_
  refine A1 ?_
  exact xe8 LentC.mk' rfl rfl (Imp.le (Le.bool (idle_eq (by (try dsimp only at*);(try first | simp only [true_iff] | simp only [decide_eq_true_eq]);omega)))) ⟨rfl,trivial⟩ rfl ⟨⟨rfl,(SupX.lit rfl)⟩,trivial⟩ rfl
 ·
  refine A4 ?_
  refine xd0 (decide_eq_false h40) rfl rfl (0) ti3 rfl rfl rfl (At.t (At.g 0 rfl rfl) (At.g 0 rfl rfl)) rfl ?_
  refine A3 ?_
  refine RGcaseD (t:=19) rfl (fun h40_2=> ?_) (fun h40_2=> ?_)
  ·
   refine A11 ?_
   exact xe8 LentC.mk' rfl rfl (Imp.le (Le.bool (idle_eq (by (try dsimp only at*);(try first | simp only [true_iff] | simp only [decide_eq_true_eq]);omega)))) ⟨rfl,trivial⟩ rfl ⟨⟨rfl,(SupX.lit rfl)⟩,trivial⟩ rfl
  ·
   refine A4 ?_
   refine xd0 (decide_eq_false h40_2) rfl rfl (0) ti3 rfl rfl rfl (At.t (At.g 0 rfl rfl) (At.g 1 rfl rfl)) rfl ?_
   refine A6 ?_
   exact xe8 LentC.mk' rfl rfl (Imp.le (Le.bool (idle_eq (by (try dsimp only at*);(try first | simp only [true_iff] | simp only [decide_eq_true_eq]);omega)))) ⟨rfl,trivial⟩ rfl ⟨⟨rfl,(SupX.lit rfl)⟩,trivial⟩ rfl
theorem c_worked (l:List Tst) (a b:Int) (hl:l.length≤1000000):
  Ct Tryz.prog 45 [tRec l a b] (tL 2 true tSn (wkd l a b)):=by
 refine Ct.intro Tryz.func45 rfl Tryz.ntmps45 rfl ?_
 intro w F
 refine A10 ?_
 refine R1 (x3 (c_none l a b) fi55 rfl) rfl ?_
 refine A2 ?_
 refine x8 rfl (fun h36=> ?_) (fun h36=> ?_)
 ·
  refine A7 ?_
  exact x4 Plain.mk' rfl rfl (leNil (by rw [wkd,if_pos h36]))
 ·
  refine A4 ?_
  refine R1 (xp5 (ps:=[.ptr 1 0]) rfl) rfl ?_
  refine A5 ?_
  refine RE (xd8 (k:=4) 62 2 true rfl (fun h=>by cases h)) trivial trivial ⟨rfl,trivial⟩ ?_
  refine A12 ?_
  refine cL (fun (fm:(Nat)×(List Sn))=>(fun (i:Nat) (xs:List Sn)=>i≤l.length∧xs=wkS (l.take i) a b) fm.1 fm.2) (fun (fm:(Nat)×(List Sn))=>(fun (i:Nat) (xs:List Sn)=>upd (upd (upd (upd (upd (upd (fun _=>none) 1 (some (.own (.ptr 1 0)))) 3 (some (.own (.fn 85 [.ptr 1 0])))) 4 (some (.own (.sl 4 2 0 xs.length)))) 13 (some (.val (tL 8 true tTs l)))) 14 (some (.val (tI l.length)))) 15 (some (.val (tI i)))) fm.1 fm.2) (fun (fm:(Nat)×(List Sn))=>(fun (i:Nat) (xs:List Sn)=>upd (upd (fun _=>none) 1 (some (⟨72,3,true,[.val (tRec l a b)]⟩))) 4 (some (⟨62,2,true,rV tSn xs⟩))) fm.1 fm.2) [1,4] (fun (fm:(Nat)×(List Sn))=>(fun (i:Nat) (xs:List Sn)=>l.length - i) fm.1 fm.2) ((0,[])) (by dsimp only;exact ⟨Nat.zero_le _,rfl⟩) (hh:=((SubK.consI rfl ImpK.refl) ((SubK.consI rfl ImpK.refl) SubK.nil))) ?_
  intro fm hI
  obtain ⟨i,xs⟩:=fm
  replace hI:i≤l.length∧xs=wkS (l.take i) a b:=hI
  show wc _ _ _ _ (upd (upd (upd (upd (upd (upd (fun _=>none) 1 (some (.own (.ptr 1 0)))) 3 (some (.own (.fn 85 [.ptr 1 0])))) 4 (some (.own (.sl 4 2 0 xs.length)))) 13 (some (.val (tL 8 true tTs l)))) 14 (some (.val (tI l.length)))) 15 (some (.val (tI i)))) (upd (upd (fun _=>none) 1 (some (⟨72,3,true,[.val (tRec l a b)]⟩))) 4 (some (⟨62,2,true,rV tSn xs⟩))) _
  obtain ⟨hi,hx⟩:=hI
  have hxl:xs.length≤i:=by
   have h:=wkS_len (l:=l.take i) (a:=a) (b:=b)
   rw [←hx,List.length_take] at h;omega
  refine A6 ?_
  refine x8 rfl (fun h43=> ?_) (fun h43=> ?_)
  ·
   refine A6 ?_
   refine R2 (x6 sl22 (i) (by omega) (gD (l:=l) (n:=i) (d:=tst0) (by omega))) rfl rfl ?_
   refine A1 ?_
   refine RE (x9 (k:=6) (n:=8) (agg:=true) zr34.1 zr34.2 rfl) trivial trivial ⟨rfl,trivial⟩ ?_
   refine A7 ?_
   refine RE (xp3 (ps:=[.val (tTs _)]) (caps:=[.ptr 1 0]) (fun _=>1) (c_idle l a b (l.getD i tst0)) fi85 rfl (krC (ρ:=fun _=>1) (k:=1) rfl (krN (ρ:=fun _=>1))) (krC (ρ:=fun _=>1) (k:=1) rfl (krN (ρ:=fun _=>1))) ⟨⟨rfl,(SupX.lit rfl)⟩,trivial⟩ rfl) ⟨rfl,rfl,trivial⟩ ⟨rfl,trivial⟩ trivial ?_
   refine A3 ?_
   refine xd4 rfl (fun h44=> ?_) (fun h44=> ?_)
   ·
    refine A6 ?_
    refine xh1 (0) ti3 rfl rfl rfl (At.t (At.g 0 rfl rfl) (At.g 0 rfl rfl)) rfl (R2 d_max2 rfl rfl ?_)
    refine A4 ?_
    refine xh1 (0) ti3 rfl rfl rfl (At.t (At.g 0 rfl rfl) (At.g 1 rfl rfl)) rfl (R2 d_min2 rfl rfl (R2 (xb8 (r:=tS [⟨1,false,tI (max (l.getD i tst0).lo a)⟩,⟨1,false,tI (min (l.getD i tst0).hi b)⟩]) (ts:=[(0,tI (max (l.getD i tst0).lo a)),(1,tI (min (l.getD i tst0).hi b))]) bu62 zr62.2 (Bc 0 rfl rfl rfl (Bc 1 rfl rfl rfl Le.refl))) rfl rfl (R1 (xd2 (n:=1) (f:=tSn) [(clipS a b (l.getD i tst0))] Tryz.underlying45 el62 zf62 rfl (fun _=>inferInstance) rfl rfl rfl) rfl (RE (xc5 (k:=4) (k':=38) (f:=tSn) (ys:=[(clipS a b (l.getD i tst0))]) (ts':=rV tSn (xs++[(clipS a b (l.getD i tst0))])) Tryz.underlying45 el62 zf62 rfl rfl (fun _=>inferInstance) xe5 (by simp;omega) (by simp;omega) (by simp [rV]) (n':=xs.length+1) rfl) ⟨rfl,rfl,trivial⟩ ⟨rfl,trivial⟩ ⟨rfl,trivial⟩ ?_))))
    refine A8 ?_
    exact xe4 (l:=[1,4]) (fun j=>cond (Nat.beq j 4) 38 (j)) ((i+1,xs++[(clipS a b (l.getD i tst0))])) ⟨(by dsimp only;exact ⟨by omega,by rw [wkS_next (by omega),←hx,if_neg (by simpa using h44)]⟩),(by dsimp only;omega)⟩ (SubR.int rfl (by first | omega | rfl | (dsimp only;omega)) (SubR.int rfl (by first | omega | rfl | (dsimp only;omega)) (SubR.cons rfl ((SubR.consI rfl (Imp.of (by dsimp only;rw [List.length_append];rfl))) (SubR.cons rfl (SubR.cons rfl SubR.nil)))))) ((SubKR.consI rfl (ImpK.of xc2.symm)) ((SubKR.consI rfl ImpK.refl) SubKR.nil)) (SupG.val (SupG.val (SupG.val (SupG.own rfl (SupG.own rfl (SupG.own rfl SupG.nil)))))) (SupH.cons rfl (supJ xb0) (SupH.cons rfl (supJL rfl) SupH.nil)) (lkOk rfl) rfl rfl (fun _ h=>by cases h)
   ·
    refine A7 ?_
    exact kF ((i+1,xs)) ⟨(by dsimp only;exact ⟨by omega,by rw [wkS_next (by omega),←hx,if_pos (by simpa using h44),List.append_nil]⟩),(by dsimp only;omega)⟩ (hh:=((SubK.consI rfl ImpK.refl) ((SubK.consI rfl ImpK.refl) SubK.nil)))
  ·
   refine A7 ?_
   refine RE (xg3 (f:=tSn) (xs:=xs) (fun _ h=>h) (xi4 rfl) rfl) ⟨rfl,trivial⟩ ⟨rfl,trivial⟩ trivial (R1 (x3 (c_SnMake xs (by omega)) fi86 rfl) rfl ?_)
   refine A14 ?_
   exact x4 Plain.mk' rfl rfl (Le.of (by rw [wkd,if_neg h36,hx,show i=l.length by omega,List.take_length]))
instance fi44:FnI Tryz.prog 44:=⟨_,Tryz.func44,by kernel_rfl,rfl⟩
instance fi57:FnI Tryz.prog 57:=⟨_,Tryz.func57,by kernel_rfl,rfl⟩
theorem nonneg_of {f:Fr} (hD:f.dig) (hv:f.valid=true) (hn:f.n.neg=false):0≤f.rat:=by
 obtain ⟨e,_⟩:=Fr.of_valid' hD hv
 rw [e] at hn
 have h1: ¬f.rat.num < 0:=of_decide_eq_false hn
 exact Rat.num_nonneg.1 (by omega)
def q4:Rat:=4 / 1461
theorem fr_q4:fr q4=⟨wh 4,wh 1461⟩:=by
 have h1:q4.num=4:=by decide+kernel
 have h2:q4.den=1461:=by decide+kernel
 rw [fr,h1,h2];rfl
theorem len16_small {n:Int} (h1: -9223372036854775808≤n) (h2:n≤9223372036854775807):len16 n≤256:=Nat.le_trans (len16_64 h1 h2) (by decide)
theorem short_q4:short q4:=by
 have h1:q4.num=4:=by decide+kernel
 have h2:q4.den=1461:=by decide+kernel
 exact ⟨by rw [h1];exact len16_small (by decide) (by decide),by rw [h2];exact len16_small (by decide) (by decide)⟩
theorem c_FMulQ4 (q:Rat) (hq:short q):Ct Tryz.prog 58 [tFr (fr q),tFr ⟨wh 4,wh 1461⟩] (tT [tFr (resF (q*q4)),tI (resFE (q*q4))]):=by
 have h:=c_FMul q q4 hq short_q4
 rw [fr_q4] at h;exact h
theorem c_FMulQ4s {o:Option Rat} {q:Rat} (ho:o=some q) (hq:short q):Ct Tryz.prog 58 [tFr (sumF o),tFr ⟨wh 4,wh 1461⟩] (tT [tFr (resF (q*q4)),tI (resFE (q*q4))]):=by
 rw [ho];exact c_FMulQ4 q hq
theorem sum_short: ∀(l:List Tst) (o:Option Rat),(∀q,o=some q→short q)→ ∀q,l.foldl sumStep o=some q→short q
 | [],o,ho,q,h=>ho q h
 | s::r,o,ho,q,h=>sum_short r (sumStep o s) (fun p hp=>by
   cases o with
   | none=>cases hp
   | some x=>
    simp only [sumStep] at hp
    split at hp
    ·rename_i h2;cases hp;exact h2.2
    ·cases hp) q h
theorem sumT_short {l:List Tst} {q:Rat} (h:sumT l=some q):short q:=sum_short l _ (fun p hp=>by cases hp;exact xh6 (len16_small (by decide) (by decide))) q h
def mulO (q p:Rat):Option Rat:=if short (q*p) then some (q*p) else none
theorem resF_mulO {q p:Rat}:resF (q*p)=sumF (mulO q p):=by rw [resF,mulO];split <;> rfl
theorem resFE_mulO {q p:Rat}:resFE (q*p)=sumE (mulO q p):=by rw [resFE,mulO];split <;> rfl
def yq (l:List Tst) (a b:Int):Option Rat:=if b≤a then some ((0:Int):Rat) else (sumT (cutT l a b)).bind fun q=>mulO q q4
theorem ask_sum {l:List Tst} {a b:Int} (h:askB l a b=true) (hab: ¬b≤a):sumC l a b:=by
 obtain ⟨h1,h2,h3,h4,h5⟩:=askB_iff.1 h
 simp only [sRight,Bool.and_eq_true,List.all_eq_true] at h1
 refine ⟨⟨h1.1,by simp [Sn.ok];omega⟩,?_⟩
 rcases Nat.eq_zero_or_pos l.length with h0 | h0
 ·exact .inl h0
 ·have:=h1.2 _ (xd5 (l:=l) h0)
  simp only [sOk,Bool.and_eq_true,decide_eq_true_eq] at this
  exact .inr (.inl this.1.1)
theorem xz3 {o:Option Rat} (h: ∀q,o=some q→short q):sumE o=0→ ∃q,o=some q∧short q:=by
 cases o with
 | none=>intro h;cases h
 | some q=>intro _;exact ⟨q,rfl,h q rfl⟩
theorem yq_short {l:List Tst} {a b:Int} {q:Rat} (h:yq l a b=some q):short q:=by
 rw [yq] at h
 split at h
 ·cases h;exact xh6 (len16_small (by decide) (by decide))
 ·cases hs:sumT (cutT l a b) with
  | none=>rw [hs] at h;cases h
  | some x=>
   rw [hs,Option.bind_some,mulO] at h
   split at h
   ·cases h;assumption
   ·cases h
theorem c_TSumOk (l:List Tst) (a b:Int) (hl:l.length≤500000) (hD: ∀s∈l,s.v.f.dig) (h:sumC l a b):Ct Tryz.prog 57 [tL 8 true tTs l,tI a,tI b] (tT [tFr (sumF (sumT (cutT l a b))),tI (sumE (sumT (cutT l a b)))]):=by
 have:=c_TSum l a b hl hD
 rw [if_pos h,if_pos h] at this;exact this
theorem c_Years (l:List Tst) (a b:Int) (hl:l.length≤500000) (hD: ∀s∈l,s.v.f.dig):
  Ct Tryz.prog 27 [tL 8 true tTs l,tI a,tI b] (tT [tFr (if askB l a b=true then sumF (yq l a b) else fr0),tI (if askB l a b=true then sumE (yq l a b) else 2)]):=by
 refine Ct.intro Tryz.func27 rfl Tryz.ntmps27 rfl ?_
 intro w F
 refine A2 ?_
 refine RE (x9 (k:=6) (n:=4) (agg:=true) zr30.1 zr30.2 rfl) trivial trivial ⟨rfl,trivial⟩ ?_
 refine A8 ?_
 refine R3 (x3 (xs9 l a b hD) fi44 rfl) rfl rfl rfl ?_
 refine A3 ?_
 refine RE (x9 (k:=8) (n:=3) (agg:=true) zr72.1 zr72.2 rfl) trivial trivial ⟨rfl,trivial⟩ ?_
 refine A11 ?_
 refine xd4 rfl (fun h66=> ?_) (fun h66=> ?_)
 ·
  have hk: ¬askB l a b=true:=by simpa using h66
  refine A2 ?_
  refine R0 (xb8 (r:=tS [⟨2,true,(tS [⟨1,false,(tE (.bool false))⟩,⟨1,false,(tLm [])⟩])⟩,⟨2,true,(tS [⟨1,false,(tE (.bool false))⟩,⟨1,false,(tLm [])⟩])⟩]) (ts:=[]) bu30 zr30.2 Le.refl) ?_
  refine A6 ?_
  exact xb9 Plain.mk' (rs:=[.cell 6 30,.tmp 7]) rfl rfl ⟨⟨_,_,_,_,_,rfl,rfl,ti30,(Le.of (by rw [if_neg hk];rfl))⟩,⟨_,rfl,(Le.int (by rw [if_neg hk]))⟩,trivial⟩
 ·
  have hk:askB l a b=true:=by simpa using h66
  refine A6 ?_
  refine R1 (x3 (c_none l a b) fi55 rfl) rfl ?_
  refine A2 ?_
  refine x8 rfl (fun h69=> ?_) (fun h69=> ?_)
  ·
   refine A2 ?_
   refine R1 (x3 (xk2 0 (by decide) (by decide)) fi56 rfl) rfl ?_
   refine A6 ?_
   exact xb9 Plain.mk' (rs:=[.cell 6 30,.tmp 7]) rfl rfl ⟨⟨_,_,_,_,_,rfl,rfl,ti30,(Le.of (by rw [if_pos hk,yq,if_pos h69];rfl))⟩,⟨_,rfl,(Le.int (by rw [if_pos hk,yq,if_pos h69];rfl))⟩,trivial⟩
  ·
   refine A7 ?_
   refine R3 (x3 (c_TSumOk l a b hl hD (ask_sum hk h69)) fi57 rfl) rfl rfl rfl ?_
   refine A3 ?_
   refine RE (x9 (k:=10) (n:=4) (agg:=true) zr30.1 zr30.2 rfl) trivial trivial ⟨rfl,trivial⟩ ?_
   refine A11 ?_
   refine x8 rfl (fun h73=> ?_) (fun h73=> ?_)
   ·
    refine A2 ?_
    refine R0 (xb8 (r:=tS [⟨2,true,(tS [⟨1,false,(tE (.bool false))⟩,⟨1,false,(tLm [])⟩])⟩,⟨2,true,(tS [⟨1,false,(tE (.bool false))⟩,⟨1,false,(tLm [])⟩])⟩]) (ts:=[]) bu30 zr30.2 Le.refl) ?_
    refine A7 ?_
    exact xb9 Plain.mk' (rs:=[.cell 6 30,.tmp 7]) rfl rfl ⟨⟨_,_,_,_,_,rfl,rfl,ti30,(Le.of (by rw [if_pos hk,yq,if_neg h69];cases hs:sumT (cutT l a b) with | none=>rfl | some q=>rw [hs] at h73;exact absurd rfl h73))⟩,⟨_,rfl,(Le.int (by rw [if_pos hk,yq,if_neg h69];cases hs:sumT (cutT l a b) with | none=>rfl | some q=>rw [hs] at h73;exact absurd rfl h73))⟩,trivial⟩
   ·
    obtain ⟨q,hq,hqs⟩:=xz3 (fun q h=>sumT_short h) (Decidable.not_not.1 h73)
    refine A5 ?_
    refine R1 (x3 (xq7 4 (by decide) (by decide)) fi59 rfl) rfl (R1 (x3 (xq7 1461 (by decide) (by decide)) fi59 rfl) rfl (R2 (xb8 (r:=tS [⟨2,true,tWh (wh 4)⟩,⟨2,true,tWh (wh 1461)⟩]) (ts:=[(0,tWh (wh 4)),(1,tWh (wh 1461))]) bu30 zr30.2 (Bc 0 rfl rfl rfl (Bc 1 rfl rfl rfl Le.refl))) rfl rfl (R2 (x3 (c_FMulQ4s hq hqs) fi58 rfl) rfl rfl ?_)))
    refine A7 ?_
    exact xb9 Plain.mk' (rs:=[.cell 6 30,.tmp 7]) rfl rfl ⟨⟨_,_,_,_,_,rfl,rfl,ti30,(Le.of (by rw [if_pos hk,yq,if_neg h69,hq,resF_mulO];rfl))⟩,⟨_,rfl,(Le.int (by rw [if_pos hk,yq,if_neg h69,hq,resFE_mulO];rfl))⟩,trivial⟩
instance fi27:FnI Tryz.prog 27:=⟨_,Tryz.func27,by kernel_rfl,rfl⟩
instance fi45:FnI Tryz.prog 45:=⟨_,Tryz.func45,by kernel_rfl,rfl⟩
instance fi46:FnI Tryz.prog 46:=⟨_,Tryz.func46,by kernel_rfl,rfl⟩
instance fi63:FnI Tryz.prog 63:=⟨_,Tryz.func63,by kernel_rfl,rfl⟩
instance fi65:FnI Tryz.prog 65:=⟨_,Tryz.func65,by kernel_rfl,rfl⟩
theorem c_FCmpE {x:Fr} {q:Rat} (hx:x=fr q) (hq:short q) (f:Fr) (hf:f=fr f.rat) (hs:short f.rat):Ct Tryz.prog 61 [tFr x,tFr f] (tI (cmpQ q f.rat)):=by
 have h:=c_FCmp q f.rat hq hs
 rw [←hf,←hx] at h;exact h
theorem c_FAddE (f:Fr) (hf:f=fr f.rat) (hs:short f.rat):Ct Tryz.prog 62 [tFr f,tFr (fr ((0:Int):Rat))] (tT [tFr f,tI 0]):=by
 have h:=c_FAdd f.rat ((0:Int):Rat) hs (xh6 (len16_small (by decide) (by decide)))
 have e:f.rat+((0:Int):Rat)=f.rat:=by simp;exact Rat.add_zero _
 rw [e,resF,resFE,if_pos hs,if_pos hs,←hf] at h;exact h
theorem yr_ok {l:List Tst} {a b:Int} (h:(if askB l a b=true then sumE (yq l a b) else 2)=0):askB l a b=true∧ ∃q,yq l a b=some q∧short q:=by
 split at h
 ·rename_i hk;exact ⟨hk,xz3 (fun q h=>yq_short h) h⟩
 ·cases h
def capO (l:List Tst) (a b:Int) (f:Fr):Option Rat:=(yq l a b).map fun q=>if q≤f.rat then q else f.rat
def capC (l:List Tst) (a b:Int) (f:Fr):Prop:=(f.valid=true∧f.n.neg=false)∧askB l a b=true
instance (l:List Tst) (a b:Int) (f:Fr):Decidable (capC l a b f):=inferInstanceAs (Decidable (_∧_))
theorem cap_bad {l:List Tst} {a b:Int} {f:Fr} (hv2:f.valid=true∧f.n.neg=false) (h:(if askB l a b=true then sumE (yq l a b) else 2)≠0):(if capC l a b f then sumF (capO l a b f) else fr0)=fr0∧(if askB l a b=true then sumE (yq l a b) else 2)=(if capC l a b f then sumE (capO l a b f) else 2):=by
 by_cases ha:askB l a b=true
 ·rw [if_pos ha] at h
  cases hy:yq l a b with
  | none=>rw [if_pos ⟨hv2,ha⟩,if_pos ha,if_pos ⟨hv2,ha⟩,capO,hy];exact ⟨rfl,rfl⟩
  | some q=>rw [hy] at h;exact absurd rfl h
 ·have hn: ¬capC l a b f:=fun h=>ha h.2
  rw [if_neg hn,if_neg hn,if_neg ha];exact ⟨rfl,rfl⟩
theorem c_Capped (l:List Tst) (a b:Int) (f:Fr) (hl:l.length≤500000) (hD: ∀s∈l,s.v.f.dig) (hF:f.dig):
  Ct Tryz.prog 28 [tL 8 true tTs l,tI a,tI b,tFr f] (tT [tFr (if capC l a b f then sumF (capO l a b f) else fr0),tI (if capC l a b f then sumE (capO l a b f) else 2)]):=by
 refine Ct.intro Tryz.func28 rfl Tryz.ntmps28 rfl ?_
 intro w F
 refine A3 ?_
 refine RE (x9 (k:=8) (n:=4) (agg:=true) zr30.1 zr30.2 rfl) trivial trivial ⟨rfl,trivial⟩ ?_
 refine A7 ?_
 refine R1 (x3 (xt8 f hF.1 hF.2) fi60 rfl) rfl ?_
 refine A2 ?_
 refine RGcase (t:=15) rfl (fun h81=> ?_) (fun h81=> ?_)
 ·
  have hk: ¬capC l a b f:=fun h=>by rw [h.1.1] at h81;cases h81
  refine A9 ?_
  refine R0 (xb8 (r:=tS [⟨2,true,(tS [⟨1,false,(tE (.bool false))⟩,⟨1,false,(tLm [])⟩])⟩,⟨2,true,(tS [⟨1,false,(tE (.bool false))⟩,⟨1,false,(tLm [])⟩])⟩]) (ts:=[]) bu30 zr30.2 Le.refl) ?_
  refine A6 ?_
  exact xb9 Plain.mk' (rs:=[.cell 8 30,.tmp 9]) rfl rfl ⟨⟨_,_,_,_,_,rfl,rfl,ti30,(Le.of (by rw [if_neg hk];rfl))⟩,⟨_,rfl,(Le.int (by rw [if_neg hk]))⟩,trivial⟩
 ·
  have hv:f.valid=true:=by simpa using h81
  refine A2 ?_
  refine xd0 h81 rfl rfl (0) ti4 rfl rfl rfl (At.t (At.g 0 rfl rfl) (At.g 0 rfl rfl)) rfl ?_
  refine A3 ?_
  refine xd4 rfl (fun h81_2=> ?_) (fun h81_2=> ?_)
  ·
   have hk: ¬capC l a b f:=fun h=>by rw [h.1.2] at h81_2;cases h81_2
   refine A2 ?_
   refine R0 (xb8 (r:=tS [⟨2,true,(tS [⟨1,false,(tE (.bool false))⟩,⟨1,false,(tLm [])⟩])⟩,⟨2,true,(tS [⟨1,false,(tE (.bool false))⟩,⟨1,false,(tLm [])⟩])⟩]) (ts:=[]) bu30 zr30.2 Le.refl) ?_
   refine A6 ?_
   exact xb9 Plain.mk' (rs:=[.cell 8 30,.tmp 9]) rfl rfl ⟨⟨_,_,_,_,_,rfl,rfl,ti30,(Le.of (by rw [if_neg hk];rfl))⟩,⟨_,rfl,(Le.int (by rw [if_neg hk]))⟩,trivial⟩
  ·
   have hv2:f.valid=true∧f.n.neg=false:=⟨hv,h81_2⟩
   have hf:=Fr.of_valid' hF hv
   refine A7 ?_
   refine R3 (x3 (c_Years l a b hl hD) fi27 rfl) rfl rfl rfl ?_
   refine A3 ?_
   refine RE (x9 (k:=10) (n:=4) (agg:=true) zr30.1 zr30.2 rfl) trivial trivial ⟨rfl,trivial⟩ ?_
   refine A11 ?_
   refine x8 rfl (fun h85=> ?_) (fun h85=> ?_)
   ·
    refine A2 ?_
    refine R0 (xb8 (r:=tS [⟨2,true,(tS [⟨1,false,(tE (.bool false))⟩,⟨1,false,(tLm [])⟩])⟩,⟨2,true,(tS [⟨1,false,(tE (.bool false))⟩,⟨1,false,(tLm [])⟩])⟩]) (ts:=[]) bu30 zr30.2 Le.refl) ?_
    refine A7 ?_
    exact xb9 Plain.mk' (rs:=[.cell 8 30,.tmp 9]) rfl rfl ⟨⟨_,_,_,_,_,rfl,rfl,ti30,(Le.of (by rw [(cap_bad hv2 h85).1];rfl))⟩,⟨_,rfl,(Le.int (cap_bad hv2 h85).2)⟩,trivial⟩
   ·
    obtain ⟨hk,q,hq,hqs⟩:=yr_ok (Decidable.not_not.1 h85)
    have hc:capC l a b f:=⟨hv2,hk⟩
    refine A7 ?_
    refine R2 (x3 (c_FCmpE (x:=if askB l a b=true then sumF (yq l a b) else fr0) (q:=q) (by rw [if_pos hk,hq];rfl) hqs f hf.1 hf.2) fi61 rfl) rfl rfl ?_
    refine A3 ?_
    refine x8 rfl (fun h88=> ?_) (fun h88=> ?_)
    ·
     refine A9 ?_
     exact xb9 Plain.mk' (rs:=[.cell 8 30,.tmp 9]) rfl rfl ⟨⟨_,_,_,_,_,rfl,rfl,ti30,(Le.of (by rw [if_pos hc,capO,hq,if_pos hk,Option.map_some,if_pos (Decidable.byContradiction fun h=>absurd (xj3.2 h) (by omega))]))⟩,⟨_,rfl,(Le.int (by rw [if_pos hc,capO,hq];rfl))⟩,trivial⟩
    ·
     refine A5 ?_
     refine R1 (x3 (xk2 0 (by decide) (by decide)) fi56 rfl) rfl (R2 (x3 (c_FAddE f hf.1 hf.2) fi62 rfl) rfl rfl ?_)
     refine A7 ?_
     exact xb9 Plain.mk' (rs:=[.cell 8 30,.tmp 9]) rfl rfl ⟨⟨_,_,_,_,_,rfl,rfl,ti30,(Le.of (by rw [if_pos hc,capO,hq,Option.map_some,if_neg (xj3.1 (by omega)),hf.1,rat_fr];rfl))⟩,⟨_,rfl,(Le.int (by rw [if_pos hc,capO,hq];rfl))⟩,trivial⟩
theorem c_FFloor (q:Rat) (h:short q):
  Ct Tryz.prog 63 [tFr (fr q)] (tT [tWh (wh q.floor),tI 0]):=by
 obtain ⟨qn,qd⟩:=h
 have h:short q:=⟨qn,qd⟩
 have hdp:(0:Int) < (q.den:Int):=by have:=q.den_pos;omega
 refine Ct.intro Tryz.func63 rfl Tryz.ntmps63 rfl ?_
 intro w F
 refine A3 ?_
 refine RE (x9 (k:=2) (n:=2) (agg:=true) zr28.1 zr28.2 rfl) trivial trivial ⟨rfl,trivial⟩ ?_
 refine A7 ?_
 refine R1 (x3 (c_FValidQ q h) fi60 rfl) rfl ?_
 refine A12 ?_
 refine R2 (x3 (c_fdivide q.num (q.den:Int) (by omega) (by omega) hdp) fi123 rfl) rfl rfl ?_
 refine A3 ?_
 refine RE (x9 (k:=4) (n:=2) (agg:=true) zr28.1 zr28.2 rfl) trivial trivial ⟨rfl,trivial⟩ (RE (x9 (k:=5) (n:=2) (agg:=true) zr28.1 zr28.2 rfl) trivial trivial ⟨rfl,trivial⟩ ?_)
 refine A12 ?_
 exact xb9 Plain.mk' (rs:=[.cell 2 28,.tmp 3]) rfl rfl ⟨⟨_,_,_,_,_,rfl,rfl,ti28,(Le.of (by rw [Rat.floor_def]))⟩,⟨_,rfl,Le.refl⟩,trivial⟩
theorem c_FFloorR (q:Rat) (h:short q):Ct Tryz.prog 63 [tFr (resF q)] (tT [tWh (wh q.floor),tI 0]):=by
 rw [show resF q=fr q from if_pos h];exact c_FFloor q h
def m12 (f:Fr):Rat:=f.rat*((12:Int):Rat)
def moB (f:Fr):Prop:=f.valid=true∧f.n.neg=false
def moC (f:Fr):Prop:=moB f∧short (m12 f)∧(m12 f).floor≤1048576
instance (f:Fr):Decidable (moB f):=inferInstanceAs (Decidable (_∧_))
instance (f:Fr):Decidable (moC f):=inferInstanceAs (Decidable (_∧_))
theorem m12_nonneg {f:Fr} (hF:f.dig) (h:moB f):0≤(m12 f).floor:=by
 have h1:=nonneg_of hF h.1 h.2
 have h2:(0:Rat)≤m12 f:=Rat.mul_nonneg h1 (by decide+kernel)
 exact Rat.le_floor_iff.2 (by simpa using h2)
theorem len_floor {q:Rat} (h:short q):len16 q.floor≤256:=by rw [Rat.floor_def];exact len16_div h.1
theorem cmpZ_pos {x y:Int}:0 < cmpZ x y↔y < x:=by
 simp only [cmpZ];split
 ·omega
 ·split <;> omega
theorem c_Months (f:Fr) (hF:f.dig):
  Ct Tryz.prog 29 [tFr f] (tT [tI (if moC f then (m12 f).floor else 0),tI (if moB f then (if moC f then 0 else 3) else 2)]):=by
 refine Ct.intro Tryz.func29 rfl Tryz.ntmps29 rfl ?_
 intro w F
 refine A11 ?_
 refine R1 (x3 (xt8 f hF.1 hF.2) fi60 rfl) rfl ?_
 refine A2 ?_
 refine RGcase (t:=11) rfl (fun h96=> ?_) (fun h96=> ?_)
 ·
  have hk: ¬moB f:=fun h=>by rw [h.1] at h96;cases h96
  refine A15 ?_
  exact xc3 Plain.mk' rfl rfl rfl (Le.int (by rw [if_neg (fun h=>hk h.1)])) (Le.int (by rw [if_neg hk]))
 ·
  have hv:f.valid=true:=by simpa using h96
  refine A2 ?_
  refine xd0 h96 rfl rfl (0) ti4 rfl rfl rfl (At.t (At.g 0 rfl rfl) (At.g 0 rfl rfl)) rfl ?_
  refine A3 ?_
  refine xd4 rfl (fun h96_2=> ?_) (fun h96_2=> ?_)
  ·
   have hk: ¬moB f:=fun h=>by rw [h.2] at h96_2;cases h96_2
   refine A8 ?_
   exact xc3 Plain.mk' rfl rfl rfl (Le.int (by rw [if_neg (fun h=>hk h.1)])) (Le.int (by rw [if_neg hk]))
  ·
   have hb:moB f:=⟨hv,h96_2⟩
   have hf:=Fr.of_valid' hF hv
   refine A5 ?_
   refine R1 (x3 (xk2 12 (by decide) (by decide)) fi56 rfl) rfl (R2 (x3 (c_FMulT f 12 hf.1 hf.2 (xh6 (len16_small (by decide) (by decide)))) fi58 rfl) rfl rfl ?_)
   refine A3 ?_
   refine RE (x9 (k:=4) (n:=4) (agg:=true) zr30.1 zr30.2 rfl) trivial trivial ⟨rfl,trivial⟩ ?_
   refine A11 ?_
   refine x8 rfl (fun h100=> ?_) (fun h100=> ?_)
   ·
    refine A9 ?_
    exact xc3 Plain.mk' rfl rfl rfl (Le.int (by rw [if_neg (fun h:moC f=>xe0 h100 h.2.1)])) (Le.int (by rw [if_pos hb,if_neg (fun h:moC f=>xe0 h100 h.2.1),resFE,if_neg (xe0 h100)]))
   ·
    have hs:short (m12 f):=xh0 (Decidable.not_not.1 h100)
    have hlen:=len_floor hs
    have hl2:=len16_small (n:=1048576) (by decide) (by decide)
    have hn0:=m12_nonneg hF hb
    refine A5 ?_
    refine R1 (x3 (c_FFloorR (m12 f) hs) fi63 rfl) rfl ?_
    refine A3 ?_
    refine RE (x9 (k:=6) (n:=2) (agg:=true) zr28.1 zr28.2 rfl) trivial trivial ⟨rfl,trivial⟩ ?_
    refine A8 ?_
    refine R1 (x3 (xq7 1048576 (by decide) (by decide)) fi59 rfl) rfl (R2 (x3 (c_Cmp (m12 f).floor 1048576 (by omega) (by omega)) fi64 rfl) rfl rfl ?_)
    refine A3 ?_
    refine x8 rfl (fun h104=> ?_) (fun h104=> ?_)
    ·
     have hgt:=cmpZ_pos.1 h104
     refine A8 ?_
     exact xc3 Plain.mk' rfl rfl rfl (Le.int (by rw [if_neg (fun h:moC f=>absurd h.2.2 (by omega))])) (Le.int (by rw [if_pos hb,if_neg (fun h:moC f=>absurd h.2.2 (by omega))]))
    ·
     have hle:(m12 f).floor≤1048576:=Int.not_lt.1 fun h=>h104 (cmpZ_pos.2 h)
     have hc:moC f:=⟨hb,hs,hle⟩
     have hfit:fits (m12 f).floor=true:=by simp only [fits,Bool.and_eq_true,decide_eq_true_eq];omega
     refine A5 ?_
     refine R1 (x3 (c_WInt (m12 f).floor (by omega)) fi65 rfl) rfl ?_
     refine A7 ?_
     exact xc3 Plain.mk' rfl rfl rfl (Le.int (by rw [if_pos hc,hfit];rfl)) (Le.int (by rw [if_pos hb,if_pos hc,hfit];rfl))
def brk (w:List Sn):List Sn:=(List.range (w.length - 1)).map fun i=>⟨(w.getD i sn0).hi,(w.getD (i+1) sn0).lo⟩
theorem brk_snoc {w:List Sn} {n:Nat}:(List.range (n+1)).map (fun i=>(⟨(w.getD i sn0).hi,(w.getD (i+1) sn0).lo⟩:Sn))=(List.range n).map (fun i=>(⟨(w.getD i sn0).hi,(w.getD (i+1) sn0).lo⟩:Sn))++[⟨(w.getD n sn0).hi,(w.getD (n+1) sn0).lo⟩]:=by
 rw [List.range_succ,List.map_append];rfl
theorem wkd_len {l:List Tst} {a b:Int}:(wkd l a b).length≤l.length:=by
 rw [wkd];split
 ·simp
 ·split
  ·have h1:=mrg_len (srt cfSn ((wkS l a b).filter pos)) []
   have h2:=srtSn_len (xs:=(wkS l a b).filter pos)
   have h3:=List.length_filter_le pos (wkS l a b)
   have h4:=wkS_len (l:=l) (a:=a) (b:=b)
   have h5:(mkS (wkS l a b)).length≤([]:List Sn).length+(srt cfSn ((wkS l a b).filter pos)).length:=h1
   simp at h5;omega
  ·simp
theorem c_Worked (l:List Tst) (a b:Int) (hl:l.length≤500000) (hD: ∀s∈l,s.v.f.dig):
  Ct Tryz.prog 17 [tL 8 true tTs l,tI a,tI b] (tT [tL 2 true tSn (if askB l a b=true then wkd l a b else []),tI (if askB l a b=true then 0 else 2)]):=by
 refine Ct.intro Tryz.func17 rfl Tryz.ntmps17 rfl ?_
 intro w F
 refine A11 ?_
 refine R3 (x3 (xs9 l a b hD) fi44 rfl) rfl rfl rfl ?_
 refine A3 ?_
 refine RE (x9 (k:=8) (n:=3) (agg:=true) zr72.1 zr72.2 rfl) trivial trivial ⟨rfl,trivial⟩ ?_
 refine A11 ?_
 refine xd4 rfl (fun h113=> ?_) (fun h113=> ?_)
 ·
  have hk: ¬askB l a b=true:=by simpa using h113
  refine A8 ?_
  exact xc3 Plain.mk' rfl rfl rfl (leNil (by rw [if_neg hk])) (Le.int (by rw [if_neg hk]))
 ·
  have hk:askB l a b=true:=by simpa using h113
  refine A5 ?_
  refine R1 (x3 (c_worked l a b (by omega)) fi45 rfl) rfl ?_
  refine A5 ?_
  exact xc3 Plain.mk' rfl rfl rfl (Le.of (by rw [if_pos hk])) (Le.int (by rw [if_pos hk]))
theorem c_Breaks (l:List Tst) (a b:Int) (hl:l.length≤500000) (hD: ∀s∈l,s.v.f.dig):
  Ct Tryz.prog 18 [tL 8 true tTs l,tI a,tI b] (tT [tL 2 true tSn (if askB l a b=true then brk (wkd l a b) else []),tI (if askB l a b=true then 0 else 2)]):=by
 have hwl:=wkd_len (l:=l) (a:=a) (b:=b)
 refine Ct.intro Tryz.func18 rfl Tryz.ntmps18 rfl ?_
 intro w F
 refine A11 ?_
 refine R3 (x3 (xs9 l a b hD) fi44 rfl) rfl rfl rfl ?_
 refine A3 ?_
 refine RE (x9 (k:=8) (n:=3) (agg:=true) zr72.1 zr72.2 rfl) trivial trivial ⟨rfl,trivial⟩ ?_
 refine A11 ?_
 refine xd4 rfl (fun h122=> ?_) (fun h122=> ?_)
 ·
  have hk: ¬askB l a b=true:=by simpa using h122
  refine A8 ?_
  exact xc3 Plain.mk' rfl rfl rfl (leNil (by rw [if_neg hk])) (Le.int (by rw [if_neg hk]))
 ·
  have hk:askB l a b=true:=by simpa using h122
  refine A4 ?_
  refine RE (xd8 (k:=10) 62 2 true rfl (fun h=>by cases h)) trivial trivial ⟨rfl,trivial⟩ ?_
  refine A5 ?_
  refine R1 (x3 (c_worked l a b (by omega)) fi45 rfl) rfl ?_
  refine A10 ?_
  refine cL (fun (fm:(Nat)×(List Sn))=>(fun (i:Nat) (xs:List Sn)=>(i=0∨i+1≤(wkd l a b).length)∧xs=(List.range i).map (fun i=>(⟨((wkd l a b).getD i sn0).hi,((wkd l a b).getD (i+1) sn0).lo⟩:Sn))) fm.1 fm.2) (fun (fm:(Nat)×(List Sn))=>(fun (i:Nat) (xs:List Sn)=>upd (upd (upd (fun _=>none) 10 (some (.own (.sl 10 2 0 xs.length)))) 11 (some (.val (tL 2 true tSn (wkd l a b))))) 12 (some (.val (tI ((i:Int)+1))))) fm.1 fm.2) (fun (fm:(Nat)×(List Sn))=>(fun (i:Nat) (xs:List Sn)=>upd (fun _=>none) 10 (some (⟨62,2,true,rV tSn xs⟩))) fm.1 fm.2) [10] (fun (fm:(Nat)×(List Sn))=>(fun (i:Nat) (xs:List Sn)=>(wkd l a b).length - i) fm.1 fm.2) ((0,[])) (by dsimp only;exact ⟨.inl rfl,rfl⟩) (hh:=((SubK.consI rfl ImpK.refl) SubK.nil)) ?_
  intro fm hI
  obtain ⟨i,xs⟩:=fm
  replace hI:(i=0∨i+1≤(wkd l a b).length)∧xs=(List.range i).map (fun i=>(⟨((wkd l a b).getD i sn0).hi,((wkd l a b).getD (i+1) sn0).lo⟩:Sn)):=hI
  show wc _ _ _ _ (upd (upd (upd (fun _=>none) 10 (some (.own (.sl 10 2 0 xs.length)))) 11 (some (.val (tL 2 true tSn (wkd l a b))))) 12 (some (.val (tI ((i:Int)+1))))) (upd (fun _=>none) 10 (some (⟨62,2,true,rV tSn xs⟩))) _
  obtain ⟨hi,hx⟩:=hI
  have hxl:xs.length=i:=by rw [hx];simp
  refine A9 ?_
  refine x8 rfl (fun h127=> ?_) (fun h127=> ?_)
  ·
   refine A9 ?_
   refine R2 (x6 sl45 (i) (by omega) (gD (l:=wkd l a b) (n:=i) (d:=sn0) (by omega))) rfl rfl (R1 (xb5 fo62_1.h (At.f 1 rfl rfl) rfl) rfl ?_)
   refine A3 ?_
   refine R2 (x6 sl45 (i+1) (by omega) (gD (l:=wkd l a b) (n:=i+1) (d:=sn0) (by omega))) rfl rfl (R1 (xb5 fo62_0.h (At.f 0 rfl rfl) rfl) rfl ?_)
   refine A1 ?_
   refine R2 (xb8 (r:=tS [⟨1,false,tI ((wkd l a b).getD i sn0).hi⟩,⟨1,false,tI ((wkd l a b).getD (i+1) sn0).lo⟩]) (ts:=[(0,tI ((wkd l a b).getD i sn0).hi),(1,tI ((wkd l a b).getD (i+1) sn0).lo)]) bu62 zr62.2 (Bc 0 rfl rfl rfl (Bc 1 rfl rfl rfl Le.refl))) rfl rfl (R1 (xd2 (n:=1) (f:=tSn) [⟨((wkd l a b).getD i sn0).hi,((wkd l a b).getD (i+1) sn0).lo⟩] Tryz.underlying45 el62 zf62 rfl (fun _=>inferInstance) rfl rfl rfl) rfl (RE (xc5 (k:=10) (k':=44) (f:=tSn) (ys:=[⟨((wkd l a b).getD i sn0).hi,((wkd l a b).getD (i+1) sn0).lo⟩]) (ts':=rV tSn (xs++[⟨((wkd l a b).getD i sn0).hi,((wkd l a b).getD (i+1) sn0).lo⟩])) Tryz.underlying45 el62 zf62 rfl rfl (fun _=>inferInstance) xe5 (by simp;omega) (by simp;omega) (by simp [rV]) (n':=xs.length+1) rfl) ⟨rfl,rfl,trivial⟩ ⟨rfl,trivial⟩ ⟨rfl,trivial⟩ ?_))
   refine A9 ?_
   exact xe4 (l:=[10]) (fun j=>cond (Nat.beq j 10) 44 (j)) ((i+1,xs++[⟨((wkd l a b).getD i sn0).hi,((wkd l a b).getD (i+1) sn0).lo⟩])) ⟨(by dsimp only;exact ⟨by omega,by rw [brk_snoc,←hx]⟩),(by dsimp only;omega)⟩ (SubR.int rfl (by first | omega | rfl | (dsimp only;omega)) (SubR.cons rfl ((SubR.consI rfl (Imp.of (by dsimp only;rw [List.length_append];rfl))) SubR.nil))) ((SubKR.consI rfl (ImpK.of xc2.symm)) SubKR.nil) (SupG.val (SupG.val (SupG.own rfl SupG.nil))) (SupH.cons rfl (supJ xb0) SupH.nil) (lkOk rfl) rfl rfl (fun _ h=>by cases h)
  ·
   refine A8 ?_
   refine RE (xr2 (f:=tSn) (xs:=xs) (fun _ h=>h) (xi4 rfl) rfl) ⟨rfl,trivial⟩ ⟨rfl,trivial⟩ trivial ?_
   refine A4 ?_
   exact xc3 Plain.mk' rfl rfl rfl (Le.of (by rw [if_pos hk,hx,brk,show i=(wkd l a b).length - 1 by omega])) (Le.int (by rw [if_pos hk]))
theorem c_Periods (l:List Tst) (a b:Int) (d:Int) (hl:l.length≤500000) (hD: ∀s∈l,s.v.f.dig):
  Ct Tryz.prog 19 [tL 8 true tTs l,tI a,tI b,tI d] (tT [tL 2 true tSn (if askB l a b=true∧sVal (wkd l a b)=true∧0≤d then brg d (wkd l a b) else []),tI (if askB l a b=true∧sVal (wkd l a b)=true∧0≤d then 0 else 2)]):=by
 have hwl:=wkd_len (l:=l) (a:=a) (b:=b)
 refine Ct.intro Tryz.func19 rfl Tryz.ntmps19 rfl ?_
 intro w F
 refine A11 ?_
 refine R3 (x3 (xs9 l a b hD) fi44 rfl) rfl rfl rfl ?_
 refine A3 ?_
 refine RE (x9 (k:=10) (n:=3) (agg:=true) zr72.1 zr72.2 rfl) trivial trivial ⟨rfl,trivial⟩ ?_
 refine A10 ?_
 refine RGcase (t:=21) rfl (fun h136=> ?_) (fun h136=> ?_)
 ·
  have hk: ¬(askB l a b=true∧sVal (wkd l a b)=true∧0≤d):=fun h=>by rw [h.1] at h136;cases h136
  refine A14 ?_
  exact xc3 Plain.mk' rfl rfl rfl (leNil (by rw [if_neg hk])) (Le.int (by rw [if_neg hk]))
 ·
  have hk0:askB l a b=true:=by simpa using h136
  refine A5 ?_
  refine x8 rfl (fun h136_2=> ?_) (fun h136_2=> ?_)
  ·
   have hk: ¬(askB l a b=true∧sVal (wkd l a b)=true∧0≤d):=by omega
   refine A8 ?_
   exact xc3 Plain.mk' rfl rfl rfl (leNil (by rw [if_neg hk])) (Le.int (by rw [if_neg hk]))
  ·
   refine A5 ?_
   refine R1 (x3 (c_worked l a b (by omega)) fi45 rfl) rfl ?_
   refine A1 ?_
   refine R2 (x3 (c_SBridge (wkd l a b) d (by omega)) fi46 rfl) rfl rfl ?_
   refine A7 ?_
   exact xc3 Plain.mk' rfl rfl rfl (Le.of (by by_cases hs:sVal (wkd l a b)=true∧0≤d <;> simp [hk0,hs])) (Le.int (by by_cases hs:sVal (wkd l a b)=true∧0≤d <;> simp [hk0,hs]))
theorem xj5 {m n:Nat} {t:Ty} (h:n≤m):Le (tG (up m) t) (tG (up n) t):=tG_sub fun _ hb=>Nat.le_trans h hb
theorem le_T {ts us:List Ty} (h:LeL ts us):Le (tT ts) (tT us):=fun _ _ _ ⟨vs,h1,h2⟩=>⟨vs,h1,h.all h2⟩
theorem fr0N {G:Dom}:Le (tFr fr0) (tG G (tFr fr0)):=leG_S ⟨⟨rfl,rfl,leG_S ⟨⟨rfl,rfl,tG_E⟩,⟨rfl,rfl,leG_nil⟩,trivial⟩⟩,⟨rfl,rfl,leG_S ⟨⟨rfl,rfl,tG_E⟩,⟨rfl,rfl,leG_nil⟩,trivial⟩⟩,trivial⟩
theorem fr0L {G:Dom} {f:Fr} (h:f=fr0):Le (tFr fr0) (tG G (tFr f)):=h▸fr0N
theorem c_packW (l:List Nat) (hl:Dig 65536 l) (hn:l.length≤1000000):
  CtN Tryz.prog 126 [tLm l] (fun nw=>tG (up nw) (tWs (dgs 4294967296 ((l.length+1) / 2) (val 65536 l)))):=by
 refine CtN.intro Tryz.func126 rfl Tryz.ntmps126 rfl ?_
 intro w F
 refine A10 ?_
 refine R2 (d_quoP (by omega) (by omega) (wr64 (by omega) (by omega))) rfl rfl (RE (xg6 (k:=10) (t:=tE (.int .u32 0)) (ts:=rW .u32 (dgs 4294967296 ((l.length+1) / 2) 0)) ((l.length+1) / 2) ((l.length+1) / 2) Tryz.underlying164 el262 (fun _ _=>rfl) rfl (by omega) (by omega) (Nat.le_refl _) (by omega) (by omega) (by rw [dgs_zeros];exact xr1 _)) ⟨rfl,rfl,trivial⟩ trivial ⟨rfl,trivial⟩ ?_)
 refine A12 ?_
 refine cL (fun (i:Nat)=>i≤l.length) (fun (i:Nat)=>upd (upd (upd (upd (fun _=>none) 3 (some (.own (.sl 10 1 0 ((l.length+1) / 2))))) 11 (some (.val (tLm l)))) 12 (some (.val (tI l.length)))) 13 (some (.val (tI i)))) (fun (i:Nat)=>upd (fun _=>none) 10 (some (⟨262,1,false,rW .u32 (dgs 4294967296 ((l.length+1) / 2) (val 65536 (l.take i)))⟩))) [10] (fun (i:Nat)=>l.length - i) (0) (Nat.zero_le _) (hh:=(SubK.consI rfl (ImpK.ofTs (by simp [val])) SubK.nil)) ?_
 intro i hI
 refine A6 ?_
 refine x8 rfl (fun h28=> ?_) (fun h28=> ?_)
 ·
  have hx:=hl.getD (by omega) i
  have hw:(dgs 4294967296 ((l.length+1) / 2) (val 65536 (l.take i))).getD (i / 2) 0 < 65536 ^ (i%2):=by rw [xs3 (by omega)];exact pack_word hl i (by omega)
  refine A7 ?_
  refine R2 (x6 sl26 (i) (by omega) (gN (by omega))) rfl rfl ?_
  refine A8 ?_
  refine R2 (d_quoP (by omega) (by omega) (wr64 (by omega) (by omega))) rfl rfl (R2 (xa4 sl164 (by omega) (by omega) rfl) rfl rfl (RE (xb7 (i / 2) ti262 (xq1 (by rw [xf4];omega)) (by omega)) ⟨rfl,trivial⟩ ⟨rfl,trivial⟩ trivial ?_))
  refine A1 ?_
  refine R1 (xa2 Tryz.underlying262 (isS Tryz.underlying42) (by first | exact wu32 (by omega) (by omega) | exact mu32)) rfl ?_
  refine A1 ?_
  refine R2 (xm9 (by omega) (by omega)) rfl rfl (R2 (xk0 (wr64 (by omega) (by omega))) rfl rfl (R2 (d_shl (by omega) (shl16 hx)) rfl rfl (R2 (d_or (pack_or hw hx)) rfl rfl (R2 (xa4 sl164 (by omega) (by omega) rfl) rfl rfl (RE (xc9 (i / 2) ti262 (xk7 (by rw [xf4];omega)) (by omega) (xi5 (m:=_) rfl)) ⟨rfl,rfl,trivial⟩ ⟨rfl,trivial⟩ trivial ?_)))))
  refine A7 ?_
  exact kF (i+1) ⟨(by omega),(by omega)⟩ (hh:=(SubK.consI rfl (ImpK.ofTs (by rw [pack_step hl (by omega) (by omega)])) SubK.nil))
 ·
  refine A7 ?_
  refine RE (d_moveSN (up w.heap.size) (fun _ h=>h) (fun _=>Free.E) (fun _ h=>h) (xj6 (xf4 _ _ _)) (xf4 _ _ _)) ⟨rfl,trivial⟩ ⟨rfl,trivial⟩ trivial ?_
  refine A4 ?_
  exact x4 Plain.mk' rfl rfl (Le.of (by rw [show i=l.length by omega,List.take_length]))
theorem c_packNN (v:Nat) (h:(dig 65536 v).length≤1000000):CtN Tryz.prog 126 [tLm (dig 65536 v)] (fun nw=>tG (up nw) (tN v)):=by
 have:=c_packW (dig 65536 v) (xc6 xa0 v) h
 rw [pack_dig] at this;exact this
theorem c_MulN (x y:Int) (hx:len16 x≤1024) (hy:len16 y≤1024):
  CtN Tryz.prog 192 [tWh (wh x),tWh (wh y)] (fun nw=>tT [tG (up nw) (tWh (resW (x*y))),tI (resE (x*y))]):=by
 have hx32:=len32_le hx
 have hy32:=len32_le hy
 have hmul:=len_mul (k:=1024) (m:=x.natAbs) (n:=y.natAbs) (by omega) (by omega)
 refine CtN.intro Tryz.func192 rfl Tryz.ntmps192 rfl ?_
 intro w F
 refine A4 ?_
 refine RE (x9 (k:=4) (n:=2) (agg:=true) zr28.1 zr28.2 rfl) trivial trivial ⟨rfl,trivial⟩ ?_
 refine A8 ?_
 refine R2 (xd2 (n:=2) (f:=tWh) [wh x,wh y] Tryz.underlying187 el28 zf28 rfl (fun _=>inferInstance) rfl rfl rfl) rfl rfl (R1 (x3 (xo6 x y hx hy) fi124 rfl) rfl ?_)
 refine A15 ?_
 refine R1 (xg2 (ts:=[_]) (r:=tG (up w.heap.size) _) (c_packNN (Int.natAbs x) (by show len16 x≤1000000;omega)) fi126 (fun m hm=>xj5 hm) ⟨Le.refl,trivial⟩ rfl) rfl ?_
 refine A2 ?_
 refine R1 (xg2 (ts:=[_]) (r:=tG (up w.heap.size) _) (c_packNN (Int.natAbs y) (by show len16 y≤1000000;omega)) fi126 (fun m hm=>xj5 hm) ⟨Le.refl,trivial⟩ rfl) rfl (R2 (xq4 (ts:=[_,_]) (up w.heap.size) (c_times x.natAbs y.natAbs (by omega) (by omega)) fi222 (fun _ h=>h) ⟨Le.refl,Le.refl,trivial⟩ Le.refl rfl) rfl rfl (R2 (xq4 (ts:=[_,_]) (r':=tT [_,_]) (up w.heap.size) (c_result (!((wh x).neg==(wh y).neg)) (x.natAbs*y.natAbs) (by omega)) fi221 (fun _ h=>h) ⟨tG_E,Le.refl,trivial⟩ (geG_T ⟨Le.refl,tG_E',trivial⟩) rfl) rfl rfl ?_))
 refine A7 ?_
 exact xb9 Plain.mk' (rs:=[.cell 4 28,.tmp 5]) rfl rfl ⟨⟨_,_,_,_,_,rfl,rfl,ti28,(Le.of (by rw [sgn_mul]))⟩,⟨_,rfl,(Le.int (by rw [sgn_mul]))⟩,trivial⟩
theorem xw0 (x y:Int) (hx:len16 x≤1024) (hy:len16 y≤1024) (hz:len16 (x*y)≤1024):
  CtN Tryz.prog 118 [tWh (wh x),tWh (wh y)] (fun nw=>tG (up nw) (tWh (wh (x*y)))):=by
 refine CtN.intro Tryz.func118 rfl Tryz.ntmps118 rfl ?_
 intro w F
 refine A4 ?_
 refine RE (x9 (k:=4) (n:=2) (agg:=true) zr28.1 zr28.2 rfl) trivial trivial ⟨rfl,trivial⟩ ?_
 refine A6 ?_
 refine R2 (xg2 (ts:=[_,_]) (r:=tT [tG (up w.heap.size) _,_]) (c_MulN x y hx hy) fi192 (fun m hm=>le_T ⟨xj5 hm,Le.refl,trivial⟩) ⟨Le.refl,Le.refl,trivial⟩ rfl) rfl rfl ?_
 refine A3 ?_
 refine RE (x9 (k:=5) (n:=2) (agg:=true) zr28.1 zr28.2 rfl) trivial trivial ⟨rfl,trivial⟩ ?_
 refine A11 ?_
 exact xd6 Plain.mk' rfl ⟨_,_,_,_,_,rfl,rfl,ti28,(Le.of (by rw [resW,if_pos hz]))⟩
theorem c_FMulN (a b:Rat) (ha:short a) (hb:short b):
  CtN Tryz.prog 58 [tFr (fr a),tFr (fr b)] (fun nw=>tT [tG (up nw) (tFr (resF (a*b))),tI (resFE (a*b))]):=by
 obtain ⟨an,ad⟩:=ha
 obtain ⟨bn,bd⟩:=hb
 have hbd:=b.den_nz
 have had:=a.den_nz
 have m1:len16 (a.num*b.num)≤256+256:=len16_mul an bn
 have m2:len16 ((a.den:Int)*(b.den:Int))≤256+256:=len16_mul ad bd
 have ha:short a:=⟨an,ad⟩
 have hb:short b:=⟨bn,bd⟩
 refine CtN.intro Tryz.func58 rfl Tryz.ntmps58 rfl ?_
 intro w F
 refine A4 ?_
 refine RE (x9 (k:=4) (n:=4) (agg:=true) zr30.1 zr30.2 rfl) trivial trivial ⟨rfl,trivial⟩ ?_
 refine A8 ?_
 refine R2 (xd2 (n:=2) (f:=fun q:Rat=>tFr (fr q)) [a,b] Tryz.underlying189 el30 zf30 rfl (fun _=>inferInstance) rfl rfl rfl) rfl rfl (R1 (x3 (xr9 [a,b] (by simp;exact ⟨ha,hb⟩)) fi116 rfl) rfl ?_)
 refine A12 ?_
 refine R2 (xg2 (ts:=[_,_]) (r:=tG (up w.heap.size) _) (xw0 (a.num) (b.num) (by omega) (by omega) (by omega)) fi118 (fun m hm=>xj5 hm) ⟨Le.refl,Le.refl,trivial⟩ rfl) rfl rfl ?_
 refine A4 ?_
 refine R2 (xg2 (ts:=[_,_]) (r:=tG (up w.heap.size) _) (xw0 ((a.den:Int)) ((b.den:Int)) (by omega) (by omega) (by omega)) fi118 (fun m hm=>xj5 hm) ⟨Le.refl,Le.refl,trivial⟩ rfl) rfl rfl (R2 (xq4 (ts:=[_,_]) (up w.heap.size) (c_lowest _ _ (by omega) (by omega) xz2) fi117 (fun _ h=>h) ⟨Le.refl,Le.refl,trivial⟩ Le.refl rfl) rfl rfl (R1 (xq4 (ts:=[_]) (r':=tT [_,_]) (up w.heap.size) (c_Tresult _) fi119 (fun _ h=>h) ⟨Le.refl,trivial⟩ (geG_T ⟨Le.refl,tG_E',trivial⟩) rfl) rfl ?_))
 refine A7 ?_
 exact xb9 Plain.mk' (rs:=[.cell 4 30,.tmp 5]) rfl rfl ⟨⟨_,_,_,_,_,rfl,rfl,ti30,(Le.of (by rw [sh_fr,xz0];by_cases hs:short (a*b) <;> simp [resF,hs]))⟩,⟨_,rfl,(Le.int (by rw [sh_fr,xz0];by_cases hs:short (a*b) <;> simp [resFE,hs]))⟩,trivial⟩
theorem c_FAddN (a b:Rat) (ha:short a) (hb:short b):
  CtN Tryz.prog 62 [tFr (fr a),tFr (fr b)] (fun nw=>tT [tG (up nw) (tFr (resF (a+b))),tI (resFE (a+b))]):=by
 obtain ⟨an,ad⟩:=ha
 obtain ⟨bn,bd⟩:=hb
 have hbd:=b.den_nz
 have had:=a.den_nz
 have m1:len16 (a.num*(b.den:Int))≤256+256:=len16_mul an bd
 have m2:len16 (b.num*(a.den:Int))≤256+256:=len16_mul bn ad
 have m3:len16 ((a.den:Int)*(b.den:Int))≤256+256:=len16_mul ad bd
 have m4:=len16_add m1 m2
 have ha:short a:=⟨an,ad⟩
 have hb:short b:=⟨bn,bd⟩
 refine CtN.intro Tryz.func62 rfl Tryz.ntmps62 rfl ?_
 intro w F
 refine A4 ?_
 refine RE (x9 (k:=4) (n:=4) (agg:=true) zr30.1 zr30.2 rfl) trivial trivial ⟨rfl,trivial⟩ ?_
 refine A8 ?_
 refine R2 (xd2 (n:=2) (f:=fun q:Rat=>tFr (fr q)) [a,b] Tryz.underlying189 el30 zf30 rfl (fun _=>inferInstance) rfl rfl rfl) rfl rfl (R1 (x3 (xr9 [a,b] (by simp;exact ⟨ha,hb⟩)) fi116 rfl) rfl ?_)
 refine A12 ?_
 refine R2 (xg2 (ts:=[_,_]) (r:=tG (up w.heap.size) _) (xw0 (a.num) ((b.den:Int)) (by omega) (by omega) (by omega)) fi118 (fun m hm=>xj5 hm) ⟨Le.refl,Le.refl,trivial⟩ rfl) rfl rfl ?_
 refine A4 ?_
 refine R2 (xg2 (ts:=[_,_]) (r:=tG (up w.heap.size) _) (xw0 (b.num) ((a.den:Int)) (by omega) (by omega) (by omega)) fi118 (fun m hm=>xj5 hm) ⟨Le.refl,Le.refl,trivial⟩ rfl) rfl rfl (R2 (xq4 (ts:=[_,_]) (up w.heap.size) (c_fplus (a.num*(b.den:Int)) (b.num*(a.den:Int)) (by omega) (by omega) (by omega)) fi122 (fun _ h=>h) ⟨Le.refl,Le.refl,trivial⟩ Le.refl rfl) rfl rfl ?_)
 refine A4 ?_
 refine R2 (xg2 (ts:=[_,_]) (r:=tG (up w.heap.size) _) (xw0 ((a.den:Int)) ((b.den:Int)) (by omega) (by omega) (by omega)) fi118 (fun m hm=>xj5 hm) ⟨Le.refl,Le.refl,trivial⟩ rfl) rfl rfl (R2 (xq4 (ts:=[_,_]) (up w.heap.size) (c_lowest _ _ (by omega) (by omega) xz2) fi117 (fun _ h=>h) ⟨Le.refl,Le.refl,trivial⟩ Le.refl rfl) rfl rfl (R1 (xq4 (ts:=[_]) (r':=tT [_,_]) (up w.heap.size) (c_Tresult _) fi119 (fun _ h=>h) ⟨Le.refl,trivial⟩ (geG_T ⟨Le.refl,tG_E',trivial⟩) rfl) rfl ?_))
 refine A7 ?_
 exact xb9 Plain.mk' (rs:=[.cell 4 30,.tmp 5]) rfl rfl ⟨⟨_,_,_,_,_,rfl,rfl,ti30,(Le.of (by rw [sh_fr,xt1];by_cases hs:short (a+b) <;> simp [resF,hs]))⟩,⟨_,rfl,(Le.int (by rw [sh_fr,xt1];by_cases hs:short (a+b) <;> simp [resFE,hs]))⟩,trivial⟩
theorem c_FMulTN (f:Fr) (n:Int) (hf:f=fr f.rat) (hs:short f.rat) (hn:short (n:Rat)):CtN Tryz.prog 58 [tFr f,tFr (fr (n:Rat))] (fun nw=>tT [tG (up nw) (tFr (resF (f.rat*(n:Rat)))),tI (resFE (f.rat*(n:Rat)))]):=by
 have h:=c_FMulN f.rat n hs hn
 rw [←hf] at h;exact h
theorem c_FMulQ4N {o:Option Rat} {q:Rat} (ho:o=some q) (hq:short q):CtN Tryz.prog 58 [tFr (sumF o),tFr ⟨wh 4,wh 1461⟩] (fun nw=>tT [tG (up nw) (tFr (resF (q*q4))),tI (resFE (q*q4))]):=by
 have h:=c_FMulN q q4 hq short_q4
 rw [fr_q4] at h;rw [ho];exact h
theorem c_FAddEN (f:Fr) (hf:f=fr f.rat) (hs:short f.rat):CtN Tryz.prog 62 [tFr f,tFr (fr ((0:Int):Rat))] (fun nw=>tT [tG (up nw) (tFr f),tI 0]):=by
 have h:=c_FAddN f.rat ((0:Int):Rat) hs (xh6 (Nat.le_trans (len16_64 (by decide) (by decide)) (by decide)))
 rw [show f.rat+((0:Int):Rat)=f.rat from Rat.add_zero _,resF,if_pos hs,resFE,if_pos hs,←hf] at h
 exact h
theorem c_TSumN (l:List Tst) (a b:Int) (hl:l.length≤500000) (hD: ∀s∈l,s.v.f.dig):
  CtN Tryz.prog 57 [tL 8 true tTs l,tI a,tI b] (fun nw=>tT [tG (up nw) (tFr (if sumC l a b then sumF (sumT (cutT l a b)) else fr0)),tI (if sumC l a b then sumE (sumT (cutT l a b)) else 2)]):=by
 have hcut:=c_Cut l a b hl hD
 obtain ⟨part,hpart⟩: ∃p:List Tst,p=(if (tRight l=true∧Sn.ok ⟨a,b⟩=true) then cutT l a b else []):=⟨_,rfl⟩
 obtain ⟨er,her⟩: ∃e:Int,e=(if (tRight l=true∧Sn.ok ⟨a,b⟩=true) then 0 else 2):=⟨_,rfl⟩
 rw [←hpart,←her] at hcut
 refine CtN.intro Tryz.func57 rfl Tryz.ntmps57 rfl ?_
 intro w F
 refine A2 ?_
 refine RE (x9 (k:=6) (n:=4) (agg:=true) zr30.1 zr30.2 rfl) trivial trivial ⟨rfl,trivial⟩ ?_
 refine A8 ?_
 refine R3 (x3 hcut fi115 rfl) rfl rfl rfl ?_
 refine A14 ?_
 refine x8 rfl (fun h181=> ?_) (fun h181=> ?_)
 ·
  have hb0: ¬(tRight l=true∧Sn.ok ⟨a,b⟩=true):=fun h=>h181 (by rw [her,if_pos h])
  have hb: ¬sumC l a b:=fun h=>hb0 h.1
  refine A2 ?_
  refine R0 (xb8 (r:=tS [⟨2,true,(tS [⟨1,false,(tE (.bool false))⟩,⟨1,false,(tLm [])⟩])⟩,⟨2,true,(tS [⟨1,false,(tE (.bool false))⟩,⟨1,false,(tLm [])⟩])⟩]) (ts:=[]) bu30 zr30.2 Le.refl) ?_
  refine A7 ?_
  exact xb9 Plain.mk' (rs:=[.cell 6 30,.tmp 7]) rfl rfl ⟨⟨_,_,_,_,_,rfl,rfl,ti30,(fr0L (by rw [if_neg hb];try rfl))⟩,⟨_,rfl,(Le.int (by rw [if_neg hb,her,if_neg hb0]))⟩,trivial⟩
 ·
  have hok:(tRight l=true∧Sn.ok ⟨a,b⟩=true):=Classical.byContradiction fun h=>h181 (by rw [her,if_neg h];decide)
  refine A2 ?_
  refine xg9 (fun (_j:Unit)=>numK l) (fun (_j:Unit)=>upd (upd (fun _=>none) 6 (some (.own (.ptr 6 0)))) 8 (some (.val (tL 8 true tTs part)))) (fun (_j:Unit)=>upd (fun _=>none) 6 (some (⟨30,4,true,[.val (tFr fr0)]⟩))) (nm [6]) ?_ ?_
  ·
   refine A6 ?_
   refine RGcaseD (t:=29) rfl (fun h184=> ?_) (fun h184=> ?_)
   ·
    refine A1 ?_
    refine RGon (decide_eq_true h184) rfl (x6 sl22 (0) (by omega) (gD (l:=l) (n:=0) (d:=tst0) (by omega))) rfl ⟨rfl,rfl,trivial⟩ trivial trivial (RGon (decide_eq_true h184) rfl (xb5 fo34_2.h (At.f 2 rfl rfl) rfl) rfl ⟨rfl,trivial⟩ trivial trivial (RGon (decide_eq_true h184) rfl (xb5 fo32_0.h (At.f 0 rfl rfl) rfl) rfl ⟨rfl,trivial⟩ trivial trivial ?_))
    refine A4 ?_
    refine RGcaseD (t:=37) rfl (fun h184_2=> ?_) (fun h184_2=> ?_)
    ·
     refine A1 ?_
     refine RGon (decide_eq_true h184_2) rfl (x6 sl22 (0) (by omega) (gD (l:=l) (n:=0) (d:=tst0) (by omega))) rfl ⟨rfl,rfl,trivial⟩ trivial trivial (RGon (decide_eq_true h184_2) rfl (xb5 fo34_2.h (At.f 2 rfl rfl) rfl) rfl ⟨rfl,trivial⟩ trivial trivial (RGon (decide_eq_true h184_2) rfl (xb5 fo32_0.h (At.f 0 rfl rfl) rfl) rfl ⟨rfl,trivial⟩ trivial trivial ?_))
     refine A5 ?_
     refine x8 rfl (fun h184_3=> ?_) (fun h184_3=> ?_)
     ·
      refine A2 ?_
      refine R0 (xb8 (r:=tS [⟨2,true,(tS [⟨1,false,(tE (.bool false))⟩,⟨1,false,(tLm [])⟩])⟩,⟨2,true,(tS [⟨1,false,(tE (.bool false))⟩,⟨1,false,(tLm [])⟩])⟩]) (ts:=[]) bu30 zr30.2 Le.refl) ?_
      refine A6 ?_
      exact xb9 Plain.mk' (rs:=[.cell 6 30,.tmp 7]) rfl rfl ⟨⟨_,_,_,_,_,rfl,rfl,ti30,(fr0L (by rw [if_neg (fun h=>by have:=h.2;simp only [numK] at this;omega)];try rfl))⟩,⟨_,rfl,(Le.int (by rw [if_neg (fun h=>by have:=h.2;simp only [numK] at this;omega)]))⟩,trivial⟩
     ·
      refine A1 ?_
      exact kF (()) (by simp only [numK];omega) (hh:=((SubK.consI rfl ImpK.refl) SubK.nil))
    ·
     refine A11 ?_
     exact kF (()) (by simp only [numK];omega) (hh:=((SubK.consI rfl ImpK.refl) SubK.nil))
   ·
    refine A18 ?_
    refine A1 ?_
    exact kF (()) (by simp only [numK];omega) (hh:=((SubK.consI rfl ImpK.refl) SubK.nil))
  ·
   intro _j hnk
   refine A2 ?_
   refine R1 (xq4 (ts:=[_]) (up w.heap.size) (xk2 0 (by decide) (by decide)) fi56 (fun _ h=>h) ⟨tG_E,trivial⟩ Le.refl rfl) rfl (RE (x9 (k:=10) (n:=4) (agg:=true) zr30.1 zr30.2 rfl) trivial trivial ⟨rfl,trivial⟩ ?_)
   refine A12 ?_
   have hc:sumC l a b:=⟨hok,hnk⟩
   have hnum:=cut_num (a:=a) (b:=b) hok.1 hD hc.2
   rw [if_pos hok] at hpart
   rw [←hpart] at hnum
   refine xj2 (s:=47) rfl (fun hl0=> ?_)
   refine cL (fun (fm:(Nat)×(Rat))=>(fun (i:Nat) (q:Rat)=>i≤part.length∧sumT (part.take i)=some q∧short q) fm.1 fm.2) (fun (fm:(Nat)×(Rat))=>(fun (i:Nat) (q:Rat)=>upd (upd (upd (upd (upd (fun _=>none) 6 (some (.own (.ptr 6 0)))) 10 (some (.own (.ptr 10 0)))) 47 (some (.val (tL 8 true tTs part)))) 48 (some (.val (tI part.length)))) 49 (some (.val (tI i)))) fm.1 fm.2) (fun (fm:(Nat)×(Rat))=>(fun (i:Nat) (q:Rat)=>upd (upd (fun _=>none) 6 (some (⟨30,4,true,[.val (tFr fr0)]⟩))) 10 (some (⟨30,4,true,[.val (tG (up w.heap.size) (tFr (fr q)))]⟩))) fm.1 fm.2) [6,10] (fun (fm:(Nat)×(Rat))=>(fun (i:Nat) (q:Rat)=>part.length - i) fm.1 fm.2) ((0,((0:Int):Rat))) (by dsimp only;exact ⟨Nat.zero_le _,rfl,xh6 (Nat.le_trans (len16_64 (by decide) (by decide)) (by decide))⟩) (hh:=((SubK.consI rfl ImpK.refl) ((SubK.consI rfl ImpK.refl) SubK.nil))) ?_
   intro fm hI
   obtain ⟨i,q⟩:=fm
   replace hI:i≤part.length∧sumT (part.take i)=some q∧short q:=hI
   show wc _ _ _ _ (upd (upd (upd (upd (upd (fun _=>none) 6 (some (.own (.ptr 6 0)))) 10 (some (.own (.ptr 10 0)))) 47 (some (.val (tL 8 true tTs part)))) 48 (some (.val (tI part.length)))) 49 (some (.val (tI i)))) (upd (upd (fun _=>none) 6 (some (⟨30,4,true,[.val (tFr fr0)]⟩))) 10 (some (⟨30,4,true,[.val (tG (up w.heap.size) (tFr (fr q)))]⟩))) _
   obtain ⟨hi,hq,hs⟩:=hI
   refine A6 ?_
   refine x8 rfl (fun h188=> ?_) (fun h188=> ?_)
   ·
    refine A6 ?_
    obtain ⟨n1,n2,n3,n4,n5⟩:=hnum _ (xd5 (l:=part) (i:=i) (by omega))
    refine R2 (x6 sl22 (i) (by omega) (gD (l:=part) (n:=i) (d:=tst0) (by omega))) rfl rfl ?_
    refine A1 ?_
    refine RE (x9 (k:=12) (n:=8) (agg:=true) zr34.1 zr34.2 rfl) trivial trivial ⟨rfl,trivial⟩ ?_
    refine A7 ?_
    refine xh1 (0) ti30 rfl rfl rfl (At.t (At.g 2 rfl rfl) (At.g 1 rfl rfl)) rfl ?_
    refine A5 ?_
    refine R1 (x3 (xk2 ((part.getD i tst0).hi - (part.getD i tst0).lo) (by omega) (by omega)) fi56 rfl) rfl (R2 (xg2 (ts:=[_,_]) (r:=tT [tG (up w.heap.size) _,_]) (c_FMulTN (part.getD i tst0).v.f ((part.getD i tst0).hi - (part.getD i tst0).lo) n4 n5 (xh6 (Nat.le_trans (len16_64 (by omega) (by omega)) (by decide)))) fi58 (fun m hm=>le_T ⟨xj5 hm,Le.refl,trivial⟩) ⟨Le.refl,Le.refl,trivial⟩ rfl) rfl rfl ?_)
    refine A3 ?_
    refine RE (x9 (k:=13) (n:=4) (agg:=true) zr30.1 zr30.2 rfl) trivial trivial ⟨rfl,trivial⟩ ?_
    refine A11 ?_
    refine x8 rfl (fun h190=> ?_) (fun h190=> ?_)
    ·
     have hp:=xh0 h190
     refine A3 ?_
     refine R2 (xq4 (ts:=[_,_]) (r':=tT [_,_]) (up w.heap.size) (c_FAddR q ((part.getD i tst0).v.f.rat*(((part.getD i tst0).hi - (part.getD i tst0).lo:Int):Rat)) hs hp) fi62 (fun _ h=>h) ⟨Le.refl,Le.refl,trivial⟩ (geG_T ⟨Le.refl,tG_E',trivial⟩) rfl) rfl rfl ?_
     refine A13 ?_
     refine x8 rfl (fun h193=> ?_) (fun h193=> ?_)
     ·
      refine A2 ?_
      refine R0 (xb8 (r:=tS [⟨2,true,(tS [⟨1,false,(tE (.bool false))⟩,⟨1,false,(tLm [])⟩])⟩,⟨2,true,(tS [⟨1,false,(tE (.bool false))⟩,⟨1,false,(tLm [])⟩])⟩]) (ts:=[]) bu30 zr30.2 Le.refl) ?_
      refine A11 ?_
      exact xb9 Plain.mk' (rs:=[.cell 6 30,.tmp 7]) rfl rfl ⟨⟨_,_,_,_,_,rfl,rfl,ti30,(fr0L (by rw [if_pos hc,←hpart,xk9 (i:=i+1) (by rw [xi2 (by omega),hq,sumStep,if_neg (fun h=>xe0 h193 h.2)])];try rfl))⟩,⟨_,rfl,(Le.int (by rw [if_pos hc,←hpart,xk9 (i:=i+1) (by rw [xi2 (by omega),hq,sumStep,if_neg (fun h=>xe0 h193 h.2)]),resFE,if_neg (xe0 h193)];rfl))⟩,trivial⟩
     ·
      have h193z:=Decidable.not_not.1 h193
      refine A7 ?_
      exact kF ((i+1,q+((part.getD i tst0).v.f.rat*(((part.getD i tst0).hi - (part.getD i tst0).lo:Int):Rat)))) ⟨(by dsimp only;exact ⟨by omega,by rw [xi2 (by omega),hq,sumStep,if_pos ⟨hp,xh0 h193z⟩],xh0 h193z⟩),(by dsimp only;omega)⟩ (hh:=((SubK.consI rfl (ImpK.of (by dsimp only;rw [resF,if_pos (xh0 h193z)];rfl))) ((SubK.consI rfl ImpK.refl) SubK.nil)))
    ·
     refine A8 ?_
     refine x8 rfl (fun h193=> ?_) (fun h193=> ?_)
     ·
      refine A2 ?_
      refine R0 (xb8 (r:=tS [⟨2,true,(tS [⟨1,false,(tE (.bool false))⟩,⟨1,false,(tLm [])⟩])⟩,⟨2,true,(tS [⟨1,false,(tE (.bool false))⟩,⟨1,false,(tLm [])⟩])⟩]) (ts:=[]) bu30 zr30.2 Le.refl) ?_
      refine A11 ?_
      exact xb9 Plain.mk' (rs:=[.cell 6 30,.tmp 7]) rfl rfl ⟨⟨_,_,_,_,_,rfl,rfl,ti30,(fr0L (by rw [if_pos hc,←hpart,xk9 (i:=i+1) (by rw [xi2 (by omega),hq,sumStep,if_neg (fun h=>xe0 h193 h.1)])];try rfl))⟩,⟨_,rfl,(Le.int (by rw [if_pos hc,←hpart,xk9 (i:=i+1) (by rw [xi2 (by omega),hq,sumStep,if_neg (fun h=>xe0 h193 h.1)]),resFE,if_neg (xe0 h193)];rfl))⟩,trivial⟩
     ·
      have h193z:=Decidable.not_not.1 h193
      refine A7 ?_
      exact kF ((i+1,q)) ⟨(by dsimp only;exact absurd h193z h190),(by dsimp only;omega)⟩ (hh:=((SubK.consI rfl ImpK.refl) ((SubK.consI rfl ImpK.refl) SubK.nil)))
   ·
    refine A13 ?_
    exact xb9 Plain.mk' (rs:=[.cell 6 30,.tmp 7]) rfl rfl ⟨⟨_,_,_,_,_,rfl,rfl,ti30,(Le.of (by rw [if_pos hc,←hpart,←List.take_length (l:=part),←show i=part.length by omega,hq];rfl))⟩,⟨_,rfl,(Le.int (by rw [if_pos hc,←hpart,←List.take_length (l:=part),←show i=part.length by omega,hq];rfl))⟩,trivial⟩
theorem c_TSumOkN (l:List Tst) (a b:Int) (hl:l.length≤500000) (hD: ∀s∈l,s.v.f.dig) (h:sumC l a b):CtN Tryz.prog 57 [tL 8 true tTs l,tI a,tI b] (fun nw=>tT [tG (up nw) (tFr (sumF (sumT (cutT l a b)))),tI (sumE (sumT (cutT l a b)))]):=by
 have:=c_TSumN l a b hl hD
 rw [if_pos h,if_pos h] at this;exact this
theorem c_YearsN (l:List Tst) (a b:Int) (hl:l.length≤500000) (hD: ∀s∈l,s.v.f.dig):
  CtN Tryz.prog 27 [tL 8 true tTs l,tI a,tI b] (fun nw=>tT [tG (up nw) (tFr (if askB l a b=true then sumF (yq l a b) else fr0)),tI (if askB l a b=true then sumE (yq l a b) else 2)]):=by
 refine CtN.intro Tryz.func27 rfl Tryz.ntmps27 rfl ?_
 intro w F
 refine A2 ?_
 refine RE (x9 (k:=6) (n:=4) (agg:=true) zr30.1 zr30.2 rfl) trivial trivial ⟨rfl,trivial⟩ ?_
 refine A8 ?_
 refine R3 (x3 (xs9 l a b hD) fi44 rfl) rfl rfl rfl ?_
 refine A3 ?_
 refine RE (x9 (k:=8) (n:=3) (agg:=true) zr72.1 zr72.2 rfl) trivial trivial ⟨rfl,trivial⟩ ?_
 refine A11 ?_
 refine xd4 rfl (fun h66=> ?_) (fun h66=> ?_)
 ·
  have hk: ¬askB l a b=true:=by simpa using h66
  refine A2 ?_
  refine R0 (xb8 (r:=tS [⟨2,true,(tS [⟨1,false,(tE (.bool false))⟩,⟨1,false,(tLm [])⟩])⟩,⟨2,true,(tS [⟨1,false,(tE (.bool false))⟩,⟨1,false,(tLm [])⟩])⟩]) (ts:=[]) bu30 zr30.2 Le.refl) ?_
  refine A6 ?_
  exact xb9 Plain.mk' (rs:=[.cell 6 30,.tmp 7]) rfl rfl ⟨⟨_,_,_,_,_,rfl,rfl,ti30,(fr0L (by rw [if_neg hk];try rfl))⟩,⟨_,rfl,(Le.int (by rw [if_neg hk]))⟩,trivial⟩
 ·
  have hk:askB l a b=true:=by simpa using h66
  refine A6 ?_
  refine R1 (x3 (c_none l a b) fi55 rfl) rfl ?_
  refine A2 ?_
  refine x8 rfl (fun h69=> ?_) (fun h69=> ?_)
  ·
   refine A2 ?_
   refine R1 (xq4 (ts:=[_]) (up w.heap.size) (xk2 0 (by decide) (by decide)) fi56 (fun _ h=>h) ⟨tG_E,trivial⟩ Le.refl rfl) rfl ?_
   refine A6 ?_
   exact xb9 Plain.mk' (rs:=[.cell 6 30,.tmp 7]) rfl rfl ⟨⟨_,_,_,_,_,rfl,rfl,ti30,(Le.of (by rw [if_pos hk,yq,if_pos h69];rfl))⟩,⟨_,rfl,(Le.int (by rw [if_pos hk,yq,if_pos h69];rfl))⟩,trivial⟩
  ·
   refine A7 ?_
   refine R3 (xg2 (ts:=[_,_,_]) (r:=tT [tG (up w.heap.size) _,_]) (c_TSumOkN l a b hl hD (ask_sum hk h69)) fi57 (fun m hm=>le_T ⟨xj5 hm,Le.refl,trivial⟩) ⟨Le.refl,Le.refl,Le.refl,trivial⟩ rfl) rfl rfl rfl ?_
   refine A3 ?_
   refine RE (x9 (k:=10) (n:=4) (agg:=true) zr30.1 zr30.2 rfl) trivial trivial ⟨rfl,trivial⟩ ?_
   refine A11 ?_
   refine x8 rfl (fun h73=> ?_) (fun h73=> ?_)
   ·
    refine A2 ?_
    refine R0 (xb8 (r:=tS [⟨2,true,(tS [⟨1,false,(tE (.bool false))⟩,⟨1,false,(tLm [])⟩])⟩,⟨2,true,(tS [⟨1,false,(tE (.bool false))⟩,⟨1,false,(tLm [])⟩])⟩]) (ts:=[]) bu30 zr30.2 Le.refl) ?_
    refine A7 ?_
    exact xb9 Plain.mk' (rs:=[.cell 6 30,.tmp 7]) rfl rfl ⟨⟨_,_,_,_,_,rfl,rfl,ti30,(fr0L (by rw [if_pos hk,yq,if_neg h69];cases hs:sumT (cutT l a b) with | none=>rfl | some q=>rw [hs] at h73;exact absurd rfl h73))⟩,⟨_,rfl,(Le.int (by rw [if_pos hk,yq,if_neg h69];cases hs:sumT (cutT l a b) with | none=>rfl | some q=>rw [hs] at h73;exact absurd rfl h73))⟩,trivial⟩
   ·
    obtain ⟨q,hq,hqs⟩:=xz3 (fun q h=>sumT_short h) (Decidable.not_not.1 h73)
    refine A5 ?_
    refine R1 (x3 (xq7 4 (by decide) (by decide)) fi59 rfl) rfl (R1 (x3 (xq7 1461 (by decide) (by decide)) fi59 rfl) rfl (R2 (xb8 (r:=tS [⟨2,true,tWh (wh 4)⟩,⟨2,true,tWh (wh 1461)⟩]) (ts:=[(0,tWh (wh 4)),(1,tWh (wh 1461))]) bu30 zr30.2 (Bc 0 rfl rfl rfl (Bc 1 rfl rfl rfl Le.refl))) rfl rfl (R2 (xg2 (ts:=[_,_]) (r:=tT [tG (up w.heap.size) _,_]) (c_FMulQ4N hq hqs) fi58 (fun m hm=>le_T ⟨xj5 hm,Le.refl,trivial⟩) ⟨tG_le,Le.refl,trivial⟩ rfl) rfl rfl ?_)))
    refine A7 ?_
    exact xb9 Plain.mk' (rs:=[.cell 6 30,.tmp 7]) rfl rfl ⟨⟨_,_,_,_,_,rfl,rfl,ti30,(Le.of (by rw [if_pos hk,yq,if_neg h69,hq,resF_mulO];rfl))⟩,⟨_,rfl,(Le.int (by rw [if_pos hk,yq,if_neg h69,hq,resFE_mulO];rfl))⟩,trivial⟩
theorem c_CappedN (l:List Tst) (a b:Int) (f:Fr) (hl:l.length≤500000) (hD: ∀s∈l,s.v.f.dig) (hF:f.dig):
  CtN Tryz.prog 28 [tL 8 true tTs l,tI a,tI b,tFr f] (fun nw=>tT [tG (up nw) (tFr (if capC l a b f then sumF (capO l a b f) else fr0)),tI (if capC l a b f then sumE (capO l a b f) else 2)]):=by
 refine CtN.intro Tryz.func28 rfl Tryz.ntmps28 rfl ?_
 intro w F
 refine A3 ?_
 refine RE (x9 (k:=8) (n:=4) (agg:=true) zr30.1 zr30.2 rfl) trivial trivial ⟨rfl,trivial⟩ ?_
 refine A7 ?_
 refine R1 (x3 (xt8 f hF.1 hF.2) fi60 rfl) rfl ?_
 refine A2 ?_
 refine RGcase (t:=15) rfl (fun h81=> ?_) (fun h81=> ?_)
 ·
  have hk: ¬capC l a b f:=fun h=>by rw [h.1.1] at h81;cases h81
  refine A9 ?_
  refine R0 (xb8 (r:=tS [⟨2,true,(tS [⟨1,false,(tE (.bool false))⟩,⟨1,false,(tLm [])⟩])⟩,⟨2,true,(tS [⟨1,false,(tE (.bool false))⟩,⟨1,false,(tLm [])⟩])⟩]) (ts:=[]) bu30 zr30.2 Le.refl) ?_
  refine A6 ?_
  exact xb9 Plain.mk' (rs:=[.cell 8 30,.tmp 9]) rfl rfl ⟨⟨_,_,_,_,_,rfl,rfl,ti30,(fr0L (by rw [if_neg hk];try rfl))⟩,⟨_,rfl,(Le.int (by rw [if_neg hk]))⟩,trivial⟩
 ·
  have hv:f.valid=true:=by simpa using h81
  refine A2 ?_
  refine xd0 h81 rfl rfl (0) ti4 rfl rfl rfl (At.t (At.g 0 rfl rfl) (At.g 0 rfl rfl)) rfl ?_
  refine A3 ?_
  refine xd4 rfl (fun h81_2=> ?_) (fun h81_2=> ?_)
  ·
   have hk: ¬capC l a b f:=fun h=>by rw [h.1.2] at h81_2;cases h81_2
   refine A2 ?_
   refine R0 (xb8 (r:=tS [⟨2,true,(tS [⟨1,false,(tE (.bool false))⟩,⟨1,false,(tLm [])⟩])⟩,⟨2,true,(tS [⟨1,false,(tE (.bool false))⟩,⟨1,false,(tLm [])⟩])⟩]) (ts:=[]) bu30 zr30.2 Le.refl) ?_
   refine A6 ?_
   exact xb9 Plain.mk' (rs:=[.cell 8 30,.tmp 9]) rfl rfl ⟨⟨_,_,_,_,_,rfl,rfl,ti30,(fr0L (by rw [if_neg hk];try rfl))⟩,⟨_,rfl,(Le.int (by rw [if_neg hk]))⟩,trivial⟩
  ·
   have hv2:f.valid=true∧f.n.neg=false:=⟨hv,h81_2⟩
   have hf:=Fr.of_valid' hF hv
   refine A7 ?_
   refine R3 (xg2 (ts:=[_,_,_]) (r:=tT [tG (up w.heap.size) _,_]) (c_YearsN l a b hl hD) fi27 (fun m hm=>le_T ⟨xj5 hm,Le.refl,trivial⟩) ⟨Le.refl,Le.refl,Le.refl,trivial⟩ rfl) rfl rfl rfl ?_
   refine A3 ?_
   refine RE (x9 (k:=10) (n:=4) (agg:=true) zr30.1 zr30.2 rfl) trivial trivial ⟨rfl,trivial⟩ ?_
   refine A11 ?_
   refine x8 rfl (fun h85=> ?_) (fun h85=> ?_)
   ·
    refine A2 ?_
    refine R0 (xb8 (r:=tS [⟨2,true,(tS [⟨1,false,(tE (.bool false))⟩,⟨1,false,(tLm [])⟩])⟩,⟨2,true,(tS [⟨1,false,(tE (.bool false))⟩,⟨1,false,(tLm [])⟩])⟩]) (ts:=[]) bu30 zr30.2 Le.refl) ?_
    refine A7 ?_
    exact xb9 Plain.mk' (rs:=[.cell 8 30,.tmp 9]) rfl rfl ⟨⟨_,_,_,_,_,rfl,rfl,ti30,(fr0L (by rw [(cap_bad hv2 h85).1];try rfl))⟩,⟨_,rfl,(Le.int (cap_bad hv2 h85).2)⟩,trivial⟩
   ·
    obtain ⟨hk,q,hq,hqs⟩:=yr_ok (Decidable.not_not.1 h85)
    have hc:capC l a b f:=⟨hv2,hk⟩
    refine A7 ?_
    refine R2 (xd9 (ts:=[_,_]) (c_FCmpE (x:=if askB l a b=true then sumF (yq l a b) else fr0) (q:=q) (by rw [if_pos hk,hq];rfl) hqs f hf.1 hf.2) fi61 rfl ⟨tG_le,Le.refl,trivial⟩) rfl rfl ?_
    refine A3 ?_
    refine x8 rfl (fun h88=> ?_) (fun h88=> ?_)
    ·
     refine A9 ?_
     exact xb9 Plain.mk' (rs:=[.cell 8 30,.tmp 9]) rfl rfl ⟨⟨_,_,_,_,_,rfl,rfl,ti30,(Le.of (by rw [if_pos hc,capO,hq,if_pos hk,Option.map_some,if_pos (Decidable.byContradiction fun h=>absurd (xj3.2 h) (by omega))]))⟩,⟨_,rfl,(Le.int (by rw [if_pos hc,capO,hq];rfl))⟩,trivial⟩
    ·
     refine A5 ?_
     refine R1 (x3 (xk2 0 (by decide) (by decide)) fi56 rfl) rfl (R2 (xg2 (ts:=[_,_]) (r:=tT [tG (up w.heap.size) _,_]) (c_FAddEN f hf.1 hf.2) fi62 (fun m hm=>le_T ⟨xj5 hm,Le.refl,trivial⟩) ⟨Le.refl,Le.refl,trivial⟩ rfl) rfl rfl ?_)
     refine A7 ?_
     exact xb9 Plain.mk' (rs:=[.cell 8 30,.tmp 9]) rfl rfl ⟨⟨_,_,_,_,_,rfl,rfl,ti30,(Le.of (by rw [if_pos hc,capO,hq,Option.map_some,if_neg (xj3.1 (by omega)),hf.1,rat_fr];rfl))⟩,⟨_,rfl,(Le.int (by rw [if_pos hc,capO,hq];rfl))⟩,trivial⟩
end An.S
namespace An.S
open Go
theorem tRight_iff {l:List Tst}:tRight l=true↔(∀i,i < l.length→tOk l i=true)∧ ∀s∈l,s.v.valid=true:=by
 simp only [tRight,Bool.and_eq_true,List.all_eq_true,List.mem_range]
theorem xo9 {l:List Tst} (h:tRight l=true): ∀{j i:Nat},i < j→j < l.length→(l.getD i tst0).hi≤(l.getD j tst0).lo
 | j+1,i,hij,hj=>by
  have h1:=(xm4 h hj).2.2.2.resolve_left (by omega)
  have h1:(l.getD j tst0).hi≤(l.getD (j+1) tst0).lo:=h1.1
  rcases Nat.lt_or_ge i j with h2 | h2
  ·have h3:=xo9 h h2 (by omega)
   have h4:=(xm4 h (i:=j) (by omega)).2.1
   omega
  ·have:i=j:=by omega
   subst this;exact h1
theorem tRight_pair {l:List Tst} (h:tRight l=true):l.Pairwise fun s t=>s.hi≤t.lo:=by
 refine List.pairwise_iff_getElem.2 fun i j hi hj hij=> ?_
 have:=xo9 h hij hj
 rwa [List.getD_eq_getElem?_getD,List.getD_eq_getElem?_getD,List.getElem?_eq_getElem hi,List.getElem?_eq_getElem hj] at this
def okS (s:Sn):Prop:=0≤s.lo∧s.lo < s.hi∧s.hi≤65536
def ascS (l:List Sn):Prop:=(∀s∈l,okS s)∧l.Pairwise fun s t=>s.hi≤t.lo
theorem ascS_pos {l:List Sn} (h:ascS l):l.filter pos=l:=List.filter_eq_self.2 fun s hs=>by
 have:=h.1 s hs
 simp only [pos,decide_eq_true_eq];exact this.2.1
theorem ascS_srt {l:List Sn} (h:ascS l):srt cfSn l=l:=by
 refine srt_asc swoSn ?_
 refine List.pairwise_iff_forall_sublist.2 fun {s t} hst=> ?_
 have h1:=List.pairwise_iff_forall_sublist.1 h.2 hst
 have h2:=(h.1 s (hst.subset (List.mem_cons_self ..))).2.1
 rw [ltSn];simp;omega
theorem ascS_ok {l:List Sn} (h:ascS l):l.all Sn.ok=true:=List.all_eq_true.2 fun s hs=>by
 have:=h.1 s hs
 simp only [Sn.ok,Bool.and_eq_true,decide_eq_true_eq];simp only [okS] at this;omega
def lastS (l:List Sn):Sn:=l.getD (l.length - 1) sn0
theorem xu7 {l:List Sn}:sVal l=true↔ ∀i,i < l.length→sOkA l i=true:=by
 simp only [sVal,List.all_eq_true,List.mem_range]
theorem xp2 {l:List Sn} {s:Sn} {i:Nat}:(l++[s]).getD i sn0=if i < l.length then l.getD i sn0 else if i=l.length then s else sn0:=by
 simp only [List.getD_eq_getElem?_getD,List.getElem?_append]
 by_cases h:i < l.length
 ·simp [h]
 ·by_cases h2:i=l.length
  ·simp [h2]
  ·have:i - l.length≠0:=by omega
   simp only [h,h2,if_false]
   rw [List.getElem?_eq_none (by simp;omega)];rfl
theorem xw1 {l:List Sn} {s:Sn} {i j:Nat} (hj:j < l.length):(l.set j s).getD i sn0=if i=j then s else l.getD i sn0:=by
 simp only [List.getD_eq_getElem?_getD]
 by_cases h:i=j
 ·subst h;rw [List.getElem?_set_self hj];simp
 ·rw [List.getElem?_set_ne (Ne.symm h)];simp [h]
theorem xs8 {l:List Sn} {s:Sn} (h:sVal l=true) (hs:okS s) (hl:0 < l.length→(lastS l).hi < s.lo):sVal (l++[s])=true:=by
 refine xu7.2 fun i hi=>xm0.2 ?_
 rw [List.length_append,List.length_singleton] at hi
 rw [xp2,xp2]
 by_cases e:i < l.length
 ·have ho:=xm0.1 (xu7.1 h i e)
  rw [if_pos e,if_pos (by omega)];exact ho
 ·have e2:i=l.length:=by omega
  subst e2
  rw [if_neg (by omega),if_pos rfl]
  obtain ⟨h1,h2,h3⟩:=hs
  refine ⟨by simp [Sn.ok];omega,by omega,?_⟩
  by_cases e0:l.length=0
  ·exact .inl e0
  ·rw [if_pos (by omega)];exact .inr (hl (by omega))
theorem sVal_long {l:List Sn} {e:Int} (h:sVal l=true) (hl:0 < l.length) (h1:(lastS l).hi≤e) (h2:e≤65536):sVal (l.set (l.length - 1) ⟨(lastS l).lo,e⟩)=true:=by
 refine xu7.2 fun i hi=>xm0.2 ?_
 rw [List.length_set] at hi
 have ho:=xm0.1 (xu7.1 h i hi)
 rw [xw1 (by omega),xw1 (by omega)]
 by_cases e1:i=l.length - 1
 ·subst e1
  have ho1:(lastS l).ok=true∧(lastS l).lo≠(lastS l).hi∧(l.length - 1=0∨(l.getD (l.length - 1 - 1) sn0).hi < (lastS l).lo):=ho
  rw [if_pos rfl]
  have h3:=ho1.1
  simp only [Sn.ok,Bool.and_eq_true,decide_eq_true_eq] at h3
  refine ⟨by simp [Sn.ok];omega,by have:=ho1.2.1;dsimp only;omega,?_⟩
  by_cases e0:l.length - 1=0
  ·exact .inl e0
  ·rw [if_neg (by omega)];exact .inr (ho1.2.2.resolve_left e0)
 ·rw [if_neg e1]
  by_cases e0:i=0
  ·exact ⟨ho.1,ho.2.1,.inl e0⟩
  ·rw [if_neg (by omega)];exact ho
def dayS (l:List Sn):Int:=(l.map fun s=>s.hi - s.lo).sum
theorem dayS_snoc {l:List Sn} {s:Sn}:dayS (l++[s])=dayS l+(s.hi - s.lo):=by simp [dayS]
theorem xz5 {l:List Sn} (h:0 < l.length):l=l.take (l.length - 1)++[lastS l]:=by
 have e:l.take (l.length - 1+1)=l.take (l.length - 1)++[l[l.length - 1]]:=List.take_succ_eq_append_getElem (by omega)
 rw [show l.length - 1+1=l.length by omega,List.take_length] at e
 rw [lastS,List.getD_eq_getElem?_getD,List.getElem?_eq_getElem (by omega)];exact e
theorem xw2 {l:List Sn} {x:Sn} (h:0 < l.length):l.set (l.length - 1) x=l.take (l.length - 1)++[x]:=by
 have e:=List.set_eq_take_append_cons_drop (l:=l) (i:=l.length - 1) (a:=x)
 rw [if_pos (by omega),show l.length - 1+1=l.length by omega,List.drop_length] at e
 exact e
theorem dayS_long {l:List Sn} {e:Int} (h:0 < l.length):dayS (l.set (l.length - 1) ⟨(lastS l).lo,e⟩)=dayS l+(e - (lastS l).hi):=by
 have h1:dayS l=dayS (l.take (l.length - 1))+((lastS l).hi - (lastS l).lo):=by rw [←dayS_snoc,←xz5 h]
 rw [h1,xw2 h,dayS_snoc];dsimp only;omega
theorem mrg_asc: ∀(xs acc:List Sn),ascS xs→sVal acc=true→(0 < acc.length→ ∀s∈xs,(lastS acc).hi≤s.lo)→sVal (xs.foldl mrg1 acc)=true∧dayS (xs.foldl mrg1 acc)=dayS acc+dayS xs
 | [],acc,_,hv,_=>⟨hv,by simp [dayS]⟩
 | s::r,acc,hx,hv,hl=>by
  have hs:=hx.1 s (List.mem_cons_self ..)
  have hp:=List.pairwise_cons.1 hx.2
  have hr:ascS r:=⟨fun t ht=>hx.1 t (List.mem_cons_of_mem _ ht),hp.2⟩
  have key:sVal (mrg1 acc s)=true∧dayS (mrg1 acc s)=dayS acc+(s.hi - s.lo)∧0 < (mrg1 acc s).length∧(lastS (mrg1 acc s)).hi=s.hi:=by
   rw [mrg1]
   split
   ·rename_i hm
    have h1:(lastS acc).hi=s.lo:=by have:=hl hm.1 s (List.mem_cons_self ..);have h2:s.lo≤(lastS acc).hi:=hm.2;omega
    have hmax:max (acc.getD (acc.length - 1) sn0).hi s.hi=s.hi:=by
     have h2:(acc.getD (acc.length - 1) sn0).hi=s.lo:=h1
     have:=hs.2.1;omega
    rw [hmax]
    refine ⟨sVal_long hv hm.1 (by have:=hs.2.1;omega) hs.2.2,by rw [show (acc.getD (acc.length - 1) sn0).lo=(lastS acc).lo from rfl,dayS_long hm.1];omega,by rw [List.length_set];exact hm.1,?_⟩
    rw [lastS,List.length_set,xw1 (by omega),if_pos rfl]
   ·rename_i hm
    refine ⟨xs8 hv hs fun h0=> ?_,by rw [dayS_snoc],by simp,?_⟩
    ·have:=hl h0 s (List.mem_cons_self ..)
     have h2: ¬s.lo≤(lastS acc).hi:=fun h'=>hm ⟨h0,h'⟩
     omega
    ·rw [lastS,xp2,List.length_append,List.length_singleton,if_neg (by omega),if_pos (by omega)]
  have ih:=mrg_asc r (mrg1 acc s) hr key.1 fun _ t ht=>by rw [key.2.2.2];exact hp.1 t ht
  refine ⟨ih.1,?_⟩
  rw [List.foldl_cons,ih.2,key.2.1]
  have:dayS (s::r)=(s.hi - s.lo)+dayS r:=by simp [dayS]
  omega
def hasD (d:Int) (s:Tst):Bool:=decide (s.lo≤d) && decide (d < s.hi)
theorem hasD_iff {d:Int} {s:Tst}:hasD d s=true↔s.lo≤d∧d < s.hi:=by simp [hasD]
def valT (l:List Tst) (d:Int):Option Va:=(l.find? (hasD d)).map (·.v)
theorem valT_cons {s:Tst} {r:List Tst} {d:Int}:valT (s::r) d=if s.lo≤d∧d < s.hi then some s.v else valT r d:=by
 by_cases h:s.lo≤d∧d < s.hi
 ·rw [if_pos h,valT,List.find?_cons_of_pos (hasD_iff.2 h)];rfl
 ·rw [if_neg h,valT,List.find?_cons_of_neg (fun h'=>h (hasD_iff.1 h'))];rfl
theorem valT_none {l:List Tst} {d:Int}:valT l d=none↔ ∀s∈l,¬(s.lo≤d∧d < s.hi):=by
 rw [valT,Option.map_eq_none_iff,List.find?_eq_none]
 simp only [hasD_iff]
theorem valT_append {a b:List Tst} {d:Int}:valT (a++b) d=(valT a d).or (valT b d):=by
 rw [valT,List.find?_append,valT,valT]
 cases a.find? (hasD d) <;> rfl
theorem valT_some {l:List Tst} {d:Int} {v:Va} (h:valT l d=some v): ∃s∈l,(s.lo≤d∧d < s.hi)∧s.v=v:=by
 obtain ⟨s,h1,h2⟩:=Option.map_eq_some_iff.1 h
 exact ⟨s,List.mem_of_find?_eq_some h1,hasD_iff.1 (List.find?_some h1),h2⟩
end An.S
namespace An
open Go
def tO {α:Type} (n:Nat) (agg:Bool) (f:α→Ty):Option α→Ty
 | none=>tE (.pointer none)
 | some x=>tP n agg (f x)
instance {α:Type} {n:Nat} {agg:Bool} {f:α→Ty} {o:Option α}:Shape (tO n agg f o) 1 false:=⟨fun h=>by
 cases o with
 | none=>have h:_=_:=h;rw [h];exact xf9 rfl
 | some x=>obtain ⟨_,_,_,h,_⟩:=h;rw [h];exact xf9 rfl⟩
section
variable {P:Program} {c:Base} {d ty:Nat} {pos:String} {af:Array Edge} {gd:Option (Nat×Bool)} {α:Type} {n:Nat} {agg:Bool} {f:α→Ty}
end
end An
namespace An
open Go Go.Proofs Go.Shelf Go.Sort
end An
namespace An.S
open Go
def dfB (a b:List Tst) (d:Int):Bool:=decide (valT a d≠valT b d)
end An.S
namespace An
open Go
section
variable {P:Program} {c:Base}
end
section
variable {P:Program} {c:Base} {Q:Exit→Act→World→Prop} {g:Slots} {h:Keys} {al:Names}
end
end An
namespace An.S
open Go Go.Proofs An
end An.S
namespace An.S
open Go
section
variable {K:Nat} {D B:Int} {l a b:List Tst}
end
def bd (l:List Sn) (i:Nat):Int:=if i%2=0 then (l.getD (i / 2) sn0).lo else (l.getD (i / 2) sn0).hi
def cday1 (a:List Sn) (i:Nat):Int:=if i < 2*a.length then min 65536 (bd a i) else 65536
def cday (a b:List Sn) (i j:Nat):Int:=if j < 2*b.length then min (cday1 a i) (bd b j) else cday1 a i
def cnxt (a:List Sn) (i:Nat) (d:Int):Nat:=if i < 2*a.length∧bd a i=d then i+1 else i
abbrev Ch:=Int×Nat×Nat
def chL (a b:List Sn):Nat→Nat→Nat→List Ch
 | 0,_,_=>[]
 | f+1,i,j=>if i < 2*a.length∨j < 2*b.length then (cday a b i j,cnxt a i (cday a b i j),cnxt b j (cday a b i j))::chL a b f (cnxt a i (cday a b i j)) (cnxt b j (cday a b i j)) else []
def chAll (a b:List Sn):List Ch:=chL a b (2*a.length+2*b.length) 0 0
theorem bd_le {l:List Sn} {i:Nat} (h:sVal l=true) (hi:i < 2*l.length):0≤bd l i∧bd l i≤65536:=by
 have:=xf0 h (i:=i / 2) (by omega)
 rw [bd];split <;> omega
theorem bd_succ {l:List Sn} {i:Nat} (h:sVal l=true) (hi:i+1 < 2*l.length):bd l i < bd l (i+1):=by
 rcases Nat.mod_two_eq_zero_or_one i with h0 | h0
 ·have:=xf0 h (i:=i / 2) (by omega)
  rw [bd,bd,if_pos h0,if_neg (by omega),show (i+1) / 2=i / 2 by omega];exact this.2.1
 ·have:=(xm0.1 (xu7.1 h ((i+1) / 2) (by omega))).2.2.resolve_left (by omega)
  rw [bd,bd,if_neg (by omega),if_pos (by omega)]
  rw [show (i+1) / 2 - 1=i / 2 by omega] at this;exact this
theorem bd_lt {l:List Sn} (h:sVal l=true): ∀{j i:Nat},i < j→j < 2*l.length→bd l i < bd l j
 | j+1,i,hij,hj=>by
  have h1:=bd_succ h hj
  rcases Nat.lt_or_ge i j with h2 | h2
  ·have:=bd_lt h h2 (by omega);omega
  ·have:i=j:=by omega
   subst this;exact h1
theorem cday_is {a b:List Sn} {i j:Nat} (ha:sVal a=true) (hb:sVal b=true) (h:i < 2*a.length∨j < 2*b.length):(i < 2*a.length→cday a b i j≤bd a i)∧(j < 2*b.length→cday a b i j≤bd b j)∧(i < 2*a.length∧cday a b i j=bd a i∨j < 2*b.length∧cday a b i j=bd b j):=by
 have h1:=fun hi=>bd_le (i:=i) ha hi
 have h2:=fun hj=>bd_le (i:=j) hb hj
 simp only [cday,cday1]
 by_cases hi:i < 2*a.length
 ·have h1:=h1 hi
  by_cases hj:j < 2*b.length
  ·have h2:=h2 hj
   rw [if_pos hj,if_pos hi];omega
  ·rw [if_neg hj,if_pos hi];omega
 ·have hj:j < 2*b.length:=h.resolve_left hi
  have h2:=h2 hj
  rw [if_pos hj,if_neg hi];omega
theorem cnxt_adv {a b:List Sn} {i j:Nat} (ha:sVal a=true) (hb:sVal b=true) (h:i < 2*a.length∨j < 2*b.length):i≤cnxt a i (cday a b i j)∧cnxt a i (cday a b i j)≤i+1∧j≤cnxt b j (cday a b i j)∧cnxt b j (cday a b i j)≤j+1∧i+j < cnxt a i (cday a b i j)+cnxt b j (cday a b i j):=by
 have:=(cday_is ha hb h).2.2
 generalize cday a b i j=d at*
 simp only [cnxt]
 rcases this with h1 | h1
 ·rw [if_pos ⟨h1.1,h1.2.symm⟩];split <;> omega
 ·rw [if_pos (c:=j < 2*b.length∧bd b j=d) ⟨h1.1,h1.2.symm⟩];split <;> omega
theorem cnxt_le {a:List Sn} {i:Nat} {d:Int} (h:i≤2*a.length):cnxt a i d≤2*a.length:=by rw [cnxt];split <;> omega
structure Ck where
  xs:List Sn
  lo:Int
  ins:Bool
def ck1 (kp:Bool→Bool→Bool) (s:Ck) (c:Ch):Ck:=
 ⟨if s.ins && !kp (c.2.1%2==1) (c.2.2%2==1) then s.xs++[⟨if kp (c.2.1%2==1) (c.2.2%2==1) && !s.ins then c.1 else s.lo,c.1⟩] else s.xs,if kp (c.2.1%2==1) (c.2.2%2==1) && !s.ins then c.1 else s.lo,kp (c.2.1%2==1) (c.2.2%2==1)⟩
def ckRun (kp:Bool→Bool→Bool) (a b:List Sn):Ck:=(chAll a b).foldl (ck1 kp) ⟨[],0,false⟩
def mem (l:List Sn) (d:Int):Bool:=l.any fun s=>decide (s.lo≤d) && decide (d < s.hi)
theorem mem_iff {l:List Sn} {d:Int}:mem l d=true↔ ∃s∈l,s.lo≤d∧d < s.hi:=by simp [mem]
theorem mem_no {l:List Sn} {d:Int}:mem l d=false↔ ∀s∈l,¬(s.lo≤d∧d < s.hi):=by
 rw [←Bool.not_eq_true,mem_iff];simp only [not_exists,not_and]
theorem xm8 {l:List Sn} {s:Sn} {d:Int}:mem (l++[s]) d=(mem l d || (decide (s.lo≤d) && decide (d < s.hi))):=by simp [mem]
def Pos (l:List Sn) (i:Nat) (D:Int):Prop:=i≤2*l.length∧(∀k,k < i→bd l k≤D)∧ ∀k,i≤k→k < 2*l.length→D < bd l k
theorem xi7 {l:List Sn} {s:Sn} (hs:s∈l): ∃i,i < l.length∧s=l.getD i sn0:=by
 obtain ⟨i,hi,e⟩:=List.getElem_of_mem hs
 exact ⟨i,hi,by rw [List.getD_eq_getElem?_getD,List.getElem?_eq_getElem hi];exact e.symm⟩
theorem mem_getS {l:List Sn} {i:Nat} (hi:i < l.length):l.getD i sn0∈l:=by
 rw [List.getD_eq_getElem?_getD,List.getElem?_eq_getElem hi];exact List.getElem_mem hi
theorem bd_even (l:List Sn) (p:Nat):bd l (2*p)=(l.getD p sn0).lo:=by rw [bd,if_pos (by omega),show 2*p / 2=p by omega]
theorem bd_odd (l:List Sn) (p:Nat):bd l (2*p+1)=(l.getD p sn0).hi:=by rw [bd,if_neg (by omega),show (2*p+1) / 2=p by omega]
theorem Pos.mem {l:List Sn} {i:Nat} {D:Int} (h:Pos l i D):mem l D=(i%2==1):=by
 obtain ⟨h1,h2,h3⟩:=h
 rw [Bool.eq_iff_iff,mem_iff,beq_iff_eq]
 constructor
 ·rintro ⟨s,hs,h4,h5⟩
  obtain ⟨p,hp,rfl⟩:=xi7 hs
  rw [←bd_even] at h4;rw [←bd_odd] at h5
  have a1: ¬i≤2*p:=fun h'=>by have:=h3 _ h' (by omega);omega
  have a2: ¬2*p+1 < i:=fun h'=>by have:=h2 _ h';omega
  omega
 ·intro h4
  have e:i=2*(i / 2)+1:=by omega
  refine ⟨l.getD (i / 2) sn0,mem_getS (by omega),?_,?_⟩
  ·rw [←bd_even];exact h2 _ (by omega)
  ·rw [←bd_odd];exact h3 _ (by omega) (by omega)
theorem Pos.stay {l:List Sn} {i:Nat} {D d e:Int} (hv:sVal l=true) (h:Pos l i D) (hd:D≤d) (he:d < e) (hb:i < 2*l.length→e≤bd l i):Pos l i d:=by
 refine ⟨h.1,fun k hk=>by have:=h.2.1 k hk;omega,fun k hk hk2=> ?_⟩
 have h1:=hb (by omega)
 rcases Nat.lt_or_ge i k with h2 | h2
 ·have:=bd_lt hv h2 hk2;omega
 ·have:k=i:=by omega
  subst this;omega
theorem Pos.next {l:List Sn} {i:Nat} {D e:Int} (hv:sVal l=true) (h:Pos l i D) (he:D < e) (hb:i < 2*l.length→e≤bd l i):Pos l (cnxt l i e) e:=by
 refine ⟨cnxt_le h.1,fun k hk=> ?_,fun k hk hk2=> ?_⟩
 ·rw [cnxt] at hk
  split at hk
  ·rename_i hc
   rcases Nat.lt_or_ge k i with h2 | h2
   ·have:=h.2.1 k h2;omega
   ·have:k=i:=by omega
    subst this;omega
  ·have:=h.2.1 k hk;omega
 ·rw [cnxt] at hk
  split at hk
  ·rename_i hc
   have:=bd_lt hv (show i < k by omega) hk2;omega
  ·rename_i hc
   have h1:=hb (by omega)
   rcases Nat.lt_or_ge i k with h2 | h2
   ·have:=bd_lt hv h2 hk2;omega
   ·have:k=i:=by omega
    subst this
    have: ¬bd l k=e:=fun h'=>hc ⟨hk2,h'⟩
    omega
theorem Pos.zero {l:List Sn} (hv:sVal l=true):Pos l 0 (-1):=⟨Nat.zero_le _,fun k hk=>by omega,fun k _ hk2=>by have:=bd_le hv hk2;omega⟩
theorem sVal_lt {l:List Sn} (h:sVal l=true) {i j:Nat} (hij:i < j) (hj:j < l.length):(l.getD i sn0).hi < (l.getD j sn0).lo:=by
 have:=bd_lt h (show 2*i+1 < 2*j by omega) (by omega)
 rwa [bd_odd,bd_even] at this
theorem lastS_no {l:List Sn} {d:Int} (h:sVal l=true) (hl:0 < l.length→(lastS l).hi≤d):mem l d=false:=mem_no.2 fun s hs h'=>by
 obtain ⟨i,hi,rfl⟩:=xi7 hs
 have h1:=hl (by omega)
 have h2:=xf0 h hi
 rcases Nat.lt_or_ge i (l.length - 1) with h3 | h3
 ·have h4:=sVal_lt h h3 (by omega)
  have h5:=xf0 h (i:=l.length - 1) (by omega)
  have h6:(l.getD (l.length - 1) sn0).hi≤d:=h1
  omega
 ·have:i=l.length - 1:=by omega
  subst this
  have h6:(l.getD (l.length - 1) sn0).hi≤d:=h1
  omega
structure CkI (kp:Bool→Bool→Bool) (a b:List Sn) (s:Ck) (i j:Nat) (D:Int):Prop where
  d0: -1≤D
  pa:Pos a i D
  pb:Pos b j D
  ins:s.ins=kp (i%2==1) (j%2==1)
  val:sVal s.xs=true
  last:0 < s.xs.length→(lastS s.xs).hi≤D∧(s.ins=true→(lastS s.xs).hi < s.lo)
  lo:s.ins=true→0≤s.lo∧s.lo≤D
  all: ∀d,d≤D→(mem s.xs d || (s.ins && decide (s.lo≤d)))=kp (mem a d) (mem b d)
theorem CkI.next {kp:Bool→Bool→Bool} {a b:List Sn} {s:Ck} {i j:Nat} {D:Int} (ha:sVal a=true) (hb:sVal b=true) (h:CkI kp a b s i j D) (hij:i < 2*a.length∨j < 2*b.length):CkI kp a b (ck1 kp s (cday a b i j,cnxt a i (cday a b i j),cnxt b j (cday a b i j))) (cnxt a i (cday a b i j)) (cnxt b j (cday a b i j)) (cday a b i j):=by
 obtain ⟨c1,c2,c3⟩:=cday_is ha hb hij
 have hD:D < cday a b i j:=by
  rcases c3 with c3 | c3
  ·have:=h.pa.2.2 i (Nat.le_refl _) c3.1;omega
  ·have:=h.pb.2.2 j (Nat.le_refl _) c3.1;omega
 have hE:cday a b i j≤65536:=by
  rcases c3 with c3 | c3
  ·have:=bd_le ha c3.1;omega
  ·have:=bd_le hb c3.1;omega
 generalize cday a b i j=e at*
 have pa:=h.pa.next ha hD c1
 have pb:=h.pb.next hb hD c2
 have mid: ∀d,D < d→d < e→kp (mem a d) (mem b d)=s.ins:=fun d h1 h2=>by
  rw [(h.pa.stay ha (by omega) h2 c1).mem,(h.pb.stay hb (by omega) h2 c2).mem,h.ins]
 have now:kp (mem a e) (mem b e)=kp (cnxt a i e%2==1) (cnxt b j e%2==1):=by rw [pa.mem,pb.mem]
 have hno: ∀d,D≤d→mem s.xs d=false:=fun d hd=>lastS_no h.val fun h0=>by have:=(h.last h0).1;omega
 obtain ⟨xs,lo,ins⟩:=s
 have hd0:=h.d0
 have hd1: -1≤e:=by omega
 obtain ⟨_,_,_,h3,h4,h5,h6,h7⟩:=h
 simp only at*
 cases hn:kp (cnxt a i e%2==1) (cnxt b j e%2==1) <;> cases ins
 ·
  have e1:ck1 kp ⟨xs,lo,false⟩ (e,cnxt a i e,cnxt b j e)=⟨xs,lo,false⟩:=by simp [ck1,hn]
  rw [e1]
  refine ⟨hd1,pa,pb,hn.symm,h4,fun h0=>⟨by have:=(h5 h0).1;show (lastS xs).hi≤e;omega,fun h'=>by cases h'⟩,fun h'=>(by cases h'),fun d hd=> ?_⟩
  show (mem xs d || (false && decide (lo≤d)))=_
  rcases Int.lt_or_le D d with hd2 | hd2
  ·rw [hno d (by omega)]
   rcases Int.lt_or_le d e with hd3 | hd3
   ·rw [mid d hd2 hd3];rfl
   ·rw [show d=e by omega,now,hn];rfl
  ·exact h7 d hd2
 ·
  have e1:ck1 kp ⟨xs,lo,true⟩ (e,cnxt a i e,cnxt b j e)=⟨xs++[⟨lo,e⟩],lo,false⟩:=by simp [ck1,hn]
  rw [e1]
  obtain ⟨l0,l1⟩:=h6 rfl
  refine ⟨hd1,pa,pb,hn.symm,xs8 h4 ⟨l0,by show lo < e;omega,hE⟩ fun h0=>(h5 h0).2 rfl,fun _=>⟨?_,fun h'=>by cases h'⟩,fun h'=>(by cases h'),fun d hd=> ?_⟩
  ·show (lastS (xs++[⟨lo,e⟩])).hi≤e
   rw [lastS,xp2,List.length_append,List.length_singleton,if_neg (by omega),if_pos (by omega)]
   exact Int.le_refl _
  ·show (mem (xs++[⟨lo,e⟩]) d || (false && _))=_
   rw [xm8]
   rcases Int.lt_or_le D d with hd2 | hd2
   ·rw [hno d (by omega)]
    rcases Int.lt_or_le d e with hd3 | hd3
    ·rw [mid d hd2 hd3];simp;omega
    ·rw [show d=e by omega,now,hn];simp
   ·rw [←h7 d hd2,show decide (d < e)=true from decide_eq_true (by omega)];simp
 ·
  have e1:ck1 kp ⟨xs,lo,false⟩ (e,cnxt a i e,cnxt b j e)=⟨xs,e,true⟩:=by simp [ck1,hn]
  rw [e1]
  refine ⟨hd1,pa,pb,hn.symm,h4,fun h0=>⟨by have:=(h5 h0).1;show (lastS xs).hi≤e;omega,fun _=>by have:=(h5 h0).1;show (lastS xs).hi < e;omega⟩,fun _=>⟨by show 0≤e;omega,Int.le_refl _⟩,fun d hd=> ?_⟩
  show (mem xs d || (true && decide (e≤d)))=_
  rcases Int.lt_or_le D d with hd2 | hd2
  ·rw [hno d (by omega)]
   rcases Int.lt_or_le d e with hd3 | hd3
   ·rw [mid d hd2 hd3];simp;omega
   ·rw [show d=e by omega,now,hn];simp
  ·rw [←h7 d hd2,show decide (e≤d)=false from decide_eq_false (by omega)];simp
 ·
  have e1:ck1 kp ⟨xs,lo,true⟩ (e,cnxt a i e,cnxt b j e)=⟨xs,lo,true⟩:=by simp [ck1,hn]
  rw [e1]
  obtain ⟨l0,l1⟩:=h6 rfl
  refine ⟨hd1,pa,pb,hn.symm,h4,fun h0=>⟨by have:=(h5 h0).1;show (lastS xs).hi≤e;omega,(h5 h0).2⟩,fun _=>⟨l0,by show lo≤e;omega⟩,fun d hd=> ?_⟩
  show (mem xs d || (true && decide (lo≤d)))=_
  rcases Int.lt_or_le D d with hd2 | hd2
  ·rw [hno d (by omega)]
   rcases Int.lt_or_le d e with hd3 | hd3
   ·rw [mid d hd2 hd3];simp;omega
   ·rw [show d=e by omega,now,hn];simp;omega
  ·exact h7 d hd2
theorem ck_run {kp:Bool→Bool→Bool} {a b:List Sn} (ha:sVal a=true) (hb:sVal b=true) (hk:kp false false=false): ∀(f i j:Nat) (D:Int) (s:Ck),CkI kp a b s i j D→2*a.length+2*b.length≤f+(i+j)→
  sVal ((chL a b f i j).foldl (ck1 kp) s).xs=true∧ ∀d,mem ((chL a b f i j).foldl (ck1 kp) s).xs d=kp (mem a d) (mem b d)
 | f,i,j,D,s,h,hf=>by
  by_cases hij:i < 2*a.length∨j < 2*b.length
  ·cases f with
   | zero=>have:=h.pa.1;have:=h.pb.1;omega
   | succ f=>
    have hadv:=cnxt_adv ha hb hij
    rw [chL,if_pos hij,List.foldl_cons]
    exact ck_run ha hb hk f _ _ _ _ (h.next ha hb hij) (by omega)
  ·have e:chL a b f i j=[]:=by cases f with
    | zero=>rfl
    | succ f=>rw [chL,if_neg hij]
   have hi:i=2*a.length:=by have:=h.pa.1;omega
   have hj:j=2*b.length:=by have:=h.pb.1;omega
   have hins:s.ins=false:=by
    rw [h.ins,show (i%2==1)=false by simp;omega,show (j%2==1)=false by simp;omega,hk]
   rw [e]
   refine ⟨h.val,fun d=> ?_⟩
   show mem s.xs d=_
   rcases Int.lt_or_le D d with hd | hd
   ·rw [lastS_no h.val (fun h0=>by have:=(h.last h0).1;omega),(h.pa.stay ha (Int.le_of_lt hd) (Int.lt_succ d) (fun h'=>by omega)).mem,(h.pb.stay hb (Int.le_of_lt hd) (Int.lt_succ d) (fun h'=>by omega)).mem,show (i%2==1)=false by simp;omega,show (j%2==1)=false by simp;omega,hk]
   ·have:=h.all d hd
    rw [hins] at this;simpa using this
theorem ck_zero {kp:Bool→Bool→Bool} {a b:List Sn} (ha:sVal a=true) (hb:sVal b=true) (hk:kp false false=false):CkI kp a b ⟨[],0,false⟩ 0 0 (-1) where
 d0:=by omega
 pa:=Pos.zero ha
 pb:=Pos.zero hb
 ins:=hk.symm
 val:=rfl
 last:=fun h=>by cases h
 lo:=fun h=>by cases h
 all:=fun d hd=>by
  have e1:mem a d=false:=mem_no.2 fun s hs h'=>by
   obtain ⟨i,hi,rfl⟩:=xi7 hs
   have:=xf0 ha hi;omega
  have e2:mem b d=false:=mem_no.2 fun s hs h'=>by
   obtain ⟨i,hi,rfl⟩:=xi7 hs
   have:=xf0 hb hi;omega
  rw [e1,e2,hk];rfl
theorem ck_all {kp:Bool→Bool→Bool} {a b:List Sn} (ha:sVal a=true) (hb:sVal b=true) (hk:kp false false=false):sVal (ckRun kp a b).xs=true∧ ∀d,mem (ckRun kp a b).xs d=kp (mem a d) (mem b d):=
 ck_run ha hb hk _ 0 0 (-1) _ (ck_zero ha hb hk) (by omega)
def setS (l:List Sn):Prop:=(∀s∈l,okS s)∧l.Pairwise fun s t=>s.hi < t.lo
theorem sVal_set {l:List Sn} (h:sVal l=true):setS l:=by
 refine ⟨fun s hs=> ?_,List.pairwise_iff_getElem.2 fun i j hi hj hij=> ?_⟩
 ·obtain ⟨i,hi,rfl⟩:=xi7 hs
  exact xf0 h hi
 ·have:=sVal_lt h hij hj
  rwa [List.getD_eq_getElem?_getD,List.getD_eq_getElem?_getD,List.getElem?_eq_getElem hi,List.getElem?_eq_getElem hj] at this
theorem mem_cons {s:Sn} {r:List Sn} {d:Int}:mem (s::r) d=((decide (s.lo≤d) && decide (d < s.hi)) || mem r d):=by simp [mem]
theorem mem_low {s:Sn} {r:List Sn} {d:Int} (h:setS (s::r)) (hd:d≤s.hi):mem r d=false:=mem_no.2 fun t ht h'=>by
 have:=(List.pairwise_cons.1 h.2).1 t ht;omega
theorem set_ext: ∀{a b:List Sn},setS a→setS b→(∀d,mem a d=mem b d)→a=b
 | [],[],_,_,_=>rfl
 | [],t::u,_,hb,h=>by
  have h1:=hb.1 t (List.mem_cons_self ..)
  have h2:=h t.lo
  rw [mem_cons] at h2
  simp [mem,h1.2.1] at h2
 | s::r,[],ha,_,h=>by
  have h1:=ha.1 s (List.mem_cons_self ..)
  have h2:=h s.lo
  rw [mem_cons] at h2
  simp [mem,h1.2.1] at h2
 | s::r,t::u,ha,hb,h=>by
  have hs:=ha.1 s (List.mem_cons_self ..)
  have ht:=hb.1 t (List.mem_cons_self ..)
  have pa:=List.pairwise_cons.1 ha.2
  have pb:=List.pairwise_cons.1 hb.2
  have l1:t.lo≤s.lo:=by
   obtain ⟨x,hx,hx2⟩:=mem_iff.1 ((h s.lo).symm.trans (by rw [mem_cons];simp [hs.2.1]))
   rcases List.mem_cons.1 hx with rfl | hx
   ·exact hx2.1
   ·have:=pb.1 x hx;have:=ht.2.1;omega
  have l2:s.lo≤t.lo:=by
   obtain ⟨x,hx,hx2⟩:=mem_iff.1 ((h t.lo).trans (by rw [mem_cons];simp [ht.2.1]))
   rcases List.mem_cons.1 hx with rfl | hx
   ·exact hx2.1
   ·have:=pa.1 x hx;have:=hs.2.1;omega
  have l3:t.hi≤s.hi:=by
   rcases Int.lt_or_le s.hi t.hi with h1 | h1
   ·have h2:=h s.hi
    have:=hs.2.1
    rw [mem_cons,mem_cons,mem_low ha (Int.le_refl _)] at h2
    simp [h1,show t.lo≤s.hi by omega] at h2
   ·exact h1
  have l4:s.hi≤t.hi:=by
   rcases Int.lt_or_le t.hi s.hi with h1 | h1
   ·have h2:=h t.hi
    have:=ht.2.1
    rw [mem_cons,mem_cons,mem_low hb (Int.le_refl _)] at h2
    simp [h1,show s.lo≤t.hi by omega] at h2
   ·exact h1
  have est:s=t:=by
   obtain ⟨a1,a2⟩:=s;obtain ⟨b1,b2⟩:=t
   simp only at l1 l2 l3 l4
   rw [show a1=b1 by omega,show a2=b2 by omega]
  subst est
  congr 1
  refine set_ext ⟨fun x hx=>ha.1 x (List.mem_cons_of_mem _ hx),pa.2⟩ ⟨fun x hx=>hb.1 x (List.mem_cons_of_mem _ hx),pb.2⟩ fun d=> ?_
  rcases Int.lt_or_le d s.hi with h1 | h1
  ·rw [mem_low ha (by omega),mem_low hb (by omega)]
  ·have h2:=h d
   rw [mem_cons,mem_cons] at h2
   simpa [show ¬d < s.hi by omega] using h2
theorem set_same {a b:List Sn} (ha:sVal a=true) (hb:sVal b=true) (h: ∀d,mem a d=mem b d):a=b:=set_ext (sVal_set ha) (sVal_set hb) h
theorem mem_mrg {d:Int}: ∀(xs acc:List Sn),ascS xs→sVal acc=true→(0 < acc.length→ ∀s∈xs,(lastS acc).hi≤s.lo)→mem (xs.foldl mrg1 acc) d=(mem acc d || mem xs d)
 | [],acc,_,_,_=>by simp [mem]
 | s::r,acc,hx,hv,hl=>by
  have hs:=hx.1 s (List.mem_cons_self ..)
  have hp:=List.pairwise_cons.1 hx.2
  have hr:ascS r:=⟨fun t ht=>hx.1 t (List.mem_cons_of_mem _ ht),hp.2⟩
  have h1:=mrg_asc [s] acc ⟨fun t ht=>hx.1 t (by rw [List.mem_singleton.1 ht];exact List.mem_cons_self ..),List.pairwise_singleton ..⟩ hv fun h0 t ht=>hl h0 t (by rw [List.mem_singleton.1 ht];exact List.mem_cons_self ..)
  have key:mem (mrg1 acc s) d=(mem acc d || (decide (s.lo≤d) && decide (d < s.hi)))∧(lastS (mrg1 acc s)).hi=s.hi:=by
   rw [mrg1]
   split
   ·rename_i hm
    have h2:(lastS acc).hi=s.lo:=by have:=hl hm.1 s (List.mem_cons_self ..);have h2:s.lo≤(lastS acc).hi:=hm.2;omega
    have hmax:max (acc.getD (acc.length - 1) sn0).hi s.hi=s.hi:=by
     have h3:(acc.getD (acc.length - 1) sn0).hi=s.lo:=h2
     have:=hs.2.1;omega
    rw [hmax]
    refine ⟨?_,by rw [lastS,List.length_set,xw1 (by omega),if_pos rfl]⟩
    rw [xw2 hm.1,xm8]
    have e3:mem acc d=(mem (acc.take (acc.length - 1)) d || (decide ((lastS acc).lo≤d) && decide (d < (lastS acc).hi))):=by rw [←xm8,←xz5 hm.1]
    rw [e3,h2]
    have h4:=xf0 hv (i:=acc.length - 1) (by omega)
    have h5:(lastS acc).lo < s.lo:=by rw [←h2];exact h4.2.1
    have h6:(acc.getD (acc.length - 1) sn0).lo=(lastS acc).lo:=rfl
    have:=hs.2.1
    dsimp only
    rw [h6,Bool.or_assoc]
    congr 1
    rw [Bool.eq_iff_iff];simp;omega
   ·rename_i hm
    exact ⟨xm8,by rw [lastS,xp2,List.length_append,List.length_singleton,if_neg (by omega),if_pos (by omega)]⟩
  have ih:=mem_mrg (d:=d) r (mrg1 acc s) hr h1.1 fun _ t ht=>by rw [key.2];exact hp.1 t ht
  rw [List.foldl_cons,ih,key.1,mem_cons,Bool.or_assoc]
def jnC (a b:List Tst):Prop:=(tRight a=true∧tRight b=true)∧ ¬(0 < a.length∧0 < b.length∧(a.getD 0 tst0).v.kind≠(b.getD 0 tst0).v.kind)
instance (a b:List Tst):Decidable (jnC a b):=inferInstanceAs (Decidable (_∧_))
end An.S
namespace An
open Go
section
variable {P:Program} {c:Base} {d ty:Nat} {pos:String} {af:Array Edge} {gd:Option (Nat×Bool)}
end
end An
namespace An.S
open Go Go.Proofs An
end An.S
namespace An
open Go
section
variable {P:Program} {c:Base} {d ty:Nat} {pos:String} {af:Array Edge} {gd:Option (Nat×Bool)}
end
end An
namespace An.S
open Go Go.Proofs An
instance fi8:FnI Tryz.prog 8:=⟨_,Tryz.func8,by kernel_rfl,rfl⟩
theorem c_SameStep (x y:Tst):
  Ct Tryz.prog 52 [tTs x,tTs y] (tB (decide (x=y))):=by
 refine Ct.intro Tryz.func52 rfl Tryz.ntmps52 rfl ?_
 intro w F
 refine A15 ?_
 refine RGcaseD (t:=10) rfl (fun h196=> ?_) (fun h196=> ?_)
 ·
  refine A7 ?_
  refine RGcaseD (t:=17) rfl (fun h196_2=> ?_) (fun h196_2=> ?_)
  ·
   refine A4 ?_
   refine RGon (decide_eq_true h196_2) rfl (x3 (y6 _ _) fi8 rfl) rfl ⟨rfl,rfl,trivial⟩ trivial trivial ?_
   refine A5 ?_
   exact x4 Plain.mk' rfl rfl (Le.bool (by obtain ⟨a,b,e⟩:=x;obtain ⟨c,d,f⟩:=y;simp only [Tst.mk.injEq] at*;simp_all <;> omega))
  ·
   refine A10 ?_
   exact x4 Plain.mk' rfl rfl (Le.bool (by obtain ⟨a,b,e⟩:=x;obtain ⟨c,d,f⟩:=y;simp only [Tst.mk.injEq] at*;simp_all <;> omega))
 ·
  refine A17 ?_
  exact x4 Plain.mk' rfl rfl (Le.bool (by obtain ⟨a,b,e⟩:=x;obtain ⟨c,d,f⟩:=y;simp only [Tst.mk.injEq] at*;simp_all <;> omega))
instance fi235:FnI Tryz.prog 235:=⟨_,Tryz.func235,by kernel_rfl,rfl⟩
theorem c_RTrim (a:List Nat):
  Ct Tryz.prog 235 [tLm a] (tLm (trimL a)):=by
 refine Ct.intro Tryz.func235 rfl Tryz.ntmps235 rfl ?_
 intro w F
 refine xj2 (s:=0) rfl (fun hl0=> ?_)
 refine A14 ?_
 refine cL (fun (k:Nat)=>k≤a.length∧trimL (a.take k)=trimL a) (fun (k:Nat)=>upd (upd (fun _=>none) 0 (some (.val (tLm a)))) 3 (some (.val (tI k)))) (fun (k:Nat)=>fun _=>none) [] (fun (k:Nat)=>k) (a.length) ⟨Nat.le_refl _,by rw [List.take_length]⟩ ?_
 intro k hI
 obtain ⟨hk,hc⟩:=hI
 refine A6 ?_
 refine RGcaseD (t:=8) rfl (fun h12=> ?_) (fun h12=> ?_)
 ·
  refine A2 ?_
  refine RGon (decide_eq_true h12) rfl (xe6 (wr64 (by omega) (by omega))) rfl ⟨rfl,rfl,trivial⟩ trivial trivial (RGon (decide_eq_true h12) rfl (x6 sl26 (k - 1) (by omega) (gN (by omega))) rfl ⟨rfl,rfl,trivial⟩ trivial trivial ?_)
  refine A5 ?_
  refine x8 rfl (fun h12_2=> ?_) (fun h12_2=> ?_)
  ·
   refine A9 ?_
   exact kF (k - 1) ⟨⟨by omega,by rw [trim_step' hk (by omega) (by omega)];exact hc⟩,(by omega)⟩
  ·
   refine A9 ?_
   refine R2 (d_sliceTo sl26 k (by omega) (by omega) rfl) rfl rfl ?_
   refine A4 ?_
   exact x4 Plain.mk' rfl rfl (Le.of (congrArg tLm (by rw [←hc,trim_stop' hk (by omega) (by omega)])))
 ·
  refine A18 ?_
  refine A1 ?_
  refine R2 (d_sliceTo sl26 k (by omega) (by omega) rfl) rfl rfl ?_
  refine A4 ?_
  exact x4 Plain.mk' rfl rfl (Le.of (congrArg tLm (by rw [←hc,show k=0 by omega,List.take_zero];rfl)))
theorem c_RLess (a b:Nat):
  Ct Tryz.prog 231 [tM a,tM b] (tB (decide (a < b))):=by
 refine Ct.intro Tryz.func231 rfl Tryz.ntmps231 rfl ?_
 intro w F
 refine xj2 (s:=0) rfl (fun hl0=> ?_)
 refine xj2 (s:=1) rfl (fun hl1=> ?_)
 have ha:=xh7 xa0 a
 have hb:=xh7 xa0 b
 refine A15 ?_
 refine x8 rfl (fun h20=> ?_) (fun h20=> ?_)
 ·
  refine A12 ?_
  exact x4 Plain.mk' rfl rfl (Le.bool (decide_eq_decide.2 ⟨fun h=>len_lt xa0 (by omega),fun h=>by have:=xf1 xa0 (Nat.le_of_lt h);omega⟩))
 ·
  refine A12 ?_
  have hlen:(dig 65536 a).length=(dig 65536 b).length:=by omega
  rw [←hlen] at hb
  refine cL (fun (k:Nat)=>k≤(dig 65536 a).length∧a / 65536 ^ k=b / 65536 ^ k) (fun (k:Nat)=>upd (upd (upd (fun _=>none) 0 (some (.val (tM a)))) 1 (some (.val (tM b)))) 5 (some (.val (tI ((k:Int) - 1))))) (fun (k:Nat)=>fun _=>none) [] (fun (k:Nat)=>k) ((dig 65536 a).length) ⟨Nat.le_refl _,by rw [Nat.div_eq_of_lt ha,Nat.div_eq_of_lt hb]⟩ ?_
  intro k hI
  obtain ⟨hk,hc⟩:=hI
  refine A7 ?_
  refine x8 rfl (fun h23=> ?_) (fun h23=> ?_)
  ·
   obtain ⟨j,rfl⟩: ∃j,k=j+1:=⟨k - 1,by omega⟩
   refine A8 ?_
   refine R2 (x6 sl26 (j) (by omega) (gN (by omega))) rfl rfl ?_
   refine A3 ?_
   refine R2 (x6 sl26 (j) (by omega) (gN (by omega))) rfl rfl ?_
   refine A4 ?_
   refine x8 rfl (fun h24=> ?_) (fun h24=> ?_)
   ·
    refine A4 ?_
    refine R2 (x6 sl26 (j) (by omega) (gN (by omega))) rfl rfl ?_
    refine A3 ?_
    refine R2 (x6 sl26 (j) (by omega) (gN (by omega))) rfl rfl ?_
    refine A11 ?_
    exact x4 Plain.mk' rfl rfl (Le.bool (decide_eq_decide.2 ⟨fun h=>dig_lt_of xa0 hc (by omega),fun h=>Classical.byContradiction fun h2=>by have:=dig_lt_of xa0 hc.symm (show (dig 65536 b).getD j 0 < (dig 65536 a).getD j 0 by omega);omega⟩))
   ·
    refine A8 ?_
    exact kF (j) ⟨⟨by omega,cmp_step (by decide) hc (by rw [←xd3 xa0,←xd3 xa0];omega)⟩,(by omega)⟩
  ·
   refine A11 ?_
   exact x4 Plain.mk' rfl rfl (Le.bool (decide_eq_false (by have h0:=hc;rw [show k=0 by omega] at h0;simp at h0;omega)).symm)
theorem len_ne {v:Nat}:(0:Int) < ((dig 65536 v).length:Nat)↔v≠0:=by
 have h:(dig 65536 v).length=0↔v=0:=by rw [List.length_eq_zero_iff,xj1 xa0]
 omega
theorem xj4 (p:Bool) (v:Nat):
  Ct Tryz.prog 203 [tB p,tM v] (tWh (wh (sgn p v))):=by
 refine Ct.intro Tryz.func203 rfl Tryz.ntmps203 rfl ?_
 intro w F
 refine A2 ?_
 refine RE (x9 (k:=4) (n:=2) (agg:=true) zr28.1 zr28.2 rfl) trivial trivial ⟨rfl,trivial⟩ ?_
 refine A6 ?_
 refine RGcase (t:=6) rfl (fun h129=> ?_) (fun h129=> ?_)
 ·
  refine A5 ?_
  refine R2 (xb8 (r:=tS [⟨1,false,tB (decide ((0:Int) < ((dig 65536 v).length:Nat)))⟩,⟨1,false,tM v⟩]) (ts:=[(0,tB (decide ((0:Int) < ((dig 65536 v).length:Nat)))),(1,tM v)]) bu28 zr28.2 (Bc 0 rfl rfl rfl (Bc 1 rfl rfl rfl Le.refl))) rfl rfl ?_
  refine A4 ?_
  exact xd6 Plain.mk' rfl ⟨_,_,_,_,_,rfl,rfl,ti28,(Le.of (by rw [wh_sgn,h129,Bool.true_and,decide_eq_decide.2 (show (0:Int) < ((dig 65536 v).length:Nat)↔v≠0 from len_ne)]))⟩
 ·
  refine A5 ?_
  refine R2 (xb8 (r:=tS [⟨1,false,tB false⟩,⟨1,false,tM v⟩]) (ts:=[(0,tB false),(1,tM v)]) bu28 zr28.2 (Bc 0 rfl rfl rfl (Bc 1 rfl rfl rfl Le.refl))) rfl rfl ?_
  refine A4 ?_
  exact xd6 Plain.mk' rfl ⟨_,_,_,_,_,rfl,rfl,ti28,(Le.of (by rw [wh_sgn,h129,Bool.false_and]))⟩
theorem iquo64 {a b:Nat} (ha:a < 9223372036854775808):IntKind.i64.wrap ((a:Int).tdiv (b:Int))=((a / b:Nat):Int):=by
 rw [Int.tdiv_eq_ediv_of_nonneg (by omega)]
 have h:(a:Int) / (b:Int)=((a / b:Nat):Int):=(Int.natCast_ediv a b).symm
 rw [h]
 have:=Nat.div_le_self a b
 generalize a / b=q at*
 exact wr64 (by omega) (by omega)
theorem c_RShort (a d:Nat) (ha:(dig 65536 a).length≤100000) (hd:0 < d) (hdW:d < 65536):
  Ct Tryz.prog 230 [tM a,tI d] (tT [tM (a / d),tM (a%d)]):=by
 refine Ct.intro Tryz.func230 rfl Tryz.ntmps230 rfl ?_
 intro w F
 refine A10 ?_
 refine RE (xg6 (k:=11) (t:=tE (.int .u16 0)) (ts:=rW .u16 (List.replicate ((dig 65536 a).length) 0)) ((dig 65536 a).length) ((dig 65536 a).length) Tryz.underlying26 el42 (fun _ _=>rfl) rfl (by omega) (by omega) (Nat.le_refl _) (by omega) (by omega) (xr1 _)) ⟨rfl,rfl,trivial⟩ trivial ⟨rfl,trivial⟩ ?_
 refine A18 ?_
 refine cL (fun (fm:(Nat)×(List Nat))=>(fun (k:Nat) (qs:List Nat)=>k≤(dig 65536 a).length∧qs.length=(dig 65536 a).length∧Dig 65536 qs∧val 65536 (qs.drop k)=a / 65536 ^ k / d) fm.1 fm.2) (fun (fm:(Nat)×(List Nat))=>(fun (k:Nat) (qs:List Nat)=>upd (upd (upd (upd (upd (fun _=>none) 0 (some (.val (tM a)))) 1 (some (.val (tI d)))) 6 (some (.own (.sl 11 1 0 (dig 65536 a).length)))) 7 (some (.val (tI ((a / 65536 ^ k%d:Nat):Int))))) 8 (some (.val (tI ((k:Int) - 1))))) fm.1 fm.2) (fun (fm:(Nat)×(List Nat))=>(fun (k:Nat) (qs:List Nat)=>upd (fun _=>none) 11 (some (⟨42,1,false,rW .u16 qs⟩))) fm.1 fm.2) [11] (fun (fm:(Nat)×(List Nat))=>(fun (k:Nat) (qs:List Nat)=>k) fm.1 fm.2) (((dig 65536 a).length,List.replicate (dig 65536 a).length 0)) (by dsimp only;exact ⟨Nat.le_refl _,by simp,Dig.rep (by decide) _,by rw [Nat.div_eq_of_lt (xh7 xa0 a),Nat.zero_div,List.drop_replicate,xh3]⟩) (hg:=(sI (Sub.le rfl (Le.int (by dsimp only;rw [Nat.div_eq_of_lt (xh7 xa0 a),Nat.zero_mod];rfl)) (sC (sI (sC Sub.nil)))))) (hh:=((SubK.consI rfl ImpK.refl) SubK.nil)) ?_
 intro fm hI
 obtain ⟨k,qs⟩:=fm
 replace hI:k≤(dig 65536 a).length∧qs.length=(dig 65536 a).length∧Dig 65536 qs∧val 65536 (qs.drop k)=a / 65536 ^ k / d:=hI
 show wc _ _ _ _ (upd (upd (upd (upd (upd (fun _=>none) 0 (some (.val (tM a)))) 1 (some (.val (tI d)))) 6 (some (.own (.sl 11 1 0 (dig 65536 a).length)))) 7 (some (.val (tI ((a / 65536 ^ k%d:Nat):Int))))) 8 (some (.val (tI ((k:Int) - 1))))) (upd (fun _=>none) 11 (some (⟨42,1,false,rW .u16 qs⟩))) _
 obtain ⟨hk,hl,hD,hv⟩:=hI
 have hr:a / 65536 ^ k%d < d:=Nat.mod_lt _ hd
 refine A7 ?_
 refine x8 rfl (fun h93=> ?_) (fun h93=> ?_)
 ·
  obtain ⟨j,rfl⟩: ∃j,k=j+1:=⟨k - 1,by omega⟩
  have hx:=xd3 xa0 a j
  have hx1:=(xc6 xa0 a).getD (by decide) j
  obtain ⟨n1,n2,n3,n4,n5⟩:=short_in (k:=j) (by omega) hl hD hd rfl hv (by rw [←hx])
  have hq0:=Nat.zero_le (((a / 65536 ^ (j+1)%d)*65536+(dig 65536 a).getD j 0) / d)
  refine A7 ?_
  refine R2 (xk0 (r:=(((a / 65536 ^ (j+1)%d)*65536:Nat):Int)) (by rw [wr64 (by omega) (by omega)];omega)) rfl rfl ?_
  refine A2 ?_
  refine R2 (x6 sl26 (j) (by omega) (gN (by omega))) rfl rfl ?_
  refine A1 ?_
  refine R1 (xa2 Tryz.underlying3 (isS Tryz.underlying42) (wr64 (by omega) (by omega))) rfl (R2 (xc8 (r:=((((a / 65536 ^ (j+1)%d)*65536+(dig 65536 a).getD j 0):Nat):Int)) (by rw [wr64 (by omega) (by omega)];omega)) rfl rfl ?_)
  refine A9 ?_
  refine R2 (d_quo (r:=((((a / 65536 ^ (j+1)%d)*65536+(dig 65536 a).getD j 0) / d:Nat):Int)) (by omega) (iquo64 (by omega))) rfl rfl (R1 (xa2 Tryz.underlying42 (isS Tryz.underlying3) (wu16 (by omega) (by omega))) rfl (R2 (xa4 sl26 (by omega) (by omega) rfl) rfl rfl (RE (xc9 (j) ti42 (xk7 (by omega)) (by omega) (xi5 (m:=_) rfl)) ⟨rfl,rfl,trivial⟩ ⟨rfl,trivial⟩ trivial ?_)))
  refine A5 ?_
  refine R2 (d_rem (by omega) wrem64) rfl rfl ?_
  refine A9 ?_
  exact kF ((j,qs.set j (((a / 65536 ^ (j+1)%d)*65536+(dig 65536 a).getD j 0) / d))) ⟨(by dsimp only;exact ⟨by omega,n1,n2,n4⟩),(by dsimp only;omega)⟩ (hg:=(sI (Sub.le rfl (Le.int (by dsimp only;rw [hx,n3])) (sC (sI (sC Sub.nil)))))) (hh:=((SubK.consI rfl ImpK.refl) SubK.nil))
 ·
  have hk0:k=0:=by omega
  subst hk0
  rw [List.drop_zero,Nat.pow_zero,Nat.div_one] at hv
  refine A7 ?_
  refine RE (xg3 (f:=fun n:Nat=>tE (.int .u16 n)) (fun _ h=>h) (xj6 hl) hl) ⟨rfl,trivial⟩ ⟨rfl,trivial⟩ trivial (R1 (x3 (c_RTrim _) fi235 rfl) rfl ?_)
  refine A1 ?_
  refine R1 (xa2 Tryz.underlying42 (isS Tryz.underlying3) (wu16 (by omega) (by omega))) rfl (R1 (xn3 (n:=1) [a / 65536 ^ 0%d] Tryz.underlying26 el42 zf42 rfl rfl rfl) rfl (R1 (x3 (c_RTrim _) fi235 rfl) rfl ?_))
  refine A5 ?_
  exact xc3 Plain.mk' rfl rfl rfl (Le.of (congrArg tLm (by rw [xf8 xa0 hD,hv]))) (Le.of (congrArg tLm (by rw [trim1L (by omega),Nat.pow_zero,Nat.div_one])))
theorem c_RPlus (a b:Nat) (ha:(dig 65536 a).length≤100000) (hb:(dig 65536 b).length≤100000):
  Ct Tryz.prog 208 [tM a,tM b] (tM (a+b)):=by
 have hab:=len_dbl ha hb
 refine Ct.intro Tryz.func208 rfl Tryz.ntmps208 rfl ?_
 intro w F
 refine A7 ?_
 refine RE (xd8 (k:=5) 42 1 false rfl (fun _=>rfl)) trivial trivial ⟨rfl,trivial⟩ ?_
 refine A14 ?_
 refine cL (fun (fm:(Nat)×(Nat)×(List Nat))=>(fun (i:Nat) (n:Nat) (cs:List Nat)=>i≤(dig 65536 (a+b)).length∧n=(a%65536 ^ i+b%65536 ^ i) / 65536 ^ i∧cs=dgs 65536 i (a+b)) fm.1 fm.2.1 fm.2.2) (fun (fm:(Nat)×(Nat)×(List Nat))=>(fun (i:Nat) (n:Nat) (cs:List Nat)=>upd (upd (upd (upd (upd (fun _=>none) 0 (some (.val (tM a)))) 1 (some (.val (tM b)))) 5 (some (.own (.sl 5 1 0 cs.length)))) 7 (some (.val (tI i)))) 6 (some (.val (tI n)))) fm.1 fm.2.1 fm.2.2) (fun (fm:(Nat)×(Nat)×(List Nat))=>(fun (i:Nat) (n:Nat) (cs:List Nat)=>upd (fun _=>none) 5 (some (⟨42,1,false,rW .u16 cs⟩))) fm.1 fm.2.1 fm.2.2) [5] (fun (fm:(Nat)×(Nat)×(List Nat))=>(fun (i:Nat) (n:Nat) (cs:List Nat)=>(dig 65536 (a+b)).length - i) fm.1 fm.2.1 fm.2.2) ((0,0,[])) (by dsimp only;exact ⟨Nat.zero_le _,by simp [Nat.mod_one],rfl⟩) (hh:=((SubK.consI rfl ImpK.refl) SubK.nil)) ?_
 intro fm hI
 obtain ⟨i,n,cs⟩:=fm
 replace hI:i≤(dig 65536 (a+b)).length∧n=(a%65536 ^ i+b%65536 ^ i) / 65536 ^ i∧cs=dgs 65536 i (a+b):=hI
 show wc _ _ _ _ (upd (upd (upd (upd (upd (fun _=>none) 0 (some (.val (tM a)))) 1 (some (.val (tM b)))) 5 (some (.own (.sl 5 1 0 cs.length)))) 7 (some (.val (tI i)))) 6 (some (.val (tI n)))) (upd (fun _=>none) 5 (some (⟨42,1,false,rW .u16 cs⟩))) _
 obtain ⟨hi,hn,hcs⟩:=hI
 have hcl:cs.length=i:=by rw [hcs,xf4]
 have hn1:=rplus_small hn
 have xa:=xd3 xa0 a i
 have xb:=xd3 xa0 b i
 have xa1:=(xc6 xa0 a).getD (by decide) i
 have xb1:=(xc6 xa0 b).getD (by decide) i
 refine A8 ?_
 refine RGcaseD (t:=12) rfl (fun h35=> ?_) (fun h35=> ?_)
 ·
  have hmore:=rplus_more hn (.inl (by omega))
  refine A16 ?_
  refine xg9 (fun (m1:Nat)=>m1=(n+a / 65536 ^ i%65536)) (fun (m1:Nat)=>upd (upd (upd (upd (upd (fun _=>none) 0 (some (.val (tM a)))) 1 (some (.val (tM b)))) 5 (some (.own (.sl 5 1 0 cs.length)))) 7 (some (.val (tI i)))) 6 (some (.val (tI m1)))) (fun (m1:Nat)=>upd (fun _=>none) 5 (some (⟨42,1,false,rW .u16 cs⟩))) (nm [5]) ?_ ?_
  ·
   refine A8 ?_
   refine x8 rfl (fun h36=> ?_) (fun h36=> ?_)
   ·
    refine A4 ?_
    refine R2 (x6 sl26 (i) (by omega) (gN (by omega))) rfl rfl ?_
    refine A1 ?_
    refine R1 (xa2 Tryz.underlying3 (isS Tryz.underlying42) (wr64 (by omega) (by omega))) rfl (R2 (xc8 (r:=((n+(dig 65536 a).getD i 0:Nat):Int)) (by rw [wr64 (by omega) (by omega)];omega)) rfl rfl ?_)
    refine A2 ?_
    exact kF (n+(dig 65536 a).getD i 0) (by rw [xa]) (hh:=((SubK.consI rfl ImpK.refl) SubK.nil))
   ·
    refine A1 ?_
    exact kF (n) (by rw [xo5 xa0 (by omega),Nat.add_zero]) (hh:=((SubK.consI rfl ImpK.refl) SubK.nil))
  ·
   intro m1 hm1
   refine xg9 (fun (m2:Nat)=>m2=(m1+b / 65536 ^ i%65536)) (fun (m2:Nat)=>upd (upd (upd (upd (upd (fun _=>none) 0 (some (.val (tM a)))) 1 (some (.val (tM b)))) 5 (some (.own (.sl 5 1 0 cs.length)))) 7 (some (.val (tI i)))) 6 (some (.val (tI m2)))) (fun (m2:Nat)=>upd (fun _=>none) 5 (some (⟨42,1,false,rW .u16 cs⟩))) (nm [5]) ?_ ?_
   ·
    refine A8 ?_
    refine x8 rfl (fun h39=> ?_) (fun h39=> ?_)
    ·
     refine A4 ?_
     refine R2 (x6 sl26 (i) (by omega) (gN (by omega))) rfl rfl ?_
     refine A1 ?_
     refine R1 (xa2 Tryz.underlying3 (isS Tryz.underlying42) (wr64 (by omega) (by omega))) rfl (R2 (xc8 (r:=((m1+(dig 65536 b).getD i 0:Nat):Int)) (by rw [wr64 (by omega) (by omega)];omega)) rfl rfl ?_)
     refine A2 ?_
     exact kF (m1+(dig 65536 b).getD i 0) (by rw [xb]) (hh:=((SubK.consI rfl ImpK.refl) SubK.nil))
    ·
     refine A1 ?_
     exact kF (m1) (by rw [xo5 xa0 (by omega),Nat.add_zero]) (hh:=((SubK.consI rfl ImpK.refl) SubK.nil))
   ·
    intro m2 hm2
    refine A4 ?_
    refine R2 (d_rem (r:=((m2%65536:Nat):Int)) (by decide) (wrem64 (b:=65536))) rfl rfl (R1 (xa2 Tryz.underlying42 (isS Tryz.underlying3) (wu16 (by omega) (by omega))) rfl (R1 (xn3 (n:=1) [m2%65536] Tryz.underlying26 el42 zf42 rfl rfl rfl) rfl (RE (xc5 (k:=5) (k':=51) (ts':=rW .u16 (cs++[m2%65536])) Tryz.underlying26 el42 zf42 rfl rfl (fun _=>inferInstance) xn0 (by simp;omega) (by simp;omega) (by simp [rW]) (n':=cs.length+1) rfl) ⟨rfl,rfl,trivial⟩ ⟨rfl,trivial⟩ ⟨rfl,trivial⟩ ?_)))
    refine A5 ?_
    refine R2 (d_quo (r:=((m2 / 65536:Nat):Int)) (by decide) (iquo64 (b:=65536) (by omega))) rfl rfl ?_
    refine A9 ?_
    obtain ⟨n1,n2⟩:=rplus_in (s:=m2) hn (by rw [hm2,hm1])
    exact xe4 (l:=[5]) (fun j=>cond (Nat.beq j 5) 51 (j)) ((i+1,m2 / 65536,cs++[m2%65536])) ⟨(by dsimp only;exact ⟨hmore,n2,by rw [hcs];exact n1⟩),(by dsimp only;omega)⟩ (SubR.int rfl (by first | omega | rfl | (dsimp only;omega)) (SubR.int rfl (by first | omega | rfl | (dsimp only;omega)) ((SubR.consI rfl (Imp.of (by dsimp only;rw [List.length_append];rfl))) (SubR.cons rfl (SubR.cons rfl SubR.nil))))) ((SubKR.consI rfl (ImpK.of xh9.symm)) SubKR.nil) (SupG.val (SupG.val (SupG.own rfl (SupG.val (SupG.val SupG.nil))))) (SupH.cons rfl (supJ xf3) SupH.nil) (lkOk rfl) rfl rfl (fun _ h=>by cases h)
 ·
  refine A6 ?_
  refine RGcaseD (t:=18) rfl (fun h35_2=> ?_) (fun h35_2=> ?_)
  ·
   have hmore:=rplus_more hn (.inr (.inl (by omega)))
   refine A10 ?_
   refine xg9 (fun (m1:Nat)=>m1=(n+a / 65536 ^ i%65536)) (fun (m1:Nat)=>upd (upd (upd (upd (upd (fun _=>none) 0 (some (.val (tM a)))) 1 (some (.val (tM b)))) 5 (some (.own (.sl 5 1 0 cs.length)))) 7 (some (.val (tI i)))) 6 (some (.val (tI m1)))) (fun (m1:Nat)=>upd (fun _=>none) 5 (some (⟨42,1,false,rW .u16 cs⟩))) (nm [5]) ?_ ?_
   ·
    refine A8 ?_
    refine x8 rfl (fun h36=> ?_) (fun h36=> ?_)
    ·
     refine A4 ?_
     refine R2 (x6 sl26 (i) (by omega) (gN (by omega))) rfl rfl ?_
     refine A1 ?_
     refine R1 (xa2 Tryz.underlying3 (isS Tryz.underlying42) (wr64 (by omega) (by omega))) rfl (R2 (xc8 (r:=((n+(dig 65536 a).getD i 0:Nat):Int)) (by rw [wr64 (by omega) (by omega)];omega)) rfl rfl ?_)
     refine A2 ?_
     exact kF (n+(dig 65536 a).getD i 0) (by rw [xa]) (hh:=((SubK.consI rfl ImpK.refl) SubK.nil))
    ·
     refine A1 ?_
     exact kF (n) (by rw [xo5 xa0 (by omega),Nat.add_zero]) (hh:=((SubK.consI rfl ImpK.refl) SubK.nil))
   ·
    intro m1 hm1
    refine xg9 (fun (m2:Nat)=>m2=(m1+b / 65536 ^ i%65536)) (fun (m2:Nat)=>upd (upd (upd (upd (upd (fun _=>none) 0 (some (.val (tM a)))) 1 (some (.val (tM b)))) 5 (some (.own (.sl 5 1 0 cs.length)))) 7 (some (.val (tI i)))) 6 (some (.val (tI m2)))) (fun (m2:Nat)=>upd (fun _=>none) 5 (some (⟨42,1,false,rW .u16 cs⟩))) (nm [5]) ?_ ?_
    ·
     refine A8 ?_
     refine x8 rfl (fun h39=> ?_) (fun h39=> ?_)
     ·
      refine A4 ?_
      refine R2 (x6 sl26 (i) (by omega) (gN (by omega))) rfl rfl ?_
      refine A1 ?_
      refine R1 (xa2 Tryz.underlying3 (isS Tryz.underlying42) (wr64 (by omega) (by omega))) rfl (R2 (xc8 (r:=((m1+(dig 65536 b).getD i 0:Nat):Int)) (by rw [wr64 (by omega) (by omega)];omega)) rfl rfl ?_)
      refine A2 ?_
      exact kF (m1+(dig 65536 b).getD i 0) (by rw [xb]) (hh:=((SubK.consI rfl ImpK.refl) SubK.nil))
     ·
      refine A1 ?_
      exact kF (m1) (by rw [xo5 xa0 (by omega),Nat.add_zero]) (hh:=((SubK.consI rfl ImpK.refl) SubK.nil))
    ·
     intro m2 hm2
     refine A4 ?_
     refine R2 (d_rem (r:=((m2%65536:Nat):Int)) (by decide) (wrem64 (b:=65536))) rfl rfl (R1 (xa2 Tryz.underlying42 (isS Tryz.underlying3) (wu16 (by omega) (by omega))) rfl (R1 (xn3 (n:=1) [m2%65536] Tryz.underlying26 el42 zf42 rfl rfl rfl) rfl (RE (xc5 (k:=5) (k':=51) (ts':=rW .u16 (cs++[m2%65536])) Tryz.underlying26 el42 zf42 rfl rfl (fun _=>inferInstance) xn0 (by simp;omega) (by simp;omega) (by simp [rW]) (n':=cs.length+1) rfl) ⟨rfl,rfl,trivial⟩ ⟨rfl,trivial⟩ ⟨rfl,trivial⟩ ?_)))
     refine A5 ?_
     refine R2 (d_quo (r:=((m2 / 65536:Nat):Int)) (by decide) (iquo64 (b:=65536) (by omega))) rfl rfl ?_
     refine A9 ?_
     obtain ⟨n1,n2⟩:=rplus_in (s:=m2) hn (by rw [hm2,hm1])
     exact xe4 (l:=[5]) (fun j=>cond (Nat.beq j 5) 51 (j)) ((i+1,m2 / 65536,cs++[m2%65536])) ⟨(by dsimp only;exact ⟨hmore,n2,by rw [hcs];exact n1⟩),(by dsimp only;omega)⟩ (SubR.int rfl (by first | omega | rfl | (dsimp only;omega)) (SubR.int rfl (by first | omega | rfl | (dsimp only;omega)) ((SubR.consI rfl (Imp.of (by dsimp only;rw [List.length_append];rfl))) (SubR.cons rfl (SubR.cons rfl SubR.nil))))) ((SubKR.consI rfl (ImpK.of xh9.symm)) SubKR.nil) (SupG.val (SupG.val (SupG.own rfl (SupG.val (SupG.val SupG.nil))))) (SupH.cons rfl (supJ xf3) SupH.nil) (lkOk rfl) rfl rfl (fun _ h=>by cases h)
  ·
   refine A5 ?_
   refine x8 rfl (fun h35_3=> ?_) (fun h35_3=> ?_)
   ·
    have hmore:=rplus_more hn (.inr (.inr (by omega)))
    refine A4 ?_
    refine xg9 (fun (m1:Nat)=>m1=(n+a / 65536 ^ i%65536)) (fun (m1:Nat)=>upd (upd (upd (upd (upd (fun _=>none) 0 (some (.val (tM a)))) 1 (some (.val (tM b)))) 5 (some (.own (.sl 5 1 0 cs.length)))) 7 (some (.val (tI i)))) 6 (some (.val (tI m1)))) (fun (m1:Nat)=>upd (fun _=>none) 5 (some (⟨42,1,false,rW .u16 cs⟩))) (nm [5]) ?_ ?_
    ·
     refine A8 ?_
     refine x8 rfl (fun h36=> ?_) (fun h36=> ?_)
     ·
      refine A4 ?_
      refine R2 (x6 sl26 (i) (by omega) (gN (by omega))) rfl rfl ?_
      refine A1 ?_
      refine R1 (xa2 Tryz.underlying3 (isS Tryz.underlying42) (wr64 (by omega) (by omega))) rfl (R2 (xc8 (r:=((n+(dig 65536 a).getD i 0:Nat):Int)) (by rw [wr64 (by omega) (by omega)];omega)) rfl rfl ?_)
      refine A2 ?_
      exact kF (n+(dig 65536 a).getD i 0) (by rw [xa]) (hh:=((SubK.consI rfl ImpK.refl) SubK.nil))
     ·
      refine A1 ?_
      exact kF (n) (by rw [xo5 xa0 (by omega),Nat.add_zero]) (hh:=((SubK.consI rfl ImpK.refl) SubK.nil))
    ·
     intro m1 hm1
     refine xg9 (fun (m2:Nat)=>m2=(m1+b / 65536 ^ i%65536)) (fun (m2:Nat)=>upd (upd (upd (upd (upd (fun _=>none) 0 (some (.val (tM a)))) 1 (some (.val (tM b)))) 5 (some (.own (.sl 5 1 0 cs.length)))) 7 (some (.val (tI i)))) 6 (some (.val (tI m2)))) (fun (m2:Nat)=>upd (fun _=>none) 5 (some (⟨42,1,false,rW .u16 cs⟩))) (nm [5]) ?_ ?_
     ·
      refine A8 ?_
      refine x8 rfl (fun h39=> ?_) (fun h39=> ?_)
      ·
       refine A4 ?_
       refine R2 (x6 sl26 (i) (by omega) (gN (by omega))) rfl rfl ?_
       refine A1 ?_
       refine R1 (xa2 Tryz.underlying3 (isS Tryz.underlying42) (wr64 (by omega) (by omega))) rfl (R2 (xc8 (r:=((m1+(dig 65536 b).getD i 0:Nat):Int)) (by rw [wr64 (by omega) (by omega)];omega)) rfl rfl ?_)
       refine A2 ?_
       exact kF (m1+(dig 65536 b).getD i 0) (by rw [xb]) (hh:=((SubK.consI rfl ImpK.refl) SubK.nil))
      ·
       refine A1 ?_
       exact kF (m1) (by rw [xo5 xa0 (by omega),Nat.add_zero]) (hh:=((SubK.consI rfl ImpK.refl) SubK.nil))
     ·
      intro m2 hm2
      refine A4 ?_
      refine R2 (d_rem (r:=((m2%65536:Nat):Int)) (by decide) (wrem64 (b:=65536))) rfl rfl (R1 (xa2 Tryz.underlying42 (isS Tryz.underlying3) (wu16 (by omega) (by omega))) rfl (R1 (xn3 (n:=1) [m2%65536] Tryz.underlying26 el42 zf42 rfl rfl rfl) rfl (RE (xc5 (k:=5) (k':=51) (ts':=rW .u16 (cs++[m2%65536])) Tryz.underlying26 el42 zf42 rfl rfl (fun _=>inferInstance) xn0 (by simp;omega) (by simp;omega) (by simp [rW]) (n':=cs.length+1) rfl) ⟨rfl,rfl,trivial⟩ ⟨rfl,trivial⟩ ⟨rfl,trivial⟩ ?_)))
      refine A5 ?_
      refine R2 (d_quo (r:=((m2 / 65536:Nat):Int)) (by decide) (iquo64 (b:=65536) (by omega))) rfl rfl ?_
      refine A9 ?_
      obtain ⟨n1,n2⟩:=rplus_in (s:=m2) hn (by rw [hm2,hm1])
      exact xe4 (l:=[5]) (fun j=>cond (Nat.beq j 5) 51 (j)) ((i+1,m2 / 65536,cs++[m2%65536])) ⟨(by dsimp only;exact ⟨hmore,n2,by rw [hcs];exact n1⟩),(by dsimp only;omega)⟩ (SubR.int rfl (by first | omega | rfl | (dsimp only;omega)) (SubR.int rfl (by first | omega | rfl | (dsimp only;omega)) ((SubR.consI rfl (Imp.of (by dsimp only;rw [List.length_append];rfl))) (SubR.cons rfl (SubR.cons rfl SubR.nil))))) ((SubKR.consI rfl (ImpK.of xh9.symm)) SubKR.nil) (SupG.val (SupG.val (SupG.own rfl (SupG.val (SupG.val SupG.nil))))) (SupH.cons rfl (supJ xf3) SupH.nil) (lkOk rfl) rfl rfl (fun _ h=>by cases h)
   ·
    refine A7 ?_
    refine RE (xg3 (f:=fun n:Nat=>tE (.int .u16 n)) (xs:=cs) (fun _ h=>h) (xj6 rfl) rfl) ⟨rfl,trivial⟩ ⟨rfl,trivial⟩ trivial ?_
    refine A4 ?_
    exact x4 Plain.mk' rfl rfl (Le.of (congrArg tLm (by rw [hcs,rplus_end hn (by omega) (by omega) (by omega) hi])))
instance fi203:FnI Tryz.prog 203:=⟨_,Tryz.func203,by kernel_rfl,rfl⟩
theorem c_RMinus (a b:Nat) (hab:b≤a) (ha:(dig 65536 a).length≤100000):
  Ct Tryz.prog 209 [tM a,tM b] (tM (a - b)):=by
 refine Ct.intro Tryz.func209 rfl Tryz.ntmps209 rfl ?_
 intro w F
 refine A7 ?_
 refine RE (xd8 (k:=5) 42 1 false rfl (fun _=>rfl)) trivial trivial ⟨rfl,trivial⟩ ?_
 refine A14 ?_
 refine cL (fun (fm:(Nat)×(Nat)×(List Nat))=>(fun (i:Nat) (br:Nat) (cs:List Nat)=>i≤(dig 65536 a).length∧cs.length=i∧Dig 65536 cs∧val 65536 cs+b%65536 ^ i=a%65536 ^ i+br*65536 ^ i∧br≤1) fm.1 fm.2.1 fm.2.2) (fun (fm:(Nat)×(Nat)×(List Nat))=>(fun (i:Nat) (br:Nat) (cs:List Nat)=>upd (upd (upd (upd (upd (fun _=>none) 0 (some (.val (tM a)))) 1 (some (.val (tM b)))) 5 (some (.own (.sl 5 1 0 cs.length)))) 6 (some (.val (tI br)))) 7 (some (.val (tI i)))) fm.1 fm.2.1 fm.2.2) (fun (fm:(Nat)×(Nat)×(List Nat))=>(fun (i:Nat) (br:Nat) (cs:List Nat)=>upd (fun _=>none) 5 (some (⟨42,1,false,rW .u16 cs⟩))) fm.1 fm.2.1 fm.2.2) [5] (fun (fm:(Nat)×(Nat)×(List Nat))=>(fun (i:Nat) (br:Nat) (cs:List Nat)=>(dig 65536 a).length - i) fm.1 fm.2.1 fm.2.2) ((0,0,[])) (by dsimp only;exact ⟨Nat.zero_le _,rfl,Dig.nil _,by simp [val,Nat.mod_one],by omega⟩) (hh:=((SubK.consI rfl ImpK.refl) SubK.nil)) ?_
 intro fm hI
 obtain ⟨i,br,cs⟩:=fm
 replace hI:i≤(dig 65536 a).length∧cs.length=i∧Dig 65536 cs∧val 65536 cs+b%65536 ^ i=a%65536 ^ i+br*65536 ^ i∧br≤1:=hI
 show wc _ _ _ _ (upd (upd (upd (upd (upd (fun _=>none) 0 (some (.val (tM a)))) 1 (some (.val (tM b)))) 5 (some (.own (.sl 5 1 0 cs.length)))) 6 (some (.val (tI br)))) 7 (some (.val (tI i)))) (upd (fun _=>none) 5 (some (⟨42,1,false,rW .u16 cs⟩))) _
 obtain ⟨hi,hl,hD,hv,hbr⟩:=hI
 have xa:=xd3 xa0 a i
 have xb:=xd3 xa0 b i
 have xa1:=(xc6 xa0 a).getD (by decide) i
 have xb1:=(xc6 xa0 b).getD (by decide) i
 refine A9 ?_
 refine x8 rfl (fun h52=> ?_) (fun h52=> ?_)
 ·
  refine A8 ?_
  refine R2 (x6 sl26 (i) (by omega) (gN (by omega))) rfl rfl ?_
  refine A1 ?_
  refine R1 (xa2 Tryz.underlying3 (isS Tryz.underlying42) (wr64 (by omega) (by omega))) rfl (R2 (xc8 (r:=((65536+((dig 65536 a).getD i 0):Nat):Int)) (by rw [wr64 (by omega) (by omega)];omega)) rfl rfl ?_)
  refine A1 ?_
  refine R2 (xe6 (r:=((65536+((dig 65536 a).getD i 0) - br:Nat):Int)) (by rw [wr64 (by omega) (by omega)];omega)) rfl rfl ?_
  refine A3 ?_
  refine xg9 (fun (m:Nat)=>m+br+b / 65536 ^ i%65536=65536+a / 65536 ^ i%65536) (fun (m:Nat)=>upd (upd (upd (upd (upd (upd (fun _=>none) 0 (some (.val (tM a)))) 1 (some (.val (tM b)))) 5 (some (.own (.sl 5 1 0 cs.length)))) 6 (some (.val (tI br)))) 7 (some (.val (tI i)))) 8 (some (.val (tI m)))) (fun (m:Nat)=>upd (fun _=>none) 5 (some (⟨42,1,false,rW .u16 cs⟩))) (nm [5]) ?_ ?_
  ·
   refine A8 ?_
   refine x8 rfl (fun h54=> ?_) (fun h54=> ?_)
   ·
    refine A4 ?_
    refine R2 (x6 sl26 (i) (by omega) (gN (by omega))) rfl rfl ?_
    refine A1 ?_
    refine R1 (xa2 Tryz.underlying3 (isS Tryz.underlying42) (wr64 (by omega) (by omega))) rfl (R2 (xe6 (r:=((65536+((dig 65536 a).getD i 0) - br - ((dig 65536 b).getD i 0):Nat):Int)) (by rw [wr64 (by omega) (by omega)];omega)) rfl rfl ?_)
    refine A2 ?_
    exact kF (65536+((dig 65536 a).getD i 0) - br - ((dig 65536 b).getD i 0)) (by omega) (hh:=((SubK.consI rfl ImpK.refl) SubK.nil))
   ·
    refine A1 ?_
    exact kF (65536+((dig 65536 a).getD i 0) - br) (by rw [xo5 xa0 (v:=b) (i:=i) (by omega)];omega) (hh:=((SubK.consI rfl ImpK.refl) SubK.nil))
  ·
   intro m hm
   refine A4 ?_
   refine R2 (d_rem (r:=((m%65536:Nat):Int)) (by decide) (wrem64 (b:=65536))) rfl rfl (R1 (xa2 Tryz.underlying42 (isS Tryz.underlying3) (wu16 (by omega) (by omega))) rfl (R1 (xn3 (n:=1) [m%65536] Tryz.underlying26 el42 zf42 rfl rfl rfl) rfl (RE (xc5 (k:=5) (k':=39) (ts':=rW .u16 (cs++[m%65536])) Tryz.underlying26 el42 zf42 rfl rfl (fun _=>inferInstance) xn0 (by simp;omega) (by simp;omega) (by simp [rW]) (n':=cs.length+1) rfl) ⟨rfl,rfl,trivial⟩ ⟨rfl,trivial⟩ ⟨rfl,trivial⟩ ?_)))
   refine A5 ?_
   refine R2 (d_quo (r:=((m / 65536:Nat):Int)) (by decide) (iquo64 (b:=65536) (by omega))) rfl rfl (R2 (xe6 (r:=((1 - m / 65536:Nat):Int)) (by rw [wr64 (by omega) (by omega)];omega)) rfl rfl ?_)
   refine A9 ?_
   obtain ⟨n1,n2,n3⟩:=rminus_in hl hv hbr hm
   exact xe4 (l:=[5]) (fun j=>cond (Nat.beq j 5) 39 (j)) ((i+1,1 - m / 65536,cs++[m%65536])) ⟨(by dsimp only;exact ⟨by omega,by rw [List.length_append,hl];rfl,hD.append (Dig.cons (Nat.mod_lt _ (by decide)) (Dig.nil _)),n1,n3⟩),(by dsimp only;omega)⟩ (SubR.int rfl (by first | omega | rfl | (dsimp only;omega)) (SubR.int rfl (by first | omega | rfl | (dsimp only;omega)) ((SubR.consI rfl (Imp.of (by dsimp only;rw [List.length_append];rfl))) (SubR.cons rfl (SubR.cons rfl SubR.nil))))) ((SubKR.consI rfl (ImpK.of xh9.symm)) SubKR.nil) (SupG.val (SupG.val (SupG.own rfl (SupG.val (SupG.val SupG.nil))))) (SupH.cons rfl (supJ xf3) SupH.nil) (lkOk rfl) rfl rfl (fun _ h=>by cases h)
 ·
  refine A7 ?_
  refine RE (xg3 (f:=fun n:Nat=>tE (.int .u16 n)) (xs:=cs) (fun _ h=>h) (xj6 rfl) rfl) ⟨rfl,trivial⟩ ⟨rfl,trivial⟩ trivial (R1 (x3 (c_RTrim _) fi235 rfl) rfl ?_)
  refine A4 ?_
  exact x4 Plain.mk' rfl rfl (Le.of (congrArg tLm (by rw [show i=(dig 65536 a).length by omega] at hv hl;exact rminus_end hl hD (xh7 xa0 a) hab hv)))
theorem c_RHalf (a:Nat) (ha:(dig 65536 a).length≤200000):
  Ct Tryz.prog 232 [tM a] (tM (a / 2)):=by
 refine Ct.intro Tryz.func232 rfl Tryz.ntmps232 rfl ?_
 intro w F
 refine A9 ?_
 refine RE (xg6 (k:=8) (t:=tE (.int .u16 0)) (ts:=rW .u16 (List.replicate ((dig 65536 a).length) 0)) ((dig 65536 a).length) ((dig 65536 a).length) Tryz.underlying26 el42 (fun _ _=>rfl) rfl (by omega) (by omega) (Nat.le_refl _) (by omega) (by omega) (xr1 _)) ⟨rfl,rfl,trivial⟩ trivial ⟨rfl,trivial⟩ ?_
 refine A18 ?_
 refine cL (fun (fm:(Nat)×(Nat)×(List Nat))=>(fun (k:Nat) (n:Nat) (qs:List Nat)=>k≤(dig 65536 a).length∧qs.length=(dig 65536 a).length∧Dig 65536 qs∧n%2=a / 65536 ^ k%2∧val 65536 (qs.drop k)=a / 65536 ^ k / 2) fm.1 fm.2.1 fm.2.2) (fun (fm:(Nat)×(Nat)×(List Nat))=>(fun (k:Nat) (n:Nat) (qs:List Nat)=>upd (upd (upd (upd (fun _=>none) 0 (some (.val (tM a)))) 3 (some (.own (.sl 8 1 0 (dig 65536 a).length)))) 4 (some (.val (tI n)))) 5 (some (.val (tI ((k:Int) - 1))))) fm.1 fm.2.1 fm.2.2) (fun (fm:(Nat)×(Nat)×(List Nat))=>(fun (k:Nat) (n:Nat) (qs:List Nat)=>upd (fun _=>none) 8 (some (⟨42,1,false,rW .u16 qs⟩))) fm.1 fm.2.1 fm.2.2) [8] (fun (fm:(Nat)×(Nat)×(List Nat))=>(fun (k:Nat) (n:Nat) (qs:List Nat)=>k) fm.1 fm.2.1 fm.2.2) (((dig 65536 a).length,0,List.replicate (dig 65536 a).length 0)) (by dsimp only;exact ⟨Nat.le_refl _,by simp,Dig.rep (by decide) _,by rw [Nat.div_eq_of_lt (xh7 xa0 a)],by rw [Nat.div_eq_of_lt (xh7 xa0 a),Nat.zero_div,List.drop_replicate,xh3]⟩) (hh:=((SubK.consI rfl ImpK.refl) SubK.nil)) ?_
 intro fm hI
 obtain ⟨k,n,qs⟩:=fm
 replace hI:k≤(dig 65536 a).length∧qs.length=(dig 65536 a).length∧Dig 65536 qs∧n%2=a / 65536 ^ k%2∧val 65536 (qs.drop k)=a / 65536 ^ k / 2:=hI
 show wc _ _ _ _ (upd (upd (upd (upd (fun _=>none) 0 (some (.val (tM a)))) 3 (some (.own (.sl 8 1 0 (dig 65536 a).length)))) 4 (some (.val (tI n)))) 5 (some (.val (tI ((k:Int) - 1))))) (upd (fun _=>none) 8 (some (⟨42,1,false,rW .u16 qs⟩))) _
 obtain ⟨hk,hl,hD,hn,hv⟩:=hI
 refine A7 ?_
 refine x8 rfl (fun h82=> ?_) (fun h82=> ?_)
 ·
  obtain ⟨j,rfl⟩: ∃j,k=j+1:=⟨k - 1,by omega⟩
  have hx:=xd3 xa0 a j
  have hx1:=(xc6 xa0 a).getD (by decide) j
  obtain ⟨n1,n2,n3,n4,n5⟩:=half_in (k:=j) (by omega) hl hD hn hv rfl
  rw [←hx] at n1 n2 n3 n4 n5
  refine A7 ?_
  refine R2 (d_rem (r:=((n%2:Nat):Int)) (by decide) (wrem64 (b:=2))) rfl rfl (R2 (xk0 (r:=((n%2*65536:Nat):Int)) (by rw [wr64 (by omega) (by omega)];omega)) rfl rfl ?_)
  refine A2 ?_
  refine R2 (x6 sl26 (j) (by omega) (gN (by omega))) rfl rfl ?_
  refine A1 ?_
  refine R1 (xa2 Tryz.underlying3 (isS Tryz.underlying42) (wr64 (by omega) (by omega))) rfl (R2 (xc8 (r:=(((n%2*65536+(dig 65536 a).getD j 0):Nat):Int)) (by rw [wr64 (by omega) (by omega)];omega)) rfl rfl ?_)
  refine A7 ?_
  refine R2 (d_quo (r:=(((n%2*65536+(dig 65536 a).getD j 0) / 2:Nat):Int)) (by decide) (iquo64 (b:=2) (by omega))) rfl rfl (R1 (xa2 Tryz.underlying42 (isS Tryz.underlying3) (wu16 (by omega) (by omega))) rfl (R2 (xa4 sl26 (by omega) (by omega) rfl) rfl rfl (RE (xc9 (j) ti42 (xk7 (by omega)) (by omega) (xi5 (m:=_) rfl)) ⟨rfl,rfl,trivial⟩ ⟨rfl,trivial⟩ trivial ?_)))
  refine A8 ?_
  exact kF ((j,(n%2*65536+(dig 65536 a).getD j 0),qs.set j ((n%2*65536+(dig 65536 a).getD j 0) / 2))) ⟨(by dsimp only;exact ⟨by omega,n1,n2,n3,n4⟩),(by dsimp only;omega)⟩ (hh:=((SubK.consI rfl ImpK.refl) SubK.nil))
 ·
  have hk0:k=0:=by omega
  subst hk0
  rw [List.drop_zero,Nat.pow_zero,Nat.div_one] at hv
  refine A7 ?_
  refine RE (xg3 (f:=fun n:Nat=>tE (.int .u16 n)) (xs:=qs) (fun _ h=>h) (xj6 hl) hl) ⟨rfl,trivial⟩ ⟨rfl,trivial⟩ trivial (R1 (x3 (c_RTrim _) fi235 rfl) rfl ?_)
  refine A4 ?_
  exact x4 Plain.mk' rfl rfl (Le.of (congrArg tLm (by rw [xf8 xa0 hD,hv])))
theorem xw7 (n:Int) (h1: -9223372036854775808≤n) (h2:n≤9223372036854775807):
  Ct Tryz.prog 136 [tI n] (tWh (wh n)):=by
 refine Ct.intro Tryz.func136 rfl Tryz.ntmps136 rfl ?_
 intro w F
 refine A2 ?_
 refine RE (x9 (k:=2) (n:=2) (agg:=true) zr28.1 zr28.2 rfl) trivial trivial ⟨rfl,trivial⟩ ?_
 refine A5 ?_
 refine R1 (xa2 Tryz.underlying68 (isS Tryz.underlying3) toU64) rfl ?_
 refine A3 ?_
 refine xg9 (fun (v:Nat)=>v=n.natAbs) (fun (v:Nat)=>upd (upd (upd (fun _=>none) 0 (some (.val (tI n)))) 2 (some (.own (.ptr 2 0)))) 3 (some (.val (tE (.int .u64 ((v:Nat):Int)))))) (fun (v:Nat)=>upd (fun _=>none) 2 (some (⟨28,2,true,[.val (tWh ⟨false,[]⟩)]⟩))) (nm [2]) ?_ ?_
 ·
  refine A6 ?_
  refine x8 rfl (fun h164=> ?_) (fun h164=> ?_)
  ·
   refine A2 ?_
   refine R1 (d_neg (negU64 (by omega))) rfl ?_
   refine A2 ?_
   exact kF ((18446744073709551616 - (n%18446744073709551616).toNat)%18446744073709551616) (by omega) (hh:=((SubK.consI rfl ImpK.refl) SubK.nil))
  ·
   refine A1 ?_
   exact kF ((n%18446744073709551616).toNat) (by omega) (hh:=((SubK.consI rfl ImpK.refl) SubK.nil))
 ·
  intro v hv
  have hvl:=wh_len v (by omega)
  refine A2 ?_
  refine RE (xd8 (k:=4) 42 1 false rfl (fun _=>rfl)) trivial trivial ⟨rfl,trivial⟩ ?_
  refine A4 ?_
  refine cL (fun (fm:(Nat)×(Nat)×(List Nat))=>(fun (i:Nat) (u:Nat) (cs:List Nat)=>i≤(dig 65536 v).length∧u=v / 65536 ^ i∧cs=dgs 65536 i v∧u < 18446744073709551616) fm.1 fm.2.1 fm.2.2) (fun (fm:(Nat)×(Nat)×(List Nat))=>(fun (i:Nat) (u:Nat) (cs:List Nat)=>upd (upd (upd (upd (fun _=>none) 0 (some (.val (tI n)))) 2 (some (.own (.ptr 2 0)))) 3 (some (.val (tE (.int .u64 ((u:Nat):Int)))))) 4 (some (.own (.sl 4 1 0 cs.length)))) fm.1 fm.2.1 fm.2.2) (fun (fm:(Nat)×(Nat)×(List Nat))=>(fun (i:Nat) (u:Nat) (cs:List Nat)=>upd (upd (fun _=>none) 2 (some (⟨28,2,true,[.val (tWh ⟨false,[]⟩)]⟩))) 4 (some (⟨42,1,false,rW .u16 cs⟩))) fm.1 fm.2.1 fm.2.2) [2,4] (fun (fm:(Nat)×(Nat)×(List Nat))=>(fun (i:Nat) (u:Nat) (cs:List Nat)=>u) fm.1 fm.2.1 fm.2.2) ((0,v,[])) (by dsimp only;exact ⟨Nat.zero_le _,by simp,rfl,by omega⟩) (hh:=((SubK.consI rfl ImpK.refl) ((SubK.consI rfl ImpK.refl) SubK.nil))) ?_
  intro fm hI
  obtain ⟨i,u,cs⟩:=fm
  replace hI:i≤(dig 65536 v).length∧u=v / 65536 ^ i∧cs=dgs 65536 i v∧u < 18446744073709551616:=hI
  show wc _ _ _ _ (upd (upd (upd (upd (fun _=>none) 0 (some (.val (tI n)))) 2 (some (.own (.ptr 2 0)))) 3 (some (.val (tE (.int .u64 ((u:Nat):Int)))))) 4 (some (.own (.sl 4 1 0 cs.length)))) (upd (upd (fun _=>none) 2 (some (⟨28,2,true,[.val (tWh ⟨false,[]⟩)]⟩))) 4 (some (⟨42,1,false,rW .u16 cs⟩))) _
  obtain ⟨hi,hu,hcs,hu64⟩:=hI
  have hcl:cs.length=i:=by rw [hcs,xf4]
  refine A7 ?_
  refine x8 rfl (fun h168=> ?_) (fun h168=> ?_)
  ·
   refine A7 ?_
   refine R2 (d_rem (r:=((u%65536:Nat):Int)) (by decide) (wrem64 (b:=65536))) rfl rfl (R1 (xa2 Tryz.underlying42 (isS Tryz.underlying68) (wu16 (by omega) (by omega))) rfl (R1 (xn3 (n:=1) [u%65536] Tryz.underlying26 el42 zf42 rfl rfl rfl) rfl (RE (xc5 (k:=4) (k':=18) (ts':=rW .u16 (cs++[u%65536])) Tryz.underlying26 el42 zf42 rfl rfl (fun _=>inferInstance) xn0 (by simp;omega) (by simp;omega) (by simp [rW]) (n':=cs.length+1) rfl) ⟨rfl,rfl,trivial⟩ ⟨rfl,trivial⟩ ⟨rfl,trivial⟩ ?_)))
   refine A5 ?_
   refine R2 (d_quo (r:=((u / 65536:Nat):Int)) (by decide) (wquo64 (b:=65536) (by omega))) rfl rfl ?_
   refine A3 ?_
   obtain ⟨n1,n2,n3⟩:=from_more hu (by omega)
   exact xe4 (l:=[2,4]) (fun j=>cond (Nat.beq j 4) 18 (j)) ((i+1,u / 65536,cs++[u%65536])) ⟨(by dsimp only;exact ⟨n1,n2,by rw [hcs];exact n3,by omega⟩),(by dsimp only;omega)⟩ ((SubR.consI rfl (Imp.of (by dsimp only;rw [List.length_append];rfl))) (SubR.int rfl (by first | omega | rfl | (dsimp only;omega)) (SubR.cons rfl (SubR.int rfl (by first | omega | rfl | (dsimp only;omega)) SubR.nil)))) ((SubKR.consI rfl (ImpK.of xh9.symm)) ((SubKR.consI rfl ImpK.refl) SubKR.nil)) (SupG.own rfl (SupG.val (SupG.own rfl (SupG.val SupG.nil)))) (SupH.cons rfl (supJ xf3) (SupH.cons rfl (supJL rfl) SupH.nil)) (lkOk rfl) rfl rfl (fun _ h=>by cases h)
  ·
   refine A9 ?_
   have hfin:cs=dig 65536 v:=by rw [hcs];exact from_end (by rw [←hu];omega) hi
   subst hfin
   refine RE (xg3 (f:=fun n:Nat=>tE (.int .u16 n)) (xs:=(dig 65536 v)) (fun _ h=>h) (xj6 rfl) rfl) ⟨rfl,trivial⟩ ⟨rfl,trivial⟩ trivial (R2 (x3 (xj4 _ v) fi203 rfl) rfl rfl ?_)
   refine A4 ?_
   exact xd6 Plain.mk' rfl ⟨_,_,_,_,_,rfl,rfl,ti28,(Le.of (by rw [wh_sgn,hv,wh];congr 2;by_cases h:n < 0 <;> simp [h];omega))⟩
instance fi204:FnI Tryz.prog 204:=⟨_,Tryz.func204,by kernel_rfl,rfl⟩
instance fi208:FnI Tryz.prog 208:=⟨_,Tryz.func208,by kernel_rfl,rfl⟩
instance fi209:FnI Tryz.prog 209:=⟨_,Tryz.func209,by kernel_rfl,rfl⟩
instance fi230:FnI Tryz.prog 230:=⟨_,Tryz.func230,by kernel_rfl,rfl⟩
instance fi231:FnI Tryz.prog 231:=⟨_,Tryz.func231,by kernel_rfl,rfl⟩
instance fi232:FnI Tryz.prog 232:=⟨_,Tryz.func232,by kernel_rfl,rfl⟩
theorem c_RPlusOne (q:Nat) (h:(dig 65536 q).length≤100000):Ct Tryz.prog 208 [tM q,tLm [1]] (tM (q+1)):=by
 have e:dig 65536 1=[1]:=by rw [xn1 xa0 (by decide),show (1:Nat) / 65536=0 by decide,xe1]
 have:=c_RPlus q 1 h (by rw [e];decide)
 rw [tM,tM,e] at this;exact this
theorem lenM {a b k:Nat} (h:a≤b) (hb:(dig 65536 b).length≤k):(dig 65536 a).length≤k:=Nat.le_trans (xf1 xa0 h) hb
theorem one_dec {l:List Nat} (h:l.length=1):decide (((l.getD 0 0:Nat):Int)=1)=decide (l=[1]):=by
 obtain ⟨a,rfl⟩:=List.length_eq_one_iff.1 h
 simp
 omega
theorem low_sgn {n d:Int} (hd:d≠0):fr (Rat.divInt n d)=⟨wh (sgn (!((wh n).neg==(wh d).neg)) (n.natAbs / Nat.gcd n.natAbs d.natAbs)),wh (sgn false (d.natAbs / Nat.gcd n.natAbs d.natAbs))⟩:=by
 have key: ∀(n d:Int),0 < d→fr (Rat.divInt n d)=⟨wh (sgn (decide (n < 0)) (n.natAbs / Nat.gcd n.natAbs d.natAbs)),wh (sgn false (d.natAbs / Nat.gcd n.natAbs d.natAbs))⟩:=fun n d h=>by
  rw [lowest_eq h]
  have hg:(Int.gcd n d:Nat)=Nat.gcd n.natAbs d.natAbs:=rfl
  rw [hg]
  have hdn:Nat.gcd n.natAbs d.natAbs ∣ n.natAbs:=Nat.gcd_dvd_left _ _
  have hdd:Nat.gcd n.natAbs d.natAbs ∣ d.natAbs:=Nat.gcd_dvd_right _ _
  generalize Nat.gcd n.natAbs d.natAbs=g at*
  have e2:d / (g:Int)=sgn false (d.natAbs / g):=by
   show _=((d.natAbs / g:Nat):Int)
   rw [Int.natCast_ediv];congr 1;omega
  have e1:n / (g:Int)=sgn (decide (n < 0)) (n.natAbs / g):=by
   by_cases hn:n < 0
   ·rw [decide_eq_true hn]
    show _= -((n.natAbs / g:Nat):Int)
    have:n= -(n.natAbs:Int):=by omega
    conv=>lhs;rw [this]
    rw [Int.neg_ediv_of_dvd (Int.natCast_dvd_natCast.2 hdn),Int.natCast_ediv]
   ·rw [decide_eq_false hn]
    show _=((n.natAbs / g:Nat):Int)
    rw [Int.natCast_ediv];congr 1;omega
  rw [e1,e2]
 rcases Int.lt_or_gt_of_ne hd with h | h
 ·have e:Rat.divInt n d=Rat.divInt (-n) (-d):=(Rat.neg_divInt_neg n d).symm
  rw [e,key (-n) (-d) (by omega),Int.natAbs_neg,Int.natAbs_neg]
  have e3:(wh d).neg=true:=decide_eq_true h
  have e4:(wh n).neg=decide (n < 0):=rfl
  rw [e3,e4]
  by_cases h0:n=0
  ·subst h0;simp [sgn]
  ·have:decide (-n < 0)= !(decide (n < 0)==true):=by
    by_cases hn:n < 0
    ·simp [hn];omega
    ·simp [hn];omega
   rw [this]
 ·rw [key n d h]
  have e3:(wh d).neg=false:=decide_eq_false (by omega)
  have e4:(wh n).neg=decide (n < 0):=rfl
  rw [e3,e4];simp
theorem xz4 (a b:Nat) (hb:0 < b) (ha:(dig 65536 a).length≤4000) (hbl:(dig 65536 b).length≤4000):
  Ct Tryz.prog 204 [tM a,tM b] (tT [tM (a / b),tM (a%b)]):=by
 refine Ct.intro Tryz.func204 rfl Tryz.ntmps204 rfl ?_
 intro w F
 refine A14 ?_
 refine x8 rfl (fun h103=> ?_) (fun h103=> ?_)
 ·
  have hb0:=one_limb (b:=b) (by omega)
  have hbW:=(xc6 xa0 b).getD (by decide) 0
  refine A4 ?_
  refine R2 (x6 sl26 (0) (by omega) (gN (by omega))) rfl rfl ?_
  refine A1 ?_
  refine R1 (xa2 Tryz.underlying3 (isS Tryz.underlying42) (wr64 (by omega) (by omega))) rfl (R2 (x3 (c_RShort a _ (by omega) (by omega) (by omega)) fi230 rfl) rfl rfl ?_)
  refine A8 ?_
  exact xc3 Plain.mk' rfl rfl rfl (Le.of (by rw [hb0])) (Le.of (by rw [hb0]))
 ·
  refine A15 ?_
  refine cL (fun (n:Nat)=>n=0∨b*2 ^ n≤a+a) (fun (n:Nat)=>upd (upd (upd (upd (fun _=>none) 0 (some (.val (tM a)))) 1 (some (.val (tM b)))) 6 (some (.val (tI n)))) 7 (some (.val (tM (b*2 ^ n))))) (fun (n:Nat)=>fun _=>none) [] (fun (n:Nat)=>a+1 - b*2 ^ n) (0) (.inl rfl) (hg:=(Sub.le rfl (Le.of (by first | rw [Nat.pow_zero,Nat.mul_one] | (dsimp only;rw [Nat.pow_zero,Nat.mul_one]))) (sI (sC (sC Sub.nil))))) ?_
  intro n hI
  have hn:n < 16*4001:=by
   rcases hI with h | h
   ·omega
   ·refine bits_le (a:=a+a) ?_ (by have:=len_dbl ha ha;omega)
    exact Nat.le_trans (Nat.le_mul_of_pos_left _ hb) h
  refine A5 ?_
  refine R2 (x3 (c_RLess a (b*2 ^ n)) fi231 rfl) rfl rfl ?_
  refine A3 ?_
  refine xd4 rfl (fun h107=> ?_) (fun h107=> ?_)
  ·
   have hle:b*2 ^ n≤a:=by
    have h:=h107
    simp at h;exact h
   have hnl:=lenM hle ha
   refine A7 ?_
   refine R2 (x3 (c_RPlus (b*2 ^ n) (b*2 ^ n) (by omega) (by omega)) fi208 rfl) rfl rfl ?_
   refine A9 ?_
   have he:b*2 ^ n+b*2 ^ n=b*2 ^ (n+1):=by rw [Nat.pow_succ,←Nat.mul_assoc,Nat.mul_two]
   have hp:0 < b*2 ^ n:=Nat.mul_pos hb (Nat.pow_pos (by decide))
   exact kF (n+1) ⟨(.inr (by omega)),(by show a+1 - b*2 ^ (n+1) < a+1 - b*2 ^ n;omega)⟩ (hg:=(Sub.le rfl (Le.of (by rw [he])) (sI (sC (sC Sub.nil)))))
  ·
   have hlt:a < b*2 ^ n:=by
    have h:=h107
    simp at h;exact h
   have hnl:(dig 65536 (b*2 ^ n)).length≤4001:=by
    rcases hI with h | h
    ·rw [h,Nat.pow_zero,Nat.mul_one];omega
    ·exact lenM h (len_dbl ha ha)
   refine A18 ?_
   refine cL (fun (i:Nat)=>i≤n) (fun (i:Nat)=>upd (upd (upd (upd (upd (fun _=>none) 0 (some (.val (tM a)))) 1 (some (.val (tM b)))) 6 (some (.val (tI n)))) 8 (some (.val (tM (b*2 ^ i))))) 9 (some (.val (tI i)))) (fun (i:Nat)=>fun _=>none) [] (fun (i:Nat)=>n - i) (0) (Nat.zero_le _) (hg:=(sI (Sub.le rfl (Le.of (by first | rw [Nat.pow_zero,Nat.mul_one] | (dsimp only;rw [Nat.pow_zero,Nat.mul_one]))) (sI (sC (sC Sub.nil)))))) ?_
   intro i hJ
   refine A8 ?_
   refine x8 rfl (fun h111=> ?_) (fun h111=> ?_)
   ·
    have hil:(dig 65536 (b*2 ^ i)).length≤4001:=lenM (Nat.mul_le_mul_left _ (Nat.pow_le_pow_right (by decide) (by omega))) hnl
    refine A7 ?_
    refine R2 (x3 (c_RPlus (b*2 ^ i) (b*2 ^ i) (by omega) (by omega)) fi208 rfl) rfl rfl ?_
    refine A9 ?_
    have he:b*2 ^ i+b*2 ^ i=b*2 ^ (i+1):=by rw [Nat.pow_succ,←Nat.mul_assoc,Nat.mul_two]
    exact kF (i+1) ⟨(by omega),(by omega)⟩ (hg:=(sI (Sub.le rfl (Le.of (by rw [he])) (sI (sC (sC Sub.nil))))))
   ·
    refine A12 ?_
    refine RE (xp1 (k:=43) (ents:=[]) Tryz.underlying26 el42 zf42 rfl (by simp) rfl rfl rfl) trivial trivial ⟨rfl,trivial⟩ ?_
    refine A1 ?_
    refine RE (xc5 (k:=43) (k':=45) (ts':=rW .u16 (dig 65536 a)) Tryz.underlying26 el42 zf42 rfl rfl (fun _=>inferInstance) rfl (by simp;omega) (by simp;omega) (by simp [rW]) (n':=(dig 65536 a).length) (by simp)) ⟨rfl,rfl,trivial⟩ ⟨rfl,trivial⟩ ⟨rfl,trivial⟩ (RE (xr2 (f:=fun n:Nat=>tE (.int .u16 n)) (xs:=dig 65536 a) (fun _ h=>h) (xj6 rfl) rfl) ⟨rfl,trivial⟩ ⟨rfl,trivial⟩ trivial ?_)
    refine A9 ?_
    refine cL (fun (fm:(Nat)×(Nat)×(Nat)×(Nat))=>(fun (j:Nat) (q:Nat) (r:Nat) (d:Nat)=>j≤n∧d=b*2 ^ (n - j)∧a=q*d+r∧r < d) fm.1 fm.2.1 fm.2.2.1 fm.2.2.2) (fun (fm:(Nat)×(Nat)×(Nat)×(Nat))=>(fun (j:Nat) (q:Nat) (r:Nat) (d:Nat)=>upd (upd (upd (upd (upd (fun _=>none) 6 (some (.val (tI n)))) 8 (some (.val (tM d)))) 10 (some (.val (tM q)))) 11 (some (.val (tM r)))) 12 (some (.val (tI j)))) fm.1 fm.2.1 fm.2.2.1 fm.2.2.2) (fun (fm:(Nat)×(Nat)×(Nat)×(Nat))=>(fun (j:Nat) (q:Nat) (r:Nat) (d:Nat)=>fun _=>none) fm.1 fm.2.1 fm.2.2.1 fm.2.2.2) [] (fun (fm:(Nat)×(Nat)×(Nat)×(Nat))=>(fun (j:Nat) (q:Nat) (r:Nat) (d:Nat)=>n - j) fm.1 fm.2.1 fm.2.2.1 fm.2.2.2) ((0,0,a,b*2 ^ n)) (by dsimp only;exact ⟨Nat.zero_le _,rfl,by omega,by omega⟩) (hg:=(sI (sC (Sub.le rfl (leNil (xe1 _)) (Sub.le rfl (Le.of (by first | rw [show i=n by omega] | (dsimp only;rw [show i=n by omega]))) (sI Sub.nil)))))) ?_
    intro fm hK
    obtain ⟨j,q,r,d⟩:=fm
    replace hK:j≤n∧d=b*2 ^ (n - j)∧a=q*d+r∧r < d:=hK
    show wc _ _ _ _ (upd (upd (upd (upd (upd (fun _=>none) 6 (some (.val (tI n)))) 8 (some (.val (tM d)))) 10 (some (.val (tM q)))) 11 (some (.val (tM r)))) 12 (some (.val (tI j)))) (fun _=>none) _
    obtain ⟨hj,hd,hq,hr⟩:=hK
    have hqa:q≤a:=by
     have h1:q*1≤q*d:=Nat.mul_le_mul_left _ (by omega)
     omega
    have hql:=lenM hqa ha
    have hdn:b*2 ^ (n - j)≤b*2 ^ n:=Nat.mul_le_mul_left _ (Nat.pow_le_pow_right (by decide) (by omega))
    have hdl:(dig 65536 d).length≤4001:=by rw [←hd] at hdn;exact lenM hdn hnl
    have hqq:=len_dbl hql hql
    refine A8 ?_
    refine x8 rfl (fun h116=> ?_) (fun h116=> ?_)
    ·
     refine A7 ?_
     refine R1 (x3 (c_RHalf d (by omega)) fi232 rfl) rfl ?_
     refine A7 ?_
     refine R2 (x3 (c_RPlus q q (by omega) (by omega)) fi208 rfl) rfl rfl ?_
     refine A7 ?_
     refine R2 (x3 (c_RLess r (d / 2)) fi231 rfl) rfl rfl ?_
     refine A3 ?_
     refine xd4 rfl (fun h119=> ?_) (fun h119=> ?_)
     ·
      have hge:d / 2≤r:=by
       have h:=h119
       simp at h;exact h
      refine A4 ?_
      refine R2 (x3 (c_RMinus r (d / 2) (by omega) (by have:=lenM (Nat.le_of_lt hr) hdl;omega)) fi209 rfl) rfl rfl ?_
      refine A5 ?_
      refine R1 (xn3 (n:=1) [1] Tryz.underlying26 el42 zf42 rfl rfl rfl) rfl (R2 (x3 (c_RPlusOne (q+q) (by omega)) fi208 rfl) rfl rfl ?_)
      refine A9 ?_
      obtain ⟨b1,b2,b3⟩:=div_bit (by omega) hd hq hr
      obtain ⟨b4,b5,b6⟩:=b3 (by omega)
      exact kF ((j+1,q+q+1,r - d / 2,d / 2)) ⟨(by dsimp only;exact ⟨by omega,b1,b4,b5⟩),(by dsimp only;omega)⟩
     ·
      have hge:r < d / 2:=by
       have h:=h119
       simp at h;exact h
      refine A8 ?_
      obtain ⟨b1,b2,b3⟩:=div_bit (by omega) hd hq hr
      exact kF ((j+1,q+q,r,d / 2)) ⟨(by dsimp only;exact ⟨by omega,b1,b2 (by omega),by omega⟩),(by dsimp only;omega)⟩
    ·
     have hdb:d=b:=by rw [hd,show n - j=0 by omega,Nat.pow_zero,Nat.mul_one]
     rw [hdb] at hq hr
     obtain ⟨e1,e2⟩:=div_done hq hr
     refine A14 ?_
     exact xc3 Plain.mk' rfl rfl rfl (Le.of (by rw [e1])) (Le.of (by rw [e2]))
theorem c_RCommon (a b:Nat) (ha:(dig 65536 a).length≤4000) (hb:(dig 65536 b).length≤4000):
  Ct Tryz.prog 140 [tM a,tM b] (tM (Nat.gcd a b)):=by
 refine Ct.intro Tryz.func140 rfl Tryz.ntmps140 rfl ?_
 intro w F
 refine A7 ?_
 refine cL (fun (fm:(Nat)×(Nat))=>(fun (x:Nat) (y:Nat)=>Nat.gcd x y=Nat.gcd a b∧(dig 65536 x).length≤4000∧(dig 65536 y).length≤4000) fm.1 fm.2) (fun (fm:(Nat)×(Nat))=>(fun (x:Nat) (y:Nat)=>upd (upd (fun _=>none) 0 (some (.val (tM x)))) 1 (some (.val (tM y)))) fm.1 fm.2) (fun (fm:(Nat)×(Nat))=>(fun (x:Nat) (y:Nat)=>fun _=>none) fm.1 fm.2) [] (fun (fm:(Nat)×(Nat))=>(fun (x:Nat) (y:Nat)=>y) fm.1 fm.2) ((a,b)) (by dsimp only;exact ⟨rfl,ha,hb⟩) ?_
 intro fm hI
 obtain ⟨x,y⟩:=fm
 replace hI:Nat.gcd x y=Nat.gcd a b∧(dig 65536 x).length≤4000∧(dig 65536 y).length≤4000:=hI
 show wc _ _ _ _ (upd (upd (fun _=>none) 0 (some (.val (tM x)))) 1 (some (.val (tM y)))) (fun _=>none) _
 obtain ⟨hg,hx,hy⟩:=hI
 refine A8 ?_
 refine x8 rfl (fun h261=> ?_) (fun h261=> ?_)
 ·
  have hy0:0 < y:=by have:=len_ne.1 h261;omega
  refine A7 ?_
  refine R2 (x3 (xz4 x y hy0 hx hy) fi204 rfl) rfl rfl ?_
  refine A18 ?_
  have hlt:x%y < y:=Nat.mod_lt _ hy0
  exact kF ((y,x%y)) ⟨(by dsimp only;exact ⟨by rw [Nat.gcd_comm,←Nat.gcd_rec,Nat.gcd_comm];exact hg,hy,lenM (Nat.le_of_lt hlt) hy⟩),(by dsimp only;omega)⟩
 ·
  have hy0:y=0:=Classical.byContradiction fun h=>h261 (len_ne.2 h)
  refine A12 ?_
  exact x4 Plain.mk' rfl rfl (Le.of (by rw [←hg,hy0,Nat.gcd_zero_right]))
theorem c_Rone (l:List Nat):
  Ct Tryz.prog 139 [tLm l] (tB (decide (l=[1]))):=by
 refine Ct.intro Tryz.func139 rfl Tryz.ntmps139 rfl ?_
 intro w F
 refine A11 ?_
 refine RGcaseD (t:=6) rfl (fun h24=> ?_) (fun h24=> ?_)
 ·
  refine A1 ?_
  refine RGon (decide_eq_true h24) rfl (x6 sl26 (0) (by omega) (gN (by omega))) rfl ⟨rfl,rfl,trivial⟩ trivial trivial ?_
  refine A7 ?_
  exact x4 Plain.mk' rfl rfl (Le.bool (one_dec (by omega)))
 ·
  refine A9 ?_
  exact x4 Plain.mk' rfl rfl (Le.bool (decide_eq_false (fun h=>h24 (by rw [h];rfl))).symm)
instance fi135:FnI Tryz.prog 135:=⟨_,Tryz.func135,by kernel_rfl,rfl⟩
instance fi136:FnI Tryz.prog 136:=⟨_,Tryz.func136,by kernel_rfl,rfl⟩
instance fi139:FnI Tryz.prog 139:=⟨_,Tryz.func139,by kernel_rfl,rfl⟩
instance fi140:FnI Tryz.prog 140:=⟨_,Tryz.func140,by kernel_rfl,rfl⟩
theorem c_RLowest (n d:Int) (hn:len16 n≤4000) (hd:len16 d≤4000) (hd0:d≠0):
  Ct Tryz.prog 135 [tWh (wh n),tWh (wh d)] (tFr (fr (Rat.divInt n d))):=by
 have hg0:0 < (Nat.gcd n.natAbs d.natAbs):=Nat.gcd_pos_of_pos_right _ (by omega)
 have hgl:=lenM (Nat.le_of_dvd (by omega) (Nat.gcd_dvd_right n.natAbs d.natAbs)) hd
 refine Ct.intro Tryz.func135 rfl Tryz.ntmps135 rfl ?_
 intro w F
 refine A4 ?_
 refine RE (x9 (k:=4) (n:=4) (agg:=true) zr30.1 zr30.2 rfl) trivial trivial ⟨rfl,trivial⟩ ?_
 refine A8 ?_
 refine R2 (x3 (c_RCommon n.natAbs d.natAbs hn hd) fi140 rfl) rfl rfl ?_
 refine A7 ?_
 refine R1 (x3 (c_Rone _) fi139 rfl) rfl ?_
 refine A2 ?_
 refine xd4 rfl (fun h15=> ?_) (fun h15=> ?_)
 ·
  have hg1:(Nat.gcd n.natAbs d.natAbs)=1:=by
   have h:=of_decide_eq_true h15
   rw [←xm5 xa0 (Nat.gcd n.natAbs d.natAbs),h];rfl
  refine A9 ?_
  refine R2 (x3 (xj4 (!((wh n).neg==(wh d).neg)) n.natAbs) fi203 rfl) rfl rfl ?_
  refine A2 ?_
  refine R2 (x3 (xj4 false d.natAbs) fi203 rfl) rfl rfl (R2 (xb8 (r:=tS [⟨2,true,tWh (wh (sgn (!((wh n).neg==(wh d).neg)) n.natAbs))⟩,⟨2,true,tWh (wh (sgn false d.natAbs))⟩]) (ts:=[(0,tWh (wh (sgn (!((wh n).neg==(wh d).neg)) n.natAbs))),(1,tWh (wh (sgn false d.natAbs)))]) bu30 zr30.2 (Bc 0 rfl rfl rfl (Bc 1 rfl rfl rfl Le.refl))) rfl rfl ?_)
  refine A5 ?_
  exact xd6 Plain.mk' rfl ⟨_,_,_,_,_,rfl,rfl,ti30,(Le.of (by rw [low_sgn hd0,hg1,Nat.div_one,Nat.div_one]))⟩
 ·
  refine A7 ?_
  refine R2 (x3 (xz4 n.natAbs (Nat.gcd n.natAbs d.natAbs) hg0 hn hgl) fi204 rfl) rfl rfl ?_
  refine A12 ?_
  refine R2 (x3 (xz4 d.natAbs (Nat.gcd n.natAbs d.natAbs) hg0 hd hgl) fi204 rfl) rfl rfl ?_
  refine A15 ?_
  refine R2 (x3 (xj4 (!((wh n).neg==(wh d).neg)) (n.natAbs / (Nat.gcd n.natAbs d.natAbs))) fi203 rfl) rfl rfl ?_
  refine A1 ?_
  refine R2 (x3 (xj4 false (d.natAbs / (Nat.gcd n.natAbs d.natAbs))) fi203 rfl) rfl rfl (R2 (xb8 (r:=tS [⟨2,true,tWh (wh (sgn (!((wh n).neg==(wh d).neg)) (n.natAbs / (Nat.gcd n.natAbs d.natAbs))))⟩,⟨2,true,tWh (wh (sgn false (d.natAbs / (Nat.gcd n.natAbs d.natAbs))))⟩]) (ts:=[(0,tWh (wh (sgn (!((wh n).neg==(wh d).neg)) (n.natAbs / (Nat.gcd n.natAbs d.natAbs))))),(1,tWh (wh (sgn false (d.natAbs / (Nat.gcd n.natAbs d.natAbs)))))]) bu30 zr30.2 (Bc 0 rfl rfl rfl (Bc 1 rfl rfl rfl Le.refl))) rfl rfl ?_)
  refine A4 ?_
  exact xd6 Plain.mk' rfl ⟨_,_,_,_,_,rfl,rfl,ti30,(Le.of (by rw [low_sgn hd0]))⟩
theorem c_RQuick (n d:Int) (hd0:d≠0) (h1: -9223372036854775808≤n) (h2:n≤9223372036854775807) (h3: -9223372036854775808≤d) (h4:d≤9223372036854775807):
  Ct Tryz.prog 70 [tI n,tI d] (tFr (fr (Rat.divInt n d))):=by
 have l1:=len16_64 h1 h2
 have l2:=len16_64 h3 h4
 refine Ct.intro Tryz.func70 rfl Tryz.ntmps70 rfl ?_
 intro w F
 refine A2 ?_
 refine RE (x9 (k:=4) (n:=4) (agg:=true) zr30.1 zr30.2 rfl) trivial trivial ⟨rfl,trivial⟩ ?_
 refine A5 ?_
 refine R1 (x3 (xw7 n h1 h2) fi136 rfl) rfl ?_
 refine A1 ?_
 refine R1 (x3 (xw7 d h3 h4) fi136 rfl) rfl (R2 (x3 (c_RLowest n d (by omega) (by omega) hd0) fi135 rfl) rfl rfl ?_)
 refine A4 ?_
 exact xd6 Plain.mk' rfl ⟨_,_,_,_,_,rfl,rfl,ti30,Le.refl⟩
theorem any_next {i:Nat} {f:Nat→Bool}:(List.range (i+1)).any f=((List.range i).any f || f i):=by
 rw [List.range_succ,List.any_append];simp
end An.S
namespace An
open Go
theorem mul_lt16 {x y:Nat} (hx:x < 65536) (hy:y < 65536):x*y≤4294836225:=by
 have:=Nat.mul_le_mul (show x≤65535 by omega) (show y≤65535 by omega)
 omega
theorem rtimes_in {b i j c x y s la:Nat} {w0 vs:List Nat} (hl:vs.length=la) (hD:Dig 65536 vs) (hw:w0.length=la) (hdr:vs.drop (i+j)=w0.drop (i+j)) (hij:i+j < la) (hc:c < 65536) (hx:x < 65536) (hy:y=b / 65536 ^ j%65536)
  (hs:s=x*y+vs.getD (i+j) 0+c) (h:val 65536 (vs.take (i+j))+c*65536 ^ (i+j)=val 65536 (w0.take (i+j))+x*65536 ^ i*(b%65536 ^ j)):
  (vs.set (i+j) (s%65536)).length=la∧Dig 65536 (vs.set (i+j) (s%65536))∧(vs.set (i+j) (s%65536)).drop (i+(j+1))=w0.drop (i+(j+1))∧s / 65536 < 65536∧
   val 65536 ((vs.set (i+j) (s%65536)).take (i+(j+1)))+s / 65536*65536 ^ (i+(j+1))=val 65536 (w0.take (i+(j+1)))+x*65536 ^ i*(b%65536 ^ (j+1)):=by
 have hyW:y < 65536:=by rw [hy];exact Nat.mod_lt _ (by decide)
 have hg:vs.getD (i+j) 0 < 65536:=hD.getD (by decide) _
 refine ⟨by simpa using hl,hD.set (Nat.mod_lt _ (by decide)),by rw [←Nat.add_assoc,xg0];exact xk4 hdr (by omega),?_,?_⟩
 ·have:=mul_lt16 hx hyW
  refine Nat.div_lt_of_lt_mul ?_
  show s < 65536*65536
  have:vs.getD (i+j) 0 < 65536:=hg
  have:c < 65536:=hc
  omega
 ·rw [←Nat.add_assoc,xg5 (by omega),xf6 _ w0 _ (by omega),←xj0 hdr (Nat.le_refl _)]
  exact mul_step h hs hy
theorem rtimes_out {a b i c la lb:Nat} {w0 vs:List Nat} (hi:i < la) (hw:w0.length=la+lb) (hl:vs.length=la+lb) (hD:Dig 65536 vs) (hdr:vs.drop (i+lb)=w0.drop (i+lb)) (hz:w0.drop (i+lb)=List.replicate (la - i) 0) (hc:c < 65536)
  (h0:val 65536 (w0.take (i+lb))=a%65536 ^ i*b) (hb:b < 65536 ^ lb) (h:val 65536 (vs.take (i+lb))+c*65536 ^ (i+lb)=val 65536 (w0.take (i+lb))+a / 65536 ^ i%65536*65536 ^ i*(b%65536 ^ lb)):
  (vs.set (i+lb) c).length=la+lb∧Dig 65536 (vs.set (i+lb) c)∧(vs.set (i+lb) c).drop (i+1+lb)=List.replicate (la - (i+1)) 0∧val 65536 ((vs.set (i+lb) c).take (i+1+lb))=a%65536 ^ (i+1)*b:=by
 refine ⟨by simpa using hl,hD.set hc,?_,?_⟩
 ·rw [show i+1+lb=i+lb+1 by omega,xg0,xk4 (j:=i+lb+1) hdr (by omega),←List.drop_drop,hz,List.drop_replicate];congr 1
 ·rw [show i+1+lb=i+lb+1 by omega,xg5 (by omega),Nat.mul_comm _ c,h,h0,xi9,Nat.mod_eq_of_lt hb,Nat.add_mul]
  congr 1
  rw [Nat.mul_comm (65536 ^ i)]
theorem rtimes_end {a b la lb:Nat} {ws:List Nat} (hl:ws.length=la+lb) (hD:Dig 65536 ws) (ha:a < 65536 ^ la) (h:val 65536 (ws.take (la+lb))=a%65536 ^ la*b):trimL ws=dig 65536 (a*b):=by
 rw [xf8 xa0 hD]
 rw [←hl,List.take_length,Nat.mod_eq_of_lt ha] at h
 rw [h]
end An
namespace An.S
open Go Go.Proofs An
instance fi71:FnI Tryz.prog 71:=⟨_,Tryz.func71,by kernel_rfl,rfl⟩
instance fi133:FnI Tryz.prog 133:=⟨_,Tryz.func133,by kernel_rfl,rfl⟩
instance fi134:FnI Tryz.prog 134:=⟨_,Tryz.func134,by kernel_rfl,rfl⟩
instance fi137:FnI Tryz.prog 137:=⟨_,Tryz.func137,by kernel_rfl,rfl⟩
instance fi138:FnI Tryz.prog 138:=⟨_,Tryz.func138,by kernel_rfl,rfl⟩
instance fi151:FnI Tryz.prog 151:=⟨_,Tryz.func151,by kernel_rfl,rfl⟩
instance fi202:FnI Tryz.prog 202:=⟨_,Tryz.func202,by kernel_rfl,rfl⟩
instance fi205:FnI Tryz.prog 205:=⟨_,Tryz.func205,by kernel_rfl,rfl⟩
instance fi228:FnI Tryz.prog 228:=⟨_,Tryz.func228,by kernel_rfl,rfl⟩
instance fi229:FnI Tryz.prog 229:=⟨_,Tryz.func229,by kernel_rfl,rfl⟩
instance fi233:FnI Tryz.prog 233:=⟨_,Tryz.func233,by kernel_rfl,rfl⟩
theorem c_RTimes (a b:Nat) (ha:(dig 65536 a).length≤100000) (hb:(dig 65536 b).length≤100000):
  Ct Tryz.prog 229 [tM a,tM b] (tM (a*b)):=by
 refine Ct.intro Tryz.func229 rfl Tryz.ntmps229 rfl ?_
 intro w F
 have hbW:=xh7 xa0 b
 refine A12 ?_
 refine RE (xg6 (k:=14) (t:=tE (.int .u16 0)) (ts:=rW .u16 (List.replicate (((dig 65536 a).length+(dig 65536 b).length)) 0)) (((dig 65536 a).length+(dig 65536 b).length)) (((dig 65536 a).length+(dig 65536 b).length)) Tryz.underlying26 el42 (fun _ _=>rfl) rfl (by omega) (by omega) (Nat.le_refl _) (by omega) (by omega) (xr1 _)) ⟨rfl,rfl,trivial⟩ trivial ⟨rfl,trivial⟩ ?_
 refine A10 ?_
 refine cL (fun (fm:(Nat)×(List Nat))=>(fun (i:Nat) (ws:List Nat)=>i≤(dig 65536 a).length∧ws.length=(dig 65536 a).length+(dig 65536 b).length∧Dig 65536 ws∧ws.drop (i+(dig 65536 b).length)=List.replicate ((dig 65536 a).length - i) 0∧val 65536 (ws.take (i+(dig 65536 b).length))=a%65536 ^ i*b) fm.1 fm.2) (fun (fm:(Nat)×(List Nat))=>(fun (i:Nat) (ws:List Nat)=>upd (upd (upd (upd (fun _=>none) 0 (some (.val (tM a)))) 1 (some (.val (tM b)))) 5 (some (.own (.sl 14 1 0 ((dig 65536 a).length+(dig 65536 b).length))))) 6 (some (.val (tI i)))) fm.1 fm.2) (fun (fm:(Nat)×(List Nat))=>(fun (i:Nat) (ws:List Nat)=>upd (fun _=>none) 14 (some (⟨42,1,false,rW .u16 ws⟩))) fm.1 fm.2) [14] (fun (fm:(Nat)×(List Nat))=>(fun (i:Nat) (ws:List Nat)=>(dig 65536 a).length - i) fm.1 fm.2) ((0,List.replicate ((dig 65536 a).length+(dig 65536 b).length) 0)) (by dsimp only;exact ⟨Nat.zero_le _,by simp,Dig.rep (by decide) _,by rw [List.drop_replicate];congr 1;omega,by rw [List.take_replicate,xh3,Nat.pow_zero,Nat.mod_one,Nat.zero_mul]⟩) (hh:=((SubK.consI rfl ImpK.refl) SubK.nil)) ?_
 intro fm hI
 obtain ⟨i,ws⟩:=fm
 replace hI:i≤(dig 65536 a).length∧ws.length=(dig 65536 a).length+(dig 65536 b).length∧Dig 65536 ws∧ws.drop (i+(dig 65536 b).length)=List.replicate ((dig 65536 a).length - i) 0∧val 65536 (ws.take (i+(dig 65536 b).length))=a%65536 ^ i*b:=hI
 show wc _ _ _ _ (upd (upd (upd (upd (fun _=>none) 0 (some (.val (tM a)))) 1 (some (.val (tM b)))) 5 (some (.own (.sl 14 1 0 ((dig 65536 a).length+(dig 65536 b).length))))) 6 (some (.val (tI i)))) (upd (fun _=>none) 14 (some (⟨42,1,false,rW .u16 ws⟩))) _
 obtain ⟨hi,hl,hD,hz,hv⟩:=hI
 have hx:=xd3 xa0 a i
 have hx1:=(xc6 xa0 a).getD (by omega) i
 refine A9 ?_
 refine x8 rfl (fun h66=> ?_) (fun h66=> ?_)
 ·
  refine A16 ?_
  refine cL (fun (fm:(Nat)×(List Nat)×(Nat))=>(fun (j:Nat) (vs:List Nat) (c:Nat)=>j≤(dig 65536 b).length∧vs.length=(dig 65536 a).length+(dig 65536 b).length∧Dig 65536 vs∧vs.drop (i+j)=ws.drop (i+j)∧c < 65536∧val 65536 (vs.take (i+j))+c*65536 ^ (i+j)=val 65536 (ws.take (i+j))+(dig 65536 a).getD i 0*65536 ^ i*(b%65536 ^ j)) fm.1 fm.2.1 fm.2.2) (fun (fm:(Nat)×(List Nat)×(Nat))=>(fun (j:Nat) (vs:List Nat) (c:Nat)=>upd (upd (upd (upd (upd (upd (fun _=>none) 0 (some (.val (tM a)))) 1 (some (.val (tM b)))) 5 (some (.own (.sl 14 1 0 ((dig 65536 a).length+(dig 65536 b).length))))) 6 (some (.val (tI i)))) 7 (some (.val (tI c)))) 8 (some (.val (tI j)))) fm.1 fm.2.1 fm.2.2) (fun (fm:(Nat)×(List Nat)×(Nat))=>(fun (j:Nat) (vs:List Nat) (c:Nat)=>upd (fun _=>none) 14 (some (⟨42,1,false,rW .u16 vs⟩))) fm.1 fm.2.1 fm.2.2) [14] (fun (fm:(Nat)×(List Nat)×(Nat))=>(fun (j:Nat) (vs:List Nat) (c:Nat)=>(dig 65536 b).length - j) fm.1 fm.2.1 fm.2.2) ((0,ws,0)) (by dsimp only;exact ⟨Nat.zero_le _,hl,hD,rfl,by omega,by rw [Nat.pow_zero,Nat.mod_one];omega⟩) (hh:=((SubK.consI rfl ImpK.refl) SubK.nil)) ?_
  intro fm hJ
  obtain ⟨j,vs,c⟩:=fm
  replace hJ:j≤(dig 65536 b).length∧vs.length=(dig 65536 a).length+(dig 65536 b).length∧Dig 65536 vs∧vs.drop (i+j)=ws.drop (i+j)∧c < 65536∧val 65536 (vs.take (i+j))+c*65536 ^ (i+j)=val 65536 (ws.take (i+j))+(dig 65536 a).getD i 0*65536 ^ i*(b%65536 ^ j):=hJ
  show wc _ _ _ _ (upd (upd (upd (upd (upd (upd (fun _=>none) 0 (some (.val (tM a)))) 1 (some (.val (tM b)))) 5 (some (.own (.sl 14 1 0 ((dig 65536 a).length+(dig 65536 b).length))))) 6 (some (.val (tI i)))) 7 (some (.val (tI c)))) 8 (some (.val (tI j)))) (upd (fun _=>none) 14 (some (⟨42,1,false,rW .u16 vs⟩))) _
  obtain ⟨hj,kl,kD,kdr,kc,kv⟩:=hJ
  have hy:=xd3 xa0 b j
  have hy1:=(xc6 xa0 b).getD (by omega) j
  have hw1:=kD.getD (by omega) (i+j)
  have hxy:=mul_lt16 hx1 hy1
  refine A9 ?_
  refine x8 rfl (fun h68=> ?_) (fun h68=> ?_)
  ·
   refine A9 ?_
   refine R2 (x6 sl26 (i) (by omega) (gN (by omega))) rfl rfl ?_
   refine A1 ?_
   refine R1 (xa2 Tryz.underlying3 (isS Tryz.underlying42) (wr64 (by omega) (by omega))) rfl ?_
   refine A2 ?_
   refine R2 (x6 sl26 (j) (by omega) (gN (by omega))) rfl rfl ?_
   refine A1 ?_
   refine R1 (xa2 Tryz.underlying3 (isS Tryz.underlying42) (wr64 (by omega) (by omega))) rfl (R2 (xk0 (r:=(((dig 65536 a).getD i 0*(dig 65536 b).getD j 0:Nat):Int)) (by rw [←Int.natCast_mul,wr64 (by omega) (by omega)])) rfl rfl (R2 (xc8 (r:=((c+(dig 65536 a).getD i 0*(dig 65536 b).getD j 0:Nat):Int)) (by rw [wr64 (by omega) (by omega)];omega)) rfl rfl ?_))
   refine A4 ?_
   refine R2 (xa4 sl26 (by omega) (by omega) rfl) rfl rfl (RE (xb7 (i+j) ti42 (xq1 (by omega)) (by omega)) ⟨rfl,trivial⟩ ⟨rfl,trivial⟩ trivial (R1 (xa2 Tryz.underlying3 (isS Tryz.underlying42) (wr64 (by omega) (by omega))) rfl (R2 (xc8 (r:=(((c+(dig 65536 a).getD i 0*(dig 65536 b).getD j 0+vs.getD (i+j) 0):Nat):Int)) (by rw [wr64 (by omega) (by omega)];omega)) rfl rfl ?_)))
   refine A10 ?_
   refine R2 (d_rem (r:=(((c+(dig 65536 a).getD i 0*(dig 65536 b).getD j 0+vs.getD (i+j) 0)%65536:Nat):Int)) (by decide) (wrem64 (b:=65536))) rfl rfl (R1 (xa2 Tryz.underlying42 (isS Tryz.underlying3) (wu16 (by omega) (by omega))) rfl (R2 (xa4 sl26 (by omega) (by omega) rfl) rfl rfl (RE (xc9 (i+j) ti42 (xk7 (by omega)) (by omega) (xi5 (m:=_) rfl)) ⟨rfl,rfl,trivial⟩ ⟨rfl,trivial⟩ trivial ?_)))
   refine A4 ?_
   refine R2 (d_quo (r:=(((c+(dig 65536 a).getD i 0*(dig 65536 b).getD j 0+vs.getD (i+j) 0) / 65536:Nat):Int)) (by decide) (iquo64 (b:=65536) (by omega))) rfl rfl ?_
   refine A9 ?_
   obtain ⟨n1,n2,n3,n4,n5⟩:=rtimes_in (s:=(c+(dig 65536 a).getD i 0*(dig 65536 b).getD j 0+vs.getD (i+j) 0)) kl kD hl kdr (by omega) kc hx1 hy (by omega) kv
   exact kF ((j+1,vs.set (i+j) ((c+(dig 65536 a).getD i 0*(dig 65536 b).getD j 0+vs.getD (i+j) 0)%65536),(c+(dig 65536 a).getD i 0*(dig 65536 b).getD j 0+vs.getD (i+j) 0) / 65536)) ⟨(by dsimp only;exact ⟨by omega,n1,n2,n3,n4,n5⟩),(by dsimp only;omega)⟩ (hh:=((SubK.consI rfl ImpK.refl) SubK.nil))
  ·
   have hjb:j=(dig 65536 b).length:=by omega
   refine A12 ?_
   refine R1 (xa2 Tryz.underlying42 (isS Tryz.underlying3) (wu16 (by omega) (by omega))) rfl (R2 (xa4 sl26 (by omega) (by omega) rfl) rfl rfl (RE (xc9 (i+(dig 65536 b).length) ti42 (xk7 (by omega)) (by omega) (xi5 (m:=_) rfl)) ⟨rfl,rfl,trivial⟩ ⟨rfl,trivial⟩ trivial ?_))
   refine A8 ?_
   obtain ⟨n1,n2,n3,n4⟩:=rtimes_out (by omega) hl kl kD (by rw [←hjb];exact kdr) hz kc hv hbW (by rw [←hjb,←hx];exact kv)
   exact kF ((i+1,vs.set (i+(dig 65536 b).length) c)) ⟨(by dsimp only;exact ⟨by omega,n1,n2,n3,n4⟩),(by dsimp only;omega)⟩ (hh:=((SubK.consI rfl ImpK.refl) SubK.nil))
 ·
  refine A7 ?_
  refine RE (xg3 (f:=fun n:Nat=>tE (.int .u16 n)) (xs:=ws) (fun _ h=>h) (xj6 hl) hl) ⟨rfl,trivial⟩ ⟨rfl,trivial⟩ trivial (R1 (x3 (c_RTrim _) fi235 rfl) rfl ?_)
  refine A4 ?_
  exact x4 Plain.mk' rfl rfl (Le.of (congrArg tLm (rtimes_end hl hD (xh7 xa0 a) (by rw [←show i=(dig 65536 a).length by omega];exact hv))))
theorem c_RValid (x:Wh):
  Ct Tryz.prog 137 [tWh x] (tB x.valid):=by
 refine Ct.intro Tryz.func137 rfl Tryz.ntmps137 rfl ?_
 intro w F
 refine A15 ?_
 refine x8 rfl (fun h142=> ?_) (fun h142=> ?_)
 ·
  refine A10 ?_
  exact x4 Plain.mk' rfl rfl (Le.bool (by simp only [Wh.valid];rw [if_pos (by omega)]))
 ·
  refine A3 ?_
  refine xj2 (s:=4) rfl (fun hl4=> ?_)
  refine A6 ?_
  refine RGcaseD (t:=14) rfl (fun h145=> ?_) (fun h145=> ?_)
  ·
   refine A5 ?_
   refine RGon (decide_eq_true h145) rfl (xe6 (wr64 (by omega) (by omega))) rfl ⟨rfl,rfl,trivial⟩ trivial trivial (RGon (decide_eq_true h145) rfl (x6 sl26 (x.l.length - 1) (by omega) (gN (by omega))) rfl ⟨rfl,rfl,trivial⟩ trivial trivial ?_)
   refine A7 ?_
   exact x4 Plain.mk' rfl rfl (Le.bool (by simp only [Wh.valid];rw [if_neg (by omega),decide_eq_true (show x.l.length≤1024 by omega),Bool.true_and];exact decide_eq_decide.2 (by omega)))
  ·
   refine A14 ?_
   exact x4 Plain.mk' rfl rfl (Le.bool (by simp only [Wh.valid];rw [if_neg (by omega),decide_eq_false (show ¬x.l.length≤1024 by omega),Bool.false_and]))
theorem rsum1 {x y:Int} (h:((wh x).neg==(wh y).neg)=true):sgn (wh x).neg (x.natAbs+y.natAbs)=x+y:=by
 have h:decide (x < 0)=decide (y < 0):=eq_of_beq h
 show sgn (decide (x < 0)) _=_
 by_cases hx:x < 0 <;> by_cases hy:y < 0 <;> simp [hx,hy] at h <;> simp [sgn,hx] <;> omega
theorem rsum2 {x y:Int} (h:((wh x).neg==(wh y).neg)=false) (hl:x.natAbs < y.natAbs):sgn (wh y).neg (y.natAbs - x.natAbs)=x+y:=by
 have h:(decide (x < 0)==decide (y < 0))=false:=h
 show sgn (decide (y < 0)) _=_
 by_cases hx:x < 0 <;> by_cases hy:y < 0 <;> simp [hx,hy] at h <;> simp [sgn,hy] <;> omega
theorem rsum3 {x y:Int} (h:((wh x).neg==(wh y).neg)=false) (hl: ¬x.natAbs < y.natAbs):sgn (wh x).neg (x.natAbs - y.natAbs)=x+y:=by
 have h:(decide (x < 0)==decide (y < 0))=false:=h
 show sgn (decide (x < 0)) _=_
 by_cases hx:x < 0 <;> by_cases hy:y < 0 <;> simp [hx,hy] at h <;> simp [sgn,hx] <;> omega
theorem rneg1 {x:Int}:sgn (!(wh x).neg) x.natAbs= -x:=by
 show sgn (!decide (x < 0)) _=_
 by_cases hx:x < 0 <;> simp [sgn,hx] <;> omega
theorem c_RValidV (z:Int) (h:len16 z≤1024):Ct Tryz.prog 137 [tWh (wh z)] (tB true):=by
 have:=c_RValid (wh z)
 rw [xt7 h] at this;exact this
theorem len_nil {x:Int}:(wh x).l.length=0↔x=0:=by
 show (dig 65536 x.natAbs).length=0↔_
 rw [List.length_eq_zero_iff,xj1 xa0];omega
theorem c_RSum (x y:Int) (hx:len16 x≤4001) (hy:len16 y≤4001):
  Ct Tryz.prog 228 [tWh (wh x),tWh (wh y)] (tWh (wh (x+y))):=by
 refine Ct.intro Tryz.func228 rfl Tryz.ntmps228 rfl ?_
 intro w F
 refine A4 ?_
 refine RE (x9 (k:=4) (n:=2) (agg:=true) zr28.1 zr28.2 rfl) trivial trivial ⟨rfl,trivial⟩ ?_
 refine A12 ?_
 refine xd4 rfl (fun h198=> ?_) (fun h198=> ?_)
 ·
  refine A8 ?_
  refine R2 (x3 (c_RPlus x.natAbs y.natAbs (by show len16 x≤100000;omega) (by show len16 y≤100000;omega)) fi208 rfl) rfl rfl (R2 (x3 (xj4 _ _) fi203 rfl) rfl rfl ?_)
  refine A5 ?_
  exact xd6 Plain.mk' rfl ⟨_,_,_,_,_,rfl,rfl,ti28,(Le.of (by rw [rsum1 h198]))⟩
 ·
  refine A9 ?_
  refine R2 (x3 (c_RLess x.natAbs y.natAbs) fi231 rfl) rfl rfl ?_
  refine A2 ?_
  refine x8 rfl (fun h201=> ?_) (fun h201=> ?_)
  ·
   refine A8 ?_
   refine R2 (x3 (c_RMinus y.natAbs x.natAbs (by omega) (by show len16 y≤100000;omega)) fi209 rfl) rfl rfl (R2 (x3 (xj4 _ _) fi203 rfl) rfl rfl ?_)
   refine A5 ?_
   exact xd6 Plain.mk' rfl ⟨_,_,_,_,_,rfl,rfl,ti28,(Le.of (by rw [rsum2 h198 h201]))⟩
  ·
   refine A10 ?_
   refine R2 (x3 (c_RMinus x.natAbs y.natAbs (by omega) (by show len16 x≤100000;omega)) fi209 rfl) rfl rfl (R2 (x3 (xj4 _ _) fi203 rfl) rfl rfl ?_)
   refine A4 ?_
   exact xd6 Plain.mk' rfl ⟨_,_,_,_,_,rfl,rfl,ti28,(Le.of (by rw [rsum3 h198 h201]))⟩
theorem c_RNeg (x:Int):
  Ct Tryz.prog 233 [tWh (wh x)] (tWh (wh (-x))):=by
 refine Ct.intro Tryz.func233 rfl Tryz.ntmps233 rfl ?_
 intro w F
 refine A3 ?_
 refine RE (x9 (k:=2) (n:=2) (agg:=true) zr28.1 zr28.2 rfl) trivial trivial ⟨rfl,trivial⟩ ?_
 refine A9 ?_
 refine R2 (x3 (xj4 _ x.natAbs) fi203 rfl) rfl rfl ?_
 refine A4 ?_
 exact xd6 Plain.mk' rfl ⟨_,_,_,_,_,rfl,rfl,ti28,(Le.of (by rw [rneg1]))⟩
theorem xp6 (x y:Int) (hx:len16 x≤4001) (hy:len16 y≤4001):
  Ct Tryz.prog 202 [tWh (wh x),tWh (wh y)] (tWh (wh (x*y))):=by
 refine Ct.intro Tryz.func202 rfl Tryz.ntmps202 rfl ?_
 intro w F
 refine A4 ?_
 refine RE (x9 (k:=4) (n:=2) (agg:=true) zr28.1 zr28.2 rfl) trivial trivial ⟨rfl,trivial⟩ ?_
 refine A13 ?_
 refine R2 (x3 (c_RTimes x.natAbs y.natAbs (by show len16 x≤100000;omega) (by show len16 y≤100000;omega)) fi229 rfl) rfl rfl (R2 (x3 (xj4 _ _) fi203 rfl) rfl rfl ?_)
 refine A4 ?_
 exact xd6 Plain.mk' rfl ⟨_,_,_,_,_,rfl,rfl,ti28,(Le.of (by rw [sgn_mul]))⟩
theorem c_RFloor (x y:Int) (hx:len16 x≤4000) (hy:len16 y≤4000) (hy0:0 < y):
  Ct Tryz.prog 151 [tWh (wh x),tWh (wh y)] (tT [tWh (wh (x / y)),tWh (wh (x%y))]):=by
 have hrl:x.natAbs%y.natAbs < y.natAbs:=Nat.mod_lt _ (by omega)
 have ey:(wh y).neg=false:=decide_eq_false (by omega)
 have ex:(wh x).neg=decide (x < 0):=rfl
 have hql:(dig 65536 (x.natAbs / y.natAbs)).length≤4000:=lenM (Nat.div_le_self _ _) hx
 refine Ct.intro Tryz.func151 rfl Tryz.ntmps151 rfl ?_
 intro w F
 refine A4 ?_
 refine RE (x9 (k:=4) (n:=2) (agg:=true) zr28.1 zr28.2 rfl) trivial trivial ⟨rfl,trivial⟩ (RE (x9 (k:=5) (n:=2) (agg:=true) zr28.1 zr28.2 rfl) trivial trivial ⟨rfl,trivial⟩ ?_)
 refine A8 ?_
 refine R2 (x3 (xz4 x.natAbs y.natAbs (by omega) hx hy) fi204 rfl) rfl rfl ?_
 refine A16 ?_
 refine RGcase (t:=21) rfl (fun h240=> ?_) (fun h240=> ?_)
 ·
  have hxn:decide (x < 0)=true:=by have h:=h240;rw [ey,ex] at h;simpa using h
  refine A6 ?_
  refine x8 rfl (fun h240_2=> ?_) (fun h240_2=> ?_)
  ·
   have hr0:x.natAbs%y.natAbs≠0:=fun h=>by rw [h,xe1] at h240_2;simp at h240_2
   have hQR:=dm_quo hy0 (Q:=(x.natAbs / y.natAbs+1)) (R:=(y.natAbs - x.natAbs%y.natAbs)) ⟨fun _=>⟨rfl,rfl⟩,fun h=>(h ⟨hxn,hr0⟩).elim⟩
   refine A3 ?_
   refine R1 (xn3 (n:=1) [1] Tryz.underlying26 el42 zf42 rfl rfl rfl) rfl (R2 (x3 (c_RPlusOne (x.natAbs / y.natAbs) (by omega)) fi208 rfl) rfl rfl ?_)
   refine A7 ?_
   refine R2 (x3 (c_RMinus y.natAbs (x.natAbs%y.natAbs) (by omega) (by show len16 y≤100000;omega)) fi209 rfl) rfl rfl ?_
   refine A11 ?_
   refine R2 (x3 (xj4 _ (x.natAbs / y.natAbs+1)) fi203 rfl) rfl rfl ?_
   refine A3 ?_
   refine R2 (x3 (xj4 _ (y.natAbs - x.natAbs%y.natAbs)) fi203 rfl) rfl rfl ?_
   refine A5 ?_
   exact xb9 Plain.mk' (rs:=[.cell 4 28,.cell 5 28]) rfl rfl ⟨⟨_,_,_,_,_,rfl,rfl,ti28,(Le.of (by rw [hQR.1]))⟩,⟨_,_,_,_,_,rfl,rfl,ti28,(Le.of (by rw [hQR.2]))⟩,trivial⟩
  ·
   have hr0:x.natAbs%y.natAbs=0:=(xj1 xa0).1 (List.length_eq_zero_iff.1 (by omega))
   have hQR:=dm_quo hy0 (Q:=(x.natAbs / y.natAbs)) (R:=(x.natAbs%y.natAbs)) ⟨fun h=>(h.2 hr0).elim,fun _=>⟨rfl,rfl⟩⟩
   refine A10 ?_
   refine R2 (x3 (xj4 _ (x.natAbs / y.natAbs)) fi203 rfl) rfl rfl ?_
   refine A3 ?_
   refine R2 (x3 (xj4 _ (x.natAbs%y.natAbs)) fi203 rfl) rfl rfl ?_
   refine A5 ?_
   exact xb9 Plain.mk' (rs:=[.cell 4 28,.cell 5 28]) rfl rfl ⟨⟨_,_,_,_,_,rfl,rfl,ti28,(Le.of (by rw [hQR.1]))⟩,⟨_,_,_,_,_,rfl,rfl,ti28,(Le.of (by rw [hQR.2]))⟩,trivial⟩
 ·
  have hxn: ¬decide (x < 0)=true:=by have h:=h240;rw [ey,ex] at h;simpa using h
  have hQR:=dm_quo hy0 (Q:=(x.natAbs / y.natAbs)) (R:=(x.natAbs%y.natAbs)) ⟨fun h=>(hxn h.1).elim,fun _=>⟨rfl,rfl⟩⟩
  refine A17 ?_
  refine R2 (x3 (xj4 _ (x.natAbs / y.natAbs)) fi203 rfl) rfl rfl ?_
  refine A3 ?_
  refine R2 (x3 (xj4 _ (x.natAbs%y.natAbs)) fi203 rfl) rfl rfl ?_
  refine A5 ?_
  exact xb9 Plain.mk' (rs:=[.cell 4 28,.cell 5 28]) rfl rfl ⟨⟨_,_,_,_,_,rfl,rfl,ti28,(Le.of (by rw [hQR.1]))⟩,⟨_,_,_,_,_,rfl,rfl,ti28,(Le.of (by rw [hQR.2]))⟩,trivial⟩
theorem c_RInt (z:Int) (hz:len16 z≤1024):
  Ct Tryz.prog 82 [tWh (wh z)] (tT [tI (if fits z then z else 0),tI (if fits z then 0 else 3)]):=by
 have hzl:(wh z).l.length≤1024:=hz
 have hD:Dig 65536 (wh z).l:=xc6 xa0 _
 refine Ct.intro Tryz.func82 rfl Tryz.ntmps82 rfl ?_
 intro w F
 refine A11 ?_
 refine R1 (x3 (c_RValidV z hz) fi137 rfl) rfl ?_
 refine A15 ?_
 refine x8 rfl (fun h180=> ?_) (fun h180=> ?_)
 ·
  have hf:fits z=false:=fits_len (by show 4 < (wh z).l.length;omega)
  refine A8 ?_
  exact xc3 Plain.mk' rfl rfl rfl (Le.int (by rw [hf];rfl)) (Le.int (by rw [hf];rfl))
 ·
  have hlt:z.natAbs < 18446744073709551616:=len_fits (by show (wh z).l.length≤4;omega)
  have hl4:(wh z).l.length≤4:=by omega
  refine A18 ?_
  refine cL (fun (k:Nat)=>k≤(wh z).l.length) (fun (k:Nat)=>upd (upd (upd (fun _=>none) 1 (some (.own (.ptr 1 0)))) 4 (some (.val (tE (.int .u64 ((val 65536 ((wh z).l.drop k):Nat):Int)))))) 5 (some (.val (tI ((k:Int) - 1))))) (fun (k:Nat)=>upd (fun _=>none) 1 (some (⟨28,2,true,[.val (tWh (wh z))]⟩))) [1] (fun (k:Nat)=>k) ((wh z).l.length) (Nat.le_refl _) (hg:=(sI (Sub.le rfl (Le.int (by rw [List.drop_length];rfl)) (sC Sub.nil)))) (hh:=((SubK.consI rfl ImpK.refl) SubK.nil)) ?_
  intro k hI
  refine A7 ?_
  refine x8 rfl (fun h184=> ?_) (fun h184=> ?_)
  ·
   obtain ⟨j,rfl⟩: ∃j,k=j+1:=⟨k - 1,by omega⟩
   have hv:=xq0 (hD.drop (j+1))
   rw [List.length_drop] at hv
   have hk1:65536 ^ ((wh z).l.length - (j+1))≤65536 ^ 3:=Nat.pow_le_pow_right (by decide) (by omega)
   have hw:=hD.getD (by decide) j
   have hst:=xm2 65536 (wh z).l j (by omega)
   rw [Nat.mul_comm] at hst
   have hv48:val 65536 ((wh z).l.drop (j+1)) < 281474976710656:=by omega
   refine A6 ?_
   refine R2 (xk0 (r:=((val 65536 ((wh z).l.drop (j+1))*65536:Nat):Int)) (by rw [wu64 (by omega) (by omega)];omega)) rfl rfl ?_
   refine A3 ?_
   refine R2 (x6 sl26 (j) (by omega) (gN (by omega))) rfl rfl ?_
   refine A1 ?_
   refine R1 (xa2 Tryz.underlying68 (isS Tryz.underlying42) (by first | exact wu64 (by omega) (by omega) | exact mu64)) rfl (R2 (xc8 (r:=((val 65536 ((wh z).l.drop (j+1))*65536+(wh z).l.getD j 0:Nat):Int)) (by rw [wu64 (by omega) (by omega)];omega)) rfl rfl ?_)
   refine A9 ?_
   exact kF (j) ⟨(by omega),(by omega)⟩ (hg:=(sI (Sub.le rfl (Le.int (by rw [hst,Nat.add_comm])) (sC Sub.nil)))) (hh:=((SubK.consI rfl ImpK.refl) SubK.nil))
  ·
   refine A7 ?_
   have hk0:k=0:=by omega
   subst hk0
   have hval:val 65536 ((wh z).l.drop 0)=z.natAbs:=by rw [List.drop_zero];exact xm5 xa0 _
   rw [hval]
   refine A4 ?_
   refine RGcase (t:=32) rfl (fun h187=> ?_) (fun h187=> ?_)
   ·
    have hz0:z < 0:=of_decide_eq_true h187
    refine A5 ?_
    refine x8 rfl (fun h187_2=> ?_) (fun h187_2=> ?_)
    ·
     have hf:fits z=true:=by simp only [fits,Bool.and_eq_true,decide_eq_true_eq];omega
     refine A3 ?_
     refine R1 (d_neg (negU64 (by omega))) rfl (R1 (xa2 Tryz.underlying3 (isS Tryz.underlying68) (toI64 (Nat.mod_lt _ (by decide)))) rfl ?_)
     refine A6 ?_
     exact xc3 Plain.mk' rfl rfl rfl (Le.int (by rw [hf];simp only [↓reduceIte];split <;> omega)) (Le.int (by rw [hf];rfl))
    ·
     have hf:fits z=false:=by simp only [fits,Bool.and_eq_false_iff,decide_eq_false_iff_not];omega
     refine A9 ?_
     refine RGoff (by simp [h187]) rfl rfl (RGoff (by simp [h187]) rfl rfl (R2 (xc7 (by simp [h187])) rfl rfl ?_))
     refine A12 ?_
     exact xc3 Plain.mk' rfl rfl rfl (Le.int (by rw [hf];rfl)) (Le.int (by rw [hf];rfl))
   ·
    have hz0: ¬z < 0:=of_decide_eq_false h187
    refine A15 ?_
    refine RGon (by simp [h187]) rfl x5 rfl ⟨rfl,trivial⟩ trivial trivial (RGon (by simp [h187]) rfl d_lss rfl ⟨rfl,rfl,trivial⟩ trivial trivial (R2 (xe3 (by simp [h187])) rfl rfl ?_))
    refine A2 ?_
    refine x8 rfl (fun h190_2=> ?_) (fun h190_2=> ?_)
    ·
     have hf:fits z=true:=by simp only [fits,Bool.and_eq_true,decide_eq_true_eq];omega
     refine A3 ?_
     refine R1 (xa2 Tryz.underlying3 (isS Tryz.underlying68) (toI64 (by omega))) rfl ?_
     refine A6 ?_
     exact xc3 Plain.mk' rfl rfl rfl (Le.int (by rw [hf];simp only [↓reduceIte];split <;> omega)) (Le.int (by rw [hf];rfl))
    ·
     have hf:fits z=false:=by simp only [fits,Bool.and_eq_false_iff,decide_eq_false_iff_not];omega
     refine A9 ?_
     exact xc3 Plain.mk' rfl rfl rfl (Le.int (by rw [hf];rfl)) (Le.int (by rw [hf];rfl))
theorem c_ROrder (x y:Int) (hx:len16 x≤4000) (hy:len16 y≤4000):
  Ct Tryz.prog 205 [tWh (wh x),tWh (wh y)] (tI (cmpZ x y)):=by
 have hny:=len16_neg y
 refine Ct.intro Tryz.func205 rfl Tryz.ntmps205 rfl ?_
 intro w F
 refine A11 ?_
 refine R1 (x3 (c_RNeg y) fi233 rfl) rfl (R2 (x3 (c_RSum x (-y) (by omega) (by omega)) fi228 rfl) rfl rfl (RE (x9 (k:=5) (n:=2) (agg:=true) zr28.1 zr28.2 rfl) trivial trivial ⟨rfl,trivial⟩ ?_))
 refine A10 ?_
 refine xd4 rfl (fun h280=> ?_) (fun h280=> ?_)
 ·
  have hlt:x+ -y < 0:=of_decide_eq_true h280
  refine A7 ?_
  exact x4 Plain.mk' rfl rfl (Le.int (by rw [cmpZ,if_pos (by omega)]))
 ·
  have hlt: ¬x+ -y < 0:=of_decide_eq_false h280
  refine A11 ?_
  refine x8 rfl (fun h283=> ?_) (fun h283=> ?_)
  ·
   have hne:x+ -y≠0:=fun h=>by have:=len_nil.2 h;omega
   refine A7 ?_
   exact x4 Plain.mk' rfl rfl (Le.int (by rw [cmpZ,if_neg (by omega),if_neg (by omega)]))
  ·
   have hne:x+ -y=0:=len_nil.1 (by omega)
   refine A8 ?_
   exact x4 Plain.mk' rfl rfl (Le.int (by rw [cmpZ,if_neg (by omega),if_pos (by omega)]))
theorem c_RFits (f:Fr):
  Ct Tryz.prog 138 [tFr f] (tB f.sh):=by
 refine Ct.intro Tryz.func138 rfl Tryz.ntmps138 rfl ?_
 intro w F
 refine A10 ?_
 refine xh1 (0) ti26 rfl rfl rfl (At.t (At.g 0 rfl rfl) (At.g 1 rfl rfl)) rfl ?_
 refine A3 ?_
 refine RGcaseD (t:=8) rfl (fun h27=> ?_) (fun h27=> ?_)
 ·
  refine A2 ?_
  refine xd0 (decide_eq_true h27) rfl rfl (0) ti26 rfl rfl rfl (At.t (At.g 1 rfl rfl) (At.g 1 rfl rfl)) rfl ?_
  refine A7 ?_
  exact x4 Plain.mk' rfl rfl (Le.bool (by rw [Fr.sh,decide_eq_true (show f.n.l.length≤256 by omega),Bool.true_and];exact decide_eq_decide.2 (by omega)))
 ·
  refine A10 ?_
  exact x4 Plain.mk' rfl rfl (Le.bool (by rw [Fr.sh,decide_eq_false (show ¬f.n.l.length≤256 by omega)];rfl))
theorem one_dec2 {x y:Int}:decide (dig 65536 (Nat.gcd x.natAbs y.natAbs)=[1])=decide (Int.gcd x y=1):=by
 have h1:dig 65536 1=[1]:=by rw [xn1 xa0 (by decide),show (1:Nat) / 65536=0 by decide,xe1]
 refine decide_eq_decide.2 ⟨fun h=> ?_,fun h=> ?_⟩
 ·rw [←h1] at h
  have h2:=congrArg (val 65536) h
  rw [xm5 xa0,xm5 xa0] at h2
  exact h2
 ·have h:Nat.gcd x.natAbs y.natAbs=1:=h
  rw [h,h1]
theorem prod_fr {a b:Rat}:Rat.divInt (a.num*b.num) ((a.den:Int)*(b.den:Int))=a*b:=by
 rw [Rat.mul_def,←Int.natCast_mul,Rat.divInt_ofNat,Rat.normalize_eq_mkRat]
theorem xq6 (f:Fr) (hn:Dig 65536 f.n.l) (hd:Dig 65536 f.d.l):
  Ct Tryz.prog 71 [tFr f] (tB f.valid):=by
 obtain ⟨n,d⟩:=f
 replace hn:Dig 65536 n.l:=hn
 replace hd:Dig 65536 d.l:=hd
 refine Ct.intro Tryz.func71 rfl Tryz.ntmps71 rfl ?_
 intro w F
 refine A11 ?_
 refine R1 (x3 (c_RValid n) fi137 rfl) rfl ?_
 refine A2 ?_
 refine RGcase (t:=7) rfl (fun h39=> ?_) (fun h39=> ?_)
 ·
  have hv1:n.valid=false:=by simpa using h39
  refine A18 ?_
  refine A14 ?_
  exact x4 Plain.mk' rfl rfl (Le.bool (by simp only [Fr.valid,hv1,Bool.and_false,Bool.false_and]))
 ·
  have hv1:n.valid=true:=by simpa using h39
  refine A2 ?_
  refine RGon h39 rfl (x3 (c_RValid d) fi137 rfl) rfl ⟨rfl,trivial⟩ trivial trivial ?_
  refine A3 ?_
  refine RGcase (t:=13) rfl (fun h39_2=> ?_) (fun h39_2=> ?_)
  ·
   have hv2:d.valid=false:=by simpa using h39_2
   refine A18 ?_
   refine A8 ?_
   exact x4 Plain.mk' rfl rfl (Le.bool (by simp only [Fr.valid,hv2,Bool.and_false,Bool.false_and]))
  ·
   have hv2:d.valid=true:=by simpa using h39_2
   obtain ⟨x,rfl,hxl⟩:=Wh.of_valid hn hv1
   obtain ⟨y,rfl,hyl⟩:=Wh.of_valid hd hv2
   have ix:=xq8 x
   have iy:=xq8 y
   refine A1 ?_
   refine RGon h39_2 rfl (x3 (c_RFits _) fi138 rfl) rfl ⟨rfl,trivial⟩ trivial trivial ?_
   refine A3 ?_
   refine RGcase (t:=18) rfl (fun h39_3=> ?_) (fun h39_3=> ?_)
   ·
    have hs:(⟨wh x,wh y⟩:Fr).sh=false:=by simpa using h39_3
    refine A18 ?_
    refine A3 ?_
    exact x4 Plain.mk' rfl rfl (Le.bool (by simp only [Fr.valid,hs,Bool.false_and]))
   ·
    have hs:(⟨wh x,wh y⟩:Fr).sh=true:=by simpa using h39_3
    refine A2 ?_
    refine xd0 h39_3 rfl rfl (0) ti4 rfl rfl rfl (At.t (At.g 1 rfl rfl) (At.g 0 rfl rfl)) rfl ?_
    refine A2 ?_
    refine RGcase (t:=23) rfl (fun h39_4=> ?_) (fun h39_4=> ?_)
    ·
     have hy0: ¬0 < y:=by have:y < 0:=of_decide_eq_true h39_4;omega
     refine A16 ?_
     exact x4 Plain.mk' rfl rfl (Le.bool (by simp only [Fr.valid,ix,iy,decide_eq_false hy0,Bool.and_false,Bool.false_and]))
    ·
     refine A2 ?_
     refine xd0 h39_4 rfl rfl (0) ti26 rfl rfl rfl (At.t (At.g 1 rfl rfl) (At.g 1 rfl rfl)) rfl ?_
     refine A5 ?_
     refine x8 rfl (fun h39_5=> ?_) (fun h39_5=> ?_)
     ·
      have h5:(((wh y).l.length:Nat):Int)=0:=h39_5
      have hy0: ¬0 < y:=fun h=>by have:=len_nil.1 (show (wh y).l.length=0 by omega);omega
      refine A7 ?_
      exact x4 Plain.mk' rfl rfl (Le.bool (by simp only [Fr.valid,ix,iy,decide_eq_false hy0,Bool.and_false,Bool.false_and]))
     ·
      have h5: ¬(((wh y).l.length:Nat):Int)=0:=h39_5
      have hy0:0 < y:=pos_of_wh h39_4 (by omega)
      refine A6 ?_
      refine xh1 (0) ti26 rfl rfl rfl (At.t (At.g 0 rfl rfl) (At.g 1 rfl rfl)) rfl ?_
      refine A2 ?_
      refine xh1 (0) ti26 rfl rfl rfl (At.t (At.g 1 rfl rfl) (At.g 1 rfl rfl)) rfl (R2 (x3 (c_RCommon x.natAbs y.natAbs (by show len16 x≤4000;omega) (by show len16 y≤4000;omega)) fi140 rfl) rfl rfl (R1 (x3 (c_Rone _) fi139 rfl) rfl ?_))
      refine A4 ?_
      exact x4 Plain.mk' rfl rfl (Le.bool (by simp only [Fr.valid,ix,iy,hs,hv1,hv2,decide_eq_true hy0,Bool.true_and];exact one_dec2))
theorem xt5 (q:Rat) (h:short q):Ct Tryz.prog 71 [tFr (fr q)] (tB true):=by
 have:=xq6 (fr q) (xc6 xa0 _) (xc6 xa0 _)
 rw [valid_fr h] at this;exact this
theorem c_R2told (q:Rat):
  Ct Tryz.prog 133 [tFr (fr q)] (tT [tFr (resF q),tI (resFE q)]):=by
 refine Ct.intro Tryz.func133 rfl Tryz.ntmps133 rfl ?_
 intro w F
 refine A3 ?_
 refine RE (x9 (k:=2) (n:=4) (agg:=true) zr30.1 zr30.2 rfl) trivial trivial ⟨rfl,trivial⟩ ?_
 refine A7 ?_
 refine R1 (x3 (c_RFits (fr q)) fi138 rfl) rfl ?_
 refine A3 ?_
 refine xd4 rfl (fun h31=> ?_) (fun h31=> ?_)
 ·
  have hk: ¬short q:=by rw [sh_fr] at h31;simpa using h31
  refine A2 ?_
  refine R0 (xb8 (r:=tS [⟨2,true,(tS [⟨1,false,(tE (.bool false))⟩,⟨1,false,(tLm [])⟩])⟩,⟨2,true,(tS [⟨1,false,(tE (.bool false))⟩,⟨1,false,(tLm [])⟩])⟩]) (ts:=[]) bu30 zr30.2 Le.refl) ?_
  refine A6 ?_
  exact xb9 Plain.mk' (rs:=[.cell 2 30,.tmp 3]) rfl rfl ⟨⟨_,_,_,_,_,rfl,rfl,ti30,(Le.of (by rw [resF,if_neg hk];rfl))⟩,⟨_,rfl,(Le.int (by rw [resFE,if_neg hk]))⟩,trivial⟩
 ·
  have hk:short q:=by rw [sh_fr] at h31;simpa using h31
  refine A10 ?_
  exact xb9 Plain.mk' (rs:=[.cell 2 30,.tmp 3]) rfl rfl ⟨⟨_,_,_,_,_,rfl,rfl,ti30,(Le.of (by rw [resF,if_pos hk]))⟩,⟨_,rfl,(Le.int (by rw [resFE,if_pos hk]))⟩,trivial⟩
theorem c_R2Times (a b:Rat) (ha:short a) (hb:short b):
  Ct Tryz.prog 134 [tFr (fr a),tFr (fr b)] (tFr (fr (a*b))):=by
 obtain ⟨an,ad⟩:=ha
 obtain ⟨bn,bd⟩:=hb
 have ha:short a:=⟨an,ad⟩
 have hb:short b:=⟨bn,bd⟩
 have da:=a.den_nz
 have db:=b.den_nz
 have l1:=len16_mul an bn
 have l2:=len16_mul ad bd
 refine Ct.intro Tryz.func134 rfl Tryz.ntmps134 rfl ?_
 intro w F
 refine A4 ?_
 refine RE (x9 (k:=4) (n:=4) (agg:=true) zr30.1 zr30.2 rfl) trivial trivial ⟨rfl,trivial⟩ ?_
 refine A8 ?_
 refine R2 (x3 (xp6 a.num b.num (by omega) (by omega)) fi202 rfl) rfl rfl ?_
 refine A4 ?_
 refine R2 (x3 (xp6 (a.den:Int) (b.den:Int) (by omega) (by omega)) fi202 rfl) rfl rfl (R2 (x3 (c_RLowest (a.num*b.num) ((a.den:Int)*(b.den:Int)) (by omega) (by omega) (Int.mul_ne_zero (by omega) (by omega))) fi135 rfl) rfl rfl ?_)
 refine A4 ?_
 exact xd6 Plain.mk' rfl ⟨_,_,_,_,_,rfl,rfl,ti30,(Le.of (by rw [prod_fr]))⟩
theorem c_R2Mul (a b:Rat) (ha:short a) (hb:short b):
  Ct Tryz.prog 69 [tFr (fr a),tFr (fr b)] (tT [tFr (resF (a*b)),tI (resFE (a*b))]):=by
 refine Ct.intro Tryz.func69 rfl Tryz.ntmps69 rfl ?_
 intro w F
 refine A4 ?_
 refine RE (x9 (k:=4) (n:=4) (agg:=true) zr30.1 zr30.2 rfl) trivial trivial ⟨rfl,trivial⟩ ?_
 refine A7 ?_
 refine R1 (x3 (xt5 a ha) fi71 rfl) rfl ?_
 refine A3 ?_
 refine RGon rfl rfl (x3 (xt5 b hb) fi71 rfl) rfl ⟨rfl,trivial⟩ trivial trivial ?_
 refine A11 ?_
 refine R2 (x3 (c_R2Times a b ha hb) fi134 rfl) rfl rfl (R1 (x3 (c_R2told (a*b)) fi133 rfl) rfl ?_)
 refine A7 ?_
 exact xb9 Plain.mk' (rs:=[.cell 4 30,.tmp 5]) rfl rfl ⟨⟨_,_,_,_,_,rfl,rfl,ti30,Le.refl⟩,⟨_,rfl,Le.refl⟩,trivial⟩
theorem c_R2Order (a b:Rat) (ha:short a) (hb:short b):
  Ct Tryz.prog 141 [tFr (fr a),tFr (fr b)] (tI (cmpQ a b)):=by
 obtain ⟨an,ad⟩:=ha
 obtain ⟨bn,bd⟩:=hb
 have ha:short a:=⟨an,ad⟩
 have hb:short b:=⟨bn,bd⟩
 have da:=a.den_nz
 have db:=b.den_nz
 have l1:=len16_mul an bd
 have l2:=len16_mul bn ad
 refine Ct.intro Tryz.func141 rfl Tryz.ntmps141 rfl ?_
 intro w F
 refine A13 ?_
 refine R2 (x3 (xp6 a.num (b.den:Int) (by omega) (by omega)) fi202 rfl) rfl rfl ?_
 refine A4 ?_
 refine R2 (x3 (xp6 b.num (a.den:Int) (by omega) (by omega)) fi202 rfl) rfl rfl (R2 (x3 (c_ROrder (a.num*(b.den:Int)) (b.num*(a.den:Int)) (by omega) (by omega)) fi205 rfl) rfl rfl ?_)
 refine A4 ?_
 exact x4 Plain.mk' rfl rfl (Le.int (cmpQ_eq a b))
theorem xv2 (n:Int) (h1: -9223372036854775808≤n) (h2:n≤9223372036854775807):
  Ct Tryz.prog 76 [tI n] (tFr (fr (n:Rat))):=by
 refine Ct.intro Tryz.func76 rfl Tryz.ntmps76 rfl ?_
 intro w F
 refine A2 ?_
 refine RE (x9 (k:=2) (n:=4) (agg:=true) zr30.1 zr30.2 rfl) trivial trivial ⟨rfl,trivial⟩ ?_
 refine A5 ?_
 refine R1 (x3 (xw7 n h1 h2) fi136 rfl) rfl (R1 (x3 (xw7 1 (by decide) (by decide)) fi136 rfl) rfl (R2 (xb8 (r:=tS [⟨2,true,tWh (wh n)⟩,⟨2,true,tWh (wh 1)⟩]) (ts:=[(0,tWh (wh n)),(1,tWh (wh 1))]) bu30 zr30.2 (Bc 0 rfl rfl rfl (Bc 1 rfl rfl rfl Le.refl))) rfl rfl ?_))
 refine A4 ?_
 exact xd6 Plain.mk' rfl ⟨_,_,_,_,_,rfl,rfl,ti30,(Le.of (by rw [fr,Rat.num_intCast,Rat.den_intCast];rfl))⟩
theorem c_R2Floor (q:Rat) (h:short q):
  Ct Tryz.prog 81 [tFr (fr q)] (tT [tWh (wh q.floor),tI 0]):=by
 obtain ⟨qn,qd⟩:=h
 have h:short q:=⟨qn,qd⟩
 have hdp:(0:Int) < (q.den:Int):=by have:=q.den_pos;omega
 refine Ct.intro Tryz.func81 rfl Tryz.ntmps81 rfl ?_
 intro w F
 refine A3 ?_
 refine RE (x9 (k:=2) (n:=2) (agg:=true) zr28.1 zr28.2 rfl) trivial trivial ⟨rfl,trivial⟩ ?_
 refine A7 ?_
 refine R1 (x3 (xt5 q h) fi71 rfl) rfl ?_
 refine A12 ?_
 refine R2 (x3 (c_RFloor q.num (q.den:Int) (by omega) (by omega) hdp) fi151 rfl) rfl rfl ?_
 refine A3 ?_
 refine RE (x9 (k:=4) (n:=2) (agg:=true) zr28.1 zr28.2 rfl) trivial trivial ⟨rfl,trivial⟩ (RE (x9 (k:=5) (n:=2) (agg:=true) zr28.1 zr28.2 rfl) trivial trivial ⟨rfl,trivial⟩ ?_)
 refine A12 ?_
 exact xb9 Plain.mk' (rs:=[.cell 2 28,.tmp 3]) rfl rfl ⟨⟨_,_,_,_,_,rfl,rfl,ti28,(Le.of (by rw [Rat.floor_def]))⟩,⟨_,rfl,Le.refl⟩,trivial⟩
instance fi32:FnI Tryz.prog 32:=⟨_,Tryz.func32,by kernel_rfl,rfl⟩
instance fi42:FnI Tryz.prog 42:=⟨_,Tryz.func42,by kernel_rfl,rfl⟩
instance fi43:FnI Tryz.prog 43:=⟨_,Tryz.func43,by kernel_rfl,rfl⟩
instance fi67:FnI Tryz.prog 67:=⟨_,Tryz.func67,by kernel_rfl,rfl⟩
instance fi83:FnI Tryz.prog 83:=⟨_,Tryz.func83,by kernel_rfl,rfl⟩
instance fi84:FnI Tryz.prog 84:=⟨_,Tryz.func84,by kernel_rfl,rfl⟩
instance fi130:FnI Tryz.prog 130:=⟨_,Tryz.func130,by kernel_rfl,rfl⟩
def mk16:List Nat:=(List.range 12).map fun i=>(8000024+i)%65536
theorem mk16_len:mk16.length=12:=rfl
theorem mk16_at {j:Nat} (h:j < 12):mk16.getD j 0=(8000024+j)%65536:=by
 have: ∀j,j < 12→mk16.getD j 0=(8000024+j)%65536:=by decide
 exact this j h
theorem mk16_take {i:Nat} (h:i < 12):mk16.take (i+1)=mk16.take i++[(8000024+i)%65536]:=by
 rw [List.take_succ_eq_append_getElem (by rw [mk16_len];exact h)]
 congr 2
 have:=mk16_at h
 rw [List.getD_eq_getElem?_getD,List.getElem?_eq_getElem (by rw [mk16_len];exact h)] at this
 exact this
theorem cutM {i:Nat}:IntKind.u16.wrap (1000003*(1+7)+(i:Int))=(((8000024+i)%65536:Nat):Int):=by rw [mu16];omega
abbrev tLmK (l:List Nat):Ty:=tLK 1 false (fun n:Nat=>tE (.int .u16 (n:Int))) l mk16
abbrev tWhK (x:Wh):Ty:=tS [⟨1,false,tB x.neg⟩,⟨1,false,tLmK x.l⟩]
abbrev tFrK (f:Fr):Ty:=tS [⟨2,true,tWhK f.n⟩,⟨2,true,tWhK f.d⟩]
abbrev tVaK (v:Va):Ty:=tS [⟨1,false,tE (.int .u8 (v.kind:Int))⟩,⟨4,true,tFrK v.f⟩,⟨1,false,tI v.i⟩]
theorem whK_le {x:Wh}:Le (tWhK x) (tWh x):=Le.tS ⟨⟨rfl,rfl,Le.refl⟩,⟨rfl,rfl,tLK_le⟩,trivial⟩
theorem frK_le {f:Fr}:Le (tFrK f) (tFr f):=Le.tS ⟨⟨rfl,rfl,whK_le⟩,⟨rfl,rfl,whK_le⟩,trivial⟩
theorem vaK_le {v:Va}:Le (tVaK v) (tVa v):=Le.tS ⟨⟨rfl,rfl,Le.refl⟩,⟨rfl,rfl,frK_le⟩,⟨rfl,rfl,Le.refl⟩,trivial⟩
theorem app_l {l m:List Nat} {i:Nat} (h:i < l.length):(l++m).getD i 0=l.getD i 0:=by
 rw [List.getD_eq_getElem?_getD,List.getElem?_append_left h,←List.getD_eq_getElem?_getD]
theorem app_r {l m:List Nat} {i:Nat} (h:l.length≤i):(l++m).getD i 0=m.getD (i - l.length) 0:=by
 rw [List.getD_eq_getElem?_getD,List.getElem?_append_right h,←List.getD_eq_getElem?_getD]
theorem c_mark1 (i:Nat) (h:i < 12):
  Ct Tryz.prog 84 [tI 1,tI i] (tI (1000003*(1+7)+(i:Int))):=by
 refine Ct.intro Tryz.func84 rfl Tryz.ntmps84 rfl ?_
 intro w F
 refine A9 ?_
 refine R2 (xk0 (wr64 (by omega) (by omega))) rfl rfl ?_
 refine A6 ?_
 exact x4 Plain.mk' rfl rfl Le.refl
abbrev tLmW (l:List Nat):Ty:=tLW 42 1 false (fun n:Nat=>tE (.int .u16 (n:Int))) l mk16
abbrev tWhW (x:Wh):Ty:=tS [⟨1,false,tB x.neg⟩,⟨1,false,tLmW x.l⟩]
abbrev tFrW (f:Fr):Ty:=tS [⟨2,true,tWhW f.n⟩,⟨2,true,tWhW f.d⟩]
abbrev tVaW (v:Va):Ty:=tS [⟨1,false,tE (.int .u8 (v.kind:Int))⟩,⟨4,true,tFrW v.f⟩,⟨1,false,tI v.i⟩]
abbrev tTsW (s:Tst):Ty:=tS [⟨1,false,tI s.lo⟩,⟨1,false,tI s.hi⟩,⟨6,true,tVaW s.v⟩]
theorem whWK {x:Wh}:Le (tWhW x) (tWhK x):=Le.tS ⟨⟨rfl,rfl,Le.refl⟩,⟨rfl,rfl,tLW_le⟩,trivial⟩
theorem frWK {f:Fr}:Le (tFrW f) (tFrK f):=Le.tS ⟨⟨rfl,rfl,whWK⟩,⟨rfl,rfl,whWK⟩,trivial⟩
theorem vaWK {v:Va}:Le (tVaW v) (tVaK v):=Le.tS ⟨⟨rfl,rfl,Le.refl⟩,⟨rfl,rfl,frWK⟩,⟨rfl,rfl,Le.refl⟩,trivial⟩
theorem vaW_le {v:Va}:Le (tVaW v) (tVa v):=Le.trans vaWK vaK_le
theorem tsW_le {s:Tst}:Le (tTsW s) (tTs s):=Le.tS ⟨⟨rfl,rfl,Le.refl⟩,⟨rfl,rfl,Le.refl⟩,⟨rfl,rfl,vaW_le⟩,trivial⟩
abbrev tTsM (x:Tst×Bool):Ty:=cond x.2 (tTsW x.1) (tTs x.1)
instance {x:Tst×Bool}:Shape (tTsM x) 8 true:=by
 obtain ⟨s,b⟩:=x
 cases b
 ·exact (inferInstance:Shape (tTs s) 8 true)
 ·exact (inferInstance:Shape (tTsW s) 8 true)
theorem tsM_le {x:Tst×Bool}:Le (tTsM x) (tTs x.1):=by
 obtain ⟨s,b⟩:=x
 cases b
 ·exact Le.refl
 ·exact tsW_le
def va00:Va:=⟨0,fr0,0⟩
def smk (k i:Nat):Tst:=⟨1000003*((k:Int)+7)+(i:Int),0,va00⟩
def mkT:List Tst:=(List.range 12).map (smk 1)
theorem xo4:mkT.length=12:=rfl
theorem mkT_at {j:Nat} (h:j < 12):mkT.getD j tst0=smk 1 j:=by
 have hl:j < mkT.length:=by rw [xo4];exact h
 rw [List.getD_eq_getElem?_getD,List.getElem?_eq_getElem hl,Option.getD_some]
 simp [mkT]
theorem mkT_take {i:Nat} (h:i < 12):mkT.take (i+1)=mkT.take i++[smk 1 i]:=by
 rw [List.take_succ_eq_append_getElem (by rw [xo4];exact h)]
 congr 2
 have:=mkT_at h
 rw [List.getD_eq_getElem?_getD,List.getElem?_eq_getElem (by rw [xo4];exact h)] at this
 exact this
def lmT (l:List Tst):List (Tst×Bool):=l.map (·,true)
def mmT (m:List Tst):List (Tst×Bool):=m.map (·,false)
abbrev tStW (l:List Tst):Ty:=tLW 34 8 true tTsM (lmT l) (mmT mkT)
theorem xj8 {l:List Tst}:(lmT l).length=l.length:=List.length_map ..
theorem xu5 {l:List Tst}:(mmT l).length=l.length:=List.length_map ..
theorem lmT_take {l:List Tst} {i:Nat} (h:i < l.length):lmT (l.take (i+1))=lmT (l.take i)++[(l.getD i tst0,true)]:=by
 rw [lmT,lmT,List.take_succ_eq_append_getElem h,List.map_append,List.getD_eq_getElem?_getD,List.getElem?_eq_getElem h];rfl
theorem mmT_snoc {l:List Tst} {x:Tst}:mmT (l++[x])=mmT l++[(x,false)]:=by rw [mmT,List.map_append];rfl
def tm0:Tst×Bool:=(tst0,false)
theorem lm_l {l m:List Tst} {i:Nat} (h:i < l.length):(lmT l++mmT m).getD i tm0=(l.getD i tst0,true):=by
 rw [List.getD_eq_getElem?_getD,List.getElem?_append_left (by rw [xj8];exact h),lmT,List.getElem?_map,List.getElem?_eq_getElem h,List.getD_eq_getElem?_getD,List.getElem?_eq_getElem h];rfl
theorem lm_r {l m:List Tst} {i:Nat} (h:l.length≤i) (h2:i - l.length < m.length):(lmT l++mmT m).getD i tm0=(m.getD (i - l.length) tst0,false):=by
 rw [List.getD_eq_getElem?_getD,List.getElem?_append_right (by rw [xj8];exact h),xj8,mmT,List.getElem?_map,List.getElem?_eq_getElem h2,List.getD_eq_getElem?_getD,List.getElem?_eq_getElem h2];rfl
theorem va00N {G:Dom}:Le (tVa va00) (tG G (tVa va00)):=leG_S ⟨⟨rfl,rfl,tG_E⟩,⟨rfl,rfl,fr0N⟩,⟨rfl,rfl,tG_E⟩,trivial⟩
theorem stW_le {l:List Tst}:Le (tStW l) (tL 8 true tTs l):=fun F w v h=>by
 obtain ⟨A,c,h1,h2,h3,h4⟩:=le_L (fun x=>tsM_le) _ _ _ (tLW_leL _ _ _ h)
 rw [xj8] at h1 h2
 refine ⟨A,c,h1,h2,h3,h4.imp (fun h=>by rw [lmT] at h;exact List.map_eq_nil_iff.1 h) fun ⟨b,o,e,hb,hx⟩=>⟨b,o,e,hb,fun i x hi=>hx i (x,true) (by rw [lmT,List.getElem?_map,hi];rfl)⟩⟩
theorem c_LentLimbsN (l:List Nat) (hl:l.length≤1048576):
  CtN Tryz.prog 130 [tLm l] (fun nw=>tG (up nw) (tLmW l)):=by
 refine CtN.intro Tryz.func130 rfl Tryz.ntmps130 rfl ?_
 intro w F
 refine A10 ?_
 refine RE (xg6 (k:=8) (t:=tE (.int .u16 0)) (ts:=([]:List Ent)) (0) (l.length+12) Tryz.underlying26 el42 (fun _ _=>rfl) rfl (by omega) (by omega) (by omega) (by omega) (by omega) rfl) ⟨rfl,rfl,trivial⟩ trivial ⟨rfl,trivial⟩ ?_
 refine A7 ?_
 refine RE (xc5 (k:=8) (k':=11) (ys:=l) (ts':=rW .u16 l) Tryz.underlying26 el42 zf42 rfl rfl (fun _=>inferInstance) rfl (by simp;omega) (by simp;omega) (by simp [rW]) (n':=l.length) (by simp)) ⟨rfl,rfl,trivial⟩ ⟨rfl,trivial⟩ ⟨rfl,trivial⟩ ?_
 refine A10 ?_
 refine cL (fun (i:Nat)=>i≤12) (fun (i:Nat)=>upd (upd (upd (fun _=>none) 0 (some (.val (tLm l)))) 3 (some (.own (.sl 11 1 0 (l.length+i))))) 4 (some (.val (tI i)))) (fun (i:Nat)=>upd (fun _=>none) 11 (some (⟨42,1,false,rW .u16 (l++mk16.take i)⟩))) [11] (fun (i:Nat)=>12 - i) (0) (Nat.zero_le _) (hh:=((SubK.consI rfl (ImpK.of (by rw [List.take_zero,List.append_nil]))) SubK.nil)) ?_
 intro i hI
 have htl:(l++mk16.take i).length=l.length+i:=by rw [List.length_append,List.length_take,mk16_len];omega
 refine A7 ?_
 refine x8 rfl (fun h64=> ?_) (fun h64=> ?_)
 ·
  refine A7 ?_
  refine R2 (x3 (c_mark1 i (by omega)) fi84 rfl) rfl rfl (R1 (xa2 Tryz.underlying42 (isS Tryz.underlying3) cutM) rfl (R1 (xn3 (n:=1) [((8000024+i)%65536)] Tryz.underlying26 el42 zf42 rfl rfl rfl) rfl (RE (xc5 (k:=11) (k':=21) (ys:=[((8000024+i)%65536)]) (ts':=rW .u16 (l++mk16.take i++[((8000024+i)%65536)])) Tryz.underlying26 el42 zf42 rfl rfl (fun _=>inferInstance) (xn0.trans htl) (by simp;omega) (by simp;omega) (by simp [rW]) (n':=l.length+i+1) rfl) ⟨rfl,rfl,trivial⟩ ⟨rfl,trivial⟩ ⟨rfl,trivial⟩ ?_)))
  refine A9 ?_
  exact xe4 (l:=[11]) (fun j=>cond (Nat.beq j 11) 21 (j)) (i+1) ⟨(by omega),(by omega)⟩ (SubR.int rfl (by first | omega | rfl | (dsimp only;omega)) (SubR.cons rfl (SubR.cons rfl SubR.nil))) ((SubKR.consI rfl (ImpK.of (by rw [mk16_take (by omega),←List.append_assoc];exact xh9.symm))) SubKR.nil) (SupG.val (SupG.own rfl (SupG.val SupG.nil))) (SupH.cons rfl (supJ xf3) SupH.nil) (lkOk rfl) rfl rfl (fun _ h=>by cases h)
 ·
  refine A10 ?_
  refine RE (d_keepOW (k:=11) (f:=fun n:Nat=>tE (.int .u16 (n:Int))) (xs:=l) (ms:=mk16) (up w.heap.size) (fun _ h=>h) sl26 (fun _ h=>h) (fun _ _=>tG_E) (by rw [rW,show i=12 by omega,show mk16.take 12=mk16 from rfl]) (by rw [mk16_len];omega) (by omega) rfl) ⟨rfl,rfl,trivial⟩ ⟨rfl,trivial⟩ trivial ?_
  refine A4 ?_
  exact x4 Plain.mk' rfl rfl Le.refl
theorem c_KeptLimbs (l:List Nat) (hl:l.length≤1048576):
  Ct Tryz.prog 148 [tLmK l,tLm l] (tB true):=by
 have hml:(l++mk16).length=l.length+12:=by rw [List.length_append,mk16_len]
 refine Ct.intro Tryz.func148 rfl Tryz.ntmps148 rfl ?_
 intro w F
 refine A9 ?_
 refine R1 (d_lenK Tryz.underlying26) rfl ?_
 refine A5 ?_
 refine xb2 rfl (decide_eq_false (by omega)) ?_
 refine A8 ?_
 refine R2 (d_sliceK sl26 (by rw [mk16_len];omega)) rfl rfl ?_
 refine A10 ?_
 refine cL (fun (i:Nat)=>i≤(l++mk16).length) (fun (i:Nat)=>upd (upd (upd (fun _=>none) 1 (some (.val (tLm l)))) 5 (some (.val (tLm (l++mk16))))) 6 (some (.val (tI i)))) (fun (i:Nat)=>fun _=>none) [] (fun (i:Nat)=>(l++mk16).length - i) (0) (Nat.zero_le _) ?_
 intro i hI
 refine A9 ?_
 refine x8 rfl (fun h75=> ?_) (fun h75=> ?_)
 ·
  refine A11 ?_
  refine RGcaseD (t:=27) rfl (fun h76=> ?_) (fun h76=> ?_)
  ·
   refine A2 ?_
   refine RGon (decide_eq_true h76) rfl (x6 sl26 (i) (by omega) (gN (by omega))) rfl ⟨rfl,rfl,trivial⟩ trivial trivial ?_
   refine A3 ?_
   refine RGon (decide_eq_true h76) rfl (x6 sl26 (i) (by omega) (gN (by omega))) rfl ⟨rfl,rfl,trivial⟩ trivial trivial ?_
   refine A5 ?_
   refine RGon (xc4 (by rw [app_l (by omega)])) rfl x5 rfl ⟨rfl,trivial⟩ trivial trivial (RGon (xc4 (by rw [app_l (by omega)])) rfl x5 rfl ⟨rfl,trivial⟩ trivial trivial (RGon (xc4 (by rw [app_l (by omega)])) rfl (d_len Tryz.underlying26) rfl ⟨rfl,trivial⟩ trivial trivial (RGon (xc4 (by rw [app_l (by omega)])) rfl d_geq rfl ⟨rfl,rfl,trivial⟩ trivial trivial (RGon (xc4 (by rw [app_l (by omega)])) rfl x5 rfl ⟨rfl,trivial⟩ trivial trivial (RGoff (decide_eq_false (by omega)) rfl rfl (RGoff (decide_eq_false (by omega)) rfl rfl (RGoff (decide_eq_false (by omega)) rfl rfl ?_)))))))
   refine RGoff (decide_eq_false (by omega)) rfl rfl (RGoff (decide_eq_false (by omega)) rfl rfl (RGoff (decide_eq_false (by omega)) rfl rfl (RGoff (decide_eq_false (by omega)) rfl rfl (RGoff (decide_eq_false (by omega)) rfl rfl (RGoff (decide_eq_false (by omega)) rfl rfl (RGoff (decide_eq_false (by omega)) rfl rfl (RGoff (decide_eq_false (by omega)) rfl rfl ?_)))))))
   refine RGoff (decide_eq_false (by omega)) rfl rfl (RGon (xc4 (by rw [app_l (by omega)])) rfl (xc7 (decide_eq_false (by omega))) rfl ⟨rfl,rfl,trivial⟩ trivial trivial (R2 (xc7 (xc4 (by rw [app_l (by omega)]))) rfl rfl ?_))
   refine A11 ?_
   exact kF (i+1) ⟨(by omega),(by omega)⟩
  ·
   refine A17 ?_
   refine RGon (decide_eq_true (by omega)) rfl x5 rfl ⟨rfl,trivial⟩ trivial trivial (RGon (decide_eq_true (by omega)) rfl x5 rfl ⟨rfl,trivial⟩ trivial trivial (RGon (decide_eq_true (by omega)) rfl (x6 sl26 (i) (by omega) (gN (by omega))) rfl ⟨rfl,rfl,trivial⟩ trivial trivial (RGon (decide_eq_true (by omega)) rfl (xh5 ti42) rfl ⟨rfl,trivial⟩ trivial trivial (RGon (decide_eq_true (by omega)) rfl x5 rfl ⟨rfl,trivial⟩ trivial trivial (RGon (decide_eq_true (by omega)) rfl x5 rfl ⟨rfl,trivial⟩ trivial trivial (RGon (decide_eq_true (by omega)) rfl (d_len Tryz.underlying26) rfl ⟨rfl,trivial⟩ trivial trivial (RGon (decide_eq_true (by omega)) rfl (xe6 (r:=((i - l.length:Nat):Int)) (by rw [wr64 (by omega) (by omega)];omega)) rfl ⟨rfl,rfl,trivial⟩ trivial trivial ?_)))))))
   refine RGon (decide_eq_true (by omega)) rfl (x3 (c_mark1 (i - l.length) (by omega)) fi84 rfl) rfl ⟨rfl,rfl,trivial⟩ trivial trivial (RGon (decide_eq_true (by omega)) rfl (xa2 Tryz.underlying42 (isS Tryz.underlying3) cutM) rfl ⟨rfl,trivial⟩ trivial trivial (RGon (decide_eq_true (by omega)) rfl d_eql rfl ⟨rfl,rfl,trivial⟩ trivial trivial (RGon (decide_eq_true (by omega)) rfl xi1 rfl ⟨rfl,trivial⟩ trivial trivial (RGon rfl rfl (xe3 (decide_eq_true (by omega))) rfl ⟨rfl,rfl,trivial⟩ trivial trivial ?_))))
   refine A3 ?_
   refine xb2 rfl (xc4 (by rw [app_r (by omega),mk16_at (by omega)])) ?_
   refine A8 ?_
   exact kF (i+1) ⟨(by omega),(by omega)⟩
 ·
  refine A11 ?_
  exact x4 Plain.mk' rfl rfl Le.refl
theorem c_LentWholeN (x:Wh) (hl:x.l.length≤1048576):
  CtN Tryz.prog 67 [tWh x] (fun nw=>tG (up nw) (tWhW x)):=by
 refine CtN.intro Tryz.func67 rfl Tryz.ntmps67 rfl ?_
 intro w F
 refine A3 ?_
 refine RE (x9 (k:=2) (n:=2) (agg:=true) zr28.1 zr28.2 rfl) trivial trivial ⟨rfl,trivial⟩ ?_
 refine A6 ?_
 refine R1 (xg2 (ts:=[_]) (r:=tG (up w.heap.size) _) (c_LentLimbsN x.l hl) fi130 (fun m hm=>xj5 hm) ⟨Le.refl,trivial⟩ rfl) rfl ?_
 refine A1 ?_
 refine xm1 (0) ti26 rfl rfl rfl rfl (Up.g 1 rfl rfl rfl) rfl rfl ?_
 refine A3 ?_
 refine C_key (k:=1) (e':=⟨28,2,true,[.val (tS [⟨1,false,tB x.neg⟩,⟨1,false,tG (up w.heap.size) (tLmW x.l)⟩])]⟩) rfl rfl ?_
 refine A6 ?_
 exact xd6 Plain.mk' rfl ⟨_,_,_,_,_,rfl,rfl,ti28,(leG_S ⟨⟨rfl,rfl,tG_E⟩,⟨rfl,rfl,Le.refl⟩,trivial⟩)⟩
theorem c_LentFracN (f:Fr) (h1:f.n.l.length≤1048576) (h2:f.d.l.length≤1048576):
  CtN Tryz.prog 32 [tFr f] (fun nw=>tG (up nw) (tFrW f)):=by
 refine CtN.intro Tryz.func32 rfl Tryz.ntmps32 rfl ?_
 intro w F
 refine A3 ?_
 refine RE (x9 (k:=2) (n:=4) (agg:=true) zr30.1 zr30.2 rfl) trivial trivial ⟨rfl,trivial⟩ ?_
 refine A6 ?_
 refine R1 (xg2 (ts:=[_]) (r:=tG (up w.heap.size) _) (c_LentWholeN f.n h1) fi67 (fun m hm=>xj5 hm) ⟨Le.refl,trivial⟩ rfl) rfl ?_
 refine A1 ?_
 refine xm1 (0) ti28 rfl rfl rfl rfl (Up.g 0 rfl rfl rfl) rfl rfl ?_
 refine A6 ?_
 refine R1 (xg2 (ts:=[_]) (r:=tG (up w.heap.size) _) (c_LentWholeN f.d h2) fi67 (fun m hm=>xj5 hm) ⟨Le.refl,trivial⟩ rfl) rfl ?_
 refine A1 ?_
 refine xm1 (0) ti28 rfl rfl rfl rfl (Up.g 1 rfl rfl rfl) rfl rfl ?_
 refine A3 ?_
 refine C_key (k:=1) (e':=⟨30,4,true,[.val (tS [⟨2,true,tG (up w.heap.size) (tWhW f.n)⟩,⟨2,true,tG (up w.heap.size) (tWhW f.d)⟩])]⟩) rfl rfl ?_
 refine A6 ?_
 exact xd6 Plain.mk' rfl ⟨_,_,_,_,_,rfl,rfl,ti30,(leG_S ⟨⟨rfl,rfl,Le.refl⟩,⟨rfl,rfl,Le.refl⟩,trivial⟩)⟩
theorem c_LentValueN (v:Va) (h1:v.f.n.l.length≤1048576) (h2:v.f.d.l.length≤1048576):
  CtN Tryz.prog 83 [tVa v] (fun nw=>tG (up nw) (tVaW v)):=by
 refine CtN.intro Tryz.func83 rfl Tryz.ntmps83 rfl ?_
 intro w F
 refine A3 ?_
 refine RE (x9 (k:=2) (n:=6) (agg:=true) zr32.1 zr32.2 rfl) trivial trivial ⟨rfl,trivial⟩ ?_
 refine A6 ?_
 refine R1 (xg2 (ts:=[_]) (r:=tG (up w.heap.size) _) (c_LentFracN v.f h1 h2) fi32 (fun m hm=>xj5 hm) ⟨Le.refl,trivial⟩ rfl) rfl ?_
 refine A1 ?_
 refine xm1 (0) ti30 rfl rfl rfl rfl (Up.g 1 rfl rfl rfl) rfl rfl ?_
 refine A3 ?_
 refine C_key (k:=1) (e':=⟨32,6,true,[.val (tS [⟨1,false,tE (.int .u8 (v.kind:Int))⟩,⟨4,true,tG (up w.heap.size) (tFrW v.f)⟩,⟨1,false,tI v.i⟩])]⟩) rfl rfl ?_
 refine A6 ?_
 exact xd6 Plain.mk' rfl ⟨_,_,_,_,_,rfl,rfl,ti32,(leG_S ⟨⟨rfl,rfl,tG_E⟩,⟨rfl,rfl,Le.refl⟩,⟨rfl,rfl,tG_E⟩,trivial⟩)⟩
theorem c_LentStepN (s:Tst) (h1:s.v.f.n.l.length≤1048576) (h2:s.v.f.d.l.length≤1048576):
  CtN Tryz.prog 42 [tTs s] (fun nw=>tG (up nw) (tTsW s)):=by
 refine CtN.intro Tryz.func42 rfl Tryz.ntmps42 rfl ?_
 intro w F
 refine A3 ?_
 refine RE (x9 (k:=2) (n:=8) (agg:=true) zr34.1 zr34.2 rfl) trivial trivial ⟨rfl,trivial⟩ ?_
 refine A6 ?_
 refine R1 (xg2 (ts:=[_]) (r:=tG (up w.heap.size) _) (c_LentValueN s.v h1 h2) fi83 (fun m hm=>xj5 hm) ⟨Le.refl,trivial⟩ rfl) rfl ?_
 refine A1 ?_
 refine xm1 (0) ti32 rfl rfl rfl rfl (Up.g 2 rfl rfl rfl) rfl rfl ?_
 refine A3 ?_
 refine C_key (k:=1) (e':=⟨34,8,true,[.val (tS [⟨1,false,tI s.lo⟩,⟨1,false,tI s.hi⟩,⟨6,true,tG (up w.heap.size) (tVaW s.v)⟩])]⟩) rfl rfl ?_
 refine A6 ?_
 exact xd6 Plain.mk' rfl ⟨_,_,_,_,_,rfl,rfl,ti34,(leG_S ⟨⟨rfl,rfl,tG_E⟩,⟨rfl,rfl,tG_E⟩,⟨rfl,rfl,Le.refl⟩,trivial⟩)⟩
theorem c_markK (k i:Nat) (hk:k < 1000) (hi:i < 10000000):
  Ct Tryz.prog 84 [tI k,tI i] (tI (1000003*((k:Int)+7)+(i:Int))):=by
 refine Ct.intro Tryz.func84 rfl Tryz.ntmps84 rfl ?_
 intro w F
 refine A9 ?_
 refine R2 (xk0 (wr64 (by omega) (by omega))) rfl rfl ?_
 refine A6 ?_
 exact x4 Plain.mk' rfl rfl Le.refl
theorem c_markStep (k i:Nat) (hk:k < 1000) (hi:i < 10000000):
  CtN Tryz.prog 43 [tI k,tI i] (fun nw=>tG (up nw) (tTs (smk k i))):=by
 refine CtN.intro Tryz.func43 rfl Tryz.ntmps43 rfl ?_
 intro w F
 refine A2 ?_
 refine RE (x9 (k:=4) (n:=8) (agg:=true) zr34.1 zr34.2 rfl) trivial trivial ⟨rfl,trivial⟩ ?_
 refine A6 ?_
 refine R2 (x3 (c_markK k i hk hi) fi84 rfl) rfl rfl (R1 (xb8 (r:=tS [⟨1,false,tI (1000003*((k:Int)+7)+(i:Int))⟩,⟨1,false,(tE (.int .i64 0))⟩,⟨6,true,(tS [⟨1,false,(tE (.int .u8 0))⟩,⟨4,true,(tS [⟨2,true,(tS [⟨1,false,(tE (.bool false))⟩,⟨1,false,(tLm [])⟩])⟩,⟨2,true,(tS [⟨1,false,(tE (.bool false))⟩,⟨1,false,(tLm [])⟩])⟩])⟩,⟨1,false,(tE (.int .i64 0))⟩])⟩]) (ts:=[(0,tI (1000003*((k:Int)+7)+(i:Int)))]) bu34 zr34.2 (Bc 0 rfl rfl rfl Le.refl)) rfl ?_)
 refine A4 ?_
 exact xd6 Plain.mk' rfl ⟨_,_,_,_,_,rfl,rfl,ti34,(leG_S ⟨⟨rfl,rfl,tG_E⟩,⟨rfl,rfl,tG_E⟩,⟨rfl,rfl,va00N⟩,trivial⟩)⟩
theorem c_LentStepsN (l:List Tst) (hl:l.length≤60) (hs: ∀s∈l,s.v.f.n.l.length≤1048576∧s.v.f.d.l.length≤1048576):
  CtN Tryz.prog 16 [tL 8 true tTs l] (fun nw=>tG (up nw) (tStW l)):=by
 refine CtN.intro Tryz.func16 rfl Tryz.ntmps16 rfl ?_
 intro w F
 refine A10 ?_
 refine RE (xg6 (k:=10) (t:=(tS [⟨1,false,(tE (.int .i64 0))⟩,⟨1,false,(tE (.int .i64 0))⟩,⟨6,true,(tS [⟨1,false,(tE (.int .u8 0))⟩,⟨4,true,(tS [⟨2,true,(tS [⟨1,false,(tE (.bool false))⟩,⟨1,false,(tLm [])⟩])⟩,⟨2,true,(tS [⟨1,false,(tE (.bool false))⟩,⟨1,false,(tLm [])⟩])⟩])⟩,⟨1,false,(tE (.int .i64 0))⟩])⟩])) (ts:=([]:List Ent)) (0) (l.length+12) Tryz.underlying22 el34 (fun _ _=>⟨_,rfl,rfl,⟨fun _=>rfl,rfl⟩,⟨fun _=>rfl,rfl⟩,⟨fun h=>Bool.noConfusion h,⟨_,rfl,rfl,⟨fun _=>rfl,rfl⟩,⟨fun h=>Bool.noConfusion h,⟨_,rfl,rfl,⟨fun h=>Bool.noConfusion h,⟨_,rfl,rfl,⟨fun _=>rfl,rfl⟩,⟨fun _=>rfl,⟨none,0,rfl,Nat.le_refl _,by decide,.inl rfl⟩⟩,trivial⟩⟩,⟨fun h=>Bool.noConfusion h,⟨_,rfl,rfl,⟨fun _=>rfl,rfl⟩,⟨fun _=>rfl,⟨none,0,rfl,Nat.le_refl _,by decide,.inl rfl⟩⟩,trivial⟩⟩,trivial⟩⟩,⟨fun _=>rfl,rfl⟩,trivial⟩⟩,trivial⟩) rfl (by omega) (by omega) (by omega) (by omega) (by omega) rfl) ⟨rfl,rfl,trivial⟩ trivial ⟨rfl,trivial⟩ ?_
 refine A10 ?_
 refine cL (fun (i:Nat)=>i≤l.length) (fun (i:Nat)=>upd (upd (upd (fun _=>none) 0 (some (.val (tL 8 true tTs l)))) 3 (some (.own (.sl 10 8 0 i)))) 4 (some (.val (tI i)))) (fun (i:Nat)=>upd (fun _=>none) 10 (some (⟨34,8,true,rV (fun x=>tG (up w.heap.size) (tTsM x)) (lmT (l.take i))⟩))) [10] (fun (i:Nat)=>l.length - i) (0) (Nat.zero_le _) (hh:=((SubK.consI rfl (ImpK.of rfl)) SubK.nil)) ?_
 intro i hI
 have hxl:(lmT (l.take i)).length=i:=by rw [xj8,List.length_take];omega
 refine A9 ?_
 refine x8 rfl (fun h379=> ?_) (fun h379=> ?_)
 ·
  refine A8 ?_
  refine R2 (x6 sl22 i (by omega) (gD (l:=l) (n:=i) (d:=tst0) (by omega))) rfl rfl ?_
  refine A1 ?_
  refine R1 (xg2 (ts:=[_]) (r:=tG (up w.heap.size) _) (c_LentStepN (l.getD i tst0) (hs _ (xd5 (l:=l) (by omega))).1 (hs _ (xd5 (l:=l) (by omega))).2) fi42 (fun m hm=>xj5 hm) ⟨Le.refl,trivial⟩ rfl) rfl (RE (x9 (k:=5) (n:=8) (agg:=true) zr34.1 zr34.2 rfl) trivial trivial ⟨rfl,trivial⟩ ?_)
  refine A6 ?_
  refine R1 (xd2 (n:=1) (f:=(fun x=>tG (up w.heap.size) (tTsM x))) [((l.getD i tst0,true):Tst×Bool)] Tryz.underlying22 el34 zf34 rfl (fun _=>inferInstance) rfl rfl rfl) rfl (RE (xc5 (k:=10) (k':=25) (f:=(fun x=>tG (up w.heap.size) (tTsM x))) (ys:=[((l.getD i tst0,true):Tst×Bool)]) (ts':=rV (fun x=>tG (up w.heap.size) (tTsM x)) ((lmT (l.take i))++[((l.getD i tst0,true):Tst×Bool)])) Tryz.underlying22 el34 zf34 rfl rfl (fun _=>inferInstance) (xe5.trans hxl) (by simp;omega) (by simp;omega) (by simp [rV]) (n':=i+1) rfl) ⟨rfl,rfl,trivial⟩ ⟨rfl,trivial⟩ ⟨rfl,trivial⟩ ?_)
  refine A9 ?_
  exact xe4 (l:=[10]) (fun j=>cond (Nat.beq j 10) 25 (j)) (i+1) ⟨(by omega),(by omega)⟩ (SubR.int rfl (by first | omega | rfl | (dsimp only;omega)) (SubR.cons rfl (SubR.cons rfl SubR.nil))) ((SubKR.consI rfl (ImpK.of (by rw [lmT_take (by omega)];exact xc2.symm))) SubKR.nil) (SupG.val (SupG.own rfl (SupG.val SupG.nil))) (SupH.cons rfl (supJ xb0) SupH.nil) (lkOk rfl) rfl rfl (fun _ h=>by cases h)
 ·
  refine A12 ?_
  have hil:i=l.length:=by omega
  subst hil
  refine cL (fun (i:Nat)=>i≤12) (fun (i:Nat)=>upd (upd (upd (fun _=>none) 0 (some (.val (tL 8 true tTs l)))) 3 (some (.own (.sl 10 8 0 (l.length+i))))) 6 (some (.val (tI i)))) (fun (i:Nat)=>upd (fun _=>none) 10 (some (⟨34,8,true,rV (fun x=>tG (up w.heap.size) (tTsM x)) (lmT l++mmT (mkT.take i))⟩))) [10] (fun (i:Nat)=>12 - i) (0) (Nat.zero_le _) (hh:=((SubK.consI rfl (ImpK.of (by rw [List.take_length,List.take_zero,mmT,List.map_nil,List.append_nil]))) SubK.nil)) ?_
  intro i hI
  have hxl:(lmT l++mmT (mkT.take i)).length=l.length+i:=by rw [List.length_append,xj8,xu5,List.length_take,xo4];omega
  refine A7 ?_
  refine x8 rfl (fun h383=> ?_) (fun h383=> ?_)
  ·
   refine A7 ?_
   refine R2 (xg2 (ts:=[_,_]) (r:=tG (up w.heap.size) _) (c_markStep 1 i (by decide) (by omega)) fi43 (fun m hm=>xj5 hm) ⟨Le.refl,Le.refl,trivial⟩ rfl) rfl rfl (R1 (xd2 (n:=1) (f:=(fun x=>tG (up w.heap.size) (tTsM x))) [((smk 1 i,false):Tst×Bool)] Tryz.underlying22 el34 zf34 rfl (fun _=>inferInstance) rfl rfl rfl) rfl (RE (xc5 (k:=10) (k':=34) (f:=(fun x=>tG (up w.heap.size) (tTsM x))) (ys:=[((smk 1 i,false):Tst×Bool)]) (ts':=rV (fun x=>tG (up w.heap.size) (tTsM x)) ((lmT l++mmT (mkT.take i))++[((smk 1 i,false):Tst×Bool)])) Tryz.underlying22 el34 zf34 rfl rfl (fun _=>inferInstance) (xe5.trans hxl) (by simp;omega) (by simp;omega) (by simp [rV]) (n':=l.length+i+1) rfl) ⟨rfl,rfl,trivial⟩ ⟨rfl,trivial⟩ ⟨rfl,trivial⟩ ?_))
   refine A9 ?_
   exact xe4 (l:=[10]) (fun j=>cond (Nat.beq j 10) 34 (j)) (i+1) ⟨(by omega),(by omega)⟩ (SubR.int rfl (by first | omega | rfl | (dsimp only;omega)) (SubR.cons rfl (SubR.cons rfl SubR.nil))) ((SubKR.consI rfl (ImpK.of (by rw [mkT_take (by omega),mmT_snoc,←List.append_assoc];exact xc2.symm))) SubKR.nil) (SupG.val (SupG.own rfl (SupG.val SupG.nil))) (SupH.cons rfl (supJ xb0) SupH.nil) (lkOk rfl) rfl rfl (fun _ h=>by cases h)
  ·
   refine A10 ?_
   refine RE (d_keepOW (k:=10) (f:=(fun x=>tG (up w.heap.size) (tTsM x))) (xs:=lmT l) (ms:=mmT mkT) (up w.heap.size) (fun _ h=>h) sl22 (fun _ h=>h) (fun _ _=>tG_idem) (by rw [rV,show i=12 by omega,show mkT.take 12=mkT from rfl]) (by rw [xj8,xu5,xo4];omega) (by omega) (by rw [xj8])) ⟨rfl,rfl,trivial⟩ ⟨rfl,trivial⟩ trivial ?_
   refine A4 ?_
   exact x4 Plain.mk' rfl rfl (tG_mono (leLW fun _=>tG_le))
instance fi37:FnI Tryz.prog 37:=⟨_,Tryz.func37,by kernel_rfl,rfl⟩
instance fi51:FnI Tryz.prog 51:=⟨_,Tryz.func51,by kernel_rfl,rfl⟩
instance fi52:FnI Tryz.prog 52:=⟨_,Tryz.func52,by kernel_rfl,rfl⟩
instance fi78:FnI Tryz.prog 78:=⟨_,Tryz.func78,by kernel_rfl,rfl⟩
instance fi91:FnI Tryz.prog 91:=⟨_,Tryz.func91,by kernel_rfl,rfl⟩
instance fi148:FnI Tryz.prog 148:=⟨_,Tryz.func148,by kernel_rfl,rfl⟩
theorem c_KeptWhole (x:Wh) (hl:x.l.length≤1048576):
  Ct Tryz.prog 78 [tWhK x,tWh x] (tB true):=by
 refine Ct.intro Tryz.func78 rfl Tryz.ntmps78 rfl ?_
 intro w F
 refine A11 ?_
 refine R2 (xd9 (ts:=[tWhK x,tWh x]) (y8 x x) fi66 rfl ⟨whK_le,Le.refl,trivial⟩) rfl rfl ?_
 refine A1 ?_
 refine RGon (decide_eq_true (by rfl)) rfl (xf2 fo28_1.h rfl) rfl ⟨rfl,trivial⟩ trivial trivial (xd0 (decide_eq_true (by rfl)) rfl rfl (0) ti26 rfl rfl rfl (At.g 1 rfl rfl) rfl (RGon (decide_eq_true (by rfl)) rfl (xf2 fo28_1.h rfl) rfl ⟨rfl,trivial⟩ trivial trivial (xd0 (decide_eq_true (by rfl)) rfl rfl (0) ti26 rfl rfl rfl (At.g 1 rfl rfl) rfl (RGon (decide_eq_true (by rfl)) rfl (x3 (c_KeptLimbs x.l hl) fi148 rfl) rfl ⟨rfl,rfl,trivial⟩ trivial trivial (R2 (xe3 (decide_eq_true (by rfl))) rfl rfl ?_)))))
 refine A4 ?_
 exact x4 Plain.mk' rfl rfl Le.refl
theorem c_KeptFrac (f:Fr) (h1:f.n.l.length≤1048576) (h2:f.d.l.length≤1048576):
  Ct Tryz.prog 37 [tFrK f,tFr f] (tB true):=by
 refine Ct.intro Tryz.func37 rfl Tryz.ntmps37 rfl ?_
 intro w F
 refine A11 ?_
 refine R2 (xd9 (ts:=[tFrK f,tFr f]) (xw9 f f) fi30 rfl ⟨frK_le,Le.refl,trivial⟩) rfl rfl ?_
 refine A1 ?_
 refine RGon (decide_eq_true (by rfl)) rfl (xf2 fo30_0.h rfl) rfl ⟨rfl,trivial⟩ trivial trivial (xd0 (decide_eq_true (by rfl)) rfl rfl (0) ti28 rfl rfl rfl (At.g 0 rfl rfl) rfl (RGon (decide_eq_true (by rfl)) rfl (xf2 fo30_0.h rfl) rfl ⟨rfl,trivial⟩ trivial trivial (xd0 (decide_eq_true (by rfl)) rfl rfl (0) ti28 rfl rfl rfl (At.g 0 rfl rfl) rfl (RGon (decide_eq_true (by rfl)) rfl (x3 (c_KeptWhole f.n h1) fi78 rfl) rfl ⟨rfl,rfl,trivial⟩ trivial trivial (R2 (xe3 (decide_eq_true (by rfl))) rfl rfl ?_)))))
 refine A5 ?_
 refine RGon rfl rfl (x3 (c_KeptWhole f.d h2) fi78 rfl) rfl ⟨rfl,rfl,trivial⟩ trivial trivial ?_
 refine A5 ?_
 exact x4 Plain.mk' rfl rfl Le.refl
theorem c_KeptValue (v:Va) (h1:v.f.n.l.length≤1048576) (h2:v.f.d.l.length≤1048576):
  Ct Tryz.prog 91 [tVaK v,tVa v] (tB true):=by
 refine Ct.intro Tryz.func91 rfl Tryz.ntmps91 rfl ?_
 intro w F
 refine A11 ?_
 refine R2 (xd9 (ts:=[tVaK v,tVa v]) (y6 v v) fi8 rfl ⟨vaK_le,Le.refl,trivial⟩) rfl rfl ?_
 refine A1 ?_
 refine RGon (decide_eq_true (by rfl)) rfl (xf2 fo32_1.h rfl) rfl ⟨rfl,trivial⟩ trivial trivial (xd0 (decide_eq_true (by rfl)) rfl rfl (0) ti30 rfl rfl rfl (At.g 1 rfl rfl) rfl (RGon (decide_eq_true (by rfl)) rfl (xf2 fo32_1.h rfl) rfl ⟨rfl,trivial⟩ trivial trivial (xd0 (decide_eq_true (by rfl)) rfl rfl (0) ti30 rfl rfl rfl (At.g 1 rfl rfl) rfl (RGon (decide_eq_true (by rfl)) rfl (x3 (c_KeptFrac v.f h1 h2) fi37 rfl) rfl ⟨rfl,rfl,trivial⟩ trivial trivial (R2 (xe3 (decide_eq_true (by rfl))) rfl rfl ?_)))))
 refine A4 ?_
 exact x4 Plain.mk' rfl rfl Le.refl
theorem c_KeptStep (s:Tst) (h1:s.v.f.n.l.length≤1048576) (h2:s.v.f.d.l.length≤1048576):
  Ct Tryz.prog 51 [tTsW s,tTs s] (tB true):=by
 refine Ct.intro Tryz.func51 rfl Tryz.ntmps51 rfl ?_
 intro w F
 refine A11 ?_
 refine R2 (xd9 (ts:=[_,_]) (c_SameStep s s) fi52 rfl ⟨tsW_le,Le.refl,trivial⟩) rfl rfl ?_
 refine A1 ?_
 refine RGon (decide_eq_true (by rfl)) rfl (xf2 fo34_2.h rfl) rfl ⟨rfl,trivial⟩ trivial trivial (xd0 (decide_eq_true (by rfl)) rfl rfl (0) ti32 rfl rfl rfl (At.g 2 rfl rfl) rfl (RGon (decide_eq_true (by rfl)) rfl (xf2 fo34_2.h rfl) rfl ⟨rfl,trivial⟩ trivial trivial (xd0 (decide_eq_true (by rfl)) rfl rfl (0) ti32 rfl rfl rfl (At.g 2 rfl rfl) rfl (RGon (decide_eq_true (by rfl)) rfl (xd9 (ts:=[_,_]) (c_KeptValue s.v h1 h2) fi91 rfl ⟨vaWK,Le.refl,trivial⟩) rfl ⟨rfl,rfl,trivial⟩ trivial trivial (R2 (xe3 (decide_eq_true (by rfl))) rfl rfl ?_)))))
 refine A4 ?_
 exact x4 Plain.mk' rfl rfl Le.refl
theorem c_markStep1 (i:Nat) (hi:i < 10000000):Ct Tryz.prog 43 [tI 1,tI i] (tTs (smk 1 i)):=(c_markStep 1 i (by decide) hi).toCt fun _=>tG_le
theorem c_KeptSteps (l:List Tst) (hl:l.length≤60) (hs: ∀s∈l,s.v.f.n.l.length≤1048576∧s.v.f.d.l.length≤1048576):
  Ct Tryz.prog 23 [tStW l,tL 8 true tTs l] (tB true):=by
 have hml:(lmT l++mmT mkT).length=l.length+12:=by rw [List.length_append,xj8,xu5,xo4]
 have hll:(lmT l).length=l.length:=xj8
 refine Ct.intro Tryz.func23 rfl Tryz.ntmps23 rfl ?_
 intro w F
 refine A9 ?_
 refine R1 (d_lenW Tryz.underlying22 hll) rfl ?_
 refine A5 ?_
 refine xb2 rfl (decide_eq_false (by omega)) ?_
 refine A8 ?_
 refine R2 (d_sliceW sl22 (by rw [hll,xu5,xo4];omega)) rfl rfl ?_
 refine A10 ?_
 refine cL (fun (i:Nat)=>i≤(lmT l++mmT mkT).length) (fun (i:Nat)=>upd (upd (upd (fun _=>none) 1 (some (.val (tL 8 true tTs l)))) 5 (some (.val (tL 8 true tTsM (lmT l++mmT mkT))))) 6 (some (.val (tI i)))) (fun (i:Nat)=>fun _=>none) [] (fun (i:Nat)=>(lmT l++mmT mkT).length - i) (0) (Nat.zero_le _) ?_
 intro i hI
 refine A9 ?_
 refine x8 rfl (fun h394=> ?_) (fun h394=> ?_)
 ·
  refine A11 ?_
  refine RGcaseD (t:=27) rfl (fun h395=> ?_) (fun h395=> ?_)
  ·
   refine A2 ?_
   refine RGon (decide_eq_true h395) rfl (x6 sl22 i (by omega) (gD (l:=(lmT l++mmT mkT)) (n:=i) (d:=tm0) (by omega))) rfl ⟨rfl,rfl,trivial⟩ trivial trivial ?_
   refine A3 ?_
   refine RGon (decide_eq_true h395) rfl (x6 sl22 i (by omega) (gD (l:=l) (n:=i) (d:=tst0) (by omega))) rfl ⟨rfl,rfl,trivial⟩ trivial trivial ?_
   refine A1 ?_
   refine RGon (decide_eq_true h395) rfl (xd9 (ts:=[_,_]) (c_KeptStep (l.getD i tst0) (hs _ (xd5 (l:=l) (by omega))).1 (hs _ (xd5 (l:=l) (by omega))).2) fi51 rfl ⟨(by rw [lm_l (by omega)];exact Le.refl),Le.refl,trivial⟩) rfl ⟨rfl,rfl,trivial⟩ trivial trivial ?_
   refine A8 ?_
   refine RGoff (decide_eq_false (by omega)) rfl rfl (RGoff (decide_eq_false (by omega)) rfl rfl (RGoff (decide_eq_false (by omega)) rfl rfl (RGoff (decide_eq_false (by omega)) rfl rfl (RGoff (decide_eq_false (by omega)) rfl rfl (RGoff (decide_eq_false (by omega)) rfl rfl (RGoff (decide_eq_false (by omega)) rfl rfl (RGoff (decide_eq_false (by omega)) rfl rfl ?_)))))))
   refine RGoff (decide_eq_false (by omega)) rfl rfl (RGoff (decide_eq_false (by omega)) rfl rfl (RGoff (decide_eq_false (by omega)) rfl rfl (RGon rfl rfl (xc7 (decide_eq_false (by omega))) rfl ⟨rfl,rfl,trivial⟩ trivial trivial ?_)))
   refine A12 ?_
   exact kF (i+1) ⟨(by omega),(by omega)⟩
  ·
   refine A17 ?_
   refine RGon (decide_eq_true (by omega)) rfl x5 rfl ⟨rfl,trivial⟩ trivial trivial (RGon (decide_eq_true (by omega)) rfl x5 rfl ⟨rfl,trivial⟩ trivial trivial (RGon (decide_eq_true (by omega)) rfl (x6 sl22 i (by omega) (gD (l:=(lmT l++mmT mkT)) (n:=i) (d:=tm0) (by omega))) rfl ⟨rfl,rfl,trivial⟩ trivial trivial (RGon (decide_eq_true (by omega)) rfl (xh5 ti34) rfl ⟨rfl,trivial⟩ trivial trivial (RGon (decide_eq_true (by omega)) rfl x5 rfl ⟨rfl,trivial⟩ trivial trivial (RGon (decide_eq_true (by omega)) rfl x5 rfl ⟨rfl,trivial⟩ trivial trivial (RGon (decide_eq_true (by omega)) rfl (d_len Tryz.underlying22) rfl ⟨rfl,trivial⟩ trivial trivial (RGon (decide_eq_true (by omega)) rfl (xe6 (r:=((i - l.length:Nat):Int)) (by rw [wr64 (by omega) (by omega)];omega)) rfl ⟨rfl,rfl,trivial⟩ trivial trivial ?_)))))))
   refine RGon (decide_eq_true (by omega)) rfl (xd9 (ts:=[_,_]) (c_markStep1 (i - l.length) (by omega)) fi43 rfl ⟨Le.refl,Le.refl,trivial⟩) rfl ⟨rfl,rfl,trivial⟩ trivial trivial (RGon (decide_eq_true (by omega)) rfl (xd9 (ts:=[_,_]) (c_SameStep (smk 1 (i - l.length)) (smk 1 (i - l.length))) fi52 rfl ⟨(by rw [lm_r (by omega) (by rw [xo4];omega),mkT_at (by omega)];exact Le.refl),Le.refl,trivial⟩) rfl ⟨rfl,rfl,trivial⟩ trivial trivial (RGon (decide_eq_true (by omega)) rfl xi1 rfl ⟨rfl,trivial⟩ trivial trivial (RGon rfl rfl (xe3 (decide_eq_true (by omega))) rfl ⟨rfl,rfl,trivial⟩ trivial trivial ?_)))
   refine A3 ?_
   refine xb2 rfl (xc4 (by rfl)) ?_
   refine A8 ?_
   exact kF (i+1) ⟨(by omega),(by omega)⟩
 ·
  refine A11 ?_
  exact x4 Plain.mk' rfl rfl Le.refl
instance fi39:FnI Tryz.prog 39:=⟨_,Tryz.func39,by kernel_rfl,rfl⟩
instance fi79:FnI Tryz.prog 79:=⟨_,Tryz.func79,by kernel_rfl,rfl⟩
instance fi80:FnI Tryz.prog 80:=⟨_,Tryz.func80,by kernel_rfl,rfl⟩
instance fi149:FnI Tryz.prog 149:=⟨_,Tryz.func149,by kernel_rfl,rfl⟩
instance fi150:FnI Tryz.prog 150:=⟨_,Tryz.func150,by kernel_rfl,rfl⟩
def ovr (l:List Nat):Nat→List Nat
 | 0=>l
 | k+1=>(ovr l k).set k ((9000027+k)%65536)
theorem ovr_len {l:List Nat}: ∀{k:Nat},(ovr l k).length=l.length
 | 0=>rfl
 | k+1=>by rw [ovr,List.length_set,ovr_len]
theorem cutM2 {i:Nat}:IntKind.u16.wrap (1000003*(((2:Nat):Int)+7)+(i:Int))=(((9000027+i)%65536:Nat):Int):=by rw [mu16];omega
theorem c_mark2 (i:Nat) (hi:i < 10000000):Ct Tryz.prog 84 [tI 2,tI i] (tI (1000003*(((2:Nat):Int)+7)+(i:Int))):=c_markK 2 i (by decide) hi
theorem c_markStep2 (i:Nat) (hi:i < 10000000):Ct Tryz.prog 43 [tI 2,tI i] (tTs (smk 2 i)):=(c_markStep 2 i (by decide) hi).toCt fun _=>tG_le
theorem c_OverLimbsG (l:List Nat) (n:Nat) (hn:n+12≤l.length) (hb:n≤9000000):
  CtG Tryz.prog 150 [(1,⟨42,1,false,rW .u16 l⟩)] [.own (.sl 1 1 0 n)] (.val (tT [])) [(1,⟨42,1,false,rW .u16 (ovr l (n+12))⟩)] []:=by
 refine CtG.intro [1] Tryz.func150 rfl Tryz.ntmps150 rfl rfl ⟨⟨rfl,xf3⟩,trivial⟩ ?_
 intro w F η
 refine A4 ?_
 refine RE (d_capO Tryz.underlying26) ⟨rfl,trivial⟩ ⟨rfl,trivial⟩ trivial ?_
 refine A3 ?_
 refine R2 (d_minX (v:=((n+12:Nat):Int)) (fun q hq=>by rw [xn0] at hq;omega)) rfl rfl (RE (d_sliceOX sl26 (n+12) rfl (by rw [xn0];omega)) ⟨rfl,rfl,trivial⟩ ⟨rfl,trivial⟩ trivial ?_)
 refine A9 ?_
 refine cL (fun (i:Nat)=>i≤n+12) (fun (i:Nat)=>upd (upd (fun _=>none) 2 (some (.own (.sl 1 1 0 (n+12))))) 3 (some (.val (tI i)))) (fun (i:Nat)=>upd (fun _=>none) 1 (some (⟨42,1,false,rW .u16 (ovr l i)⟩))) [1] (fun (i:Nat)=>n+12 - i) (0) (Nat.zero_le _) (hh:=((SubK.consI rfl (ImpK.of rfl)) SubK.nil)) ?_
 intro i hI
 refine A9 ?_
 refine x8 rfl (fun h85=> ?_) (fun h85=> ?_)
 ·
  refine A8 ?_
  refine R2 (x3 (c_mark2 i (by omega)) fi84 rfl) rfl rfl (R1 (xa2 Tryz.underlying42 (isS Tryz.underlying3) cutM2) rfl (R2 (xa4 sl26 (by omega) (by omega) rfl) rfl rfl (RE (xc9 (i) ti42 (xk7 (by rw [ovr_len];omega)) (by omega) (xi5 (m:=_) rfl)) ⟨rfl,rfl,trivial⟩ ⟨rfl,trivial⟩ trivial ?_)))
  refine A8 ?_
  exact kF (i+1) ⟨(by omega),(by omega)⟩ (hh:=((SubK.consI rfl (ImpK.of rfl)) SubK.nil))
 ·
  have him:i=n+12:=by omega
  subst him
  refine A4 ?_
  exact E_retG0 LentC.mk' rfl (.inr rfl) ⟨rfl,trivial⟩ ⟨⟨rfl,xf3⟩,trivial⟩ rfl
theorem v_OverLimbs (V:VM) (n:Nat) (hb:n≤9000000):CtV Tryz.prog (XV 42 V) 150 [] [.val (tSlV V n)] 0 0:=by
 intro w η vs hvs _ _ hD hJ
 match vs,hvs with
 | [v],hvs=>
 obtain ⟨b,m,c,rfl,hV,hm⟩:=hvs.1
 have hJ:JV _ V w:=hJ
 obtain ⟨cs,h1,h2,h3,h4,h5⟩:=hJ b m c hV
 obtain ⟨xs,x1,x2⟩:=list_of (α:=Nat) (p:=fun i x=>cs[i]? =some (.int .u16 x)) m h5
 have hown: ∀b',OwnK (⟨fun _=>b,fun _=>c,fun _=>False⟩:Env) [(1,⟨42,1,false,rW .u16 xs⟩)] b'→b'=b:=by
  rintro b' ⟨x,hx,_,rfl⟩
  rfl
 refine (c_OverLimbsG xs n (by omega) hb (fun _=>False) w ⟨fun _=>b,fun _=>c,fun _=>False⟩ [.slice (some ⟨b,0,none⟩) n c] ⟨⟨_,rfl,?_,fun _=> ?_⟩,trivial⟩ ?_ ?_ (fun _ h=>h.elim)).mono ?_
 ·show 0+n≤c;omega
 ·simp
 ·intro x hx
  rw [List.mem_singleton] at hx
  subst hx
  refine ⟨by rw [xn0,x1];exact h3,(show 0 < 1 by decide),fun _=>rfl,h4,fun _=>⟨cs,h1,by rw [h2,Nat.mul_one],fun i e he=> ?_⟩⟩
  rw [rW,List.getElem?_map] at he
  obtain ⟨y,hy,rfl⟩:=Option.map_eq_some_iff.1 he
  show pick false 1 cs (i*1)=_
  have:=x2 i y hy
  rw [Nat.mul_one,pick,cond_false,Array.getD_eq_getD_getElem?,this];rfl
 ·intro x hx y hy hne
  rw [List.mem_singleton] at hx hy
  subst hx hy;exact absurd rfl hne
 ·rintro e w' ⟨u,η',rfl,ho⟩
  have hu:u= .tuple #[]:=by
   obtain ⟨us,e1,e2⟩:=ho.res
   cases us with
   | nil=>exact e1
   | cons _ _=>exact e2.elim
  have es:=ho.same 1 (by simp)
  refine ⟨by rw [hu],ho.stp.mono fun b' _ hb'=> .inr ?_,fun b' m' c' hV'=> ?_⟩
  ·rw [hown b' hb'];exact ⟨_,hV⟩
  ·by_cases hbb:b'=b
   ·subst hbb
    rw [hV] at hV'
    cases hV'
    have hk:=ho.keys _ (List.mem_singleton.2 rfl)
    obtain ⟨k1,k2,k3,k4,k5⟩:=hk
    have ec:η'.c 1=c:=es.2
    have eb:η'.b 1=b':=es.1
    simp only at k1 k4 k5
    rw [ec] at k1 k4 k5
    rw [eb] at k5
    rw [xn0,ovr_len,x1] at k1
    obtain ⟨cs',g1,g2,g3⟩:=k5 (by omega)
    refine ⟨cs',g1,by rw [g2,Nat.mul_one],h3,h4,fun i hi=> ?_⟩
    have:=g3 i _ (xq1 (by rw [ovr_len,x1];exact hi))
    have h0:pick false 1 cs' (i*1)= .int .u16 ((ovr xs (n+12)).getD i 0:Nat):=this
    rw [Nat.mul_one,pick,cond_false,Array.getD_eq_getD_getElem?] at h0
    cases hg:cs'[i]? with
    | none=>rw [Array.getElem?_eq_none_iff] at hg;rw [g2] at hg;omega
    | some z=>rw [hg] at h0;exact ⟨_,by rw [show z=_ from h0]⟩
   ·obtain ⟨cs0,z1,z2⟩:=hJ b' m' c' hV'
    exact ⟨cs0,(ho.stp.block b' (xc1 z1) fun h=>hbb (hown b' h)).trans z1,z2⟩
abbrev tWhV (V:VM) (x:Wh):Ty:=tS [⟨1,false,tB x.neg⟩,⟨1,false,tSlV V x.l.length⟩]
abbrev tFrV (V:VM) (f:Fr):Ty:=tS [⟨2,true,tWhV V f.n⟩,⟨2,true,tWhV V f.d⟩]
abbrev tVaV (V:VM) (v:Va):Ty:=tS [⟨1,false,tE (.int .u8 (v.kind:Int))⟩,⟨4,true,tFrV V v.f⟩,⟨1,false,tI v.i⟩]
abbrev tTsV (V:VM) (s:Tst):Ty:=tS [⟨1,false,tI s.lo⟩,⟨1,false,tI s.hi⟩,⟨6,true,tVaV V s.v⟩]
theorem free_wh {V:VM} {x:Wh}:Free (tWhV V x):=Free.S ⟨Free.E,free_tSlV,trivial⟩
theorem free_fr {V:VM} {f:Fr}:Free (tFrV V f):=Free.S ⟨free_wh,free_wh,trivial⟩
theorem free_va {V:VM} {v:Va}:Free (tVaV V v):=Free.S ⟨Free.E,free_fr,Free.E,trivial⟩
theorem free_ts {V:VM} {s:Tst}:Free (tTsV V s):=Free.S ⟨Free.E,Free.E,free_va,trivial⟩
abbrev tTsVM (V:VM) (x:Tst×Bool):Ty:=cond x.2 (tTsV V x.1) (tTs x.1)
instance {V:VM} {x:Tst×Bool}:Shape (tTsVM V x) 8 true:=by
 obtain ⟨s,b⟩:=x
 cases b
 ·exact (inferInstance:Shape (tTs s) 8 true)
 ·exact (inferInstance:Shape (tTsV V s) 8 true)
theorem rowV {V:VM} {l:List Tst} {m:List Tst} {i:Nat} (h:i < l.length):(rV (tTsVM V) (lmT l++mmT m))[i]? =some (.val (tTsV V (l.getD i tst0))):=by
 have:=xg8 (f:=tTsVM V) (xs:=lmT l++mmT m) (i:=i) (d:=tm0) (by rw [List.length_append,xj8];omega)
 rw [lm_l h] at this;exact this
theorem v_OverWhole (V:VM) (x:Wh) (hb:x.l.length≤9000000):
  CtV Tryz.prog (XV 42 V) 80 [] [.val (tWhV V x)] 0 0:=by
 refine CtV.intro 99 [] Tryz.func80 rfl Tryz.ntmps80 rfl rfl trivial rfl ?_
 intro w η hV
 refine A8 ?_
 refine RE (xt0 hV (us:=[_]) (v_OverLimbs V _ hb) fi150 ⟨free_tSlV,trivial⟩ rfl) ⟨rfl,trivial⟩ ⟨rfl,trivial⟩ trivial ?_
 refine A1 ?_
 exact E_retV hV rfl (.inr rfl) rfl
theorem v_OverFrac (V:VM) (f:Fr) (h1:f.n.l.length≤9000000) (h2:f.d.l.length≤9000000):
  CtV Tryz.prog (XV 42 V) 39 [] [.val (tFrV V f)] 0 0:=by
 refine CtV.intro 99 [] Tryz.func39 rfl Tryz.ntmps39 rfl rfl trivial rfl ?_
 intro w η hV
 refine A9 ?_
 refine RE (xt0 hV (us:=[_]) (v_OverWhole V _ h1) fi80 ⟨free_wh,trivial⟩ rfl) ⟨rfl,trivial⟩ ⟨rfl,trivial⟩ trivial ?_
 refine A5 ?_
 refine RE (xt0 hV (us:=[_]) (v_OverWhole V _ h2) fi80 ⟨free_wh,trivial⟩ rfl) ⟨rfl,trivial⟩ ⟨rfl,trivial⟩ trivial ?_
 refine A1 ?_
 exact E_retV hV rfl (.inr rfl) rfl
theorem v_OverValue (V:VM) (v:Va) (h1:v.f.n.l.length≤9000000) (h2:v.f.d.l.length≤9000000):
  CtV Tryz.prog (XV 42 V) 149 [] [.val (tVaV V v)] 0 0:=by
 refine CtV.intro 99 [] Tryz.func149 rfl Tryz.ntmps149 rfl rfl trivial rfl ?_
 intro w η hV
 refine A8 ?_
 refine RE (xt0 hV (us:=[_]) (v_OverFrac V _ h1 h2) fi39 ⟨free_fr,trivial⟩ rfl) ⟨rfl,trivial⟩ ⟨rfl,trivial⟩ trivial ?_
 refine A1 ?_
 exact E_retV hV rfl (.inr rfl) rfl
theorem v_OverStep (V:VM) (s:Tst) (h1:s.v.f.n.l.length≤9000000) (h2:s.v.f.d.l.length≤9000000):
  CtV Tryz.prog (XV 42 V) 79 [] [.val (tTsV V s)] 0 0:=by
 refine CtV.intro 99 [] Tryz.func79 rfl Tryz.ntmps79 rfl rfl trivial rfl ?_
 intro w η hV
 refine A8 ?_
 refine RE (xt0 hV (us:=[_]) (v_OverValue V _ h1 h2) fi149 ⟨free_va,trivial⟩ rfl) ⟨rfl,trivial⟩ ⟨rfl,trivial⟩ trivial ?_
 refine A1 ?_
 exact E_retV hV rfl (.inr rfl) rfl
theorem v_OverSteps (V:VM) (l:List Tst) (hl:l.length≤60) (hs: ∀s∈l,s.v.f.n.l.length≤9000000∧s.v.f.d.l.length≤9000000):
  CtV Tryz.prog (XV 42 V) 38 [(1,⟨34,8,true,rV (tTsVM V) (lmT l++mmT mkT)⟩)] [.own (.sl 1 8 0 l.length)] 0 0:=by
 have hml:(lmT l++mmT mkT).length=l.length+12:=by rw [List.length_append,xj8,xu5,xo4]
 refine CtV.intro 99 [1] Tryz.func38 rfl Tryz.ntmps38 rfl rfl ⟨⟨rfl,xb0⟩,trivial⟩ rfl ?_
 intro w η hV
 refine A7 ?_
 refine cL (fun (i:Nat)=>i≤l.length) (fun (i:Nat)=>upd (upd (fun _=>none) 0 (some (.own (.sl 1 8 0 l.length)))) 2 (some (.val (tI i)))) (fun (i:Nat)=>upd (upd (fun _=>none) 1 (some (⟨34,8,true,rV (tTsVM V) (lmT l++mmT mkT)⟩))) 99 (some (⟨0,1,false,[]⟩))) [1,99] (fun (i:Nat)=>l.length - i) (0) (Nat.zero_le _) (hh:=((SubK.consI rfl ImpK.refl) ((SubK.consI rfl ImpK.refl) SubK.nil))) ?_
 intro i hI
 refine A9 ?_
 refine x8 rfl (fun h403=> ?_) (fun h403=> ?_)
 ·
  refine A7 ?_
  refine R2 (xa4 sl22 (by omega) (by omega) rfl) rfl rfl (RE (xb7 (i) ti34 (rowV (by omega)) (by omega)) ⟨rfl,trivial⟩ ⟨rfl,trivial⟩ trivial (RE (xt0 hV (us:=[_]) (v_OverStep V (l.getD i tst0) (hs _ (xd5 (l:=l) (by omega))).1 (hs _ (xd5 (l:=l) (by omega))).2) fi79 ⟨free_ts,trivial⟩ rfl) ⟨rfl,trivial⟩ ⟨rfl,trivial⟩ trivial ?_))
  refine A8 ?_
  exact kF (i+1) ⟨(by omega),(by omega)⟩ (hh:=((SubK.consI rfl ImpK.refl) ((SubK.consI rfl ImpK.refl) SubK.nil)))
 ·
  refine A9 ?_
  refine RE (d_capO Tryz.underlying22) ⟨rfl,trivial⟩ ⟨rfl,trivial⟩ trivial ?_
  refine A3 ?_
  refine R2 (d_minX (v:=((l.length+12:Nat):Int)) (fun q hq=>by rw [xe5,hml] at hq;omega)) rfl rfl (RE (d_sliceOX sl22 (l.length+12) rfl (by have:=hml;rw [xe5];omega)) ⟨rfl,rfl,trivial⟩ ⟨rfl,trivial⟩ trivial ?_)
  refine A9 ?_
  refine cL (fun (fm:(Nat)×(List (Tst×Bool)))=>(fun (i:Nat) (xs:List (Tst×Bool))=>i≤l.length+12∧xs.length=l.length+12) fm.1 fm.2) (fun (fm:(Nat)×(List (Tst×Bool)))=>(fun (i:Nat) (xs:List (Tst×Bool))=>upd (upd (fun _=>none) 3 (some (.own (.sl 1 8 0 (l.length+12))))) 4 (some (.val (tI i)))) fm.1 fm.2) (fun (fm:(Nat)×(List (Tst×Bool)))=>(fun (i:Nat) (xs:List (Tst×Bool))=>upd (upd (fun _=>none) 1 (some (⟨34,8,true,rV (tTsVM V) xs⟩))) 99 (some (⟨0,1,false,[]⟩))) fm.1 fm.2) [1,99] (fun (fm:(Nat)×(List (Tst×Bool)))=>(fun (i:Nat) (xs:List (Tst×Bool))=>l.length+12 - i) fm.1 fm.2) ((0,(lmT l++mmT mkT))) (by dsimp only;exact ⟨Nat.zero_le _,hml⟩) (hh:=((SubK.consI rfl ImpK.refl) ((SubK.consI rfl ImpK.refl) SubK.nil))) ?_
  intro fm hI
  obtain ⟨i,xs⟩:=fm
  replace hI:i≤l.length+12∧xs.length=l.length+12:=hI
  show wc _ _ _ _ (upd (upd (fun _=>none) 3 (some (.own (.sl 1 8 0 (l.length+12))))) 4 (some (.val (tI i)))) (upd (upd (fun _=>none) 1 (some (⟨34,8,true,rV (tTsVM V) xs⟩))) 99 (some (⟨0,1,false,[]⟩))) _
  obtain ⟨hi,hxl⟩:=hI
  refine A9 ?_
  refine x8 rfl (fun h407=> ?_) (fun h407=> ?_)
  ·
   refine A8 ?_
   refine R2 (x3 (c_markStep2 i (by omega)) fi43 rfl) rfl rfl (R2 (xa4 sl22 (by omega) (by omega) rfl) rfl rfl (RE (xc9 (e:= .val (tTs (smk 2 i))) (i) ti34 (rV_lt (f:=tTsVM V) (xs:=xs) (by omega)) (by omega) (xk5 (f:=tTsVM V) (xs:=xs) (t:=tTs (smk 2 i)) (m:=(smk 2 i,false)) rfl)) ⟨rfl,rfl,trivial⟩ ⟨rfl,trivial⟩ trivial ?_))
   refine A8 ?_
   exact kF ((i+1,xs.set i (smk 2 i,false))) ⟨(by dsimp only;exact ⟨by omega,by rw [List.length_set];exact hxl⟩),(by dsimp only;omega)⟩ (hh:=((SubK.consI rfl ImpK.refl) ((SubK.consI rfl ImpK.refl) SubK.nil)))
  ·
   refine A4 ?_
   exact E_retV hV rfl (.inr rfl) rfl
end An.S
namespace An
open Go
section
variable {P:Program} {g:Slots} {h:Keys} {al:Names} {Q:Exit→Act→World→Prop}
abbrev ovb (N:Nat) (w0:World) (F:Dom) (K:Nat) (X:OvJ):Base:=Base.over N w0 F ⟨fun _=>0,fun _=>0,fun _=>False⟩ [] [] K X
theorem RBase.ov {N:Nat} {w0:World} {F:Dom} {K:Nat} {X:OvJ} (h: ∀b,X.D b→w0.heap.size≤b):RBase (ovb N w0 F K X) w0:=⟨Ext.refl w0,fun _ ⟨_,hx,_⟩=>(by cases hx),h⟩
theorem C_lentK {N:Nat} {w0:World} {F:Dom} {x:Code} (K T s k TK es:Nat) {W U:Ty} {agg:Bool} {g':Value→Slots} {h':Value→Keys} (hs:g s=some (.val (tG (up w0.heap.size) W))) (hk:h k=some ⟨TK,es,agg,[.val (tG (up w0.heap.size) U)]⟩) (hK:al K=false)
  (hg: ∀(a:Act) (L:Dom),(∀b,L b→w0.heap.size≤b)→SlC (fun b=> ¬L b) a g (g' (a.tmps.getD s undef)))
  (hh: ∀(w:World) (η:Env) (L:Dom),(∀b,L b→w0.heap.size≤b)→KyC (fun b=> ¬L b) w η h (h' (kval w η k ⟨TK,es,agg,[.val (tG (up w0.heap.size) U)]⟩ 0)))
  (H: ∀(L:Dom) (w1:World) (v u:Value),W.p L w1 v→U.p L w1 u→(∀b,L b→b < w1.heap.size)→(∀b,L b→w0.heap.size≤b)→wc P (ovb N w0 F K (XL T L w1)) x Q (g' v) (upd (h' u) K (some ⟨0,1,false,[]⟩)) (fun j=>al j || Nat.beq j K)):
  wc P (Base.plain N w0 F) x Q g h al:=by
 refine C_at fun a w hs'=> ?_
 obtain ⟨η,st⟩:=hs'
 have hv:=st.slotv hs
 have hu:=st.keyv hk
 exact ⟨ovb N w0 F K (XL T (fun b=>(b < w.heap.size∧ ¬Own h η b)∧up w0.heap.size b) w),g' (a.tmps.getD s undef),_,_,rfl,st.over K (XL T (fun b=>(b < w.heap.size∧ ¬Own h η b)∧up w0.heap.size b) w) (fun b hb=>⟨hb.2,hb.1.1,hb.1.2⟩) ⟨fun _ b _=>rfl,fun h=>(by cases h),fun b hb=>hb.1.1⟩ hK (hg a _ fun b hb=>hb.2) (hh w η _ fun b hb=>hb.2),H _ w _ _ hv hu (fun b hb=>hb.1.1) fun b hb=>hb.2⟩
end
theorem tG_old {n:Nat} {L:Dom} {t:Ty} (h: ∀b,L b→n≤b):Le (tG (fun b=>b < n) t) (tG (fun b=> ¬L b) t):=tG_sub fun b hb hl=>by have:=h b hl;omega
theorem XL_hand {T:Nat} {L F:Dom} {w1 w:World} {W:Ty} {v:Value} (hW:W.p L w1 v) (hJ:(XL T L w1).J 0 w):W.p (fun b=>F b∨L b) w v:=W.mono hW fun b _ hb hl _=>⟨.inr hb,(hJ.1 rfl b hb).trans hl⟩
def HandL (T:Nat) (L:Dom) (w1:World):List Ty→List Ty→Prop
 | [],[]=>True
 | t::r,u::s=>(Le t u∨ ∃v,t=tE v∧u.p L w1 v)∧HandL T L w1 r s
 | _,_=>False
theorem HandL.all {T:Nat} {L F:Dom} {w1 w:World} (hJ:(XL T L w1).J 0 w): ∀{ts us:List Ty} {vs:List Value},HandL T L w1 ts us→Tup.all F w ts vs→Tup.all (fun b=>F b∨L b) w us vs
 | [],[],[],_,_=>trivial
 | t::r,u::s,v::vs,h,hv=>by
  refine ⟨?_,HandL.all hJ h.2 hv.2⟩
  rcases h.1 with h1 | ⟨v',rfl,h2⟩
  ·exact u.mono (h1 _ _ _ hv.1) fun b _ hb hl _=>⟨.inl hb,hl⟩
  ·have e:v=v':=hv.1
   subst e;exact XL_hand h2 hJ
 | [],[],_::_,_,hv=>hv.elim
 | _::_,_::_,[],_,hv=>hv.elim
 | [],_::_,_,h,_=>h.elim
 | _::_,[],_,h,_=>h.elim
section
variable {P:Program} {c:Base} {d ty:Nat} {pos:String} {af:Array Edge} {gd:Option (Nat×Bool)}
theorem d_callH {T K:Nat} {L:Dom} {w1:World} {f:FuncId} {xs:List Operand} {aT:Array TypeId} {us us':List Ty} {rr:Nat→Ty} {r:Ty} {w0:World} {η0:Env} {H:List (Nat×HEnt)} (hp:OvC c w0 η0 H K (XL T L w1)) (hc:CtN P f us rr) (hf:FnI P f) (hr: ∀m F w v,(rr m).p F w v→r.p (fun b=>F b∧m≤b) w v)
  (ha:HandL T L w1 us' us) (hl:xs.length=us'.length):
  Does P c ⟨some d,.call {callee:= .value (.func f),args:=xs.toArray,argTypes:=aT},ty,pos,af,gd⟩ ⟨xs.zip (us'.map Ent.val),[(K,⟨0,1,false,[]⟩)],some (d,some (.val r)),[],[]⟩:=
 d_callX hp hc hf hr (fun _ _ _ hJ hv=>HandL.all hJ ha hv) hl
end
theorem hrE {rr:Nat→Ty} {u:Value} (h: ∀m,rr m=tE u) (m:Nat) (F:Dom) (w:World) (v:Value) (hp:(rr m).p F w v):(tE u).p (fun b=>F b∧m≤b) w v:=by rw [h m] at hp;exact hp
theorem hrT {t:Ty} {u:Value} (m:Nat) (F:Dom) (w:World) (v:Value) (hp:(tT [tG (up m) t,tE u]).p F w v):(tT [t,tE u]).p (fun b=>F b∧m≤b) w v:=by
 obtain ⟨vs,h1,h2⟩:=hp
 refine ⟨vs,h1,?_⟩
 match vs,h2 with
 | [a,b],h2=>exact ⟨h2.1,h2.2.1,trivial⟩
 | [],h2=>exact h2.elim
 | [_],h2=>exact h2.2.elim
 | _::_::_::_,h2=>exact h2.2.2.elim
end An
namespace An.S
open Go Go.Proofs An
def Trs (F F':Dom) (w w':World):List Fd→List Fd→Prop
 | [],[]=>True
 | f::r,g::s=>(f.n=g.n∧f.agg=g.agg∧ ∀v,f.t.p F w v→g.t.p F' w' v)∧Trs F F' w w' r s
 | _,_=>False
theorem Trs.sum {F F':Dom} {w w':World}: ∀{fs gs:List Fd},Trs F F' w w' fs gs→Fd.sum fs=Fd.sum gs
 | [],[],_=>rfl
 | _::_,_::_,h=>by rw [Fd.sum,Fd.sum,h.1.1,Trs.sum h.2]
 | [],_::_,h=>h.elim
 | _::_,[],h=>h.elim
theorem Trs.all {F F':Dom} {w w':World} {cs:Array Value}: ∀{fs gs:List Fd} {o:Nat},Trs F F' w w' fs gs→Fd.all F w cs o fs→Fd.all F' w' cs o gs
 | [],[],_,_,_=>trivial
 | f::r,g::s,o,h,ha=>by
  obtain ⟨⟨h1,h2,h3⟩,h4⟩:=h
  refine ⟨⟨by rw [←h1,←h2];exact ha.1.1,by rw [←h1,←h2];exact h3 _ ha.1.2⟩,?_⟩
  rw [←h1];exact Trs.all h4 ha.2
 | [],_::_,_,h,_=>h.elim
 | _::_,[],_,h,_=>h.elim
theorem Trs.S {F F':Dom} {w w':World} {fs gs:List Fd} (h:Trs F F' w w' fs gs): ∀v,(tS fs).p F w v→(tS gs).p F' w' v:=fun _ ⟨cs,h1,h2,h3⟩=>⟨cs,h1,h2.trans h.sum,h.all h3⟩
theorem lmW_V {L F:Dom} {w1 w:World} {l:List Nat} (v:Value) (h:(tLmW l).p L w1 v):(tSlV (vOf 42 L w1) l.length).p F w v:=by
 obtain ⟨b,c,cs,h1,hF,hh,h2,h3,h4,h5,h6,hx⟩:=h
 rw [Nat.mul_one] at h2
 obtain ⟨m,hm,hle⟩:=vOf_mk (n:=l.length+12) hF hh (by omega) (fun i hi=>by
  have hlt:i < (l++mk16).length:=by rw [List.length_append,mk16_len];omega
  have:=hx i _ (List.getElem?_eq_getElem hlt)
  have h0:pick false 1 cs (i*1)= .int .u16 (((l++mk16)[i]:Nat):Int):=this
  rw [Nat.mul_one,pick,cond_false,Array.getD_eq_getD_getElem?] at h0
  rw [mk16_len] at h5
  cases hg:cs[i]? with
  | none=>rw [Array.getElem?_eq_none_iff] at hg;omega
  | some z=>rw [hg] at h0;exact ⟨_,by rw [show z=_ from h0]⟩)
 exact ⟨b,m,cs.size,by rw [h1,h2],hm,hle⟩
theorem whW_V {L F:Dom} {w1 w:World} {x:Wh}: ∀v,(tWhW x).p L w1 v→(tWhV (vOf 42 L w1) x).p F w v:=Trs.S ⟨⟨rfl,rfl,fun _ h=>h⟩,⟨rfl,rfl,lmW_V⟩,trivial⟩
theorem frW_V {L F:Dom} {w1 w:World} {f:Fr}: ∀v,(tFrW f).p L w1 v→(tFrV (vOf 42 L w1) f).p F w v:=Trs.S ⟨⟨rfl,rfl,whW_V⟩,⟨rfl,rfl,whW_V⟩,trivial⟩
theorem vaW_V {L F:Dom} {w1 w:World} {x:Va}: ∀v,(tVaW x).p L w1 v→(tVaV (vOf 42 L w1) x).p F w v:=Trs.S ⟨⟨rfl,rfl,fun _ h=>h⟩,⟨rfl,rfl,frW_V⟩,⟨rfl,rfl,fun _ h=>h⟩,trivial⟩
theorem tsW_V {L F:Dom} {w1 w:World} {s:Tst}: ∀v,(tTsW s).p L w1 v→(tTsV (vOf 42 L w1) s).p F w v:=Trs.S ⟨⟨rfl,rfl,fun _ h=>h⟩,⟨rfl,rfl,fun _ h=>h⟩,⟨rfl,rfl,vaW_V⟩,trivial⟩
theorem Free.nil {α:Type} {es:Nat} {agg:Bool} {f:α→Ty}:Free (tL es agg f []):=fun _ _ _ _ _ ⟨A,c,h1,h2,h3,_⟩=>⟨A,c,h1,h2,h3,.inl rfl⟩
theorem free_smk {k i:Nat}:Free (tTs (smk k i)):=Free.S ⟨Free.E,Free.E,Free.S ⟨Free.E,Free.S ⟨Free.S ⟨Free.E,Free.nil,trivial⟩,Free.S ⟨Free.E,Free.nil,trivial⟩,trivial⟩,Free.E,trivial⟩,trivial⟩
theorem lm_mem {l:List Tst} {i:Nat} {x:Tst×Bool} (h:(lmT l++mmT mkT)[i]? =some x):x.2=true∨ ∃j,x=(smk 1 j,false):=by
 have hm:=List.mem_of_getElem? h
 rcases List.mem_append.1 hm with h1 | h1
 ·obtain ⟨s,_,rfl⟩:=List.mem_map.1 h1;exact .inl rfl
 ·obtain ⟨s,hs,rfl⟩:=List.mem_map.1 h1
  obtain ⟨j,_,rfl⟩:=List.mem_map.1 hs
  exact .inr ⟨j,rfl⟩
theorem tsM_V {L F:Dom} {w1 w:World} {x:Tst×Bool} (hx:x.2=true∨ ∃j,x=(smk 1 j,false)) {v:Value} (h:(tTsM x).p L w1 v):(tTsVM (vOf 42 L w1) x).p F w v:=by
 rcases hx with hx | ⟨j,rfl⟩
 ·obtain ⟨s,b⟩:=x
  have hx:b=true:=hx
  subst hx;exact tsW_V v h
 ·exact free_smk _ _ _ _ _ h
theorem v_OverStepsL (L:Dom) (w1:World) (l:List Tst) (hl:l.length≤60) (hs: ∀s∈l,s.v.f.n.l.length≤9000000∧s.v.f.d.l.length≤9000000) (v:Value) (hv:(tStW l).p L w1 v):CtV Tryz.prog (XL 42 L w1) 38 [] [.val (tE v)] 0 1:=by
 intro w η vs hvs _ _ hD hJ
 match vs,hvs with
 | [u],hvs=>
 have hu:u=v:=hvs.1
 subst hu
 obtain ⟨b,c,cs,e,hLb,hh,h2,h3,h4,h5,h6,hx⟩:=hv
 have hJ:(∀_:0=0,∀b,L b→w.heap[b]? =w1.heap[b]?)∧_:=hJ
 have hw:=(hJ.1 rfl b hLb).trans hh
 rw [xj8,xu5,xo4] at h5
 rw [xj8] at e
 have hown: ∀b',OwnK (⟨fun _=>b,fun _=>c,fun _=>False⟩:Env) [(1,⟨34,8,true,rV (tTsVM (vOf 42 (fun b'=>L b'∧b'≠b) w1)) (lmT l++mmT mkT)⟩)] b'→b'=b:=by
  rintro b' ⟨x,hx,_,rfl⟩
  rfl
 refine (v_OverSteps (vOf 42 (fun b'=>L b'∧b'≠b) w1) l hl hs w ⟨fun _=>b,fun _=>c,fun _=>False⟩ [u] ⟨⟨_,e,?_,fun _=> ?_⟩,trivial⟩ ?_ ?_ (fun b' hb'=> ?_) (vOf_JV fun b' hb=>hJ.1 rfl b' hb.1)).mono ?_
 ·show 0+l.length≤c;omega
 ·simp
 ·intro y hy
  rw [List.mem_singleton] at hy
  subst hy
  refine ⟨by rw [xe5,List.length_append,xj8,xu5,xo4];exact h5,h3,h4,h6,fun _=>⟨cs,hw,h2,fun i ent he=> ?_⟩⟩
  rw [rV,List.getElem?_map] at he
  obtain ⟨y,hy,rfl⟩:=Option.map_eq_some_iff.1 he
  exact tsM_V (lm_mem hy) (hx i y hy)
 ·intro x hx y hy hne
  rw [List.mem_singleton] at hx hy
  subst hx hy;exact absurd rfl hne
 ·obtain ⟨x,hxb⟩:=hb'
  have h7:=(xs2 (m:=x.1) (c:=x.2) hxb).1
  exact ⟨(hD b' h7.1).1,fun ho=>h7.2 (hown b' ho)⟩
 ·rintro e' w' ⟨r1,r2,r3⟩
  refine ⟨r1,r2.mono fun b' _ hb'=> .inr ?_,fun h=>(by cases h),fun _ b' m c' hV=> ?_,fun b' hb'=>Nat.lt_of_lt_of_le (hD b' hb').1 r2.size⟩
  ·rcases hb' with hb' | ⟨x,hxb⟩
   ·rw [hown b' hb'];exact hLb
   ·exact (xs2 (m:=x.1) (c:=x.2) hxb).1.1
  ·obtain ⟨k1,cs1,k2,_⟩:=xs2 hV
   have hne:b'≠b:=by
    rintro rfl
    rw [hh] at k2
    have k3:(34:Nat)=42:=by injection k2 with k2;injection k2
    exact absurd k3 (by decide)
   refine r3 b' m c' ?_
   rw [←hV];unfold vOf;rw [if_pos k1,if_pos ⟨k1,hne⟩]
theorem v_OverFracL (L:Dom) (w1:World) (f:Fr) (h1:f.n.l.length≤9000000) (h2:f.d.l.length≤9000000) (v:Value) (hv:(tFrW f).p L w1 v):CtV Tryz.prog (XL 42 L w1) 39 [] [.val (tE v)] 1 1:=by
 intro w η vs hvs _ _ hD hJ
 match vs,hvs with
 | [u],hvs=>
 have hu:u=v:=hvs.1
 subst hu
 have hJ1:JV 42 (vOf 42 L w1) w:=hJ.2.1 rfl
 refine (v_OverFrac (vOf 42 L w1) f h1 h2 w η [u] ⟨frW_V u hv,trivial⟩ (fun _ h=>(by cases h)) (fun _ h=>(by cases h)) (fun b' hb'=> ?_) hJ1).mono ?_
 ·obtain ⟨x,hxb⟩:=hb'
  exact hD b' (xs2 (m:=x.1) (c:=x.2) hxb).1
 ·rintro e' w' ⟨r1,r2,r3⟩
  refine ⟨r1,r2.mono fun b' _ hb'=> ?_,fun h=>(by cases h),fun _=>r3,fun b' hb'=>Nat.lt_of_lt_of_le (hD b' hb').1 r2.size⟩
  rcases hb' with hb' | ⟨x,hxb⟩
  ·exact .inl hb'
  ·exact .inr (xs2 (m:=x.1) (c:=x.2) hxb).1
instance fi207:FnI Tryz.prog 207:=⟨_,Tryz.func207,by kernel_rfl,rfl⟩
theorem fr0_eq {f:Fr} (h1:f.n.neg=false) (h2:f.d.neg=false) (h3:f.n.l.length=0) (h4:f.d.l.length=0):f=fr0:=by
 obtain ⟨⟨n1,l1⟩,⟨n2,l2⟩⟩:=f
 simp only at h1 h2 h3 h4
 rw [h1,h2,List.length_eq_zero_iff.1 h3,List.length_eq_zero_iff.1 h4];rfl
theorem fr0_ne {f:Fr} (h:f.n.neg=true∨f.d.neg=true∨0 < f.n.l.length∨0 < f.d.l.length):f≠fr0:=by
 rintro rfl
 rcases h with h | h | h | h <;> cases h
theorem va_no {v:Va} (h1: ¬(v.kind=2∨v.kind=3)) (h2:v.f≠fr0):v.valid=false:=by
 simp only [Va.valid]
 rw [if_neg h1,decide_eq_false h2]
 simp
theorem va_eq {u v:Va}:u=v↔u.kind=v.kind∧u.i=v.i∧u.f.n=v.f.n∧u.f.d=v.f.d:=by
 constructor
 ·rintro rfl;exact ⟨rfl,rfl,rfl,rfl⟩
 ·obtain ⟨k,⟨n,d⟩,i⟩:=u
  obtain ⟨k2,⟨n2,d2⟩,i2⟩:=v
  rintro ⟨h1,h2,h3,h4⟩
  simp only at h1 h2 h3 h4
  rw [h1,h2,h3,h4]
theorem c_R5Valid (v:Va) (hD:v.f.dig) (h1:v.f.n.l.length≤1048576) (h2:v.f.d.l.length≤1048576):
  Ct Tryz.prog 146 [tVa v] (tB v.valid):=by
 refine Ct.intro Tryz.func146 rfl Tryz.ntmps146 rfl ?_
 intro w F
 refine A13 ?_
 refine RGcaseD (t:=6) rfl (fun h14=> ?_) (fun h14=> ?_)
 ·
  refine A13 ?_
  refine RGcaseD (t:=14) rfl (fun h15=> ?_) (fun h15=> ?_)
  ·
   refine A2 ?_
   refine RGon (decide_eq_true h15) rfl (x3 (xq6 v.f hD.1 hD.2) fi71 rfl) rfl ⟨rfl,trivial⟩ trivial trivial ?_
   refine A6 ?_
   exact x4 Plain.mk' rfl rfl (Le.bool (by simp only [Va.valid];rw [if_pos (show v.kind=2∨v.kind=3 by omega),decide_eq_true h15,Bool.true_and]))
  ·
   refine A9 ?_
   exact x4 Plain.mk' rfl rfl (Le.bool (by simp only [Va.valid];rw [if_pos (show v.kind=2∨v.kind=3 by omega),decide_eq_false h15];rfl))
 ·
  refine A6 ?_
  refine x8 rfl (fun h14_2=> ?_) (fun h14_2=> ?_)
  ·
   refine A6 ?_
   refine RGcaseD (t:=14) rfl (fun h15=> ?_) (fun h15=> ?_)
   ·
    refine A2 ?_
    refine RGon (decide_eq_true h15) rfl (x3 (xq6 v.f hD.1 hD.2) fi71 rfl) rfl ⟨rfl,trivial⟩ trivial trivial ?_
    refine A6 ?_
    exact x4 Plain.mk' rfl rfl (Le.bool (by simp only [Va.valid];rw [if_pos (show v.kind=2∨v.kind=3 by omega),decide_eq_true h15,Bool.true_and]))
   ·
    refine A9 ?_
    exact x4 Plain.mk' rfl rfl (Le.bool (by simp only [Va.valid];rw [if_pos (show v.kind=2∨v.kind=3 by omega),decide_eq_false h15];rfl))
  ·
   refine A8 ?_
   refine xh1 (0) ti4 rfl rfl rfl (At.t (At.g 1 rfl rfl) (At.t (At.g 0 rfl rfl) (At.g 0 rfl rfl))) rfl ?_
   refine A1 ?_
   refine RGcase (t:=23) rfl (fun h17=> ?_) (fun h17=> ?_)
   ·
    have hnf:v.f≠fr0:=fr0_ne (.inl h17)
    refine A18 ?_
    refine A11 ?_
    exact x4 Plain.mk' rfl rfl (Le.bool (va_no (by omega) hnf).symm)
   ·
    refine A3 ?_
    refine xd0 h17 rfl rfl (0) ti4 rfl rfl rfl (At.t (At.g 1 rfl rfl) (At.t (At.g 1 rfl rfl) (At.g 0 rfl rfl))) rfl ?_
    refine A2 ?_
    refine RGcase (t:=29) rfl (fun h17_2=> ?_) (fun h17_2=> ?_)
    ·
     have hnf:v.f≠fr0:=fr0_ne (.inr (.inl h17_2))
     refine A18 ?_
     refine A5 ?_
     exact x4 Plain.mk' rfl rfl (Le.bool (va_no (by omega) hnf).symm)
    ·
     refine A3 ?_
     refine xd0 h17_2 rfl rfl (0) ti26 rfl rfl rfl (At.t (At.g 1 rfl rfl) (At.t (At.g 0 rfl rfl) (At.g 1 rfl rfl))) rfl ?_
     refine A4 ?_
     refine xd0 h17_2 rfl rfl (0) ti26 rfl rfl rfl (At.t (At.g 1 rfl rfl) (At.t (At.g 1 rfl rfl) (At.g 1 rfl rfl))) rfl ?_
     refine A1 ?_
     refine RGon h17_2 rfl (xc8 (wr64 (by omega) (by omega))) rfl ⟨rfl,rfl,trivial⟩ trivial trivial ?_
     refine A4 ?_
     refine x8 rfl (fun h17_3=> ?_) (fun h17_3=> ?_)
     ·
      have hnf:v.f≠fr0:=fr0_ne (by omega)
      refine A7 ?_
      exact x4 Plain.mk' rfl rfl (Le.bool (va_no (by omega) hnf).symm)
     ·
      have hf0:v.f=fr0:=fr0_eq h17 h17_2 (by omega) (by omega)
      refine A16 ?_
      refine x8 rfl (fun h21=> ?_) (fun h21=> ?_)
      ·
       refine A6 ?_
       refine RGcaseD (t:=50) rfl (fun h22=> ?_) (fun h22=> ?_)
       ·
        refine A10 ?_
        exact x4 Plain.mk' rfl rfl (Le.bool (by simp only [Va.valid];rw [if_neg (show ¬(v.kind=2∨v.kind=3) by omega),if_pos (show v.kind=1 by omega),decide_eq_true hf0,Bool.true_and,decide_eq_true (show 0≤v.i by omega),decide_eq_true (show v.i≤1 by omega)];rfl))
       ·
        refine A10 ?_
        exact x4 Plain.mk' rfl rfl (Le.bool (by simp only [Va.valid];rw [if_neg (show ¬(v.kind=2∨v.kind=3) by omega),if_pos (show v.kind=1 by omega),decide_eq_true hf0,Bool.true_and,←Bool.decide_and];exact decide_eq_decide.2 (by omega)))
      ·
       refine A6 ?_
       refine x8 rfl (fun h23=> ?_) (fun h23=> ?_)
       ·
        refine A6 ?_
        refine RGcaseD (t:=60) rfl (fun h24=> ?_) (fun h24=> ?_)
        ·
         refine A10 ?_
         exact x4 Plain.mk' rfl rfl (Le.bool (by simp only [Va.valid];rw [if_neg (show ¬(v.kind=2∨v.kind=3) by omega),if_neg (show ¬v.kind=1 by omega),if_pos (show v.kind=4 by omega),decide_eq_true hf0,Bool.true_and,←Bool.decide_and];exact decide_eq_decide.2 (by omega)))
        ·
         refine A10 ?_
         exact x4 Plain.mk' rfl rfl (Le.bool (by simp only [Va.valid];rw [if_neg (show ¬(v.kind=2∨v.kind=3) by omega),if_neg (show ¬v.kind=1 by omega),if_pos (show v.kind=4 by omega),decide_eq_true hf0,Bool.true_and,decide_eq_false (show ¬0≤v.i by omega)];rfl))
       ·
        refine A7 ?_
        refine x8 rfl (fun h25=> ?_) (fun h25=> ?_)
        ·
         refine A2 ?_
         refine C_bT rfl (decide_eq_true (by omega)) ?_
         refine A6 ?_
         refine RGcaseD (t:=71) rfl (fun h26=> ?_) (fun h26=> ?_)
         ·
          refine A10 ?_
          exact x4 Plain.mk' rfl rfl (Le.bool (by simp only [Va.valid];rw [if_neg (show ¬(v.kind=2∨v.kind=3) by omega),if_neg (show ¬v.kind=1 by omega),if_neg (show ¬v.kind=4 by omega),if_pos (show v.kind=5∨v.kind=6 by omega),decide_eq_true hf0,Bool.true_and,←Bool.decide_and];exact decide_eq_decide.2 (by omega)))
         ·
          refine A10 ?_
          exact x4 Plain.mk' rfl rfl (Le.bool (by simp only [Va.valid];rw [if_neg (show ¬(v.kind=2∨v.kind=3) by omega),if_neg (show ¬v.kind=1 by omega),if_neg (show ¬v.kind=4 by omega),if_pos (show v.kind=5∨v.kind=6 by omega),decide_eq_true hf0,Bool.true_and,decide_eq_false (show ¬ -1048576≤v.i by omega)];rfl))
        ·
         refine A5 ?_
         refine x8 rfl (fun h25_2=> ?_) (fun h25_2=> ?_)
         ·
          refine A6 ?_
          refine RGcaseD (t:=71) rfl (fun h26=> ?_) (fun h26=> ?_)
          ·
           refine A10 ?_
           exact x4 Plain.mk' rfl rfl (Le.bool (by simp only [Va.valid];rw [if_neg (show ¬(v.kind=2∨v.kind=3) by omega),if_neg (show ¬v.kind=1 by omega),if_neg (show ¬v.kind=4 by omega),if_pos (show v.kind=5∨v.kind=6 by omega),decide_eq_true hf0,Bool.true_and,←Bool.decide_and];exact decide_eq_decide.2 (by omega)))
          ·
           refine A10 ?_
           exact x4 Plain.mk' rfl rfl (Le.bool (by simp only [Va.valid];rw [if_neg (show ¬(v.kind=2∨v.kind=3) by omega),if_neg (show ¬v.kind=1 by omega),if_neg (show ¬v.kind=4 by omega),if_pos (show v.kind=5∨v.kind=6 by omega),decide_eq_true hf0,Bool.true_and,decide_eq_false (show ¬ -1048576≤v.i by omega)];rfl))
         ·
          refine A9 ?_
          exact x4 Plain.mk' rfl rfl (Le.bool (by simp only [Va.valid];rw [if_neg (show ¬(v.kind=2∨v.kind=3) by omega),if_neg (show ¬v.kind=1 by omega),if_neg (show ¬v.kind=4 by omega),if_neg (show ¬(v.kind=5∨v.kind=6) by omega)]))
theorem c_R5whole (x y:Wh) (hx:x.l.length≤1048576):
  Ct Tryz.prog 207 [tWh x,tWh y] (tB (decide (x=y))):=by
 refine Ct.intro Tryz.func207 rfl Tryz.ntmps207 rfl ?_
 intro w F
 refine A16 ?_
 refine RGcase (t:=11) rfl (fun h33=> ?_) (fun h33=> ?_)
 ·
  have hn:x.neg≠y.neg:=fun h=>by rw [h] at h33;simp at h33
  refine A18 ?_
  exact x4 Plain.mk' rfl rfl (Le.bool (decide_eq_false (fun h=>hn (by rw [h]))).symm)
 ·
  have hn:x.neg=y.neg:=by simpa using h33
  refine A10 ?_
  refine x8 rfl (fun h33_2=> ?_) (fun h33_2=> ?_)
  ·
   refine A7 ?_
   exact x4 Plain.mk' rfl rfl (Le.bool (decide_eq_false (fun h=>by rw [h] at h33_2;omega)).symm)
  ·
   have hll:x.l.length=y.l.length:=by omega
   refine A9 ?_
   refine cL (fun (i:Nat)=>i≤x.l.length∧x.l.take i=y.l.take i) (fun (i:Nat)=>upd (upd (upd (fun _=>none) 2 (some (.own (.ptr 2 0)))) 3 (some (.own (.ptr 3 0)))) 5 (some (.val (tI i)))) (fun (i:Nat)=>upd (upd (fun _=>none) 2 (some (⟨28,2,true,[.val (tWh x)]⟩))) 3 (some (⟨28,2,true,[.val (tWh y)]⟩))) [2,3] (fun (i:Nat)=>x.l.length - i) (0) ⟨Nat.zero_le _,rfl⟩ (hh:=((SubK.consI rfl ImpK.refl) ((SubK.consI rfl ImpK.refl) SubK.nil))) ?_
   intro i hI
   obtain ⟨hi,ht⟩:=hI
   refine A10 ?_
   refine x8 rfl (fun h36=> ?_) (fun h36=> ?_)
   ·
    refine A9 ?_
    refine R2 (x6 sl26 (i) (by omega) (gN (by omega))) rfl rfl ?_
    refine A4 ?_
    refine R2 (x6 sl26 (i) (by omega) (gN (by omega))) rfl rfl ?_
    refine A4 ?_
    refine x8 rfl (fun h37=> ?_) (fun h37=> ?_)
    ·
     refine A11 ?_
     exact x4 Plain.mk' rfl rfl (Le.bool (decide_eq_false (fun h=>by rw [h] at h37;omega)).symm)
    ·
     refine A8 ?_
     exact kF (i+1) ⟨⟨by omega,by rw [xg7 x.l i (by omega),xg7 y.l i (by omega),ht,show x.l.getD i 0=y.l.getD i 0 by omega]⟩,(by omega)⟩ (hh:=((SubK.consI rfl ImpK.refl) ((SubK.consI rfl ImpK.refl) SubK.nil)))
   ·
    refine A11 ?_
    exact x4 Plain.mk' rfl rfl (Le.bool (decide_eq_true (by rw [show i=x.l.length by omega,List.take_length,hll,List.take_length] at ht;obtain ⟨a,b⟩:=x;obtain ⟨c,d⟩:=y;simp only at hn ht;rw [hn,ht])).symm)
theorem c_R5Same (u v:Va) (h1:u.f.n.l.length≤1048576) (h2:u.f.d.l.length≤1048576):
  Ct Tryz.prog 147 [tVa u,tVa v] (tB (decide (u=v))):=by
 refine Ct.intro Tryz.func147 rfl Tryz.ntmps147 rfl ?_
 intro w F
 refine A15 ?_
 refine RGcaseD (t:=10) rfl (fun h46=> ?_) (fun h46=> ?_)
 ·
  refine A7 ?_
  refine RGcaseD (t:=17) rfl (fun h46_2=> ?_) (fun h46_2=> ?_)
  ·
   refine A2 ?_
   refine xd0 (decide_eq_true h46_2) rfl rfl (0) ti28 rfl rfl rfl (At.t (At.g 1 rfl rfl) (At.g 0 rfl rfl)) rfl ?_
   refine A2 ?_
   refine xd0 (decide_eq_true h46_2) rfl rfl (0) ti28 rfl rfl rfl (At.t (At.g 1 rfl rfl) (At.g 0 rfl rfl)) rfl (RGon (decide_eq_true h46_2) rfl (x3 (c_R5whole _ _ h1) fi207 rfl) rfl ⟨rfl,rfl,trivial⟩ trivial trivial ?_)
   refine A2 ?_
   refine RGcaseD (t:=26) rfl (fun h46_3=> ?_) (fun h46_3=> ?_)
   ·
    refine A2 ?_
    refine xd0 (decide_eq_true h46_3) rfl rfl (0) ti28 rfl rfl rfl (At.t (At.g 1 rfl rfl) (At.g 1 rfl rfl)) rfl ?_
    refine A2 ?_
    refine xd0 (decide_eq_true h46_3) rfl rfl (0) ti28 rfl rfl rfl (At.t (At.g 1 rfl rfl) (At.g 1 rfl rfl)) rfl (RGon (decide_eq_true h46_3) rfl (x3 (c_R5whole _ _ h2) fi207 rfl) rfl ⟨rfl,rfl,trivial⟩ trivial trivial ?_)
    refine A5 ?_
    exact x4 Plain.mk' rfl rfl (Le.bool (decide_eq_decide.2 (by rw [va_eq];exact ⟨fun h=>⟨by omega,by omega,h46_3,h⟩,fun h=>h.2.2.2⟩)))
   ·
    refine A12 ?_
    exact x4 Plain.mk' rfl rfl (Le.bool (decide_eq_false (fun h=>h46_3 (va_eq.1 h).2.2.1)).symm)
  ·
   refine A18 ?_
   refine A3 ?_
   exact x4 Plain.mk' rfl rfl (Le.bool (decide_eq_false (fun h=>h46_2 (va_eq.1 h).2.1)).symm)
 ·
  refine A18 ?_
  refine A10 ?_
  exact x4 Plain.mk' rfl rfl (Le.bool (decide_eq_false (fun h=>h46 (by rw [h]))).symm)
end An.S
namespace An.S
open Go
def rOk (l:List Tst) (i:Nat):Prop:=((0≤(l.getD i tst0).lo∧(l.getD i tst0).lo < (l.getD i tst0).hi∧(l.getD i tst0).hi≤65536)∧(l.getD i tst0).v.valid=true∧(l.getD i tst0).v.kind=(l.getD 0 tst0).v.kind)∧
 (i=0∨(l.getD (i - 1) tst0).hi≤(l.getD i tst0).lo∧ ¬((l.getD (i - 1) tst0).hi=(l.getD i tst0).lo∧(l.getD (i - 1) tst0).v=(l.getD i tst0).v))
theorem right_R {l:List Tst}:tRight l=true↔ ∀i,i < l.length→rOk l i:=by
 constructor
 ·intro h i hi
  have h1:=xm4 h hi
  exact ⟨⟨⟨h1.1,h1.2.1,h1.2.2.1⟩,xr0 h _ (xd5 hi),kind_at h hi⟩,h1.2.2.2.imp id fun h2=>⟨h2.1,h2.2.2⟩⟩
 ·intro h
  refine tRight_iff.2 ⟨fun i hi=>tOk_iff.2 ?_,fun s hs=> ?_⟩
  ·have h1:=h i hi
   refine ⟨h1.1.1.1,h1.1.1.2.1,h1.1.1.2.2,h1.2.imp id fun h2=>⟨h2.1,?_,h2.2⟩⟩
   rw [h1.1.2.2]
   by_cases h0:i=0
   ·subst h0;rfl
   ·exact (h (i - 1) (by omega)).1.2.2
  ·obtain ⟨i,hi,rfl⟩:=xn8 hs
   exact (h i hi).1.2.1
theorem xs5 {l:List Tst} {i:Nat} (hi:i < l.length) (h: ¬rOk l i):false=tRight l:=by
 cases hr:tRight l with
 | false=>rfl
 | true=>exact absurd (right_R.1 hr i hi) h
def parR (acc:List Tst) (s:Tst):List Tst:=if s.lo < s.hi then acc++[s] else acc
def cutR (l:List Tst) (a b:Int):List Tst:=(l.map (clip a b)).foldl parR []
theorem cutR_next {l:List Tst} {a b:Int} {i:Nat} (hi:i < l.length):cutR (l.take (i+1)) a b=parR (cutR (l.take i) a b) (clip a b (l.getD i tst0)):=by
 rw [cutR,cutR,List.take_succ_eq_append_getElem hi,List.map_append,List.foldl_append,List.getD_eq_getElem?_getD,List.getElem?_eq_getElem hi];rfl
theorem cutT_next {l:List Tst} {a b:Int} {i:Nat} (hi:i < l.length):cutT (l.take (i+1)) a b=pst1 (cutT (l.take i) a b) (clip a b (l.getD i tst0)):=by
 rw [cutT,cutT,List.take_succ_eq_append_getElem hi,List.map_append,pst,List.foldl_append,List.getD_eq_getElem?_getD,List.getElem?_eq_getElem hi];rfl
theorem cutR_len {l:List Tst} {a b:Int}: ∀{i:Nat},i≤l.length→(cutR (l.take i) a b).length≤i
 | 0,_=>by simp [cutR]
 | i+1,hi=>by
  have:=cutR_len (l:=l) (a:=a) (b:=b) (i:=i) (by omega)
  rw [cutR_next (by omega),parR]
  split
  ·simp;omega
  ·omega
theorem cut_R' {l:List Tst} {a b:Int} (h:tRight l=true): ∀i,i≤l.length→cutR (l.take i) a b=cutT (l.take i) a b∧ ∀x∈cutR (l.take i) a b,∃j,j < i∧x=clip a b (l.getD j tst0)∧x.lo < x.hi
 | 0,_=>⟨by simp [cutR,cutT,pst],fun x hx=>by simp [cutR] at hx⟩
 | i+1,hi=>by
  obtain ⟨h1,h2⟩:=cut_R' h i (by omega)
  rw [cutR_next (by omega),cutT_next (by omega),←h1]
  have h3:=xm4 h (i:=i) (by omega)
  refine ⟨?_,fun x hx=> ?_⟩
  ·rw [parR,pst1]
   by_cases c1:(clip a b (l.getD i tst0)).lo < (clip a b (l.getD i tst0)).hi
   ·rw [if_pos c1,if_neg (by omega),if_neg]
    rintro ⟨q1,q2,q3⟩
    obtain ⟨j,hj,e,hlt⟩:=h2 _ (xd5 (l:=cutR (l.take i) a b) (i:=(cutR (l.take i) a b).length - 1) (by omega))
    rw [e] at q2 q3 hlt
    simp only [clip] at q2 q3 hlt c1
    have h4:=xo9 h hj (by omega)
    have e1:(l.getD j tst0).hi=(l.getD i tst0).lo:=by omega
    by_cases hji:j=i - 1
    ·subst hji
     rcases h3.2.2.2 with h0 | h0
     ·omega
     ·exact h0.2.2 ⟨e1,q3⟩
    ·have h5:=xo9 h (i:=j) (j:=i - 1) (by omega) (by omega)
     have h6:=(xm4 h (i:=i - 1) (by omega)).2.1
     have h7:=xo9 h (i:=i - 1) (j:=i) (by omega) (by omega)
     omega
   ·rw [if_neg c1,if_pos (by omega)]
  ·rw [parR] at hx
   split at hx
   ·rename_i hc
    rcases List.mem_append.1 hx with hx | hx
    ·obtain ⟨j,hj,h4⟩:=h2 x hx
     exact ⟨j,by omega,h4⟩
    ·rw [List.mem_singleton.1 hx];exact ⟨i,by omega,rfl,hc⟩
   ·obtain ⟨j,hj,h4⟩:=h2 x hx
    exact ⟨j,by omega,h4⟩
theorem cut_R {l:List Tst} {a b:Int} (h:tRight l=true):cutR l a b=cutT l a b:=by
 have:=(cut_R' (a:=a) (b:=b) h l.length (Nat.le_refl _)).1
 rwa [List.take_length] at this
end An.S
