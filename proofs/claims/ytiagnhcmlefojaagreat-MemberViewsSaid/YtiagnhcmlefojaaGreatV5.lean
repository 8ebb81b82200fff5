/- Part 5 of a proof: E1, Me2, LibGv, E2, Me3, E3, Fy, Fw, Me11, E4, Me4, Me5, S17, S18, Sv2, Fz, Mk, Me6, E5, LibMf, Me7, Me8. -/
import Derived.Test.YtiagnhcmlefojaaGreatV4
set_option maxHeartbeats 4000000
set_option maxRecDepth 100000
namespace An.S
open Go Go.Proofs An
instance ti32:TyI Tryz.prog 32 14 true:=⟨by kernel_rfl,by kernel_rfl⟩
instance ti150:TyI Tryz.prog 150 6 true:=⟨by kernel_rfl,by kernel_rfl⟩
instance sl24:SlI Tryz.prog 24 32 14 true:=⟨Tryz.underlying24,ti32⟩
instance fo32_0:FoI Tryz.prog 32 0 0:=⟨by kernel_rfl⟩
instance fo32_1:FoI Tryz.prog 32 1 1:=⟨by kernel_rfl⟩
instance fo32_2:FoI Tryz.prog 32 2 2:=⟨by kernel_rfl⟩
instance fo32_3:FoI Tryz.prog 32 3 3:=⟨by kernel_rfl⟩
instance fo32_4:FoI Tryz.prog 32 4 4:=⟨by kernel_rfl⟩
instance fo32_5:FoI Tryz.prog 32 5 5:=⟨by kernel_rfl⟩
instance fo32_6:FoI Tryz.prog 32 6 9:=⟨by kernel_rfl⟩
instance fo32_7:FoI Tryz.prog 32 7 13:=⟨by kernel_rfl⟩
instance fo150_0:FoI Tryz.prog 150 0 0:=⟨by kernel_rfl⟩
instance fo150_1:FoI Tryz.prog 150 1 1:=⟨by kernel_rfl⟩
instance fo150_2:FoI Tryz.prog 150 2 2:=⟨by kernel_rfl⟩
instance fo150_3:FoI Tryz.prog 150 3 3:=⟨by kernel_rfl⟩
instance fo150_4:FoI Tryz.prog 150 4 4:=⟨by kernel_rfl⟩
instance fo150_5:FoI Tryz.prog 150 5 5:=⟨by kernel_rfl⟩
instance fi34:FnI Tryz.prog 34:=⟨_,Tryz.func34,by kernel_rfl,rfl⟩
instance fi56:FnI Tryz.prog 56:=⟨_,Tryz.func56,by kernel_rfl,rfl⟩
instance fi88:FnI Tryz.prog 88:=⟨_,Tryz.func88,by kernel_rfl,rfl⟩
instance fi89:FnI Tryz.prog 89:=⟨_,Tryz.func89,by kernel_rfl,rfl⟩
instance fi90:FnI Tryz.prog 90:=⟨_,Tryz.func90,by kernel_rfl,rfl⟩
instance fi91:FnI Tryz.prog 91:=⟨_,Tryz.func91,by kernel_rfl,rfl⟩
instance fi144:FnI Tryz.prog 144:=⟨_,Tryz.func144,by kernel_rfl,rfl⟩
instance fi145:FnI Tryz.prog 145:=⟨_,Tryz.func145,by kernel_rfl,rfl⟩
theorem zr32:(Tryz.prog.info? 32).bind (·.zero)=some (.agg #[.int .u8 0,.int .i64 0,.int .i64 0,.int .i64 0,.int .i64 0,.bool false,.slice none 0 0,.bool false,.slice none 0 0,.bool false,.slice none 0 0,.bool false,.slice none 0 0,.int .i64 0])∧ ∀F w,(tS [⟨1,false,(tE (.int .u8 0))⟩,⟨1,false,(tE (.int .i64 0))⟩,⟨1,false,(tE (.int .i64 0))⟩,⟨1,false,(tE (.int .i64 0))⟩,⟨1,false,(tE (.int .i64 0))⟩,⟨4,true,(tS [⟨2,true,(tS [⟨1,false,(tE (.bool false))⟩,⟨1,false,(tLm [])⟩])⟩,⟨2,true,(tS [⟨1,false,(tE (.bool false))⟩,⟨1,false,(tLm [])⟩])⟩])⟩,⟨4,true,(tS [⟨2,true,(tS [⟨1,false,(tE (.bool false))⟩,⟨1,false,(tLm [])⟩])⟩,⟨2,true,(tS [⟨1,false,(tE (.bool false))⟩,⟨1,false,(tLm [])⟩])⟩])⟩,⟨1,false,(tE (.int .i64 0))⟩]).p F w (.agg #[.int .u8 0,.int .i64 0,.int .i64 0,.int .i64 0,.int .i64 0,.bool false,.slice none 0 0,.bool false,.slice none 0 0,.bool false,.slice none 0 0,.bool false,.slice none 0 0,.int .i64 0]):=⟨by kernel_rfl,fun _ _=>⟨_,rfl,rfl,⟨fun _=>rfl,rfl⟩,⟨fun _=>rfl,rfl⟩,⟨fun _=>rfl,rfl⟩,⟨fun _=>rfl,rfl⟩,⟨fun _=>rfl,rfl⟩,⟨fun h=>Bool.noConfusion h,⟨_,rfl,rfl,⟨fun h=>Bool.noConfusion h,⟨_,rfl,rfl,⟨fun _=>rfl,rfl⟩,⟨fun _=>rfl,⟨none,0,rfl,Nat.le_refl _,by decide,.inl rfl⟩⟩,trivial⟩⟩,⟨fun h=>Bool.noConfusion h,⟨_,rfl,rfl,⟨fun _=>rfl,rfl⟩,⟨fun _=>rfl,⟨none,0,rfl,Nat.le_refl _,by decide,.inl rfl⟩⟩,trivial⟩⟩,trivial⟩⟩,⟨fun h=>Bool.noConfusion h,⟨_,rfl,rfl,⟨fun h=>Bool.noConfusion h,⟨_,rfl,rfl,⟨fun _=>rfl,rfl⟩,⟨fun _=>rfl,⟨none,0,rfl,Nat.le_refl _,by decide,.inl rfl⟩⟩,trivial⟩⟩,⟨fun h=>Bool.noConfusion h,⟨_,rfl,rfl,⟨fun _=>rfl,rfl⟩,⟨fun _=>rfl,⟨none,0,rfl,Nat.le_refl _,by decide,.inl rfl⟩⟩,trivial⟩⟩,trivial⟩⟩,⟨fun _=>rfl,rfl⟩,trivial⟩⟩
theorem zr150:(Tryz.prog.info? 150).bind (·.zero)=some (.agg #[.bool false,.bool false,.bool false,.bool false,.bool false,.bool false])∧ ∀F w,(tS [⟨1,false,(tE (.bool false))⟩,⟨1,false,(tE (.bool false))⟩,⟨1,false,(tE (.bool false))⟩,⟨1,false,(tE (.bool false))⟩,⟨1,false,(tE (.bool false))⟩,⟨1,false,(tE (.bool false))⟩]).p F w (.agg #[.bool false,.bool false,.bool false,.bool false,.bool false,.bool false]):=⟨by kernel_rfl,fun _ _=>⟨_,rfl,rfl,⟨fun _=>rfl,rfl⟩,⟨fun _=>rfl,rfl⟩,⟨fun _=>rfl,rfl⟩,⟨fun _=>rfl,rfl⟩,⟨fun _=>rfl,rfl⟩,⟨fun _=>rfl,rfl⟩,trivial⟩⟩
theorem bu150:BuI Tryz.prog 150 (fun i=>[(0,1),(1,1),(2,1),(3,1),(4,1),(5,1)][i]?) (.agg #[.bool false,.bool false,.bool false,.bool false,.bool false,.bool false]):=BuI.struct Tryz.underlying150 (by kernel_rfl) (by kernel_rfl)
instance un24:UnI Tryz.prog 24 (.slice 32):=⟨Tryz.underlying24⟩
theorem short_1:short ((1:Int):Rat):=by decide+kernel
theorem cmpP {a b:Rat}:0 < cmpQ a b↔b < a:=by
 rw [cmpQ]
 split
 ·rename_i h
  exact ⟨fun hh=>absurd hh (by decide),fun hh=>absurd (Rat.le_of_lt hh) (Rat.not_le.2 h)⟩
 ·rename_i h
  split
  ·rename_i h2
   subst h2
   exact ⟨fun hh=>absurd hh (by decide),fun hh=>absurd hh Rat.lt_irrefl⟩
  ·rename_i h2
   refine ⟨fun _=> ?_,fun _=>by decide⟩
   rcases Rat.le_iff_lt_or_eq.1 (Rat.not_lt.1 h) with h3 | h3
   ·exact h3
   ·exact absurd h3.symm h2
theorem c_FCmpP (f:Fr) (hf:f.dig) (hv:f.valid=true):Ct Tryz.prog 34 [tFr f,tFr (fr ((1:Int):Rat))] (tI (cmpQ f.rat ((1:Int):Rat))):=by
 obtain ⟨e,s⟩:=Fr.of_valid' hf hv
 have h:=c_FCmp f.rat ((1:Int):Rat) s short_1
 rw [←e] at h;exact h
theorem xOk_mk {x:Ev} {i:Nat} (h1:(decide (1≤x.knd) && decide (x.knd≤7))=true) (ha:0≤x.kn) (hb:x.kn < 65536) (h2:eNum (uJob x.knd) x.job 1 8=true) (h3:eNum (uDay x.knd) x.day 0 65535=true) (h4:eNum (uTo x.knd) x.hi (x.day+1) 65536=true) (h5:eNum (uOf x.knd) x.nr 1 i=true) (h6:eFrc (uPart x.knd) x.part=true) (h7:eFrc (uPay x.knd) x.pay=true)
  (hp:uPart x.knd=false∨x.knd=6∨ ¬1 < x.part.rat):xOk x i=true:=by
 have hq:(uPart x.knd && decide (x.knd≠6) && decide (1 < x.part.rat))=false:=by
  rcases hp with h | h | h
  ·rw [h];rfl
  ·rw [decide_eq_false (fun hh=>hh h),Bool.and_false];rfl
  ·rw [decide_eq_false h,Bool.and_false]
 rw [xOk,h1,h2,h3,h4,h5,h6,h7,hq,decide_eq_true ha,decide_eq_true hb];rfl
theorem eFrc_valid {u:Bool} {f:Fr} (h:eFrc u f=true) (hu:u=true):f.valid=true:=by
 rw [eFrc,if_pos hu,eExact,Bool.and_eq_true,Bool.and_eq_true,Bool.and_eq_true] at h
 exact h.1.1.1
abbrev tUs (k:Nat):Ty:=tS [⟨1,false,tB (uJob k)⟩,⟨1,false,tB (uDay k)⟩,⟨1,false,tB (uTo k)⟩,⟨1,false,tB (uPart k)⟩,⟨1,false,tB (uPay k)⟩,⟨1,false,tB (uOf k)⟩]
theorem c_fields (k:Nat):
  Ct Tryz.prog 88 [tE (.int .u8 (k:Int))] (tT [tUs k,tB (decide (1≤k) && decide (k≤7))]):=by
 refine Ct.intro Tryz.func88 rfl Tryz.ntmps88 rfl ?_
 intro w F
 refine A2 ?_
 refine RE (xa1 (k:=2) (n:=6) (agg:=true) zr150.1 zr150.2 rfl) trivial trivial ⟨rfl,trivial⟩ ?_
 refine A16 ?_
 refine x5 rfl (fun h18=> ?_) (fun h18=> ?_)
 ·
  refine A2 ?_
  refine RE (xa9 (r:=tS [⟨1,false,tB true⟩,⟨1,false,tB true⟩,⟨1,false,(tE (.bool false))⟩,⟨1,false,tB true⟩,⟨1,false,tB true⟩,⟨1,false,(tE (.bool false))⟩]) (ts:=[(0,tB true),(1,tB true),(3,tB true),(4,tB true)]) bu150 zr150.2 (Bc 0 rfl rfl rfl (Bc 1 rfl rfl rfl (Bc 3 rfl rfl rfl (Bc 4 rfl rfl rfl Le.refl))))) ⟨rfl,rfl,rfl,rfl,trivial⟩ trivial trivial ?_
  refine A7 ?_
  exact xe0 Plain.mk' (rs:=[.cell 2 150,.tmp 3]) rfl rfl ⟨⟨_,_,_,_,_,rfl,rfl,ti150,(Le.of (by rw [show k=1 by omega];rfl))⟩,⟨_,rfl,(Le.bool (by rw [show k=1 by omega];rfl))⟩,trivial⟩
 ·
  refine A6 ?_
  refine x5 rfl (fun h20=> ?_) (fun h20=> ?_)
  ·
   refine A2 ?_
   refine R2 (xa9 (r:=tS [⟨1,false,tB true⟩,⟨1,false,tB true⟩,⟨1,false,(tE (.bool false))⟩,⟨1,false,(tE (.bool false))⟩,⟨1,false,(tE (.bool false))⟩,⟨1,false,(tE (.bool false))⟩]) (ts:=[(0,tB true),(1,tB true)]) bu150 zr150.2 (Bc 0 rfl rfl rfl (Bc 1 rfl rfl rfl Le.refl))) rfl rfl ?_
   refine A7 ?_
   exact xe0 Plain.mk' (rs:=[.cell 2 150,.tmp 3]) rfl rfl ⟨⟨_,_,_,_,_,rfl,rfl,ti150,(Le.of (by rw [show k=2 by omega];rfl))⟩,⟨_,rfl,(Le.bool (by rw [show k=2 by omega];rfl))⟩,trivial⟩
  ·
   refine A6 ?_
   refine x5 rfl (fun h22=> ?_) (fun h22=> ?_)
   ·
    refine A2 ?_
    refine RE (xa9 (r:=tS [⟨1,false,tB true⟩,⟨1,false,tB true⟩,⟨1,false,tB true⟩,⟨1,false,tB true⟩,⟨1,false,(tE (.bool false))⟩,⟨1,false,(tE (.bool false))⟩]) (ts:=[(0,tB true),(1,tB true),(2,tB true),(3,tB true)]) bu150 zr150.2 (Bc 0 rfl rfl rfl (Bc 1 rfl rfl rfl (Bc 2 rfl rfl rfl (Bc 3 rfl rfl rfl Le.refl))))) ⟨rfl,rfl,rfl,rfl,trivial⟩ trivial trivial ?_
    refine A7 ?_
    exact xe0 Plain.mk' (rs:=[.cell 2 150,.tmp 3]) rfl rfl ⟨⟨_,_,_,_,_,rfl,rfl,ti150,(Le.of (by rw [show k=3 by omega];rfl))⟩,⟨_,rfl,(Le.bool (by rw [show k=3 by omega];rfl))⟩,trivial⟩
   ·
    refine A6 ?_
    refine x5 rfl (fun h24=> ?_) (fun h24=> ?_)
    ·
     refine A2 ?_
     refine R3 (xa9 (r:=tS [⟨1,false,tB true⟩,⟨1,false,tB true⟩,⟨1,false,(tE (.bool false))⟩,⟨1,false,(tE (.bool false))⟩,⟨1,false,tB true⟩,⟨1,false,(tE (.bool false))⟩]) (ts:=[(0,tB true),(1,tB true),(4,tB true)]) bu150 zr150.2 (Bc 0 rfl rfl rfl (Bc 1 rfl rfl rfl (Bc 4 rfl rfl rfl Le.refl)))) rfl rfl rfl ?_
     refine A7 ?_
     exact xe0 Plain.mk' (rs:=[.cell 2 150,.tmp 3]) rfl rfl ⟨⟨_,_,_,_,_,rfl,rfl,ti150,(Le.of (by rw [show k=4 by omega];rfl))⟩,⟨_,rfl,(Le.bool (by rw [show k=4 by omega];rfl))⟩,trivial⟩
    ·
     refine A6 ?_
     refine x5 rfl (fun h26=> ?_) (fun h26=> ?_)
     ·
      refine A2 ?_
      refine R3 (xa9 (r:=tS [⟨1,false,tB true⟩,⟨1,false,tB true⟩,⟨1,false,tB true⟩,⟨1,false,(tE (.bool false))⟩,⟨1,false,(tE (.bool false))⟩,⟨1,false,(tE (.bool false))⟩]) (ts:=[(0,tB true),(1,tB true),(2,tB true)]) bu150 zr150.2 (Bc 0 rfl rfl rfl (Bc 1 rfl rfl rfl (Bc 2 rfl rfl rfl Le.refl)))) rfl rfl rfl ?_
      refine A7 ?_
      exact xe0 Plain.mk' (rs:=[.cell 2 150,.tmp 3]) rfl rfl ⟨⟨_,_,_,_,_,rfl,rfl,ti150,(Le.of (by rw [show k=5 by omega];rfl))⟩,⟨_,rfl,(Le.bool (by rw [show k=5 by omega];rfl))⟩,trivial⟩
     ·
      refine A6 ?_
      refine x5 rfl (fun h28=> ?_) (fun h28=> ?_)
      ·
       refine A2 ?_
       refine R2 (xa9 (r:=tS [⟨1,false,(tE (.bool false))⟩,⟨1,false,tB true⟩,⟨1,false,(tE (.bool false))⟩,⟨1,false,tB true⟩,⟨1,false,(tE (.bool false))⟩,⟨1,false,(tE (.bool false))⟩]) (ts:=[(1,tB true),(3,tB true)]) bu150 zr150.2 (Bc 1 rfl rfl rfl (Bc 3 rfl rfl rfl Le.refl))) rfl rfl ?_
       refine A7 ?_
       exact xe0 Plain.mk' (rs:=[.cell 2 150,.tmp 3]) rfl rfl ⟨⟨_,_,_,_,_,rfl,rfl,ti150,(Le.of (by rw [show k=6 by omega];rfl))⟩,⟨_,rfl,(Le.bool (by rw [show k=6 by omega];rfl))⟩,trivial⟩
      ·
       refine A6 ?_
       refine x5 rfl (fun h30=> ?_) (fun h30=> ?_)
       ·
        refine A2 ?_
        refine R1 (xa9 (r:=tS [⟨1,false,(tE (.bool false))⟩,⟨1,false,(tE (.bool false))⟩,⟨1,false,(tE (.bool false))⟩,⟨1,false,(tE (.bool false))⟩,⟨1,false,(tE (.bool false))⟩,⟨1,false,tB true⟩]) (ts:=[(5,tB true)]) bu150 zr150.2 (Bc 5 rfl rfl rfl Le.refl)) rfl ?_
        refine A7 ?_
        exact xe0 Plain.mk' (rs:=[.cell 2 150,.tmp 3]) rfl rfl ⟨⟨_,_,_,_,_,rfl,rfl,ti150,(Le.of (by rw [show k=7 by omega];rfl))⟩,⟨_,rfl,(Le.bool (by rw [show k=7 by omega];rfl))⟩,trivial⟩
       ·
        refine A5 ?_
        refine R0 (xa9 (r:=tS [⟨1,false,(tE (.bool false))⟩,⟨1,false,(tE (.bool false))⟩,⟨1,false,(tE (.bool false))⟩,⟨1,false,(tE (.bool false))⟩,⟨1,false,(tE (.bool false))⟩,⟨1,false,(tE (.bool false))⟩]) (ts:=[]) bu150 zr150.2 Le.refl) ?_
        refine A5 ?_
        exact xe0 Plain.mk' (rs:=[.cell 2 150,.tmp 3]) rfl rfl ⟨⟨_,_,_,_,_,rfl,rfl,ti150,(Le.of (by simp only [tUs,uJob,uDay,uTo,uPart,uPay,uOf];congr <;> simp <;> omega))⟩,⟨_,rfl,(Le.bool (by simp;omega))⟩,trivial⟩
theorem c_blank (w:Wh):
  Ct Tryz.prog 144 [tWh w] (tB (!w.neg && decide (w.l.length=0))):=by
 refine Ct.intro Tryz.func144 rfl Tryz.ntmps144 rfl ?_
 intro w F
 refine A12 ?_
 refine RGcase (t:=6) rfl (fun h38=> ?_) (fun h38=> ?_)
 ·
  refine A9 ?_
  exact x4 Plain.mk' rfl rfl (Le.bool (by simp [*]))
 ·
  refine A9 ?_
  exact x4 Plain.mk' rfl rfl (Le.bool (by simp [*]))
theorem c_exact (f:Fr) (hD:f.dig):
  Ct Tryz.prog 145 [tFr f] (tB (eExact f)):=by
 refine Ct.intro Tryz.func145 rfl Tryz.ntmps145 rfl ?_
 intro w F
 refine A9 ?_
 refine R1 (x3 (c_FValid f hD.1 hD.2) fi94 rfl) rfl ?_
 refine A1 ?_
 refine RGcase (t:=5) rfl (fun h43=> ?_) (fun h43=> ?_)
 ·
  refine A2 ?_
  refine xe3 h43 rfl rfl (0) ti4 rfl rfl rfl (At.t (At.g 0 rfl rfl) (At.g 0 rfl rfl)) rfl ?_
  refine A3 ?_
  refine RGcase (t:=11) rfl (fun h43_2=> ?_) (fun h43_2=> ?_)
  ·
   refine A2 ?_
   refine xe3 h43_2 rfl rfl (0) ti26 rfl rfl rfl (At.t (At.g 0 rfl rfl) (At.g 1 rfl rfl)) rfl ?_
   refine A4 ?_
   refine RGcaseD (t:=18) rfl (fun h43_3=> ?_) (fun h43_3=> ?_)
   ·
    refine A2 ?_
    refine xe3 (decide_eq_true h43_3) rfl rfl (0) ti26 rfl rfl rfl (At.t (At.g 1 rfl rfl) (At.g 1 rfl rfl)) rfl ?_
    refine A7 ?_
    exact x4 Plain.mk' rfl rfl (Le.bool (by rw [eExact];first | (rw [decide_eq_true (show f.n.l.length≤2 by omega)];simp [*];done) | (rw [decide_eq_true (show f.n.l.length≤2 by omega)];simp [*];omega) | (rw [decide_eq_false (show ¬f.n.l.length≤2 by omega)];simp [*];done) | (simp [*];done)))
   ·
    refine A10 ?_
    exact x4 Plain.mk' rfl rfl (Le.bool (by rw [eExact];first | (rw [decide_eq_true (show f.n.l.length≤2 by omega)];simp [*];done) | (rw [decide_eq_true (show f.n.l.length≤2 by omega)];simp [*];omega) | (rw [decide_eq_false (show ¬f.n.l.length≤2 by omega)];simp [*];done) | (simp [*];done)))
  ·
   refine A17 ?_
   exact x4 Plain.mk' rfl rfl (Le.bool (by rw [eExact];first | (rw [decide_eq_true (show f.n.l.length≤2 by omega)];simp [*];done) | (rw [decide_eq_true (show f.n.l.length≤2 by omega)];simp [*];omega) | (rw [decide_eq_false (show ¬f.n.l.length≤2 by omega)];simp [*];done) | (simp [*];done)))
 ·
  refine A18 ?_
  refine A5 ?_
  exact x4 Plain.mk' rfl rfl (Le.bool (by rw [eExact];first | (rw [decide_eq_true (show f.n.l.length≤2 by omega)];simp [*];done) | (rw [decide_eq_true (show f.n.l.length≤2 by omega)];simp [*];omega) | (rw [decide_eq_false (show ¬f.n.l.length≤2 by omega)];simp [*];done) | (simp [*];done)))
theorem c_number (u:Bool) (n lo hi:Int):
  Ct Tryz.prog 89 [tB u,tI n,tI lo,tI hi] (tB (eNum u n lo hi)):=by
 refine Ct.intro Tryz.func89 rfl Tryz.ntmps89 rfl ?_
 intro w F
 refine A12 ?_
 refine xc0 rfl (fun h48=> ?_) (fun h48=> ?_)
 ·
  refine A9 ?_
  exact x4 Plain.mk' rfl rfl (Le.bool (by rw [eNum,if_neg (by simpa using h48)]))
 ·
  refine A8 ?_
  refine RGcaseD (t:=16) rfl (fun h51=> ?_) (fun h51=> ?_)
  ·
   refine A8 ?_
   exact x4 Plain.mk' rfl rfl (Le.bool (by rw [eNum,if_pos (by simpa using h48)];simp [*]))
  ·
   refine A8 ?_
   exact x4 Plain.mk' rfl rfl (Le.bool (by rw [eNum,if_pos (by simpa using h48)];simp [*]))
theorem c_fraction (u:Bool) (f:Fr) (hD:f.dig):
  Ct Tryz.prog 90 [tB u,tFr f] (tB (eFrc u f)):=by
 refine Ct.intro Tryz.func90 rfl Tryz.ntmps90 rfl ?_
 intro w F
 refine A13 ?_
 refine xc0 rfl (fun h56=> ?_) (fun h56=> ?_)
 ·
  refine A4 ?_
  refine R1 (x3 (c_blank f.n) fi144 rfl) rfl ?_
  refine A1 ?_
  refine RGcase (t:=10) rfl (fun h57=> ?_) (fun h57=> ?_)
  ·
   refine A2 ?_
   refine RGon h57 rfl (x3 (c_blank f.d) fi144 rfl) rfl ⟨rfl,trivial⟩ trivial trivial ?_
   refine A6 ?_
   exact x4 Plain.mk' rfl rfl (Le.bool (by rw [eFrc,if_neg (by simpa using h56),eBlank,h57,Bool.true_and]))
  ·
   refine A9 ?_
   exact x4 Plain.mk' rfl rfl (Le.bool (by rw [eFrc,if_neg (by simpa using h56),eBlank,h57,Bool.false_and]))
 ·
  refine A5 ?_
  refine R1 (x3 (c_exact f hD) fi145 rfl) rfl ?_
  refine A4 ?_
  exact x4 Plain.mk' rfl rfl (Le.bool (by rw [eFrc,if_pos (by simpa using h56)]))
theorem c_eRight (l:List Ev) (i:Nat) (hi:i < l.length) (hl:l.length≤100) (hD: ∀e∈l,e.part.dig∧e.pay.dig):
  Ct Tryz.prog 56 [tL 14 true tEv l,tI i] (tB (eRight l i)):=by
 have hd:=hD _ (mem_getE hi)
 refine Ct.intro Tryz.func56 rfl Tryz.ntmps56 rfl ?_
 intro w F
 refine A9 ?_
 refine R2 (x8 sl24 (i) (by omega) (gD (l:=l) (n:=i) (d:=ev0) (by omega))) rfl rfl ?_
 refine A1 ?_
 refine RE (xa1 (k:=5) (n:=14) (agg:=true) zr32.1 zr32.2 rfl) trivial trivial ⟨rfl,trivial⟩ ?_
 refine A7 ?_
 refine R1 (x3 (c_fields (l.getD i ev0).knd) fi88 rfl) rfl ?_
 refine A3 ?_
 refine RE (xa1 (k:=6) (n:=6) (agg:=true) zr150.1 zr150.2 rfl) trivial trivial ⟨rfl,trivial⟩ ?_
 refine A10 ?_
 refine RGcase (t:=20) rfl (fun h66=> ?_) (fun h66=> ?_)
 ·
  refine A18 ?_
  refine A1 ?_
  exact x4 Plain.mk' rfl rfl (Le.bool (Bool.eq_false_iff.2 fun hr=>by have ho:=xd4.1 hr;have:=ho.k1;have:=ho.k2;have:=ho.n1;have:=ho.n2;first | omega | (rw [decide_eq_true ho.k1,decide_eq_true ho.k2] at h66;cases h66)).symm)
 ·
  refine A5 ?_
  refine RGcaseD (t:=25) rfl (fun h66_2=> ?_) (fun h66_2=> ?_)
  ·
   refine A14 ?_
   exact x4 Plain.mk' rfl rfl (Le.bool (Bool.eq_false_iff.2 fun hr=>by have ho:=xd4.1 hr;have:=ho.k1;have:=ho.k2;have:=ho.n1;have:=ho.n2;first | omega | (rw [decide_eq_true ho.k1,decide_eq_true ho.k2] at h66;cases h66)).symm)
  ·
   refine A6 ?_
   refine x5 rfl (fun h66_3=> ?_) (fun h66_3=> ?_)
   ·
    refine A7 ?_
    exact x4 Plain.mk' rfl rfl (Le.bool (Bool.eq_false_iff.2 fun hr=>by have ho:=xd4.1 hr;have:=ho.k1;have:=ho.k2;have:=ho.n1;have:=ho.n2;first | omega | (rw [decide_eq_true ho.k1,decide_eq_true ho.k2] at h66;cases h66)).symm)
   ·
    refine A9 ?_
    refine RE (x3 (c_number (uJob (l.getD i ev0).knd) (l.getD i ev0).job 1 8) fi89 rfl) ⟨rfl,rfl,rfl,rfl,trivial⟩ trivial trivial ?_
    refine A2 ?_
    refine RGcase (t:=36) rfl (fun h69=> ?_) (fun h69=> ?_)
    ·
     refine A17 ?_
     exact x4 Plain.mk' rfl rfl (Le.bool (Bool.eq_false_iff.2 fun hr=>by have ho:=xd4.1 hr;rw [ho.jb] at h69;cases h69).symm)
    ·
     refine A4 ?_
     refine RGon h69 rfl (x3 (c_number (uDay (l.getD i ev0).knd) (l.getD i ev0).day 0 65535) fi89 rfl) rfl ⟨rfl,rfl,rfl,rfl,trivial⟩ trivial trivial ?_
     refine A4 ?_
     refine xc0 rfl (fun h69_2=> ?_) (fun h69_2=> ?_)
     ·
      refine A7 ?_
      exact x4 Plain.mk' rfl rfl (Le.bool (Bool.eq_false_iff.2 fun hr=>by have ho:=xd4.1 hr;rw [ho.dy] at h69_2;cases h69_2).symm)
     ·
      refine A4 ?_
      have hdy:0≤(l.getD i ev0).day∧(l.getD i ev0).day≤65535:=by
       cases hu:uDay (l.getD i ev0).knd with
       | true=>exact xn2 (lo:=0) (hi:=65535) (by simpa using h69_2) hu
       | false=>
        have h0:(l.getD i ev0).day=0:=eNum_no (lo:=0) (hi:=65535) (by simpa using h69_2) hu
        omega
      refine A8 ?_
      refine RE (x3 (c_number (uTo (l.getD i ev0).knd) (l.getD i ev0).hi ((l.getD i ev0).day+1) 65536) fi89 rfl) ⟨rfl,rfl,rfl,rfl,trivial⟩ trivial trivial ?_
      refine A2 ?_
      refine RGcase (t:=53) rfl (fun h72=> ?_) (fun h72=> ?_)
      ·
       refine A18 ?_
       exact x4 Plain.mk' rfl rfl (Le.bool (Bool.eq_false_iff.2 fun hr=>by have ho:=xd4.1 hr;rw [ho.up] at h72;cases h72).symm)
      ·
       refine A3 ?_
       refine xe3 h72 rfl rfl (0) ti3 rfl rfl rfl (At.g 7 rfl rfl) rfl ?_
       refine A1 ?_
       refine RGon h72 rfl (x3 (c_number (uOf (l.getD i ev0).knd) (l.getD i ev0).nr 1 i) fi89 rfl) rfl ⟨rfl,rfl,rfl,rfl,trivial⟩ trivial trivial ?_
       refine A4 ?_
       refine xc0 rfl (fun h72_2=> ?_) (fun h72_2=> ?_)
       ·
        refine A7 ?_
        exact x4 Plain.mk' rfl rfl (Le.bool (Bool.eq_false_iff.2 fun hr=>by have ho:=xd4.1 hr;rw [ho.nm] at h72_2;cases h72_2).symm)
       ·
        refine A9 ?_
        refine R2 (x3 (c_fraction (uPart (l.getD i ev0).knd) (l.getD i ev0).part hd.1) fi90 rfl) rfl rfl ?_
        refine A2 ?_
        refine RGcase (t:=68) rfl (fun h75=> ?_) (fun h75=> ?_)
        ·
         refine A17 ?_
         exact x4 Plain.mk' rfl rfl (Le.bool (Bool.eq_false_iff.2 fun hr=>by have ho:=xd4.1 hr;rw [ho.pt] at h75;cases h75).symm)
        ·
         refine A4 ?_
         refine RGon h75 rfl (x3 (c_fraction (uPay (l.getD i ev0).knd) (l.getD i ev0).pay hd.2) fi90 rfl) rfl ⟨rfl,rfl,trivial⟩ trivial trivial ?_
         refine A4 ?_
         refine xc0 rfl (fun h75_2=> ?_) (fun h75_2=> ?_)
         ·
          refine A7 ?_
          exact x4 Plain.mk' rfl rfl (Le.bool (Bool.eq_false_iff.2 fun hr=>by have ho:=xd4.1 hr;rw [ho.py] at h75_2;cases h75_2).symm)
         ·
          refine A8 ?_
          refine RGcase (t:=78) rfl (fun h78=> ?_) (fun h78=> ?_)
          ·
           refine A5 ?_
           refine RGcaseD (t:=83) rfl (fun h78_2=> ?_) (fun h78_2=> ?_)
           ·
            refine A2 ?_
            refine RGon (decide_eq_true h78_2) rfl (x3 (xk7 1 (by decide) (by decide)) fi91 rfl) rfl ⟨rfl,trivial⟩ trivial trivial (RGon (decide_eq_true h78_2) rfl (x3 (c_FCmpP (l.getD i ev0).part hd.1 (eFrc_valid (by simpa using h75) h78)) fi34 rfl) rfl ⟨rfl,rfl,trivial⟩ trivial trivial ?_)
            refine A4 ?_
            refine x5 rfl (fun h78_3=> ?_) (fun h78_3=> ?_)
            ·
             refine A7 ?_
             exact x4 Plain.mk' rfl rfl (Le.bool (Bool.eq_false_iff.2 fun hr=>by have ho:=xd4.1 hr;exact ho.p1 h78 (by omega) (cmpP.1 (by omega))).symm)
            ·
             refine A3 ?_
             have hx:xOk (l.getD i ev0) i=true:=xOk_mk (by simpa using h66) (by omega) (by omega) (by simpa using h69) (by simpa using h69_2) (by simpa using h72) (by simpa using h72_2) (by simpa using h75) (by simpa using h75_2) (by first | (exact .inl (by simpa using h78)) | (exact .inr (.inl (by omega))) | (exact .inr (.inr fun hh=>absurd (cmpP.2 hh) (by assumption))))
             refine A5 ?_
             refine RGcase (t:=93) rfl (fun h81=> ?_) (fun h81=> ?_)
             ·
              refine A15 ?_
              exact x4 Plain.mk' rfl rfl (Le.bool (by rw [eRight,hx];first | (rw [show uOf (l.getD i ev0).knd=false by simpa using h81];rfl) | (rw [show uOf (l.getD i ev0).knd=true by simpa using h81];rfl)))
             ·
              refine A2 ?_
              refine xe3 h81 rfl rfl (0) ti3 rfl rfl rfl (At.g 7 rfl rfl) rfl ?_
              have hnr:=xn2 (lo:=1) (hi:=(i:Int)) (n:=(l.getD i ev0).nr) (by simpa using h72_2) (by simpa using h81)
              refine RGon h81 rfl (xe4 (wr64 (by omega) (by omega))) rfl ⟨rfl,rfl,trivial⟩ trivial trivial (RGon h81 rfl (x8 sl24 (((l.getD i ev0).nr - 1).toNat) (by omega) (gD (l:=l) (n:=((l.getD i ev0).nr - 1).toNat) (d:=ev0) (by omega))) rfl ⟨rfl,rfl,trivial⟩ trivial trivial (RGon h81 rfl (xe5 fo32_1.h (At.f 1 rfl rfl) rfl) rfl ⟨rfl,trivial⟩ trivial trivial ?_))
              refine A9 ?_
              exact x4 Plain.mk' rfl rfl (Le.bool (by rw [eRight,hx];first | (rw [show uOf (l.getD i ev0).knd=false by simpa using h81];rfl) | (rw [show uOf (l.getD i ev0).knd=true by simpa using h81];rfl)))
           ·
            refine A12 ?_
            have hx:xOk (l.getD i ev0) i=true:=xOk_mk (by simpa using h66) (by omega) (by omega) (by simpa using h69) (by simpa using h69_2) (by simpa using h72) (by simpa using h72_2) (by simpa using h75) (by simpa using h75_2) (by first | (exact .inl (by simpa using h78)) | (exact .inr (.inl (by omega))) | (exact .inr (.inr fun hh=>absurd (cmpP.2 hh) (by assumption))))
            refine A5 ?_
            refine RGcase (t:=93) rfl (fun h81=> ?_) (fun h81=> ?_)
            ·
             refine A15 ?_
             exact x4 Plain.mk' rfl rfl (Le.bool (by rw [eRight,hx];first | (rw [show uOf (l.getD i ev0).knd=false by simpa using h81];rfl) | (rw [show uOf (l.getD i ev0).knd=true by simpa using h81];rfl)))
            ·
             refine A2 ?_
             refine xe3 h81 rfl rfl (0) ti3 rfl rfl rfl (At.g 7 rfl rfl) rfl ?_
             have hnr:=xn2 (lo:=1) (hi:=(i:Int)) (n:=(l.getD i ev0).nr) (by simpa using h72_2) (by simpa using h81)
             refine RGon h81 rfl (xe4 (wr64 (by omega) (by omega))) rfl ⟨rfl,rfl,trivial⟩ trivial trivial (RGon h81 rfl (x8 sl24 (((l.getD i ev0).nr - 1).toNat) (by omega) (gD (l:=l) (n:=((l.getD i ev0).nr - 1).toNat) (d:=ev0) (by omega))) rfl ⟨rfl,rfl,trivial⟩ trivial trivial (RGon h81 rfl (xe5 fo32_1.h (At.f 1 rfl rfl) rfl) rfl ⟨rfl,trivial⟩ trivial trivial ?_))
             refine A9 ?_
             exact x4 Plain.mk' rfl rfl (Le.bool (by rw [eRight,hx];first | (rw [show uOf (l.getD i ev0).knd=false by simpa using h81];rfl) | (rw [show uOf (l.getD i ev0).knd=true by simpa using h81];rfl)))
          ·
           refine A17 ?_
           have hx:xOk (l.getD i ev0) i=true:=xOk_mk (by simpa using h66) (by omega) (by omega) (by simpa using h69) (by simpa using h69_2) (by simpa using h72) (by simpa using h72_2) (by simpa using h75) (by simpa using h75_2) (by first | (exact .inl (by simpa using h78)) | (exact .inr (.inl (by omega))) | (exact .inr (.inr fun hh=>absurd (cmpP.2 hh) (by assumption))))
           refine A5 ?_
           refine RGcase (t:=93) rfl (fun h81=> ?_) (fun h81=> ?_)
           ·
            refine A15 ?_
            exact x4 Plain.mk' rfl rfl (Le.bool (by rw [eRight,hx];first | (rw [show uOf (l.getD i ev0).knd=false by simpa using h81];rfl) | (rw [show uOf (l.getD i ev0).knd=true by simpa using h81];rfl)))
           ·
            refine A2 ?_
            refine xe3 h81 rfl rfl (0) ti3 rfl rfl rfl (At.g 7 rfl rfl) rfl ?_
            have hnr:=xn2 (lo:=1) (hi:=(i:Int)) (n:=(l.getD i ev0).nr) (by simpa using h72_2) (by simpa using h81)
            refine RGon h81 rfl (xe4 (wr64 (by omega) (by omega))) rfl ⟨rfl,rfl,trivial⟩ trivial trivial (RGon h81 rfl (x8 sl24 (((l.getD i ev0).nr - 1).toNat) (by omega) (gD (l:=l) (n:=((l.getD i ev0).nr - 1).toNat) (d:=ev0) (by omega))) rfl ⟨rfl,rfl,trivial⟩ trivial trivial (RGon h81 rfl (xe5 fo32_1.h (At.f 1 rfl rfl) rfl) rfl ⟨rfl,trivial⟩ trivial trivial ?_))
            refine A9 ?_
            exact x4 Plain.mk' rfl rfl (Le.bool (by rw [eRight,hx];first | (rw [show uOf (l.getD i ev0).knd=false by simpa using h81];rfl) | (rw [show uOf (l.getD i ev0).knd=true by simpa using h81];rfl)))
theorem c_EValid (l:List Ev) (hD: ∀e∈l,e.part.dig∧e.pay.dig):
  Ct Tryz.prog 26 [tL 14 true tEv l] (tB (eVal l)):=by
 refine Ct.intro Tryz.func26 rfl Tryz.ntmps26 rfl ?_
 intro w F
 refine xh5 (s:=0) rfl (fun hl0=> ?_)
 refine A13 ?_
 refine x5 rfl (fun h86=> ?_) (fun h86=> ?_)
 ·
  refine A7 ?_
  exact x4 Plain.mk' rfl rfl (Le.bool (by rw [eVal,decide_eq_false (by omega)];rfl))
 ·
  refine A11 ?_
  refine cL (fun (i:Nat)=>i≤l.length∧(List.range i).all (eRight l)=true) (fun (i:Nat)=>upd (upd (upd (fun _=>none) 0 (some (.val (tL 14 true tEv l)))) 8 (some (.val (tI l.length)))) 9 (some (.val (tI i)))) (fun (i:Nat)=>fun _=>none) [] (fun (i:Nat)=>l.length - i) (0) ⟨Nat.zero_le _,rfl⟩ ?_
  intro i hI
  obtain ⟨hi,ha⟩:=hI
  refine A6 ?_
  refine x5 rfl (fun h89=> ?_) (fun h89=> ?_)
  ·
   refine A14 ?_
   refine R2 (x3 (c_eRight l i (by omega) (by omega) hD) fi56 rfl) rfl rfl ?_
   refine A3 ?_
   refine xc0 rfl (fun h90=> ?_) (fun h90=> ?_)
   ·
    refine A11 ?_
    exact x4 Plain.mk' rfl rfl (Le.bool (by rw [eVal,xu5 (i:=i) (by omega) (by simpa using h90),Bool.and_false]))
   ·
    refine A7 ?_
    exact kF (i+1) ⟨⟨by omega,by rw [xs5,ha,show eRight l i=true by simpa using h90];rfl⟩,(by omega)⟩
  ·
   refine A11 ?_
   exact x4 Plain.mk' rfl rfl (Le.bool (by rw [eVal,decide_eq_true (by omega),show l.length=i by omega,ha];rfl))
end An.S
namespace An
open Go An.S
def pHire (job d:Int) (e:Ev):Bool:=decide (e.job=job) && decide (e.day≤d) && (decide (e.knd=1) || decide (e.knd=2))
def pIdle (job d:Int) (e:Ev):Bool:=decide (e.knd=5) && decide (e.job=job) && decide (e.day≤d) && decide (d < e.hi)
def pHours (h:Ev) (d:Int) (e:Ev):Bool:=decide (e.knd=3) && decide (e.job=h.job) && decide (h.day≤e.day) && decide (e.day≤d) && decide (d < e.hi)
def pPay (h:Ev) (d:Int) (e:Ev):Bool:=decide (e.knd=4) && decide (e.job=h.job) && decide (h.day≤e.day) && decide (e.day≤d)
def hireE (F:List Ev) (job d:Int):Option Ev:=match lastE (pHire job d) F with
 | some e=>if e.knd=1 then some e else none
 | none=>none
def idleE (F:List Ev) (job d:Int):Bool:=(lastE (pIdle job d) F).isSome
def partE (F:List Ev) (h:Ev) (d:Int):Fr:=if idleE F h.job d=true then fr ((0:Int):Rat) else match lastE (pHours h d) F with
 | some e=>e.part
 | none=>h.part
def payE (F:List Ev) (h:Ev) (d:Int):Fr:=if idleE F h.job d=true then fr ((0:Int):Rat) else match lastE (pPay h d) F with
 | some e=>e.pay
 | none=>h.pay
def addJ (f:List Ev→Ev→Int→Fr) (F:List Ev) (d:Int) (job:Nat):Rat:=match hireE F (job:Int) d with
 | some h=>(f F h d).rat
 | none=>((0:Int):Rat)
def sumQ (f:List Ev→Ev→Int→Fr) (F:List Ev) (d:Int):Nat→Rat
 | 0=>((0:Int):Rat)
 | j+1=>sumQ f F d j+addJ f F d (j+1)
def heldQ (F:List Ev) (d:Int):Nat→Bool
 | 0=>false
 | j+1=>heldQ F d j || (hireE F ((j+1:Nat):Int) d).isSome
def oneQ (q:Rat):Rat:=if ((1:Int):Rat) < q then ((1:Int):Rat) else q
def fteQ (F:List Ev) (d:Int):Option Rat:=if heldQ F d 8=true then some (oneQ (sumQ partE F d 8)) else none
def payQ (F:List Ev) (d:Int):Option Rat:=if heldQ F d 8=true then some (sumQ payE F d 8) else none
def crdL (F:List Ev) (d:Int):List Ev:=F.filter fun e=>decide (e.knd=6) && decide (e.day≤d)
def crdQ (F:List Ev) (d:Int):Option Rat:=if (crdL F d).isEmpty=true then none else some ((crdL F d).foldl (fun q e=>q+e.part.rat) ((0:Int):Rat))
def kQ (K:Nat) (F:List Ev) (d:Int):Option Rat:=match K with
 | 0=>crdQ F d
 | 1=>fteQ F d
 | _=>payQ F d
def kK (K:Nat):Nat:=if K=2 then 3 else 2
def kG (K:Nat) (F:List Ev) (d:Int):Option Va:=(kQ K F d).map fun q=>⟨kK K,fr q,0⟩
def dyE (e:Ev):List Int:=if e.knd=7 then [] else e.day::if 0 < e.hi∧e.hi < 65536 then [e.hi] else []
def dyF (F:List Ev):List Int:=brd (F.flatMap dyE)
def dyC (F:List Ev):List Int:=brd ((F.filter fun e=>decide (e.knd=6)).map (·.day))
def kD (K:Nat) (F:List Ev):List Int:=if K=0 then dyC F else dyF F
def mT (K:Nat) (F:List Ev):List Tst:=pst [] (segL (kG K F) (kD K F++[65536]))
theorem kD_pw {K:Nat} {F:List Ev}:(kD K F).Pairwise (· < ·):=by rw [kD];split <;> exact (xf2 _).1
theorem dyE_mem {e:Ev} {x:Int}:x∈dyE e↔e.knd≠7∧(x=e.day∨(x=e.hi∧0 < e.hi∧e.hi < 65536)):=by
 rw [dyE]
 split
 ·rename_i h;exact ⟨fun h'=>absurd h' List.not_mem_nil,fun h'=>absurd h h'.1⟩
 ·rename_i h
  split
  ·rename_i g
   simp only [List.mem_cons,List.not_mem_nil,or_false]
   constructor
   ·rintro (a | a)
    ·exact ⟨h,.inl a⟩
    ·exact ⟨h,.inr ⟨a,g⟩⟩
   ·rintro ⟨_,a | a⟩
    ·exact .inl a
    ·exact .inr a.1
  ·rename_i g
   simp only [List.mem_cons,List.not_mem_nil,or_false]
   exact ⟨fun a=>⟨h,.inl a⟩,fun a=>a.2.elim id fun b=>absurd b.2 g⟩
theorem dyF_mem {F:List Ev} {x:Int}:x∈dyF F↔ ∃e∈F,e.knd≠7∧(x=e.day∨(x=e.hi∧0 < e.hi∧e.hi < 65536)):=by
 rw [dyF,(xf2 _).2,List.mem_flatMap]
 exact exists_congr fun e=>and_congr_right fun _=>dyE_mem
theorem dyC_mem {F:List Ev} {x:Int}:x∈dyC F↔ ∃e∈F,e.knd=6∧x=e.day:=by
 rw [dyC,(xf2 _).2,List.mem_map]
 constructor
 ·rintro ⟨e,he,rfl⟩
  obtain ⟨h1,h2⟩:=List.mem_filter.1 he
  exact ⟨e,h1,of_decide_eq_true h2,rfl⟩
 ·rintro ⟨e,he,hk,rfl⟩
  exact ⟨e,List.mem_filter.2 ⟨he,decide_eq_true hk⟩,rfl⟩
def calE (F:List Ev):Prop:= ∀e∈F,(0≤e.day∧e.day≤65535)∧0≤e.hi∧e.hi≤65536
theorem kD_bd {K:Nat} {F:List Ev} (h:calE F): ∀x∈kD K F,0≤x∧x < 65536:=fun x hx=>by
 rw [kD] at hx
 split at hx
 ·obtain ⟨e,he,_,rfl⟩:=dyC_mem.1 hx
  have:=(h e he).1;omega
 ·obtain ⟨e,he,_,hh⟩:=dyF_mem.1 hx
  have:=(h e he).1;omega
theorem kD_pw2 {K:Nat} {F:List Ev} (h:calE F):(kD K F++[65536]).Pairwise (· < ·):=
 List.pairwise_append.2 ⟨kD_pw,List.pairwise_singleton ..,fun a ha b hb=>by rw [List.mem_singleton.1 hb];exact (kD_bd h a ha).2⟩
def stG (b:Int→Bool) (v:Int→Rat) (kk:Nat) (d:Int):Option Va:=if b d=true then some ⟨kk,fr (v d),0⟩ else none
def stK (b:Int→Bool) (v:Int→Rat) (kk:Nat) (ds:List Int) (k:Nat):List Tst:=pst [] (segN (stG b v kk) (ds++[65536]) k)
section
variable {b:Int→Bool} {v:Int→Rat} {kk:Nat} {ds:List Int} {k:Nat}
theorem endD_at (hk:k < ds.length):(ds++[65536]).getD k 0=ds.getD k 0:=by
 rw [List.getD_eq_getElem?_getD,List.getElem?_append_left hk,List.getD_eq_getElem?_getD]
theorem endD_end (hk:k=ds.length):(ds++[65536]).getD k 0=65536:=by
 subst hk
 rw [List.getD_eq_getElem?_getD,List.getElem?_append_right (Nat.le_refl _)];simp
theorem stK_none (hk:k < ds.length) (h:b (ds.getD k 0)=false):stK b v kk ds (k+1)=stK b v kk ds k:=by
 rw [stK,stK,xm9,segI,endD_at hk,stG,if_neg (by rw [h];decide)];simp
theorem xn3 (hk:k < ds.length) (h:b (ds.getD k 0)=true):stK b v kk ds (k+1)=pst1 (stK b v kk ds k) ⟨ds.getD k 0,(ds++[65536]).getD (k+1) 0,⟨kk,fr (v (ds.getD k 0)),0⟩⟩:=by
 rw [stK,stK,xm9,segI,endD_at hk,stG,if_pos h,pst_app];rfl
theorem stK_len:(stK b v kk ds k).length≤k:=by
 have h1:=xq7 (segN (stG b v kk) (ds++[65536]) k) []
 have h2:=segN_len (g:=stG b v kk) (ds:=ds++[65536]) k
 rw [stK];simp only [List.length_nil] at h1;omega
theorem stK_val: ∀s∈stK b v kk ds k,s.v.kind=kk∧s.v.i=0:=by
 rw [stK]
 refine pst_all (P:=fun s=>s.v.kind=kk∧s.v.i=0) (fun a s ha _ _=>ha) _ _ (fun s hs=>by cases hs) fun s hs _=> ?_
 obtain ⟨i,_,hs⟩:=List.mem_flatMap.1 hs
 rw [segI] at hs
 cases hg:stG b v kk ((ds++[65536]).getD i 0) with
 | none=>rw [hg] at hs;cases hs
 | some w=>
  rw [hg] at hs
  rw [List.mem_singleton.1 hs]
  rw [stG] at hg
  split at hg
  ·obtain rfl:=Option.some.inj hg;exact ⟨rfl,rfl⟩
  ·cases hg
theorem stK_last (h:0 < (stK b v kk ds k).length) {f:Fr} (e:((stK b v kk ds k).getD ((stK b v kk ds k).length - 1) tst0).v.f=f):((stK b v kk ds k).getD ((stK b v kk ds k).length - 1) tst0).v=⟨kk,f,0⟩:=by
 have hm:=stK_val _ (xh4 (l:=stK b v kk ds k) (i:=(stK b v kk ds k).length - 1) (by omega))
 generalize (stK b v kk ds k).getD ((stK b v kk ds k).length - 1) tst0=s at*
 obtain ⟨_,_,⟨a,c,d⟩⟩:=s
 simp only at hm e
 rw [hm.1,hm.2,e]
theorem stK_all:stK b v kk ds ds.length=pst [] (segL (stG b v kk) (ds++[65536])):=by
 rw [stK,segL_N,List.length_append];rfl
theorem stG_mT {K:Nat} {F:List Ev} (h: ∀d,stG b v kk d=kG K F d) (hd:ds=kD K F):pst [] (segL (stG b v kk) (ds++[65536]))=mT K F:=by
 rw [mT,hd,show stG b v kk=kG K F from funext h]
end
end An
namespace An
open Go
theorem lent_lb {N:Nat} {w:World} {F:Dom} {η:Env} {l0:List Nat} {H:List (Nat×HEnt)} {h:Keys} {k:Nat} (hx:(H.all fun x=>l0.contains x.1 && !(Nat.beq x.1 k) && (h x.1).isSome)=true):
  ∀b,(Base.lent N w F η l0 H).lb b→ ∃j y,j∈(Base.lent N w F η l0 H).ln∧j≠k∧h j=some y∧0 < (Base.lent N w F η l0 H).lη.c j∧b=(Base.lent N w F η l0 H).lη.b j:=fun b ⟨x,hm,hc,e⟩=>by
 have h1:=List.all_eq_true.1 hx x hm
 simp only [Bool.and_eq_true,Bool.not_eq_true'] at h1
 obtain ⟨⟨h1,h2⟩,h3⟩:=h1
 obtain ⟨y,hy⟩:=Option.isSome_iff_exists.1 h3
 refine ⟨x.1,y,(show x.1∈l0 by simpa using h1),fun e2=> ?_,hy,hc,e⟩
 rw [e2,Nat.beq_refl] at h2;cases h2
theorem wl_give {P:Program} {c:Base} {g:Slots} {h:Keys} {al:Names} {Q:Exit→Act→World→Prop} {A:Array Oper} {rest:List Oper} {t k T es off len:Nat} {agg:Bool} {ts:List Ent} {α:Type} {f:α→Ty} {xs:List α} (hg:g t=some (.own (.sl k es off len))) (hk:h k=some ⟨T,es,agg,ts⟩) (hlb:NoLb c)
  (hts:(ts.drop off).take len=xs.map fun x=> .val (f x)) (hl:xs.length=len) (H:wl P c A Q rest (upd g t (some (.val (tL es agg f xs)))) (upd h k none) al):wl P c A Q rest g h al:=fun a w ⟨η,s⟩=>by
 have h2:=s.give hk hlb hts hl (s.slot t _ hg).2.2
 have s2:=(s.drop k).put (s.slot t _ hg).1 (e:= .val (tL es agg f xs)) h2 fun j hj=>by cases hj
 refine H a w ⟨η,?_⟩
 have e:a.put (some t) (a.tmps.getD t undef)=a:=by
  have hlt:t < a.tmps.size:=by rw [s.tn];exact (s.slot t _ hg).1
  have:a.tmps.setIfInBounds t (a.tmps.getD t undef)=a.tmps:=by
   apply Array.ext_getElem?
   intro i
   rw [Array.getElem?_setIfInBounds]
   by_cases hi:t=i
   ·subst hi;simp [hlt]
   ·simp [hi]
  simp only [Act.put,this]
 rwa [e] at s2
theorem ImpK.three {T es:Nat} {agg:Bool} {a b c a' b' c':Ty} (h1:Le a a') (h2:Le b b') (h3:Le c c'):ImpK ⟨T,es,agg,[.val a,.val b,.val c]⟩ ⟨T,es,agg,[.val a',.val b',.val c']⟩:=
 .ts (Nat.le_refl _) fun i e hi=>by
  match i,hi with
  | 0,hi=>obtain rfl:=Option.some.inj hi;exact ⟨_,rfl,Imp.le h1⟩
  | 1,hi=>obtain rfl:=Option.some.inj hi;exact ⟨_,rfl,Imp.le h2⟩
  | 2,hi=>obtain rfl:=Option.some.inj hi;exact ⟨_,rfl,Imp.le h3⟩
theorem xg0 {P:Program} {c:Base} {d ty:Nat} {pos:String} {af:Array Edge} {gd:Option (Nat×Bool)} {T E es by_ k k' n n':Nat} {agg:Bool} {z:Value} {α:Type} {f:α→Ty} (xs:List α) (e:α) {x y:Operand} {T0:Nat} (sl:P.underlying T=some (.slice E)) (el:ElI P E es by_ agg z) (hz:Flat es agg z) (hT:T0=E) (h0:Nat.blt 0 es=true)
  (hf: ∀y,Shape (f y) es agg) (hn:xs.length=n) (hb:(n+1)*by_≤140737488355328∧n+1≤9223372036854775807) (hn':n+1=n'):
  Does P c ⟨some d,.call {callee:= .builtin .append,args:= #[x,y],argTypes:= #[T,T]},ty,pos,af,gd⟩ ⟨[(x,.own (.sl k es 0 n)),(y,.val (tL es agg f [e]))],[(k,⟨T0,es,agg,rV f xs⟩)],some (d,some (.own (.sl k' es 0 n'))),[(k,none),(k',some ⟨T0,es,agg,rV f (xs++[e])⟩)],[k']⟩:=
 xb6 (ys:=[e]) sl el hz hT h0 hf (xc6.trans hn) hb.1 hb.2 (by simp [rV]) hn'
end An
namespace An.S
open Go Go.Proofs An
instance ti24:TyI Tryz.prog 24 1 false:=⟨by kernel_rfl,by kernel_rfl⟩
instance ti94:TyI Tryz.prog 94 1 true:=⟨by kernel_rfl,by kernel_rfl⟩
instance sl97:SlI Tryz.prog 97 4 1 false:=⟨Tryz.underlying97,ti4⟩
instance fo94_0:FoI Tryz.prog 94 0 0:=⟨by kernel_rfl⟩
instance fi26:FnI Tryz.prog 26:=⟨_,Tryz.func26,by kernel_rfl,rfl⟩
instance fi30:FnI Tryz.prog 30:=⟨_,Tryz.func30,by kernel_rfl,rfl⟩
instance fi48:FnI Tryz.prog 48:=⟨_,Tryz.func48,by kernel_rfl,rfl⟩
instance fi122:FnI Tryz.prog 122:=⟨_,Tryz.func122,by kernel_rfl,rfl⟩
instance fi124:FnI Tryz.prog 124:=⟨_,Tryz.func124,by kernel_rfl,rfl⟩
instance fi163:FnI Tryz.prog 163:=⟨_,Tryz.func163,by kernel_rfl,rfl⟩
instance fi164:FnI Tryz.prog 164:=⟨_,Tryz.func164,by kernel_rfl,rfl⟩
instance fi165:FnI Tryz.prog 165:=⟨_,Tryz.func165,by kernel_rfl,rfl⟩
instance fi166:FnI Tryz.prog 166:=⟨_,Tryz.func166,by kernel_rfl,rfl⟩
instance fi167:FnI Tryz.prog 167:=⟨_,Tryz.func167,by kernel_rfl,rfl⟩
instance fi193:FnI Tryz.prog 193:=⟨_,Tryz.func193,by kernel_rfl,rfl⟩
instance fi194:FnI Tryz.prog 194:=⟨_,Tryz.func194,by kernel_rfl,rfl⟩
theorem el4:ElI Tryz.prog 4 1 1 false (.bool false):=⟨ti4,by kernel_rfl,by kernel_rfl⟩
theorem el32:ElI Tryz.prog 32 14 176 true (.agg #[.int .u8 0,.int .i64 0,.int .i64 0,.int .i64 0,.int .i64 0,.bool false,.slice none 0 0,.bool false,.slice none 0 0,.bool false,.slice none 0 0,.bool false,.slice none 0 0,.int .i64 0]):=⟨ti32,by kernel_rfl,by kernel_rfl⟩
theorem zr94:(Tryz.prog.info? 94).bind (·.zero)=some (.agg #[.slice none 0 0])∧ ∀F w,(tS [⟨1,false,(tE (.slice none 0 0))⟩]).p F w (.agg #[.slice none 0 0]):=⟨by kernel_rfl,fun _ _=>⟨_,rfl,rfl,⟨fun _=>rfl,rfl⟩,trivial⟩⟩
theorem bu32:BuI Tryz.prog 32 (fun i=>[(0,1),(1,1),(2,1),(3,1),(4,1),(5,4),(9,4),(13,1)][i]?) (.agg #[.int .u8 0,.int .i64 0,.int .i64 0,.int .i64 0,.int .i64 0,.bool false,.slice none 0 0,.bool false,.slice none 0 0,.bool false,.slice none 0 0,.bool false,.slice none 0 0,.int .i64 0]):=BuI.struct Tryz.underlying32 (by kernel_rfl) (by kernel_rfl)
theorem zf32:Flat 14 true (.agg #[.int .u8 0,.int .i64 0,.int .i64 0,.int .i64 0,.int .i64 0,.bool false,.slice none 0 0,.bool false,.slice none 0 0,.bool false,.slice none 0 0,.bool false,.slice none 0 0,.int .i64 0]):=xn1 (by intro u hu;simp at hu;rcases hu with rfl | rfl | rfl | rfl | rfl | rfl | rfl | rfl | rfl | rfl | rfl | rfl | rfl | rfl <;> rfl)
instance un97:UnI Tryz.prog 97 (.slice 4):=⟨Tryz.underlying97⟩
abbrev tVw (fs:List Ev):Ty:=tS [⟨1,false,tL 14 true tEv fs⟩]
def inK (l:List Ev) (kn:Int) (k:Nat):List Ev:=((List.range k).filter (frc l kn)).map fun i=>l.getD i ev0
theorem inK_next {l:List Ev} {kn:Int} {k:Nat}:inK l kn (k+1)=inK l kn k++if frc l kn k=true then [l.getD k ev0] else []:=by
 rw [inK,List.range_succ,List.filter_append,List.map_append,List.filter_cons]
 split <;> simp [inK]
theorem inK_len {l:List Ev} {kn:Int} {k:Nat}:(inK l kn k).length≤k:=by
 have:=List.length_filter_le (frc l kn) (List.range k)
 rw [List.length_range] at this;rw [inK,List.length_map];exact this
def inN (l:List Ev) (kn:Int) (k:Nat):List Int:=((List.range k).filter (frc l kn)).map fun i:Nat=>(i:Int)+1
theorem inN_next {l:List Ev} {kn:Int} {k:Nat}:inN l kn (k+1)=inN l kn k++if frc l kn k=true then [(k:Int)+1] else []:=by
 rw [inN,List.range_succ,List.filter_append,List.map_append,List.filter_cons]
 split <;> simp [inN]
theorem inN_len {l:List Ev} {kn:Int} {k:Nat}:(inN l kn k).length≤k:=by
 have:=List.length_filter_le (frc l kn) (List.range k)
 rw [List.length_range] at this;rw [inN,List.length_map];exact this
def infN (l:List Ev) (kn:Int):List Int:=(infI l kn).map fun i:Nat=>(i:Int)+1
theorem c_live (l:List Ev) (kn:Int) (hv: ∀i,i < l.length→EOk l i) (hl:l.length≤100):
  Ct Tryz.prog 48 [tL 14 true tEv l,tI kn] (tL 1 false (fun b:Bool=>tB b) (live l kn)):=by
 refine Ct.intro Tryz.func48 rfl Tryz.ntmps48 rfl ?_
 intro w F
 refine A9 ?_
 refine RE (xi6 (k:=10) (t:=tB false) (ts:=rV (fun b:Bool=>tB b) (List.replicate l.length false)) l.length l.length Tryz.underlying97 el4 (fun _ _=>rfl) rfl (by omega) (by omega) (Nat.le_refl _) (by omega) (by omega) (rV_rep (f:=fun b:Bool=>tB b) _ _ rfl)) ⟨rfl,rfl,trivial⟩ trivial ⟨rfl,trivial⟩ ?_
 refine A7 ?_
 refine RE (xi6 (k:=13) (t:=tB false) (ts:=rV (fun b:Bool=>tB b) (List.replicate l.length false)) l.length l.length Tryz.underlying97 el4 (fun _ _=>rfl) rfl (by omega) (by omega) (Nat.le_refl _) (by omega) (by omega) (rV_rep (f:=fun b:Bool=>tB b) _ _ rfl)) ⟨rfl,rfl,trivial⟩ trivial ⟨rfl,trivial⟩ ?_
 refine A13 ?_
 refine cL (fun (k:Nat)=>k≤l.length) (fun (k:Nat)=>upd (upd (upd (upd (upd (fun _=>none) 0 (some (.val (tL 14 true tEv l)))) 1 (some (.val (tI kn)))) 5 (some (.own (.sl 10 1 0 l.length)))) 6 (some (.own (.sl 13 1 0 l.length)))) 7 (some (.val (tI ((l.length:Int) - 1 - (k:Int)))))) (fun (k:Nat)=>upd (upd (fun _=>none) 10 (some (⟨4,1,false,rV (fun b:Bool=>tB b) (liveS l kn k).1⟩))) 13 (some (⟨4,1,false,rV (fun b:Bool=>tB b) (liveS l kn k).2⟩))) [10,13] (fun (k:Nat)=>l.length - k) (0) (Nat.zero_le _) (hh:=((SubK.consI rfl ImpK.refl) ((SubK.consI rfl ImpK.refl) SubK.nil))) ?_
 intro k hI
 have hl1:=(xt1 (l:=l) (kn:=kn) k).1
 have hl2:=(xt1 (l:=l) (kn:=kn) k).2
 have hn:=fun (hh:k < l.length)=>hv (l.length - 1 - k) (by omega)
 refine A7 ?_
 refine x5 rfl (fun h128=> ?_) (fun h128=> ?_)
 ·
  refine A9 ?_
  refine R2 (x8 sl24 ((l.length - 1 - k)) (by omega) (gD (l:=l) (n:=(l.length - 1 - k)) (d:=ev0) (by omega))) rfl rfl (R1 (xe5 fo32_1.h (At.f 1 rfl rfl) rfl) rfl ?_)
  refine A4 ?_
  refine RGcaseD (t:=28) rfl (fun h129=> ?_) (fun h129=> ?_)
  ·
   refine A17 ?_
   have hs:liveS l kn (k+1)=liveS l kn k:=by rw [liveS,if_pos (.inl (by omega))]
   exact kF (k+1) ⟨(by omega),(by omega)⟩ (hh:=((SubK.consI rfl (ImpK.of (by rw [hs]))) ((SubK.consI rfl (ImpK.of (by rw [hs]))) SubK.nil)))
  ·
   refine A2 ?_
   refine RGon (decide_eq_false h129) rfl (x7 sl97 (by omega) (by omega) rfl) rfl ⟨rfl,rfl,trivial⟩ trivial trivial (RGon (decide_eq_false h129) rfl (xa6 (l.length - 1 - k) ti4 (xa8 (f:=fun b:Bool=>tB b) (xs:=(liveS l kn k).2) (d:=false) (by rw [hl2];omega)) (by omega)) rfl ⟨rfl,trivial⟩ ⟨rfl,trivial⟩ trivial ?_)
   refine A3 ?_
   refine xc0 rfl (fun h129_2=> ?_) (fun h129_2=> ?_)
   ·
    refine A9 ?_
    have hs:liveS l kn (k+1)=liveS l kn k:=by rw [liveS,if_pos (.inr h129_2)]
    exact kF (k+1) ⟨(by omega),(by omega)⟩ (hh:=((SubK.consI rfl (ImpK.of (by rw [hs]))) ((SubK.consI rfl (ImpK.of (by rw [hs]))) SubK.nil)))
   ·
    refine A6 ?_
    refine R2 (x7 sl97 (by omega) (by omega) rfl) rfl rfl (RE (xb2 ((l.length - 1 - k)) ti4 (xh8 (by rw [hl1];omega)) (by omega) (xe6 (m:=true) rfl)) ⟨rfl,rfl,trivial⟩ ⟨rfl,trivial⟩ trivial ?_)
    refine A6 ?_
    refine R2 (x8 sl24 ((l.length - 1 - k)) (by omega) (gD (l:=l) (n:=(l.length - 1 - k)) (d:=ev0) (by omega))) rfl rfl (R1 (xe5 fo32_0.h (At.f 0 rfl rfl) rfl) rfl ?_)
    refine A4 ?_
    refine x5 rfl (fun h133=> ?_) (fun h133=> ?_)
    ·
     refine A4 ?_
     have ho:=(hn (by omega)).of_ (by omega)
     refine R2 (x8 sl24 ((l.length - 1 - k)) (by omega) (gD (l:=l) (n:=(l.length - 1 - k)) (d:=ev0) (by omega))) rfl rfl (R1 (xe5 fo32_7.h (At.f 7 rfl rfl) rfl) rfl ?_)
     refine A2 ?_
     refine R2 (x7 sl97 (by omega) (by omega) rfl) rfl rfl (RE (xb2 (((l.getD (l.length - 1 - k) ev0).nr - 1).toNat) ti4 (xh8 (by rw [hl2];omega)) (by omega) (xe6 (m:=true) rfl)) ⟨rfl,rfl,trivial⟩ ⟨rfl,trivial⟩ trivial ?_)
     refine A8 ?_
     have hs:liveS l kn (k+1)=((liveS l kn k).1.set (l.length - 1 - k) true,(liveS l kn k).2.set ((l.getD (l.length - 1 - k) ev0).nr - 1).toNat true):=by rw [liveS,if_neg (fun hh=>hh.elim (fun h1=>by omega) (fun h1=>by rw [h1] at h129_2;cases h129_2)),if_pos (by omega)]
     exact kF (k+1) ⟨(by omega),(by omega)⟩ (hh:=((SubK.consI rfl (ImpK.of (by rw [hs]))) ((SubK.consI rfl (ImpK.of (by rw [hs]))) SubK.nil)))
    ·
     refine A8 ?_
     have hs:liveS l kn (k+1)=((liveS l kn k).1.set (l.length - 1 - k) true,(liveS l kn k).2):=by rw [liveS,if_neg (fun hh=>hh.elim (fun h1=>by omega) (fun h1=>by rw [h1] at h129_2;cases h129_2)),if_neg (by omega)]
     exact kF (k+1) ⟨(by omega),(by omega)⟩ (hh:=((SubK.consI rfl (ImpK.of (by rw [hs]))) ((SubK.consI rfl (ImpK.of (by rw [hs]))) SubK.nil)))
 ·
  refine A8 ?_
  refine RE (xi2 (f:=fun b:Bool=>tB b) (xs:=(liveS l kn k).1) (fun _ h=>h) (xf4 hl1) hl1) ⟨rfl,trivial⟩ ⟨rfl,trivial⟩ trivial ?_
  refine A3 ?_
  exact x4 Plain.mk' rfl rfl (Le.of (by rw [live,show k=l.length by omega]))
theorem c_viewOf (l:List Ev) (kn:Int) (hv: ∀i,i < l.length→EOk l i) (hl:l.length≤100):
  Ct Tryz.prog 46 [tL 14 true tEv l,tI kn] (tVw (inf l kn)):=by
 refine Ct.intro Tryz.func46 rfl Tryz.ntmps46 rfl ?_
 intro w F
 refine A2 ?_
 refine RE (xa1 (k:=4) (n:=1) (agg:=true) zr94.1 zr94.2 rfl) trivial trivial ⟨rfl,trivial⟩ ?_
 refine A4 ?_
 refine RE (d_allocC (k:=5) (n:=1) [.slice none 0 0] zr94.1 rfl rfl rfl rfl) trivial trivial ⟨rfl,trivial⟩ ?_
 refine A4 ?_
 refine C_nilC (q:=5) 50 32 14 true 0 rfl rfl rfl rfl (fun h=>by cases h) rfl rfl ?_
 refine A3 ?_
 refine R2 (x3 (c_live l kn hv hl) fi48 rfl) rfl rfl ?_
 refine A5 ?_
 refine cL (fun (i:Nat)=>i≤l.length) (fun (i:Nat)=>upd (upd (upd (upd (upd (upd (fun _=>none) 0 (some (.val (tL 14 true tEv l)))) 10 (some (.val (tL 1 false (fun b:Bool=>tB b) (live l kn))))) 11 (some (.val (tI l.length)))) 12 (some (.val (tI i)))) 4 (some (.own (.ptr 4 0)))) 5 (some (.own (.ptr 5 0)))) (fun (i:Nat)=>upd (upd (upd (fun _=>none) 4 (some (⟨94,1,true,[.val (tS [⟨1,false,tE (.slice none 0 0)⟩])]⟩))) 5 (some (⟨94,1,false,[.own (.sl 50 14 0 (inK l kn i).length)]⟩))) 50 (some (⟨32,14,true,rV tEv (inK l kn i)⟩))) [4,5,50] (fun (i:Nat)=>l.length - i) (0) (Nat.zero_le _) (hg:=(sC (sC (sI ((Sub.consI rfl (Imp.int (by rw [live_len]))) (sC (sC Sub.nil))))))) (hh:=((SubK.consI rfl ImpK.refl) ((SubK.consI rfl ImpK.refl) ((SubK.consI rfl ImpK.refl) SubK.nil)))) ?_
 intro i hI
 have hnx:=inK_next (l:=l) (kn:=kn) (k:=i)
 have hxl:=inK_len (l:=l) (kn:=kn) (k:=i)
 refine A6 ?_
 refine x5 rfl (fun h16=> ?_) (fun h16=> ?_)
 ·
  refine A7 ?_
  refine R2 (x8 sl97 (i) (by omega) (gD (l:=live l kn) (n:=i) (d:=false) (by rw [live_len];omega))) rfl rfl (R1 (xm2 ti4) rfl ?_)
  refine A9 ?_
  refine xc0 rfl (fun h17=> ?_) (fun h17=> ?_)
  ·
   refine A5 ?_
   refine R2 (x8 sl24 (i) (by omega) (gD (l:=l) (n:=i) (d:=ev0) (by omega))) rfl rfl ?_
   refine A1 ?_
   refine R1 (xb0 (n:=1) (f:=tEv) [(l.getD i ev0)] Tryz.underlying24 el32 zf32 rfl (fun _=>inferInstance) rfl rfl rfl) rfl (RE (xg0 (k:=50) (k':=25) (f:=tEv) (inK l kn i) (l.getD i ev0) Tryz.underlying24 el32 zf32 rfl rfl (fun _=>inferInstance) rfl ⟨by omega,by omega⟩ rfl) ⟨rfl,rfl,trivial⟩ ⟨rfl,trivial⟩ ⟨rfl,trivial⟩ ?_)
   refine A9 ?_
   rw [if_pos (show frc l kn i=true from h17)] at hnx
   exact xb7 (l:=[4,5,50]) (fun j=>cond (Nat.beq j 50) 25 (j)) (i+1) ⟨(by omega),(by omega)⟩ (SubR.cons rfl (SubR.cons rfl (SubR.int rfl (by first | omega | rfl | (dsimp only;omega)) (SubR.int rfl (by first | omega | rfl | (dsimp only;omega)) (SubR.cons rfl (SubR.cons rfl SubR.nil)))))) ((SubKR.consI rfl (ImpK.of (by rw [hnx];exact xa2.symm))) ((SubKR.consI rfl (ImpK.of (by rw [hnx,List.length_append];rfl))) (SubKR.cons rfl SubKR.nil))) (SupG.own rfl (SupG.own rfl (SupG.val (SupG.val (SupG.val (SupG.val SupG.nil)))))) (SupH.cons rfl (supJ x9) (SupH.cons rfl (supJL rfl) (SupH.cons rfl (supJL rfl) SupH.nil))) (lkOk rfl) rfl rfl (fun _ h=>by cases h)
  ·
   refine A7 ?_
   rw [show frc l kn i=false from h17,if_neg (by decide),List.append_nil] at hnx
   exact kF (i+1) ⟨(by omega),(by omega)⟩ (hh:=((SubK.consI rfl (ImpK.of (by rw [hnx]))) ((SubK.consI rfl (ImpK.of (by rw [hnx]))) (SubK.cons rfl SubK.nil))))
 ·
  refine A6 ?_
  refine C_giveC (q:=5) (j:=50) (f:=tEv) (xs:=(inK l kn i)) 0 rfl rfl rfl rfl (NoLbK.of fun _ h=>h) (xf4 rfl) rfl rfl ?_
  refine A1 ?_
  refine RE (d_loadM (us:=[tL 14 true tEv (inK l kn i)]) (t:=tVw (inK l kn i)) ti94 rfl rfl rfl rfl) ⟨rfl,trivial⟩ ⟨rfl,trivial⟩ trivial ?_
  refine A4 ?_
  exact xc3 Plain.mk' rfl ⟨_,_,_,_,_,rfl,rfl,ti94,(Le.of (by rw [show i=l.length by omega];rfl))⟩
theorem c_InForce (l:List Ev) (kn:Int) (hD: ∀e∈l,e.part.dig∧e.pay.dig):
  Ct Tryz.prog 17 [tL 14 true tEv l,tI kn] (tL 1 false tI (if eVal l=true then infN l kn else [])):=by
 refine Ct.intro Tryz.func17 rfl Tryz.ntmps17 rfl ?_
 intro w F
 refine A9 ?_
 refine R1 (x3 (c_EValid l hD) fi26 rfl) rfl ?_
 refine A3 ?_
 refine xc0 rfl (fun h142=> ?_) (fun h142=> ?_)
 ·
  refine A7 ?_
  exact x4 Plain.mk' rfl rfl (by rw [if_neg (by simpa using h142)];exact leNil rfl)
 ·
  refine A4 ?_
  refine RE (xd3 (k:=5) 3 1 false rfl (fun _=>rfl)) trivial trivial ⟨rfl,trivial⟩ ?_
  refine A7 ?_
  refine R2 (x3 (c_live l kn (fun i hi=>xd4.1 (eVal_at (by simpa using h142) hi)) (eVal_len (by simpa using h142))) fi48 rfl) rfl rfl ?_
  refine A5 ?_
  have hvl:=eVal_len (l:=l) (by simpa using h142)
  refine cL (fun (i:Nat)=>i≤l.length) (fun (i:Nat)=>upd (upd (upd (upd (fun _=>none) 5 (some (.own (.sl 5 1 0 (inN l kn i).length)))) 13 (some (.val (tL 1 false (fun b:Bool=>tB b) (live l kn))))) 14 (some (.val (tI l.length)))) 15 (some (.val (tI i)))) (fun (i:Nat)=>upd (fun _=>none) 5 (some (⟨3,1,false,rV tI (inN l kn i)⟩))) [5] (fun (i:Nat)=>l.length - i) (0) (Nat.zero_le _) (hg:=(sI ((Sub.consI rfl (Imp.int (by rw [live_len]))) (sC (sC Sub.nil))))) (hh:=((SubK.consI rfl ImpK.refl) SubK.nil)) ?_
  intro i hI
  have hnx:=inN_next (l:=l) (kn:=kn) (k:=i)
  have hxl:=inN_len (l:=l) (kn:=kn) (k:=i)
  refine A6 ?_
  refine x5 rfl (fun h146=> ?_) (fun h146=> ?_)
  ·
   refine A7 ?_
   refine R2 (x8 sl97 (i) (by omega) (gD (l:=live l kn) (n:=i) (d:=false) (by rw [live_len];omega))) rfl rfl (R1 (xm2 ti4) rfl ?_)
   refine A9 ?_
   refine xc0 rfl (fun h147=> ?_) (fun h147=> ?_)
   ·
    refine A4 ?_
    refine R1 (xb0 (n:=1) (f:=fun n:Int=>tI n) [((i:Int)+1)] Tryz.underlying42 el3 zf3 rfl (fun _=>inferInstance) rfl rfl rfl) rfl (RE (xg0 (k:=5) (k':=25) (f:=fun n:Int=>tI n) (inN l kn i) ((i:Int)+1) Tryz.underlying42 el3 zf3 rfl rfl (fun _=>inferInstance) rfl ⟨by omega,by omega⟩ rfl) ⟨rfl,rfl,trivial⟩ ⟨rfl,trivial⟩ ⟨rfl,trivial⟩ ?_)
    refine A8 ?_
    rw [if_pos (show frc l kn i=true from h147)] at hnx
    exact xb7 (l:=[5]) (fun j=>cond (Nat.beq j 5) 25 (j)) (i+1) ⟨(by omega),(by omega)⟩ (SubR.int rfl (by first | omega | rfl | (dsimp only;omega)) (SubR.int rfl (by first | omega | rfl | (dsimp only;omega)) (SubR.cons rfl ((SubR.consI rfl (Imp.of (by rw [hnx,List.length_append];rfl))) SubR.nil)))) ((SubKR.consI rfl (ImpK.of (by rw [hnx];exact xa2.symm))) SubKR.nil) (SupG.val (SupG.val (SupG.val (SupG.own rfl SupG.nil)))) (SupH.cons rfl (supJ x9) SupH.nil) (lkOk rfl) rfl rfl (fun _ h=>by cases h)
   ·
    refine A7 ?_
    rw [show frc l kn i=false from h147,if_neg (by decide),List.append_nil] at hnx
    exact kF (i+1) ⟨(by omega),(by omega)⟩ (hg:=(sI (sI (sC ((Sub.consI rfl (Imp.of (by rw [hnx]))) Sub.nil))))) (hh:=((SubK.consI rfl (ImpK.of (by rw [hnx]))) SubK.nil))
  ·
   refine A8 ?_
   refine RE (xi2 (f:=tI) (xs:=inN l kn i) (fun _ h=>h) (xf4 rfl) rfl) ⟨rfl,trivial⟩ ⟨rfl,trivial⟩ trivial ?_
   refine A3 ?_
   exact x4 Plain.mk' rfl rfl (Le.of (by rw [if_pos (by simpa using h142),show i=l.length by omega];rfl))
theorem c_hire1 (job d:Int) (e:Ev):
  CtG Tryz.prog 193 [(1,⟨3,1,false,[.val (tI job)]⟩),(2,⟨3,1,false,[.val (tI d)]⟩)] [.val (tEv e),.own (.ptr 1 0),.own (.ptr 2 0)] (.val (tB ((pHire job d) e))) [(1,⟨3,1,false,[.val (tI job)]⟩),(2,⟨3,1,false,[.val (tI d)]⟩)] []:=by
 refine CtG.intro [1,2] Tryz.func193 rfl Tryz.ntmps193 rfl rfl ⟨⟨rfl,(SupX.lit rfl)⟩,⟨rfl,(SupX.lit rfl)⟩,trivial⟩ ?_
 intro w F η
 refine A13 ?_
 refine RGcaseD (t:=9) rfl (fun h48=> ?_) (fun h48=> ?_)
 ·
  refine A6 ?_
  refine RGcaseD (t:=15) rfl (fun h48_2=> ?_) (fun h48_2=> ?_)
  ·
   refine A4 ?_
   refine RGcaseD (t:=19) rfl (fun h48_3=> ?_) (fun h48_3=> ?_)
   ·
    refine A3 ?_
    refine RGon (decide_eq_true h48_2) rfl (xi9 (decide_eq_true h48_3)) rfl ⟨rfl,rfl,trivial⟩ trivial trivial ?_
    refine A5 ?_
    exact xb5 LentC.mk' rfl rfl (Imp.of (congrArg (fun b=>Ent.val (tB b)) (by rw [Bool.eq_iff_iff];simp [pHire] <;> first | omega | (constructor <;> intro hh <;> omega)))) ⟨rfl,rfl,trivial⟩ rfl ⟨⟨rfl,(SupX.lit rfl)⟩,⟨rfl,(SupX.lit rfl)⟩,trivial⟩ rfl
   ·
    refine A3 ?_
    refine RGon (decide_eq_true h48_2) rfl (xg6 (decide_eq_false h48_3)) rfl ⟨rfl,rfl,trivial⟩ trivial trivial ?_
    refine A5 ?_
    exact xb5 LentC.mk' rfl rfl (Imp.of (congrArg (fun b=>Ent.val (tB b)) (by rw [Bool.eq_iff_iff];simp [pHire] <;> first | omega | (constructor <;> intro hh <;> omega)))) ⟨rfl,rfl,trivial⟩ rfl ⟨⟨rfl,(SupX.lit rfl)⟩,⟨rfl,(SupX.lit rfl)⟩,trivial⟩ rfl
  ·
   refine A13 ?_
   exact xb5 LentC.mk' rfl rfl (Imp.of (congrArg (fun b=>Ent.val (tB b)) (by rw [Bool.eq_iff_iff];simp [pHire] <;> first | omega | (constructor <;> intro hh <;> omega)))) ⟨rfl,rfl,trivial⟩ rfl ⟨⟨rfl,(SupX.lit rfl)⟩,⟨rfl,(SupX.lit rfl)⟩,trivial⟩ rfl
 ·
  refine A18 ?_
  refine A1 ?_
  exact xb5 LentC.mk' rfl rfl (Imp.of (congrArg (fun b=>Ent.val (tB b)) (by rw [Bool.eq_iff_iff];simp [pHire] <;> first | omega | (constructor <;> intro hh <;> omega)))) ⟨rfl,rfl,trivial⟩ rfl ⟨⟨rfl,(SupX.lit rfl)⟩,⟨rfl,(SupX.lit rfl)⟩,trivial⟩ rfl
theorem c_lastHire (fs:List Ev) (hF:fs.length≤100) (job d:Int):
  CtG Tryz.prog 165 [(101,⟨3,1,false,[.val (tI job)]⟩),(102,⟨3,1,false,[.val (tI d)]⟩)] [.val (tVw fs),.own (.fn 193 [.ptr 101 0,.ptr 102 0])] (.val (tT [tEv ((lastE (pHire job d) fs).getD ev0),tB (lastE (pHire job d) fs).isSome])) [(101,⟨3,1,false,[.val (tI job)]⟩),(102,⟨3,1,false,[.val (tI d)]⟩)] []:=by
 refine CtG.intro [101,102] Tryz.func165 rfl Tryz.ntmps165 rfl rfl ⟨⟨rfl,(SupX.lit rfl)⟩,⟨rfl,(SupX.lit rfl)⟩,trivial⟩ ?_
 intro w F η
 refine A3 ?_
 refine RE (xa1 (k:=4) (n:=14) (agg:=true) zr32.1 zr32.2 rfl) trivial trivial ⟨rfl,trivial⟩ ?_
 refine A5 ?_
 refine RE (xa1 (k:=6) (n:=14) (agg:=true) zr32.1 zr32.2 rfl) trivial trivial ⟨rfl,trivial⟩ ?_
 refine A11 ?_
 refine xh3 (0) ti24 rfl rfl rfl (At.g 0 rfl (rfl)) rfl ?_
 refine A5 ?_
 refine cL (fun (i:Nat)=>i≤fs.length) (fun (i:Nat)=>upd (upd (upd (upd (upd (upd (upd (fun _=>none) 1 (some (.own (.fn 193 [.ptr 101 0,.ptr 102 0])))) 4 (some (.own (.ptr 4 0)))) 6 (some (.own (.ptr 6 0)))) 7 (some (.val (tB (lastE (pHire job d) (fs.take i)).isSome)))) 11 (some (.val (tL 14 true tEv fs)))) 12 (some (.val (tI fs.length)))) 13 (some (.val (tI i)))) (fun (i:Nat)=>upd (upd (upd (upd (fun _=>none) 4 (some (⟨32,14,true,[.val (tEv ev0)]⟩))) 6 (some (⟨32,14,true,[.val (tEv ((lastE (pHire job d) (fs.take i)).getD ev0))]⟩))) 101 (some (⟨3,1,false,[.val (tI job)]⟩))) 102 (some (⟨3,1,false,[.val (tI d)]⟩))) [4,6,101,102] (fun (i:Nat)=>fs.length - i) (0) (Nat.zero_le _) (hh:=((SubK.consI rfl ImpK.refl) ((SubK.consI rfl ImpK.refl) ((SubK.consI rfl (ImpK.of rfl)) ((SubK.consI rfl (ImpK.of rfl)) SubK.nil))))) ?_
 intro i hI
 refine A6 ?_
 refine x5 rfl (fun h37=> ?_) (fun h37=> ?_)
 ·
  refine A6 ?_
  refine R2 (x8 sl24 (i) (by omega) (gD (l:=fs) (n:=i) (d:=ev0) (by omega))) rfl rfl ?_
  refine A1 ?_
  refine RE (xa1 (k:=9) (n:=14) (agg:=true) zr32.1 zr32.2 rfl) trivial trivial ⟨rfl,trivial⟩ ?_
  refine A7 ?_
  refine RE (xh2 (ps:=[.val (tEv _)]) (caps:=[.ptr 1 0,.ptr 2 0]) (fun j=>cond (Nat.beq j 1) 101 (102)) (c_hire1 job d (fs.getD i ev0)) fi193 rfl (krC (ρ:=fun j=>cond (Nat.beq j 1) 101 (102)) (k:=1) rfl (krC (ρ:=fun j=>cond (Nat.beq j 1) 101 (102)) (k:=2) rfl (krN (ρ:=fun j=>cond (Nat.beq j 1) 101 (102))))) (krC (ρ:=fun j=>cond (Nat.beq j 1) 101 (102)) (k:=1) rfl (krC (ρ:=fun j=>cond (Nat.beq j 1) 101 (102)) (k:=2) rfl (krN (ρ:=fun j=>cond (Nat.beq j 1) 101 (102))))) ⟨⟨rfl,(SupX.lit rfl)⟩,⟨rfl,(SupX.lit rfl)⟩,trivial⟩ rfl) ⟨rfl,rfl,trivial⟩ ⟨rfl,rfl,trivial⟩ trivial ?_
  refine A1 ?_
  refine RGcase (t:=20) rfl (fun h38=> ?_) (fun h38=> ?_)
  ·
   refine A3 ?_
   refine RGcase (t:=23) rfl (fun h38_2=> ?_) (fun h38_2=> ?_)
   ·
    refine A5 ?_
    refine RGon h38 rfl (xi9 h38_2) rfl ⟨rfl,rfl,trivial⟩ trivial trivial ?_
    refine A15 ?_
    have hn:lastE (pHire job d) (fs.take (i+1))=some (fs.getD i ev0):=by rw [xd5 (by omega),last1,if_pos ⟨h38,fun hh=>by rw [hh] at h38_2;cases h38_2⟩]
    exact kF (i+1) ⟨(by omega),(by omega)⟩ (hg:=(sI (sI (sC ((Sub.consI rfl (Imp.of (by rw [hn];try rfl))) (sC (sC (sC Sub.nil)))))))) (hh:=((SubK.consI rfl ImpK.refl) ((SubK.consI rfl ImpK.refl) ((SubK.consI rfl (ImpK.of (by rw [hn];try rfl))) (SubK.cons rfl SubK.nil)))))
   ·
    refine A5 ?_
    refine RGon h38 rfl (xg6 h38_2) rfl ⟨rfl,rfl,trivial⟩ trivial trivial ?_
    refine A3 ?_
    refine x5 rfl (fun h38_3=> ?_) (fun h38_3=> ?_)
    ·
     refine A11 ?_
     have hn:lastE (pHire job d) (fs.take (i+1))=some (fs.getD i ev0):=by rw [xd5 (by omega),last1,if_pos ⟨h38,fun hh=>by omega⟩]
     exact kF (i+1) ⟨(by omega),(by omega)⟩ (hg:=(sI (sI (sC ((Sub.consI rfl (Imp.of (by rw [hn];try rfl))) (sC (sC (sC Sub.nil)))))))) (hh:=((SubK.consI rfl ImpK.refl) ((SubK.consI rfl ImpK.refl) ((SubK.consI rfl (ImpK.of (by rw [hn];try rfl))) (SubK.cons rfl SubK.nil)))))
    ·
     refine A7 ?_
     have hn:lastE (pHire job d) (fs.take (i+1))=lastE (pHire job d) (fs.take i):=by rw [xd5 (by omega),last1,if_neg (fun hh=>h38_3 (by have:=hh.2 (by simpa using h38_2);omega))]
     exact kF (i+1) ⟨(by omega),(by omega)⟩ (hg:=(sI (sI (sC ((Sub.consI rfl (Imp.of (by rw [hn];try rfl))) (sC (sC (sC Sub.nil)))))))) (hh:=((SubK.consI rfl ImpK.refl) ((SubK.consI rfl ImpK.refl) ((SubK.consI rfl (ImpK.of (by rw [hn];try rfl))) (SubK.cons rfl SubK.nil)))))
  ·
   refine A18 ?_
   refine A2 ?_
   have hn:lastE (pHire job d) (fs.take (i+1))=lastE (pHire job d) (fs.take i):=by rw [xd5 (by omega),last1,if_neg (fun hh=>by rw [hh.1] at h38;cases h38)]
   exact kF (i+1) ⟨(by omega),(by omega)⟩ (hg:=(sI (sI (sC ((Sub.consI rfl (Imp.of (by rw [hn];try rfl))) (sC (sC (sC Sub.nil)))))))) (hh:=((SubK.consI rfl ImpK.refl) ((SubK.consI rfl ImpK.refl) ((SubK.consI rfl (ImpK.of (by rw [hn];try rfl))) (SubK.cons rfl SubK.nil)))))
 ·
  refine A14 ?_
  exact xm4 LentC.mk' (rs:=[.cell 4 32,.tmp 5]) rfl rfl ⟨⟨_,_,_,_,_,rfl,rfl,ti32,(Le.of (by rw [show i=fs.length by omega,List.take_length]))⟩,⟨_,rfl,(Le.bool (by rw [show i=fs.length by omega,List.take_length]))⟩,trivial⟩ ⟨rfl,rfl,trivial⟩ ⟨⟨rfl,(SupX.lit rfl)⟩,⟨rfl,(SupX.lit rfl)⟩,trivial⟩ rfl
theorem c_idle1 (job d:Int) (e:Ev):
  CtG Tryz.prog 194 [(1,⟨3,1,false,[.val (tI job)]⟩),(2,⟨3,1,false,[.val (tI d)]⟩)] [.val (tEv e),.own (.ptr 1 0),.own (.ptr 2 0)] (.val (tB ((pIdle job d) e))) [(1,⟨3,1,false,[.val (tI job)]⟩),(2,⟨3,1,false,[.val (tI d)]⟩)] []:=by
 refine CtG.intro [1,2] Tryz.func194 rfl Tryz.ntmps194 rfl rfl ⟨⟨rfl,(SupX.lit rfl)⟩,⟨rfl,(SupX.lit rfl)⟩,trivial⟩ ?_
 intro w F η
 refine A12 ?_
 refine RGcaseD (t:=8) rfl (fun h59=> ?_) (fun h59=> ?_)
 ·
  refine A6 ?_
  refine RGcaseD (t:=14) rfl (fun h59_2=> ?_) (fun h59_2=> ?_)
  ·
   refine A6 ?_
   refine RGcaseD (t:=20) rfl (fun h59_3=> ?_) (fun h59_3=> ?_)
   ·
    refine A9 ?_
    exact xb5 LentC.mk' rfl rfl (Imp.of (congrArg (fun b=>Ent.val (tB b)) (by rw [Bool.eq_iff_iff];simp [pIdle] <;> first | omega | (constructor <;> intro hh <;> omega)))) ⟨rfl,rfl,trivial⟩ rfl ⟨⟨rfl,(SupX.lit rfl)⟩,⟨rfl,(SupX.lit rfl)⟩,trivial⟩ rfl
   ·
    refine A9 ?_
    exact xb5 LentC.mk' rfl rfl (Imp.of (congrArg (fun b=>Ent.val (tB b)) (by rw [Bool.eq_iff_iff];simp [pIdle] <;> first | omega | (constructor <;> intro hh <;> omega)))) ⟨rfl,rfl,trivial⟩ rfl ⟨⟨rfl,(SupX.lit rfl)⟩,⟨rfl,(SupX.lit rfl)⟩,trivial⟩ rfl
  ·
   refine A15 ?_
   exact xb5 LentC.mk' rfl rfl (Imp.of (congrArg (fun b=>Ent.val (tB b)) (by rw [Bool.eq_iff_iff];simp [pIdle] <;> first | omega | (constructor <;> intro hh <;> omega)))) ⟨rfl,rfl,trivial⟩ rfl ⟨⟨rfl,(SupX.lit rfl)⟩,⟨rfl,(SupX.lit rfl)⟩,trivial⟩ rfl
 ·
  refine A18 ?_
  refine A3 ?_
  exact xb5 LentC.mk' rfl rfl (Imp.of (congrArg (fun b=>Ent.val (tB b)) (by rw [Bool.eq_iff_iff];simp [pIdle] <;> first | omega | (constructor <;> intro hh <;> omega)))) ⟨rfl,rfl,trivial⟩ rfl ⟨⟨rfl,(SupX.lit rfl)⟩,⟨rfl,(SupX.lit rfl)⟩,trivial⟩ rfl
theorem c_lastIdle (fs:List Ev) (hF:fs.length≤100) (job d:Int):
  CtG Tryz.prog 165 [(101,⟨3,1,false,[.val (tI job)]⟩),(102,⟨3,1,false,[.val (tI d)]⟩)] [.val (tVw fs),.own (.fn 194 [.ptr 101 0,.ptr 102 0])] (.val (tT [tEv ((lastE (pIdle job d) fs).getD ev0),tB (lastE (pIdle job d) fs).isSome])) [(101,⟨3,1,false,[.val (tI job)]⟩),(102,⟨3,1,false,[.val (tI d)]⟩)] []:=by
 refine CtG.intro [101,102] Tryz.func165 rfl Tryz.ntmps165 rfl rfl ⟨⟨rfl,(SupX.lit rfl)⟩,⟨rfl,(SupX.lit rfl)⟩,trivial⟩ ?_
 intro w F η
 refine A3 ?_
 refine RE (xa1 (k:=4) (n:=14) (agg:=true) zr32.1 zr32.2 rfl) trivial trivial ⟨rfl,trivial⟩ ?_
 refine A5 ?_
 refine RE (xa1 (k:=6) (n:=14) (agg:=true) zr32.1 zr32.2 rfl) trivial trivial ⟨rfl,trivial⟩ ?_
 refine A11 ?_
 refine xh3 (0) ti24 rfl rfl rfl (At.g 0 rfl (rfl)) rfl ?_
 refine A5 ?_
 refine cL (fun (i:Nat)=>i≤fs.length) (fun (i:Nat)=>upd (upd (upd (upd (upd (upd (upd (fun _=>none) 1 (some (.own (.fn 194 [.ptr 101 0,.ptr 102 0])))) 4 (some (.own (.ptr 4 0)))) 6 (some (.own (.ptr 6 0)))) 7 (some (.val (tB (lastE (pIdle job d) (fs.take i)).isSome)))) 11 (some (.val (tL 14 true tEv fs)))) 12 (some (.val (tI fs.length)))) 13 (some (.val (tI i)))) (fun (i:Nat)=>upd (upd (upd (upd (fun _=>none) 4 (some (⟨32,14,true,[.val (tEv ev0)]⟩))) 6 (some (⟨32,14,true,[.val (tEv ((lastE (pIdle job d) (fs.take i)).getD ev0))]⟩))) 101 (some (⟨3,1,false,[.val (tI job)]⟩))) 102 (some (⟨3,1,false,[.val (tI d)]⟩))) [4,6,101,102] (fun (i:Nat)=>fs.length - i) (0) (Nat.zero_le _) (hh:=((SubK.consI rfl ImpK.refl) ((SubK.consI rfl ImpK.refl) ((SubK.consI rfl (ImpK.of rfl)) ((SubK.consI rfl (ImpK.of rfl)) SubK.nil))))) ?_
 intro i hI
 refine A6 ?_
 refine x5 rfl (fun h37=> ?_) (fun h37=> ?_)
 ·
  refine A6 ?_
  refine R2 (x8 sl24 (i) (by omega) (gD (l:=fs) (n:=i) (d:=ev0) (by omega))) rfl rfl ?_
  refine A1 ?_
  refine RE (xa1 (k:=9) (n:=14) (agg:=true) zr32.1 zr32.2 rfl) trivial trivial ⟨rfl,trivial⟩ ?_
  refine A7 ?_
  refine RE (xh2 (ps:=[.val (tEv _)]) (caps:=[.ptr 1 0,.ptr 2 0]) (fun j=>cond (Nat.beq j 1) 101 (102)) (c_idle1 job d (fs.getD i ev0)) fi194 rfl (krC (ρ:=fun j=>cond (Nat.beq j 1) 101 (102)) (k:=1) rfl (krC (ρ:=fun j=>cond (Nat.beq j 1) 101 (102)) (k:=2) rfl (krN (ρ:=fun j=>cond (Nat.beq j 1) 101 (102))))) (krC (ρ:=fun j=>cond (Nat.beq j 1) 101 (102)) (k:=1) rfl (krC (ρ:=fun j=>cond (Nat.beq j 1) 101 (102)) (k:=2) rfl (krN (ρ:=fun j=>cond (Nat.beq j 1) 101 (102))))) ⟨⟨rfl,(SupX.lit rfl)⟩,⟨rfl,(SupX.lit rfl)⟩,trivial⟩ rfl) ⟨rfl,rfl,trivial⟩ ⟨rfl,rfl,trivial⟩ trivial ?_
  refine A1 ?_
  refine RGcase (t:=20) rfl (fun h38=> ?_) (fun h38=> ?_)
  ·
   refine A3 ?_
   refine RGcase (t:=23) rfl (fun h38_2=> ?_) (fun h38_2=> ?_)
   ·
    refine A5 ?_
    refine RGon h38 rfl (xi9 h38_2) rfl ⟨rfl,rfl,trivial⟩ trivial trivial ?_
    refine A15 ?_
    have hn:lastE (pIdle job d) (fs.take (i+1))=some (fs.getD i ev0):=by rw [xd5 (by omega),last1,if_pos ⟨h38,fun hh=>by rw [hh] at h38_2;cases h38_2⟩]
    exact kF (i+1) ⟨(by omega),(by omega)⟩ (hg:=(sI (sI (sC ((Sub.consI rfl (Imp.of (by rw [hn];try rfl))) (sC (sC (sC Sub.nil)))))))) (hh:=((SubK.consI rfl ImpK.refl) ((SubK.consI rfl ImpK.refl) ((SubK.consI rfl (ImpK.of (by rw [hn];try rfl))) (SubK.cons rfl SubK.nil)))))
   ·
    refine A5 ?_
    refine RGon h38 rfl (xg6 h38_2) rfl ⟨rfl,rfl,trivial⟩ trivial trivial ?_
    refine A3 ?_
    refine x5 rfl (fun h38_3=> ?_) (fun h38_3=> ?_)
    ·
     refine A11 ?_
     have hn:lastE (pIdle job d) (fs.take (i+1))=some (fs.getD i ev0):=by rw [xd5 (by omega),last1,if_pos ⟨h38,fun hh=>by omega⟩]
     exact kF (i+1) ⟨(by omega),(by omega)⟩ (hg:=(sI (sI (sC ((Sub.consI rfl (Imp.of (by rw [hn];try rfl))) (sC (sC (sC Sub.nil)))))))) (hh:=((SubK.consI rfl ImpK.refl) ((SubK.consI rfl ImpK.refl) ((SubK.consI rfl (ImpK.of (by rw [hn];try rfl))) (SubK.cons rfl SubK.nil)))))
    ·
     refine A7 ?_
     have hn:lastE (pIdle job d) (fs.take (i+1))=lastE (pIdle job d) (fs.take i):=by rw [xd5 (by omega),last1,if_neg (fun hh=>h38_3 (by have:=hh.2 (by simpa using h38_2);omega))]
     exact kF (i+1) ⟨(by omega),(by omega)⟩ (hg:=(sI (sI (sC ((Sub.consI rfl (Imp.of (by rw [hn];try rfl))) (sC (sC (sC Sub.nil)))))))) (hh:=((SubK.consI rfl ImpK.refl) ((SubK.consI rfl ImpK.refl) ((SubK.consI rfl (ImpK.of (by rw [hn];try rfl))) (SubK.cons rfl SubK.nil)))))
  ·
   refine A18 ?_
   refine A2 ?_
   have hn:lastE (pIdle job d) (fs.take (i+1))=lastE (pIdle job d) (fs.take i):=by rw [xd5 (by omega),last1,if_neg (fun hh=>by rw [hh.1] at h38;cases h38)]
   exact kF (i+1) ⟨(by omega),(by omega)⟩ (hg:=(sI (sI (sC ((Sub.consI rfl (Imp.of (by rw [hn];try rfl))) (sC (sC (sC Sub.nil)))))))) (hh:=((SubK.consI rfl ImpK.refl) ((SubK.consI rfl ImpK.refl) ((SubK.consI rfl (ImpK.of (by rw [hn];try rfl))) (SubK.cons rfl SubK.nil)))))
 ·
  refine A14 ?_
  exact xm4 LentC.mk' (rs:=[.cell 4 32,.tmp 5]) rfl rfl ⟨⟨_,_,_,_,_,rfl,rfl,ti32,(Le.of (by rw [show i=fs.length by omega,List.take_length]))⟩,⟨_,rfl,(Le.bool (by rw [show i=fs.length by omega,List.take_length]))⟩,trivial⟩ ⟨rfl,rfl,trivial⟩ ⟨⟨rfl,(SupX.lit rfl)⟩,⟨rfl,(SupX.lit rfl)⟩,trivial⟩ rfl
theorem c_partOf1 (h:Ev) (d:Int) (e:Ev):
  CtG Tryz.prog 166 [(1,⟨32,14,true,[.val (tEv h)]⟩),(2,⟨3,1,false,[.val (tI d)]⟩)] [.val (tEv e),.own (.ptr 1 0),.own (.ptr 2 0)] (.val (tB ((pHours h d) e))) [(1,⟨32,14,true,[.val (tEv h)]⟩),(2,⟨3,1,false,[.val (tI d)]⟩)] []:=by
 refine CtG.intro [1,2] Tryz.func166 rfl Tryz.ntmps166 rfl rfl ⟨⟨rfl,(SupX.lit rfl)⟩,⟨rfl,(SupX.lit rfl)⟩,trivial⟩ ?_
 intro w F η
 refine A12 ?_
 refine RGcaseD (t:=8) rfl (fun h70=> ?_) (fun h70=> ?_)
 ·
  refine A7 ?_
  refine RGcaseD (t:=15) rfl (fun h70_2=> ?_) (fun h70_2=> ?_)
  ·
   refine A7 ?_
   refine RGcaseD (t:=22) rfl (fun h70_3=> ?_) (fun h70_3=> ?_)
   ·
    refine A6 ?_
    refine RGcaseD (t:=28) rfl (fun h70_4=> ?_) (fun h70_4=> ?_)
    ·
     refine A9 ?_
     exact xb5 LentC.mk' rfl rfl (Imp.of (congrArg (fun b=>Ent.val (tB b)) (by rw [Bool.eq_iff_iff];simp [pHours] <;> first | omega | (constructor <;> intro hh <;> omega)))) ⟨rfl,rfl,trivial⟩ rfl ⟨⟨rfl,(SupX.lit rfl)⟩,⟨rfl,(SupX.lit rfl)⟩,trivial⟩ rfl
    ·
     refine A9 ?_
     exact xb5 LentC.mk' rfl rfl (Imp.of (congrArg (fun b=>Ent.val (tB b)) (by rw [Bool.eq_iff_iff];simp [pHours] <;> first | omega | (constructor <;> intro hh <;> omega)))) ⟨rfl,rfl,trivial⟩ rfl ⟨⟨rfl,(SupX.lit rfl)⟩,⟨rfl,(SupX.lit rfl)⟩,trivial⟩ rfl
   ·
    refine A15 ?_
    exact xb5 LentC.mk' rfl rfl (Imp.of (congrArg (fun b=>Ent.val (tB b)) (by rw [Bool.eq_iff_iff];simp [pHours] <;> first | omega | (constructor <;> intro hh <;> omega)))) ⟨rfl,rfl,trivial⟩ rfl ⟨⟨rfl,(SupX.lit rfl)⟩,⟨rfl,(SupX.lit rfl)⟩,trivial⟩ rfl
  ·
   refine A18 ?_
   refine A4 ?_
   exact xb5 LentC.mk' rfl rfl (Imp.of (congrArg (fun b=>Ent.val (tB b)) (by rw [Bool.eq_iff_iff];simp [pHours] <;> first | omega | (constructor <;> intro hh <;> omega)))) ⟨rfl,rfl,trivial⟩ rfl ⟨⟨rfl,(SupX.lit rfl)⟩,⟨rfl,(SupX.lit rfl)⟩,trivial⟩ rfl
 ·
  refine A18 ?_
  refine A11 ?_
  exact xb5 LentC.mk' rfl rfl (Imp.of (congrArg (fun b=>Ent.val (tB b)) (by rw [Bool.eq_iff_iff];simp [pHours] <;> first | omega | (constructor <;> intro hh <;> omega)))) ⟨rfl,rfl,trivial⟩ rfl ⟨⟨rfl,(SupX.lit rfl)⟩,⟨rfl,(SupX.lit rfl)⟩,trivial⟩ rfl
theorem c_lastPartof (fs:List Ev) (hF:fs.length≤100) (h:Ev) (d:Int):
  CtG Tryz.prog 165 [(101,⟨32,14,true,[.val (tEv h)]⟩),(102,⟨3,1,false,[.val (tI d)]⟩)] [.val (tVw fs),.own (.fn 166 [.ptr 101 0,.ptr 102 0])] (.val (tT [tEv ((lastE (pHours h d) fs).getD ev0),tB (lastE (pHours h d) fs).isSome])) [(101,⟨32,14,true,[.val (tEv h)]⟩),(102,⟨3,1,false,[.val (tI d)]⟩)] []:=by
 refine CtG.intro [101,102] Tryz.func165 rfl Tryz.ntmps165 rfl rfl ⟨⟨rfl,(SupX.lit rfl)⟩,⟨rfl,(SupX.lit rfl)⟩,trivial⟩ ?_
 intro w F η
 refine A3 ?_
 refine RE (xa1 (k:=4) (n:=14) (agg:=true) zr32.1 zr32.2 rfl) trivial trivial ⟨rfl,trivial⟩ ?_
 refine A5 ?_
 refine RE (xa1 (k:=6) (n:=14) (agg:=true) zr32.1 zr32.2 rfl) trivial trivial ⟨rfl,trivial⟩ ?_
 refine A11 ?_
 refine xh3 (0) ti24 rfl rfl rfl (At.g 0 rfl (rfl)) rfl ?_
 refine A5 ?_
 refine cL (fun (i:Nat)=>i≤fs.length) (fun (i:Nat)=>upd (upd (upd (upd (upd (upd (upd (fun _=>none) 1 (some (.own (.fn 166 [.ptr 101 0,.ptr 102 0])))) 4 (some (.own (.ptr 4 0)))) 6 (some (.own (.ptr 6 0)))) 7 (some (.val (tB (lastE (pHours h d) (fs.take i)).isSome)))) 11 (some (.val (tL 14 true tEv fs)))) 12 (some (.val (tI fs.length)))) 13 (some (.val (tI i)))) (fun (i:Nat)=>upd (upd (upd (upd (fun _=>none) 4 (some (⟨32,14,true,[.val (tEv ev0)]⟩))) 6 (some (⟨32,14,true,[.val (tEv ((lastE (pHours h d) (fs.take i)).getD ev0))]⟩))) 101 (some (⟨32,14,true,[.val (tEv h)]⟩))) 102 (some (⟨3,1,false,[.val (tI d)]⟩))) [4,6,101,102] (fun (i:Nat)=>fs.length - i) (0) (Nat.zero_le _) (hh:=((SubK.consI rfl ImpK.refl) ((SubK.consI rfl ImpK.refl) ((SubK.consI rfl (ImpK.of rfl)) ((SubK.consI rfl (ImpK.of rfl)) SubK.nil))))) ?_
 intro i hI
 refine A6 ?_
 refine x5 rfl (fun h37=> ?_) (fun h37=> ?_)
 ·
  refine A6 ?_
  refine R2 (x8 sl24 (i) (by omega) (gD (l:=fs) (n:=i) (d:=ev0) (by omega))) rfl rfl ?_
  refine A1 ?_
  refine RE (xa1 (k:=9) (n:=14) (agg:=true) zr32.1 zr32.2 rfl) trivial trivial ⟨rfl,trivial⟩ ?_
  refine A7 ?_
  refine RE (xh2 (ps:=[.val (tEv _)]) (caps:=[.ptr 1 0,.ptr 2 0]) (fun j=>cond (Nat.beq j 1) 101 (102)) (c_partOf1 h d (fs.getD i ev0)) fi166 rfl (krC (ρ:=fun j=>cond (Nat.beq j 1) 101 (102)) (k:=1) rfl (krC (ρ:=fun j=>cond (Nat.beq j 1) 101 (102)) (k:=2) rfl (krN (ρ:=fun j=>cond (Nat.beq j 1) 101 (102))))) (krC (ρ:=fun j=>cond (Nat.beq j 1) 101 (102)) (k:=1) rfl (krC (ρ:=fun j=>cond (Nat.beq j 1) 101 (102)) (k:=2) rfl (krN (ρ:=fun j=>cond (Nat.beq j 1) 101 (102))))) ⟨⟨rfl,(SupX.lit rfl)⟩,⟨rfl,(SupX.lit rfl)⟩,trivial⟩ rfl) ⟨rfl,rfl,trivial⟩ ⟨rfl,rfl,trivial⟩ trivial ?_
  refine A1 ?_
  refine RGcase (t:=20) rfl (fun h38=> ?_) (fun h38=> ?_)
  ·
   refine A3 ?_
   refine RGcase (t:=23) rfl (fun h38_2=> ?_) (fun h38_2=> ?_)
   ·
    refine A5 ?_
    refine RGon h38 rfl (xi9 h38_2) rfl ⟨rfl,rfl,trivial⟩ trivial trivial ?_
    refine A15 ?_
    have hn:lastE (pHours h d) (fs.take (i+1))=some (fs.getD i ev0):=by rw [xd5 (by omega),last1,if_pos ⟨h38,fun hh=>by rw [hh] at h38_2;cases h38_2⟩]
    exact kF (i+1) ⟨(by omega),(by omega)⟩ (hg:=(sI (sI (sC ((Sub.consI rfl (Imp.of (by rw [hn];try rfl))) (sC (sC (sC Sub.nil)))))))) (hh:=((SubK.consI rfl ImpK.refl) ((SubK.consI rfl ImpK.refl) ((SubK.consI rfl (ImpK.of (by rw [hn];try rfl))) (SubK.cons rfl SubK.nil)))))
   ·
    refine A5 ?_
    refine RGon h38 rfl (xg6 h38_2) rfl ⟨rfl,rfl,trivial⟩ trivial trivial ?_
    refine A3 ?_
    refine x5 rfl (fun h38_3=> ?_) (fun h38_3=> ?_)
    ·
     refine A11 ?_
     have hn:lastE (pHours h d) (fs.take (i+1))=some (fs.getD i ev0):=by rw [xd5 (by omega),last1,if_pos ⟨h38,fun hh=>by omega⟩]
     exact kF (i+1) ⟨(by omega),(by omega)⟩ (hg:=(sI (sI (sC ((Sub.consI rfl (Imp.of (by rw [hn];try rfl))) (sC (sC (sC Sub.nil)))))))) (hh:=((SubK.consI rfl ImpK.refl) ((SubK.consI rfl ImpK.refl) ((SubK.consI rfl (ImpK.of (by rw [hn];try rfl))) (SubK.cons rfl SubK.nil)))))
    ·
     refine A7 ?_
     have hn:lastE (pHours h d) (fs.take (i+1))=lastE (pHours h d) (fs.take i):=by rw [xd5 (by omega),last1,if_neg (fun hh=>h38_3 (by have:=hh.2 (by simpa using h38_2);omega))]
     exact kF (i+1) ⟨(by omega),(by omega)⟩ (hg:=(sI (sI (sC ((Sub.consI rfl (Imp.of (by rw [hn];try rfl))) (sC (sC (sC Sub.nil)))))))) (hh:=((SubK.consI rfl ImpK.refl) ((SubK.consI rfl ImpK.refl) ((SubK.consI rfl (ImpK.of (by rw [hn];try rfl))) (SubK.cons rfl SubK.nil)))))
  ·
   refine A18 ?_
   refine A2 ?_
   have hn:lastE (pHours h d) (fs.take (i+1))=lastE (pHours h d) (fs.take i):=by rw [xd5 (by omega),last1,if_neg (fun hh=>by rw [hh.1] at h38;cases h38)]
   exact kF (i+1) ⟨(by omega),(by omega)⟩ (hg:=(sI (sI (sC ((Sub.consI rfl (Imp.of (by rw [hn];try rfl))) (sC (sC (sC Sub.nil)))))))) (hh:=((SubK.consI rfl ImpK.refl) ((SubK.consI rfl ImpK.refl) ((SubK.consI rfl (ImpK.of (by rw [hn];try rfl))) (SubK.cons rfl SubK.nil)))))
 ·
  refine A14 ?_
  exact xm4 LentC.mk' (rs:=[.cell 4 32,.tmp 5]) rfl rfl ⟨⟨_,_,_,_,_,rfl,rfl,ti32,(Le.of (by rw [show i=fs.length by omega,List.take_length]))⟩,⟨_,rfl,(Le.bool (by rw [show i=fs.length by omega,List.take_length]))⟩,trivial⟩ ⟨rfl,rfl,trivial⟩ ⟨⟨rfl,(SupX.lit rfl)⟩,⟨rfl,(SupX.lit rfl)⟩,trivial⟩ rfl
theorem c_payOf1 (h:Ev) (d:Int) (e:Ev):
  CtG Tryz.prog 167 [(1,⟨32,14,true,[.val (tEv h)]⟩),(2,⟨3,1,false,[.val (tI d)]⟩)] [.val (tEv e),.own (.ptr 1 0),.own (.ptr 2 0)] (.val (tB ((pPay h d) e))) [(1,⟨32,14,true,[.val (tEv h)]⟩),(2,⟨3,1,false,[.val (tI d)]⟩)] []:=by
 refine CtG.intro [1,2] Tryz.func167 rfl Tryz.ntmps167 rfl rfl ⟨⟨rfl,(SupX.lit rfl)⟩,⟨rfl,(SupX.lit rfl)⟩,trivial⟩ ?_
 intro w F η
 refine A12 ?_
 refine RGcaseD (t:=8) rfl (fun h84=> ?_) (fun h84=> ?_)
 ·
  refine A7 ?_
  refine RGcaseD (t:=15) rfl (fun h84_2=> ?_) (fun h84_2=> ?_)
  ·
   refine A7 ?_
   refine RGcaseD (t:=22) rfl (fun h84_3=> ?_) (fun h84_3=> ?_)
   ·
    refine A9 ?_
    exact xb5 LentC.mk' rfl rfl (Imp.of (congrArg (fun b=>Ent.val (tB b)) (by rw [Bool.eq_iff_iff];simp [pPay] <;> first | omega | (constructor <;> intro hh <;> omega)))) ⟨rfl,rfl,trivial⟩ rfl ⟨⟨rfl,(SupX.lit rfl)⟩,⟨rfl,(SupX.lit rfl)⟩,trivial⟩ rfl
   ·
    refine A9 ?_
    exact xb5 LentC.mk' rfl rfl (Imp.of (congrArg (fun b=>Ent.val (tB b)) (by rw [Bool.eq_iff_iff];simp [pPay] <;> first | omega | (constructor <;> intro hh <;> omega)))) ⟨rfl,rfl,trivial⟩ rfl ⟨⟨rfl,(SupX.lit rfl)⟩,⟨rfl,(SupX.lit rfl)⟩,trivial⟩ rfl
  ·
   refine A16 ?_
   exact xb5 LentC.mk' rfl rfl (Imp.of (congrArg (fun b=>Ent.val (tB b)) (by rw [Bool.eq_iff_iff];simp [pPay] <;> first | omega | (constructor <;> intro hh <;> omega)))) ⟨rfl,rfl,trivial⟩ rfl ⟨⟨rfl,(SupX.lit rfl)⟩,⟨rfl,(SupX.lit rfl)⟩,trivial⟩ rfl
 ·
  refine A18 ?_
  refine A5 ?_
  exact xb5 LentC.mk' rfl rfl (Imp.of (congrArg (fun b=>Ent.val (tB b)) (by rw [Bool.eq_iff_iff];simp [pPay] <;> first | omega | (constructor <;> intro hh <;> omega)))) ⟨rfl,rfl,trivial⟩ rfl ⟨⟨rfl,(SupX.lit rfl)⟩,⟨rfl,(SupX.lit rfl)⟩,trivial⟩ rfl
theorem c_lastPayof (fs:List Ev) (hF:fs.length≤100) (h:Ev) (d:Int):
  CtG Tryz.prog 165 [(101,⟨32,14,true,[.val (tEv h)]⟩),(102,⟨3,1,false,[.val (tI d)]⟩)] [.val (tVw fs),.own (.fn 167 [.ptr 101 0,.ptr 102 0])] (.val (tT [tEv ((lastE (pPay h d) fs).getD ev0),tB (lastE (pPay h d) fs).isSome])) [(101,⟨32,14,true,[.val (tEv h)]⟩),(102,⟨3,1,false,[.val (tI d)]⟩)] []:=by
 refine CtG.intro [101,102] Tryz.func165 rfl Tryz.ntmps165 rfl rfl ⟨⟨rfl,(SupX.lit rfl)⟩,⟨rfl,(SupX.lit rfl)⟩,trivial⟩ ?_
 intro w F η
 refine A3 ?_
 refine RE (xa1 (k:=4) (n:=14) (agg:=true) zr32.1 zr32.2 rfl) trivial trivial ⟨rfl,trivial⟩ ?_
 refine A5 ?_
 refine RE (xa1 (k:=6) (n:=14) (agg:=true) zr32.1 zr32.2 rfl) trivial trivial ⟨rfl,trivial⟩ ?_
 refine A11 ?_
 refine xh3 (0) ti24 rfl rfl rfl (At.g 0 rfl (rfl)) rfl ?_
 refine A5 ?_
 refine cL (fun (i:Nat)=>i≤fs.length) (fun (i:Nat)=>upd (upd (upd (upd (upd (upd (upd (fun _=>none) 1 (some (.own (.fn 167 [.ptr 101 0,.ptr 102 0])))) 4 (some (.own (.ptr 4 0)))) 6 (some (.own (.ptr 6 0)))) 7 (some (.val (tB (lastE (pPay h d) (fs.take i)).isSome)))) 11 (some (.val (tL 14 true tEv fs)))) 12 (some (.val (tI fs.length)))) 13 (some (.val (tI i)))) (fun (i:Nat)=>upd (upd (upd (upd (fun _=>none) 4 (some (⟨32,14,true,[.val (tEv ev0)]⟩))) 6 (some (⟨32,14,true,[.val (tEv ((lastE (pPay h d) (fs.take i)).getD ev0))]⟩))) 101 (some (⟨32,14,true,[.val (tEv h)]⟩))) 102 (some (⟨3,1,false,[.val (tI d)]⟩))) [4,6,101,102] (fun (i:Nat)=>fs.length - i) (0) (Nat.zero_le _) (hh:=((SubK.consI rfl ImpK.refl) ((SubK.consI rfl ImpK.refl) ((SubK.consI rfl (ImpK.of rfl)) ((SubK.consI rfl (ImpK.of rfl)) SubK.nil))))) ?_
 intro i hI
 refine A6 ?_
 refine x5 rfl (fun h37=> ?_) (fun h37=> ?_)
 ·
  refine A6 ?_
  refine R2 (x8 sl24 (i) (by omega) (gD (l:=fs) (n:=i) (d:=ev0) (by omega))) rfl rfl ?_
  refine A1 ?_
  refine RE (xa1 (k:=9) (n:=14) (agg:=true) zr32.1 zr32.2 rfl) trivial trivial ⟨rfl,trivial⟩ ?_
  refine A7 ?_
  refine RE (xh2 (ps:=[.val (tEv _)]) (caps:=[.ptr 1 0,.ptr 2 0]) (fun j=>cond (Nat.beq j 1) 101 (102)) (c_payOf1 h d (fs.getD i ev0)) fi167 rfl (krC (ρ:=fun j=>cond (Nat.beq j 1) 101 (102)) (k:=1) rfl (krC (ρ:=fun j=>cond (Nat.beq j 1) 101 (102)) (k:=2) rfl (krN (ρ:=fun j=>cond (Nat.beq j 1) 101 (102))))) (krC (ρ:=fun j=>cond (Nat.beq j 1) 101 (102)) (k:=1) rfl (krC (ρ:=fun j=>cond (Nat.beq j 1) 101 (102)) (k:=2) rfl (krN (ρ:=fun j=>cond (Nat.beq j 1) 101 (102))))) ⟨⟨rfl,(SupX.lit rfl)⟩,⟨rfl,(SupX.lit rfl)⟩,trivial⟩ rfl) ⟨rfl,rfl,trivial⟩ ⟨rfl,rfl,trivial⟩ trivial ?_
  refine A1 ?_
  refine RGcase (t:=20) rfl (fun h38=> ?_) (fun h38=> ?_)
  ·
   refine A3 ?_
   refine RGcase (t:=23) rfl (fun h38_2=> ?_) (fun h38_2=> ?_)
   ·
    refine A5 ?_
    refine RGon h38 rfl (xi9 h38_2) rfl ⟨rfl,rfl,trivial⟩ trivial trivial ?_
    refine A15 ?_
    have hn:lastE (pPay h d) (fs.take (i+1))=some (fs.getD i ev0):=by rw [xd5 (by omega),last1,if_pos ⟨h38,fun hh=>by rw [hh] at h38_2;cases h38_2⟩]
    exact kF (i+1) ⟨(by omega),(by omega)⟩ (hg:=(sI (sI (sC ((Sub.consI rfl (Imp.of (by rw [hn];try rfl))) (sC (sC (sC Sub.nil)))))))) (hh:=((SubK.consI rfl ImpK.refl) ((SubK.consI rfl ImpK.refl) ((SubK.consI rfl (ImpK.of (by rw [hn];try rfl))) (SubK.cons rfl SubK.nil)))))
   ·
    refine A5 ?_
    refine RGon h38 rfl (xg6 h38_2) rfl ⟨rfl,rfl,trivial⟩ trivial trivial ?_
    refine A3 ?_
    refine x5 rfl (fun h38_3=> ?_) (fun h38_3=> ?_)
    ·
     refine A11 ?_
     have hn:lastE (pPay h d) (fs.take (i+1))=some (fs.getD i ev0):=by rw [xd5 (by omega),last1,if_pos ⟨h38,fun hh=>by omega⟩]
     exact kF (i+1) ⟨(by omega),(by omega)⟩ (hg:=(sI (sI (sC ((Sub.consI rfl (Imp.of (by rw [hn];try rfl))) (sC (sC (sC Sub.nil)))))))) (hh:=((SubK.consI rfl ImpK.refl) ((SubK.consI rfl ImpK.refl) ((SubK.consI rfl (ImpK.of (by rw [hn];try rfl))) (SubK.cons rfl SubK.nil)))))
    ·
     refine A7 ?_
     have hn:lastE (pPay h d) (fs.take (i+1))=lastE (pPay h d) (fs.take i):=by rw [xd5 (by omega),last1,if_neg (fun hh=>h38_3 (by have:=hh.2 (by simpa using h38_2);omega))]
     exact kF (i+1) ⟨(by omega),(by omega)⟩ (hg:=(sI (sI (sC ((Sub.consI rfl (Imp.of (by rw [hn];try rfl))) (sC (sC (sC Sub.nil)))))))) (hh:=((SubK.consI rfl ImpK.refl) ((SubK.consI rfl ImpK.refl) ((SubK.consI rfl (ImpK.of (by rw [hn];try rfl))) (SubK.cons rfl SubK.nil)))))
  ·
   refine A18 ?_
   refine A2 ?_
   have hn:lastE (pPay h d) (fs.take (i+1))=lastE (pPay h d) (fs.take i):=by rw [xd5 (by omega),last1,if_neg (fun hh=>by rw [hh.1] at h38;cases h38)]
   exact kF (i+1) ⟨(by omega),(by omega)⟩ (hg:=(sI (sI (sC ((Sub.consI rfl (Imp.of (by rw [hn];try rfl))) (sC (sC (sC Sub.nil)))))))) (hh:=((SubK.consI rfl ImpK.refl) ((SubK.consI rfl ImpK.refl) ((SubK.consI rfl (ImpK.of (by rw [hn];try rfl))) (SubK.cons rfl SubK.nil)))))
 ·
  refine A14 ?_
  exact xm4 LentC.mk' (rs:=[.cell 4 32,.tmp 5]) rfl rfl ⟨⟨_,_,_,_,_,rfl,rfl,ti32,(Le.of (by rw [show i=fs.length by omega,List.take_length]))⟩,⟨_,rfl,(Le.bool (by rw [show i=fs.length by omega,List.take_length]))⟩,trivial⟩ ⟨rfl,rfl,trivial⟩ ⟨⟨rfl,(SupX.lit rfl)⟩,⟨rfl,(SupX.lit rfl)⟩,trivial⟩ rfl
theorem hireE_no {fs:List Ev} {job d:Int} (h:(lastE (pHire job d) fs).isSome=false):hireE fs job d=none:=by
 rw [hireE]
 cases hl:lastE (pHire job d) fs with
 | none=>rfl
 | some e=>rw [hl] at h;cases h
theorem hireE_left {fs:List Ev} {job d:Int} (h: ¬(((lastE (pHire job d) fs).getD ev0).knd:Int)=1):hireE fs job d=none:=by
 rw [hireE]
 cases hl:lastE (pHire job d) fs with
 | none=>rfl
 | some e=>
  rw [hl] at h
  exact if_neg fun hk=>h (by show ((e.knd:Nat):Int)=1;omega)
theorem hireE_yes {fs:List Ev} {job d:Int} (h1:(lastE (pHire job d) fs).isSome=true) (h:(((lastE (pHire job d) fs).getD ev0).knd:Int)=1):hireE fs job d=some ((lastE (pHire job d) fs).getD ev0):=by
 rw [hireE]
 cases hl:lastE (pHire job d) fs with
 | none=>rw [hl] at h1;cases h1
 | some e=>
  rw [hl] at h
  exact if_pos (by have:((e.knd:Nat):Int)=1:=h;omega)
theorem c_hire (fs:List Ev) (hF:fs.length≤100) (job d:Int):
  Ct Tryz.prog 163 [tVw fs,tI job,tI d] (tT [tEv ((hireE fs job d).getD ev0),tB (hireE fs job d).isSome]):=by
 refine Ct.intro Tryz.func163 rfl Tryz.ntmps163 rfl ?_
 intro w F
 refine A5 ?_
 refine RE (xa1 (k:=6) (n:=14) (agg:=true) zr32.1 zr32.2 rfl) trivial trivial ⟨rfl,trivial⟩ ?_
 refine A6 ?_
 refine R2 (xf3 (ps:=[.ptr 4 0,.ptr 5 0]) rfl) rfl rfl (RE (xa5 (fun j=>cond (Nat.beq j 101) 4 (5)) (c_lastHire fs hF job d) fi165 rfl (krC (ρ:=fun j=>cond (Nat.beq j 101) 4 (5)) (k:=101) rfl (krC (ρ:=fun j=>cond (Nat.beq j 101) 4 (5)) (k:=102) rfl (krN (ρ:=fun j=>cond (Nat.beq j 101) 4 (5))))) (krC (ρ:=fun j=>cond (Nat.beq j 101) 4 (5)) (k:=101) rfl (krC (ρ:=fun j=>cond (Nat.beq j 101) 4 (5)) (k:=102) rfl (krN (ρ:=fun j=>cond (Nat.beq j 101) 4 (5))))) ⟨⟨rfl,(SupX.lit rfl)⟩,⟨rfl,(SupX.lit rfl)⟩,trivial⟩ rfl) ⟨rfl,rfl,trivial⟩ ⟨rfl,rfl,trivial⟩ trivial ?_)
 refine A3 ?_
 refine RE (xa1 (k:=8) (n:=14) (agg:=true) zr32.1 zr32.2 rfl) trivial trivial ⟨rfl,trivial⟩ ?_
 refine A10 ?_
 refine RGcase (t:=18) rfl (fun h50=> ?_) (fun h50=> ?_)
 ·
  refine A9 ?_
  refine R0 (xa9 (r:=tS [⟨1,false,(tE (.int .u8 0))⟩,⟨1,false,(tE (.int .i64 0))⟩,⟨1,false,(tE (.int .i64 0))⟩,⟨1,false,(tE (.int .i64 0))⟩,⟨1,false,(tE (.int .i64 0))⟩,⟨4,true,(tS [⟨2,true,(tS [⟨1,false,(tE (.bool false))⟩,⟨1,false,(tLm [])⟩])⟩,⟨2,true,(tS [⟨1,false,(tE (.bool false))⟩,⟨1,false,(tLm [])⟩])⟩])⟩,⟨4,true,(tS [⟨2,true,(tS [⟨1,false,(tE (.bool false))⟩,⟨1,false,(tLm [])⟩])⟩,⟨2,true,(tS [⟨1,false,(tE (.bool false))⟩,⟨1,false,(tLm [])⟩])⟩])⟩,⟨1,false,(tE (.int .i64 0))⟩]) (ts:=[]) bu32 zr32.2 Le.refl) ?_
  refine A6 ?_
  exact xe0 Plain.mk' (rs:=[.cell 6 32,.tmp 7]) rfl rfl ⟨⟨_,_,_,_,_,rfl,rfl,ti32,(Le.of (by rw [hireE_no (by simpa using h50)];rfl))⟩,⟨_,rfl,(Le.bool (by rw [hireE_no (by simpa using h50)];rfl))⟩,trivial⟩
 ·
  refine A6 ?_
  refine x5 rfl (fun h50_2=> ?_) (fun h50_2=> ?_)
  ·
   refine A2 ?_
   refine R0 (xa9 (r:=tS [⟨1,false,(tE (.int .u8 0))⟩,⟨1,false,(tE (.int .i64 0))⟩,⟨1,false,(tE (.int .i64 0))⟩,⟨1,false,(tE (.int .i64 0))⟩,⟨1,false,(tE (.int .i64 0))⟩,⟨4,true,(tS [⟨2,true,(tS [⟨1,false,(tE (.bool false))⟩,⟨1,false,(tLm [])⟩])⟩,⟨2,true,(tS [⟨1,false,(tE (.bool false))⟩,⟨1,false,(tLm [])⟩])⟩])⟩,⟨4,true,(tS [⟨2,true,(tS [⟨1,false,(tE (.bool false))⟩,⟨1,false,(tLm [])⟩])⟩,⟨2,true,(tS [⟨1,false,(tE (.bool false))⟩,⟨1,false,(tLm [])⟩])⟩])⟩,⟨1,false,(tE (.int .i64 0))⟩]) (ts:=[]) bu32 zr32.2 Le.refl) ?_
   refine A6 ?_
   exact xe0 Plain.mk' (rs:=[.cell 6 32,.tmp 7]) rfl rfl ⟨⟨_,_,_,_,_,rfl,rfl,ti32,(Le.of (by rw [hireE_left (by assumption)];rfl))⟩,⟨_,rfl,(Le.bool (by rw [hireE_left (by assumption)];rfl))⟩,trivial⟩
  ·
   refine A10 ?_
   exact xe0 Plain.mk' (rs:=[.cell 6 32,.tmp 7]) rfl rfl ⟨⟨_,_,_,_,_,rfl,rfl,ti32,(Le.of (by rw [hireE_yes (by simpa using h50) (by omega)];rfl))⟩,⟨_,rfl,(Le.bool (by rw [hireE_yes (by simpa using h50) (by omega)];rfl))⟩,trivial⟩
theorem c_idle (fs:List Ev) (hF:fs.length≤100) (job d:Int):
  Ct Tryz.prog 164 [tVw fs,tI job,tI d] (tB (idleE fs job d)):=by
 refine Ct.intro Tryz.func164 rfl Tryz.ntmps164 rfl ?_
 intro w F
 refine A11 ?_
 refine R2 (xf3 (ps:=[.ptr 4 0,.ptr 5 0]) rfl) rfl rfl (RE (xa5 (fun j=>cond (Nat.beq j 101) 4 (5)) (c_lastIdle fs hF job d) fi165 rfl (krC (ρ:=fun j=>cond (Nat.beq j 101) 4 (5)) (k:=101) rfl (krC (ρ:=fun j=>cond (Nat.beq j 101) 4 (5)) (k:=102) rfl (krN (ρ:=fun j=>cond (Nat.beq j 101) 4 (5))))) (krC (ρ:=fun j=>cond (Nat.beq j 101) 4 (5)) (k:=101) rfl (krC (ρ:=fun j=>cond (Nat.beq j 101) 4 (5)) (k:=102) rfl (krN (ρ:=fun j=>cond (Nat.beq j 101) 4 (5))))) ⟨⟨rfl,(SupX.lit rfl)⟩,⟨rfl,(SupX.lit rfl)⟩,trivial⟩ rfl) ⟨rfl,rfl,trivial⟩ ⟨rfl,rfl,trivial⟩ trivial ?_)
 refine A3 ?_
 refine RE (xa1 (k:=7) (n:=14) (agg:=true) zr32.1 zr32.2 rfl) trivial trivial ⟨rfl,trivial⟩ ?_
 refine A11 ?_
 exact x4 Plain.mk' rfl rfl Le.refl
theorem partE_idle {fs:List Ev} {h:Ev} {d:Int} (hi:idleE fs h.job d=true):partE fs h d=fr ((0:Int):Rat):=by rw [partE,if_pos hi]
theorem partE_some {fs:List Ev} {h:Ev} {d:Int} (hi:idleE fs h.job d=false) (hl:(lastE (pHours h d) fs).isSome=true):partE fs h d=((lastE (pHours h d) fs).getD ev0).part:=by
 rw [partE,if_neg (by rw [hi];decide)]
 cases hl2:lastE (pHours h d) fs with
 | none=>rw [hl2] at hl;cases hl
 | some e=>rfl
theorem partE_none {fs:List Ev} {h:Ev} {d:Int} (hi:idleE fs h.job d=false) (hl:(lastE (pHours h d) fs).isSome=false):partE fs h d=h.part:=by
 rw [partE,if_neg (by rw [hi];decide)]
 cases hl2:lastE (pHours h d) fs with
 | none=>rfl
 | some e=>rw [hl2] at hl;cases hl
theorem c_partOf (fs:List Ev) (hF:fs.length≤100) (h:Ev) (d:Int):
  Ct Tryz.prog 122 [tVw fs,tEv h,tI d] (tFr (partE fs h d)):=by
 refine Ct.intro Tryz.func122 rfl Tryz.ntmps122 rfl ?_
 intro w F
 refine A5 ?_
 refine RE (xa1 (k:=6) (n:=4) (agg:=true) zr30.1 zr30.2 rfl) trivial trivial ⟨rfl,trivial⟩ ?_
 refine A9 ?_
 refine R3 (x3 (c_idle fs hF h.job d) fi164 rfl) rfl rfl rfl ?_
 refine A2 ?_
 refine xc0 rfl (fun h66=> ?_) (fun h66=> ?_)
 ·
  refine A2 ?_
  refine R1 (x3 (xk7 0 (by decide) (by decide)) fi91 rfl) rfl ?_
  refine A5 ?_
  exact xc3 Plain.mk' rfl ⟨_,_,_,_,_,rfl,rfl,ti30,(Le.of (by rw [partE_idle h66]))⟩
 ·
  refine A5 ?_
  refine R2 (xf3 (ps:=[.ptr 4 0,.ptr 5 0]) rfl) rfl rfl (RE (xa5 (fun j=>cond (Nat.beq j 101) 4 (5)) (c_lastPartof fs hF h d) fi165 rfl (krC (ρ:=fun j=>cond (Nat.beq j 101) 4 (5)) (k:=101) rfl (krC (ρ:=fun j=>cond (Nat.beq j 101) 4 (5)) (k:=102) rfl (krN (ρ:=fun j=>cond (Nat.beq j 101) 4 (5))))) (krC (ρ:=fun j=>cond (Nat.beq j 101) 4 (5)) (k:=101) rfl (krC (ρ:=fun j=>cond (Nat.beq j 101) 4 (5)) (k:=102) rfl (krN (ρ:=fun j=>cond (Nat.beq j 101) 4 (5))))) ⟨⟨rfl,(SupX.lit rfl)⟩,⟨rfl,(SupX.lit rfl)⟩,trivial⟩ rfl) ⟨rfl,rfl,trivial⟩ ⟨rfl,rfl,trivial⟩ trivial ?_)
  refine A3 ?_
  refine RE (xa1 (k:=7) (n:=14) (agg:=true) zr32.1 zr32.2 rfl) trivial trivial ⟨rfl,trivial⟩ ?_
  refine A10 ?_
  refine xc0 rfl (fun h72=> ?_) (fun h72=> ?_)
  ·
   refine A9 ?_
   exact xc3 Plain.mk' rfl ⟨_,_,_,_,_,rfl,rfl,ti30,(Le.of (by rw [partE_some h66 h72]))⟩
  ·
   refine A10 ?_
   exact xc3 Plain.mk' rfl ⟨_,_,_,_,_,rfl,rfl,ti30,(Le.of (by rw [partE_none h66 h72]))⟩
theorem payE_idle {fs:List Ev} {h:Ev} {d:Int} (hi:idleE fs h.job d=true):payE fs h d=fr ((0:Int):Rat):=by rw [payE,if_pos hi]
theorem payE_some {fs:List Ev} {h:Ev} {d:Int} (hi:idleE fs h.job d=false) (hl:(lastE (pPay h d) fs).isSome=true):payE fs h d=((lastE (pPay h d) fs).getD ev0).pay:=by
 rw [payE,if_neg (by rw [hi];decide)]
 cases hl2:lastE (pPay h d) fs with
 | none=>rw [hl2] at hl;cases hl
 | some e=>rfl
theorem payE_none {fs:List Ev} {h:Ev} {d:Int} (hi:idleE fs h.job d=false) (hl:(lastE (pPay h d) fs).isSome=false):payE fs h d=h.pay:=by
 rw [payE,if_neg (by rw [hi];decide)]
 cases hl2:lastE (pPay h d) fs with
 | none=>rfl
 | some e=>rw [hl2] at hl;cases hl
theorem c_payOf (fs:List Ev) (hF:fs.length≤100) (h:Ev) (d:Int):
  Ct Tryz.prog 124 [tVw fs,tEv h,tI d] (tFr (payE fs h d)):=by
 refine Ct.intro Tryz.func124 rfl Tryz.ntmps124 rfl ?_
 intro w F
 refine A5 ?_
 refine RE (xa1 (k:=6) (n:=4) (agg:=true) zr30.1 zr30.2 rfl) trivial trivial ⟨rfl,trivial⟩ ?_
 refine A9 ?_
 refine R3 (x3 (c_idle fs hF h.job d) fi164 rfl) rfl rfl rfl ?_
 refine A2 ?_
 refine xc0 rfl (fun h80=> ?_) (fun h80=> ?_)
 ·
  refine A2 ?_
  refine R1 (x3 (xk7 0 (by decide) (by decide)) fi91 rfl) rfl ?_
  refine A5 ?_
  exact xc3 Plain.mk' rfl ⟨_,_,_,_,_,rfl,rfl,ti30,(Le.of (by rw [payE_idle h80]))⟩
 ·
  refine A5 ?_
  refine R2 (xf3 (ps:=[.ptr 4 0,.ptr 5 0]) rfl) rfl rfl (RE (xa5 (fun j=>cond (Nat.beq j 101) 4 (5)) (c_lastPayof fs hF h d) fi165 rfl (krC (ρ:=fun j=>cond (Nat.beq j 101) 4 (5)) (k:=101) rfl (krC (ρ:=fun j=>cond (Nat.beq j 101) 4 (5)) (k:=102) rfl (krN (ρ:=fun j=>cond (Nat.beq j 101) 4 (5))))) (krC (ρ:=fun j=>cond (Nat.beq j 101) 4 (5)) (k:=101) rfl (krC (ρ:=fun j=>cond (Nat.beq j 101) 4 (5)) (k:=102) rfl (krN (ρ:=fun j=>cond (Nat.beq j 101) 4 (5))))) ⟨⟨rfl,(SupX.lit rfl)⟩,⟨rfl,(SupX.lit rfl)⟩,trivial⟩ rfl) ⟨rfl,rfl,trivial⟩ ⟨rfl,rfl,trivial⟩ trivial ?_)
  refine A3 ?_
  refine RE (xa1 (k:=7) (n:=14) (agg:=true) zr32.1 zr32.2 rfl) trivial trivial ⟨rfl,trivial⟩ ?_
  refine A10 ?_
  refine xc0 rfl (fun h86=> ?_) (fun h86=> ?_)
  ·
   refine A9 ?_
   exact xc3 Plain.mk' rfl ⟨_,_,_,_,_,rfl,rfl,ti30,(Le.of (by rw [payE_some h80 h86]))⟩
  ·
   refine A10 ?_
   exact xc3 Plain.mk' rfl ⟨_,_,_,_,_,rfl,rfl,ti30,(Le.of (by rw [payE_none h80 h86]))⟩
theorem c_FAddM (a b:Rat) (f:Fr) (hf:f=fr b) (h1:short a) (h2:short b) (h3:short (a+b)):Ct Tryz.prog 30 [tFr (fr a),tFr f] (tT [tFr (fr (a+b)),tI 0]):=by
 have h:=c_FAdd a b h1 h2
 rw [resF,resFE,if_pos h3,if_pos h3] at h
 rw [hf];exact h
structure SumOk (f:List Ev→Ev→Int→Fr) (fs:List Ev) (d:Int):Prop where
  one: ∀h,h∈fs→h.knd=1→f fs h d=fr (f fs h d).rat∧short (f fs h d).rat
  all: ∀n,n≤8→short (sumQ f fs d n)
theorem hire_get {fs:List Ev} {job d:Int} (h:(hireE fs job d).isSome=true):hireE fs job d=some ((hireE fs job d).getD ev0):=by
 cases hh:hireE fs job d with
 | none=>rw [hh] at h;cases h
 | some e=>rfl
theorem hire_in {fs:List Ev} {job d:Int} (h:(hireE fs job d).isSome=true):(hireE fs job d).getD ev0∈fs∧((hireE fs job d).getD ev0).knd=1:=by
 have hg:=hire_get h
 generalize (hireE fs job d).getD ev0=e at*
 rw [hireE] at hg
 cases hl:lastE (pHire job d) fs with
 | none=>rw [hl] at hg;cases hg
 | some x=>
  rw [hl] at hg
  simp only at hg
  split at hg
  ·rename_i hk
   obtain rfl:=Option.some.inj hg
   exact ⟨((xt9 _ _).2 _ hl).1.1,hk⟩
  ·cases hg
theorem sum_yes {f:List Ev→Ev→Int→Fr} {fs:List Ev} {d:Int} {j:Nat} (h:(hireE fs ((j:Int)+1) d).isSome=true):sumQ f fs d (j+1)=sumQ f fs d j+(f fs ((hireE fs ((j:Int)+1) d).getD ev0) d).rat∧heldQ fs d (j+1)=true:=by
 have hg:=hire_get h
 refine ⟨?_,?_⟩
 ·rw [sumQ,addJ,show ((j+1:Nat):Int)=(j:Int)+1 by omega,hg];rfl
 ·rw [heldQ,show ((j+1:Nat):Int)=(j:Int)+1 by omega,h,Bool.or_true]
theorem sum_no {f:List Ev→Ev→Int→Fr} {fs:List Ev} {d:Int} {j:Nat} (h:(hireE fs ((j:Int)+1) d).isSome=false):sumQ f fs d (j+1)=sumQ f fs d j∧heldQ fs d (j+1)=heldQ fs d j:=by
 have hn:hireE fs ((j:Int)+1) d=none:=by
  cases hh:hireE fs ((j:Int)+1) d with
  | none=>rfl
  | some e=>rw [hh] at h;cases h
 refine ⟨?_,?_⟩
 ·rw [sumQ,addJ,show ((j+1:Nat):Int)=(j:Int)+1 by omega,hn];exact Rat.add_zero _
 ·rw [heldQ,show ((j+1:Nat):Int)=(j:Int)+1 by omega,hn,Option.isSome_none,Bool.or_false]
theorem c_sumPartof (fs:List Ev) (hF:fs.length≤100) (d:Int) (hs:SumOk partE fs d):
  Ct Tryz.prog 121 [tVw fs,tI d,tE (.func (.func 122) #[] #[])] (tT [tFr (fr (sumQ partE fs d 8)),tB (heldQ fs d 8)]):=by
 refine Ct.intro Tryz.func121 rfl Tryz.ntmps121 rfl ?_
 intro w F
 refine A3 ?_
 refine RE (xa1 (k:=6) (n:=4) (agg:=true) zr30.1 zr30.2 rfl) trivial trivial ⟨rfl,trivial⟩ ?_
 refine A5 ?_
 refine R1 (x3 (xk7 0 (by decide) (by decide)) fi91 rfl) rfl (RE (xa1 (k:=8) (n:=4) (agg:=true) zr30.1 zr30.2 rfl) trivial trivial ⟨rfl,trivial⟩ ?_)
 refine A15 ?_
 refine cL (fun (j:Nat)=>j≤8) (fun (j:Nat)=>upd (upd (upd (upd (upd (upd (upd (fun _=>none) 1 (some (.val (tI d)))) 2 (some (.val (tE (.func (.func 122) #[] #[]))))) 3 (some (.own (.ptr 3 0)))) 6 (some (.own (.ptr 6 0)))) 8 (some (.own (.ptr 8 0)))) 9 (some (.val (tB (heldQ fs d j))))) 10 (some (.val (tI ((j:Int)+1))))) (fun (j:Nat)=>upd (upd (upd (fun _=>none) 3 (some (⟨94,1,true,[.val (tVw fs)]⟩))) 6 (some (⟨30,4,true,[.val (tFr fr0)]⟩))) 8 (some (⟨30,4,true,[.val (tFr (fr (sumQ partE fs d j)))]⟩))) [3,6,8] (fun (j:Nat)=>8 - j) (0) (by omega) (hh:=((SubK.consI rfl (ImpK.of rfl)) ((SubK.consI rfl (ImpK.of rfl)) ((SubK.consI rfl ImpK.refl) SubK.nil)))) ?_
 intro j hI
 refine A7 ?_
 refine x5 rfl (fun h96=> ?_) (fun h96=> ?_)
 ·
  refine A9 ?_
  refine R3 (x3 (c_hire fs hF ((j:Int)+1) d) fi163 rfl) rfl rfl rfl ?_
  refine A3 ?_
  refine RE (xa1 (k:=11) (n:=14) (agg:=true) zr32.1 zr32.2 rfl) trivial trivial ⟨rfl,trivial⟩ ?_
  refine A9 ?_
  refine xc0 rfl (fun h97=> ?_) (fun h97=> ?_)
  ·
   refine A1 ?_
   have hy:=sum_yes (f:=partE) h97
   have hin:=hire_in h97
   refine A6 ?_
   refine RE (xe9 (c_partOf fs hF ((hireE fs ((j:Int)+1) d).getD ev0) d) fi122 rfl) ⟨rfl,rfl,rfl,rfl,trivial⟩ trivial trivial (R2 (x3 (c_FAddM (sumQ partE fs d j) _ _ (hs.one _ hin.1 hin.2).1 (hs.all j (by omega)) (hs.one _ hin.1 hin.2).2 (by rw [←hy.1];exact hs.all (j+1) (by omega))) fi30 rfl) rfl rfl ?_)
   refine A16 ?_
   exact kF (j+1) ⟨(by omega),(by omega)⟩ (hg:=(sI ((Sub.consI rfl (Imp.of (by rw [hy.2]))) (sC (sC (sC (sC (sI Sub.nil)))))))) (hh:=((SubK.consI rfl (ImpK.of (by rw [hy.1];try rfl))) ((SubK.consI rfl ImpK.refl) ((SubK.consI rfl ImpK.refl) SubK.nil))))
  ·
   refine A8 ?_
   have hy:=sum_no (f:=partE) h97
   exact kF (j+1) ⟨(by omega),(by omega)⟩ (hg:=(sI ((Sub.consI rfl (Imp.of (by rw [hy.2]))) (sC (sC (sC (sC (sI Sub.nil)))))))) (hh:=((SubK.consI rfl (ImpK.of (by rw [hy.1];try rfl))) ((SubK.consI rfl ImpK.refl) ((SubK.consI rfl ImpK.refl) SubK.nil))))
 ·
  refine A14 ?_
  exact xe0 Plain.mk' (rs:=[.cell 6 30,.tmp 7]) rfl rfl ⟨⟨_,_,_,_,_,rfl,rfl,ti30,(Le.of (by rw [show j=8 by omega]))⟩,⟨_,rfl,(Le.bool (by rw [show j=8 by omega]))⟩,trivial⟩
theorem c_sumPayof (fs:List Ev) (hF:fs.length≤100) (d:Int) (hs:SumOk payE fs d):
  Ct Tryz.prog 121 [tVw fs,tI d,tE (.func (.func 124) #[] #[])] (tT [tFr (fr (sumQ payE fs d 8)),tB (heldQ fs d 8)]):=by
 refine Ct.intro Tryz.func121 rfl Tryz.ntmps121 rfl ?_
 intro w F
 refine A3 ?_
 refine RE (xa1 (k:=6) (n:=4) (agg:=true) zr30.1 zr30.2 rfl) trivial trivial ⟨rfl,trivial⟩ ?_
 refine A5 ?_
 refine R1 (x3 (xk7 0 (by decide) (by decide)) fi91 rfl) rfl (RE (xa1 (k:=8) (n:=4) (agg:=true) zr30.1 zr30.2 rfl) trivial trivial ⟨rfl,trivial⟩ ?_)
 refine A15 ?_
 refine cL (fun (j:Nat)=>j≤8) (fun (j:Nat)=>upd (upd (upd (upd (upd (upd (upd (fun _=>none) 1 (some (.val (tI d)))) 2 (some (.val (tE (.func (.func 124) #[] #[]))))) 3 (some (.own (.ptr 3 0)))) 6 (some (.own (.ptr 6 0)))) 8 (some (.own (.ptr 8 0)))) 9 (some (.val (tB (heldQ fs d j))))) 10 (some (.val (tI ((j:Int)+1))))) (fun (j:Nat)=>upd (upd (upd (fun _=>none) 3 (some (⟨94,1,true,[.val (tVw fs)]⟩))) 6 (some (⟨30,4,true,[.val (tFr fr0)]⟩))) 8 (some (⟨30,4,true,[.val (tFr (fr (sumQ payE fs d j)))]⟩))) [3,6,8] (fun (j:Nat)=>8 - j) (0) (by omega) (hh:=((SubK.consI rfl (ImpK.of rfl)) ((SubK.consI rfl (ImpK.of rfl)) ((SubK.consI rfl ImpK.refl) SubK.nil)))) ?_
 intro j hI
 refine A7 ?_
 refine x5 rfl (fun h96=> ?_) (fun h96=> ?_)
 ·
  refine A9 ?_
  refine R3 (x3 (c_hire fs hF ((j:Int)+1) d) fi163 rfl) rfl rfl rfl ?_
  refine A3 ?_
  refine RE (xa1 (k:=11) (n:=14) (agg:=true) zr32.1 zr32.2 rfl) trivial trivial ⟨rfl,trivial⟩ ?_
  refine A9 ?_
  refine xc0 rfl (fun h97=> ?_) (fun h97=> ?_)
  ·
   refine A1 ?_
   have hy:=sum_yes (f:=payE) h97
   have hin:=hire_in h97
   refine A6 ?_
   refine RE (xe9 (c_payOf fs hF ((hireE fs ((j:Int)+1) d).getD ev0) d) fi124 rfl) ⟨rfl,rfl,rfl,rfl,trivial⟩ trivial trivial (R2 (x3 (c_FAddM (sumQ payE fs d j) _ _ (hs.one _ hin.1 hin.2).1 (hs.all j (by omega)) (hs.one _ hin.1 hin.2).2 (by rw [←hy.1];exact hs.all (j+1) (by omega))) fi30 rfl) rfl rfl ?_)
   refine A16 ?_
   exact kF (j+1) ⟨(by omega),(by omega)⟩ (hg:=(sI ((Sub.consI rfl (Imp.of (by rw [hy.2]))) (sC (sC (sC (sC (sI Sub.nil)))))))) (hh:=((SubK.consI rfl (ImpK.of (by rw [hy.1];try rfl))) ((SubK.consI rfl ImpK.refl) ((SubK.consI rfl ImpK.refl) SubK.nil))))
  ·
   refine A8 ?_
   have hy:=sum_no (f:=payE) h97
   exact kF (j+1) ⟨(by omega),(by omega)⟩ (hg:=(sI ((Sub.consI rfl (Imp.of (by rw [hy.2]))) (sC (sC (sC (sC (sI Sub.nil)))))))) (hh:=((SubK.consI rfl (ImpK.of (by rw [hy.1];try rfl))) ((SubK.consI rfl ImpK.refl) ((SubK.consI rfl ImpK.refl) SubK.nil))))
 ·
  refine A14 ?_
  exact xe0 Plain.mk' (rs:=[.cell 6 30,.tmp 7]) rfl rfl ⟨⟨_,_,_,_,_,rfl,rfl,ti30,(Le.of (by rw [show j=8 by omega]))⟩,⟨_,rfl,(Le.bool (by rw [show j=8 by omega]))⟩,trivial⟩
theorem dy_next {fs:List Ev} {i:Nat} (hi:i < fs.length):(fs.take (i+1)).flatMap dyE=(fs.take i).flatMap dyE++dyE (fs.getD i ev0):=by
 rw [List.take_succ_eq_append_getElem hi,List.flatMap_append,List.getD_eq_getElem?_getD,List.getElem?_eq_getElem hi];simp
theorem dy_len: ∀fs:List Ev,(fs.flatMap dyE).length≤2*fs.length
 | []=>Nat.le_refl _
 | e::r=>by
  have:=dy_len r
  have:(dyE e).length≤2:=by
   rw [dyE]
   split
   ·exact Nat.zero_le _
   ·split
    ·exact Nat.le_refl _
    ·exact Nat.le_succ _
  rw [List.flatMap_cons,List.length_append,List.length_cons];omega
theorem c_days (fs:List Ev) (hF:fs.length≤100):
  Ct Tryz.prog 119 [tVw fs] (tL 1 false tI (dyF fs)):=by
 refine Ct.intro Tryz.func119 rfl Tryz.ntmps119 rfl ?_
 intro w F
 refine A8 ?_
 refine RE (xd3 (k:=3) 3 1 false rfl (fun _=>rfl)) trivial trivial ⟨rfl,trivial⟩ ?_
 refine A6 ?_
 refine xh3 (0) ti24 rfl rfl rfl (At.g 0 rfl (rfl)) rfl ?_
 refine A5 ?_
 refine cL (fun (i:Nat)=>i≤fs.length) (fun (i:Nat)=>upd (upd (upd (upd (fun _=>none) 3 (some (.own (.sl 3 1 0 ((fs.take i).flatMap dyE).length)))) 7 (some (.val (tL 14 true tEv fs)))) 8 (some (.val (tI fs.length)))) 9 (some (.val (tI i)))) (fun (i:Nat)=>upd (fun _=>none) 3 (some (⟨3,1,false,rV tI ((fs.take i).flatMap dyE)⟩))) [3] (fun (i:Nat)=>fs.length - i) (0) (Nat.zero_le _) (hh:=((SubK.consI rfl ImpK.refl) SubK.nil)) ?_
 intro i hI
 have hxl:((fs.take i).flatMap dyE).length≤2*i:=by have:=dy_len (fs.take i);rw [List.length_take] at this;omega
 refine A6 ?_
 refine x5 rfl (fun h108=> ?_) (fun h108=> ?_)
 ·
  refine A6 ?_
  refine R2 (x8 sl24 (i) (by omega) (gD (l:=fs) (n:=i) (d:=ev0) (by omega))) rfl rfl ?_
  refine A1 ?_
  refine RE (xa1 (k:=5) (n:=14) (agg:=true) zr32.1 zr32.2 rfl) trivial trivial ⟨rfl,trivial⟩ ?_
  refine A11 ?_
  refine x5 rfl (fun h109=> ?_) (fun h109=> ?_)
  ·
   refine A8 ?_
   have hnx:(fs.take (i+1)).flatMap dyE=((fs.take i).flatMap dyE)++[]:=by rw [dy_next (by omega),dyE,if_pos (by omega)]
   exact kF (i+1) ⟨(by omega),(by omega)⟩ (hg:=(sI (sI (sC ((Sub.consI rfl (Imp.of (by rw [hnx,List.append_nil]))) Sub.nil))))) (hh:=((SubK.consI rfl (ImpK.of (by rw [hnx,List.append_nil]))) SubK.nil))
  ·
   refine A7 ?_
   refine R1 (xb0 (n:=1) (f:=fun n:Int=>tI n) [((fs.getD i ev0).day)] Tryz.underlying42 el3 zf3 rfl (fun _=>inferInstance) rfl rfl rfl) rfl (RE (xg0 (k:=3) (k':=20) (f:=fun n:Int=>tI n) ((fs.take i).flatMap dyE) ((fs.getD i ev0).day) Tryz.underlying42 el3 zf3 rfl rfl (fun _=>inferInstance) rfl ⟨by omega,by omega⟩ rfl) ⟨rfl,rfl,trivial⟩ ⟨rfl,trivial⟩ ⟨rfl,trivial⟩ ?_)
   refine A9 ?_
   refine RGcaseD (t:=24) rfl (fun h113=> ?_) (fun h113=> ?_)
   ·
    refine A6 ?_
    refine x5 rfl (fun h113_2=> ?_) (fun h113_2=> ?_)
    ·
     refine A4 ?_
     refine R1 (xb0 (n:=1) (f:=fun n:Int=>tI n) [((fs.getD i ev0).hi)] Tryz.underlying42 el3 zf3 rfl (fun _=>inferInstance) rfl rfl rfl) rfl (RE (xg0 (k:=20) (k':=33) (f:=fun n:Int=>tI n) (((fs.take i).flatMap dyE)++[(fs.getD i ev0).day]) ((fs.getD i ev0).hi) Tryz.underlying42 el3 zf3 rfl rfl (fun _=>inferInstance) (by rw [List.length_append];rfl) ⟨by omega,by omega⟩ rfl) ⟨rfl,rfl,trivial⟩ ⟨rfl,trivial⟩ ⟨rfl,trivial⟩ ?_)
     refine A8 ?_
     have hnx:(fs.take (i+1)).flatMap dyE=((fs.take i).flatMap dyE)++[(fs.getD i ev0).day,(fs.getD i ev0).hi]:=by rw [dy_next (by omega),dyE,if_neg (by omega),if_pos (by omega)]
     exact xb7 (l:=[3]) (fun j=>cond (Nat.beq j 3) 33 (j)) (i+1) ⟨(by omega),(by omega)⟩ (SubR.int rfl (by first | omega | rfl | (dsimp only;omega)) (SubR.int rfl (by first | omega | rfl | (dsimp only;omega)) (SubR.cons rfl ((SubR.consI rfl (Imp.of (by rw [hnx,List.length_append];rfl))) SubR.nil)))) ((SubKR.consI rfl (ImpK.of (by rw [hnx,show ((fs.take i).flatMap dyE)++[(fs.getD i ev0).day,(fs.getD i ev0).hi]=((fs.take i).flatMap dyE)++[(fs.getD i ev0).day]++[(fs.getD i ev0).hi] by simp];exact xa2.symm))) SubKR.nil) (SupG.val (SupG.val (SupG.val (SupG.own rfl SupG.nil)))) (SupH.cons rfl (supJ x9) SupH.nil) (lkOk rfl) rfl rfl (fun _ h=>by cases h)
    ·
     refine A7 ?_
     have hnx:(fs.take (i+1)).flatMap dyE=((fs.take i).flatMap dyE)++[(fs.getD i ev0).day]:=by rw [dy_next (by omega),dyE,if_neg (by omega),if_neg (by omega)]
     exact xb7 (l:=[3]) (fun j=>cond (Nat.beq j 3) 20 (j)) (i+1) ⟨(by omega),(by omega)⟩ (SubR.int rfl (by first | omega | rfl | (dsimp only;omega)) (SubR.int rfl (by first | omega | rfl | (dsimp only;omega)) (SubR.cons rfl ((SubR.consI rfl (Imp.of (by rw [hnx,List.length_append];rfl))) SubR.nil)))) ((SubKR.consI rfl (ImpK.of (by rw [hnx];exact xa2.symm))) SubKR.nil) (SupG.val (SupG.val (SupG.val (SupG.own rfl SupG.nil)))) (SupH.cons rfl (supJ x9) SupH.nil) (lkOk rfl) rfl rfl (fun _ h=>by cases h)
   ·
    refine A14 ?_
    have hnx:(fs.take (i+1)).flatMap dyE=((fs.take i).flatMap dyE)++[(fs.getD i ev0).day]:=by rw [dy_next (by omega),dyE,if_neg (by omega),if_neg (by omega)]
    exact xb7 (l:=[3]) (fun j=>cond (Nat.beq j 3) 20 (j)) (i+1) ⟨(by omega),(by omega)⟩ (SubR.int rfl (by first | omega | rfl | (dsimp only;omega)) (SubR.int rfl (by first | omega | rfl | (dsimp only;omega)) (SubR.cons rfl ((SubR.consI rfl (Imp.of (by rw [hnx,List.length_append];rfl))) SubR.nil)))) ((SubKR.consI rfl (ImpK.of (by rw [hnx];exact xa2.symm))) SubKR.nil) (SupG.val (SupG.val (SupG.val (SupG.own rfl SupG.nil)))) (SupH.cons rfl (supJ x9) SupH.nil) (lkOk rfl) rfl rfl (fun _ h=>by cases h)
 ·
  refine A8 ?_
  refine RE (xa5 (fun _=>3) (c_SortI ((fs.take i).flatMap dyE) (by omega)) fi49 rfl (krC (ρ:=fun _=>3) (k:=1) xa2 (krN (ρ:=fun _=>3))) (krC (ρ:=fun _=>3) (k:=1) xa2 (krN (ρ:=fun _=>3))) ⟨⟨rfl,x9⟩,trivial⟩ rfl) ⟨rfl,trivial⟩ ⟨rfl,trivial⟩ trivial ?_
  refine A3 ?_
  have hsl:=srtI_len ((fs.take i).flatMap dyE)
  refine A2 ?_
  refine RE (xa5 (fun _=>3) (xt7 ((fs.take i).flatMap dyE)) fi50 rfl (krC (ρ:=fun _=>3) (k:=1) xa2 (krN (ρ:=fun _=>3))) (krC (ρ:=fun _=>3) (k:=1) xa2 (krN (ρ:=fun _=>3))) ⟨⟨rfl,x9⟩,trivial⟩ rfl) ⟨rfl,trivial⟩ ⟨rfl,trivial⟩ trivial (RE (xi2 (f:=tI) (xs:=brd ((fs.take i).flatMap dyE)) (fun _ h=>h) (xf4 rfl) rfl) ⟨rfl,trivial⟩ ⟨rfl,trivial⟩ trivial ?_)
  refine A3 ?_
  exact x4 Plain.mk' rfl rfl (Le.of (by rw [show i=fs.length by omega,List.take_length];rfl))
end An.S
namespace An
open Go An.S
def frB (D B:Int) (f:Fr):Prop:= ∃k:Int,(0≤k∧k≤B)∧f=fr (Rat.divInt k D)
def gE (D B:Int) (F:List Ev):Prop:= ∀e∈F,(uPart e.knd=true→frB D B e.part)∧(uPay e.knd=true→frB D B e.pay)
section
variable {D B:Int} {F:List Ev}
theorem frB_zero (hB:0≤B):frB D B (fr ((0:Int):Rat)):=⟨0,⟨by omega,hB⟩,by rw [Rat.zero_divInt];rfl⟩
theorem frB.rat {f:Fr} (h:frB D B f): ∃k:Int,(0≤k∧k≤B)∧f.rat=Rat.divInt k D:=by
 obtain ⟨k,hk,rfl⟩:=h
 exact ⟨k,hk,rat_fr _⟩
theorem hire_some {job d:Int} {h:Ev} (hh:hireE F job d=some h):h∈F∧h.knd=1∧h.job=job∧h.day≤d:=by
 rw [hireE] at hh
 cases hl:lastE (pHire job d) F with
 | none=>rw [hl] at hh;cases hh
 | some e=>
  rw [hl] at hh
  simp only at hh
  split at hh
  ·rename_i hk
   obtain rfl:=Option.some.inj hh
   obtain ⟨⟨h1,h2⟩,_⟩:=(xt9 _ _).2 _ hl
   simp only [pHire,Bool.and_eq_true,decide_eq_true_eq] at h2
   exact ⟨h1,hk,h2.1.1,h2.1.2⟩
  ·cases hh
theorem part_B (hg:gE D B F) (hB:0≤B) {h:Ev} (hm:h∈F) (hk:h.knd=1) (d:Int):frB D B (partE F h d):=by
 rw [partE]
 split
 ·exact frB_zero hB
 ·cases hl:lastE (pHours h d) F with
  | none=>exact (hg h hm).1 (by rw [hk];rfl)
  | some e=>
   obtain ⟨⟨h1,h2⟩,_⟩:=(xt9 _ _).2 _ hl
   simp only [pHours,Bool.and_eq_true,decide_eq_true_eq] at h2
   exact (hg e h1).1 (by rw [h2.1.1.1.1];rfl)
theorem pay_B (hg:gE D B F) (hB:0≤B) {h:Ev} (hm:h∈F) (hk:h.knd=1) (d:Int):frB D B (payE F h d):=by
 rw [payE]
 split
 ·exact frB_zero hB
 ·cases hl:lastE (pPay h d) F with
  | none=>exact (hg h hm).2 (by rw [hk];rfl)
  | some e=>
   obtain ⟨⟨h1,h2⟩,_⟩:=(xt9 _ _).2 _ hl
   simp only [pPay,Bool.and_eq_true,decide_eq_true_eq] at h2
   exact (hg e h1).2 (by rw [h2.1.1.1];rfl)
theorem addJ_B {f:List Ev→Ev→Int→Fr} (hB:0≤B) {d:Int} (hf: ∀h,h∈F→h.knd=1→frB D B (f F h d)) (job:Nat): ∃k:Int,(0≤k∧k≤B)∧addJ f F d job=Rat.divInt k D:=by
 rw [addJ]
 cases hh:hireE F (job:Int) d with
 | none=>exact ⟨0,⟨by omega,hB⟩,by rw [Rat.zero_divInt];rfl⟩
 | some h=>
  obtain ⟨h1,h2,_⟩:=hire_some hh
  exact (hf h h1 h2).rat
theorem sumQ_B {f:List Ev→Ev→Int→Fr} (hD:0 < D) (hB:0≤B) {d:Int} (hf: ∀h,h∈F→h.knd=1→frB D B (f F h d)): ∀n:Nat,∃k:Int,(0≤k∧k≤(n:Int)*B)∧sumQ f F d n=Rat.divInt k D
 | 0=>⟨0,⟨by omega,by simp⟩,by rw [Rat.zero_divInt];rfl⟩
 | n+1=>by
  obtain ⟨k,⟨h1,h2⟩,h3⟩:=sumQ_B hD hB hf n
  obtain ⟨j,⟨g1,g2⟩,g3⟩:=addJ_B hB hf (n+1)
  refine ⟨k+j,⟨by omega,?_⟩,by rw [sumQ,h3,g3,addG hD]⟩
  rw [show ((n+1:Nat):Int)=(n:Int)+1 by omega,Int.add_mul,Int.one_mul];omega
theorem crd_B (hg:gE D B F) (hD:0 < D): ∀{G:List Ev},(∀e∈G,e∈F∧e.knd=6)→ ∃k:Int,(0≤k∧k≤(G.length:Int)*B)∧G.foldl (fun q e=>q+e.part.rat) ((0:Int):Rat)=Rat.divInt k D:=fun {G} hG=>
 xs3 (C:=fun G=>(∀e∈G,e∈F∧e.knd=6)→ ∃k:Int,(0≤k∧k≤(G.length:Int)*B)∧G.foldl (fun q e=>q+e.part.rat) ((0:Int):Rat)=Rat.divInt k D)
  (fun _=>⟨0,⟨by omega,by simp⟩,by rw [Rat.zero_divInt];rfl⟩)
  (fun G x ih hG=>by
   obtain ⟨k,⟨h1,h2⟩,h3⟩:=ih fun e he=>hG e (List.mem_append_left _ he)
   obtain ⟨hx,hk⟩:=hG x (by simp)
   obtain ⟨j,⟨g1,g2⟩,g3⟩:=((hg x hx).1 (by rw [hk];rfl)).rat
   refine ⟨k+j,⟨by omega,?_⟩,by rw [List.foldl_append,h3];show _+x.part.rat=_;rw [g3,addG hD]⟩
   rw [List.length_append,List.length_singleton,show ((G.length+1:Nat):Int)=(G.length:Int)+1 by omega,Int.add_mul,Int.one_mul];omega) G.length G rfl hG
theorem one_B (hD:0 < D) {k:Int} (h0:0≤k): ∃j:Int,(0≤j∧j≤k∧j≤D)∧oneQ (Rat.divInt k D)=Rat.divInt j D:=by
 rw [oneQ]
 have e1:((1:Int):Rat)=Rat.divInt D D:=by
  rw [int_div 1]
  exact (Rat.divInt_eq_divInt_iff (by decide) (by omega)).2 (by omega)
 split
 ·rename_i h
  refine ⟨D,⟨by omega,?_,Int.le_refl _⟩,e1⟩
  have h': ¬Rat.divInt k D≤((1:Int):Rat):=Rat.not_le.2 h
  rw [int_div 1,le_dv hD (by decide)] at h'
  omega
 ·rename_i h
  have h':=Rat.not_lt.1 h
  rw [int_div 1,le_dv hD (by decide)] at h'
  exact ⟨k,⟨h0,Int.le_refl _,by omega⟩,rfl⟩
theorem kQ_B (K:Nat) (hg:gE D B F) (hD:0 < D) (hB:0≤B) (hl:F.length≤100) {d:Int} {q:Rat} (h:kQ K F d=some q): ∃k:Int,(0≤k∧k≤100*B)∧(K=1→k≤D)∧q=Rat.divInt k D:=by
 match K,h with
 | 0,h=>
  have h:crdQ F d=some q:=h
  rw [crdQ] at h
  split at h
  ·cases h
  ·obtain rfl:=Option.some.inj h
   obtain ⟨k,⟨h1,h2⟩,h3⟩:=crd_B hg hD (G:=crdL F d) fun e he=>by
    obtain ⟨a,b⟩:=List.mem_filter.1 he
    simp only [Bool.and_eq_true,decide_eq_true_eq] at b
    exact ⟨a,b.1⟩
   refine ⟨k,⟨h1,Int.le_trans h2 (Int.mul_le_mul_of_nonneg_right ?_ hB)⟩,fun h=>(by cases h),h3⟩
   have:(crdL F d).length≤F.length:=List.length_filter_le ..
   omega
 | 1,h=>
  have h:fteQ F d=some q:=h
  rw [fteQ] at h
  split at h
  ·obtain rfl:=Option.some.inj h
   obtain ⟨k,⟨h1,h2⟩,h3⟩:=sumQ_B (f:=partE) hD hB (F:=F) (d:=d) (fun g hm hk=>part_B hg hB hm hk d) 8
   obtain ⟨j,⟨g1,g2,g3⟩,g4⟩:=one_B hD h1
   exact ⟨j,⟨g1,by omega⟩,fun _=>g3,by rw [h3,g4]⟩
  ·cases h
 | K+2,h=>
  have h:payQ F d=some q:=h
  rw [payQ] at h
  split at h
  ·obtain rfl:=Option.some.inj h
   obtain ⟨k,⟨h1,h2⟩,h3⟩:=sumQ_B (f:=payE) hD hB (F:=F) (d:=d) (fun g hm hk=>pay_B hg hB hm hk d) 8
   exact ⟨k,⟨h1,by omega⟩,fun h=>(by omega),h3⟩
  ·cases h
theorem kG_ok (K:Nat) (hg:gE D B F) (hD:0 < D) (hDb:D≤9223372036854775807) (hB:0≤B) (hBb:B≤92233720368547758) (hl:F.length≤100) {d:Int} {v:Va} (h:kG K F d=some v):gOk (kK K) D (100*B) v:=by
 obtain ⟨q,hq,rfl⟩:=Option.map_eq_some_iff.1 h
 obtain ⟨k,⟨h1,h2⟩,_,rfl⟩:=kQ_B K hg hD hB hl hq
 exact gOk.mk (by rw [kK];split <;> omega) hD hDb (by omega) (by omega) (by omega)
theorem mT_ok (K:Nat) (hc:calE F) (hg:gE D B F) (hD:0 < D) (hDb:D≤9223372036854775807) (hB:0≤B) (hBb:B≤92233720368547758) (hl:F.length≤100):isG (kK K) D (100*B) (mT K F):=by
 refine isG_pst ((segL_pw (kD_pw2 hc)).2.imp (S:=fun s t:Tst=>s.lo < s.hi→s.hi≤t.lo) fun h' _=>h') fun s hs _=> ?_
 obtain ⟨h1,h2,h3⟩:=segL_mem hs
 have hb: ∀x∈kD K F++[65536],0≤x∧x≤65536:=fun x hx=>by
  rcases List.mem_append.1 hx with h | h
  ·have:=kD_bd hc x h;omega
  ·rw [List.mem_singleton.1 h];decide
 have:=hb _ h1
 have:=hb _ h2
 exact ⟨by omega,kG_ok K hg hD hDb hB hBb hl h3⟩
theorem dyE_len (e:Ev):(dyE e).length≤2:=by
 rw [dyE]
 split
 ·exact Nat.zero_le _
 ·split
  ·exact Nat.le_refl _
  ·exact Nat.le_succ _
theorem flat2: ∀F:List Ev,(F.flatMap dyE).length≤2*F.length
 | []=>Nat.le_refl _
 | e::r=>by rw [List.flatMap_cons,List.length_append,List.length_cons];have:=flat2 r;have:=dyE_len e;omega
theorem kD_len (K:Nat):(kD K F).length≤2*F.length:=by
 rw [kD]
 split
 ·rw [dyC]
  have h1:=xr3 ((F.filter fun e=>decide (e.knd=6)).map (·.day))
  rw [List.length_map] at h1
  have h2:=List.length_filter_le (fun e:Ev=>decide (e.knd=6)) F
  omega
 ·rw [dyF];have h1:=xr3 (F.flatMap dyE);have h2:=flat2 F;omega
theorem mT_len (K:Nat):(mT K F).length≤2*F.length+1:=by
 have h:=xq7 (segL (kG K F) (kD K F++[65536])) []
 have h2:=segL_len (g:=kG K F) (kD K F++[65536])
 have h3:=kD_len (F:=F) K
 rw [mT];simp only [List.length_nil,List.length_append,List.length_singleton] at h h2 ⊢;omega
theorem inf_cal {l:List Ev} {kn:Int} (hv: ∀i,i < l.length→EOk l i):calE (inf l kn):=fun e he=>by
 obtain ⟨i,hi,_,rfl⟩:=inf_mem he
 exact ⟨(hv i hi).days,(hv i hi).his⟩
theorem inf_gE {l:List Ev} {kn:Int} (h:gE D B l):gE D B (inf l kn):=fun e he=>by
 obtain ⟨i,hi,_,rfl⟩:=inf_mem he
 exact h _ (by rw [List.getD_eq_getElem?_getD,List.getElem?_eq_getElem hi];exact List.getElem_mem hi)
end
end An
namespace An.S
open Go Go.Proofs An
instance fi118:FnI Tryz.prog 118:=⟨_,Tryz.func118,by kernel_rfl,rfl⟩
instance fi119:FnI Tryz.prog 119:=⟨_,Tryz.func119,by kernel_rfl,rfl⟩
instance fi120:FnI Tryz.prog 120:=⟨_,Tryz.func120,by kernel_rfl,rfl⟩
instance fi121:FnI Tryz.prog 121:=⟨_,Tryz.func121,by kernel_rfl,rfl⟩
instance fi123:FnI Tryz.prog 123:=⟨_,Tryz.func123,by kernel_rfl,rfl⟩
abbrev eD (ds:List Int):List Int:=ds++[65536]
theorem c_stepsOne (ds:List Int) (hds:(ds++[65536]).Pairwise (· < ·)) (hdl:ds.length≤1000) (fs:List Ev) (kk cf:Nat) (vv:Int→Rat) (hfn:FnI Tryz.prog cf) (hcc: ∀d,CtG Tryz.prog cf [(1,⟨94,1,true,[.val (tVw fs)]⟩)] [.val (tI d),.own (.ptr 1 0)] (.val (tT [tFr (fr (vv d)),tB (heldQ fs d 8)])) [(1,⟨94,1,true,[.val (tVw fs)]⟩)] []):
  CtG Tryz.prog 118 [(101,⟨94,1,true,[.val (tVw fs)]⟩)] [.val (tL 1 false tI ds),.val (tE (.int .u8 (kk:Int))),.own (.fn cf [.ptr 101 0])] (.val (tL 8 true tTs (pst [] (segL (stG (fun d=>heldQ fs d 8) vv kk) (ds++[65536]))))) [(101,⟨94,1,true,[.val (tVw fs)]⟩)] []:=by
 refine CtG.intro [101] Tryz.func118 rfl Tryz.ntmps118 rfl rfl ⟨⟨rfl,(SupX.lit rfl)⟩,trivial⟩ ?_
 intro w F η
 refine A7 ?_
 refine RE (xd3 (k:=7) 77 8 true rfl (fun h=>by cases h)) trivial trivial ⟨rfl,trivial⟩ ?_
 refine A11 ?_
 refine cL (fun (fm:(Nat)×(List Tst))=>(fun (k:Nat) (xs:List Tst)=>k≤ds.length∧xs=(stK (fun d=>heldQ fs d 8) vv kk ds k)) fm.1 fm.2) (fun (fm:(Nat)×(List Tst))=>(fun (k:Nat) (xs:List Tst)=>upd (upd (upd (upd (upd (upd (upd (fun _=>none) 0 (some (.val (tL 1 false tI ds)))) 1 (some (.val (tE (.int .u8 (kk:Int)))))) 2 (some (.own (.fn cf [.ptr 101 0])))) 7 (some (.own (.sl 7 8 0 xs.length)))) 14 (some (.val (tL 1 false tI ds)))) 15 (some (.val (tI ds.length)))) 16 (some (.val (tI k)))) fm.1 fm.2) (fun (fm:(Nat)×(List Tst))=>(fun (k:Nat) (xs:List Tst)=>upd (upd (fun _=>none) 7 (some (⟨77,8,true,rV tTs xs⟩))) 101 (some (⟨94,1,true,[.val (tVw fs)]⟩))) fm.1 fm.2) [7,101] (fun (fm:(Nat)×(List Tst))=>(fun (k:Nat) (xs:List Tst)=>ds.length - k) fm.1 fm.2) ((0,[])) (by dsimp only;exact ⟨Nat.zero_le _,rfl⟩) (hh:=((SubK.consI rfl ImpK.refl) ((SubK.consI rfl ImpK.refl) SubK.nil))) ?_
 intro fm hI
 obtain ⟨k,xs⟩:=fm
 replace hI:k≤ds.length∧xs=(stK (fun d=>heldQ fs d 8) vv kk ds k):=hI
 show wc _ _ _ _ (upd (upd (upd (upd (upd (upd (upd (fun _=>none) 0 (some (.val (tL 1 false tI ds)))) 1 (some (.val (tE (.int .u8 (kk:Int)))))) 2 (some (.own (.fn cf [.ptr 101 0])))) 7 (some (.own (.sl 7 8 0 xs.length)))) 14 (some (.val (tL 1 false tI ds)))) 15 (some (.val (tI ds.length)))) 16 (some (.val (tI k)))) (upd (upd (fun _=>none) 7 (some (⟨77,8,true,rV tTs xs⟩))) 101 (some (⟨94,1,true,[.val (tVw fs)]⟩))) _
 have hx:xs=(stK (fun d=>heldQ fs d 8) vv kk ds k):=hI.2
 have hk:=hI.1
 have hxl:xs.length≤k:=by rw [hx];exact stK_len
 refine A6 ?_
 refine x5 rfl (fun h124=> ?_) (fun h124=> ?_)
 ·
  refine A7 ?_
  refine R2 (x8 sl42 (k) (by omega) (gD (l:=ds) (n:=k) (d:=0) (by omega))) rfl rfl ?_
  refine A10 ?_
  refine xg1 (fun (_j:Unit)=>True) (fun (_j:Unit)=>upd (upd (upd (upd (upd (upd (upd (upd (upd (upd (fun _=>none) 0 (some (.val (tL 1 false tI ds)))) 1 (some (.val (tE (.int .u8 (kk:Int)))))) 2 (some (.own (.fn cf [.ptr 101 0])))) 7 (some (.own (.sl 7 8 0 xs.length)))) 14 (some (.val (tL 1 false tI ds)))) 15 (some (.val (tI ds.length)))) 16 (some (.val (tI k)))) 8 (some (.val (tI k)))) 9 (some (.val (tI (ds.getD k 0))))) 10 (some (.val (tI ((eD ds).getD (k+1) 0))))) (fun (_j:Unit)=>upd (upd (fun _=>none) 7 (some (⟨77,8,true,rV tTs xs⟩))) 101 (some (⟨94,1,true,[.val (tVw fs)]⟩))) (nm [7,101]) ?_ ?_
  ·
   refine A9 ?_
   refine x5 rfl (fun h126=> ?_) (fun h126=> ?_)
   ·
    refine A4 ?_
    refine R2 (x8 sl42 (k+1) (by omega) (gD (l:=ds) (n:=k+1) (d:=0) (by omega))) rfl rfl ?_
    refine A3 ?_
    exact kF (()) trivial (hg:=((Sub.consI rfl (Imp.int (endD_at (by omega)).symm)) (sI (sI (sI (sI (sC (sC (sC (sI (sC Sub.nil))))))))))) (hh:=((SubK.consI rfl ImpK.refl) ((SubK.consI rfl ImpK.refl) SubK.nil)))
   ·
    refine A1 ?_
    exact kF (()) trivial (hg:=((Sub.consI rfl (Imp.int (endD_end (by omega)).symm)) (sI (sI (sI (sI (sC (sC (sC (sI (sC Sub.nil))))))))))) (hh:=((SubK.consI rfl ImpK.refl) ((SubK.consI rfl ImpK.refl) SubK.nil)))
  ·
   intro _j hj126
   refine A4 ?_
   refine RE (xh2 (ps:=[.val (tI _)]) (caps:=[.ptr 1 0]) (fun _=>101) (hcc (ds.getD k 0)) hfn rfl (krC (ρ:=fun _=>101) (k:=1) rfl (krN (ρ:=fun _=>101))) (krC (ρ:=fun _=>101) (k:=1) rfl (krN (ρ:=fun _=>101))) ⟨⟨rfl,(SupX.lit rfl)⟩,trivial⟩ rfl) ⟨rfl,rfl,trivial⟩ ⟨rfl,trivial⟩ trivial ?_
   refine A3 ?_
   refine RE (xa1 (k:=11) (n:=4) (agg:=true) zr30.1 zr30.2 rfl) trivial trivial ⟨rfl,trivial⟩ ?_
   refine A11 ?_
   refine xc0 rfl (fun h130=> ?_) (fun h130=> ?_)
   ·
    have hb:(fun d=>heldQ fs d 8) (ds.getD k 0)=false:=by simpa using h130
    refine A8 ?_
    exact kF ((k+1,xs)) ⟨(by dsimp only;exact ⟨by omega,by rw [stK_none (by omega) hb];exact hx⟩),(by dsimp only;omega)⟩ (hh:=((SubK.consI rfl ImpK.refl) ((SubK.consI rfl ImpK.refl) SubK.nil)))
   ·
    have hb:(fun d=>heldQ fs d 8) (ds.getD k 0)=true:=by simpa using h130
    refine A4 ?_
    have hpd:=pw_lt hds (show k < k+1 by omega) (by rw [List.length_append];simp;omega)
    rw [endD_at (by omega)] at hpd
    refine A11 ?_
    refine RGcaseD (t:=43) rfl (fun h133=> ?_) (fun h133=> ?_)
    ·
     refine A2 ?_
     refine RGon (decide_eq_true h133) rfl (xe4 (wr64 (by omega) (by omega))) rfl ⟨rfl,rfl,trivial⟩ trivial trivial (RGon (decide_eq_true h133) rfl (x7 sl37 (by omega) (by omega) rfl) rfl ⟨rfl,rfl,trivial⟩ trivial trivial ?_)
     refine A1 ?_
     refine RGon (decide_eq_true h133) rfl (xh9 (es:=8) (o:=1) (xs.length - 1) ti3 (xa8 (d:=tst0) (by omega)) (At.g 1 rfl rfl) (by omega)) rfl ⟨rfl,trivial⟩ ⟨rfl,trivial⟩ trivial ?_
     refine A4 ?_
     refine RGcaseD (t:=53) rfl (fun h133_2=> ?_) (fun h133_2=> ?_)
     ·
      refine A2 ?_
      refine RGon (decide_eq_true h133_2) rfl (xe4 (wr64 (by omega) (by omega))) rfl ⟨rfl,rfl,trivial⟩ trivial trivial (RGon (decide_eq_true h133_2) rfl (x7 sl37 (by omega) (by omega) rfl) rfl ⟨rfl,rfl,trivial⟩ trivial trivial ?_)
      refine A2 ?_
      refine RGon (decide_eq_true h133_2) rfl (xh9 (es:=8) (o:=3) (xs.length - 1) ti30 (xa8 (d:=tst0) (by omega)) (At.t (o1:=2) (n1:=6) (t1:=tVa (xs.getD (xs.length - 1) tst0).v) (o2:=1) (At.g 2 rfl rfl) (At.g 1 rfl rfl)) (by omega)) rfl ⟨rfl,trivial⟩ ⟨rfl,trivial⟩ trivial ?_
      refine A1 ?_
      refine RGon (decide_eq_true h133_2) rfl (x3 (xk1 _ _) fi116 rfl) rfl ⟨rfl,rfl,trivial⟩ trivial trivial ?_
      refine A3 ?_
      refine x5 rfl (fun h133_3=> ?_) (fun h133_3=> ?_)
      ·
       refine A6 ?_
       refine R2 (x7 sl37 (by omega) (by omega) rfl) rfl rfl ?_
       refine A1 ?_
       refine RE (xj8 (es:=8) (o:=1) (t2:=tTs ⟨(xs.getD (xs.length - 1) tst0).lo,((eD ds).getD (k+1) 0),(xs.getD (xs.length - 1) tst0).v⟩) (xs.length - 1) ti3 (xa8 (d:=tst0) (by omega)) (Up.g 1 rfl rfl rfl) (by omega) (xe6 rfl)) ⟨rfl,rfl,trivial⟩ ⟨rfl,trivial⟩ trivial ?_
       refine A10 ?_
       exact kF ((k+1,(xs.set (xs.length - 1) ⟨(xs.getD (xs.length - 1) tst0).lo,((eD ds).getD (k+1) 0),(xs.getD (xs.length - 1) tst0).v⟩))) ⟨(by dsimp only;exact ⟨by omega,by rw [xn3 (by omega) hb,←hx,pst1,if_neg (by dsimp only;omega),if_pos ⟨by omega,by dsimp only;omega,by rw [hx] at h133_3 ⊢;exact stK_last (by rw [←hx];omega) h133_3⟩]⟩),(by dsimp only;omega)⟩ (hg:=(sI (sI (sC ((Sub.consI rfl (Imp.of (by dsimp only;rw [List.length_set]))) (sC (sI (sC Sub.nil)))))))) (hh:=((SubK.consI rfl ImpK.refl) ((SubK.consI rfl ImpK.refl) SubK.nil)))
      ·
       refine A8 ?_
       refine R2 (xa9 (r:=tS [⟨1,false,tE (.int .u8 (kk:Int))⟩,⟨4,true,tFr (fr (vv (ds.getD k 0)))⟩,⟨1,false,(tE (.int .i64 0))⟩]) (ts:=[(0,tE (.int .u8 (kk:Int))),(1,tFr (fr (vv (ds.getD k 0))))]) bu57 zr57.2 (Bc 0 rfl rfl rfl (Bc 1 rfl rfl rfl Le.refl))) rfl rfl (R3 (xa9 (r:=tS [⟨1,false,tI (ds.getD k 0)⟩,⟨1,false,tI ((eD ds).getD (k+1) 0)⟩,⟨6,true,tVa ⟨kk,fr (vv (ds.getD k 0)),0⟩⟩]) (ts:=[(0,tI (ds.getD k 0)),(1,tI ((eD ds).getD (k+1) 0)),(2,tVa ⟨kk,fr (vv (ds.getD k 0)),0⟩)]) bu77 zr77.2 (Bc 0 rfl rfl rfl (Bc 1 rfl rfl rfl (Bc 2 rfl rfl rfl Le.refl)))) rfl rfl rfl (R1 (xb0 (n:=1) (f:=tTs) [(⟨ds.getD k 0,((eD ds).getD (k+1) 0),⟨kk,fr (vv (ds.getD k 0)),0⟩⟩:Tst)] Tryz.underlying37 el77 zf77 rfl (fun _=>inferInstance) rfl rfl rfl) rfl (RE (xb6 (k:=7) (k':=78) (f:=tTs) (ys:=[(⟨ds.getD k 0,((eD ds).getD (k+1) 0),⟨kk,fr (vv (ds.getD k 0)),0⟩⟩:Tst)]) (ts':=rV tTs (xs++[(⟨ds.getD k 0,((eD ds).getD (k+1) 0),⟨kk,fr (vv (ds.getD k 0)),0⟩⟩:Tst)])) Tryz.underlying37 el77 zf77 rfl rfl (fun _=>inferInstance) xc6 (by simp;omega) (by simp;omega) (by simp [rV]) (n':=xs.length+1) rfl) ⟨rfl,rfl,trivial⟩ ⟨rfl,trivial⟩ ⟨rfl,trivial⟩ ?_)))
       refine A8 ?_
       exact xb7 (l:=[7,101]) (fun j=>cond (Nat.beq j 7) 78 (j)) ((k+1,xs++[(⟨ds.getD k 0,((eD ds).getD (k+1) 0),⟨kk,fr (vv (ds.getD k 0)),0⟩⟩:Tst)])) ⟨(by dsimp only;exact ⟨by omega,by rw [xn3 (by omega) hb,←hx,pst1,if_neg (by dsimp only;omega),if_neg (fun h=>h133_3 (by rw [h.2.2]))]⟩),(by dsimp only;omega)⟩ (SubR.int rfl (by first | omega | rfl | (dsimp only;omega)) (SubR.int rfl (by first | omega | rfl | (dsimp only;omega)) (SubR.cons rfl ((SubR.consI rfl (Imp.of (by dsimp only;rw [List.length_append];rfl))) (SubR.cons rfl (SubR.int rfl (by first | omega | rfl | (dsimp only;omega)) (SubR.cons rfl SubR.nil))))))) ((SubKR.consI rfl ImpK.refl) ((SubKR.consI rfl (ImpK.of xa2.symm)) SubKR.nil)) (SupG.val (SupG.val (SupG.val (SupG.own rfl (SupG.own rfl (SupG.val (SupG.val SupG.nil))))))) (SupH.cons rfl (supJL rfl) (SupH.cons rfl (supJ x9) SupH.nil)) (lkOk rfl) rfl rfl (fun _ h=>by cases h)
     ·
      refine A18 ?_
      refine A3 ?_
      refine R2 (xa9 (r:=tS [⟨1,false,tE (.int .u8 (kk:Int))⟩,⟨4,true,tFr (fr (vv (ds.getD k 0)))⟩,⟨1,false,(tE (.int .i64 0))⟩]) (ts:=[(0,tE (.int .u8 (kk:Int))),(1,tFr (fr (vv (ds.getD k 0))))]) bu57 zr57.2 (Bc 0 rfl rfl rfl (Bc 1 rfl rfl rfl Le.refl))) rfl rfl (R3 (xa9 (r:=tS [⟨1,false,tI (ds.getD k 0)⟩,⟨1,false,tI ((eD ds).getD (k+1) 0)⟩,⟨6,true,tVa ⟨kk,fr (vv (ds.getD k 0)),0⟩⟩]) (ts:=[(0,tI (ds.getD k 0)),(1,tI ((eD ds).getD (k+1) 0)),(2,tVa ⟨kk,fr (vv (ds.getD k 0)),0⟩)]) bu77 zr77.2 (Bc 0 rfl rfl rfl (Bc 1 rfl rfl rfl (Bc 2 rfl rfl rfl Le.refl)))) rfl rfl rfl (R1 (xb0 (n:=1) (f:=tTs) [(⟨ds.getD k 0,((eD ds).getD (k+1) 0),⟨kk,fr (vv (ds.getD k 0)),0⟩⟩:Tst)] Tryz.underlying37 el77 zf77 rfl (fun _=>inferInstance) rfl rfl rfl) rfl (RE (xb6 (k:=7) (k':=78) (f:=tTs) (ys:=[(⟨ds.getD k 0,((eD ds).getD (k+1) 0),⟨kk,fr (vv (ds.getD k 0)),0⟩⟩:Tst)]) (ts':=rV tTs (xs++[(⟨ds.getD k 0,((eD ds).getD (k+1) 0),⟨kk,fr (vv (ds.getD k 0)),0⟩⟩:Tst)])) Tryz.underlying37 el77 zf77 rfl rfl (fun _=>inferInstance) xc6 (by simp;omega) (by simp;omega) (by simp [rV]) (n':=xs.length+1) rfl) ⟨rfl,rfl,trivial⟩ ⟨rfl,trivial⟩ ⟨rfl,trivial⟩ ?_)))
      refine A8 ?_
      exact xb7 (l:=[7,101]) (fun j=>cond (Nat.beq j 7) 78 (j)) ((k+1,xs++[(⟨ds.getD k 0,((eD ds).getD (k+1) 0),⟨kk,fr (vv (ds.getD k 0)),0⟩⟩:Tst)])) ⟨(by dsimp only;exact ⟨by omega,by rw [xn3 (by omega) hb,←hx,pst1,if_neg (by dsimp only;omega),if_neg (by dsimp only;omega)]⟩),(by dsimp only;omega)⟩ (SubR.int rfl (by first | omega | rfl | (dsimp only;omega)) (SubR.int rfl (by first | omega | rfl | (dsimp only;omega)) (SubR.cons rfl ((SubR.consI rfl (Imp.of (by dsimp only;rw [List.length_append];rfl))) (SubR.cons rfl (SubR.int rfl (by first | omega | rfl | (dsimp only;omega)) (SubR.cons rfl SubR.nil))))))) ((SubKR.consI rfl ImpK.refl) ((SubKR.consI rfl (ImpK.of xa2.symm)) SubKR.nil)) (SupG.val (SupG.val (SupG.val (SupG.own rfl (SupG.own rfl (SupG.val (SupG.val SupG.nil))))))) (SupH.cons rfl (supJL rfl) (SupH.cons rfl (supJ x9) SupH.nil)) (lkOk rfl) rfl rfl (fun _ h=>by cases h)
    ·
     refine A18 ?_
     refine A13 ?_
     refine R2 (xa9 (r:=tS [⟨1,false,tE (.int .u8 (kk:Int))⟩,⟨4,true,tFr (fr (vv (ds.getD k 0)))⟩,⟨1,false,(tE (.int .i64 0))⟩]) (ts:=[(0,tE (.int .u8 (kk:Int))),(1,tFr (fr (vv (ds.getD k 0))))]) bu57 zr57.2 (Bc 0 rfl rfl rfl (Bc 1 rfl rfl rfl Le.refl))) rfl rfl (R3 (xa9 (r:=tS [⟨1,false,tI (ds.getD k 0)⟩,⟨1,false,tI ((eD ds).getD (k+1) 0)⟩,⟨6,true,tVa ⟨kk,fr (vv (ds.getD k 0)),0⟩⟩]) (ts:=[(0,tI (ds.getD k 0)),(1,tI ((eD ds).getD (k+1) 0)),(2,tVa ⟨kk,fr (vv (ds.getD k 0)),0⟩)]) bu77 zr77.2 (Bc 0 rfl rfl rfl (Bc 1 rfl rfl rfl (Bc 2 rfl rfl rfl Le.refl)))) rfl rfl rfl (R1 (xb0 (n:=1) (f:=tTs) [(⟨ds.getD k 0,((eD ds).getD (k+1) 0),⟨kk,fr (vv (ds.getD k 0)),0⟩⟩:Tst)] Tryz.underlying37 el77 zf77 rfl (fun _=>inferInstance) rfl rfl rfl) rfl (RE (xb6 (k:=7) (k':=78) (f:=tTs) (ys:=[(⟨ds.getD k 0,((eD ds).getD (k+1) 0),⟨kk,fr (vv (ds.getD k 0)),0⟩⟩:Tst)]) (ts':=rV tTs (xs++[(⟨ds.getD k 0,((eD ds).getD (k+1) 0),⟨kk,fr (vv (ds.getD k 0)),0⟩⟩:Tst)])) Tryz.underlying37 el77 zf77 rfl rfl (fun _=>inferInstance) xc6 (by simp;omega) (by simp;omega) (by simp [rV]) (n':=xs.length+1) rfl) ⟨rfl,rfl,trivial⟩ ⟨rfl,trivial⟩ ⟨rfl,trivial⟩ ?_)))
     refine A8 ?_
     exact xb7 (l:=[7,101]) (fun j=>cond (Nat.beq j 7) 78 (j)) ((k+1,xs++[(⟨ds.getD k 0,((eD ds).getD (k+1) 0),⟨kk,fr (vv (ds.getD k 0)),0⟩⟩:Tst)])) ⟨(by dsimp only;exact ⟨by omega,by rw [xn3 (by omega) hb,←hx,pst1,if_neg (by dsimp only;omega),if_neg (by dsimp only;omega)]⟩),(by dsimp only;omega)⟩ (SubR.int rfl (by first | omega | rfl | (dsimp only;omega)) (SubR.int rfl (by first | omega | rfl | (dsimp only;omega)) (SubR.cons rfl ((SubR.consI rfl (Imp.of (by dsimp only;rw [List.length_append];rfl))) (SubR.cons rfl (SubR.int rfl (by first | omega | rfl | (dsimp only;omega)) (SubR.cons rfl SubR.nil))))))) ((SubKR.consI rfl ImpK.refl) ((SubKR.consI rfl (ImpK.of xa2.symm)) SubKR.nil)) (SupG.val (SupG.val (SupG.val (SupG.own rfl (SupG.own rfl (SupG.val (SupG.val SupG.nil))))))) (SupH.cons rfl (supJL rfl) (SupH.cons rfl (supJ x9) SupH.nil)) (lkOk rfl) rfl rfl (fun _ h=>by cases h)
 ·
  refine A6 ?_
  refine C_giveL (t:=7) (k:=7) (f:=tTs) (xs:=xs) rfl rfl (lent_lb rfl) (xf4 rfl) rfl ?_
  refine A6 ?_
  exact xb5 LentC.mk' rfl rfl (Imp.of (by rw [hx,show k=ds.length by omega,stK_all])) ⟨rfl,trivial⟩ rfl ⟨⟨rfl,(SupX.lit rfl)⟩,trivial⟩ rfl
def ftV (fs:List Ev) (d:Int):Rat:=if heldQ fs d 8=true then oneQ (sumQ partE fs d 8) else sumQ partE fs d 8
theorem ftV_big {fs:List Ev} {d:Int} (h:heldQ fs d 8=true) (hc:0 < cmpQ (sumQ partE fs d 8) ((1:Int):Rat)):ftV fs d=((1:Int):Rat):=by
 rw [ftV,if_pos h,oneQ,if_pos (cmpP.1 hc)]
theorem ftV_small {fs:List Ev} {d:Int} (h:heldQ fs d 8=true) (hc: ¬0 < cmpQ (sumQ partE fs d 8) ((1:Int):Rat)):ftV fs d=sumQ partE fs d 8:=by
 rw [ftV,if_pos h,oneQ,if_neg fun hn=>hc (cmpP.2 hn)]
theorem ftV_none {fs:List Ev} {d:Int} (h:heldQ fs d 8=false):ftV fs d=sumQ partE fs d 8:=by
 rw [ftV,if_neg (by rw [h];decide)]
theorem dyF_len {fs:List Ev}:(dyF fs).length≤2*fs.length:=kD_len (F:=fs) 1
theorem stG_fte (fs:List Ev) (d:Int):stG (fun d=>heldQ fs d 8) (fun d=>ftV fs d) 2 d=kG 1 fs d:=by
 show (if heldQ fs d 8=true then some (⟨2,fr (ftV fs d),0⟩:Va) else none)=(fteQ fs d).map fun q=>(⟨kK 1,fr q,0⟩:Va)
 rw [fteQ]
 split
 ·rename_i h;rw [ftV,if_pos h];rfl
 ·rfl
theorem stG_pay (fs:List Ev) (d:Int):stG (fun d=>heldQ fs d 8) (fun d=>sumQ payE fs d 8) 3 d=kG 2 fs d:=by
 show (if heldQ fs d 8=true then some (⟨3,fr (sumQ payE fs d 8),0⟩:Va) else none)=(payQ fs d).map fun q=>(⟨kK 2,fr q,0⟩:Va)
 rw [payQ]
 split <;> rfl
theorem c_fte1 (fs:List Ev) (hF:fs.length≤100) (d:Int) (hs:SumOk partE fs d):
  CtG Tryz.prog 120 [(1,⟨94,1,true,[.val (tVw fs)]⟩)] [.val (tI d),.own (.ptr 1 0)] (.val (tT [tFr (fr (ftV fs d)),tB (heldQ fs d 8)])) [(1,⟨94,1,true,[.val (tVw fs)]⟩)] []:=by
 refine CtG.intro [1] Tryz.func120 rfl Tryz.ntmps120 rfl rfl ⟨⟨rfl,(SupX.lit rfl)⟩,trivial⟩ ?_
 intro w F η
 refine A2 ?_
 refine RE (xa1 (k:=3) (n:=4) (agg:=true) zr30.1 zr30.2 rfl) trivial trivial ⟨rfl,trivial⟩ ?_
 refine A7 ?_
 refine R3 (x3 (c_sumPartof fs hF d hs) fi121 rfl) rfl rfl rfl ?_
 refine A3 ?_
 refine RE (xa1 (k:=5) (n:=4) (agg:=true) zr30.1 zr30.2 rfl) trivial trivial ⟨rfl,trivial⟩ ?_
 refine A7 ?_
 refine R1 (x3 (xk7 1 (by decide) (by decide)) fi91 rfl) rfl (RE (xa1 (k:=7) (n:=4) (agg:=true) zr30.1 zr30.2 rfl) trivial trivial ⟨rfl,trivial⟩ ?_)
 refine A7 ?_
 refine RGcase (t:=16) rfl (fun h146=> ?_) (fun h146=> ?_)
 ·
  refine A2 ?_
  refine RGon h146 rfl (x3 (c_FCmp (sumQ partE fs d 8) ((1:Int):Rat) (hs.all 8 (by decide)) short_1) fi34 rfl) rfl ⟨rfl,rfl,trivial⟩ trivial trivial ?_
  refine A4 ?_
  refine x5 rfl (fun h146_2=> ?_) (fun h146_2=> ?_)
  ·
   refine A14 ?_
   exact xm4 LentC.mk' (rs:=[.cell 3 30,.tmp 4]) rfl rfl ⟨⟨_,_,_,_,_,rfl,rfl,ti30,(Le.of (by rw [ftV_big h146 (by omega)]))⟩,⟨_,rfl,Le.refl⟩,trivial⟩ ⟨rfl,trivial⟩ ⟨⟨rfl,(SupX.lit rfl)⟩,trivial⟩ rfl
  ·
   refine A11 ?_
   exact xm4 LentC.mk' (rs:=[.cell 3 30,.tmp 4]) rfl rfl ⟨⟨_,_,_,_,_,rfl,rfl,ti30,(Le.of (by rw [ftV_small h146 (by omega)]))⟩,⟨_,rfl,Le.refl⟩,trivial⟩ ⟨rfl,trivial⟩ ⟨⟨rfl,(SupX.lit rfl)⟩,trivial⟩ rfl
 ·
  refine A18 ?_
  refine A1 ?_
  exact xm4 LentC.mk' (rs:=[.cell 3 30,.tmp 4]) rfl rfl ⟨⟨_,_,_,_,_,rfl,rfl,ti30,(Le.of (by rw [ftV_none h146]))⟩,⟨_,rfl,Le.refl⟩,trivial⟩ ⟨rfl,trivial⟩ ⟨⟨rfl,(SupX.lit rfl)⟩,trivial⟩ rfl
theorem c_fte (fs:List Ev) (hF:fs.length≤100) (hc:calE fs) (hs: ∀d,SumOk partE fs d):
  Ct Tryz.prog 79 [tVw fs] (tL 8 true tTs (mT 1 fs)):=by
 refine Ct.intro Tryz.func79 rfl Tryz.ntmps79 rfl ?_
 intro w F
 refine A9 ?_
 refine R1 (x3 (c_days fs hF) fi119 rfl) rfl (R1 (xf3 (ps:=[.ptr 1 0]) rfl) rfl (RE (xa5 (fun _=>1) (c_stepsOne (dyF fs) (kD_pw2 (K:=1) hc) (by have:=dyF_len (fs:=fs);omega) fs 2 120 (fun d=>ftV fs d) fi120 fun d=>c_fte1 fs hF d (hs d)) fi118 rfl (krC (ρ:=fun _=>1) (k:=101) rfl (krN (ρ:=fun _=>1))) (krC (ρ:=fun _=>1) (k:=101) rfl (krN (ρ:=fun _=>1))) ⟨⟨rfl,(SupX.lit rfl)⟩,trivial⟩ rfl) ⟨rfl,rfl,rfl,trivial⟩ ⟨rfl,trivial⟩ trivial ?_))
 refine A4 ?_
 exact x4 Plain.mk' rfl rfl (Le.of (congrArg (fun t=>tL 8 true tTs t) (stG_mT (K:=1) (stG_fte fs) rfl)))
theorem c_pay1 (fs:List Ev) (hF:fs.length≤100) (d:Int) (hs:SumOk payE fs d):
  CtG Tryz.prog 123 [(1,⟨94,1,true,[.val (tVw fs)]⟩)] [.val (tI d),.own (.ptr 1 0)] (.val (tT [tFr (fr (sumQ payE fs d 8)),tB (heldQ fs d 8)])) [(1,⟨94,1,true,[.val (tVw fs)]⟩)] []:=by
 refine CtG.intro [1] Tryz.func123 rfl Tryz.ntmps123 rfl rfl ⟨⟨rfl,(SupX.lit rfl)⟩,trivial⟩ ?_
 intro w F η
 refine A2 ?_
 refine RE (xa1 (k:=3) (n:=4) (agg:=true) zr30.1 zr30.2 rfl) trivial trivial ⟨rfl,trivial⟩ ?_
 refine A7 ?_
 refine R3 (x3 (c_sumPayof fs hF d hs) fi121 rfl) rfl rfl rfl ?_
 refine A7 ?_
 exact xm4 LentC.mk' (rs:=[.cell 3 30,.tmp 4]) rfl rfl ⟨⟨_,_,_,_,_,rfl,rfl,ti30,Le.refl⟩,⟨_,rfl,Le.refl⟩,trivial⟩ ⟨rfl,trivial⟩ ⟨⟨rfl,(SupX.lit rfl)⟩,trivial⟩ rfl
theorem c_pay (fs:List Ev) (hF:fs.length≤100) (hc:calE fs) (hs: ∀d,SumOk payE fs d):
  Ct Tryz.prog 80 [tVw fs] (tL 8 true tTs (mT 2 fs)):=by
 refine Ct.intro Tryz.func80 rfl Tryz.ntmps80 rfl ?_
 intro w F
 refine A9 ?_
 refine R1 (x3 (c_days fs hF) fi119 rfl) rfl (R1 (xf3 (ps:=[.ptr 1 0]) rfl) rfl (RE (xa5 (fun _=>1) (c_stepsOne (dyF fs) (kD_pw2 (K:=2) hc) (by have:=dyF_len (fs:=fs);omega) fs 3 123 (fun d=>sumQ payE fs d 8) fi123 fun d=>c_pay1 fs hF d (hs d)) fi118 rfl (krC (ρ:=fun _=>1) (k:=101) rfl (krN (ρ:=fun _=>1))) (krC (ρ:=fun _=>1) (k:=101) rfl (krN (ρ:=fun _=>1))) ⟨⟨rfl,(SupX.lit rfl)⟩,trivial⟩ rfl) ⟨rfl,rfl,rfl,trivial⟩ ⟨rfl,trivial⟩ trivial ?_))
 refine A4 ?_
 exact x4 Plain.mk' rfl rfl (Le.of (congrArg (fun t=>tL 8 true tTs t) (stG_mT (K:=2) (stG_pay fs) rfl)))
end An.S
namespace An.S
open Go
section
variable {α β:Type} [DecidableEq α]
theorem getI_succ {a:α}: ∀{l:List (α×β)} {i:Nat},getI a (i+1) l=(getI a i l).map fun x=>(x.1+1,x.2)
 | [],_=>rfl
 | p::r,i=>by
  rw [getI,getI]
  split
  ·rfl
  ·exact getI_succ
theorem xt4 {z:β} {p:α×β} {r:List (α×β)} {a:α}:entV z (p::r) a=if a=p.1 then p.2 else entV z r a:=by
 rw [entV,getI]
 split
 ·rfl
 ·rw [getI_succ,Option.map_map];rfl
theorem putM_cons {p:α×β} {r:List (α×β)} {a:α} {v:β}:putM (p::r) a v=if a=p.1 then (a,v)::r else p::putM r a v:=by
 by_cases h:a=p.1
 ·simp [putM,getI,h]
 ·rw [if_neg h,putM,putM,getI,if_neg h,getI_succ]
  cases getI a 0 r with
  | none=>rfl
  | some x=>rfl
theorem ent_putG {z v:β} {a b:α}: ∀{l:List (α×β)},entV z (putM l a v) b=if a=b then v else entV z l b
 | []=>by
  show entV z [(a,v)] b=_
  rw [xt4]
  by_cases h:a=b
  ·rw [if_pos h.symm,if_pos h]
  ·rw [if_neg (fun h'=>h h'.symm),if_neg h]
 | p::r=>by
  rw [putM_cons]
  by_cases h:a=p.1
  ·rw [if_pos h,xt4,xt4]
   by_cases h2:a=b
   ·rw [if_pos h2.symm,if_pos h2]
   ·rw [if_neg (fun h'=>h2 h'.symm),if_neg h2,if_neg (fun h':b=p.1=>h2 (h.trans h'.symm))]
  ·rw [if_neg h,xt4,xt4,ent_putG]
   by_cases h2:b=p.1
   ·rw [if_pos h2,if_pos h2,if_neg (fun h'=>h (h'.trans h2))]
   ·rw [if_neg h2,if_neg h2]
end
theorem kGet_add {m:List (ByteArray×Nat)} {f:Fa} {key:ByteArray}:kGet (kAdd m f) key=if f.key=key then max (kGet m f.key) f.v.kind else kGet m key:=ent_putG
theorem kM_app {a:List Fa} {f:Fa} {key:ByteArray}:kGet (kM (a++[f])) key=if f.key=key then max (kGet (kM a) f.key) f.v.kind else kGet (kM a) key:=by
 rw [kM,List.foldl_append];exact kGet_add
section
variable {D B:Int} {a:List Fa} {f:Fa} {key:ByteArray}
end
theorem segL_congr {g h:Int→Option Va}: ∀{ds:List Int},(∀x∈ds,g x=h x)→segL g ds=segL h ds
 | [],_=>rfl
 | [_],_=>rfl
 | x::y::r,he=>by rw [segL,segL,he x (List.mem_cons_self ..),segL_congr (ds:=y::r) fun z hz=>he z (List.mem_cons_of_mem _ hz)]
section
variable {D B:Int} {T:List Fa}
end
end An.S
namespace An
open Go An.S
def toC (e:Ev):EvC:=if h:0≤e.day∧e.day≤65536 then ⟨e,h⟩ else evc0
theorem toC_val {e:Ev} (h:0≤e.day∧e.day≤65536):(toC e).1=e:=by rw [toC,dif_pos h]
theorem toC_map: ∀{l:List Ev},(∀e∈l,0≤e.day∧e.day≤65536)→(l.map toC).map (fun e=>e.1)=l
 | [],_=>rfl
 | e::r,h=>by
  rw [List.map_cons,List.map_cons,toC_val (h e (List.mem_cons_self ..)),toC_map fun x hx=>h x (List.mem_cons_of_mem _ hx)]
theorem rV_toC {l:List Ev} (h: ∀e∈l,0≤e.day∧e.day≤65536):rV tEv l=rV tEvC (l.map toC):=by
 have e:=toC_map h
 calc rV tEv l=rV tEv ((l.map toC).map fun e=>e.1):=by rw [e]
  _=rV tEvC (l.map toC):=by rw [rV,rV,List.map_map];rfl
def crF (F:List Ev):List Ev:=F.filter fun e=>decide (e.knd=6)
def crC (F:List Ev):List EvC:=ssort kfD ((crF F).map toC)
theorem crC_len {F:List Ev}:(crC F).length=(crF F).length:=by rw [crC,xp5,List.length_map]
theorem crC_mem {F:List Ev} (h:calE F) {e:EvC} (he:e∈crC F):e.1∈F∧e.1.knd=6:=by
 obtain ⟨x,hx,rfl⟩:=List.mem_map.1 (ssort_mem.1 he)
 obtain ⟨h1,h2⟩:=List.mem_filter.1 hx
 have:=(h x h1).1
 rw [toC_val (by omega)]
 exact ⟨h1,of_decide_eq_true h2⟩
def upC (cs:List EvC) (d:Int):Nat:=(cs.takeWhile fun e=>decide (e.1.day≤d)).length
def crS (cs:List EvC) (n:Nat):Rat:=(cs.take n).foldl (fun q e=>q+e.1.part.rat) ((0:Int):Rat)
theorem upC_le {cs:List EvC} {d:Int}:upC cs d≤cs.length:=(List.takeWhile_sublist _).length_le
theorem upC_lt {d:Int}: ∀{cs:List EvC} {i:Nat},i < upC cs d→(cs.getD i evc0).1.day≤d
 | [],i,h=>by simp [upC] at h
 | e::r,i,h=>by
  rw [upC,List.takeWhile_cons] at h
  split at h
  ·rename_i hd
   match i,h with
   | 0,_=>exact of_decide_eq_true hd
   | i+1,h=>
    have:=upC_lt (d:=d) (cs:=r) (i:=i) (by simpa [upC] using h)
    simpa using this
  ·simp at h
theorem upC_at {d:Int}: ∀{cs:List EvC},upC cs d < cs.length→d < (cs.getD (upC cs d) evc0).1.day
 | [],h=>by simp at h
 | e::r,h=>by
  rw [upC,List.takeWhile_cons] at h ⊢
  split at h
  ·rename_i hd
   rw [if_pos hd]
   have:=upC_at (d:=d) (cs:=r) (by simpa [upC] using h)
   simpa [upC] using this
  ·rename_i hd
   rw [if_neg hd]
   have: ¬e.1.day≤d:=fun hh=>hd (decide_eq_true hh)
   simp;omega
theorem upC_mono {cs:List EvC} {d d':Int} (h:d≤d'):upC cs d≤upC cs d':=by
 rcases Nat.lt_or_ge (upC cs d') (upC cs d) with c | c
 ·have h1:=upC_lt c
  have h2:=upC_at (cs:=cs) (d:=d') (Nat.lt_of_lt_of_le c upC_le)
  omega
 ·exact c
theorem crS_next {cs:List EvC} {n:Nat} (h:n < cs.length):crS cs (n+1)=crS cs n+(cs.getD n evc0).1.part.rat:=by
 rw [crS,List.take_succ_eq_append_getElem h,List.foldl_append,List.getD_eq_getElem?_getD,List.getElem?_eq_getElem h];rfl
def nxC (cs:List EvC) (ds:List Int) (k:Nat):Nat:=if k=0 then 0 else upC cs (ds.getD (k - 1) 0)
theorem nxC_le {cs:List EvC} {ds:List Int} (h:ds.Pairwise (· < ·)) {k:Nat} (hk:k < ds.length):nxC cs ds k≤upC cs (ds.getD k 0):=by
 rw [nxC]
 split
 ·exact Nat.zero_le _
 ·exact upC_mono (Int.le_of_lt (pw_lt h (by omega) hk))
theorem xn4 {cs:List EvC} {ds:List Int} {k:Nat}:nxC cs ds (k+1)=upC cs (ds.getD k 0):=by rw [nxC,if_neg (by omega)];rfl
structure CrOk (cs:List EvC):Prop where
  one: ∀e∈cs,e.1.part=fr e.1.part.rat∧short e.1.part.rat
  all: ∀n,n≤cs.length→short (crS cs n)
theorem take_up {cs:List EvC} (h:Srt kfD cs) (d:Int):cs.take (upC cs d)=cs.filter fun e=>decide (e.1.day≤d):=by
 induction cs with
 | nil=>rfl
 | cons e r ih=>
  have hp:=List.pairwise_cons.1 h
  rw [upC,List.takeWhile_cons,List.filter_cons]
  by_cases hd:e.1.day≤d
  ·rw [if_pos (decide_eq_true hd),if_pos (decide_eq_true hd),List.length_cons,List.take_succ_cons,←ih hp.2];rfl
  ·rw [if_neg (fun hh=>hd (of_decide_eq_true hh)),if_neg (fun hh=>hd (of_decide_eq_true hh))]
   symm
   refine List.filter_eq_nil_iff.2 fun x hx hh=> ?_
   have h1:e.1.day≤x.1.day:=hp.1 x hx
   have h2:=of_decide_eq_true hh
   omega
theorem fold_perm {xs ys:List Ev} (h:xs.Perm ys) (a:Rat):xs.foldl (fun q e=>q+e.part.rat) a=ys.foldl (fun q e=>q+e.part.rat) a:=by
 induction h generalizing a with
 | nil=>rfl
 | cons x _ ih=>exact ih _
 | swap x y l=>rw [List.foldl_cons,List.foldl_cons,List.foldl_cons,List.foldl_cons,Rat.add_assoc,Rat.add_assoc,Rat.add_comm x.part.rat]
 | trans _ _ ih1 ih2=>rw [ih1,ih2]
theorem fold_map: ∀(xs:List EvC) (a:Rat),xs.foldl (fun q e=>q+e.1.part.rat) a=(xs.map fun e=>e.1).foldl (fun q e=>q+e.part.rat) a
 | [],_=>rfl
 | _::xs,_=>fold_map xs _
theorem insS_perm {α:Type} {k:α→Int} {x:α}: ∀l:List α,(insS k x l).Perm (x::l)
 | []=> .refl _
 | y::r=>by
  rw [insS]
  split
  ·exact .refl _
  ·exact ((insS_perm r).cons y).trans (.swap x y r)
theorem ssort_perm2 {α:Type} {k:α→Int}: ∀l:List α,(ssort k l).Perm l
 | []=> .refl _
 | x::r=>by rw [ssort];exact (insS_perm _).trans ((ssort_perm2 r).cons x)
theorem flt_val {d:Int}: ∀l:List EvC,(l.filter fun e=>decide (e.1.day≤d)).map (fun e:EvC=>e.1)=(l.map fun e:EvC=>e.1).filter fun e=>decide (e.day≤d)
 | []=>rfl
 | x::r=>by
  rw [List.filter_cons,List.map_cons,List.filter_cons]
  split
  ·rw [List.map_cons,flt_val r]
  ·exact flt_val r
theorem crS_is {F:List Ev} (h:calE F) (d:Int):crS (crC F) (upC (crC F) d)=(crdL F d).foldl (fun q e=>q+e.part.rat) ((0:Int):Rat):=by
 rw [crS,take_up (by rw [crC];exact xt2 _),fold_map]
 refine fold_perm ?_ _
 have hc: ∀e∈crF F,0≤e.day∧e.day≤65536:=fun e he=>by
  have:=(h e (List.mem_filter.1 he).1).1;omega
 have h1:(crC F).Perm ((crF F).map toC):=by rw [crC];exact ssort_perm2 _
 have h2:=(h1.filter fun e=>decide (e.1.day≤d)).map fun e:EvC=>e.1
 refine h2.trans ?_
 rw [flt_val,toC_map hc,crF,List.filter_filter,crdL]
 refine List.Perm.of_eq (List.filter_congr fun e _=> ?_)
 rw [Bool.and_comm]
theorem crC_days {F:List Ev} (h:calE F) (x:Int):x∈(crC F).map (fun e=>e.1.day)↔x∈(crF F).map (·.day):=by
 have hc: ∀e∈crF F,0≤e.day∧e.day≤65536:=fun e he=>by
  have:=(h e (List.mem_filter.1 he).1).1;omega
 rw [List.mem_map,List.mem_map]
 constructor
 ·rintro ⟨e,he,rfl⟩
  obtain ⟨y,hy,rfl⟩:=List.mem_map.1 (ssort_mem.1 he)
  exact ⟨y,hy,by rw [toC_val (hc y hy)]⟩
 ·rintro ⟨y,hy,rfl⟩
  exact ⟨toC y,ssort_mem.2 (List.mem_map.2 ⟨y,hy,rfl⟩),by rw [toC_val (hc y hy)]⟩
theorem crd_mT {F:List Ev} (h:calE F):pst [] (segL (stG (fun _=>true) (fun d=>crS (crC F) (upC (crC F) d)) 2) (dyC F++[65536]))=mT 0 F:=by
 rw [mT]
 show _=pst [] (segL (kG 0 F) (dyC F++[65536]))
 by_cases hn:dyC F=[]
 ·rw [hn];rfl
 ·have hsome: ∃e∈F,e.knd=6:=by
   obtain ⟨x,hx⟩:=List.exists_mem_of_ne_nil _ hn
   obtain ⟨e,he,hk,_⟩:=dyC_mem.1 hx
   exact ⟨e,he,hk⟩
  congr 1
  refine segL_congr fun x hx=> ?_
  show some (⟨2,fr (crS (crC F) (upC (crC F) x)),0⟩:Va)=(crdQ F x).map fun q=>(⟨kK 0,fr q,0⟩:Va)
  have hne: ∃e,e∈crdL F x:=by
   rcases List.mem_append.1 hx with h1 | h1
   ·obtain ⟨e,he,hk,rfl⟩:=dyC_mem.1 h1
    exact ⟨e,List.mem_filter.2 ⟨he,by simp [hk]⟩⟩
   ·obtain ⟨e,he,hk⟩:=hsome
    have:=(h e he).1
    rw [List.mem_singleton.1 h1]
    exact ⟨e,List.mem_filter.2 ⟨he,by simp [hk];omega⟩⟩
  obtain ⟨e,he⟩:=hne
  rw [crdQ,if_neg (fun hh=>by rw [List.isEmpty_iff.1 hh] at he;cases he),crS_is h];rfl
theorem crOk_of {D B:Int} {F:List Ev} (h:calE F) (hg:gE D B F) (hD:0 < D) (hDb:D≤9223372036854775807) (hB:0≤B) (hBb:B≤92233720368547758) (hl:F.length≤100):CrOk (crC F) where
 one:=fun e he=>by
  obtain ⟨h1,h2⟩:=crC_mem h he
  obtain ⟨k,hk,e2⟩:=(hg e.1 h1).1 (by rw [h2];rfl)
  rw [e2,rat_fr]
  exact ⟨rfl,xp1 hD (by omega) (by omega) hDb⟩
 all:=fun n hn=>by
  have key: ∀n:Nat,n≤(crC F).length→ ∃k:Int,(0≤k∧k≤(n:Int)*B)∧crS (crC F) n=Rat.divInt k D:=fun n=>by
   induction n with
   | zero=>exact fun _=>⟨0,⟨by omega,by simp⟩,by rw [Rat.zero_divInt];rfl⟩
   | succ n ih=>
    intro hn
    obtain ⟨k,⟨h1,h2⟩,h3⟩:=ih (by omega)
    have hm:(crC F).getD n evc0∈crC F:=by
     rw [List.getD_eq_getElem?_getD,List.getElem?_eq_getElem (by omega)];exact List.getElem_mem _
    obtain ⟨g1,g2⟩:=crC_mem h hm
    obtain ⟨j,⟨j1,j2⟩,j3⟩:=((hg _ g1).1 (by rw [g2];rfl)).rat
    refine ⟨k+j,⟨by omega,?_⟩,by rw [crS_next (by omega),h3,j3,addG hD]⟩
    rw [show ((n+1:Nat):Int)=(n:Int)+1 by omega,Int.add_mul,Int.one_mul];omega
  obtain ⟨k,⟨h1,h2⟩,h3⟩:=key n hn
  have hlen:(crC F).length≤100:=by
   rw [crC_len,crF];exact Nat.le_trans (List.length_filter_le ..) hl
  have hk:k≤100*B:=Int.le_trans h2 (Int.mul_le_mul_of_nonneg_right (by omega) hB)
  rw [h3];exact xp1 hD (by omega) (by omega) hDb
theorem sumOk_part {D B:Int} {F:List Ev} (hg:gE D B F) (hD:0 < D) (hDb:D≤9223372036854775807) (hB:0≤B) (hBb:B≤92233720368547758) (d:Int):(∀h,h∈F→h.knd=1→partE F h d=fr (partE F h d).rat∧short (partE F h d).rat)∧ ∀n,n≤8→short (sumQ partE F d n):=by
 refine ⟨fun h hm hk=> ?_,fun n hn=> ?_⟩
 ·obtain ⟨k,hk2,e⟩:=part_B hg hB hm hk d
  rw [e,rat_fr];exact ⟨rfl,xp1 hD (by omega) (by omega) hDb⟩
 ·obtain ⟨k,⟨h1,h2⟩,e⟩:=sumQ_B (f:=partE) hD hB (F:=F) (d:=d) (fun g hm hk=>part_B hg hB hm hk d) n
  have:k≤8*B:=Int.le_trans h2 (Int.mul_le_mul_of_nonneg_right (by omega) hB)
  rw [e];exact xp1 hD (by omega) (by omega) hDb
theorem sumOk_pay {D B:Int} {F:List Ev} (hg:gE D B F) (hD:0 < D) (hDb:D≤9223372036854775807) (hB:0≤B) (hBb:B≤92233720368547758) (d:Int):(∀h,h∈F→h.knd=1→payE F h d=fr (payE F h d).rat∧short (payE F h d).rat)∧ ∀n,n≤8→short (sumQ payE F d n):=by
 refine ⟨fun h hm hk=> ?_,fun n hn=> ?_⟩
 ·obtain ⟨k,hk2,e⟩:=pay_B hg hB hm hk d
  rw [e,rat_fr];exact ⟨rfl,xp1 hD (by omega) (by omega) hDb⟩
 ·obtain ⟨k,⟨h1,h2⟩,e⟩:=sumQ_B (f:=payE) hD hB (F:=F) (d:=d) (fun g hm hk=>pay_B hg hB hm hk d) n
  have:k≤8*B:=Int.le_trans h2 (Int.mul_le_mul_of_nonneg_right (by omega) hB)
  rw [e];exact xp1 hD (by omega) (by omega) hDb
end An
namespace An.S
open Go Go.Proofs An
instance fi126:FnI Tryz.prog 126:=⟨_,Tryz.func126,by kernel_rfl,rfl⟩
instance fi168:FnI Tryz.prog 168:=⟨_,Tryz.func168,by kernel_rfl,rfl⟩
instance fi195:FnI Tryz.prog 195:=⟨_,Tryz.func195,by kernel_rfl,rfl⟩
instance fi196:FnI Tryz.prog 196:=⟨_,Tryz.func196,by kernel_rfl,rfl⟩
instance fi214:FnI Tryz.prog 214:=⟨_,Tryz.func214,by kernel_rfl,rfl⟩
instance fi222:FnI Tryz.prog 222:=⟨_,Tryz.func222,by kernel_rfl,rfl⟩
theorem sbI_lt {x y:EvC}:x.1.day - y.1.day < 0↔kfD x < kfD y:=by rw [kfD,kfD];omega
theorem c_credit1 (x y:EvC):
  Ct Tryz.prog 126 [tEvC x,tEvC y] (tI (x.1.day - y.1.day)):=by
 have hx:=x.2
 have hy:=y.2
 refine Ct.intro Tryz.func126 rfl Tryz.ntmps126 rfl ?_
 intro w F
 refine A18 ?_
 exact x4 Plain.mk' rfl rfl Le.refl
theorem c_swapRE (xs:List EvC) {L:Nat} (eL:xs.length=L) (a b n:Nat) {x y u:Int} (ex:x=(a:Int)) (ey:y=(b:Int)) (eu:u=(n:Int)) (h1:a+n≤b) (h2:b+n≤xs.length) (hx:xs.length≤1000000):
  CtG Tryz.prog 222 [(20,⟨32,14,true,rV tEvC xs⟩)] [.own (.sl 20 14 0 L),.val (tI x),.val (tI y),.val (tI u),.val (tE (.func (.func 126) #[] #[]))] (.val (tT [])) [(20,⟨32,14,true,rV tEvC (swpR evc0 a b n xs)⟩)] []:=by
 subst ex ey eu eL
 refine CtG.intro [20] Tryz.func222 rfl Tryz.ntmps222 rfl rfl ⟨⟨rfl,x9⟩,trivial⟩ ?_
 intro w F η
 refine A6 ?_
 refine cL (fun (i:Nat)=>i≤n) (fun (i:Nat)=>upd (upd (upd (upd (upd (fun _=>none) 0 (some (.own (.sl 20 14 0 xs.length)))) 1 (some (.val (tI a)))) 2 (some (.val (tI b)))) 3 (some (.val (tI n)))) 10 (some (.val (tI i)))) (fun (i:Nat)=>upd (fun _=>none) 20 (some (⟨32,14,true,rV tEvC (swpR evc0 a b i xs)⟩))) [20] (fun (i:Nat)=>n - i) (0) (Nat.zero_le _) (hh:=((SubK.consI rfl (ImpK.of (by rw [swp_zero]))) SubK.nil)) ?_
 intro i hI
 refine A8 ?_
 refine x5 rfl (fun h330=> ?_) (fun h330=> ?_)
 ·
  refine A17 ?_
  refine R2 (x7 sl24 (by omega) (by omega) rfl) rfl rfl (RE (xa6 (b+i) ti32 (xa8 (f:=tEvC) (xs:=(swpR evc0 a b i xs)) (d:=evc0) (by rw [xe1];omega)) (by omega)) ⟨rfl,trivial⟩ ⟨rfl,trivial⟩ trivial ?_)
  refine A4 ?_
  refine R2 (x7 sl24 (by omega) (by omega) rfl) rfl rfl (RE (xa6 (a+i) ti32 (xa8 (f:=tEvC) (xs:=(swpR evc0 a b i xs)) (d:=evc0) (by rw [xe1];omega)) (by omega)) ⟨rfl,trivial⟩ ⟨rfl,trivial⟩ trivial (R2 (x7 sl24 (by omega) (by omega) rfl) rfl rfl (RE (xb2 (a+i) ti32 (xh8 (by rw [xe1];omega)) (by omega) (xe6 (m:=((swpR evc0 a b i xs).getD (b+i) evc0)) rfl)) ⟨rfl,rfl,trivial⟩ ⟨rfl,trivial⟩ trivial (R2 (x7 sl24 (by omega) (by omega) rfl) rfl rfl (RE (xb2 (b+i) ti32 (xh8 (by rw [List.length_set,xe1];omega)) (by omega) (xe6 (m:=((swpR evc0 a b i xs).getD (a+i) evc0)) rfl)) ⟨rfl,rfl,trivial⟩ ⟨rfl,trivial⟩ trivial ?_)))))
  refine A8 ?_
  exact kF (i+1) ⟨(by omega),(by omega)⟩ (hh:=((SubK.consI rfl (ImpK.of (by rw [(swp_same (d:=evc0) (a:=a) (b:=b) (n:=i) (xs:=xs) (by omega) (by omega)).1,(swp_same (d:=evc0) (a:=a) (b:=b) (n:=i) (xs:=xs) (by omega) (by omega)).2,swp_next (by omega) (by omega)]))) SubK.nil))
 ·
  refine A4 ?_
  exact xe7 LentC.mk' rfl (.inr rfl) ⟨(congrArg some (show (⟨32,14,true,rV tEvC (swpR evc0 a b i xs)⟩:HEnt)=⟨32,14,true,rV tEvC (swpR evc0 a b n xs)⟩ by rw [show i=n by omega])),trivial⟩ ⟨⟨rfl,x9⟩,trivial⟩ rfl
theorem c_rotateE (xs:List EvC) {L:Nat} (eL:xs.length=L) (a m b:Nat) {x y u:Int} (ex:x=(a:Int)) (ey:y=(m:Int)) (eu:u=(b:Int)) (h1:a < m) (h2:m < b) (h3:b≤xs.length) (hx:xs.length≤1000000):
  CtG Tryz.prog 214 [(20,⟨32,14,true,rV tEvC xs⟩)] [.own (.sl 20 14 0 L),.val (tI x),.val (tI y),.val (tI u),.val (tE (.func (.func 126) #[] #[]))] (.val (tT [])) [(20,⟨32,14,true,rV tEvC (rotR a m b xs)⟩)] []:=by
 subst ex ey eu eL
 refine CtG.intro [20] Tryz.func214 rfl Tryz.ntmps214 rfl rfl ⟨⟨rfl,x9⟩,trivial⟩ ?_
 intro w F η
 refine A18 ?_
 refine cL (fun (fm:(List EvC)×(Nat)×(Nat))=>(fun (ys:List EvC) (i:Nat) (j:Nat)=>ys.length=xs.length∧0 < i∧0 < j∧i≤m∧m+j≤b∧rotR (m - i) m (m+j) ys=rotR a m b xs) fm.1 fm.2.1 fm.2.2) (fun (fm:(List EvC)×(Nat)×(Nat))=>(fun (ys:List EvC) (i:Nat) (j:Nat)=>upd (upd (upd (upd (upd (fun _=>none) 0 (some (.own (.sl 20 14 0 xs.length)))) 2 (some (.val (tI m)))) 4 (some (.val (tE (.func (.func 126) #[] #[]))))) 10 (some (.val (tI i)))) 11 (some (.val (tI j)))) fm.1 fm.2.1 fm.2.2) (fun (fm:(List EvC)×(Nat)×(Nat))=>(fun (ys:List EvC) (i:Nat) (j:Nat)=>upd (fun _=>none) 20 (some (⟨32,14,true,rV tEvC ys⟩))) fm.1 fm.2.1 fm.2.2) [20] (fun (fm:(List EvC)×(Nat)×(Nat))=>(fun (ys:List EvC) (i:Nat) (j:Nat)=>i+j) fm.1 fm.2.1 fm.2.2) ((xs,m - a,b - m)) (by dsimp only;exact ⟨rfl,by omega,by omega,by omega,by omega,by rw [show m - (m - a)=a by omega,show m+(b - m)=b by omega]⟩) (hg:=((Sub.consI rfl (Imp.int (by dsimp only;omega))) ((Sub.consI rfl (Imp.int (by dsimp only;omega))) (sC (sI (sC Sub.nil)))))) (hh:=((SubK.consI rfl ImpK.refl) SubK.nil)) ?_
 intro fm hI
 obtain ⟨ys,i,j⟩:=fm
 replace hI:ys.length=xs.length∧0 < i∧0 < j∧i≤m∧m+j≤b∧rotR (m - i) m (m+j) ys=rotR a m b xs:=hI
 show wc _ _ _ _ (upd (upd (upd (upd (upd (fun _=>none) 0 (some (.own (.sl 20 14 0 xs.length)))) 2 (some (.val (tI m)))) 4 (some (.val (tE (.func (.func 126) #[] #[]))))) 10 (some (.val (tI i)))) 11 (some (.val (tI j)))) (upd (fun _=>none) 20 (some (⟨32,14,true,rV tEvC ys⟩))) _
 obtain ⟨hl,hi,hj,him,hjb,hr⟩:=hI
 refine A8 ?_
 refine x5 rfl (fun h468=> ?_) (fun h468=> ?_)
 ·
  refine A10 ?_
  refine x5 rfl (fun h469=> ?_) (fun h469=> ?_)
  ·
   refine A9 ?_
   refine RE (xa5 (fun _=>20) (c_swapRE ys hl (m - i) m j (by omega) rfl rfl (by omega) (by omega) (by omega)) fi222 rfl (krC (ρ:=fun _=>20) (k:=20) xa2 (krN (ρ:=fun _=>20))) (krC (ρ:=fun _=>20) (k:=20) xa2 (krN (ρ:=fun _=>20))) ⟨⟨rfl,x9⟩,trivial⟩ rfl) ⟨rfl,rfl,rfl,rfl,rfl,trivial⟩ ⟨rfl,trivial⟩ trivial ?_
   refine A9 ?_
   exact kF ((swpR evc0 (m - i) m j ys,i - j,j)) ⟨(by dsimp only;exact ⟨by rw [xe1,hl],by omega,hj,by omega,hjb,by rw [rot_left him (by omega) (by omega),hr]⟩),(by dsimp only;omega)⟩ (hg:=(sI ((Sub.consI rfl (Imp.int (by dsimp only;omega))) (sC (sI (sC Sub.nil)))))) (hh:=((SubK.consI rfl ImpK.refl) SubK.nil))
  ·
   refine A13 ?_
   refine RE (xa5 (fun _=>20) (c_swapRE ys hl (m - i) (m+j - i) i (by omega) (by omega) rfl (by omega) (by omega) (by omega)) fi222 rfl (krC (ρ:=fun _=>20) (k:=20) xa2 (krN (ρ:=fun _=>20))) (krC (ρ:=fun _=>20) (k:=20) xa2 (krN (ρ:=fun _=>20))) ⟨⟨rfl,x9⟩,trivial⟩ rfl) ⟨rfl,rfl,rfl,rfl,rfl,trivial⟩ ⟨rfl,trivial⟩ trivial ?_
   refine A9 ?_
   exact kF ((swpR evc0 (m - i) (m+j - i) i ys,i,j - i)) ⟨(by dsimp only;exact ⟨by rw [xe1,hl],hi,by omega,him,by omega,by rw [rot_right him (by omega) (by omega),hr]⟩),(by dsimp only;omega)⟩ (hg:=((Sub.consI rfl (Imp.int (by dsimp only;omega))) (sI (sC (sI (sC Sub.nil)))))) (hh:=((SubK.consI rfl ImpK.refl) SubK.nil))
 ·
  refine A13 ?_
  refine RE (xa5 (fun _=>20) (c_swapRE ys hl (m - i) m i (by omega) rfl rfl (by omega) (by omega) (by omega)) fi222 rfl (krC (ρ:=fun _=>20) (k:=20) xa2 (krN (ρ:=fun _=>20))) (krC (ρ:=fun _=>20) (k:=20) xa2 (krN (ρ:=fun _=>20))) ⟨⟨rfl,x9⟩,trivial⟩ rfl) ⟨rfl,rfl,rfl,rfl,rfl,trivial⟩ ⟨rfl,trivial⟩ trivial ?_
  refine A1 ?_
  exact xe7 LentC.mk' rfl (.inr rfl) ⟨(congrArg some (show (⟨32,14,true,rV tEvC (swpR evc0 (m - i) m i ys)⟩:HEnt)=⟨32,14,true,rV tEvC (rotR a m b xs)⟩ by rw [←hr,show j=i by omega,rot_same him (by omega)])),trivial⟩ ⟨⟨rfl,x9⟩,trivial⟩ rfl
theorem c_insSortE (xs:List EvC) {L:Nat} (eL:xs.length=L) (a b:Nat) {x y:Int} (ex:x=(a:Int)) (ey:y=(b:Int)) (h1:a≤b) (h2:b≤xs.length) (hx:xs.length≤1000000):
  CtG Tryz.prog 195 [(20,⟨32,14,true,rV tEvC xs⟩)] [.own (.sl 20 14 0 L),.val (tI x),.val (tI y),.val (tE (.func (.func 126) #[] #[]))] (.val (tT [])) [(20,⟨32,14,true,rV tEvC (srtR kfD a b xs)⟩)] []:=by
 subst ex ey eL
 refine CtG.intro [20] Tryz.func195 rfl Tryz.ntmps195 rfl rfl ⟨⟨rfl,x9⟩,trivial⟩ ?_
 intro w F η
 refine A8 ?_
 refine cL (fun (fm:(List EvC)×(Nat))=>(fun (ys:List EvC) (i:Nat)=>ys.length=xs.length∧a < i∧(i≤b∨i=a+1)∧Prt kfD evc0 a b xs ys∧SrtP kfD evc0 a i ys) fm.1 fm.2) (fun (fm:(List EvC)×(Nat))=>(fun (ys:List EvC) (i:Nat)=>upd (upd (upd (upd (upd (fun _=>none) 0 (some (.own (.sl 20 14 0 xs.length)))) 1 (some (.val (tI a)))) 2 (some (.val (tI b)))) 3 (some (.val (tE (.func (.func 126) #[] #[]))))) 8 (some (.val (tI i)))) fm.1 fm.2) (fun (fm:(List EvC)×(Nat))=>(fun (ys:List EvC) (i:Nat)=>upd (fun _=>none) 20 (some (⟨32,14,true,rV tEvC ys⟩))) fm.1 fm.2) [20] (fun (fm:(List EvC)×(Nat))=>(fun (ys:List EvC) (i:Nat)=>b - i) fm.1 fm.2) ((xs,a+1)) (by dsimp only;exact ⟨rfl,by omega,.inr rfl,Prt.refl ..,fun i j g1 g2 g3=>by omega⟩) (hh:=((SubK.consI rfl ImpK.refl) SubK.nil)) ?_
 intro fm hI
 obtain ⟨ys,i⟩:=fm
 replace hI:ys.length=xs.length∧a < i∧(i≤b∨i=a+1)∧Prt kfD evc0 a b xs ys∧SrtP kfD evc0 a i ys:=hI
 show wc _ _ _ _ (upd (upd (upd (upd (upd (fun _=>none) 0 (some (.own (.sl 20 14 0 xs.length)))) 1 (some (.val (tI a)))) 2 (some (.val (tI b)))) 3 (some (.val (tE (.func (.func 126) #[] #[]))))) 8 (some (.val (tI i)))) (upd (fun _=>none) 20 (some (⟨32,14,true,rV tEvC ys⟩))) _
 obtain ⟨hl,hi,hib,hp,hs⟩:=hI
 refine A8 ?_
 refine x5 rfl (fun h11=> ?_) (fun h11=> ?_)
 ·
  refine A11 ?_
  refine cL (fun (fm:(List EvC)×(Nat))=>(fun (zs:List EvC) (j:Nat)=>zs.length=xs.length∧a≤j∧j≤i∧Prt kfD evc0 a b xs zs∧InsP kfD evc0 a i j zs) fm.1 fm.2) (fun (fm:(List EvC)×(Nat))=>(fun (zs:List EvC) (j:Nat)=>upd (upd (upd (upd (upd (upd (fun _=>none) 0 (some (.own (.sl 20 14 0 xs.length)))) 1 (some (.val (tI a)))) 2 (some (.val (tI b)))) 3 (some (.val (tE (.func (.func 126) #[] #[]))))) 8 (some (.val (tI i)))) 9 (some (.val (tI j)))) fm.1 fm.2) (fun (fm:(List EvC)×(Nat))=>(fun (zs:List EvC) (j:Nat)=>upd (fun _=>none) 20 (some (⟨32,14,true,rV tEvC zs⟩))) fm.1 fm.2) [20] (fun (fm:(List EvC)×(Nat))=>(fun (zs:List EvC) (j:Nat)=>j) fm.1 fm.2) ((ys,i)) (by dsimp only;exact ⟨hl,by omega,Nat.le_refl _,hp,ins_begin hs⟩) (hh:=((SubK.consI rfl ImpK.refl) SubK.nil)) ?_
  intro fm hI
  obtain ⟨zs,j⟩:=fm
  replace hI:zs.length=xs.length∧a≤j∧j≤i∧Prt kfD evc0 a b xs zs∧InsP kfD evc0 a i j zs:=hI
  show wc _ _ _ _ (upd (upd (upd (upd (upd (upd (fun _=>none) 0 (some (.own (.sl 20 14 0 xs.length)))) 1 (some (.val (tI a)))) 2 (some (.val (tI b)))) 3 (some (.val (tE (.func (.func 126) #[] #[]))))) 8 (some (.val (tI i)))) 9 (some (.val (tI j)))) (upd (fun _=>none) 20 (some (⟨32,14,true,rV tEvC zs⟩))) _
  obtain ⟨hzl,haj,hji,hzp,hzi⟩:=hI
  refine A7 ?_
  refine RGcaseD (t:=21) rfl (fun h12=> ?_) (fun h12=> ?_)
  ·
   refine A3 ?_
   refine RGon (decide_eq_true h12) rfl (x7 sl24 (by omega) (by omega) rfl) rfl ⟨rfl,rfl,trivial⟩ trivial trivial (RGon (decide_eq_true h12) rfl (xa6 (j) ti32 (xa8 (f:=tEvC) (xs:=zs) (d:=evc0) (by omega)) (by omega)) rfl ⟨rfl,trivial⟩ ⟨rfl,trivial⟩ trivial ?_)
   refine A2 ?_
   refine RGon (decide_eq_true h12) rfl (xe4 (wr64 (by omega) (by omega))) rfl ⟨rfl,rfl,trivial⟩ trivial trivial (RGon (decide_eq_true h12) rfl (x7 sl24 (by omega) (by omega) rfl) rfl ⟨rfl,rfl,trivial⟩ trivial trivial (RGon (decide_eq_true h12) rfl (xa6 (j - 1) ti32 (xa8 (f:=tEvC) (xs:=zs) (d:=evc0) (by omega)) (by omega)) rfl ⟨rfl,trivial⟩ ⟨rfl,trivial⟩ trivial (RGon (decide_eq_true h12) rfl (xe9 (c_credit1 (zs.getD j evc0) (zs.getD (j - 1) evc0)) fi126 rfl) rfl ⟨rfl,rfl,rfl,trivial⟩ trivial trivial ?_)))
   refine A4 ?_
   refine x5 rfl (fun h12_2=> ?_) (fun h12_2=> ?_)
   ·
    refine A13 ?_
    refine R2 (x7 sl24 (by omega) (by omega) rfl) rfl rfl (RE (xa6 (j - 1) ti32 (xa8 (f:=tEvC) (xs:=zs) (d:=evc0) (by omega)) (by omega)) ⟨rfl,trivial⟩ ⟨rfl,trivial⟩ trivial ?_)
    refine A2 ?_
    refine R2 (x7 sl24 (by omega) (by omega) rfl) rfl rfl (RE (xa6 (j) ti32 (xa8 (f:=tEvC) (xs:=zs) (d:=evc0) (by omega)) (by omega)) ⟨rfl,trivial⟩ ⟨rfl,trivial⟩ trivial (R2 (x7 sl24 (by omega) (by omega) rfl) rfl rfl (RE (xb2 (j) ti32 (xh8 (by omega)) (by omega) (xe6 (m:=(zs.getD (j - 1) evc0)) rfl)) ⟨rfl,rfl,trivial⟩ ⟨rfl,trivial⟩ trivial (R2 (x7 sl24 (by omega) (by omega) rfl) rfl rfl (RE (xb2 (j - 1) ti32 (xh8 (by rw [List.length_set];omega)) (by omega) (xe6 (m:=(zs.getD j evc0)) rfl)) ⟨rfl,rfl,trivial⟩ ⟨rfl,trivial⟩ trivial ?_)))))
    refine A8 ?_
    obtain ⟨q,rfl⟩: ∃q,j=q+1:=⟨j - 1,by omega⟩
    have hlt:=sbI_lt.1 h12_2
    rw [show q+1 - 1=q by omega] at*
    have e1:((zs.set (q+1) (zs.getD q evc0)).set q (zs.getD (q+1) evc0))=swp1 evc0 q zs:=by rw [swp1,List.set_comm _ _ (by omega)]
    exact kF ((swp1 evc0 q zs,q)) ⟨(by dsimp only;exact ⟨by rw [swp1_len,hzl],by omega,by omega,hzp.trans (swp1_prt (by omega) (by omega) (by omega) hlt),ins_step hzi (by omega) (by omega) (by omega) hlt⟩),(by dsimp only;omega)⟩ (hg:=((Sub.consI rfl (Imp.int (by dsimp only;omega))) (sI (sC (sI (sI (sC Sub.nil))))))) (hh:=((SubK.consI rfl (ImpK.of (by rw [e1]))) SubK.nil))
   ·
    refine A11 ?_
    exact kF ((zs,i+1)) ⟨(by dsimp only;exact ⟨hzl,by omega,.inl (by omega),hzp,ins_end hzi (by omega) (fun hh=>by first | omega | exact Int.not_lt.1 (fun hc=>h12_2 (sbI_lt.2 hc)))⟩),(by dsimp only;omega)⟩ (hh:=((SubK.consI rfl ImpK.refl) SubK.nil))
  ·
   refine A18 ?_
   refine A9 ?_
   exact kF ((zs,i+1)) ⟨(by dsimp only;exact ⟨hzl,by omega,.inl (by omega),hzp,ins_end hzi (by omega) (fun hh=>by first | omega | exact Int.not_lt.1 (fun hc=>h12_2 (sbI_lt.2 hc)))⟩),(by dsimp only;omega)⟩ (hh:=((SubK.consI rfl ImpK.refl) SubK.nil))
 ·
  refine A4 ?_
  exact xe7 LentC.mk' rfl (.inr rfl) ⟨(congrArg some (show (⟨32,14,true,rV tEvC ys⟩:HEnt)=⟨32,14,true,rV tEvC (srtR kfD a b xs)⟩ by rw [xp7 h1 h2 hp (hs.sub (Nat.le_refl _) (by omega))])),trivial⟩ ⟨⟨rfl,x9⟩,trivial⟩ rfl
def SymIHE (n:Nat):Prop:= ∀(xs:List EvC) (a m b:Nat) {L:Nat} {x y u:Int},xs.length=L→x=(a:Int)→y=(m:Int)→u=(b:Int)→a < m→m < b→b≤xs.length→xs.length≤1000000→SrtP kfD evc0 a m xs→SrtP kfD evc0 m b xs→b - a < n→CtG Tryz.prog 196 [(20,⟨32,14,true,rV tEvC xs⟩)] [.own (.sl 20 14 0 L),.val (tI x),.val (tI y),.val (tI u),.val (tE (.func (.func 126) #[] #[]))] (.val (tT [])) [(20,⟨32,14,true,rV tEvC (srtR kfD a b xs)⟩)] []
theorem c_symStepE (n:Nat) (ih:SymIHE n) (xs:List EvC) (a m b:Nat) {L:Nat} {x y u:Int} (eL:xs.length=L) (ex:x=(a:Int)) (ey:y=(m:Int)) (eu:u=(b:Int)) (hab:a < m) (hmb:m < b) (h3:b≤xs.length) (hx:xs.length≤1000000) (hs1:SrtP kfD evc0 a m xs) (hs2:SrtP kfD evc0 m b xs) (hn:b - a≤n):
  CtG Tryz.prog 196 [(20,⟨32,14,true,rV tEvC xs⟩)] [.own (.sl 20 14 0 L),.val (tI x),.val (tI y),.val (tI u),.val (tE (.func (.func 126) #[] #[]))] (.val (tT [])) [(20,⟨32,14,true,rV tEvC (srtR kfD a b xs)⟩)] []:=by
 subst ex ey eu eL
 refine CtG.intro [20] Tryz.func196 rfl Tryz.ntmps196 rfl rfl ⟨⟨rfl,x9⟩,trivial⟩ ?_
 intro w F η
 refine A9 ?_
 refine x5 rfl (fun h382=> ?_) (fun h382=> ?_)
 ·
  refine A14 ?_
  refine cL (fun (fm:(Nat)×(Nat))=>(fun (p:Nat) (q:Nat)=>m≤p∧p≤q∧q≤b∧(∀t,m≤t→t < p→kfD (xs.getD t evc0) < kfD (xs.getD a evc0))∧ ∀t,q≤t→t < b→kfD (xs.getD a evc0)≤kfD (xs.getD t evc0)) fm.1 fm.2) (fun (fm:(Nat)×(Nat))=>(fun (p:Nat) (q:Nat)=>upd (upd (upd (upd (upd (upd (upd (fun _=>none) 0 (some (.own (.sl 20 14 0 xs.length)))) 1 (some (.val (tI a)))) 2 (some (.val (tI m)))) 3 (some (.val (tI b)))) 4 (some (.val (tE (.func (.func 126) #[] #[]))))) 10 (some (.val (tI p)))) 11 (some (.val (tI q)))) fm.1 fm.2) (fun (fm:(Nat)×(Nat))=>(fun (p:Nat) (q:Nat)=>upd (fun _=>none) 20 (some (⟨32,14,true,rV tEvC xs⟩))) fm.1 fm.2) [20] (fun (fm:(Nat)×(Nat))=>(fun (p:Nat) (q:Nat)=>q - p) fm.1 fm.2) ((m,b)) (by dsimp only;exact ⟨Nat.le_refl _,by omega,Nat.le_refl _,fun t g1 g2=>by omega,fun t g1 g2=>by omega⟩) (hh:=((SubK.consI rfl ImpK.refl) SubK.nil)) ?_
  intro fm hI
  obtain ⟨p,q⟩:=fm
  replace hI:m≤p∧p≤q∧q≤b∧(∀t,m≤t→t < p→kfD (xs.getD t evc0) < kfD (xs.getD a evc0))∧ ∀t,q≤t→t < b→kfD (xs.getD a evc0)≤kfD (xs.getD t evc0):=hI
  show wc _ _ _ _ (upd (upd (upd (upd (upd (upd (upd (fun _=>none) 0 (some (.own (.sl 20 14 0 xs.length)))) 1 (some (.val (tI a)))) 2 (some (.val (tI m)))) 3 (some (.val (tI b)))) 4 (some (.val (tE (.func (.func 126) #[] #[]))))) 10 (some (.val (tI p)))) 11 (some (.val (tI q)))) (upd (fun _=>none) 20 (some (⟨32,14,true,rV tEvC xs⟩))) _
  obtain ⟨hlp,hpq,hqh,hf,hg⟩:=hI
  refine A8 ?_
  refine x5 rfl (fun h388=> ?_) (fun h388=> ?_)
  ·
   refine A8 ?_
   refine R1 (x6 Tryz.underlying139 (isS Tryz.underlying3) (by first | exact wu64 (by omega) (by omega) | exact mu64)) rfl (R2 (xf0 (r:=((((p+q) / 2):Nat):Int)) (by decide) ((shrN (s:=1) rfl (by decide)).trans (by simp))) rfl rfl (R1 (x6 Tryz.underlying3 (isS Tryz.underlying139) (wr64 (by omega) (by omega))) rfl ?_))
   refine A8 ?_
   refine R2 (x7 sl24 (by omega) (by omega) rfl) rfl rfl (RE (xa6 (((p+q) / 2)) ti32 (xa8 (f:=tEvC) (xs:=xs) (d:=evc0) (by omega)) (by omega)) ⟨rfl,trivial⟩ ⟨rfl,trivial⟩ trivial ?_)
   refine A2 ?_
   refine R2 (x7 sl24 (by omega) (by omega) rfl) rfl rfl (RE (xa6 (a) ti32 (xa8 (f:=tEvC) (xs:=xs) (d:=evc0) (by omega)) (by omega)) ⟨rfl,trivial⟩ ⟨rfl,trivial⟩ trivial (R3 (xe9 (c_credit1 (xs.getD ((p+q) / 2) evc0) (xs.getD a evc0)) fi126 rfl) rfl rfl rfl ?_))
   refine A3 ?_
   refine x5 rfl (fun h390=> ?_) (fun h390=> ?_)
   ·
    refine A6 ?_
    have hc:=sbI_lt.1 h390
    exact kF ((((p+q) / 2)+1,q)) ⟨(by dsimp only;exact ⟨by omega,by omega,hqh,fun t g1 g2=>by have:=hs2.le (i:=t) (j:=((p+q) / 2)) (by omega) (by omega) (by omega);omega,hg⟩),(by dsimp only;omega)⟩ (hg:=(sI ((Sub.consI rfl (Imp.int (by dsimp only;omega))) (sC (sI (sI (sI (sC Sub.nil)))))))) (hh:=((SubK.consI rfl ImpK.refl) SubK.nil))
   ·
    refine A5 ?_
    have hc:=fun hh=>h390 (sbI_lt.2 hh)
    exact kF ((p,((p+q) / 2))) ⟨(by dsimp only;exact ⟨hlp,by omega,by omega,hf,fun t g1 g2=>by have:=hs2.le (i:=((p+q) / 2)) (j:=t) (by omega) (by omega) (by omega);have:=Int.not_lt.1 hc;omega⟩),(by dsimp only;omega)⟩ (hh:=((SubK.consI rfl ImpK.refl) SubK.nil))
  ·
   refine A13 ?_
   refine cL (fun (t:Nat)=>a+1+t≤p) (fun (t:Nat)=>upd (upd (upd (fun _=>none) 0 (some (.own (.sl 20 14 0 xs.length)))) 10 (some (.val (tI p)))) 13 (some (.val (tI ((a:Int)+(t:Int)))))) (fun (t:Nat)=>upd (fun _=>none) 20 (some (⟨32,14,true,rV tEvC (rotR a (a+1) (a+1+t) xs)⟩))) [20] (fun (t:Nat)=>p - t) (0) (by omega) (hg:=((Sub.consI rfl (Imp.int (by simp))) (sI (sC Sub.nil)))) (hh:=((SubK.consI rfl (ImpK.of (by rw [rot_none2 evc0 (by omega) (by omega)]))) SubK.nil)) ?_
   intro t hI
   refine A9 ?_
   refine x5 rfl (fun h397=> ?_) (fun h397=> ?_)
   ·
    refine A13 ?_
    refine R2 (x7 sl24 (by omega) (by omega) rfl) rfl rfl (RE (xa6 (a+t+1) ti32 (xa8 (f:=tEvC) (xs:=(rotR a (a+1) (a+1+t) xs)) (d:=evc0) (by rw [xc4 (by omega) (by omega) (by omega)];omega)) (by omega)) ⟨rfl,trivial⟩ ⟨rfl,trivial⟩ trivial ?_)
    refine A2 ?_
    refine R2 (x7 sl24 (by omega) (by omega) rfl) rfl rfl (RE (xa6 (a+t) ti32 (xa8 (f:=tEvC) (xs:=(rotR a (a+1) (a+1+t) xs)) (d:=evc0) (by rw [xc4 (by omega) (by omega) (by omega)];omega)) (by omega)) ⟨rfl,trivial⟩ ⟨rfl,trivial⟩ trivial (R2 (x7 sl24 (by omega) (by omega) rfl) rfl rfl (RE (xb2 (a+t) ti32 (xh8 (by rw [xc4 (by omega) (by omega) (by omega)];omega)) (by omega) (xe6 (m:=((rotR a (a+1) (a+1+t) xs).getD (a+t+1) evc0)) rfl)) ⟨rfl,rfl,trivial⟩ ⟨rfl,trivial⟩ trivial (R2 (x7 sl24 (by omega) (by omega) rfl) rfl rfl (RE (xb2 (a+t+1) ti32 (xh8 (by rw [List.length_set,xc4 (by omega) (by omega) (by omega)];omega)) (by omega) (xe6 (m:=((rotR a (a+1) (a+1+t) xs).getD (a+t) evc0)) rfl)) ⟨rfl,rfl,trivial⟩ ⟨rfl,trivial⟩ trivial ?_)))))
    refine A8 ?_
    have hup:=rot_up (d:=evc0) (a:=a) (t:=t) (xs:=xs) (by omega)
    exact kF (t+1) ⟨(by omega),(by omega)⟩ (hg:=((Sub.consI rfl (Imp.int (by omega))) (sI (sC Sub.nil)))) (hh:=((SubK.consI rfl (ImpK.of (by rw [show a+1+(t+1)=a+2+t by omega,←hup];rfl))) SubK.nil))
   ·
    refine A7 ?_
    exact xe7 LentC.mk' rfl (.inl rfl) ⟨(congrArg some (show (⟨32,14,true,rV tEvC (rotR a (a+1) (a+1+t) xs)⟩:HEnt)=⟨32,14,true,rV tEvC (srtR kfD a b xs)⟩ by have hm1:m=a+1:=(by omega);subst hm1;rw [show a+1+t=p by omega,merge_first hs2 h3 (by omega) (by omega) hf (fun t g1 g2=>hg t (by omega) g2)])),trivial⟩ ⟨⟨rfl,x9⟩,trivial⟩ rfl
 ·
  refine A11 ?_
  refine x5 rfl (fun h406=> ?_) (fun h406=> ?_)
  ·
   refine A14 ?_
   refine cL (fun (fm:(Nat)×(Nat))=>(fun (p:Nat) (q:Nat)=>a≤p∧p≤q∧q≤m∧(∀t,a≤t→t < p→kfD (xs.getD t evc0)≤kfD (xs.getD m evc0))∧ ∀t,q≤t→t < m→kfD (xs.getD m evc0) < kfD (xs.getD t evc0)) fm.1 fm.2) (fun (fm:(Nat)×(Nat))=>(fun (p:Nat) (q:Nat)=>upd (upd (upd (upd (upd (upd (upd (fun _=>none) 0 (some (.own (.sl 20 14 0 xs.length)))) 1 (some (.val (tI a)))) 2 (some (.val (tI m)))) 3 (some (.val (tI b)))) 4 (some (.val (tE (.func (.func 126) #[] #[]))))) 14 (some (.val (tI p)))) 15 (some (.val (tI q)))) fm.1 fm.2) (fun (fm:(Nat)×(Nat))=>(fun (p:Nat) (q:Nat)=>upd (fun _=>none) 20 (some (⟨32,14,true,rV tEvC xs⟩))) fm.1 fm.2) [20] (fun (fm:(Nat)×(Nat))=>(fun (p:Nat) (q:Nat)=>q - p) fm.1 fm.2) ((a,m)) (by dsimp only;exact ⟨Nat.le_refl _,by omega,Nat.le_refl _,fun t g1 g2=>by omega,fun t g1 g2=>by omega⟩) (hh:=((SubK.consI rfl ImpK.refl) SubK.nil)) ?_
   intro fm hI
   obtain ⟨p,q⟩:=fm
   replace hI:a≤p∧p≤q∧q≤m∧(∀t,a≤t→t < p→kfD (xs.getD t evc0)≤kfD (xs.getD m evc0))∧ ∀t,q≤t→t < m→kfD (xs.getD m evc0) < kfD (xs.getD t evc0):=hI
   show wc _ _ _ _ (upd (upd (upd (upd (upd (upd (upd (fun _=>none) 0 (some (.own (.sl 20 14 0 xs.length)))) 1 (some (.val (tI a)))) 2 (some (.val (tI m)))) 3 (some (.val (tI b)))) 4 (some (.val (tE (.func (.func 126) #[] #[]))))) 14 (some (.val (tI p)))) 15 (some (.val (tI q)))) (upd (fun _=>none) 20 (some (⟨32,14,true,rV tEvC xs⟩))) _
   obtain ⟨hlp,hpq,hqh,hf,hg⟩:=hI
   refine A8 ?_
   refine x5 rfl (fun h412=> ?_) (fun h412=> ?_)
   ·
    refine A8 ?_
    refine R1 (x6 Tryz.underlying139 (isS Tryz.underlying3) (by first | exact wu64 (by omega) (by omega) | exact mu64)) rfl (R2 (xf0 (r:=((((p+q) / 2):Nat):Int)) (by decide) ((shrN (s:=1) rfl (by decide)).trans (by simp))) rfl rfl (R1 (x6 Tryz.underlying3 (isS Tryz.underlying139) (wr64 (by omega) (by omega))) rfl ?_))
    refine A8 ?_
    refine R2 (x7 sl24 (by omega) (by omega) rfl) rfl rfl (RE (xa6 (m) ti32 (xa8 (f:=tEvC) (xs:=xs) (d:=evc0) (by omega)) (by omega)) ⟨rfl,trivial⟩ ⟨rfl,trivial⟩ trivial ?_)
    refine A2 ?_
    refine R2 (x7 sl24 (by omega) (by omega) rfl) rfl rfl (RE (xa6 (((p+q) / 2)) ti32 (xa8 (f:=tEvC) (xs:=xs) (d:=evc0) (by omega)) (by omega)) ⟨rfl,trivial⟩ ⟨rfl,trivial⟩ trivial (R3 (xe9 (c_credit1 (xs.getD m evc0) (xs.getD ((p+q) / 2) evc0)) fi126 rfl) rfl rfl rfl ?_))
    refine A4 ?_
    refine C_ifn rfl (fun h414=> ?_) (fun h414=> ?_)
    ·
     refine A6 ?_
     have hc:=fun hh=>h414 (sbI_lt.2 hh)
     exact kF ((((p+q) / 2)+1,q)) ⟨(by dsimp only;exact ⟨by omega,by omega,hqh,fun t g1 g2=>by have:=hs1.le (i:=t) (j:=((p+q) / 2)) (by omega) (by omega) (by omega);have:=Int.not_lt.1 hc;omega,hg⟩),(by dsimp only;omega)⟩ (hg:=(sI ((Sub.consI rfl (Imp.int (by dsimp only;omega))) (sC (sI (sI (sI (sC Sub.nil)))))))) (hh:=((SubK.consI rfl ImpK.refl) SubK.nil))
    ·
     refine A5 ?_
     have hc:=sbI_lt.1 h414
     exact kF ((p,((p+q) / 2))) ⟨(by dsimp only;exact ⟨hlp,by omega,by omega,hf,fun t g1 g2=>by have:=hs1.le (i:=((p+q) / 2)) (j:=t) (by omega) (by omega) (by omega);omega⟩),(by dsimp only;omega)⟩ (hh:=((SubK.consI rfl ImpK.refl) SubK.nil))
   ·
    refine A13 ?_
    refine cL (fun (t:Nat)=>p≤t∧t≤m) (fun (t:Nat)=>upd (upd (upd (fun _=>none) 0 (some (.own (.sl 20 14 0 xs.length)))) 14 (some (.val (tI p)))) 17 (some (.val (tI t)))) (fun (t:Nat)=>upd (fun _=>none) 20 (some (⟨32,14,true,rV tEvC (rotR t m (m+1) xs)⟩))) [20] (fun (t:Nat)=>t) (m) ⟨by omega,Nat.le_refl _⟩ (hh:=((SubK.consI rfl (ImpK.of (by rw [rot_none1 evc0 (by omega) (by omega)]))) SubK.nil)) ?_
    intro t hI
    obtain ⟨ht1,ht2⟩:=hI
    refine A8 ?_
    refine x5 rfl (fun h421=> ?_) (fun h421=> ?_)
    ·
     refine A13 ?_
     refine R2 (x7 sl24 (by omega) (by omega) rfl) rfl rfl (RE (xa6 (t - 1) ti32 (xa8 (f:=tEvC) (xs:=(rotR t m (m+1) xs)) (d:=evc0) (by rw [xc4 (by omega) (by omega) (by omega)];omega)) (by omega)) ⟨rfl,trivial⟩ ⟨rfl,trivial⟩ trivial ?_)
     refine A2 ?_
     refine R2 (x7 sl24 (by omega) (by omega) rfl) rfl rfl (RE (xa6 (t) ti32 (xa8 (f:=tEvC) (xs:=(rotR t m (m+1) xs)) (d:=evc0) (by rw [xc4 (by omega) (by omega) (by omega)];omega)) (by omega)) ⟨rfl,trivial⟩ ⟨rfl,trivial⟩ trivial (R2 (x7 sl24 (by omega) (by omega) rfl) rfl rfl (RE (xb2 (t) ti32 (xh8 (by rw [xc4 (by omega) (by omega) (by omega)];omega)) (by omega) (xe6 (m:=((rotR t m (m+1) xs).getD (t - 1) evc0)) rfl)) ⟨rfl,rfl,trivial⟩ ⟨rfl,trivial⟩ trivial (R2 (x7 sl24 (by omega) (by omega) rfl) rfl rfl (RE (xb2 (t - 1) ti32 (xh8 (by rw [List.length_set,xc4 (by omega) (by omega) (by omega)];omega)) (by omega) (xe6 (m:=((rotR t m (m+1) xs).getD (t) evc0)) rfl)) ⟨rfl,rfl,trivial⟩ ⟨rfl,trivial⟩ trivial ?_)))))
     refine A8 ?_
     obtain ⟨j,rfl⟩: ∃j,t=j+1:=⟨t - 1,by omega⟩
     have hdn:=rot_down (d:=evc0) (j:=j) (m:=m) (xs:=xs) (by omega) (by omega)
     rw [swp1,List.set_comm _ _ (by omega)] at hdn
     exact kF (j) ⟨⟨by omega,by omega⟩,(by omega)⟩ (hg:=((Sub.consI rfl (Imp.int (by omega))) (sI (sC Sub.nil)))) (hh:=((SubK.consI rfl (ImpK.of (by rw [←hdn];rfl))) SubK.nil))
    ·
     refine A7 ?_
     exact xe7 LentC.mk' rfl (.inl rfl) ⟨(congrArg some (show (⟨32,14,true,rV tEvC (rotR t m (m+1) xs)⟩:HEnt)=⟨32,14,true,rV tEvC (srtR kfD a b xs)⟩ by have hb1:b=m+1:=(by omega);subst hb1;rw [show t=p by omega,merge_last hs1 (by omega) (by omega) (by omega) hf (fun t g1 g2=>hg t (by omega) g2)])),trivial⟩ ⟨⟨rfl,x9⟩,trivial⟩ rfl
  ·
   refine A7 ?_
   refine R1 (x6 Tryz.underlying139 (isS Tryz.underlying3) (by first | exact wu64 (by omega) (by omega) | exact mu64)) rfl (R2 (xf0 (r:=((((a+b) / 2):Nat):Int)) (by decide) ((shrN (s:=1) rfl (by decide)).trans (by simp))) rfl rfl (R1 (x6 Tryz.underlying3 (isS Tryz.underlying139) (wr64 (by omega) (by omega))) rfl ?_))
   refine A4 ?_
   obtain ⟨mid,hmid⟩: ∃mid,mid=((a+b) / 2):=⟨_,rfl⟩
   rw [←hmid]
   refine A13 ?_
   refine xg1 (fun (fm:(Nat)×(Nat))=>(fun (s0:Nat) (r0:Nat)=>((mid < m∧s0=mid+m - b∧r0=mid)∨(m≤mid∧s0=a∧r0=m))) fm.1 fm.2) (fun (fm:(Nat)×(Nat))=>(fun (s0:Nat) (r0:Nat)=>upd (upd (upd (upd (upd (upd (upd (upd (upd (fun _=>none) 0 (some (.own (.sl 20 14 0 xs.length)))) 1 (some (.val (tI a)))) 2 (some (.val (tI m)))) 3 (some (.val (tI b)))) 4 (some (.val (tE (.func (.func 126) #[] #[]))))) 18 (some (.val (tI mid)))) 19 (some (.val (tI ((mid:Int)+(m:Int)))))) 20 (some (.val (tI s0)))) 21 (some (.val (tI r0)))) fm.1 fm.2) (fun (fm:(Nat)×(Nat))=>(fun (s0:Nat) (r0:Nat)=>upd (fun _=>none) 20 (some (⟨32,14,true,rV tEvC xs⟩))) fm.1 fm.2) (nm [20]) ?_ ?_
   ·
    refine A7 ?_
    refine x5 rfl (fun h430=> ?_) (fun h430=> ?_)
    ·
     refine A12 ?_
     exact kF ((mid+m - b,mid)) (by dsimp only;exact (.inl ⟨by omega,rfl,rfl⟩)) (hg:=(sI ((Sub.consI rfl (Imp.int (by dsimp only;omega))) (sI (sI (sC (sI (sI (sI (sC Sub.nil)))))))))) (hh:=((SubK.consI rfl ImpK.refl) SubK.nil))
    ·
     refine A10 ?_
     exact kF ((a,m)) (by dsimp only;exact (.inr ⟨by omega,rfl,rfl⟩)) (hh:=((SubK.consI rfl ImpK.refl) SubK.nil))
   ·
    intro fm hsr
    obtain ⟨s0,r0⟩:=fm
    replace hsr:((mid < m∧s0=mid+m - b∧r0=mid)∨(m≤mid∧s0=a∧r0=m)):=hsr
    show wc _ _ _ _ (upd (upd (upd (upd (upd (upd (upd (upd (upd (fun _=>none) 0 (some (.own (.sl 20 14 0 xs.length)))) 1 (some (.val (tI a)))) 2 (some (.val (tI m)))) 3 (some (.val (tI b)))) 4 (some (.val (tE (.func (.func 126) #[] #[]))))) 18 (some (.val (tI mid)))) 19 (some (.val (tI ((mid:Int)+(m:Int)))))) 20 (some (.val (tI s0)))) 21 (some (.val (tI r0)))) (upd (fun _=>none) 20 (some (⟨32,14,true,rV tEvC xs⟩))) _
    refine A9 ?_
    refine cL (fun (fm:(Nat)×(Nat))=>(fun (s:Nat) (r:Nat)=>s0≤s∧s≤r∧r≤r0∧(∀t,s0≤t→t < s→kfD (xs.getD t evc0)≤kfD (xs.getD (mid+m - 1 - t) evc0))∧ ∀t,r≤t→t < r0→kfD (xs.getD (mid+m - 1 - t) evc0) < kfD (xs.getD t evc0)) fm.1 fm.2) (fun (fm:(Nat)×(Nat))=>(fun (s:Nat) (r:Nat)=>upd (upd (upd (upd (upd (upd (upd (upd (upd (upd (fun _=>none) 0 (some (.own (.sl 20 14 0 xs.length)))) 1 (some (.val (tI a)))) 2 (some (.val (tI m)))) 3 (some (.val (tI b)))) 4 (some (.val (tE (.func (.func 126) #[] #[]))))) 18 (some (.val (tI mid)))) 19 (some (.val (tI ((mid:Int)+(m:Int)))))) 20 (some (.val (tI s)))) 21 (some (.val (tI r)))) 22 (some (.val (tI ((mid:Int)+(m:Int) - 1))))) fm.1 fm.2) (fun (fm:(Nat)×(Nat))=>(fun (s:Nat) (r:Nat)=>upd (fun _=>none) 20 (some (⟨32,14,true,rV tEvC xs⟩))) fm.1 fm.2) [20] (fun (fm:(Nat)×(Nat))=>(fun (s:Nat) (r:Nat)=>r - s) fm.1 fm.2) ((s0,r0)) (by dsimp only;exact ⟨Nat.le_refl _,by omega,Nat.le_refl _,fun t g1 g2=>by omega,fun t g1 g2=>by omega⟩) (hh:=((SubK.consI rfl ImpK.refl) SubK.nil)) ?_
    intro fm hI
    obtain ⟨s,r⟩:=fm
    replace hI:s0≤s∧s≤r∧r≤r0∧(∀t,s0≤t→t < s→kfD (xs.getD t evc0)≤kfD (xs.getD (mid+m - 1 - t) evc0))∧ ∀t,r≤t→t < r0→kfD (xs.getD (mid+m - 1 - t) evc0) < kfD (xs.getD t evc0):=hI
    show wc _ _ _ _ (upd (upd (upd (upd (upd (upd (upd (upd (upd (upd (fun _=>none) 0 (some (.own (.sl 20 14 0 xs.length)))) 1 (some (.val (tI a)))) 2 (some (.val (tI m)))) 3 (some (.val (tI b)))) 4 (some (.val (tE (.func (.func 126) #[] #[]))))) 18 (some (.val (tI mid)))) 19 (some (.val (tI ((mid:Int)+(m:Int)))))) 20 (some (.val (tI s)))) 21 (some (.val (tI r)))) 22 (some (.val (tI ((mid:Int)+(m:Int) - 1))))) (upd (fun _=>none) 20 (some (⟨32,14,true,rV tEvC xs⟩))) _
    obtain ⟨hss,hsr1,hrr,hf,hg⟩:=hI
    refine A8 ?_
    refine x5 rfl (fun h439=> ?_) (fun h439=> ?_)
    ·
     refine A8 ?_
     refine R1 (x6 Tryz.underlying139 (isS Tryz.underlying3) (by first | exact wu64 (by omega) (by omega) | exact mu64)) rfl (R2 (xf0 (r:=((((s+r) / 2):Nat):Int)) (by decide) ((shrN (s:=1) rfl (by decide)).trans (by simp))) rfl rfl (R1 (x6 Tryz.underlying3 (isS Tryz.underlying139) (wr64 (by omega) (by omega))) rfl ?_))
     refine A10 ?_
     refine R2 (x7 sl24 (by omega) (by omega) rfl) rfl rfl (RE (xa6 (mid+m - 1 - (s+r) / 2) ti32 (xa8 (f:=tEvC) (xs:=xs) (d:=evc0) (by omega)) (by omega)) ⟨rfl,trivial⟩ ⟨rfl,trivial⟩ trivial ?_)
     refine A2 ?_
     refine R2 (x7 sl24 (by omega) (by omega) rfl) rfl rfl (RE (xa6 ((s+r) / 2) ti32 (xa8 (f:=tEvC) (xs:=xs) (d:=evc0) (by omega)) (by omega)) ⟨rfl,trivial⟩ ⟨rfl,trivial⟩ trivial (R3 (xe9 (c_credit1 (xs.getD (mid+m - 1 - (s+r) / 2) evc0) (xs.getD ((s+r) / 2) evc0)) fi126 rfl) rfl rfl rfl ?_))
     refine A4 ?_
     refine C_ifn rfl (fun h441=> ?_) (fun h441=> ?_)
     ·
      refine A6 ?_
      have hc:=Int.not_lt.1 (fun hh=>h441 (sbI_lt.2 hh))
      exact kF (((s+r) / 2+1,r)) ⟨(by dsimp only;exact ⟨by omega,by omega,hrr,fun t g1 g2=>by have q1:=hs1.le (i:=t) (j:=(s+r) / 2) (by omega) (by omega) (by omega);have q2:=hs2.le (i:=mid+m - 1 - (s+r) / 2) (j:=mid+m - 1 - t) (by omega) (by omega) (by omega);omega,hg⟩),(by dsimp only;omega)⟩ (hg:=(sI (sI ((Sub.consI rfl (Imp.int (by dsimp only;omega))) (sI (sI (sC (sI (sI (sI (sC Sub.nil))))))))))) (hh:=((SubK.consI rfl ImpK.refl) SubK.nil))
     ·
      refine A5 ?_
      have hc:=sbI_lt.1 h441
      exact kF ((s,(s+r) / 2)) ⟨(by dsimp only;exact ⟨hss,by omega,by omega,hf,fun t g1 g2=>by have q1:=hs1.le (i:=(s+r) / 2) (j:=t) (by omega) (by omega) (by omega);have q2:=hs2.le (i:=mid+m - 1 - t) (j:=mid+m - 1 - (s+r) / 2) (by omega) (by omega) (by omega);omega⟩),(by dsimp only;omega)⟩ (hh:=((SubK.consI rfl ImpK.refl) SubK.nil))
    ·
     refine A6 ?_
     have hcut:=cut_of (s:=s) hab hmb hmid hs1 hs2 hsr hss (by omega) hf (fun c g1 g2=>hg c (by omega) g2)
     have hct1:=hcut.sm
     have hct2:=hcut.me
     have hct3:=hcut.eb
     have hct4:=hcut.la
     have hct5:=hcut.hm
     have hpr:=hcut.prt h3
     refine A7 ?_
     refine xg1 (fun (_j:Unit)=>True) (fun (_j:Unit)=>upd (upd (upd (upd (upd (upd (upd (upd (fun _=>none) 0 (some (.own (.sl 20 14 0 xs.length)))) 1 (some (.val (tI a)))) 2 (some (.val (tI m)))) 3 (some (.val (tI b)))) 4 (some (.val (tE (.func (.func 126) #[] #[]))))) 18 (some (.val (tI mid)))) 20 (some (.val (tI s)))) 24 (some (.val (tI ((mid+m - s:Nat):Int))))) (fun (_j:Unit)=>upd (fun _=>none) 20 (some (⟨32,14,true,rV tEvC (rotR s m (mid+m - s) xs)⟩))) (nm [20]) ?_ ?_
     ·
      refine A6 ?_
      refine RGcaseD (t:=181) rfl (fun h449=> ?_) (fun h449=> ?_)
      ·
       refine A6 ?_
       refine x5 rfl (fun h449_2=> ?_) (fun h449_2=> ?_)
       ·
        refine A6 ?_
        refine RE (xa5 (fun _=>20) (c_rotateE xs rfl s m (mid+m - s) rfl rfl (by omega) (by omega) (by omega) (by omega) (by omega)) fi214 rfl (krC (ρ:=fun _=>20) (k:=20) xa2 (krN (ρ:=fun _=>20))) (krC (ρ:=fun _=>20) (k:=20) xa2 (krN (ρ:=fun _=>20))) ⟨⟨rfl,x9⟩,trivial⟩ rfl) ⟨rfl,rfl,rfl,rfl,rfl,trivial⟩ ⟨rfl,trivial⟩ trivial ?_
        refine A1 ?_
        exact kF (()) trivial (hh:=((SubK.consI rfl ImpK.refl) SubK.nil))
       ·
        refine A1 ?_
        exact kF (()) trivial (hh:=((SubK.consI rfl (ImpK.of (by rw [show mid+m - s=m by omega,rot_none2 evc0 (by omega) (by omega)]))) SubK.nil))
      ·
       refine A8 ?_
       exact kF (()) trivial (hh:=((SubK.consI rfl (ImpK.of (by rw [show s=m by omega,rot_none1 evc0 (by omega) (by omega)]))) SubK.nil))
     ·
      intro _j hj449
      refine xg1 (fun (_j:Unit)=>True) (fun (_j:Unit)=>upd (upd (upd (upd (upd (upd (upd (upd (fun _=>none) 0 (some (.own (.sl 20 14 0 xs.length)))) 1 (some (.val (tI a)))) 2 (some (.val (tI m)))) 3 (some (.val (tI b)))) 4 (some (.val (tE (.func (.func 126) #[] #[]))))) 18 (some (.val (tI mid)))) 20 (some (.val (tI s)))) 24 (some (.val (tI ((mid+m - s:Nat):Int))))) (fun (_j:Unit)=>upd (fun _=>none) 20 (some (⟨32,14,true,rV tEvC (srtR kfD a mid (rotR s m (mid+m - s) xs))⟩))) (nm [20]) ?_ ?_
      ·
       refine A6 ?_
       refine RGcaseD (t:=195) rfl (fun h452=> ?_) (fun h452=> ?_)
       ·
        refine A6 ?_
        refine x5 rfl (fun h452_2=> ?_) (fun h452_2=> ?_)
        ·
         refine A6 ?_
         refine RE (xa5 (fun _=>20) (ih (rotR s m (mid+m - s) xs) a s mid hpr.len rfl rfl rfl (by omega) (by omega) (by rw [hpr.len];omega) (by rw [hpr.len];omega) (hcut.left1 h3 hs1) (hcut.left2 h3 hs2) (by omega)) fi196 rfl (krC (ρ:=fun _=>20) (k:=20) xa2 (krN (ρ:=fun _=>20))) (krC (ρ:=fun _=>20) (k:=20) xa2 (krN (ρ:=fun _=>20))) ⟨⟨rfl,x9⟩,trivial⟩ rfl) ⟨rfl,rfl,rfl,rfl,rfl,trivial⟩ ⟨rfl,trivial⟩ trivial ?_
         refine A1 ?_
         exact kF (()) trivial (hh:=((SubK.consI rfl ImpK.refl) SubK.nil))
        ·
         refine A1 ?_
         exact kF (()) trivial (hh:=((SubK.consI rfl (ImpK.of (by rw [hcut.leftId h3 hs1 hs2 (by omega)]))) SubK.nil))
       ·
        refine A8 ?_
        exact kF (()) trivial (hh:=((SubK.consI rfl (ImpK.of (by rw [hcut.leftId h3 hs1 hs2 (by omega)]))) SubK.nil))
      ·
       intro _j hj452
       refine A1 ?_
       have hpr2:Prt kfD evc0 a mid (rotR s m (mid+m - s) xs) (srtR kfD a mid (rotR s m (mid+m - s) xs)):=xh0 (by omega) (by rw [hpr.len];omega)
       refine A5 ?_
       refine RGcaseD (t:=209) rfl (fun h455=> ?_) (fun h455=> ?_)
       ·
        refine A6 ?_
        refine x5 rfl (fun h455_2=> ?_) (fun h455_2=> ?_)
        ·
         refine A6 ?_
         refine RE (xa5 (fun _=>20) (ih (srtR kfD a mid (rotR s m (mid+m - s) xs)) mid (mid+m - s) b (hpr2.len.trans hpr.len) rfl rfl rfl (by omega) (by omega) (by rw [hpr2.len,hpr.len];omega) (by rw [hpr2.len,hpr.len];omega) ((hcut.right1 h3 hs1).out hpr2 (.inr (Nat.le_refl _))) ((hcut.right2 h3 hs2).out hpr2 (.inr (by omega))) (by omega)) fi196 rfl (krC (ρ:=fun _=>20) (k:=20) xa2 (krN (ρ:=fun _=>20))) (krC (ρ:=fun _=>20) (k:=20) xa2 (krN (ρ:=fun _=>20))) ⟨⟨rfl,x9⟩,trivial⟩ rfl) ⟨rfl,rfl,rfl,rfl,rfl,trivial⟩ ⟨rfl,trivial⟩ trivial ?_
         refine A1 ?_
         exact xe7 LentC.mk' rfl (.inr rfl) ⟨(congrArg some (show (⟨32,14,true,rV tEvC (srtR kfD mid b (srtR kfD a mid (rotR s m (mid+m - s) xs)))⟩:HEnt)=⟨32,14,true,rV tEvC (srtR kfD a b xs)⟩ by rw [hcut.fin h3 hs1 hs2])),trivial⟩ ⟨⟨rfl,x9⟩,trivial⟩ rfl
        ·
         refine A1 ?_
         exact xe7 LentC.mk' rfl (.inr rfl) ⟨(congrArg some (show (⟨32,14,true,rV tEvC (srtR kfD a mid (rotR s m (mid+m - s) xs))⟩:HEnt)=⟨32,14,true,rV tEvC (srtR kfD a b xs)⟩ by rw [←hcut.fin h3 hs1 hs2,hcut.rightId h3 hs1 hs2 (by omega)])),trivial⟩ ⟨⟨rfl,x9⟩,trivial⟩ rfl
       ·
        refine A8 ?_
        exact xe7 LentC.mk' rfl (.inr rfl) ⟨(congrArg some (show (⟨32,14,true,rV tEvC (srtR kfD a mid (rotR s m (mid+m - s) xs))⟩:HEnt)=⟨32,14,true,rV tEvC (srtR kfD a b xs)⟩ by rw [←hcut.fin h3 hs1 hs2,hcut.rightId h3 hs1 hs2 (by omega)])),trivial⟩ ⟨⟨rfl,x9⟩,trivial⟩ rfl
theorem symIH_allE: ∀n,SymIHE n
 | 0=>fun xs a m b L x y u eL ex ey eu h1 h2 h3 h4 h5 h6 h7=>absurd h7 (Nat.not_lt_zero _)
 | n+1=>fun xs a m b L x y u eL ex ey eu h1 h2 h3 h4 h5 h6 h7=>c_symStepE n (symIH_allE n) xs a m b eL ex ey eu h1 h2 h3 h4 h5 h6 (by omega)
theorem c_symE (xs:List EvC) (a m b:Nat) {L:Nat} {x y u:Int} (eL:xs.length=L) (ex:x=(a:Int)) (ey:y=(m:Int)) (eu:u=(b:Int)) (h1:a < m) (h2:m < b) (h3:b≤xs.length) (h4:xs.length≤1000000) (h5:SrtP kfD evc0 a m xs) (h6:SrtP kfD evc0 m b xs):CtG Tryz.prog 196 [(20,⟨32,14,true,rV tEvC xs⟩)] [.own (.sl 20 14 0 L),.val (tI x),.val (tI y),.val (tI u),.val (tE (.func (.func 126) #[] #[]))] (.val (tT [])) [(20,⟨32,14,true,rV tEvC (srtR kfD a b xs)⟩)] []:=
 symIH_allE (b - a+1) xs a m b eL ex ey eu h1 h2 h3 h4 h5 h6 (Nat.lt_succ_self _)
theorem c_stableE (xs:List EvC) {L:Nat} (eL:xs.length=L) {x:Int} (ex:x=(xs.length:Int)) (hx:xs.length≤1000000):
  CtG Tryz.prog 168 [(20,⟨32,14,true,rV tEvC xs⟩)] [.own (.sl 20 14 0 L),.val (tI x),.val (tE (.func (.func 126) #[] #[]))] (.val (tT [])) [(20,⟨32,14,true,rV tEvC (ssort kfD xs)⟩)] []:=by
 subst ex eL
 refine CtG.intro [20] Tryz.func168 rfl Tryz.ntmps168 rfl rfl ⟨⟨rfl,x9⟩,trivial⟩ ?_
 intro w F η
 refine A14 ?_
 refine cL (fun (fm:(List EvC)×(Nat))=>(fun (ys:List EvC) (c:Nat)=>ys.length=xs.length∧c*20≤xs.length∧Prt kfD evc0 0 xs.length xs ys∧BlkA kfD evc0 20 c ys) fm.1 fm.2) (fun (fm:(List EvC)×(Nat))=>(fun (ys:List EvC) (c:Nat)=>upd (upd (upd (upd (upd (upd (fun _=>none) 0 (some (.own (.sl 20 14 0 xs.length)))) 1 (some (.val (tI xs.length)))) 2 (some (.val (tE (.func (.func 126) #[] #[]))))) 6 (some (.val (tI 20)))) 7 (some (.val (tI ((c*20:Nat):Int))))) 8 (some (.val (tI ((c*20+20:Nat):Int))))) fm.1 fm.2) (fun (fm:(List EvC)×(Nat))=>(fun (ys:List EvC) (c:Nat)=>upd (fun _=>none) 20 (some (⟨32,14,true,rV tEvC ys⟩))) fm.1 fm.2) [20] (fun (fm:(List EvC)×(Nat))=>(fun (ys:List EvC) (c:Nat)=>xs.length - c*20) fm.1 fm.2) ((xs,0)) (by dsimp only;exact ⟨rfl,by omega,Prt.refl ..,blkA_zero⟩) (hh:=((SubK.consI rfl ImpK.refl) SubK.nil)) ?_
 intro fm hI
 obtain ⟨ys,c⟩:=fm
 replace hI:ys.length=xs.length∧c*20≤xs.length∧Prt kfD evc0 0 xs.length xs ys∧BlkA kfD evc0 20 c ys:=hI
 show wc _ _ _ _ (upd (upd (upd (upd (upd (upd (fun _=>none) 0 (some (.own (.sl 20 14 0 xs.length)))) 1 (some (.val (tI xs.length)))) 2 (some (.val (tE (.func (.func 126) #[] #[]))))) 6 (some (.val (tI 20)))) 7 (some (.val (tI ((c*20:Nat):Int))))) 8 (some (.val (tI ((c*20+20:Nat):Int))))) (upd (fun _=>none) 20 (some (⟨32,14,true,rV tEvC ys⟩))) _
 obtain ⟨hl,hc,hp,hb⟩:=hI
 refine A8 ?_
 refine x5 rfl (fun h338=> ?_) (fun h338=> ?_)
 ·
  refine A9 ?_
  refine RE (xa5 (fun _=>20) (c_insSortE ys hl (c*20) (c*20+20) rfl rfl (by omega) (by omega) (by omega)) fi195 rfl (krC (ρ:=fun _=>20) (k:=20) xa2 (krN (ρ:=fun _=>20))) (krC (ρ:=fun _=>20) (k:=20) xa2 (krN (ρ:=fun _=>20))) ⟨⟨rfl,x9⟩,trivial⟩ rfl) ⟨rfl,rfl,rfl,rfl,trivial⟩ ⟨rfl,trivial⟩ trivial ?_
  refine A15 ?_
  have hq:Prt kfD evc0 (c*20) (c*20+20) ys (srtR kfD (c*20) (c*20+20) ys):=xh0 (by omega) (by omega)
  exact kF (((srtR kfD (c*20) (c*20+20) ys),c+1)) ⟨(by dsimp only;exact ⟨hq.len.trans hl,by omega,hp.trans (hq.mono (by omega) (by omega)),blkA_next hb hq (xj9 (by omega) (by omega))⟩),(by dsimp only;omega)⟩ (hg:=((Sub.consI rfl (Imp.int (by dsimp only;omega))) ((Sub.consI rfl (Imp.int (by dsimp only;omega))) (sI (sC (sI (sC Sub.nil))))))) (hh:=((SubK.consI rfl ImpK.refl) SubK.nil))
 ·
  refine A6 ?_
  have hq:Prt kfD evc0 (c*20) xs.length ys (srtR kfD (c*20) xs.length ys):=xh0 (by omega) (by omega)
  refine A5 ?_
  refine RE (xa5 (fun _=>20) (c_insSortE ys hl (c*20) xs.length rfl rfl (by omega) (by omega) (by omega)) fi195 rfl (krC (ρ:=fun _=>20) (k:=20) xa2 (krN (ρ:=fun _=>20))) (krC (ρ:=fun _=>20) (k:=20) xa2 (krN (ρ:=fun _=>20))) ⟨⟨rfl,x9⟩,trivial⟩ rfl) ⟨rfl,rfl,rfl,rfl,trivial⟩ ⟨rfl,trivial⟩ trivial ?_
  refine A3 ?_
  refine cL (fun (fm:(List EvC)×(Nat))=>(fun (zs:List EvC) (w:Nat)=>zs.length=xs.length∧20≤w∧w≤2*xs.length+20∧Prt kfD evc0 0 xs.length xs zs∧BlkP kfD evc0 w xs.length zs) fm.1 fm.2) (fun (fm:(List EvC)×(Nat))=>(fun (zs:List EvC) (w:Nat)=>upd (upd (upd (upd (fun _=>none) 0 (some (.own (.sl 20 14 0 xs.length)))) 1 (some (.val (tI xs.length)))) 2 (some (.val (tE (.func (.func 126) #[] #[]))))) 6 (some (.val (tI w)))) fm.1 fm.2) (fun (fm:(List EvC)×(Nat))=>(fun (zs:List EvC) (w:Nat)=>upd (fun _=>none) 20 (some (⟨32,14,true,rV tEvC zs⟩))) fm.1 fm.2) [20] (fun (fm:(List EvC)×(Nat))=>(fun (zs:List EvC) (w:Nat)=>xs.length - w) fm.1 fm.2) (((srtR kfD (c*20) xs.length ys),20)) (by dsimp only;exact ⟨hq.len.trans hl,Nat.le_refl _,by omega,hp.trans (hq.mono (by omega) (Nat.le_refl _)),blkP_of hb (by omega) hq (xj9 (by omega) (by omega))⟩) (hh:=((SubK.consI rfl ImpK.refl) SubK.nil)) ?_
  intro fm hI
  obtain ⟨zs,w⟩:=fm
  replace hI:zs.length=xs.length∧20≤w∧w≤2*xs.length+20∧Prt kfD evc0 0 xs.length xs zs∧BlkP kfD evc0 w xs.length zs:=hI
  show wc _ _ _ _ (upd (upd (upd (upd (fun _=>none) 0 (some (.own (.sl 20 14 0 xs.length)))) 1 (some (.val (tI xs.length)))) 2 (some (.val (tE (.func (.func 126) #[] #[]))))) 6 (some (.val (tI w)))) (upd (fun _=>none) 20 (some (⟨32,14,true,rV tEvC zs⟩))) _
  obtain ⟨hzl,hw0,hw1,hzp,hzb⟩:=hI
  refine A8 ?_
  refine x5 rfl (fun h345=> ?_) (fun h345=> ?_)
  ·
   refine A6 ?_
   refine R2 (xg8 (wr64 (by omega) (by omega))) rfl rfl ?_
   refine A6 ?_
   refine cL (fun (fm:(List EvC)×(Nat))=>(fun (us:List EvC) (v:Nat)=>us.length=xs.length∧(v*(2*w))≤xs.length∧Prt kfD evc0 0 xs.length xs us∧BlkA kfD evc0 (2*w) v us∧BlkR kfD evc0 w xs.length (v*(2*w)) us) fm.1 fm.2) (fun (fm:(List EvC)×(Nat))=>(fun (us:List EvC) (v:Nat)=>upd (upd (upd (upd (upd (upd (fun _=>none) 0 (some (.own (.sl 20 14 0 xs.length)))) 1 (some (.val (tI xs.length)))) 2 (some (.val (tE (.func (.func 126) #[] #[]))))) 6 (some (.val (tI w)))) 7 (some (.val (tI (((v*(2*w)):Nat):Int))))) 8 (some (.val (tI (((v*(2*w))+2*w:Nat):Int))))) fm.1 fm.2) (fun (fm:(List EvC)×(Nat))=>(fun (us:List EvC) (v:Nat)=>upd (fun _=>none) 20 (some (⟨32,14,true,rV tEvC us⟩))) fm.1 fm.2) [20] (fun (fm:(List EvC)×(Nat))=>(fun (us:List EvC) (v:Nat)=>xs.length - (v*(2*w))) fm.1 fm.2) ((zs,0)) (by dsimp only;exact ⟨hzl,by omega,hzp,blkA_zero,by rw [Nat.zero_mul];exact blkP_R hzb⟩) (hg:=((Sub.consI rfl (Imp.int (by dsimp only;omega))) ((Sub.consI rfl (Imp.int (by dsimp only;omega))) (sI (sC (sI (sC Sub.nil))))))) (hh:=((SubK.consI rfl ImpK.refl) SubK.nil)) ?_
   intro fm hI
   obtain ⟨us,v⟩:=fm
   replace hI:us.length=xs.length∧(v*(2*w))≤xs.length∧Prt kfD evc0 0 xs.length xs us∧BlkA kfD evc0 (2*w) v us∧BlkR kfD evc0 w xs.length (v*(2*w)) us:=hI
   show wc _ _ _ _ (upd (upd (upd (upd (upd (upd (fun _=>none) 0 (some (.own (.sl 20 14 0 xs.length)))) 1 (some (.val (tI xs.length)))) 2 (some (.val (tE (.func (.func 126) #[] #[]))))) 6 (some (.val (tI w)))) 7 (some (.val (tI (((v*(2*w)):Nat):Int))))) 8 (some (.val (tI (((v*(2*w))+2*w:Nat):Int))))) (upd (fun _=>none) 20 (some (⟨32,14,true,rV tEvC us⟩))) _
   obtain ⟨hul,hvn,hup,huA,huR⟩:=hI
   have hat:=fun hh=>huR.at (u:=v) (Nat.le_refl _) hh
   refine A8 ?_
   refine x5 rfl (fun h347=> ?_) (fun h347=> ?_)
   ·
    refine A12 ?_
    refine RE (xa5 (fun _=>20) (c_symE us (v*(2*w)) ((v*(2*w))+w) ((v*(2*w))+2*w) hul rfl (by omega) (by omega) (by omega) (by omega) (by omega) (by omega) (hat (by omega)).1 ((hat (by omega)).2.sub (Nat.le_refl _) (by omega))) fi196 rfl (krC (ρ:=fun _=>20) (k:=20) xa2 (krN (ρ:=fun _=>20))) (krC (ρ:=fun _=>20) (k:=20) xa2 (krN (ρ:=fun _=>20))) ⟨⟨rfl,x9⟩,trivial⟩ rfl) ⟨rfl,rfl,rfl,rfl,rfl,trivial⟩ ⟨rfl,trivial⟩ trivial ?_
    refine A11 ?_
    refine R2 (xg8 (wr64 (by omega) (by omega))) rfl rfl ?_
    refine A4 ?_
    have hq3:Prt kfD evc0 (v*(2*w)) ((v*(2*w))+2*w) us (srtR kfD (v*(2*w)) ((v*(2*w))+2*w) us):=xh0 (by omega) (by omega)
    have hsm:(v+1)*(2*w)=(v*(2*w))+2*w:=Nat.succ_mul v (2*w)
    exact kF (((srtR kfD (v*(2*w)) ((v*(2*w))+2*w) us),v+1)) ⟨(by dsimp only;exact ⟨hq3.len.trans hul,by omega,hup.trans (hq3.mono (by omega) (by omega)),blkA_next huA hq3 (xj9 (by omega) (by omega)),huR.next hq3 (by omega) (by omega)⟩),(by dsimp only;omega)⟩ (hg:=((Sub.consI rfl (Imp.int (by dsimp only;omega))) ((Sub.consI rfl (Imp.int (by dsimp only;omega))) (sI (sC (sI (sC Sub.nil))))))) (hh:=((SubK.consI rfl ImpK.refl) SubK.nil))
   ·
    refine A18 ?_
    refine A3 ?_
    refine x5 rfl (fun h352=> ?_) (fun h352=> ?_)
    ·
     refine A6 ?_
     refine RE (xa5 (fun _=>20) (c_symE us (v*(2*w)) ((v*(2*w))+w) xs.length hul rfl (by omega) rfl (by omega) (by omega) (by omega) (by omega) (hat (by omega)).1 ((hat (by omega)).2.sub (Nat.le_refl _) (by omega))) fi196 rfl (krC (ρ:=fun _=>20) (k:=20) xa2 (krN (ρ:=fun _=>20))) (krC (ρ:=fun _=>20) (k:=20) xa2 (krN (ρ:=fun _=>20))) ⟨⟨rfl,x9⟩,trivial⟩ rfl) ⟨rfl,rfl,rfl,rfl,rfl,trivial⟩ ⟨rfl,trivial⟩ trivial ?_
     refine A4 ?_
     refine R2 (xg8 (wr64 (by omega) (by omega))) rfl rfl ?_
     refine A3 ?_
     have hq5:Prt kfD evc0 (v*(2*w)) xs.length us (srtR kfD (v*(2*w)) xs.length us):=xh0 (by omega) (by omega)
     exact kF (((srtR kfD (v*(2*w)) xs.length us),2*w)) ⟨(by dsimp only;exact ⟨hq5.len.trans hul,by omega,by omega,hup.trans (hq5.mono (by omega) (Nat.le_refl _)),blkP_of huA (by omega) hq5 (xj9 (by omega) (by omega))⟩),(by dsimp only;omega)⟩ (hg:=((Sub.consI rfl (Imp.int (by dsimp only;omega))) (sC (sI (sC Sub.nil))))) (hh:=((SubK.consI rfl ImpK.refl) SubK.nil))
    ·
     refine A4 ?_
     refine R2 (xg8 (wr64 (by omega) (by omega))) rfl rfl ?_
     refine A3 ?_
     exact kF ((us,2*w)) ⟨(by dsimp only;exact ⟨hul,by omega,by omega,hup,blkP_end huA (by omega) (huR.one (Nat.le_refl _) (by omega))⟩),(by dsimp only;omega)⟩ (hg:=((Sub.consI rfl (Imp.int (by dsimp only;omega))) (sC (sI (sC Sub.nil))))) (hh:=((SubK.consI rfl ImpK.refl) SubK.nil))
  ·
   refine A4 ?_
   exact xe7 LentC.mk' rfl (.inr rfl) ⟨(congrArg some (show (⟨32,14,true,rV tEvC zs⟩:HEnt)=⟨32,14,true,rV tEvC (ssort kfD xs)⟩ by rw [xp7 (Nat.zero_le _) (Nat.le_refl _) hzp (blkP_all hzb (by omega)),srtR_all])),trivial⟩ ⟨⟨rfl,x9⟩,trivial⟩ rfl
theorem c_sortStableE (xs:List EvC) {L:Nat} (eL:xs.length=L) (hx:xs.length≤1000000):
  CtG Tryz.prog 125 [(20,⟨32,14,true,rV tEvC xs⟩)] [.own (.sl 20 14 0 L),.val (tE (.func (.func 126) #[] #[]))] (.val (tT [])) [(20,⟨32,14,true,rV tEvC (ssort kfD xs)⟩)] []:=by
 subst eL
 refine CtG.intro [20] Tryz.func125 rfl Tryz.ntmps125 rfl rfl ⟨⟨rfl,x9⟩,trivial⟩ ?_
 intro w F η
 refine A5 ?_
 refine RE (xa5 (fun _=>20) (c_stableE xs rfl rfl hx) fi168 rfl (krC (ρ:=fun _=>20) (k:=20) xa2 (krN (ρ:=fun _=>20))) (krC (ρ:=fun _=>20) (k:=20) xa2 (krN (ρ:=fun _=>20))) ⟨⟨rfl,x9⟩,trivial⟩ rfl) ⟨rfl,rfl,rfl,trivial⟩ ⟨rfl,trivial⟩ trivial ?_
 refine A1 ?_
 exact xe7 LentC.mk' rfl (.inr rfl) ⟨rfl,trivial⟩ ⟨⟨rfl,x9⟩,trivial⟩ rfl
theorem mem_getE2 {l:List EvC} {i:Nat} (hi:i < l.length):l.getD i evc0∈l:=by
 rw [List.getD_eq_getElem?_getD,List.getElem?_eq_getElem hi];exact List.getElem_mem hi
theorem c_credit2 (cs:List EvC) (hk:CrOk cs) (hcl:cs.length≤1000) (n:Nat) (d:Int) (hn:n≤upC cs d):
  CtG Tryz.prog 127 [(1,⟨3,1,false,[.val (tI ((n:Nat):Int))]⟩),(2,⟨24,1,false,[.val (tL 14 true tEvC cs)]⟩),(3,⟨30,4,true,[.val (tFr (fr (crS cs n)))]⟩)] [.val (tI d),.own (.ptr 1 0),.own (.ptr 2 0),.own (.ptr 3 0)] (.val (tT [tFr (fr (crS cs (upC cs d))),tB true])) [(1,⟨3,1,false,[.val (tI (((upC cs d):Nat):Int))]⟩),(2,⟨24,1,false,[.val (tL 14 true tEvC cs)]⟩),(3,⟨30,4,true,[.val (tFr (fr (crS cs (upC cs d))))]⟩)] []:=by
 have hul:=upC_le (cs:=cs) (d:=d)
 refine CtG.intro [1,2,3] Tryz.func127 rfl Tryz.ntmps127 rfl rfl ⟨⟨rfl,(SupX.lit rfl)⟩,⟨rfl,(SupX.lit rfl)⟩,⟨rfl,(SupX.lit rfl)⟩,trivial⟩ ?_
 intro w F η
 refine A2 ?_
 refine RE (xa1 (k:=5) (n:=4) (agg:=true) zr30.1 zr30.2 rfl) trivial trivial ⟨rfl,trivial⟩ ?_
 refine A5 ?_
 refine cL (fun (m:Nat)=>m≤upC cs d) (fun (m:Nat)=>upd (upd (upd (upd (upd (fun _=>none) 0 (some (.val (tI d)))) 1 (some (.own (.ptr 1 0)))) 2 (some (.own (.ptr 2 0)))) 3 (some (.own (.ptr 3 0)))) 5 (some (.own (.ptr 5 0)))) (fun (m:Nat)=>upd (upd (upd (upd (fun _=>none) 1 (some (⟨3,1,false,[.val (tI ((m:Nat):Int))]⟩))) 2 (some (⟨24,1,false,[.val (tL 14 true tEvC cs)]⟩))) 3 (some (⟨30,4,true,[.val (tFr (fr (crS cs m)))]⟩))) 5 (some (⟨30,4,true,[.val (tFr fr0)]⟩))) [1,2,3,5] (fun (m:Nat)=>cs.length - m) (n) hn (hh:=((SubK.consI rfl (ImpK.of rfl)) ((SubK.consI rfl ImpK.refl) ((SubK.consI rfl ImpK.refl) ((SubK.consI rfl ImpK.refl) SubK.nil))))) ?_
 intro m hI
 refine A8 ?_
 refine RGcaseD (t:=11) rfl (fun h176=> ?_) (fun h176=> ?_)
 ·
  refine A2 ?_
  refine RGon (decide_eq_true h176) rfl (x8 sl24 (m) (by omega) (gD (l:=cs) (n:=m) (d:=evc0) (by omega))) rfl ⟨rfl,rfl,trivial⟩ trivial trivial (RGon (decide_eq_true h176) rfl (xe5 fo32_3.h (At.f 3 rfl rfl) rfl) rfl ⟨rfl,trivial⟩ trivial trivial ?_)
  refine A6 ?_
  refine x5 rfl (fun h176_2=> ?_) (fun h176_2=> ?_)
  ·
   refine A8 ?_
   refine R2 (x8 sl24 (m) (by omega) (gD (l:=cs) (n:=m) (d:=evc0) (by omega))) rfl rfl (R1 (xe5 fo32_5.h (At.f 5 rfl rfl) rfl) rfl ?_)
   refine A1 ?_
   have hon:=hk.one (cs.getD m evc0) (mem_getE2 (by omega))
   refine R2 (x3 (c_FAddM (crS cs m) (cs.getD m evc0).1.part.rat _ hon.1 (hk.all m (by omega)) hon.2 (by rw [←crS_next (by omega)];exact hk.all (m+1) (by omega))) fi30 rfl) rfl rfl ?_
   refine A12 ?_
   have hlt:m < upC cs d:=Nat.lt_of_le_of_ne hI fun he=>by
    have h1:=upC_at (cs:=cs) (d:=d) (by omega)
    rw [←he] at h1;omega
   exact kF (m+1) ⟨hlt,(by omega)⟩ (hh:=((SubK.consI rfl ImpK.refl) ((SubK.consI rfl (ImpK.of (by rw [crS_next (by omega)];try rfl))) ((SubK.consI rfl ImpK.refl) ((SubK.consI rfl (ImpK.of (by rw [show ((m+1:Nat):Int)=(m:Int)+1 by omega];try rfl))) SubK.nil)))))
  ·
   refine A6 ?_
   have hme:m=upC cs d:=by
    rcases Nat.lt_or_ge m (upC cs d) with h1 | h1
    ·have:=upC_lt h1;omega
    ·omega
   refine A7 ?_
   exact xm4 LentC.mk' (rs:=[.cell 5 30,.tmp 6]) rfl rfl ⟨⟨_,_,_,_,_,rfl,rfl,ti30,(Le.of (by rw [hme]))⟩,⟨_,rfl,Le.refl⟩,trivial⟩ ⟨(congrArg some (show (⟨3,1,false,[.val (tI ((m:Nat):Int))]⟩:HEnt)=⟨3,1,false,[.val (tI (((upC cs d):Nat):Int))]⟩ by rw [hme])),rfl,(congrArg some (show (⟨30,4,true,[.val (tFr (fr (crS cs m)))]⟩:HEnt)=⟨30,4,true,[.val (tFr (fr (crS cs (upC cs d))))]⟩ by rw [hme])),trivial⟩ ⟨⟨rfl,(SupX.lit rfl)⟩,⟨rfl,(SupX.lit rfl)⟩,⟨rfl,(SupX.lit rfl)⟩,trivial⟩ rfl
 ·
  refine A17 ?_
  have hme:m=upC cs d:=by
   rcases Nat.lt_or_ge m (upC cs d) with h1 | h1
   ·have:=upC_lt h1;omega
   ·omega
  refine A7 ?_
  exact xm4 LentC.mk' (rs:=[.cell 5 30,.tmp 6]) rfl rfl ⟨⟨_,_,_,_,_,rfl,rfl,ti30,(Le.of (by rw [hme]))⟩,⟨_,rfl,Le.refl⟩,trivial⟩ ⟨(congrArg some (show (⟨3,1,false,[.val (tI ((m:Nat):Int))]⟩:HEnt)=⟨3,1,false,[.val (tI (((upC cs d):Nat):Int))]⟩ by rw [hme])),rfl,(congrArg some (show (⟨30,4,true,[.val (tFr (fr (crS cs m)))]⟩:HEnt)=⟨30,4,true,[.val (tFr (fr (crS cs (upC cs d))))]⟩ by rw [hme])),trivial⟩ ⟨⟨rfl,(SupX.lit rfl)⟩,⟨rfl,(SupX.lit rfl)⟩,⟨rfl,(SupX.lit rfl)⟩,trivial⟩ rfl
end An.S
namespace An
open Go An.S
def nw1 (key:ByteArray) (kn:Int) (r:List Fa×Int) (x:Tst):List Fa×Int:=
 ((if r.2 < x.lo then r.1++[⟨key,r.2,x.lo,kn,true,va0⟩] else r.1)++[⟨key,x.lo,x.hi,kn,false,x.v⟩],x.hi)
def nwR (key:ByteArray) (kn:Int) (ps:List Tst) (a:Int):List Fa×Int:=ps.foldl (nw1 key kn) ([],a)
def nwP (key:ByteArray) (kn:Int) (ps:List Tst) (a b:Int):List Fa:=(nwR key kn ps a).1++if (nwR key kn ps a).2 < b then [⟨key,(nwR key kn ps a).2,b,kn,true,va0⟩] else []
def nwT (now:List Tst) (key:ByteArray) (kn:Int) (s:Sn):List Fa:=nwP key kn (cutT now s.lo s.hi) s.lo s.hi
def nwD (now:List Tst) (key:ByteArray) (kn:Int) (S:List Sn):List Fa:=S.flatMap (nwT now key kn)
theorem nwR_snoc {key:ByteArray} {kn:Int} {ps:List Tst} {a:Int} {i:Nat} (hi:i < ps.length):nwR key kn (ps.take (i+1)) a=nw1 key kn (nwR key kn (ps.take i) a) (ps.getD i tst0):=by
 rw [List.take_succ_eq_append_getElem hi,nwR,List.foldl_append,List.getD_eq_getElem?_getD,List.getElem?_eq_getElem hi];rfl
theorem nwD_snoc {now:List Tst} {key:ByteArray} {kn:Int} {S:List Sn} {i:Nat} (hi:i < S.length):nwD now key kn (S.take (i+1))=nwD now key kn (S.take i)++nwT now key kn (S.getD i sn0):=by
 rw [List.take_succ_eq_append_getElem hi,nwD,List.flatMap_append,List.getD_eq_getElem?_getD,List.getElem?_eq_getElem hi]
 simp [nwD]
def rowF (a b:Int):List Fa→Prop
 | []=>a=b
 | f::r=>f.lo=a∧f.lo < f.hi∧rowF f.hi b r
theorem rowF_app {b c:Int}: ∀{xs ys:List Fa} {a:Int},rowF a b xs→rowF b c ys→rowF a c (xs++ys)
 | [],ys,a,h1,h2=>by rw [show a=b from h1];exact h2
 | x::xs,ys,a,h1,h2=>⟨h1.1,h1.2.1,rowF_app h1.2.2 h2⟩
theorem xo0 {b:Int}: ∀{xs:List Fa} {a:Int},rowF a b xs→a≤b∧ ∀f∈xs,a≤f.lo∧f.lo < f.hi∧f.hi≤b
 | [],a,h=>⟨Int.le_of_eq h,fun f hf=>by cases hf⟩
 | x::xs,a,h=>by
  obtain ⟨h1,h2,h3⟩:=h
  obtain ⟨g1,g2⟩:=xo0 h3
  refine ⟨by omega,fun f hf=> ?_⟩
  rcases List.mem_cons.1 hf with rfl | hf
  ·omega
  ·have:=g2 f hf;omega
theorem nwR_row {key:ByteArray} {kn:Int} {a b:Int} (hab:a≤b): ∀(n:Nat) (ps:List Tst),ps.length=n→ascT ps→(∀s∈ps,a≤s.lo∧s.hi≤b)→
  rowF a (nwR key kn ps a).2 (nwR key kn ps a).1∧(nwR key kn ps a).2≤b∧(∀s∈ps,s.hi≤(nwR key kn ps a).2)∧(∀f∈(nwR key kn ps a).1,f.key=key∧f.kn=kn∧(if f.gone=true then f.v=va0 else ∃s∈ps,s.v=f.v))∧
  ∀d f,f∈(nwR key kn ps a).1→onF d f=true→valF (some f)=valT ps d:=fun n ps hn h1 h2=>
 xs3 (C:=fun ps=>ascT ps→(∀s∈ps,a≤s.lo∧s.hi≤b)→
  rowF a (nwR key kn ps a).2 (nwR key kn ps a).1∧(nwR key kn ps a).2≤b∧(∀s∈ps,s.hi≤(nwR key kn ps a).2)∧(∀f∈(nwR key kn ps a).1,f.key=key∧f.kn=kn∧(if f.gone=true then f.v=va0 else ∃s∈ps,s.v=f.v))∧
  ∀d f,f∈(nwR key kn ps a).1→onF d f=true→valF (some f)=valT ps d)
  (fun _ _=>⟨rfl,hab,fun s hs=>(by cases hs),fun f hf=>(by cases hf),fun d f hf=>by cases hf⟩)
  (fun ps x ih h1 h2=>by
   have ha:=List.pairwise_append.1 h1.2
   have hx:x.lo < x.hi:=h1.1 x (by simp)
   obtain ⟨r1,r2,r3,r4,r5⟩:=ih ⟨fun s hs=>h1.1 s (List.mem_append_left _ hs),ha.1⟩ fun s hs=>h2 s (List.mem_append_left _ hs)
   have hxb:=h2 x (by simp)
   have hle:(nwR key kn ps a).2≤x.lo:=by
    rcases Nat.eq_zero_or_pos ps.length with h0 | h0
    ·rw [List.eq_nil_of_length_eq_zero h0];exact hxb.1
    ·
     have: ∃s∈ps,(nwR key kn ps a).2=s.hi:=by
      have e:ps=ps.take (ps.length - 1)++[ps.getD (ps.length - 1) tst0]:=splitG h0
      refine ⟨ps.getD (ps.length - 1) tst0,by rw [List.getD_eq_getElem?_getD,List.getElem?_eq_getElem (by omega)];exact List.getElem_mem _,?_⟩
      rw [e,nwR,List.foldl_append]
      rw [←e];rfl
     obtain ⟨s,hs,e⟩:=this
     rw [e];exact ha.2.2 s hs x (by simp)
   have hvx: ∀d,valT (ps++[x]) d=(valT ps d).or (if x.lo≤d∧d < x.hi then some x.v else none):=fun d=>by
    rw [xs6,xc7];rfl
   have hps: ∀d,(nwR key kn ps a).2≤d→valT ps d=none:=fun d hd=>xs1 (.inr fun s hs=>by have:=r3 s hs;omega)
   have e:nwR key kn (ps++[x]) a=nw1 key kn (nwR key kn ps a) x:=by rw [nwR,List.foldl_append];rfl
   rw [e]
   generalize nwR key kn ps a=r at*
   have hfx:rowF x.lo x.hi [⟨key,x.lo,x.hi,kn,false,x.v⟩]:=⟨rfl,hx,rfl⟩
   have hlast: ∀d,onF d ⟨key,x.lo,x.hi,kn,false,x.v⟩=true→valF (some ⟨key,x.lo,x.hi,kn,false,x.v⟩)=valT (ps++[x]) d:=fun d hd=>by
    have hd:=xi7.1 hd
    have hd1:x.lo≤d:=hd.1
    have hd2:d < x.hi:=hd.2
    rw [hvx,hps d (by omega),if_pos ⟨hd1,hd2⟩];rfl
   have hold: ∀d f,f∈r.1→onF d f=true→valF (some f)=valT (ps++[x]) d:=fun d f hf hd=>by
    have:=(xo0 r1).2 f hf
    have hd':=xi7.1 hd
    rw [hvx,if_neg (by omega),Option.or_none];exact r5 d f hf hd
   by_cases hg:r.2 < x.lo
   ·rw [nw1,if_pos hg]
    refine ⟨rowF_app (rowF_app r1 ⟨rfl,hg,rfl⟩) hfx,hxb.2,fun s hs=> ?_,fun f hf=> ?_,fun d f hf hd=> ?_⟩
    ·rcases List.mem_append.1 hs with h | h
     ·have:=r3 s h;show s.hi≤x.hi;omega
     ·rw [List.mem_singleton.1 h];exact Int.le_refl _
    ·rcases List.mem_append.1 hf with h | h
     ·rcases List.mem_append.1 h with h | h
      ·obtain ⟨a1,a2,a3⟩:=r4 f h
       refine ⟨a1,a2,?_⟩
       split at a3
       ·rename_i hh;rw [if_pos hh];exact a3
       ·rename_i hh;rw [if_neg hh];obtain ⟨s,hs,e⟩:=a3;exact ⟨s,List.mem_append_left _ hs,e⟩
      ·rw [List.mem_singleton.1 h];exact ⟨rfl,rfl,rfl⟩
     ·rw [List.mem_singleton.1 h];exact ⟨rfl,rfl,x,by simp,rfl⟩
    ·rcases List.mem_append.1 hf with h | h
     ·rcases List.mem_append.1 h with h | h
      ·exact hold d f h hd
      ·rw [List.mem_singleton.1 h] at hd ⊢
       have hd:=xi7.1 hd
       have hd1:r.2≤d:=hd.1
       have hd2:d < x.lo:=hd.2
       rw [hvx,hps d hd1,if_neg (by omega)];rfl
     ·rw [List.mem_singleton.1 h] at hd ⊢;exact hlast d hd
   ·rw [nw1,if_neg hg]
    have he:r.2=x.lo:=by omega
    refine ⟨rowF_app r1 (by rw [he];exact hfx),hxb.2,fun s hs=> ?_,fun f hf=> ?_,fun d f hf hd=> ?_⟩
    ·rcases List.mem_append.1 hs with h | h
     ·have:=r3 s h;show s.hi≤x.hi;omega
     ·rw [List.mem_singleton.1 h];exact Int.le_refl _
    ·rcases List.mem_append.1 hf with h | h
     ·obtain ⟨a1,a2,a3⟩:=r4 f h
      refine ⟨a1,a2,?_⟩
      split at a3
      ·rename_i hh;rw [if_pos hh];exact a3
      ·rename_i hh;rw [if_neg hh];obtain ⟨s,hs,e⟩:=a3;exact ⟨s,List.mem_append_left _ hs,e⟩
     ·rw [List.mem_singleton.1 h];exact ⟨rfl,rfl,x,by simp,rfl⟩
    ·rcases List.mem_append.1 hf with h | h
     ·exact hold d f h hd
     ·rw [List.mem_singleton.1 h] at hd ⊢;exact hlast d hd) n ps hn h1 h2
structure NwOk (now:List Tst) (key:ByteArray) (kn:Int) (s:Sn) (N:List Fa):Prop where
  row:rowF s.lo s.hi N
  ok: ∀f∈N,f.key=key∧f.kn=kn∧(if f.gone=true then f.v=va0 else ∃t∈now,t.v=f.v)
  vals: ∀d f,f∈N→onF d f=true→valF (some f)=valT now d
theorem nwT_ok {now:List Tst} {key:ByteArray} {kn:Int} {s:Sn} (h:ascT now) (hs:s.lo≤s.hi):NwOk now key kn s (nwT now key kn s):=by
 have hc:=cut_val (a:=s.lo) (b:=s.hi) h
 have hin: ∀t∈cutT now s.lo s.hi,(s.lo≤t.lo∧t.hi≤s.hi)∧ ∃u∈now,u.v=t.v:=by
  rw [cutT]
  refine pst_all (P:=fun t=>(s.lo≤t.lo∧t.hi≤s.hi)∧ ∃u∈now,u.v=t.v) (fun x t hx ht e=>⟨⟨hx.1.1,ht.1.2⟩,hx.2⟩) _ _ (fun t ht=>by cases ht) fun t ht _=> ?_
  obtain ⟨u,hu,rfl⟩:=List.mem_map.1 ht
  exact ⟨⟨Int.le_max_right ..,Int.min_le_right ..⟩,u,hu,rfl⟩
 obtain ⟨r1,r2,r3,r4,r5⟩:=nwR_row (key:=key) (kn:=kn) hs _ _ rfl hc.1 fun t ht=>(hin t ht).1
 have hv: ∀d f,f∈(nwR key kn (cutT now s.lo s.hi) s.lo).1→onF d f=true→valF (some f)=valT now d:=fun d f hf hd=>by
  have:=(xo0 r1).2 f hf
  have hd':=xi7.1 hd
  rw [r5 d f hf hd,hc.2.2,if_pos (by omega)]
 have ho: ∀f∈(nwR key kn (cutT now s.lo s.hi) s.lo).1,f.key=key∧f.kn=kn∧(if f.gone=true then f.v=va0 else ∃t∈now,t.v=f.v):=fun f hf=>by
  obtain ⟨a1,a2,a3⟩:=r4 f hf
  refine ⟨a1,a2,?_⟩
  split at a3
  ·rename_i hh;rw [if_pos hh];exact a3
  ·rename_i hh;rw [if_neg hh]
   obtain ⟨t,ht,e⟩:=a3
   obtain ⟨u,hu,e2⟩:=(hin t ht).2
   exact ⟨u,hu,e2.trans e⟩
 rw [nwT,nwP]
 have hps: ∀d,(nwR key kn (cutT now s.lo s.hi) s.lo).2≤d→valT (cutT now s.lo s.hi) d=none:=fun d hd=>xs1 (.inr fun t ht=>by have:=r3 t ht;omega)
 generalize nwR key kn (cutT now s.lo s.hi) s.lo=r at*
 by_cases hg:r.2 < s.hi
 ·rw [if_pos hg]
  refine ⟨rowF_app r1 ⟨rfl,hg,rfl⟩,fun f hf=> ?_,fun d f hf hd=> ?_⟩
  ·rcases List.mem_append.1 hf with h | h
   ·exact ho f h
   ·rw [List.mem_singleton.1 h];exact ⟨rfl,rfl,rfl⟩
  ·rcases List.mem_append.1 hf with h | h
   ·exact hv d f h hd
   ·rw [List.mem_singleton.1 h] at hd ⊢
    have hd:=xi7.1 hd
    have hd1:r.2≤d:=hd.1
    have hd2:d < s.hi:=hd.2
    have:=(xo0 r1).1
    have h0:=hps d hd1
    rw [hc.2.2,if_pos (by omega)] at h0
    rw [h0];rfl
 ·rw [if_neg hg,List.append_nil]
  exact ⟨by rw [show s.hi=r.2 by omega];exact r1,ho,hv⟩
theorem rowF_on {b d:Int}: ∀{xs:List Fa} {a:Int},rowF a b xs→a≤d→d < b→ ∃f∈xs,onF d f=true
 | [],a,h,h1,h2=>by have:a=b:=h;omega
 | x::xs,a,h,h1,h2=>by
  obtain ⟨e,h3,h4⟩:=h
  by_cases c:d < x.hi
  ·exact ⟨x,by simp,xi7.2 ⟨by omega,c⟩⟩
  ·obtain ⟨f,hf,hd⟩:=rowF_on h4 (by omega) h2
   exact ⟨f,List.mem_cons_of_mem _ hf,hd⟩
theorem gF_news {T N:List Fa} {now:List Tst} {d:Int} (hv: ∀f,f∈N→onF d f=true→valF (some f)=valT now d):gF (T++N) d=if ∃f∈N,onF d f=true then valT now d else gF T d:=by
 rw [gF,lastF,List.filter_append]
 split
 ·rename_i h
  obtain ⟨f,hf,hd⟩:=h
  have hne:N.filter (onF d)≠[]:=List.ne_nil_of_mem (List.mem_filter.2 ⟨hf,hd⟩)
  obtain ⟨g,hg⟩: ∃g,(N.filter (onF d)).getLast? =some g:=by
   cases hx:(N.filter (onF d)).getLast? with
   | none=>exact absurd (List.getLast?_eq_none_iff.1 hx) hne
   | some g=>exact ⟨g,rfl⟩
  have hm:=List.mem_filter.1 (List.mem_of_getLast? hg)
  rw [List.getLast?_append,hg]
  exact hv g hm.1 hm.2
 ·rename_i h
  have e:N.filter (onF d)=[]:=List.filter_eq_nil_iff.2 fun f hf hd=>h ⟨f,hf,hd⟩
  rw [e,List.append_nil];rfl
theorem sVal_ok {S:List Sn} (h:sVal S=true): ∀s∈S,0≤s.lo∧s.lo < s.hi∧s.hi≤65536:=fun s hs=>by
 obtain ⟨i,hi,rfl⟩:=List.mem_iff_getElem.1 hs
 have:=xr4 h hi
 rw [List.getD_eq_getElem?_getD,List.getElem?_eq_getElem hi] at this;exact this
theorem nwD_ok {now:List Tst} {key:ByteArray} {kn:Int} {S:List Sn} (h:ascT now) (hS:sVal S=true):
  (∀f∈nwD now key kn S,f.key=key∧f.kn=kn∧(if f.gone=true then f.v=va0 else ∃t∈now,t.v=f.v))∧
  (∀f∈nwD now key kn S,f.lo < f.hi∧ ∃s∈S,s.lo≤f.lo∧f.hi≤s.hi)∧
  (∀d f,f∈nwD now key kn S→onF d f=true→valF (some f)=valT now d)∧
  ∀d,(∃f∈nwD now key kn S,onF d f=true)↔mem S d=true:=by
 have hok: ∀s∈S,NwOk now key kn s (nwT now key kn s):=fun s hs=>nwT_ok h (Int.le_of_lt (sVal_ok hS s hs).2.1)
 refine ⟨fun f hf=> ?_,fun f hf=> ?_,fun d f hf hd=> ?_,fun d=>⟨fun ⟨f,hf,hd⟩=> ?_,fun hm=> ?_⟩⟩
 ·obtain ⟨s,hs,hf⟩:=List.mem_flatMap.1 hf
  exact (hok s hs).ok f hf
 ·obtain ⟨s,hs,hf⟩:=List.mem_flatMap.1 hf
  have:=(xo0 (hok s hs).row).2 f hf
  exact ⟨this.2.1,s,hs,this.1,this.2.2⟩
 ·obtain ⟨s,hs,hf⟩:=List.mem_flatMap.1 hf
  exact (hok s hs).vals d f hf hd
 ·obtain ⟨s,hs,hf⟩:=List.mem_flatMap.1 hf
  have:=(xo0 (hok s hs).row).2 f hf
  have hd:=xi7.1 hd
  exact mem_iff.2 ⟨s,hs,by omega,by omega⟩
 ·obtain ⟨s,hs,h1,h2⟩:=mem_iff.1 hm
  obtain ⟨f,hf,hd⟩:=rowF_on (hok s hs).row h1 h2
  exact ⟨f,List.mem_flatMap.2 ⟨s,hs,hf⟩,hd⟩
def mKey (K:Nat):ByteArray:=match K with
 | 0=>⟨#[99,114,101,100,105,116]⟩
 | 1=>⟨#[102,116,101]⟩
 | _=>⟨#[112,97,121]⟩
theorem mKey_ne {K L:Nat} (hK:K < 3) (hL:L < 3) (h:mKey K=mKey L):K=L:=by
 have key: ∀K L:Fin 3,mKey K.val=mKey L.val→K=L:=by decide
 exact congrArg Fin.val (key ⟨K,hK⟩ ⟨L,hL⟩ h)
theorem getI_at {l:List Int} {j:Nat} (hj:j < l.length):l.getD j 0=l[j]:=by rw [List.getD_eq_getElem?_getD,List.getElem?_eq_getElem hj];rfl
def knL (l:List Ev):List Int:=brd (l.map (·.kn))
def befT (K:Nat) (l:List Ev) (ks:List Int) (j:Nat):List Tst:=if j=0 then [] else mT K (inf l (ks.getD (j - 1) 0))
def fcJ (l:List Ev) (ks:List Int) (j K:Nat):List Fa:=nwD (mT K (inf l (ks.getD j 0))) (mKey K) (ks.getD j 0) (dfS (befT K l ks j) (mT K (inf l (ks.getD j 0))))
def fcK (l:List Ev) (ks:List Int) (j n:Nat):List Fa:=(List.range n).flatMap (fcJ l ks j)
def fcts (l:List Ev) (ks:List Int) (n:Nat):List Fa:=(List.range n).flatMap fun j=>fcK l ks j 3
def fctL (l:List Ev):List Fa:=fcts l (knL l) (knL l).length
theorem xj7 {l:List Ev} {ks:List Int} {j n:Nat}:fcK l ks j (n+1)=fcK l ks j n++fcJ l ks j n:=by rw [fcK,fcK,List.range_succ,List.flatMap_append];simp
theorem xj2 {l:List Ev} {ks:List Int} {n:Nat}:fcts l ks (n+1)=fcts l ks n++fcK l ks n 3:=by rw [fcts,fcts,List.range_succ,List.flatMap_append];simp
theorem frc_same {l:List Ev} {k k':Int} (hv: ∀i,i < l.length→EOk l i) (h: ∀i,i < l.length→((l.getD i ev0).kn≤k↔(l.getD i ev0).kn≤k')): ∀i,i < l.length→frc l k i=frc l k' i:=fun i hi=>
 frc_uniq hv (fun i hi=>by rw [frc_iff hv hi,h i hi]) l.length i (by omega) hi
theorem inf_same {l:List Ev} {k k':Int} (hv: ∀i,i < l.length→EOk l i) (h: ∀i,i < l.length→((l.getD i ev0).kn≤k↔(l.getD i ev0).kn≤k')):inf l k=inf l k':=inf_congr rfl (frc_same hv h) fun _ _ _=>rfl
theorem inf_none {l:List Ev} {k:Int} (hv: ∀i,i < l.length→EOk l i) (h: ∀i,i < l.length→k < (l.getD i ev0).kn):inf l k=[]:=by
 rw [inf,infI,List.filter_eq_nil_iff.2 fun i hi h'=> ?_]
 ·rfl
 ·have hi:=List.mem_range.1 hi
  have h1:=(frc_iff hv hi).1 h'
  have:=h i hi;omega
theorem mT_nil (K:Nat):mT K []=[]:=by
 have:kD K []=[]:=by rw [kD];split <;> exact List.eq_nil_of_length_eq_zero (Nat.le_zero.1 (xr3 []))
 rw [mT,this];rfl
def hsK (l:List Ev) (ks:List Int) (K m:Nat):List Fa:=(List.range m).flatMap fun j=>fcJ l ks j K
theorem hsK_next {l:List Ev} {ks:List Int} {K m:Nat}:hsK l ks K (m+1)=hsK l ks K m++fcJ l ks m K:=by rw [hsK,hsK,List.range_succ,List.flatMap_append];simp
section
variable {D B:Int} {l:List Ev}
structure GR (D B:Int) (l:List Ev):Prop where
  len:l.length≤100
  ok: ∀i,i < l.length→EOk l i
  fr:gE D B l
  d0:0 < D
  d1:D≤9223372036854775807
  b0:0≤B
  b1:B≤92233720368547758
theorem GR.inf_len (h:GR D B l) (k:Int):(inf l k).length≤100:=Nat.le_trans An.inf_len h.len
theorem GR.tl (h:GR D B l) (K:Nat) (k:Int):isG (kK K) D (100*B) (mT K (inf l k)):=mT_ok K (inf_cal h.ok) (inf_gE h.fr) h.d0 h.d1 h.b0 h.b1 (h.inf_len k)
theorem GR.bef (h:GR D B l) (K:Nat) (ks:List Int) (j:Nat):isG (kK K) D (100*B) (befT K l ks j):=by
 rw [befT]
 split
 ·exact isG_nil
 ·exact h.tl K _
theorem GR.df (h:GR D B l) (K:Nat) (ks:List Int) (j:Nat):sVal (dfS (befT K l ks j) (mT K (inf l (ks.getD j 0))))=true∧ ∀d,mem (dfS (befT K l ks j) (mT K (inf l (ks.getD j 0)))) d=true↔valT (befT K l ks j) d≠valT (mT K (inf l (ks.getD j 0))) d:=by
 have hd:=dfS_set (h.bef K ks j).1 (h.tl K (ks.getD j 0)).1
 exact ⟨hd.1,fun d=>by rw [hd.2,An.S.dfB,decide_eq_true_eq]⟩
theorem GR.fcJ (h:GR D B l) (ks:List Int) (j K:Nat):
  (∀f∈fcJ l ks j K,f.key=mKey K∧f.kn=ks.getD j 0∧(if f.gone=true then f.v=va0 else gOk (kK K) D (100*B) f.v))∧
  (∀f∈fcJ l ks j K,0≤f.lo∧f.lo < f.hi∧f.hi≤65536)∧
  (∀d f,f∈fcJ l ks j K→onF d f=true→valF (some f)=valT (mT K (inf l (ks.getD j 0))) d)∧
  ∀d,(∃f∈fcJ l ks j K,onF d f=true)↔valT (befT K l ks j) d≠valT (mT K (inf l (ks.getD j 0))) d:=by
 have ht:=h.tl K (ks.getD j 0)
 have hd:=h.df K ks j
 obtain ⟨n1,n2,n3,n4⟩:=nwD_ok (key:=mKey K) (kn:=ks.getD j 0) ht.asc hd.1
 refine ⟨fun f hf=> ?_,fun f hf=> ?_,n3,fun d=>(n4 d).trans (hd.2 d)⟩
 ·obtain ⟨a,b,c⟩:=n1 f hf
  refine ⟨a,b,?_⟩
  split at c
  ·rename_i hg;rw [if_pos hg];exact c
  ·rename_i hg;rw [if_neg hg]
   obtain ⟨t,ht2,e⟩:=c
   rw [←e];exact ht.2 t ht2
 ·obtain ⟨a,s,hs,b,c⟩:=n2 f hf
  have:=sVal_ok hd.1 s hs
  omega
theorem GR.view (h:GR D B l) (ks:List Int) (K:Nat) (d:Int): ∀m,gF (hsK l ks K m) d=valT (befT K l ks m) d
 | 0=>rfl
 | m+1=>by
  obtain ⟨_,_,n3,n4⟩:=h.fcJ ks m K
  rw [hsK_next,gF_news (n3 d),h.view ks K d m]
  have e:befT K l ks (m+1)=mT K (inf l (ks.getD m 0)):=by rw [befT,if_neg (by omega)];rfl
  rw [e]
  split
  ·rfl
  ·rename_i hh
   exact Decidable.of_not_not fun hn=>hh ((n4 d).2 hn)
theorem flt_K (h:GR D B l) {ks:List Int} {K:Nat} (hK:K < 3) {k:Int} (j:Nat):(fcK l ks j 3).filter (fun f=>decide (f.key=mKey K) && decide (f.kn≤k))=if ks.getD j 0≤k then An.fcJ l ks j K else []:=by
 have one: ∀L,L < 3→(An.fcJ l ks j L).filter (fun f=>decide (f.key=mKey K) && decide (f.kn≤k))=if L=K∧ks.getD j 0≤k then An.fcJ l ks j L else []:=fun L hL=>by
  obtain ⟨n1,_⟩:=h.fcJ ks j L
  split
  ·rename_i hc
   refine List.filter_eq_self.2 fun f hf=> ?_
   obtain ⟨a,b,_⟩:=n1 f hf
   rw [a,b,hc.1,decide_eq_true rfl,decide_eq_true hc.2];rfl
  ·rename_i hc
   refine List.filter_eq_nil_iff.2 fun f hf hh=>hc ?_
   obtain ⟨a,b,_⟩:=n1 f hf
   rw [Bool.and_eq_true,decide_eq_true_eq,decide_eq_true_eq,a,b] at hh
   exact ⟨mKey_ne hL hK hh.1,hh.2⟩
 have e3:fcK l ks j 3=An.fcJ l ks j 0++An.fcJ l ks j 1++An.fcJ l ks j 2:=by rw [xj7,xj7,xj7];rfl
 rw [e3,List.filter_append,List.filter_append,one 0 (by decide),one 1 (by decide),one 2 (by decide)]
 by_cases c:ks.getD j 0≤k
 ·match K,hK with
  | 0,_=>simp
  | 1,_=>simp
  | 2,_=>simp
 ·simp only [c,and_false,if_false,List.append_nil]
theorem flt_fcts (h:GR D B l) {ks:List Int} (hp:ks.Pairwise (· < ·)) {K:Nat} (hK:K < 3) {k:Int} {m:Nat} (hm:m≤ks.length) (h1: ∀j,j < m→ks.getD j 0≤k) (h2: ∀j,m≤j→j < ks.length→k < ks.getD j 0): ∀n,n≤ks.length→(fcts l ks n).filter (fun f=>decide (f.key=mKey K) && decide (f.kn≤k))=hsK l ks K (min n m)
 | 0,_=>by rw [Nat.zero_min];rfl
 | n+1,hn=>by
  rw [xj2,List.filter_append,flt_fcts h hp hK hm h1 h2 n (by omega),flt_K h hK]
  by_cases c:n < m
  ·rw [if_pos (h1 n c),show min (n+1) m=min n m+1 by omega,hsK_next,show min n m=n by omega]
  ·rw [if_neg (by have:=h2 n (by omega) (by omega);omega),List.append_nil,show min (n+1) m=min n m by omega]
theorem fcK_mem {ks:List Int} {j n:Nat} {f:Fa}:f∈fcK l ks j n↔ ∃K,K < n∧f∈An.fcJ l ks j K:=by
 rw [fcK,List.mem_flatMap]
 exact exists_congr fun K=>and_congr_left fun _=>List.mem_range
theorem fcts_mem {ks:List Int} {n:Nat} {f:Fa}:f∈fcts l ks n↔ ∃j,j < n∧ ∃K,K < 3∧f∈An.fcJ l ks j K:=by
 rw [fcts,List.mem_flatMap]
 constructor
 ·rintro ⟨j,hj,hf⟩;exact ⟨j,List.mem_range.1 hj,fcK_mem.1 hf⟩
 ·rintro ⟨j,hj,hf⟩;exact ⟨j,List.mem_range.2 hj,fcK_mem.2 hf⟩
theorem fcts_srt (h:GR D B l) {ks:List Int} (hp:ks.Pairwise (· < ·)): ∀n,n≤ks.length→Srt Fa.kn (fcts l ks n)
 | 0,_=>List.Pairwise.nil
 | n+1,hn=>by
  rw [xj2]
  refine List.pairwise_append.2 ⟨fcts_srt h hp n (by omega),?_,fun a ha b hb=> ?_⟩
  ·refine List.Pairwise.imp_of_mem (R:=fun _ _=>True) (fun {a b} ha hb _=> ?_) (List.pairwise_of_forall (fun _ _=>trivial))
   obtain ⟨K,_,ha⟩:=fcK_mem.1 ha
   obtain ⟨L,_,hb⟩:=fcK_mem.1 hb
   rw [((h.fcJ ks n K).1 a ha).2.1,((h.fcJ ks n L).1 b hb).2.1];exact Int.le_refl _
  ·obtain ⟨j,hj,K,_,ha⟩:=fcts_mem.1 ha
   obtain ⟨L,_,hb⟩:=fcK_mem.1 hb
   rw [((h.fcJ ks j K).1 a ha).2.1,((h.fcJ ks n L).1 b hb).2.1]
   exact Int.le_of_lt (pw_lt hp hj (by omega))
theorem knL_pw:(knL l).Pairwise (· < ·):=(xf2 _).1
theorem knL_mem {x:Int}:x∈knL l↔ ∃e∈l,e.kn=x:=by rw [knL,(xf2 _).2,List.mem_map]
theorem knL_cut (ks:List Int) (hp:ks.Pairwise (· < ·)) (k:Int): ∃m,m≤ks.length∧(∀j,j < m→ks.getD j 0≤k)∧ ∀j,m≤j→j < ks.length→k < ks.getD j 0:=by
 refine ⟨ixD ks (k+1),ixD_le,fun j hj=> ?_,fun j hj hj2=> ?_⟩
 ·have:=(ixD_lt (x:=k+1) hp (p:=j) (Nat.lt_of_lt_of_le hj ixD_le)).1 hj;omega
 ·have:=fun h=>(ixD_lt (x:=k+1) hp (p:=j) hj2).2 h
  rcases Int.lt_or_le k (ks.getD j 0) with h | h
  ·exact h
  ·have:=this (by omega);omega
theorem GR.views (h:GR D B l) {K:Nat} (hK:K < 3) (k:Int):vwT (toldT (fctL l) (mKey K) k)=mT K (inf l k):=by
 obtain ⟨m,hm,h1,h2⟩:=knL_cut (knL l) knL_pw k
 have e1:toldT (fctL l) (mKey K) k=hsK l (knL l) K m:=by
  rw [toldT,fctL,flt_fcts h knL_pw hK hm h1 h2 _ (Nat.le_refl _),Nat.min_eq_right hm]
  refine ssort_id ?_
  have e:=flt_fcts h knL_pw hK hm h1 h2 _ (Nat.le_refl _)
  rw [Nat.min_eq_right hm] at e
  rw [←e]
  exact (fcts_srt h knL_pw _ (Nat.le_refl _)).sublist List.filter_sublist
 have e2:mT K (inf l k)=befT K l (knL l) m:=by
  rw [befT]
  split
  ·rename_i hm0
   rw [inf_none h.ok fun i hi=> ?_,mT_nil]
   obtain ⟨j,hj,e⟩:=List.mem_iff_getElem.1 (knL_mem.2 ⟨_,mem_getE hi,rfl⟩)
   have:=h2 j (by omega) hj
   rw [getI_at hj,e] at this;exact this
  ·rename_i hm0
   rw [inf_same (k':=(knL l).getD (m - 1) 0) h.ok fun i hi=> ?_]
   obtain ⟨j,hj,e⟩:=List.mem_iff_getElem.1 (knL_mem.2 ⟨_,mem_getE hi,rfl⟩)
   have e':(l.getD i ev0).kn=(knL l).getD j 0:=by rw [getI_at hj,e]
   rw [e']
   constructor
   ·intro hle
    rcases Nat.lt_or_ge j m with c | c
    ·rcases Nat.lt_or_ge j (m - 1) with c2 | c2
     ·exact Int.le_of_lt (pw_lt knL_pw c2 (by omega))
     ·rw [show j=m - 1 by omega];exact Int.le_refl _
    ·have:=h2 j c hj;omega
   ·intro hle
    have:=h1 (m - 1) (by omega);omega
 rw [e1,e2]
 refine tl_ext (vw_asc _).1 (vw_asc _).2 (h.bef K _ m).asc (h.bef K _ m).nb fun d=> ?_
 rw [vw_val,h.view]
end
end An
namespace An.S
open Go Go.Proofs An
end An.S
namespace An.S
open Go
theorem sVal_lo {l:List Sn} (h:sVal l=true): ∀i,i < l.length→(i:Int)≤(l.getD i sn0).lo
 | 0,hi=>(xr4 h hi).1
 | i+1,hi=>by
  have ih:=sVal_lo h i (by omega)
  have h1:=xr4 h (i:=i) (by omega)
  have h2:=sVal_lt h (show i < i+1 by omega) hi
  omega
theorem sVal_len {l:List Sn} (h:sVal l=true):l.length≤65536:=by
 rcases Nat.eq_zero_or_pos l.length with h0 | h0
 ·omega
 ·have h1:=sVal_lo h (l.length - 1) (by omega)
  have h2:=xr4 h (i:=l.length - 1) (by omega)
  omega
section
variable {D B:Int} {a b:List Fa} {f:Fa} {key:ByteArray} {kn:Int}
end
end An.S
namespace An
open Go An.S
theorem pw_sub: ∀{xs ys:List Int},xs.Pairwise (· < ·)→ys.Pairwise (· < ·)→(∀x∈xs,x∈ys)→xs.length≤ys.length
 | [],ys,_,_,_=>Nat.zero_le _
 | x::xs,[],_,_,h=>absurd (h x (List.mem_cons_self ..)) List.not_mem_nil
 | x::xs,y::ys,hx,hy,h=>by
  have hx1:=List.pairwise_cons.1 hx
  have hy1:=List.pairwise_cons.1 hy
  have hsub: ∀z∈xs,z∈ys:=fun z hz=>by
   rcases List.mem_cons.1 (h z (List.mem_cons_of_mem _ hz)) with e | e
   ·have h1:=hx1.1 z hz
    rcases List.mem_cons.1 (h x (List.mem_cons_self ..)) with e2 | e2
    ·omega
    ·have:=hy1.1 x e2;omega
   ·exact e
  have:=pw_sub hx1.2 hy1.2 hsub
  simp only [List.length_cons];omega
theorem pw_ext: ∀{xs ys:List Int},xs.Pairwise (· < ·)→ys.Pairwise (· < ·)→(∀x,x∈xs↔x∈ys)→xs=ys
 | [],[],_,_,_=>rfl
 | [],y::ys,_,_,h=>absurd ((h y).2 (List.mem_cons_self ..)) List.not_mem_nil
 | x::xs,[],_,_,h=>absurd ((h x).1 (List.mem_cons_self ..)) List.not_mem_nil
 | x::xs,y::ys,hx,hy,h=>by
  have hx1:=List.pairwise_cons.1 hx
  have hy1:=List.pairwise_cons.1 hy
  have exy:x=y:=by
   rcases List.mem_cons.1 ((h x).1 (List.mem_cons_self ..)) with e | e
   ·exact e
   ·rcases List.mem_cons.1 ((h y).2 (List.mem_cons_self ..)) with e2 | e2
    ·exact e2.symm
    ·have:=hy1.1 x e;have:=hx1.1 y e2;omega
  subst exy
  rw [pw_ext hx1.2 hy1.2 fun z=> ?_]
  constructor
  ·intro hz
   rcases List.mem_cons.1 ((h z).1 (List.mem_cons_of_mem _ hz)) with e | e
   ·have:=hx1.1 z hz;omega
   ·exact e
  ·intro hz
   rcases List.mem_cons.1 ((h z).2 (List.mem_cons_of_mem _ hz)) with e | e
   ·have:=hy1.1 z hz;omega
   ·exact e
theorem brd_ext {xs ys:List Int} (h: ∀x,x∈xs↔x∈ys):brd xs=brd ys:=pw_ext (xf2 _).1 (xf2 _).1 fun x=>by rw [(xf2 xs).2,(xf2 ys).2,h]
def endS (E:List Int) (l:List Sn):Prop:= ∀s∈l,s.lo∈E∧s.hi∈E
theorem mrg_ends {E:List Int}: ∀(xs acc:List Sn),endS E xs→endS E acc→endS E (xs.foldl mrg1 acc)
 | [],acc,_,h=>h
 | x::xs,acc,hx,h=>by
  refine mrg_ends xs (mrg1 acc x) (fun s hs=>hx s (List.mem_cons_of_mem _ hs)) ?_
  have h0:=hx x (List.mem_cons_self ..)
  rw [mrg1]
  split
  ·rename_i hc
   have hl:acc.getD (acc.length - 1) sn0∈acc:=by
    rw [List.getD_eq_getElem?_getD,List.getElem?_eq_getElem (by omega)];exact List.getElem_mem _
   have h1:=h _ hl
   intro s hs
   rcases List.mem_or_eq_of_mem_set hs with hs | rfl
   ·exact h s hs
   ·refine ⟨h1.1,?_⟩
    show max _ _∈E
    rcases Int.le_total (acc.getD (acc.length - 1) sn0).hi x.hi with c | c
    ·rw [Int.max_eq_right c];exact h0.2
    ·rw [Int.max_eq_left c];exact h1.2
  ·intro s hs
   rcases List.mem_append.1 hs with hs | hs
   ·exact h s hs
   ·rw [List.mem_singleton.1 hs];exact h0
theorem pst_ends {E:List Int} {ps:List Tst} (h:ends E ps):ends E (pst [] ps):=pst_all (P:=fun s=>s.lo∈E∧s.hi∈E) (fun a s ha hs _=>⟨ha.1,hs.2⟩) _ _ (fun s hs=>by cases hs) fun s hs _=>h s hs
theorem cut_ends {E:List Int} {l:List Tst} {a b:Int} (h:ends E l) (ha:a∈E) (hb:b∈E):ends E (cutT l a b):=by
 rw [cutT]
 refine pst_ends fun s hs=> ?_
 obtain ⟨t,ht,rfl⟩:=List.mem_map.1 hs
 have:=h t ht
 refine ⟨?_,?_⟩
 ·show max t.lo a∈E
  rcases Int.le_total t.lo a with c | c
  ·rw [Int.max_eq_right c];exact ha
  ·rw [Int.max_eq_left c];exact this.1
 ·show min t.hi b∈E
  rcases Int.le_total t.hi b with c | c
  ·rw [Int.min_eq_left c];exact this.2
  ·rw [Int.min_eq_right c];exact hb
def dyA (l:List Ev):List Int:=brd (l.flatMap dyE++[65536])
theorem dyA_len {l:List Ev}:(dyA l).length≤2*l.length+1:=by
 have h:=xr3 (l.flatMap dyE++[65536])
 have h2:=flat2 l
 rw [List.length_append,List.length_singleton] at h
 rw [dyA];omega
theorem mT_ends {l:List Ev} (K:Nat) (k:Int):ends (dyA l) (mT K (inf l k)):=by
 rw [mT]
 refine pst_ends fun s hs=> ?_
 obtain ⟨h1,h2,_⟩:=segL_mem hs
 have key: ∀x∈kD K (inf l k)++[65536],x∈dyA l:=fun x hx=>by
  rw [dyA,(xf2 _).2]
  rcases List.mem_append.1 hx with h | h
  ·have hF: ∃e∈inf l k,x∈dyE e:=by
    rw [kD] at h
    split at h
    ·obtain ⟨e,he,hk,rfl⟩:=dyC_mem.1 h
     exact ⟨e,he,dyE_mem.2 ⟨by omega,.inl rfl⟩⟩
    ·obtain ⟨e,he,hk,hh⟩:=dyF_mem.1 h
     exact ⟨e,he,dyE_mem.2 ⟨hk,hh⟩⟩
   obtain ⟨e,he,hx⟩:=hF
   obtain ⟨i,hi,_,rfl⟩:=inf_mem he
   exact List.mem_append_left _ (List.mem_flatMap.2 ⟨_,mem_getE hi,hx⟩)
  ·exact List.mem_append_right _ h
 exact ⟨key _ h1,key _ h2⟩
theorem df_ends {E:List Int} {a b:List Tst} (ha:ends E a) (hb:ends E b):endS E (dfS a b):=by
 have h0: ∀i,i < (bds [a,b]).length→(bds [a,b]).getD i 0∈E:=fun i hi=>by
  obtain ⟨l,hl,s,hs,e⟩:=bds_mem.1 (getD_memI hi)
  have:ends E l:=by
   simp only [List.mem_cons,List.not_mem_nil,or_false] at hl
   rcases hl with rfl | rfl
   ·exact ha
   ·exact hb
  rcases e with e | e
  ·rw [e];exact (this s hs).1
  ·rw [e];exact (this s hs).2
 have h1:endS E (dfT a b):=fun s hs=>by
  obtain ⟨i,hi,hs⟩:=List.mem_flatMap.1 hs
  have hi:=List.mem_range.1 hi
  rw [dfI] at hs
  split at hs
  ·rw [List.mem_singleton.1 hs];exact ⟨h0 i (by omega),h0 (i+1) (by omega)⟩
  ·cases hs
 rw [dfS,mkS]
 refine mrg_ends _ _ (fun s hs=> ?_) fun s hs=>by cases hs
 exact h1 s (List.mem_filter.1 ((srt_spec swoSn _).2.1.mem_iff.1 hs)).1
theorem rowF_pw {b:Int}: ∀{xs:List Fa} {a:Int},rowF a b xs→xs.Pairwise fun f g=>f.hi≤g.lo
 | [],_,_=> .nil
 | _::_,_,h=>List.pairwise_cons.2 ⟨fun g hg=>((xo0 h.2.2).2 g hg).1,rowF_pw h.2.2⟩
theorem nwR_ends {E:List Int} {key:ByteArray} {kn a:Int} (ps:List Tst) (h:ends E ps) (ha:a∈E):(nwR key kn ps a).2∈E∧ ∀f∈(nwR key kn ps a).1,f.lo∈E:=
 xs3 (C:=fun ps=>ends E ps→(nwR key kn ps a).2∈E∧ ∀f∈(nwR key kn ps a).1,f.lo∈E) (fun _=>⟨ha,fun f hf=>by cases hf⟩) (fun ps x ih h=>by
  obtain ⟨h1,h2⟩:=ih fun s hs=>h s (List.mem_append_left _ hs)
  have hx:=h x (by simp)
  have e:nwR key kn (ps++[x]) a=nw1 key kn (nwR key kn ps a) x:=by rw [nwR,List.foldl_append];rfl
  rw [e]
  refine ⟨hx.2,fun f hf=> ?_⟩
  rw [nw1] at hf
  rcases List.mem_append.1 hf with h3 | h3
  ·split at h3
   ·rcases List.mem_append.1 h3 with h4 | h4
    ·exact h2 f h4
    ·rw [List.mem_singleton.1 h4];exact h1
   ·exact h2 f h3
  ·rw [List.mem_singleton.1 h3];exact hx.1) ps.length ps rfl h
theorem nwT_ends {E:List Int} {now:List Tst} {key:ByteArray} {kn:Int} {s:Sn} (h:ends E now) (hs:s.lo∈E∧s.hi∈E): ∀f∈nwT now key kn s,f.lo∈E:=fun f hf=>by
 obtain ⟨h1,h2⟩:=nwR_ends (key:=key) (kn:=kn) _ (cut_ends h hs.1 hs.2) hs.1
 rw [nwT,nwP] at hf
 rcases List.mem_append.1 hf with h3 | h3
 ·exact h2 f h3
 ·split at h3
  ·rw [List.mem_singleton.1 h3];exact h1
  ·cases h3
theorem sVal_pw {S:List Sn} (h:sVal S=true):S.Pairwise fun s t=>s.hi≤t.lo:=by
 refine List.pairwise_iff_getElem.2 fun i j hi hj hij=> ?_
 have:=sVal_lt h hij hj
 simp only [List.getD_eq_getElem?_getD,List.getElem?_eq_getElem hi,List.getElem?_eq_getElem hj,Option.getD_some] at this
 omega
theorem nwD_pw {now:List Tst} {key:ByteArray} {kn:Int} (h:ascT now): ∀{S:List Sn},(∀s∈S,s.lo < s.hi)→S.Pairwise (fun s t=>s.hi≤t.lo)→(nwD now key kn S).Pairwise fun f g=>f.hi≤g.lo
 | [],_,_=> .nil
 | s::S,h1,h2=>by
  have h3:=List.pairwise_cons.1 h2
  have hs:=h1 s (List.mem_cons_self ..)
  have hr:=(nwT_ok (key:=key) (kn:=kn) (s:=s) h (Int.le_of_lt hs)).row
  rw [nwD,List.flatMap_cons]
  refine List.pairwise_append.2 ⟨rowF_pw hr,nwD_pw h (fun t ht=>h1 t (List.mem_cons_of_mem _ ht)) h3.2,fun f hf g hg=> ?_⟩
  obtain ⟨t,ht,hg⟩:=List.mem_flatMap.1 hg
  have ht0:=h1 t (List.mem_cons_of_mem _ ht)
  have:=(xo0 hr).2 f hf
  have:=(xo0 (nwT_ok (key:=key) (kn:=kn) (s:=t) h (Int.le_of_lt ht0)).row).2 g hg
  have:=h3.1 t ht
  omega
theorem GR.fcJ_len {D B:Int} {l:List Ev} (h:GR D B l) (ks:List Int) (j K:Nat):(An.fcJ l ks j K).length≤2*l.length+1:=by
 have hb:ends (dyA l) (befT K l ks j):=by
  rw [befT]
  split
  ·exact fun s hs=>by cases hs
  ·exact mT_ends K _
 have hn:ends (dyA l) (mT K (inf l (ks.getD j 0))):=mT_ends K _
 have hS:=df_ends hb hn
 have hv:=(h.df K ks j).1
 have hp:=nwD_pw (key:=mKey K) (kn:=ks.getD j 0) (h.tl K (ks.getD j 0)).asc (fun s hs=>(sVal_ok hv s hs).2.1) (sVal_pw hv)
 have hlo:=(h.fcJ ks j K).2.1
 have hm:((An.fcJ l ks j K).map (·.lo)).length≤(dyA l).length:=pw_sub (by
  refine List.pairwise_map.2 ?_
  refine List.Pairwise.imp_of_mem (fun {f g} hf _ hfg=> ?_) hp
  have:=hlo f hf;omega) (xf2 _).1 fun x hx=>by
   obtain ⟨f,hf,rfl⟩:=List.mem_map.1 hx
   obtain ⟨s,hs,hf⟩:=List.mem_flatMap.1 hf
   exact nwT_ends hn (hS s hs) f hf
 rw [List.length_map] at hm
 exact Nat.le_trans hm dyA_len
theorem GR.fcK_len {D B:Int} {l:List Ev} (h:GR D B l) (ks:List Int) (j:Nat): ∀n,(fcK l ks j n).length≤n*(2*l.length+1)
 | 0=>by simp [fcK]
 | n+1=>by
  rw [xj7,List.length_append]
  have:=h.fcK_len ks j n
  have:=h.fcJ_len ks j n
  rw [Nat.succ_mul];omega
theorem GR.fcts_len {D B:Int} {l:List Ev} (h:GR D B l) (ks:List Int): ∀n,(fcts l ks n).length≤n*(3*(2*l.length+1))
 | 0=>by simp [fcts]
 | n+1=>by
  rw [xj2,List.length_append]
  have:=h.fcts_len ks n
  have:=h.fcK_len ks n 3
  rw [Nat.succ_mul];omega
theorem knL_len {l:List Ev}:(knL l).length≤l.length:=by
 have:=xr3 (l.map (·.kn));rw [List.length_map] at this;exact this
theorem kGet_of {κ:ByteArray→Nat}: ∀(a:List Fa),(∀f∈a,f.v.kind=if f.gone=true then 0 else κ f.key)→ ∀key,kGet (kM a) key=0∨kGet (kM a) key=κ key:=fun a=>
 xs3 (C:=fun a=>(∀f∈a,f.v.kind=if f.gone=true then 0 else κ f.key)→ ∀key,kGet (kM a) key=0∨kGet (kM a) key=κ key) (fun _ _=> .inl rfl) (fun a f ih h key=>by
  have ih:=ih fun x hx=>h x (List.mem_append_left _ hx)
  have hf:=h f (by simp)
  rw [kM_app]
  split
  ·rename_i hk
   rw [hf,hk]
   have h1:=ih key
   split
   ·rw [Nat.max_eq_left (Nat.zero_le _)];exact h1
   ·refine .inr ?_
    rcases h1 with e | e
    ·rw [e,Nat.max_eq_right (Nat.zero_le _)]
    ·rw [e,Nat.max_self]
  ·exact ih key) a.length a rfl
theorem kOk_of {κ:ByteArray→Nat} {a:List Fa} (h: ∀f∈a,f.v.kind=if f.gone=true then 0 else κ f.key):kOk a=true:=by
 refine List.all_eq_true.2 fun i hi=> ?_
 have hi:=List.mem_range.1 hi
 cases hb:kBad (kM (a.take i)) (a.getD i fa0) with
 | false=>rfl
 | true=>
  obtain ⟨h1,h2,h3⟩:=kBad_iff.1 hb
  have hf:=h _ (mem_getDF hi)
  rw [if_neg (by rw [h2];decide)] at hf
  rcases kGet_of (κ:=κ) (a.take i) (fun f hf=>h f ((List.take_sublist ..).subset hf)) (a.getD i fa0).key with e | e
  ·exact absurd e h1
  ·exact absurd (e.trans hf.symm) h3
theorem GR.rcd {D B:Int} {l:List Ev} (h:GR D B l) (hl:l.length≤16):(fctL l).length≤2000∧recOk (fctL l)=true:=by
 have hlen:(fctL l).length≤2000:=by
  have h1:=h.fcts_len (knL l) (knL l).length
  have h2:(knL l).length*(3*(2*l.length+1))≤16*(3*(2*16+1)):=Nat.mul_le_mul (Nat.le_trans knL_len hl) (by omega)
  rw [fctL];omega
 have hm: ∀f∈fctL l,∃j K,j < (knL l).length∧K < 3∧f∈An.fcJ l (knL l) j K:=fun f hf=>by
  obtain ⟨j,hj,K,hK,hf⟩:=fcts_mem.1 hf
  exact ⟨j,K,hj,hK,hf⟩
 have hkn: ∀j,j < (knL l).length→0≤(knL l).getD j 0∧(knL l).getD j 0 < 65536:=fun j hj=>by
  obtain ⟨e,he,e2⟩:=knL_mem.1 (getD_memI hj)
  obtain ⟨i,hi,rfl⟩:=List.mem_iff_getElem.1 he
  have:=h.ok i hi
  have n1:=this.n1
  have n2:=this.n2
  rw [List.getD_eq_getElem?_getD,List.getElem?_eq_getElem hi] at n1 n2
  rw [←e2];exact ⟨n1,n2⟩
 refine ⟨hlen,?_⟩
 rw [recOk,Bool.and_eq_true,Bool.and_eq_true]
 refine ⟨⟨decide_eq_true hlen,List.all_eq_true.2 fun f hf=> ?_⟩,kOk_of (κ:=fun key=>if key=mKey 2 then 3 else 2) fun f hf=> ?_⟩
 ·obtain ⟨j,K,hj,hK,hf⟩:=hm f hf
  obtain ⟨n1,n2,_⟩:=h.fcJ (knL l) j K
  obtain ⟨a,b,c⟩:=n1 f hf
  obtain ⟨d,e,g⟩:=n2 f hf
  have hk:=hkn j hj
  have hsz:1≤(mKey K).size∧(mKey K).size≤24:=by
   match K,hK with
   | 0,_=>decide
   | 1,_=>decide
   | 2,_=>decide
  rw [←a] at hsz
  rw [←b] at hk
  simp only [fRight,decide_eq_true hsz.1,decide_eq_true hsz.2,decide_eq_true d,decide_eq_true e,decide_eq_true g,decide_eq_true hk.1,decide_eq_true hk.2,Bool.true_and]
  split at c
  ·rename_i hg;rw [if_pos hg];exact decide_eq_true c
  ·rename_i hg;rw [if_neg hg];exact c.1.1
 ·obtain ⟨j,K,hj,hK,hf⟩:=hm f hf
  obtain ⟨n1,_⟩:=h.fcJ (knL l) j K
  obtain ⟨a,b,c⟩:=n1 f hf
  split at c
  ·rename_i hg;rw [if_pos hg,c];rfl
  ·rename_i hg;rw [if_neg hg,c.1.2.1,a,kK]
   by_cases e:K=2
   ·subst e;rfl
   ·rw [if_neg e,if_neg fun he=>e (mKey_ne hK (by decide) he)]
end An
namespace An.S
open Go Go.Proofs An
instance fi125:FnI Tryz.prog 125:=⟨_,Tryz.func125,by kernel_rfl,rfl⟩
instance fi127:FnI Tryz.prog 127:=⟨_,Tryz.func127,by kernel_rfl,rfl⟩
theorem zr3:(Tryz.prog.info? 3).bind (·.zero)=some (.int .i64 0)∧ ∀F w,(tE (.int .i64 0)).p F w (.int .i64 0):=⟨by kernel_rfl,fun _ _=>rfl⟩
theorem zr24:(Tryz.prog.info? 24).bind (·.zero)=some (.slice none 0 0)∧ ∀F w,(tE (.slice none 0 0)).p F w (.slice none 0 0):=⟨by kernel_rfl,fun _ _=>rfl⟩
def crV (cs:List EvC) (d:Int):Rat:=crS cs (upC cs d)
theorem c_creditV (cs:List EvC) (hk:CrOk cs) (hcl:cs.length≤1000) (n:Nat) (d:Int) (hn:n≤upC cs d):CtG Tryz.prog 127 [(1,⟨3,1,false,[.val (tI ((n:Nat):Int))]⟩),(2,⟨24,1,false,[.val (tL 14 true tEvC cs)]⟩),(3,⟨30,4,true,[.val (tFr (fr (crS cs n)))]⟩)] [.val (tI d),.own (.ptr 1 0),.own (.ptr 2 0),.own (.ptr 3 0)] (.val (tT [tFr (fr (crV cs d)),tB true])) [(1,⟨3,1,false,[.val (tI (((upC cs d):Nat):Int))]⟩),(2,⟨24,1,false,[.val (tL 14 true tEvC cs)]⟩),(3,⟨30,4,true,[.val (tFr (fr (crS cs (upC cs d))))]⟩)] []:=c_credit2 cs hk hcl n d hn
theorem c_stepsCredit (ds:List Int) (hds:(ds++[65536]).Pairwise (· < ·)) (hdl:ds.length≤1000) (cs:List EvC) (hcr:CrOk cs) (hcl:cs.length≤1000):
  CtG Tryz.prog 118 [(101,⟨3,1,false,[.val (tI (((nxC cs ds 0):Nat):Int))]⟩),(102,⟨24,1,false,[.val (tL 14 true tEvC cs)]⟩),(103,⟨30,4,true,[.val (tFr (fr (crS cs (nxC cs ds 0))))]⟩)] [.val (tL 1 false tI ds),.val (tE (.int .u8 2)),.own (.fn 127 [.ptr 101 0,.ptr 102 0,.ptr 103 0])] (.val (tL 8 true tTs (pst [] (segL (stG (fun _=>true) (crV cs) 2) (ds++[65536]))))) [(101,⟨3,1,false,[.val (tI (((nxC cs ds ds.length):Nat):Int))]⟩),(102,⟨24,1,false,[.val (tL 14 true tEvC cs)]⟩),(103,⟨30,4,true,[.val (tFr (fr (crS cs (nxC cs ds ds.length))))]⟩)] []:=by
 refine CtG.intro [101,102,103] Tryz.func118 rfl Tryz.ntmps118 rfl rfl ⟨⟨rfl,(SupX.lit rfl)⟩,⟨rfl,(SupX.lit rfl)⟩,⟨rfl,(SupX.lit rfl)⟩,trivial⟩ ?_
 intro w F η
 refine A7 ?_
 refine RE (xd3 (k:=7) 77 8 true rfl (fun h=>by cases h)) trivial trivial ⟨rfl,trivial⟩ ?_
 refine A11 ?_
 refine cL (fun (fm:(Nat)×(List Tst))=>(fun (k:Nat) (xs:List Tst)=>k≤ds.length∧xs=(stK (fun _=>true) (crV cs) 2 ds k)) fm.1 fm.2) (fun (fm:(Nat)×(List Tst))=>(fun (k:Nat) (xs:List Tst)=>upd (upd (upd (upd (upd (upd (upd (fun _=>none) 0 (some (.val (tL 1 false tI ds)))) 1 (some (.val (tE (.int .u8 2))))) 2 (some (.own (.fn 127 [.ptr 101 0,.ptr 102 0,.ptr 103 0])))) 7 (some (.own (.sl 7 8 0 xs.length)))) 14 (some (.val (tL 1 false tI ds)))) 15 (some (.val (tI ds.length)))) 16 (some (.val (tI k)))) fm.1 fm.2) (fun (fm:(Nat)×(List Tst))=>(fun (k:Nat) (xs:List Tst)=>upd (upd (upd (upd (fun _=>none) 7 (some (⟨77,8,true,rV tTs xs⟩))) 101 (some (⟨3,1,false,[.val (tI (((nxC cs ds k):Nat):Int))]⟩))) 102 (some (⟨24,1,false,[.val (tL 14 true tEvC cs)]⟩))) 103 (some (⟨30,4,true,[.val (tFr (fr (crS cs (nxC cs ds k))))]⟩))) fm.1 fm.2) [7,101,102,103] (fun (fm:(Nat)×(List Tst))=>(fun (k:Nat) (xs:List Tst)=>ds.length - k) fm.1 fm.2) ((0,[])) (by dsimp only;exact ⟨Nat.zero_le _,rfl⟩) (hh:=((SubK.consI rfl ImpK.refl) ((SubK.consI rfl ImpK.refl) ((SubK.consI rfl ImpK.refl) ((SubK.consI rfl ImpK.refl) SubK.nil))))) ?_
 intro fm hI
 obtain ⟨k,xs⟩:=fm
 replace hI:k≤ds.length∧xs=(stK (fun _=>true) (crV cs) 2 ds k):=hI
 show wc _ _ _ _ (upd (upd (upd (upd (upd (upd (upd (fun _=>none) 0 (some (.val (tL 1 false tI ds)))) 1 (some (.val (tE (.int .u8 2))))) 2 (some (.own (.fn 127 [.ptr 101 0,.ptr 102 0,.ptr 103 0])))) 7 (some (.own (.sl 7 8 0 xs.length)))) 14 (some (.val (tL 1 false tI ds)))) 15 (some (.val (tI ds.length)))) 16 (some (.val (tI k)))) (upd (upd (upd (upd (fun _=>none) 7 (some (⟨77,8,true,rV tTs xs⟩))) 101 (some (⟨3,1,false,[.val (tI (((nxC cs ds k):Nat):Int))]⟩))) 102 (some (⟨24,1,false,[.val (tL 14 true tEvC cs)]⟩))) 103 (some (⟨30,4,true,[.val (tFr (fr (crS cs (nxC cs ds k))))]⟩))) _
 have hx:xs=(stK (fun _=>true) (crV cs) 2 ds k):=hI.2
 have hk:=hI.1
 have hxl:xs.length≤k:=by rw [hx];exact stK_len
 refine A6 ?_
 refine x5 rfl (fun h124=> ?_) (fun h124=> ?_)
 ·
  refine A7 ?_
  refine R2 (x8 sl42 (k) (by omega) (gD (l:=ds) (n:=k) (d:=0) (by omega))) rfl rfl ?_
  refine A10 ?_
  refine xg1 (fun (_j:Unit)=>True) (fun (_j:Unit)=>upd (upd (upd (upd (upd (upd (upd (upd (upd (upd (fun _=>none) 0 (some (.val (tL 1 false tI ds)))) 1 (some (.val (tE (.int .u8 2))))) 2 (some (.own (.fn 127 [.ptr 101 0,.ptr 102 0,.ptr 103 0])))) 7 (some (.own (.sl 7 8 0 xs.length)))) 14 (some (.val (tL 1 false tI ds)))) 15 (some (.val (tI ds.length)))) 16 (some (.val (tI k)))) 8 (some (.val (tI k)))) 9 (some (.val (tI (ds.getD k 0))))) 10 (some (.val (tI ((eD ds).getD (k+1) 0))))) (fun (_j:Unit)=>upd (upd (upd (upd (fun _=>none) 7 (some (⟨77,8,true,rV tTs xs⟩))) 101 (some (⟨3,1,false,[.val (tI (((nxC cs ds k):Nat):Int))]⟩))) 102 (some (⟨24,1,false,[.val (tL 14 true tEvC cs)]⟩))) 103 (some (⟨30,4,true,[.val (tFr (fr (crS cs (nxC cs ds k))))]⟩))) (nm [7,101,102,103]) ?_ ?_
  ·
   refine A9 ?_
   refine x5 rfl (fun h126=> ?_) (fun h126=> ?_)
   ·
    refine A4 ?_
    refine R2 (x8 sl42 (k+1) (by omega) (gD (l:=ds) (n:=k+1) (d:=0) (by omega))) rfl rfl ?_
    refine A3 ?_
    exact kF (()) trivial (hg:=((Sub.consI rfl (Imp.int (endD_at (by omega)).symm)) (sI (sI (sI (sI (sC (sC (sC (sI (sC Sub.nil))))))))))) (hh:=((SubK.consI rfl ImpK.refl) ((SubK.consI rfl ImpK.refl) ((SubK.consI rfl ImpK.refl) ((SubK.consI rfl ImpK.refl) SubK.nil)))))
   ·
    refine A1 ?_
    exact kF (()) trivial (hg:=((Sub.consI rfl (Imp.int (endD_end (by omega)).symm)) (sI (sI (sI (sI (sC (sC (sC (sI (sC Sub.nil))))))))))) (hh:=((SubK.consI rfl ImpK.refl) ((SubK.consI rfl ImpK.refl) ((SubK.consI rfl ImpK.refl) ((SubK.consI rfl ImpK.refl) SubK.nil)))))
  ·
   intro _j hj126
   refine A4 ?_
   refine RE (xh2 (ps:=[.val (tI _)]) (caps:=[.ptr 1 0,.ptr 2 0,.ptr 3 0]) (fun j=>cond (Nat.beq j 2) 102 (cond (Nat.beq j 1) 101 (103))) (c_creditV cs hcr hcl (nxC cs ds k) (ds.getD k 0) (nxC_le (List.pairwise_append.1 hds).1 (by omega))) fi127 rfl (krC (ρ:=fun j=>cond (Nat.beq j 2) 102 (cond (Nat.beq j 1) 101 (103))) (k:=1) rfl (krC (ρ:=fun j=>cond (Nat.beq j 2) 102 (cond (Nat.beq j 1) 101 (103))) (k:=2) rfl (krC (ρ:=fun j=>cond (Nat.beq j 2) 102 (cond (Nat.beq j 1) 101 (103))) (k:=3) rfl (krN (ρ:=fun j=>cond (Nat.beq j 2) 102 (cond (Nat.beq j 1) 101 (103))))))) (krC (ρ:=fun j=>cond (Nat.beq j 2) 102 (cond (Nat.beq j 1) 101 (103))) (k:=1) rfl (krC (ρ:=fun j=>cond (Nat.beq j 2) 102 (cond (Nat.beq j 1) 101 (103))) (k:=2) rfl (krC (ρ:=fun j=>cond (Nat.beq j 2) 102 (cond (Nat.beq j 1) 101 (103))) (k:=3) rfl (krN (ρ:=fun j=>cond (Nat.beq j 2) 102 (cond (Nat.beq j 1) 101 (103))))))) ⟨⟨rfl,(SupX.lit rfl)⟩,⟨rfl,(SupX.lit rfl)⟩,⟨rfl,(SupX.lit rfl)⟩,trivial⟩ rfl) ⟨rfl,rfl,trivial⟩ ⟨rfl,rfl,rfl,trivial⟩ trivial ?_
   refine A3 ?_
   refine RE (xa1 (k:=11) (n:=4) (agg:=true) zr30.1 zr30.2 rfl) trivial trivial ⟨rfl,trivial⟩ ?_
   refine A16 ?_
   have hb:(fun _=>true) (ds.getD k 0)=true:=rfl
   have hpd:=pw_lt hds (show k < k+1 by omega) (by rw [List.length_append];simp;omega)
   rw [endD_at (by omega)] at hpd
   refine A11 ?_
   refine RGcaseD (t:=43) rfl (fun h133=> ?_) (fun h133=> ?_)
   ·
    refine A2 ?_
    refine RGon (decide_eq_true h133) rfl (xe4 (wr64 (by omega) (by omega))) rfl ⟨rfl,rfl,trivial⟩ trivial trivial (RGon (decide_eq_true h133) rfl (x7 sl37 (by omega) (by omega) rfl) rfl ⟨rfl,rfl,trivial⟩ trivial trivial ?_)
    refine A1 ?_
    refine RGon (decide_eq_true h133) rfl (xh9 (es:=8) (o:=1) (xs.length - 1) ti3 (xa8 (d:=tst0) (by omega)) (At.g 1 rfl rfl) (by omega)) rfl ⟨rfl,trivial⟩ ⟨rfl,trivial⟩ trivial ?_
    refine A4 ?_
    refine RGcaseD (t:=53) rfl (fun h133_2=> ?_) (fun h133_2=> ?_)
    ·
     refine A2 ?_
     refine RGon (decide_eq_true h133_2) rfl (xe4 (wr64 (by omega) (by omega))) rfl ⟨rfl,rfl,trivial⟩ trivial trivial (RGon (decide_eq_true h133_2) rfl (x7 sl37 (by omega) (by omega) rfl) rfl ⟨rfl,rfl,trivial⟩ trivial trivial ?_)
     refine A2 ?_
     refine RGon (decide_eq_true h133_2) rfl (xh9 (es:=8) (o:=3) (xs.length - 1) ti30 (xa8 (d:=tst0) (by omega)) (At.t (o1:=2) (n1:=6) (t1:=tVa (xs.getD (xs.length - 1) tst0).v) (o2:=1) (At.g 2 rfl rfl) (At.g 1 rfl rfl)) (by omega)) rfl ⟨rfl,trivial⟩ ⟨rfl,trivial⟩ trivial ?_
     refine A1 ?_
     refine RGon (decide_eq_true h133_2) rfl (x3 (xk1 _ _) fi116 rfl) rfl ⟨rfl,rfl,trivial⟩ trivial trivial ?_
     refine A3 ?_
     refine x5 rfl (fun h133_3=> ?_) (fun h133_3=> ?_)
     ·
      refine A6 ?_
      refine R2 (x7 sl37 (by omega) (by omega) rfl) rfl rfl ?_
      refine A1 ?_
      refine RE (xj8 (es:=8) (o:=1) (t2:=tTs ⟨(xs.getD (xs.length - 1) tst0).lo,((eD ds).getD (k+1) 0),(xs.getD (xs.length - 1) tst0).v⟩) (xs.length - 1) ti3 (xa8 (d:=tst0) (by omega)) (Up.g 1 rfl rfl rfl) (by omega) (xe6 rfl)) ⟨rfl,rfl,trivial⟩ ⟨rfl,trivial⟩ trivial ?_
      refine A10 ?_
      exact kF ((k+1,(xs.set (xs.length - 1) ⟨(xs.getD (xs.length - 1) tst0).lo,((eD ds).getD (k+1) 0),(xs.getD (xs.length - 1) tst0).v⟩))) ⟨(by dsimp only;exact ⟨by omega,by rw [xn3 (by omega) hb,←hx,pst1,if_neg (by dsimp only;omega),if_pos ⟨by omega,by dsimp only;omega,by rw [hx] at h133_3 ⊢;exact stK_last (by rw [←hx];omega) h133_3⟩]⟩),(by dsimp only;omega)⟩ (hg:=(sI (sI (sC ((Sub.consI rfl (Imp.of (by dsimp only;rw [List.length_set]))) (sC (sI (sC Sub.nil)))))))) (hh:=((SubK.consI rfl (ImpK.of (by dsimp only;rw [xn4];rfl))) ((SubK.consI rfl ImpK.refl) ((SubK.consI rfl (ImpK.of (by dsimp only;rw [xn4];rfl))) ((SubK.consI rfl ImpK.refl) SubK.nil)))))
     ·
      refine A8 ?_
      refine R2 (xa9 (r:=tS [⟨1,false,tE (.int .u8 2)⟩,⟨4,true,tFr (fr ((crV cs) (ds.getD k 0)))⟩,⟨1,false,(tE (.int .i64 0))⟩]) (ts:=[(0,tE (.int .u8 2)),(1,tFr (fr ((crV cs) (ds.getD k 0))))]) bu57 zr57.2 (Bc 0 rfl rfl rfl (Bc 1 rfl rfl rfl Le.refl))) rfl rfl (R3 (xa9 (r:=tS [⟨1,false,tI (ds.getD k 0)⟩,⟨1,false,tI ((eD ds).getD (k+1) 0)⟩,⟨6,true,tVa ⟨2,fr ((crV cs) (ds.getD k 0)),0⟩⟩]) (ts:=[(0,tI (ds.getD k 0)),(1,tI ((eD ds).getD (k+1) 0)),(2,tVa ⟨2,fr ((crV cs) (ds.getD k 0)),0⟩)]) bu77 zr77.2 (Bc 0 rfl rfl rfl (Bc 1 rfl rfl rfl (Bc 2 rfl rfl rfl Le.refl)))) rfl rfl rfl (R1 (xb0 (n:=1) (f:=tTs) [(⟨ds.getD k 0,((eD ds).getD (k+1) 0),⟨2,fr ((crV cs) (ds.getD k 0)),0⟩⟩:Tst)] Tryz.underlying37 el77 zf77 rfl (fun _=>inferInstance) rfl rfl rfl) rfl (RE (xb6 (k:=7) (k':=78) (f:=tTs) (ys:=[(⟨ds.getD k 0,((eD ds).getD (k+1) 0),⟨2,fr ((crV cs) (ds.getD k 0)),0⟩⟩:Tst)]) (ts':=rV tTs (xs++[(⟨ds.getD k 0,((eD ds).getD (k+1) 0),⟨2,fr ((crV cs) (ds.getD k 0)),0⟩⟩:Tst)])) Tryz.underlying37 el77 zf77 rfl rfl (fun _=>inferInstance) xc6 (by simp;omega) (by simp;omega) (by simp [rV]) (n':=xs.length+1) rfl) ⟨rfl,rfl,trivial⟩ ⟨rfl,trivial⟩ ⟨rfl,trivial⟩ ?_)))
      refine A8 ?_
      exact xb7 (l:=[7,101,102,103]) (fun j=>cond (Nat.beq j 7) 78 (j)) ((k+1,xs++[(⟨ds.getD k 0,((eD ds).getD (k+1) 0),⟨2,fr ((crV cs) (ds.getD k 0)),0⟩⟩:Tst)])) ⟨(by dsimp only;exact ⟨by omega,by rw [xn3 (by omega) hb,←hx,pst1,if_neg (by dsimp only;omega),if_neg (fun h=>h133_3 (by rw [h.2.2]))]⟩),(by dsimp only;omega)⟩ (SubR.int rfl (by first | omega | rfl | (dsimp only;omega)) (SubR.int rfl (by first | omega | rfl | (dsimp only;omega)) (SubR.cons rfl ((SubR.consI rfl (Imp.of (by dsimp only;rw [List.length_append];rfl))) (SubR.cons rfl (SubR.int rfl (by first | omega | rfl | (dsimp only;omega)) (SubR.cons rfl SubR.nil))))))) ((SubKR.consI rfl (ImpK.of (by dsimp only;rw [xn4];rfl))) ((SubKR.consI rfl ImpK.refl) ((SubKR.consI rfl (ImpK.of (by dsimp only;rw [xn4];rfl))) ((SubKR.consI rfl (ImpK.of xa2.symm)) SubKR.nil)))) (SupG.val (SupG.val (SupG.val (SupG.own rfl (SupG.own rfl (SupG.val (SupG.val SupG.nil))))))) (SupH.cons rfl (supJL rfl) (SupH.cons rfl (supJL rfl) (SupH.cons rfl (supJL rfl) (SupH.cons rfl (supJ x9) SupH.nil)))) (lkOk rfl) rfl rfl (fun _ h=>by cases h)
    ·
     refine A18 ?_
     refine A3 ?_
     refine R2 (xa9 (r:=tS [⟨1,false,tE (.int .u8 2)⟩,⟨4,true,tFr (fr ((crV cs) (ds.getD k 0)))⟩,⟨1,false,(tE (.int .i64 0))⟩]) (ts:=[(0,tE (.int .u8 2)),(1,tFr (fr ((crV cs) (ds.getD k 0))))]) bu57 zr57.2 (Bc 0 rfl rfl rfl (Bc 1 rfl rfl rfl Le.refl))) rfl rfl (R3 (xa9 (r:=tS [⟨1,false,tI (ds.getD k 0)⟩,⟨1,false,tI ((eD ds).getD (k+1) 0)⟩,⟨6,true,tVa ⟨2,fr ((crV cs) (ds.getD k 0)),0⟩⟩]) (ts:=[(0,tI (ds.getD k 0)),(1,tI ((eD ds).getD (k+1) 0)),(2,tVa ⟨2,fr ((crV cs) (ds.getD k 0)),0⟩)]) bu77 zr77.2 (Bc 0 rfl rfl rfl (Bc 1 rfl rfl rfl (Bc 2 rfl rfl rfl Le.refl)))) rfl rfl rfl (R1 (xb0 (n:=1) (f:=tTs) [(⟨ds.getD k 0,((eD ds).getD (k+1) 0),⟨2,fr ((crV cs) (ds.getD k 0)),0⟩⟩:Tst)] Tryz.underlying37 el77 zf77 rfl (fun _=>inferInstance) rfl rfl rfl) rfl (RE (xb6 (k:=7) (k':=78) (f:=tTs) (ys:=[(⟨ds.getD k 0,((eD ds).getD (k+1) 0),⟨2,fr ((crV cs) (ds.getD k 0)),0⟩⟩:Tst)]) (ts':=rV tTs (xs++[(⟨ds.getD k 0,((eD ds).getD (k+1) 0),⟨2,fr ((crV cs) (ds.getD k 0)),0⟩⟩:Tst)])) Tryz.underlying37 el77 zf77 rfl rfl (fun _=>inferInstance) xc6 (by simp;omega) (by simp;omega) (by simp [rV]) (n':=xs.length+1) rfl) ⟨rfl,rfl,trivial⟩ ⟨rfl,trivial⟩ ⟨rfl,trivial⟩ ?_)))
     refine A8 ?_
     exact xb7 (l:=[7,101,102,103]) (fun j=>cond (Nat.beq j 7) 78 (j)) ((k+1,xs++[(⟨ds.getD k 0,((eD ds).getD (k+1) 0),⟨2,fr ((crV cs) (ds.getD k 0)),0⟩⟩:Tst)])) ⟨(by dsimp only;exact ⟨by omega,by rw [xn3 (by omega) hb,←hx,pst1,if_neg (by dsimp only;omega),if_neg (by dsimp only;omega)]⟩),(by dsimp only;omega)⟩ (SubR.int rfl (by first | omega | rfl | (dsimp only;omega)) (SubR.int rfl (by first | omega | rfl | (dsimp only;omega)) (SubR.cons rfl ((SubR.consI rfl (Imp.of (by dsimp only;rw [List.length_append];rfl))) (SubR.cons rfl (SubR.int rfl (by first | omega | rfl | (dsimp only;omega)) (SubR.cons rfl SubR.nil))))))) ((SubKR.consI rfl (ImpK.of (by dsimp only;rw [xn4];rfl))) ((SubKR.consI rfl ImpK.refl) ((SubKR.consI rfl (ImpK.of (by dsimp only;rw [xn4];rfl))) ((SubKR.consI rfl (ImpK.of xa2.symm)) SubKR.nil)))) (SupG.val (SupG.val (SupG.val (SupG.own rfl (SupG.own rfl (SupG.val (SupG.val SupG.nil))))))) (SupH.cons rfl (supJL rfl) (SupH.cons rfl (supJL rfl) (SupH.cons rfl (supJL rfl) (SupH.cons rfl (supJ x9) SupH.nil)))) (lkOk rfl) rfl rfl (fun _ h=>by cases h)
   ·
    refine A18 ?_
    refine A13 ?_
    refine R2 (xa9 (r:=tS [⟨1,false,tE (.int .u8 2)⟩,⟨4,true,tFr (fr ((crV cs) (ds.getD k 0)))⟩,⟨1,false,(tE (.int .i64 0))⟩]) (ts:=[(0,tE (.int .u8 2)),(1,tFr (fr ((crV cs) (ds.getD k 0))))]) bu57 zr57.2 (Bc 0 rfl rfl rfl (Bc 1 rfl rfl rfl Le.refl))) rfl rfl (R3 (xa9 (r:=tS [⟨1,false,tI (ds.getD k 0)⟩,⟨1,false,tI ((eD ds).getD (k+1) 0)⟩,⟨6,true,tVa ⟨2,fr ((crV cs) (ds.getD k 0)),0⟩⟩]) (ts:=[(0,tI (ds.getD k 0)),(1,tI ((eD ds).getD (k+1) 0)),(2,tVa ⟨2,fr ((crV cs) (ds.getD k 0)),0⟩)]) bu77 zr77.2 (Bc 0 rfl rfl rfl (Bc 1 rfl rfl rfl (Bc 2 rfl rfl rfl Le.refl)))) rfl rfl rfl (R1 (xb0 (n:=1) (f:=tTs) [(⟨ds.getD k 0,((eD ds).getD (k+1) 0),⟨2,fr ((crV cs) (ds.getD k 0)),0⟩⟩:Tst)] Tryz.underlying37 el77 zf77 rfl (fun _=>inferInstance) rfl rfl rfl) rfl (RE (xb6 (k:=7) (k':=78) (f:=tTs) (ys:=[(⟨ds.getD k 0,((eD ds).getD (k+1) 0),⟨2,fr ((crV cs) (ds.getD k 0)),0⟩⟩:Tst)]) (ts':=rV tTs (xs++[(⟨ds.getD k 0,((eD ds).getD (k+1) 0),⟨2,fr ((crV cs) (ds.getD k 0)),0⟩⟩:Tst)])) Tryz.underlying37 el77 zf77 rfl rfl (fun _=>inferInstance) xc6 (by simp;omega) (by simp;omega) (by simp [rV]) (n':=xs.length+1) rfl) ⟨rfl,rfl,trivial⟩ ⟨rfl,trivial⟩ ⟨rfl,trivial⟩ ?_)))
    refine A8 ?_
    exact xb7 (l:=[7,101,102,103]) (fun j=>cond (Nat.beq j 7) 78 (j)) ((k+1,xs++[(⟨ds.getD k 0,((eD ds).getD (k+1) 0),⟨2,fr ((crV cs) (ds.getD k 0)),0⟩⟩:Tst)])) ⟨(by dsimp only;exact ⟨by omega,by rw [xn3 (by omega) hb,←hx,pst1,if_neg (by dsimp only;omega),if_neg (by dsimp only;omega)]⟩),(by dsimp only;omega)⟩ (SubR.int rfl (by first | omega | rfl | (dsimp only;omega)) (SubR.int rfl (by first | omega | rfl | (dsimp only;omega)) (SubR.cons rfl ((SubR.consI rfl (Imp.of (by dsimp only;rw [List.length_append];rfl))) (SubR.cons rfl (SubR.int rfl (by first | omega | rfl | (dsimp only;omega)) (SubR.cons rfl SubR.nil))))))) ((SubKR.consI rfl (ImpK.of (by dsimp only;rw [xn4];rfl))) ((SubKR.consI rfl ImpK.refl) ((SubKR.consI rfl (ImpK.of (by dsimp only;rw [xn4];rfl))) ((SubKR.consI rfl (ImpK.of xa2.symm)) SubKR.nil)))) (SupG.val (SupG.val (SupG.val (SupG.own rfl (SupG.own rfl (SupG.val (SupG.val SupG.nil))))))) (SupH.cons rfl (supJL rfl) (SupH.cons rfl (supJL rfl) (SupH.cons rfl (supJL rfl) (SupH.cons rfl (supJ x9) SupH.nil)))) (lkOk rfl) rfl rfl (fun _ h=>by cases h)
 ·
  refine A6 ?_
  refine C_giveL (t:=7) (k:=7) (f:=tTs) (xs:=xs) rfl rfl (lent_lb rfl) (xf4 rfl) rfl ?_
  refine A6 ?_
  exact xb5 LentC.mk' rfl rfl (Imp.of (by rw [hx,show k=ds.length by omega,stK_all])) ⟨(congrArg some (show (⟨3,1,false,[.val (tI (((nxC cs ds k):Nat):Int))]⟩:HEnt)=⟨3,1,false,[.val (tI (((nxC cs ds ds.length):Nat):Int))]⟩ by rw [show k=ds.length by omega])),rfl,(congrArg some (show (⟨30,4,true,[.val (tFr (fr (crS cs (nxC cs ds k))))]⟩:HEnt)=⟨30,4,true,[.val (tFr (fr (crS cs (nxC cs ds ds.length))))]⟩ by rw [show k=ds.length by omega])),trivial⟩ rfl ⟨⟨rfl,(SupX.lit rfl)⟩,⟨rfl,(SupX.lit rfl)⟩,⟨rfl,(SupX.lit rfl)⟩,trivial⟩ rfl
theorem crF_next {fs:List Ev} {i:Nat} (hi:i < fs.length):crF (fs.take (i+1))=crF (fs.take i)++if (fs.getD i ev0).knd=6 then [fs.getD i ev0] else []:=by
 rw [crF,List.take_succ_eq_append_getElem hi,List.filter_append,List.getD_eq_getElem?_getD,List.getElem?_eq_getElem hi,crF,List.filter_cons,List.filter_nil]
 simp only [Option.getD_some,decide_eq_true_eq]
theorem crF_len {fs:List Ev}:(crF fs).length≤fs.length:=List.length_filter_le ..
def crD (cs:List EvC) (j:Nat):List Int:=(cs.take j).map fun e=>e.1.day
theorem crD_next {cs:List EvC} {j:Nat} (hj:j < cs.length):crD cs (j+1)=crD cs j++[(cs.getD j evc0).1.day]:=by
 rw [crD,List.take_succ_eq_append_getElem hj,List.map_append,List.getD_eq_getElem?_getD,List.getElem?_eq_getElem hj];rfl
theorem crD_len {cs:List EvC} {j:Nat} (hj:j≤cs.length):(crD cs j).length=j:=by rw [crD,List.length_map,List.length_take];omega
theorem crD_comp {fs:List Ev} (h:calE fs):Lib.compact (crD (crC fs) (crC fs).length)=dyC fs:=by
 have e:crD (crC fs) (crC fs).length=(crC fs).map fun e=>e.1.day:=by rw [crD,List.take_length]
 have hs:srtI ((crC fs).map fun e=>e.1.day)=(crC fs).map fun e=>e.1.day:=by
  rw [srtI]
  refine List.mergeSort_of_pairwise (List.pairwise_map.2 ?_)
  have h1:Srt kfD (crC fs):=by rw [crC];exact xt2 _
  exact h1.imp fun h2=>decide_eq_true h2
 rw [e,dyC]
 show _=brd ((crF fs).map (·.day))
 rw [←brd_ext (crC_days h),brd,hs]
theorem c_credit (fs:List Ev) (hF:fs.length≤100) (hc:calE fs) (hk:CrOk (crC fs)):
  Ct Tryz.prog 81 [tVw fs] (tL 8 true tTs (mT 0 fs)):=by
 have hcl:=crC_len (F:=fs)
 have hfl:=crF_len (fs:=fs)
 have hdl:=kD_len (F:=fs) 0
 have hd0:kD 0 fs=dyC fs:=rfl
 rw [hd0] at hdl
 refine Ct.intro Tryz.func81 rfl Tryz.ntmps81 rfl ?_
 intro w F
 refine A8 ?_
 refine RE (xa1 (k:=3) (n:=1) (agg:=false) zr24.1 zr24.2 rfl) trivial trivial ⟨rfl,trivial⟩ ?_
 refine A4 ?_
 refine C_nilC (q:=3) 50 32 14 true 0 rfl rfl rfl rfl (fun h=>by cases h) rfl rfl ?_
 refine A2 ?_
 refine xh3 (0) ti24 rfl rfl rfl (At.g 0 rfl (rfl)) rfl ?_
 refine A5 ?_
 refine cL (fun (i:Nat)=>i≤fs.length) (fun (i:Nat)=>upd (upd (upd (upd (fun _=>none) 3 (some (.own (.ptr 3 0)))) 12 (some (.val (tL 14 true tEv fs)))) 13 (some (.val (tI fs.length)))) 14 (some (.val (tI i)))) (fun (i:Nat)=>upd (upd (fun _=>none) 3 (some (⟨24,1,false,[.own (.sl 50 14 0 (crF (fs.take i)).length)]⟩))) 50 (some (⟨32,14,true,rV tEv (crF (fs.take i))⟩))) [3,50] (fun (i:Nat)=>fs.length - i) (0) (Nat.zero_le _) (hh:=((SubK.consI rfl ImpK.refl) ((SubK.consI rfl ImpK.refl) SubK.nil))) ?_
 intro i hI
 have hxl:(crF (fs.take i)).length≤i:=by have:=crF_len (fs:=fs.take i);rw [List.length_take] at this;omega
 refine A6 ?_
 refine x5 rfl (fun h163=> ?_) (fun h163=> ?_)
 ·
  refine A6 ?_
  refine R2 (x8 sl24 (i) (by omega) (gD (l:=fs) (n:=i) (d:=ev0) (by omega))) rfl rfl ?_
  refine A1 ?_
  refine RE (xa1 (k:=5) (n:=14) (agg:=true) zr32.1 zr32.2 rfl) trivial trivial ⟨rfl,trivial⟩ ?_
  refine A10 ?_
  refine x5 rfl (fun h164=> ?_) (fun h164=> ?_)
  ·
   refine A3 ?_
   refine R1 (xb0 (n:=1) (f:=tEv) [(fs.getD i ev0)] Tryz.underlying24 el32 zf32 rfl (fun _=>inferInstance) rfl rfl rfl) rfl (RE (xg0 (k:=50) (k':=24) (f:=tEv) (crF (fs.take i)) (fs.getD i ev0) Tryz.underlying24 el32 zf32 rfl rfl (fun _=>inferInstance) rfl ⟨by omega,by omega⟩ rfl) ⟨rfl,rfl,trivial⟩ ⟨rfl,trivial⟩ ⟨rfl,trivial⟩ ?_)
   refine A8 ?_
   have hnx:=crF_next (fs:=fs) (i:=i) (by omega)
   rw [if_pos (by omega)] at hnx
   exact xb7 (l:=[3,50]) (fun j=>cond (Nat.beq j 50) 24 (j)) (i+1) ⟨(by omega),(by omega)⟩ (SubR.int rfl (by first | omega | rfl | (dsimp only;omega)) (SubR.int rfl (by first | omega | rfl | (dsimp only;omega)) (SubR.cons rfl (SubR.cons rfl SubR.nil)))) ((SubKR.consI rfl (ImpK.of (by rw [hnx];exact xa2.symm))) ((SubKR.consI rfl (ImpK.of (by rw [hnx,List.length_append];rfl))) SubKR.nil)) (SupG.val (SupG.val (SupG.val (SupG.own rfl SupG.nil)))) (SupH.cons rfl (supJ x9) (SupH.cons rfl (supJL rfl) SupH.nil)) (lkOk rfl) rfl rfl (fun _ h=>by cases h)
  ·
   refine A7 ?_
   have hnx:=crF_next (fs:=fs) (i:=i) (by omega)
   rw [if_neg (by omega),List.append_nil] at hnx
   exact kF (i+1) ⟨(by omega),(by omega)⟩ (hh:=((SubK.consI rfl (ImpK.of (by rw [hnx]))) ((SubK.consI rfl (ImpK.of (by rw [hnx]))) SubK.nil)))
 ·
  refine A6 ?_
  have hia:fs.take i=fs:=by rw [show i=fs.length by omega,List.take_length]
  rw [hia]
  refine C_key (k:=50) (e':=⟨32,14,true,rV tEvC ((crF fs).map toC)⟩) rfl (by rw [rV_toC (fun e he=>by have:=(hc e (List.mem_filter.1 he).1).1;omega)]) (C_key (k:=3) (e':=⟨24,1,false,[.own (.sl 50 14 0 (crC fs).length)]⟩) rfl (by rw [hcl]) ?_)
  refine A2 ?_
  refine RE (xa5 (fun _=>50) (c_sortStableE ((crF fs).map toC) (by rw [List.length_map];exact hcl.symm) (by rw [List.length_map];omega)) fi125 rfl (krC (ρ:=fun _=>50) (k:=20) xa2 (krN (ρ:=fun _=>50))) (krC (ρ:=fun _=>50) (k:=20) xa2 (krN (ρ:=fun _=>50))) ⟨⟨rfl,x9⟩,trivial⟩ rfl) ⟨rfl,rfl,trivial⟩ ⟨rfl,trivial⟩ trivial ?_
  refine A4 ?_
  refine RE (xd3 (k:=6) 3 1 false rfl (fun _=>rfl)) trivial trivial ⟨rfl,trivial⟩ ?_
  refine A11 ?_
  refine cL (fun (j:Nat)=>j≤(crC fs).length) (fun (j:Nat)=>upd (upd (upd (upd (upd (fun _=>none) 3 (some (.own (.ptr 3 0)))) 6 (some (.own (.sl 6 1 0 (crD (crC fs) j).length)))) 28 (some (.own (.sl 50 14 0 (crC fs).length)))) 29 (some (.val (tI (crC fs).length)))) 30 (some (.val (tI j)))) (fun (j:Nat)=>upd (upd (upd (fun _=>none) 3 (some (⟨24,1,false,[.own (.sl 50 14 0 (crC fs).length)]⟩))) 50 (some (⟨32,14,true,rV tEvC (crC fs)⟩))) 6 (some (⟨3,1,false,rV tI (crD (crC fs) j)⟩))) [3,50,6] (fun (j:Nat)=>(crC fs).length - j) (0) (Nat.zero_le _) (hh:=((SubK.consI rfl ImpK.refl) ((SubK.consI rfl ImpK.refl) ((SubK.consI rfl ImpK.refl) SubK.nil)))) ?_
  intro j hI2
  have hdj:=crD_len (cs:=(crC fs)) hI2
  have hnx:=fun hh=>crD_next (cs:=(crC fs)) (j:=j) hh
  refine A6 ?_
  refine x5 rfl (fun h170=> ?_) (fun h170=> ?_)
  ·
   refine A6 ?_
   refine R2 (x7 sl24 (by omega) (by omega) rfl) rfl rfl (RE (xa6 (j) ti32 (xa8 (f:=tEvC) (xs:=(crC fs)) (d:=evc0) (by omega)) (by omega)) ⟨rfl,trivial⟩ ⟨rfl,trivial⟩ trivial (RE (xa1 (k:=8) (n:=14) (agg:=true) zr32.1 zr32.2 rfl) trivial trivial ⟨rfl,trivial⟩ ?_))
   refine A7 ?_
   refine R1 (xb0 (n:=1) (f:=fun n:Int=>tI n) [(((crC fs).getD j evc0).1.day)] Tryz.underlying42 el3 zf3 rfl (fun _=>inferInstance) rfl rfl rfl) rfl (RE (xg0 (k:=6) (k':=38) (f:=fun n:Int=>tI n) (crD (crC fs) j) (((crC fs).getD j evc0).1.day) Tryz.underlying42 el3 zf3 rfl rfl (fun _=>inferInstance) rfl ⟨by omega,by omega⟩ rfl) ⟨rfl,rfl,trivial⟩ ⟨rfl,trivial⟩ ⟨rfl,trivial⟩ ?_)
   refine A8 ?_
   exact xb7 (l:=[3,50,6]) (fun j=>cond (Nat.beq j 6) 38 (j)) (j+1) ⟨(by omega),(by omega)⟩ (SubR.int rfl (by first | omega | rfl | (dsimp only;omega)) (SubR.int rfl (by first | omega | rfl | (dsimp only;omega)) (SubR.cons rfl ((SubR.consI rfl (Imp.of (by rw [hnx (by omega),List.length_append];rfl))) (SubR.cons rfl SubR.nil))))) ((SubKR.consI rfl (ImpK.of (by rw [hnx (by omega)];exact xa2.symm))) ((SubKR.consI rfl (ImpK.of xa2.symm)) ((SubKR.consI rfl ImpK.refl) SubKR.nil))) (SupG.val (SupG.val (SupG.own rfl (SupG.own rfl (SupG.own rfl SupG.nil))))) (SupH.cons rfl (supJ x9) (SupH.cons rfl (supJ x9) (SupH.cons rfl (supJL rfl) SupH.nil))) (lkOk rfl) rfl rfl (fun _ h=>by cases h)
  ·
   refine A6 ?_
   have hje:j=(crC fs).length:=by omega
   subst hje
   refine A1 ?_
   refine R1 (x3 (xk7 0 (by decide) (by decide)) fi91 rfl) rfl (RE (xa1 (k:=9) (n:=4) (agg:=true) zr30.1 zr30.2 rfl) trivial trivial ⟨rfl,trivial⟩ ?_)
   refine A4 ?_
   refine C_giveC (q:=3) (j:=50) (f:=tEvC) (xs:=(crC fs)) 0 rfl rfl rfl rfl (NoLbK.of fun _ h=>h) (xf4 rfl) rfl rfl ?_
   refine A1 ?_
   refine RE (xa1 (k:=10) (n:=1) (agg:=false) zr3.1 zr3.2 rfl) trivial trivial ⟨rfl,trivial⟩ ?_
   refine A4 ?_
   refine C_key (k:=10) (e':=⟨3,1,false,[.val (tI (((nxC (crC fs) (dyC fs) 0):Nat):Int))]⟩) rfl rfl (C_key (k:=9) (e':=⟨30,4,true,[.val (tFr (fr (crS (crC fs) (nxC (crC fs) (dyC fs) 0))))]⟩) rfl rfl ?_)
   refine xm0 ?_
   refine xb9 xc1 ⟨rfl,trivial⟩ trivial trivial rfl (xb9 (xa5 (fun _=>6) (c_CompactI (crD (crC fs) (crC fs).length)) fi50 rfl (krC (ρ:=fun _=>6) (k:=1) xa2 (krN (ρ:=fun _=>6))) (krC (ρ:=fun _=>6) (k:=1) xa2 (krN (ρ:=fun _=>6))) ⟨⟨rfl,x9⟩,trivial⟩ rfl) ⟨rfl,trivial⟩ ⟨rfl,trivial⟩ trivial rfl (xb9 (xf3 (ps:=[.ptr 10 0,.ptr 3 0,.ptr 9 0]) rfl) ⟨rfl,rfl,rfl,trivial⟩ trivial trivial rfl (wl_give (t:=42) (k:=6) (f:=tI) (xs:=(dyC fs)) rfl rfl (fun _ h=>h) (by rw [crD_comp hc];exact xf4 rfl) (by rw [crD_comp hc]) (xb9 (xa5 (fun j=>cond (Nat.beq j 102) 3 (cond (Nat.beq j 101) 10 (9))) (c_stepsCredit (dyC fs) (kD_pw2 (K:=0) hc) (by omega) (crC fs) hk (by omega)) fi118 rfl (krC (ρ:=fun j=>cond (Nat.beq j 102) 3 (cond (Nat.beq j 101) 10 (9))) (k:=101) rfl (krC (ρ:=fun j=>cond (Nat.beq j 102) 3 (cond (Nat.beq j 101) 10 (9))) (k:=102) rfl (krC (ρ:=fun j=>cond (Nat.beq j 102) 3 (cond (Nat.beq j 101) 10 (9))) (k:=103) rfl (krN (ρ:=fun j=>cond (Nat.beq j 102) 3 (cond (Nat.beq j 101) 10 (9))))))) (krC (ρ:=fun j=>cond (Nat.beq j 102) 3 (cond (Nat.beq j 101) 10 (9))) (k:=101) rfl (krC (ρ:=fun j=>cond (Nat.beq j 102) 3 (cond (Nat.beq j 101) 10 (9))) (k:=102) rfl (krC (ρ:=fun j=>cond (Nat.beq j 102) 3 (cond (Nat.beq j 101) 10 (9))) (k:=103) rfl (krN (ρ:=fun j=>cond (Nat.beq j 102) 3 (cond (Nat.beq j 101) 10 (9))))))) ⟨⟨rfl,(SupX.lit rfl)⟩,⟨rfl,(SupX.lit rfl)⟩,⟨rfl,(SupX.lit rfl)⟩,trivial⟩ rfl) ⟨rfl,rfl,rfl,trivial⟩ ⟨rfl,rfl,rfl,trivial⟩ trivial rfl (xb9 xd9 ⟨rfl,trivial⟩ trivial trivial rfl (xi1 ?_))))))
   refine A2 ?_
   exact x4 Plain.mk' rfl rfl (Le.of (congrArg (fun t=>tL 8 true tTs t) (show pst [] (segL (stG (fun _=>true) (crV (crC fs)) 2) (dyC fs++[65536]))=mT 0 fs from crd_mT hc)))
end An.S
namespace An
open Go
variable {α β:Type}
instance {M:MK α β} {l:List (α×β)}:Shape (tMp M (some l)) 1 false:=⟨fun ⟨_,h,_⟩=>by rw [h];exact xc9 rfl⟩
def fvF:Option Nat→Value
 | none=> .nilFunc
 | some f=> .func (.func f) #[] #[]
def cbF:Option Nat→Nat
 | none=>0
 | some f=>f+1
theorem cbF_inj (x y:Option Nat) (h:cbF x=cbF y):x=y:=by
 cases x <;> cases y <;> simp [cbF] at h ⊢ <;> exact h
abbrev mkSF:MK ByteArray (Option Nat):=⟨fun s=> .string s,fvF,caS,cbF,caS_inj,cbF_inj⟩
theorem mapF_SF {P:Program} {t kt e:TypeId} (h1:P.underlying t=some (.map kt e)) (h2:P.underlying kt=some .string) (h3: ∀w,(zeroValue e).run P w= .ok .nilFunc w):MapF P t mkSF none:=
 ⟨kt,e,_,h1,h2,fun x y=>by simp only [Instr.sameNow,beqBA],fun x=>by simp [MapKept.IsKey],fun x=>by simp [Instr.sameBits,beqBA],h3⟩
section
variable {M:MK α β} {P:Program} {w:World} {b:Nat} {l:List (α×β)} [DecidableEq α] {t:TypeId} {z:β}
theorem run_lookupO (hf:MapF P t M z) (hb:w.heap[b]? =some (M.obj l)) (a:α):(Instr.lookup t (.map (some b)) (M.fk a) true).run P w= .ok (.tuple #[M.fv ((getM l a).getD z),.bool (getM l a).isSome]) w:=by
 obtain ⟨kt,e,d,ht,hd,hs,hk,hy,hz⟩:=hf.und
 have h1:=MapKept.run_findKey (w:=w) hd (find_ents hs a l 0)
 have h2:=fun em=>MapKept.run_checkKey (w:=w) hd (hk a) em 9999
 have hb':w.heap[b]? =some (.map (M.ents 0 l).toArray l.length):=hb
 cases hg:getI a 0 l with
 | none=>simp [hg] at h1;simp [Instr.lookup,run_underlying ht,MapKept.run_getObj_map hb',h2,h1,hz,Result.andThen,getM,hg]
 | some x=>simp [hg] at h1;simp [Instr.lookup,run_underlying ht,MapKept.run_getObj_map hb',h2,h1,Result.andThen,getM,hg]
end
section
variable {P:Program} {c:Base} {d ty:Nat} {pos:String} {af:Array Edge} {gd:Option (Nat×Bool)} {M:MK α β} {g:Slots} {h:Keys} {al:Names} {K:Nat} {Q:Exit→Act→World→Prop} {A:Array Oper} {rest:List Oper} {t:TypeId} {b:Nat} {l:List (α×β)}
theorem d_lookupO [DecidableEq α] {z:β} {x y:Operand} (hf:MapF P t M z) (l:List (α×β)) (a:α):
  Does P c ⟨some d,.lookup t x y true,ty,pos,af,gd⟩ ⟨[(x,.val (tMp M (some l))),(y,.val (tE (M.fk a)))],[],some (d,some (.val (tT [tE (M.fv (entV z l a)),tB (getM l a).isSome]))),[],[]⟩:=
 Does.value rfl fun g h al a' w η hrd hkr st=>by
  obtain ⟨b,e1,_,h1⟩:=(xa3 st hrd.1).1
  have e1:a'.eval x= .map (some b):=e1
  have e2:a'.eval y=M.fk a:=(xa3 st hrd.2.1).1
  refine ⟨_,w,?_,Ext.refl w,⟨[_,_],rfl,rfl,rfl,trivial⟩,fun k hk=>by cases hk⟩
  simp only [execOp,e1,e2,Sem.run_bind,run_lookupO hf h1,Result.andThen];rfl
theorem wl_insM [DecidableEq α] {z:β} {x y u:Operand} {a:α} {v:β} (hf:MapF P t M z) (hB:MB M c K) (hw: ∀a w η,St' c g h al a w η→Region.wanted ⟨none,.insert t x y u,ty,pos,af,gd⟩ (yielded A a.tmps)=true)
  (hx:look g x=some (.val (tE (.map (some b))))) (hy:look g y=some (.val (tE (M.fk a)))) (hu:look g u=some (.val (tE (M.fv v)))) (hK:h K=some ⟨M.code (some ⟨b,l,none⟩),1,false,[]⟩)
  (H:wl P c A Q rest g (upd h K (some ⟨M.code (some ⟨b,putM l a v,none⟩),1,false,[]⟩)) al):wl P c A Q (⟨none,.insert t x y u,ty,pos,af,gd⟩::rest) g h al:=
 wl_ghost0 (s:=some ⟨b,l,none⟩) (some ⟨b,putM l a v,none⟩) hB rfl hw hK (fun a' w η st hm=>by
  have e1:a'.eval x= .map (some b):=(xa3 st hx).1
  have e2:a'.eval y=M.fk a:=(xa3 st hy).1
  have e3:a'.eval u=M.fv v:=(xa3 st hu).1
  obtain ⟨⟨h1,h2,h3⟩,_⟩:=hm
  refine ⟨_,η.vo,?_,kept_same st (stp_set (b:=b) (o:=M.obj (putM l a v)) h2),⟨⟨set_same h1,h2,h3⟩,fun r q hr=>by cases hr⟩⟩
  simp only [execOp,e1,e2,e3,Sem.run_bind,run_updateM hf h1,Result.andThen];rfl) H
theorem E_ret1M {N K:Nat} {w0:World} {F:Dom} {fn:Func} {t b:Nat} {l:List (α×β)} (hr:fn.results= #[.tmp t]) (hx:g t=some (.val (tE (.map (some b))))) (hK:h K=some ⟨M.code (some ⟨b,l,none⟩),1,false,[]⟩):
  wk (Base.maps N w0 F K M) .ret (Post P w0 F fn (tMp M (some l))) g h al:=by
 refine K_endR (.inl rfl) Plain.maps.df fun df pn a w η s=> ?_
 have h0: ∀b,η.vo b→w0.heap.size≤b:=fun b hb=>(s.fr.vnew b hb).2.2.elim (fun h=>h.elim) id
 have hj:M.J (M.code (some ⟨b,l,none⟩)) _ η.vo w:=s.jj K _ rfl hK
 obtain ⟨⟨m1,m2,m3⟩,_⟩:=(M.J_at (s:=some ⟨b,l,none⟩)).1 hj
 have e1:a.tmps.getD t undef= .map (some b):=xq9 s hx
 exact ⟨_,results_tmp hr a.tmps P w,⟨s.fr.os,s.fr.tape,s.fr.output,s.fr.size,fun b hb=>s.fr.block b hb (fun h=>h.elim) fun hv=>by have:=h0 b hv;omega⟩,⟨b,e1,.inl (h0 b m2),m1⟩⟩
end
end An
namespace An
open Go An.S
theorem getE_app {l m:List Ev} {i:Nat} (hi:i < l.length):(l++m).getD i ev0=l.getD i ev0:=by
 rw [List.getD_eq_getElem?_getD,List.getElem?_append_left hi,List.getD_eq_getElem?_getD]
theorem getE_last {l:List Ev} {x:Ev}:(l++[x]).getD l.length ev0=x:=by
 rw [List.getD_eq_getElem?_getD,List.getElem?_append_right (Nat.le_refl _)];simp
theorem EOk.to {l m:List Ev} {i:Nat} (h:EOk l i) (e:m.getD i ev0=l.getD i ev0) (ev:(l.getD i ev0).knd=7→(m.getD ((l.getD i ev0).nr - 1).toNat ev0).kn=(l.getD ((l.getD i ev0).nr - 1).toNat ev0).kn):EOk m i:=by
 refine xd4.1 ?_
 have h1:=xd4.2 h
 rw [eRight,Bool.and_eq_true] at h1 ⊢
 rw [e]
 refine ⟨h1.1,?_⟩
 by_cases hk:(l.getD i ev0).knd=7
 ·rw [ev hk];exact h1.2
 ·rw [uOf,decide_eq_false hk];rfl
theorem EOk.app {l m:List Ev} {i:Nat} (h:EOk l i) (hi:i < l.length):EOk (l++m) i:=
 h.to (getE_app hi) fun hk=>by
  have:=h.of_ hk
  rw [getE_app (by omega)]
theorem EOk.last {l:List Ev} {x:Ev} (hx:xOk x l.length=true) (hv:x.knd=7→(l.getD (x.nr - 1).toNat ev0).kn≤x.kn):EOk (l++[x]) l.length:=by
 refine xd4.1 ?_
 rw [eRight,getE_last,Bool.and_eq_true]
 refine ⟨hx,?_⟩
 by_cases hk:x.knd=7
 ·have h1:eNum (uOf x.knd) x.nr 1 l.length=true:=by
   simp only [xOk,Bool.and_eq_true] at hx
   exact hx.1.1.1.2
  have h2:=xn2 h1 (by rw [hk];rfl)
  rw [getE_app (by omega),decide_eq_true (hv hk),Bool.or_true]
 ·rw [uOf,decide_eq_false hk];rfl
def frE (D B:Int) (x:Ev):Prop:=(uPart x.knd=true→frB D B x.part)∧(uPay x.knd=true→frB D B x.pay)
theorem GR.snoc {D B:Int} {l:List Ev} {x:Ev} (h:GR D B l) (hl:l.length≤99) (hx:xOk x l.length=true) (hv:x.knd=7→(l.getD (x.nr - 1).toNat ev0).kn≤x.kn) (hf:frE D B x):GR D B (l++[x]) where
 len:=by rw [List.length_append,List.length_singleton];omega
 ok:=fun i hi=>by
  rw [List.length_append,List.length_singleton] at hi
  by_cases c:i < l.length
  ·exact (h.ok i c).app c
  ·rw [show i=l.length by omega];exact EOk.last hx hv
 fr:=fun e he=>by
  rcases List.mem_append.1 he with h1 | h1
  ·exact h.fr e h1
  ·rw [List.mem_singleton.1 h1];exact hf
 d0:=h.d0
 d1:=h.d1
 b0:=h.b0
 b1:=h.b1
def eHire (kn job day n d p:Int):Ev:=⟨1,kn,job,day,0,fr (kfr n d),fr (kfr p 1),0⟩
def eLeave (kn job day:Int):Ev:=⟨2,kn,job,day,0,fr0,fr0,0⟩
def eHours (kn job day hi n d:Int):Ev:=⟨3,kn,job,day,hi,fr (kfr n d),fr0,0⟩
def ePay (kn job day n d:Int):Ev:=⟨4,kn,job,day,0,fr0,fr (kfr n d),0⟩
def ePause (kn job day hi:Int):Ev:=⟨5,kn,job,day,hi,fr0,fr0,0⟩
def eCredit (kn day n d:Int):Ev:=⟨6,kn,0,day,0,fr (kfr n d),fr0,0⟩
def eVoid (kn nr:Int):Ev:=⟨7,kn,0,0,0,fr0,fr0,nr⟩
structure Ne where
  kd:Nat
  jb:Nat
  kn:Nat
  dy:Nat
  ds:Nat
  pt:Nat
  py:Nat
  nr:Nat
def ne0:Ne:=⟨0,0,0,0,0,0,0,0⟩
abbrev tNe (n:Ne):Ty:=tS [⟨1,false,tE (.int .u8 (n.kd:Int))⟩,⟨1,false,tE (.int .u8 (n.jb:Int))⟩,⟨1,false,tE (.int .u8 (n.kn:Int))⟩,⟨1,false,tE (.int .u8 (n.dy:Int))⟩,⟨1,false,tE (.int .u8 (n.ds:Int))⟩,⟨1,false,tE (.int .u8 (n.pt:Int))⟩,⟨1,false,tE (.int .u8 (n.py:Int))⟩,⟨1,false,tE (.int .u8 (n.nr:Int))⟩]
def neOk (n:Ne):Prop:=n.kd < 256∧n.jb < 256∧n.kn < 256∧n.dy < 256∧n.ds < 256∧n.pt < 256∧n.py < 256∧n.nr < 256
def nKn (n:Ne):Int:=((n.kn%32:Nat):Int)*10
def nDy (n:Ne):Int:=(n.dy:Int)*3
def nJb (n:Ne):Int:=1+((n.jb%3:Nat):Int)
def nTo (n:Ne):Int:=nDy n+1+(n.ds:Int)
def btE1 (out:List Ev) (n:Ne):Ev:=
 if n.kd%8=2 then eLeave (nKn n) (nJb n) (nDy n)
 else if n.kd%8=3 then eHours (nKn n) (nJb n) (nDy n) (nTo n) ((n.pt%9:Nat):Int) 8
 else if n.kd%8=4 then ePay (nKn n) (nJb n) (nDy n) (n.py:Int) 3
 else if n.kd%8=5 then ePause (nKn n) (nJb n) (nDy n) (nTo n)
 else if n.kd%8=6 then eCredit (nKn n) (nDy n) (n.pt:Int) 8
 else if n.kd%8=7∧0 < out.length then eVoid (max (nKn n) (out.getD (n.nr%out.length) ev0).kn) ((n.nr%out.length:Nat)+1:Int)
 else eHire (nKn n) (nJb n) (nDy n) ((n.pt%9:Nat):Int) 8 (n.py:Int)
def btE (ns:List Ne):List Ev:=(ns.take 12).foldl (fun out n=>out++[btE1 out n]) []
def btK (ns:List Ne) (k:Nat):List Ev:=(ns.take k).foldl (fun out n=>out++[btE1 out n]) []
theorem btK_snoc {ns:List Ne} {k:Nat} (hk:k < ns.length):btK ns (k+1)=btK ns k++[btE1 (btK ns k) (ns.getD k ne0)]:=by
 rw [btK,List.take_succ_eq_append_getElem hk,List.foldl_append,List.getD_eq_getElem?_getD,List.getElem?_eq_getElem hk];rfl
theorem btK_len {ns:List Ne}: ∀k,k≤ns.length→(btK ns k).length=k
 | 0,_=>rfl
 | k+1,h=>by rw [btK_snoc (by omega),List.length_append,btK_len k (by omega)];rfl
theorem btK_end {ns:List Ne} {k:Nat} (h1:k≤ns.length) (h2:k≤12) (h: ¬(k < ns.length∧k < 12)):btK ns k=btE ns:=by
 have:ns.take k=ns.take 12:=by
  rcases Nat.lt_or_ge k 12 with h3 | h3
  ·rw [List.take_of_length_le (by omega),List.take_of_length_le (by omega)]
  ·rw [show k=12 by omega]
 rw [btK,btE,this]
theorem btE_len {ns:List Ne}:(btE ns).length=min ns.length 12:=by
 rw [←btK_end (k:=min ns.length 12) (by omega) (by omega) (by omega),btK_len _ (by omega)]
theorem ex8: ∀n:Fin 256,eExact (fr (kfr (n.val:Int) 8))=true:=by decide+kernel
theorem ex3: ∀n:Fin 256,eExact (fr (kfr (n.val:Int) 3))=true:=by decide+kernel
theorem ex1: ∀n:Fin 256,eExact (fr (kfr (n.val:Int) 1))=true:=by decide+kernel
theorem le9: ∀n:Fin 9,decide (1 < (fr (kfr (n.val:Int) 8)).rat)=false:=by decide+kernel
theorem frB8 {n:Int} (h0:0≤n) (h:n≤255):frB 24 6120 (fr (kfr n 8)):=⟨3*n,by omega,by
 rw [kfr_big (by decide)]
 exact congrArg fr ((Rat.divInt_eq_divInt_iff (by decide) (by decide)).2 (by omega))⟩
theorem frB3 {n:Int} (h0:0≤n) (h:n≤255):frB 24 6120 (fr (kfr n 3)):=⟨8*n,by omega,by
 rw [kfr_big (by decide)]
 exact congrArg fr ((Rat.divInt_eq_divInt_iff (by decide) (by decide)).2 (by omega))⟩
theorem frB1 {n:Int} (h0:0≤n) (h:n≤255):frB 24 6120 (fr (kfr n 1)):=⟨24*n,by omega,by
 rw [kfr_big (by decide)]
 exact congrArg fr ((Rat.divInt_eq_divInt_iff (by decide) (by decide)).2 (by omega))⟩
theorem blank0:eBlank fr0=true:=by decide
theorem xHire {kn job day:Int} {n p i:Nat} (hk:0≤kn∧kn < 65536) (hj:1≤job∧job≤8) (hd:0≤day∧day≤65535) (hn:n < 9) (hp:p < 256):xOk (eHire kn job day n 8 p) i=true∧frE 24 6120 (eHire kn job day n 8 p):=by
 refine ⟨?_,fun _=>frB8 (by omega) (by omega),fun _=>frB1 (by omega) (by omega)⟩
 have e1:eExact (fr (kfr (n:Int) 8))=true:=ex8 ⟨n,by omega⟩
 have e2:eExact (fr (kfr (p:Int) 1))=true:=ex1 ⟨p,hp⟩
 have e3:decide (1 < (fr (kfr (n:Int) 8)).rat)=false:=le9 ⟨n,hn⟩
 simp [xOk,eHire,uJob,uDay,uTo,uOf,uPart,uPay,eNum,eFrc,e1,e2,hk,hj,hd]
 exact e3
theorem xLeave {kn job day:Int} {i:Nat} (hk:0≤kn∧kn < 65536) (hj:1≤job∧job≤8) (hd:0≤day∧day≤65535):xOk (eLeave kn job day) i=true∧frE 24 6120 (eLeave kn job day):=by
 refine ⟨?_,fun h=>(by cases h),fun h=>by cases h⟩
 simp [xOk,eLeave,uJob,uDay,uTo,uOf,uPart,uPay,eNum,eFrc,blank0,hk,hj,hd]
theorem xHours {kn job day hi:Int} {n i:Nat} (hk:0≤kn∧kn < 65536) (hj:1≤job∧job≤8) (hd:0≤day∧day≤65535) (hh:day+1≤hi∧hi≤65536) (hn:n < 9):xOk (eHours kn job day hi n 8) i=true∧frE 24 6120 (eHours kn job day hi n 8):=by
 refine ⟨?_,fun _=>frB8 (by omega) (by omega),fun h=>by cases h⟩
 have e1:eExact (fr (kfr (n:Int) 8))=true:=ex8 ⟨n,by omega⟩
 have e3:decide (1 < (fr (kfr (n:Int) 8)).rat)=false:=le9 ⟨n,hn⟩
 simp [xOk,eHours,uJob,uDay,uTo,uOf,uPart,uPay,eNum,eFrc,blank0,e1,hk,hj,hd,hh]
 exact e3
theorem xPay {kn job day:Int} {n i:Nat} (hk:0≤kn∧kn < 65536) (hj:1≤job∧job≤8) (hd:0≤day∧day≤65535) (hn:n < 256):xOk (ePay kn job day n 3) i=true∧frE 24 6120 (ePay kn job day n 3):=by
 refine ⟨?_,fun h=>(by cases h),fun _=>frB3 (by omega) (by omega)⟩
 have e1:eExact (fr (kfr (n:Int) 3))=true:=ex3 ⟨n,hn⟩
 simp [xOk,ePay,uJob,uDay,uTo,uOf,uPart,uPay,eNum,eFrc,blank0,e1,hk,hj,hd]
theorem xPause {kn job day hi:Int} {i:Nat} (hk:0≤kn∧kn < 65536) (hj:1≤job∧job≤8) (hd:0≤day∧day≤65535) (hh:day+1≤hi∧hi≤65536):xOk (ePause kn job day hi) i=true∧frE 24 6120 (ePause kn job day hi):=by
 refine ⟨?_,fun h=>(by cases h),fun h=>by cases h⟩
 simp [xOk,ePause,uJob,uDay,uTo,uOf,uPart,uPay,eNum,eFrc,blank0,hk,hj,hd,hh]
theorem xCredit {kn day:Int} {n i:Nat} (hk:0≤kn∧kn < 65536) (hd:0≤day∧day≤65535) (hn:n < 256):xOk (eCredit kn day n 8) i=true∧frE 24 6120 (eCredit kn day n 8):=by
 refine ⟨?_,fun _=>frB8 (by omega) (by omega),fun h=>by cases h⟩
 have e1:eExact (fr (kfr (n:Int) 8))=true:=ex8 ⟨n,hn⟩
 simp [xOk,eCredit,uJob,uDay,uTo,uOf,uPart,uPay,eNum,eFrc,blank0,e1,hk,hd]
theorem xVoid {kn nr:Int} {i:Nat} (hk:0≤kn∧kn < 65536) (hn:1≤nr∧nr≤i):xOk (eVoid kn nr) i=true∧frE 24 6120 (eVoid kn nr):=by
 refine ⟨?_,fun h=>(by cases h),fun h=>by cases h⟩
 simp [xOk,eVoid,uJob,uDay,uTo,uOf,uPart,uPay,eNum,eFrc,blank0,hk,hn]
def btP (l:List Ev):Prop:= ∀e∈l,(0≤e.kn∧e.kn≤310)∧(e.knd=7∨e.knd=6∨1≤e.job∧e.job≤3)∧e.day≤765
theorem btE1_ok {l:List Ev} {n:Ne} (hn:neOk n) (h:GR 24 6120 l) (hp:btP l) (hl:l.length≤99):GR 24 6120 (l++[btE1 l n])∧btP (l++[btE1 l n]):=by
 obtain ⟨n1,n2,n3,n4,n5,n6,n7,n8⟩:=hn
 have hk:0≤nKn n∧nKn n≤310:=by rw [nKn];omega
 have hj:1≤nJb n∧nJb n≤3:=by rw [nJb];omega
 have hd:0≤nDy n∧nDy n≤765:=by rw [nDy];omega
 have ht:nDy n+1≤nTo n∧nTo n≤65536:=by rw [nTo];omega
 have key:(xOk (btE1 l n) l.length=true∧frE 24 6120 (btE1 l n))∧((btE1 l n).knd=7→(l.getD ((btE1 l n).nr - 1).toNat ev0).kn≤(btE1 l n).kn)∧(0≤(btE1 l n).kn∧(btE1 l n).kn≤310)∧((btE1 l n).knd=7∨(btE1 l n).knd=6∨1≤(btE1 l n).job∧(btE1 l n).job≤3)∧(btE1 l n).day≤765:=by
  rw [btE1]
  split
  ·exact ⟨xLeave (by omega) (by omega) (by omega),fun h=>(by cases h),hk,.inr (.inr hj),hd.2⟩
  split
  ·exact ⟨xHours (by omega) (by omega) (by omega) ht (Nat.mod_lt _ (by decide)),fun h=>(by cases h),hk,.inr (.inr hj),hd.2⟩
  split
  ·exact ⟨xPay (by omega) (by omega) (by omega) n7,fun h=>(by cases h),hk,.inr (.inr hj),hd.2⟩
  split
  ·exact ⟨xPause (by omega) (by omega) (by omega) ht,fun h=>(by cases h),hk,.inr (.inr hj),hd.2⟩
  split
  ·exact ⟨xCredit (by omega) (by omega) n6,fun h=>(by cases h),hk,.inr (.inl rfl),hd.2⟩
  split
  ·rename_i hc
   have hm:=Nat.mod_lt n.nr hc.2
   have ho:=(hp _ (mem_getE hm)).1
   refine ⟨xVoid (by omega) (by omega),fun _=> ?_,?_,.inl rfl,by show (0:Int)≤765;decide⟩
   ·show (l.getD (((n.nr%l.length:Nat):Int)+1 - 1).toNat ev0).kn≤max _ _
    rw [show (((n.nr%l.length:Nat):Int)+1 - 1).toNat=n.nr%l.length by omega];omega
   ·show 0≤max _ _∧max _ _≤(310:Int)
    omega
  ·exact ⟨xHire (by omega) (by omega) (by omega) (Nat.mod_lt _ (by decide)) n7,fun h=>(by cases h),hk,.inr (.inr hj),hd.2⟩
 refine ⟨h.snoc hl key.1.1 key.2.1 key.1.2,fun e he=> ?_⟩
 rcases List.mem_append.1 he with h1 | h1
 ·exact hp e h1
 ·rw [List.mem_singleton.1 h1];exact key.2.2
theorem GR.nil:GR 24 6120 []:=⟨Nat.zero_le _,fun i hi=>(by cases hi),fun e he=>(by cases he),by decide,by decide,by decide,by decide⟩
theorem btK_ok {ns:List Ne} (h: ∀n∈ns,neOk n): ∀k,k≤ns.length→k≤12→GR 24 6120 (btK ns k)∧btP (btK ns k)
 | 0,_,_=>⟨GR.nil,fun e he=>by cases he⟩
 | k+1,h1,h2=>by
  obtain ⟨a,b⟩:=btK_ok h k (by omega) (by omega)
  rw [btK_snoc (by omega)]
  refine btE1_ok (h _ ?_) a b (by rw [btK_len k (by omega)];omega)
  rw [List.getD_eq_getElem?_getD,List.getElem?_eq_getElem (by omega)];exact List.getElem_mem _
theorem btE_ok {ns:List Ne} (h: ∀n∈ns,neOk n):GR 24 6120 (btE ns)∧btP (btE ns):=by
 rw [←btK_end (k:=min ns.length 12) (by omega) (by omega) (by omega)]
 exact btK_ok h _ (by omega) (by omega)
section
variable {D B:Int} {l:List Ev} {x:Ev}
end
end An
