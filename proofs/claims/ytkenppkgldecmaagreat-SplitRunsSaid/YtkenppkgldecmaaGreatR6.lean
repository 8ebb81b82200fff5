/- Part 6 of a proof: W35, Tl, LibZa, LibZb, LibZc, W36, W37. -/
import Derived.Test.YtkenppkgldecmaaGreatR5
/- The reference of layer 24. -/
namespace An.S
open Go Go.Proofs An
set_option maxHeartbeats 2000000
set_option maxRecDepth 100000
theorem ti67 : TyI Tryz.prog 67 7 true := ⟨by kernel_rfl, by kernel_rfl⟩
theorem sl34 : SlI Tryz.prog 34 67 7 true := ⟨Tryz.underlying34, ti67⟩
theorem fo67_0 : fieldO Tryz.prog 67 0 = some 0 := by kernel_rfl
theorem fo67_1 : fieldO Tryz.prog 67 1 = some 1 := by kernel_rfl
theorem fo67_2 : fieldO Tryz.prog 67 2 = some 2 := by kernel_rfl
theorem fo67_3 : fieldO Tryz.prog 67 3 = some 6 := by kernel_rfl
theorem fi29 : FnI Tryz.prog 29 := ⟨_, Tryz.func29, by kernel_rfl, rfl⟩
theorem fi35 : FnI Tryz.prog 35 := ⟨_, Tryz.func35, by kernel_rfl, rfl⟩
theorem fi37 : FnI Tryz.prog 37 := ⟨_, Tryz.func37, by kernel_rfl, rfl⟩
theorem fi81 : FnI Tryz.prog 81 := ⟨_, Tryz.func81, by kernel_rfl, rfl⟩
theorem fi82 : FnI Tryz.prog 82 := ⟨_, Tryz.func82, by kernel_rfl, rfl⟩
theorem fi86 : FnI Tryz.prog 86 := ⟨_, Tryz.func86, by kernel_rfl, rfl⟩
theorem zr67 : (Tryz.prog.info? 67).bind (·.zero) = some (.agg #[.int .i64 0, .int .i64 0, .bool false, .slice none 0 0, .bool false, .slice none 0 0, .int .i64 0]) ∧ ∀ F w, (tS [⟨1, false, (tE (.int .i64 0))⟩, ⟨1, false, (tE (.int .i64 0))⟩, ⟨4, true, (tS [⟨2, true, (tS [⟨1, false, (tE (.bool false))⟩, ⟨1, false, (tLm [])⟩])⟩, ⟨2, true, (tS [⟨1, false, (tE (.bool false))⟩, ⟨1, false, (tLm [])⟩])⟩])⟩, ⟨1, false, (tE (.int .i64 0))⟩]).p F w (.agg #[.int .i64 0, .int .i64 0, .bool false, .slice none 0 0, .bool false, .slice none 0 0, .int .i64 0]) := ⟨by kernel_rfl, fun _ _ => ⟨_, rfl, rfl, ⟨fun _ => rfl, rfl⟩, ⟨fun _ => rfl, rfl⟩, ⟨fun h => Bool.noConfusion h, ⟨_, rfl, rfl, ⟨fun h => Bool.noConfusion h, ⟨_, rfl, rfl, ⟨fun _ => rfl, rfl⟩, ⟨fun _ => rfl, ⟨none, 0, rfl, Nat.le_refl _, by decide, .inl rfl⟩⟩, trivial⟩⟩, ⟨fun h => Bool.noConfusion h, ⟨_, rfl, rfl, ⟨fun _ => rfl, rfl⟩, ⟨fun _ => rfl, ⟨none, 0, rfl, Nat.le_refl _, by decide, .inl rfl⟩⟩, trivial⟩⟩, trivial⟩⟩, ⟨fun _ => rfl, rfl⟩, trivial⟩⟩
theorem c_R2Order1 (f : Fr) (hf : f.dig) (vf : f.valid = true) : Ct Tryz.prog 81 [tFr f, tFr (fr ((1 : Int) : Rat))] (tI (cmpQ f.rat 1)) := by
  obtain ⟨e, s⟩ := Fr.of_valid' hf vf
  have h := c_R2Order f.rat ((1 : Int) : Rat) s short_one
  rw [← e] at h; exact h
theorem deal_at2 {l : List Deal} {k : Nat} (hd : ∀ d ∈ l, d.share.dig) (hk : k < l.length) : (l.getD k deal0).share.dig := by
  have e : l.getD k deal0 = l[k] := by simp [hk]
  rw [e]; exact hd _ (List.getElem_mem hk)
theorem c_R24small (n : Int) :
  Ct Tryz.prog 35 [tI n] (tB (wIn n)) := by
 refine Ct.intro Tryz.func35 rfl Tryz.ntmps35 rfl ?_
 intro w F
 refine x6 ?_
 refine x8 ?_
 refine R1 x5 rfl (x7 (by kernel_rfl) (x3 (x6 ?_)))
 refine x8 ?_
 refine R1 x4 rfl (R2 d_geq rfl rfl (R1 x4 rfl ?_))
 refine RGcaseD (t := 5) rfl (fun h47 => ?_) (fun h47 => ?_)
 ·
  refine RGon (decide_eq_true h47) rfl x4 rfl ⟨rfl, trivial⟩ trivial trivial (RGon (decide_eq_true h47) rfl d_leq rfl ⟨rfl, rfl, trivial⟩ trivial trivial (R2 (xb2 (decide_eq_true h47)) rfl rfl (R1 x5 rfl (x7 (by kernel_rfl) (x3 (xa2 ?_))))))
  exact xa9 Plain.mk' rfl rfl (Le.bool (by simp [wIn, *]))
 ·
  refine RGoff (decide_eq_false h47) rfl rfl (RGoff (decide_eq_false h47) rfl rfl (R2 (xc0 (decide_eq_false h47)) rfl rfl (R1 x5 rfl (x7 (by kernel_rfl) (x3 (xa2 ?_))))))
  exact xa9 Plain.mk' rfl rfl (Le.bool (by simp [wIn, *]))
theorem c_R24Valid (l : List Deal) (hD : ∀ d ∈ l, d.share.dig) :
  Ct Tryz.prog 29 [tL 7 true tDeal l] (tB (validL l)) := by
 refine Ct.intro Tryz.func29 rfl Tryz.ntmps29 rfl ?_
 intro w F
 refine C_len (s := 0) rfl (fun hl0 => ?_)
 refine x6 ?_
 refine x8 ?_
 refine R1 x5 rfl (x7 (by kernel_rfl) (x3 (x6 (x6 ?_))))
 refine x8 ?_
 refine R1 x4 rfl (R1 (xb7 Tryz.underlying34) rfl (R2 xf2 rfl rfl (x7 (by kernel_rfl) (x3 ?_))))
 refine xc5 rfl (fun h31 => ?_) (fun h31 => ?_)
 ·
  refine x6 ?_
  refine x8 ?_
  refine R1 x5 rfl (x7 (by kernel_rfl) (x3 (xa2 (xa3 ?_))))
  exact xa9 Plain.mk' rfl rfl (Le.bool (by rw [validL, decide_eq_false (by omega), Bool.false_and]))
 ·
  refine xa5 (x3 (x6 (x6 ?_)))
  refine x8 ?_
  refine R1 x5 rfl (x7 (by kernel_rfl) (x3 (xb3 ?_)))
  refine xe0 (fun (i : Nat) => i ≤ l.length ∧ (l.take i).all Deal.valid = true) (fun (i : Nat) => upd (upd (fun _ => none) 0 (some (.val (tL 7 true tDeal l)))) 3 (some (.val (tI i)))) (fun (i : Nat) => fun _ => none) (nm []) (fun (i : Nat) => l.length - i) (0) ⟨Nat.zero_le _, rfl⟩ (Sub.int rfl (by first | omega | rfl | (dsimp only; omega)) (Sub.cons rfl Sub.nil)) SubK.nil (SupG.val (SupG.val SupG.nil)) SupH.nil (lkOk rfl) ?_
  intro i hI
  obtain ⟨hi, ha⟩ := hI
  refine x6 (x6 ?_)
  refine x8 ?_
  refine R1 x4 rfl (R1 x4 rfl (R1 (xb7 Tryz.underlying34) rfl (R2 xd7 rfl rfl (x7 (by kernel_rfl) (x3 ?_)))))
  refine xc5 rfl (fun h34 => ?_) (fun h34 => ?_)
  ·
   refine xa5 (x3 (x6 (xb3 (x6 ?_))))
   refine x8 ?_
   refine R1 x4 rfl (R1 x4 rfl (R2 (xb6 sl34 (i) (by omega) (gD (l := l) (n := i) (d := deal0) (by omega))) rfl rfl (R1 (xb8 ti67) rfl (RE (xc4 (k := 4) (n := 7) (agg := true) zr67.1 zr67.2 rfl) trivial trivial ⟨rfl, trivial⟩ (RE (xa6 (es := 7) (agg := true) (0) ti67 rfl rfl rfl) ⟨rfl, rfl, trivial⟩ ⟨rfl, trivial⟩ trivial (x7 (by kernel_rfl) (x3 ?_)))))))
   refine x6 (x6 ?_)
   refine x8 ?_
   refine R1 (x9 fo67_0 rfl) rfl (xa4 (0) ti3 rfl rfl rfl (At.g 0 rfl rfl) rfl (R2 xd7 rfl rfl (R1 x4 rfl ?_)))
   refine RGcaseD (t := 21) rfl (fun h36 => ?_) (fun h36 => ?_)
   ·
    have hbad : (l.getD i deal0).valid = false := Bool.eq_false_iff.2 fun h => by have hv := Deal.valid_iff.1 h; omega
    refine RGoff (decide_eq_true h36) rfl rfl (RGoff (decide_eq_true h36) rfl rfl (RGoff (decide_eq_true h36) rfl rfl (RGoff (decide_eq_true h36) rfl rfl (RGoff (decide_eq_true h36) rfl rfl (R2 (xb2 (decide_eq_true h36)) rfl rfl (R1 x4 rfl (RGoff1 rfl rfl ?_)))))))
    refine RGoff1 rfl rfl (RGoff1 rfl rfl (R2 (xb2 rfl) rfl rfl (R1 x4 rfl (RGoff1 rfl rfl (RGoff1 rfl rfl (RGoff1 rfl rfl (R2 (xb2 rfl) rfl rfl ?_)))))))
    refine R1 x4 rfl (RGoff1 rfl rfl (RGoff1 rfl rfl (RGoff1 rfl rfl (R2 (xb2 rfl) rfl rfl (x7 (by kernel_rfl) (x3 (C_bT rfl rfl ?_)))))))
    refine x6 ?_
    refine x8 ?_
    refine R1 x5 rfl (x7 (by kernel_rfl) (x3 (xa2 (xa3 (xc7 (xa3 (xa3 ?_)))))))
    refine xc7 (xa3 ?_)
    exact xa9 Plain.mk' rfl rfl (Le.bool (by rw [validL, xg0 (l := l) (i := i) (d := deal0) (by omega) hbad, Bool.and_false]))
   ·
    refine RGon (decide_eq_false h36) rfl (x9 fo67_1 rfl) rfl ⟨rfl, trivial⟩ trivial trivial (xd2 (decide_eq_false h36) rfl rfl (0) ti3 rfl rfl rfl (At.g 1 rfl rfl) rfl (RGon (decide_eq_false h36) rfl (x9 fo67_0 rfl) rfl ⟨rfl, trivial⟩ trivial trivial (xd2 (decide_eq_false h36) rfl rfl (0) ti3 rfl rfl rfl (At.g 0 rfl rfl) rfl (RGon (decide_eq_false h36) rfl xd7 rfl ⟨rfl, rfl, trivial⟩ trivial trivial (R2 (xc0 (decide_eq_false h36)) rfl rfl (R1 x4 rfl ?_))))))
    refine RGcaseD (t := 28) rfl (fun h36_2 => ?_) (fun h36_2 => ?_)
    ·
     have hbad : (l.getD i deal0).valid = false := Bool.eq_false_iff.2 fun h => by have hv := Deal.valid_iff.1 h; omega
     refine RGoff (decide_eq_true h36_2) rfl rfl (RGoff (decide_eq_true h36_2) rfl rfl (RGoff (decide_eq_true h36_2) rfl rfl (R2 (xb2 (decide_eq_true h36_2)) rfl rfl (R1 x4 rfl (RGoff1 rfl rfl (RGoff1 rfl rfl (RGoff1 rfl rfl ?_)))))))
     refine R2 (xb2 rfl) rfl rfl (R1 x4 rfl (RGoff1 rfl rfl (RGoff1 rfl rfl (RGoff1 rfl rfl (R2 (xb2 rfl) rfl rfl (x7 (by kernel_rfl) (x3 ?_)))))))
     refine C_bT rfl rfl (x6 ?_)
     refine x8 ?_
     refine R1 x5 rfl (x7 (by kernel_rfl) (x3 (xa2 (xa3 (xc7 (xa3 (xa3 ?_)))))))
     refine xc7 (xa3 ?_)
     exact xa9 Plain.mk' rfl rfl (Le.bool (by rw [validL, xg0 (l := l) (i := i) (d := deal0) (by omega) hbad, Bool.and_false]))
    ·
     refine RGon (decide_eq_false h36_2) rfl (x9 fo67_1 rfl) rfl ⟨rfl, trivial⟩ trivial trivial (xd2 (decide_eq_false h36_2) rfl rfl (0) ti3 rfl rfl rfl (At.g 1 rfl rfl) rfl (RGon (decide_eq_false h36_2) rfl xf2 rfl ⟨rfl, rfl, trivial⟩ trivial trivial (R2 (xc0 (decide_eq_false h36_2)) rfl rfl (R1 x4 rfl ?_))))
     refine RGcaseD (t := 33) rfl (fun h36_3 => ?_) (fun h36_3 => ?_)
     ·
      have hbad : (l.getD i deal0).valid = false := Bool.eq_false_iff.2 fun h => by have hv := Deal.valid_iff.1 h; omega
      refine RGoff (decide_eq_true h36_3) rfl rfl (RGoff (decide_eq_true h36_3) rfl rfl (RGoff (decide_eq_true h36_3) rfl rfl (R2 (xb2 (decide_eq_true h36_3)) rfl rfl (R1 x4 rfl (RGoff1 rfl rfl (RGoff1 rfl rfl (RGoff1 rfl rfl ?_)))))))
      refine R2 (xb2 rfl) rfl rfl (x7 (by kernel_rfl) (x3 (C_bT rfl rfl (x6 ?_))))
      refine x8 ?_
      refine R1 x5 rfl (x7 (by kernel_rfl) (x3 (xa2 (xa3 (xc7 (xa3 (xa3 ?_)))))))
      refine xc7 (xa3 ?_)
      exact xa9 Plain.mk' rfl rfl (Le.bool (by rw [validL, xg0 (l := l) (i := i) (d := deal0) (by omega) hbad, Bool.and_false]))
     ·
      refine RGon (decide_eq_false h36_3) rfl (x9 fo67_3 rfl) rfl ⟨rfl, trivial⟩ trivial trivial (xd2 (decide_eq_false h36_3) rfl rfl (0) ti3 rfl rfl rfl (At.g 3 rfl rfl) rfl (RGon (decide_eq_false h36_3) rfl xd7 rfl ⟨rfl, rfl, trivial⟩ trivial trivial (R2 (xc0 (decide_eq_false h36_3)) rfl rfl (R1 x4 rfl ?_))))
      refine RGcaseD (t := 38) rfl (fun h36_4 => ?_) (fun h36_4 => ?_)
      ·
       have hbad : (l.getD i deal0).valid = false := Bool.eq_false_iff.2 fun h => by have hv := Deal.valid_iff.1 h; omega
       refine RGoff (decide_eq_true h36_4) rfl rfl (RGoff (decide_eq_true h36_4) rfl rfl (RGoff (decide_eq_true h36_4) rfl rfl (R2 (xb2 (decide_eq_true h36_4)) rfl rfl (x7 (by kernel_rfl) (x3 (C_bT rfl rfl (x6 ?_)))))))
       refine x8 ?_
       refine R1 x5 rfl (x7 (by kernel_rfl) (x3 (xa2 (xa3 (xc7 (xa3 (xa3 ?_)))))))
       refine xc7 (xa3 ?_)
       exact xa9 Plain.mk' rfl rfl (Le.bool (by rw [validL, xg0 (l := l) (i := i) (d := deal0) (by omega) hbad, Bool.and_false]))
      ·
       refine RGon (decide_eq_false h36_4) rfl (x9 fo67_3 rfl) rfl ⟨rfl, trivial⟩ trivial trivial (xd2 (decide_eq_false h36_4) rfl rfl (0) ti3 rfl rfl rfl (At.g 3 rfl rfl) rfl (RGon (decide_eq_false h36_4) rfl xf2 rfl ⟨rfl, rfl, trivial⟩ trivial trivial (R2 (xc0 (decide_eq_false h36_4)) rfl rfl (x7 (by kernel_rfl) (x3 ?_)))))
       refine xc5 rfl (fun h36_5 => ?_) (fun h36_5 => ?_)
       ·
        have hbad : (l.getD i deal0).valid = false := Bool.eq_false_iff.2 fun h => by have hv := Deal.valid_iff.1 h; omega
        refine x6 ?_
        refine x8 ?_
        refine R1 x5 rfl (x7 (by kernel_rfl) (x3 (xa2 (xa3 (xc7 (xa3 (xa3 ?_)))))))
        refine xc7 (xa3 ?_)
        exact xa9 Plain.mk' rfl rfl (Le.bool (by rw [validL, xg0 (l := l) (i := i) (d := deal0) (by omega) hbad, Bool.and_false]))
       ·
        refine xa5 (x3 (x6 ?_))
        have hdg := hD _ (getD_mem (l := l) (i := i) (d := deal0) (by omega))
        refine xc9 mixed ?_
        refine R1 (x9 fo67_2 rfl) rfl (R1 (x9 fo49_0 rfl) rfl (R1 (x9 fo47_1 rfl) rfl (xa4 (0) ti45 rfl rfl rfl (At.t (At.g 2 rfl rfl) (At.t (At.g 0 rfl rfl) (At.g 1 rfl rfl))) rfl (R1 (xb7 Tryz.underlying45) rfl (R2 xf2 rfl rfl (R1 x4 rfl ?_))))))
        refine RGcaseD (t := 49) rfl (fun h39 => ?_) (fun h39 => ?_)
        ·
         have hbad : (l.getD i deal0).valid = false := Bool.eq_false_iff.2 fun h => by have hv := Deal.valid_iff.1 h; omega
         refine RGoff (decide_eq_true h39) rfl rfl (RGoff (decide_eq_true h39) rfl rfl (RGoff (decide_eq_true h39) rfl rfl (RGoff (decide_eq_true h39) rfl rfl (RGoff (decide_eq_true h39) rfl rfl (RGoff (decide_eq_true h39) rfl rfl (R2 (xb2 (decide_eq_true h39)) rfl rfl (R1 x4 rfl ?_)))))))
         refine RGoff1 rfl rfl (RGoff1 rfl rfl (RGoff1 rfl rfl (RGoff1 rfl rfl (R2 (xb2 rfl) rfl rfl (R1 x4 rfl (RGoff1 rfl rfl (RGoff1 rfl rfl ?_)))))))
         refine RGoff1 rfl rfl (RGoff1 rfl rfl (R2 (xb2 rfl) rfl rfl (R1 x4 rfl (RGoff1 rfl rfl (RGoff1 rfl rfl (RGoff1 rfl rfl (RGoff1 rfl rfl ?_)))))))
         refine RGoff1 rfl rfl (R2 (xb2 rfl) rfl rfl (xd1 (by kernel_rfl) (x3 (C_bT rfl rfl (x6 ?_)))))
         refine x8 ?_
         refine R1 x5 rfl (x7 (by kernel_rfl) (x3 (xa2 (xc7 (xa3 (xa3 (xc7 ?_)))))))
         refine xa3 ?_
         exact xa9 Plain.mk' rfl rfl (Le.bool (by rw [validL, xg0 (l := l) (i := i) (d := deal0) (by omega) hbad, Bool.and_false]))
        ·
         refine RGon (decide_eq_false h39) rfl (x9 fo67_2 rfl) rfl ⟨rfl, trivial⟩ trivial trivial (RGon (decide_eq_false h39) rfl (x9 fo49_1 rfl) rfl ⟨rfl, trivial⟩ trivial trivial (RGon (decide_eq_false h39) rfl (x9 fo47_1 rfl) rfl ⟨rfl, trivial⟩ trivial trivial (xd2 (decide_eq_false h39) rfl rfl (0) ti45 rfl rfl rfl (At.t (At.g 2 rfl rfl) (At.t (At.g 1 rfl rfl) (At.g 1 rfl rfl))) rfl (RGon (decide_eq_false h39) rfl (xb7 Tryz.underlying45) rfl ⟨rfl, trivial⟩ trivial trivial (RGon (decide_eq_false h39) rfl xf2 rfl ⟨rfl, rfl, trivial⟩ trivial trivial (R2 (xc0 (decide_eq_false h39)) rfl rfl (R1 x4 rfl ?_)))))))
         refine RGcaseD (t := 57) rfl (fun h39_2 => ?_) (fun h39_2 => ?_)
         ·
          have hbad : (l.getD i deal0).valid = false := Bool.eq_false_iff.2 fun h => by have hv := Deal.valid_iff.1 h; omega
          refine RGoff (decide_eq_true h39_2) rfl rfl (RGoff (decide_eq_true h39_2) rfl rfl (RGoff (decide_eq_true h39_2) rfl rfl (RGoff (decide_eq_true h39_2) rfl rfl (R2 (xb2 (decide_eq_true h39_2)) rfl rfl (R1 x4 rfl (RGoff1 rfl rfl (RGoff1 rfl rfl ?_)))))))
          refine RGoff1 rfl rfl (RGoff1 rfl rfl (R2 (xb2 rfl) rfl rfl (R1 x4 rfl (RGoff1 rfl rfl (RGoff1 rfl rfl (RGoff1 rfl rfl (RGoff1 rfl rfl ?_)))))))
          refine RGoff1 rfl rfl (R2 (xb2 rfl) rfl rfl (xd1 (by kernel_rfl) (x3 (C_bT rfl rfl (x6 ?_)))))
          refine x8 ?_
          refine R1 x5 rfl (x7 (by kernel_rfl) (x3 (xa2 (xc7 (xa3 (xa3 (xc7 ?_)))))))
          refine xa3 ?_
          exact xa9 Plain.mk' rfl rfl (Le.bool (by rw [validL, xg0 (l := l) (i := i) (d := deal0) (by omega) hbad, Bool.and_false]))
         ·
          refine RGon (decide_eq_false h39_2) rfl (x9 fo67_2 rfl) rfl ⟨rfl, trivial⟩ trivial trivial (RGon (decide_eq_false h39_2) rfl (x9 fo49_0 rfl) rfl ⟨rfl, trivial⟩ trivial trivial (RGon (decide_eq_false h39_2) rfl (x9 fo47_0 rfl) rfl ⟨rfl, trivial⟩ trivial trivial (xd2 (decide_eq_false h39_2) rfl rfl (0) ti4 rfl rfl rfl (At.t (At.g 2 rfl rfl) (At.t (At.g 0 rfl rfl) (At.g 0 rfl rfl))) rfl (R2 (xc0 (decide_eq_false h39_2)) rfl rfl (R1 x4 rfl ?_)))))
          refine RGcase (t := 63) rfl (fun h39_3 => ?_) (fun h39_3 => ?_)
          ·
           have hbad : (l.getD i deal0).valid = false := Bool.eq_false_iff.2 fun h => by have hv := Deal.valid_iff.1 h; have h4 := hv.2.2.2.2.1; simp_all
           refine RGoff h39_3 rfl rfl (RGoff h39_3 rfl rfl (RGoff h39_3 rfl rfl (RGoff h39_3 rfl rfl (R2 (xb2 h39_3) rfl rfl (R1 x4 rfl (RGoff1 rfl rfl (RGoff1 rfl rfl ?_)))))))
           refine RGoff1 rfl rfl (RGoff1 rfl rfl (RGoff1 rfl rfl (R2 (xb2 rfl) rfl rfl (xd1 (by kernel_rfl) (x3 (C_bT rfl rfl (x6 ?_)))))))
           refine x8 ?_
           refine R1 x5 rfl (x7 (by kernel_rfl) (x3 (xa2 (xc7 (xa3 (xa3 (xc7 ?_)))))))
           refine xa3 ?_
           exact xa9 Plain.mk' rfl rfl (Le.bool (by rw [validL, xg0 (l := l) (i := i) (d := deal0) (by omega) hbad, Bool.and_false]))
          ·
           have hng : (l.getD i deal0).share.n.neg = false := h39_3
           refine RGon h39_3 rfl (x9 fo67_2 rfl) rfl ⟨rfl, trivial⟩ trivial trivial (xd2 h39_3 rfl rfl (0) ti49 rfl rfl rfl (At.g 2 rfl rfl) rfl (RGon h39_3 rfl (xa0 (c_R2Valid _ hdg.1 hdg.2) fi80 rfl) rfl ⟨rfl, trivial⟩ trivial trivial (RGon h39_3 rfl xe2 rfl ⟨rfl, trivial⟩ trivial trivial (R2 (xc0 h39_3) rfl rfl (R1 x4 rfl ?_)))))
           refine RGcase (t := 69) rfl (fun h39_4 => ?_) (fun h39_4 => ?_)
           ·
            have hv : (l.getD i deal0).share.valid = false := by simpa using h39_4
            have hbad : (l.getD i deal0).valid = false := Bool.eq_false_iff.2 fun h => by have hv := Deal.valid_iff.1 h; have h4 := hv.2.2.2.1; simp_all
            refine RGoff h39_4 rfl rfl (RGoff h39_4 rfl rfl (RGoff h39_4 rfl rfl (RGoff h39_4 rfl rfl (RGoff h39_4 rfl rfl (R2 (xb2 h39_4) rfl rfl (xd1 (by kernel_rfl) (x3 ?_)))))))
            refine C_bT rfl rfl (x6 ?_)
            refine x8 ?_
            refine R1 x5 rfl (x7 (by kernel_rfl) (x3 (xa2 (xc7 (xa3 (xa3 (xc7 ?_)))))))
            refine xa3 ?_
            exact xa9 Plain.mk' rfl rfl (Le.bool (by rw [validL, xg0 (l := l) (i := i) (d := deal0) (by omega) hbad, Bool.and_false]))
           ·
            have hv : (l.getD i deal0).share.valid = true := by simpa using h39_4
            refine RGon h39_4 rfl (x9 fo67_2 rfl) rfl ⟨rfl, trivial⟩ trivial trivial (xd2 h39_4 rfl rfl (0) ti49 rfl rfl rfl (At.g 2 rfl rfl) rfl (RGon h39_4 rfl (xa0 (c_R2FromInt 1 (by decide) (by decide)) fi82 rfl) rfl ⟨rfl, trivial⟩ trivial trivial (RGon h39_4 rfl (xa0 (c_R2Order1 _ hdg hv) fi81 rfl) rfl ⟨rfl, rfl, trivial⟩ trivial trivial (RGon h39_4 rfl xf2 rfl ⟨rfl, rfl, trivial⟩ trivial trivial (R2 (xc0 h39_4) rfl rfl (xd1 (by kernel_rfl) (x3 ?_)))))))
            refine xc5 rfl (fun h39_5 => ?_) (fun h39_5 => ?_)
            ·
             have hgt := cmpQ_pos.1 h39_5
             have hbad : (l.getD i deal0).valid = false := Bool.eq_false_iff.2 fun h => by have hv := Deal.valid_iff.1 h; exact hgt hv.2.2.2.2.2.1
             refine x6 ?_
             refine x8 ?_
             refine R1 x5 rfl (x7 (by kernel_rfl) (x3 (xa2 (xc7 (xa3 (xa3 (xc7 ?_)))))))
             refine xa3 ?_
             exact xa9 Plain.mk' rfl rfl (Le.bool (by rw [validL, xg0 (l := l) (i := i) (d := deal0) (by omega) hbad, Bool.and_false]))
            ·
             have hle : (l.getD i deal0).share.rat ≤ 1 := Classical.byContradiction fun h => h39_5 (cmpQ_pos.2 h)
             refine xa5 (xc8 (x3 ?_))
             refine x8 ?_
             refine R1 x4 rfl (R2 (xc2 (wr64 (by omega) (by omega))) rfl rfl (R1 x5 rfl (x7 (by kernel_rfl) ?_)))
             have hok : (l.getD i deal0).valid = true := Deal.valid_iff.2 ⟨by omega, by omega, by omega, hv, hng, hle, by omega, by omega, by omega, by omega⟩
             exact xc6 (i + 1) ⟨⟨by omega, by rw [all_take_succ (l := l) (i := i) (d := deal0) (by omega), ha, hok]; rfl⟩, (by omega)⟩ (Sub.int rfl (by first | omega | rfl | (dsimp only; omega)) (Sub.cons rfl Sub.nil)) SubK.nil (SupG.val (SupG.val SupG.nil)) SupH.nil (lkOk rfl)
  ·
   refine xd8 (xc1 (xc1 (xe3 (x3 (x6 ?_)))))
   refine x8 ?_
   refine R1 x5 rfl (x7 (by kernel_rfl) (x3 (xa2 ?_)))
   exact xa9 Plain.mk' rfl rfl (Le.bool (by rw [validL, decide_eq_true (by omega), Bool.true_and, ← ha, show i = l.length by omega, List.take_length]))
theorem c_R24part (d : Deal) (hD : d.share.dig) (hv : d.valid = true) (n : Int) (hn : wIn n = true) :
  Ct Tryz.prog 37 [tDeal d, tI n] (tI (take d.share.rat n)) := by
 obtain ⟨lo, hi, sh, ac⟩ := d
 obtain ⟨_, _, _, v1, v2, v3, v4, v5, _⟩ := Deal.valid_iff.1 hv
 obtain ⟨e, _⟩ := Fr.of_valid' hD v1
 obtain ⟨n1, n2⟩ := xe8.1 hn
 have q0 := nonneg_of hD v1 v2
 show Ct _ _ [tDeal ⟨lo, hi, sh, ac⟩, tI n] (tI (take sh.rat n))
 replace e : sh = fr sh.rat := e
 replace v3 : sh.rat ≤ 1 := v3
 replace q0 : 0 ≤ sh.rat := q0
 replace v4 : sh.n.l.length ≤ 4 := v4
 replace v5 : sh.d.l.length ≤ 4 := v5
 clear v1 v2 hv hD
 generalize sh.rat = q at *
 subst e
 replace v4 : len16 q.num ≤ 4 := v4
 replace v5 : len16 q.den ≤ 4 := v5
 obtain ⟨t1, t2⟩ := xe8.1 (wIn_take q0 v3 hn)
 have ht : q.num * n / (q.den : Int) = take q n := take_num
 have hdp : (0 : Int) < (q.den : Int) := by have := q.den_pos; omega
 have hln := len16_64 (n := n) (by omega) (by omega)
 have hlp := len16_mul v4 hln
 have hlq : len16 (q.num * n / (q.den : Int)) ≤ 8 := len16_div hlp
 have hf : fits (take q n) = true := by simp only [fits, Bool.and_eq_true, decide_eq_true_eq]; omega
 refine Ct.intro Tryz.func37 rfl Tryz.ntmps37 rfl ?_
 intro w F
 refine x6 ?_
 refine x8 ?_
 refine RE (xd4 (k := 2) ti67 rfl) ⟨rfl, trivial⟩ trivial ⟨rfl, trivial⟩ (R1 x5 rfl (x7 (by kernel_rfl) (x3 (x6 ?_))))
 refine xc9 mixed ?_
 refine R1 (x9 fo67_2 rfl) rfl (R1 (x9 fo49_0 rfl) rfl (xa4 (0) ti47 rfl rfl rfl (At.t (At.g 2 rfl rfl) (At.g 0 rfl rfl)) rfl (R1 x4 rfl (R1 (xa0 (c_RFromInt n (by omega) (by omega)) fi77 rfl) rfl (R2 (xa0 (c_RProduct q.num n (by omega) (by omega)) fi85 rfl) rfl rfl (R1 (x9 fo67_2 rfl) rfl (R1 (x9 fo49_1 rfl) rfl ?_)))))))
 refine xa4 (0) ti47 rfl rfl rfl (At.t (At.g 2 rfl rfl) (At.g 1 rfl rfl)) rfl (R2 (xa0 (c_RFloor (q.num * n) (q.den : Int) (by omega) (by omega) hdp) fi84 rfl) rfl rfl (R1 x4 rfl (R1 (xa8 rfl) rfl (R1 (xa8 rfl) rfl (RE (xc4 (k := 5) (n := 2) (agg := true) zr47.1 zr47.2 rfl) trivial trivial ⟨rfl, trivial⟩ (RE (xc4 (k := 6) (n := 2) (agg := true) zr47.1 zr47.2 rfl) trivial trivial ⟨rfl, trivial⟩ (RE (xa6 (es := 2) (agg := true) (0) ti47 rfl rfl rfl) ⟨rfl, rfl, trivial⟩ ⟨rfl, trivial⟩ trivial ?_)))))))
 refine RE (xa6 (es := 2) (agg := true) (0) ti47 rfl rfl rfl) ⟨rfl, rfl, trivial⟩ ⟨rfl, trivial⟩ trivial (xd1 (by kernel_rfl) (x3 (x6 ?_)))
 refine x8 ?_
 refine RE (xa7 (0) ti47 rfl rfl) ⟨rfl, trivial⟩ ⟨rfl, trivial⟩ trivial (R1 (xa0 (c_RInt (q.num * n / (q.den : Int)) (by omega)) fi86 rfl) rfl (R1 x4 rfl (R1 (xa8 rfl) rfl (R1 (xa8 rfl) rfl (R1 x5 rfl (R1 x5 rfl (x7 (by kernel_rfl) ?_)))))))
 refine x3 (x6 ?_)
 refine x8 ?_
 refine R1 x4 rfl (R1 x5 rfl (x7 (by kernel_rfl) (x3 (xa2 ?_))))
 exact xa9 Plain.mk' rfl rfl (Le.int (by rw [ht, if_pos hf]))
theorem c_R24Right (l : List Deal) (o : Int) (b p : List Int) (hD : ∀ d ∈ l, d.share.dig) :
  Ct Tryz.prog 34 [tL 7 true tDeal l, tState o b p] (tB (rightL l o b p)) := by
 refine Ct.intro Tryz.func34 rfl Tryz.ntmps34 rfl ?_
 intro w F
 refine C_len (s := 0) rfl (fun hl0 => ?_)
 refine x6 ?_
 refine x8 ?_
 refine RE (xd4 (k := 3) ti31 rfl) ⟨rfl, trivial⟩ trivial ⟨rfl, trivial⟩ (R1 x5 rfl (x7 (by kernel_rfl) (x3 (x6 (x6 ?_)))))
 refine x8 ?_
 refine R1 x4 rfl (R1 (xa0 (c_R24Valid l hD) fi29 rfl) rfl (R1 xe2 rfl (R1 x4 rfl ?_)))
 refine RGcase (t := 9) rfl (fun h58 => ?_) (fun h58 => ?_)
 ·
  have hvl : validL l = false := by simpa using h58
  refine RGoff h58 rfl rfl (RGoff h58 rfl rfl (RGoff h58 rfl rfl (RGoff h58 rfl rfl (RGoff h58 rfl rfl (RGoff h58 rfl rfl (R2 (xb2 h58) rfl rfl (R1 x4 rfl ?_)))))))
  refine RGoff1 rfl rfl (RGoff1 rfl rfl (RGoff1 rfl rfl (RGoff1 rfl rfl (RGoff1 rfl rfl (RGoff1 rfl rfl (R2 (xb2 rfl) rfl rfl (R1 x4 rfl ?_)))))))
  refine RGoff1 rfl rfl (RGoff1 rfl rfl (RGoff1 rfl rfl (RGoff1 rfl rfl (R2 (xb2 rfl) rfl rfl (x7 (by kernel_rfl) (x3 (C_bT rfl rfl ?_)))))))
  refine x6 ?_
  refine x8 ?_
  refine R1 x5 rfl (x7 (by kernel_rfl) (x3 (xa2 (xa3 ?_))))
  exact xa9 Plain.mk' rfl rfl (Le.bool (by rw [rightL, hvl]; rfl))
 ·
  have hvl : validL l = true := by simpa using h58
  refine RGon h58 rfl (x9 fo31_1 rfl) rfl ⟨rfl, trivial⟩ trivial trivial (xd2 h58 rfl rfl (0) ti23 rfl rfl rfl (At.g 1 rfl rfl) rfl (RGon h58 rfl (xb7 Tryz.underlying23) rfl ⟨rfl, trivial⟩ trivial trivial (RGon h58 rfl x4 rfl ⟨rfl, trivial⟩ trivial trivial (RGon h58 rfl (xb7 Tryz.underlying34) rfl ⟨rfl, trivial⟩ trivial trivial (RGon h58 rfl xg8 rfl ⟨rfl, rfl, trivial⟩ trivial trivial (R2 (xc0 h58) rfl rfl (R1 x4 rfl ?_)))))))
  refine RGcaseD (t := 17) rfl (fun h58_2 => ?_) (fun h58_2 => ?_)
  ·
   refine RGoff (decide_eq_true h58_2) rfl rfl (RGoff (decide_eq_true h58_2) rfl rfl (RGoff (decide_eq_true h58_2) rfl rfl (RGoff (decide_eq_true h58_2) rfl rfl (RGoff (decide_eq_true h58_2) rfl rfl (RGoff (decide_eq_true h58_2) rfl rfl (R2 (xb2 (decide_eq_true h58_2)) rfl rfl (R1 x4 rfl ?_)))))))
   refine RGoff1 rfl rfl (RGoff1 rfl rfl (RGoff1 rfl rfl (RGoff1 rfl rfl (R2 (xb2 rfl) rfl rfl (x7 (by kernel_rfl) (x3 (C_bT rfl rfl ?_)))))))
   refine x6 ?_
   refine x8 ?_
   refine R1 x5 rfl (x7 (by kernel_rfl) (x3 (xa2 (xa3 ?_))))
   exact xa9 Plain.mk' rfl rfl (Le.bool (by rw [rightL, hvl, decide_eq_false (show ¬ b.length = l.length by omega)]; rfl))
  ·
   refine RGon (decide_eq_false h58_2) rfl (x9 fo31_2 rfl) rfl ⟨rfl, trivial⟩ trivial trivial (xd2 (decide_eq_false h58_2) rfl rfl (0) ti23 rfl rfl rfl (At.g 2 rfl rfl) rfl (RGon (decide_eq_false h58_2) rfl (xb7 Tryz.underlying23) rfl ⟨rfl, trivial⟩ trivial trivial (RGon (decide_eq_false h58_2) rfl x4 rfl ⟨rfl, trivial⟩ trivial trivial (RGon (decide_eq_false h58_2) rfl (xb7 Tryz.underlying34) rfl ⟨rfl, trivial⟩ trivial trivial (RGon (decide_eq_false h58_2) rfl xg8 rfl ⟨rfl, rfl, trivial⟩ trivial trivial (R2 (xc0 (decide_eq_false h58_2)) rfl rfl (R1 x4 rfl ?_)))))))
   refine RGcaseD (t := 25) rfl (fun h58_3 => ?_) (fun h58_3 => ?_)
   ·
    refine RGoff (decide_eq_true h58_3) rfl rfl (RGoff (decide_eq_true h58_3) rfl rfl (RGoff (decide_eq_true h58_3) rfl rfl (RGoff (decide_eq_true h58_3) rfl rfl (R2 (xb2 (decide_eq_true h58_3)) rfl rfl (x7 (by kernel_rfl) (x3 (C_bT rfl rfl ?_)))))))
    refine x6 ?_
    refine x8 ?_
    refine R1 x5 rfl (x7 (by kernel_rfl) (x3 (xa2 (xa3 ?_))))
    exact xa9 Plain.mk' rfl rfl (Le.bool (by rw [rightL, hvl, decide_eq_false (show ¬ p.length = l.length by omega)]; simp))
   ·
    refine RGon (decide_eq_false h58_3) rfl (x9 fo31_0 rfl) rfl ⟨rfl, trivial⟩ trivial trivial (xd2 (decide_eq_false h58_3) rfl rfl (0) ti3 rfl rfl rfl (At.g 0 rfl rfl) rfl (RGon (decide_eq_false h58_3) rfl (xa0 (c_R24small _) fi35 rfl) rfl ⟨rfl, trivial⟩ trivial trivial (RGon (decide_eq_false h58_3) rfl xe2 rfl ⟨rfl, trivial⟩ trivial trivial (R2 (xc0 (decide_eq_false h58_3)) rfl rfl (x7 (by kernel_rfl) (x3 ?_))))))
    refine xf0 rfl (fun h58_4 => ?_) (fun h58_4 => ?_)
    ·
     have hwo : wIn o = false := by simpa using h58_4
     refine x6 ?_
     refine x8 ?_
     refine R1 x5 rfl (x7 (by kernel_rfl) (x3 (xa2 (xa3 ?_))))
     exact xa9 Plain.mk' rfl rfl (Le.bool (by rw [rightL, hwo]; simp))
    ·
     have hwo : wIn o = true := by simpa using h58_4
     refine xa5 (x3 (x6 (x6 ?_)))
     refine x8 ?_
     refine R1 x5 rfl (x7 (by kernel_rfl) (x3 (xb3 ?_)))
     refine xe0 (fun (i : Nat) => i ≤ l.length ∧ (List.range i).all (fun i => wIn (b.getD i 0) && decide (p.getD i 0 = take (l.getD i deal0).share.rat (b.getD i 0))) = true) (fun (i : Nat) => upd (upd (upd (fun _ => none) 0 (some (.val (tL 7 true tDeal l)))) 3 (some (.own (.ptr 3 0)))) 5 (some (.val (tI i)))) (fun (i : Nat) => upd (fun _ => none) 3 (some (⟨31, 3, true, [.val (tState o b p)]⟩))) (nm [3]) (fun (i : Nat) => l.length - i) (0) ⟨Nat.zero_le _, rfl⟩ (Sub.int rfl (by first | omega | rfl | (dsimp only; omega)) (Sub.cons rfl (Sub.cons rfl Sub.nil))) ((SubK.consI rfl ImpK.refl) SubK.nil) (SupG.val (SupG.own rfl (SupG.val SupG.nil))) (SupH.cons rfl (supJL rfl) SupH.nil) (lkOk rfl) ?_
     intro i hI
     obtain ⟨hi, ha⟩ := hI
     refine x6 (x6 ?_)
     refine x8 ?_
     refine R1 x4 rfl (R1 x4 rfl (R1 (xb7 Tryz.underlying34) rfl (R2 xd7 rfl rfl (x7 (by kernel_rfl) (x3 ?_)))))
     refine xc5 rfl (fun h61 => ?_) (fun h61 => ?_)
     ·
      refine xa5 (x3 (x6 (xb3 (x6 ?_))))
      refine xc9 mixed ?_
      refine R1 (x9 fo31_1 rfl) rfl (xa4 (0) ti23 rfl rfl rfl (At.g 1 rfl rfl) rfl (R1 x4 rfl (R2 (xb6 sl23 (i) (by omega) (gZ (by omega))) rfl rfl (R1 (xb8 ti3) rfl (R1 (xa0 (c_R24small _) fi35 rfl) rfl (R1 xe2 rfl (R1 x4 rfl ?_)))))))
      refine RGcase (t := 44) rfl (fun h62 => ?_) (fun h62 => ?_)
      ·
       have hbad : (fun i => wIn (b.getD i 0) && decide (p.getD i 0 = take (l.getD i deal0).share.rat (b.getD i 0))) i = false := by
        have hw : wIn (b.getD i 0) = false := by simpa using h62
        simp only [hw, Bool.false_and]
       refine RGoff h62 rfl rfl (RGoff h62 rfl rfl (RGoff h62 rfl rfl (RGoff h62 rfl rfl (RGoff h62 rfl rfl (RGoff h62 rfl rfl (RGoff h62 rfl rfl (RGoff h62 rfl rfl ?_)))))))
       refine RGoff h62 rfl rfl (RGoff h62 rfl rfl (RGoff h62 rfl rfl (RGoff h62 rfl rfl (RGoff h62 rfl rfl (RGoff h62 rfl rfl (RGoff h62 rfl rfl (RGoff h62 rfl rfl ?_)))))))
       refine R2 (xb2 h62) rfl rfl (xd1 (by kernel_rfl) (x3 (C_bT rfl rfl (x6 ?_))))
       refine x8 ?_
       refine R1 x5 rfl (x7 (by kernel_rfl) (x3 (xa2 (xc7 (xa3 (xa3 (xc7 ?_)))))))
       refine xa3 ?_
       exact xa9 Plain.mk' rfl rfl (Le.bool (by rw [rightL, range_stop (i := i) (by omega) hbad, Bool.and_false]))
      ·
       have hw : wIn (b.getD i 0) = true := by simpa using h62
       refine RGon h62 rfl (x9 fo31_2 rfl) rfl ⟨rfl, trivial⟩ trivial trivial (xd2 h62 rfl rfl (0) ti23 rfl rfl rfl (At.g 2 rfl rfl) rfl (RGon h62 rfl x4 rfl ⟨rfl, trivial⟩ trivial trivial (RGon h62 rfl (xb6 sl23 (i) (by omega) (gZ (by omega))) rfl ⟨rfl, rfl, trivial⟩ trivial trivial (RGon h62 rfl (xb8 ti3) rfl ⟨rfl, trivial⟩ trivial trivial (RGon h62 rfl x4 rfl ⟨rfl, trivial⟩ trivial trivial (RGon h62 rfl x4 rfl ⟨rfl, trivial⟩ trivial trivial (RGon h62 rfl (xb6 sl34 (i) (by omega) (gD (l := l) (n := i) (d := deal0) (by omega))) rfl ⟨rfl, rfl, trivial⟩ trivial trivial ?_)))))))
       refine RGon h62 rfl (xb8 ti67) rfl ⟨rfl, trivial⟩ trivial trivial (RGon h62 rfl (x9 fo31_1 rfl) rfl ⟨rfl, trivial⟩ trivial trivial (xd2 h62 rfl rfl (0) ti23 rfl rfl rfl (At.g 1 rfl rfl) rfl (RGon h62 rfl x4 rfl ⟨rfl, trivial⟩ trivial trivial (RGon h62 rfl (xb6 sl23 (i) (by omega) (gZ (by omega))) rfl ⟨rfl, rfl, trivial⟩ trivial trivial (RGon h62 rfl (xb8 ti3) rfl ⟨rfl, trivial⟩ trivial trivial (RGon h62 rfl (xa0 (c_R24part _ (hD _ (getD_mem (l := l) (i := i) (d := deal0) (by omega))) (validL_get hvl (by omega)) _ hw) fi37 rfl) rfl ⟨rfl, rfl, trivial⟩ trivial trivial (RGon h62 rfl xg8 rfl ⟨rfl, rfl, trivial⟩ trivial trivial ?_)))))))
       refine R2 (xc0 h62) rfl rfl (xd1 (by kernel_rfl) (x3 ?_))
       refine xc5 rfl (fun h62_2 => ?_) (fun h62_2 => ?_)
       ·
        have hbad : (fun i => wIn (b.getD i 0) && decide (p.getD i 0 = take (l.getD i deal0).share.rat (b.getD i 0))) i = false := by
         simp only [decide_eq_false (show ¬ p.getD i 0 = take (l.getD i deal0).share.rat (b.getD i 0) by omega), Bool.and_false]
        refine x6 ?_
        refine x8 ?_
        refine R1 x5 rfl (x7 (by kernel_rfl) (x3 (xa2 (xc7 (xa3 (xa3 (xc7 ?_)))))))
        refine xa3 ?_
        exact xa9 Plain.mk' rfl rfl (Le.bool (by rw [rightL, range_stop (i := i) (by omega) hbad, Bool.and_false]))
       ·
        refine xa5 (xc8 (x3 ?_))
        refine x8 ?_
        refine R1 x4 rfl (R2 (xc2 (wr64 (by omega) (by omega))) rfl rfl (R1 x5 rfl (x7 (by kernel_rfl) ?_)))
        exact xc6 (i + 1) ⟨⟨by omega, by rw [range_next, ha, Bool.true_and, hw, Bool.true_and, decide_eq_true (by omega)]⟩, (by omega)⟩ (Sub.int rfl (by first | omega | rfl | (dsimp only; omega)) (Sub.cons rfl (Sub.cons rfl Sub.nil))) ((SubK.consI rfl ImpK.refl) SubK.nil) (SupG.val (SupG.own rfl (SupG.val SupG.nil))) (SupH.cons rfl (supJL rfl) SupH.nil) (lkOk rfl)
     ·
      refine xd8 (xc1 (xc1 (xe3 (x3 (x6 ?_)))))
      refine x8 ?_
      refine R1 x5 rfl (x7 (by kernel_rfl) (x3 (xa2 ?_)))
      exact xa9 Plain.mk' rfl rfl (Le.bool (by rw [rightL, hvl, hwo, decide_eq_true (show b.length = l.length by omega), decide_eq_true (show p.length = l.length by omega), ← show i = l.length by omega, ha]; rfl))
theorem c_R24New (l : List Deal) (hD : ∀ d ∈ l, d.share.dig) :
  Ct Tryz.prog 9 [tL 7 true tDeal l] (tT [tState 0 (if validL l then (List.replicate l.length (0 : Int)) else []) (if validL l then (List.replicate l.length (0 : Int)) else []), tI (if validL l then 0 else 2)]) := by
 refine Ct.intro Tryz.func9 rfl Tryz.ntmps9 rfl ?_
 intro w F
 refine x6 ?_
 refine x8 ?_
 refine RE (xc4 (k := 2) (n := 3) (agg := true) zr31.1 zr31.2 rfl) trivial trivial ⟨rfl, trivial⟩ (R1 x5 rfl (x7 (by kernel_rfl) (x3 (x6 (x6 ?_)))))
 refine x8 ?_
 refine R1 x4 rfl (R1 (xa0 (c_R24Valid l hD) fi29 rfl) rfl (R1 xe2 rfl (x7 (by kernel_rfl) (x3 ?_))))
 refine xf0 rfl (fun h71 => ?_) (fun h71 => ?_)
 ·
  have hvl : validL l = false := by simpa using h71
  refine x6 ?_
  refine x8 ?_
  refine R0 (xd9 (r := tS [⟨1, false, (tE (.int .i64 0))⟩, ⟨1, false, (tIs [])⟩, ⟨1, false, (tIs [])⟩]) (ts := []) bu31 zr31.2 ⟨_, rfl⟩ rfl Le.refl)  (RE (xa6 (es := 3) (agg := true) (0) ti31 rfl rfl rfl) ⟨rfl, rfl, trivial⟩ ⟨rfl, trivial⟩ trivial (R1 x5 rfl (x7 (by kernel_rfl) (x3 (xa2 (xa3 ?_))))))
  exact xf1 Plain.mk' (rs := [.cell 2 31, .tmp 3]) rfl rfl ⟨⟨_, _, _, _, _, rfl, rfl, ti31, (Le.of (by rw [hvl]; rfl))⟩, ⟨_, rfl, (Le.int (by rw [hvl]; rfl))⟩, trivial⟩
 ·
  have hvl : validL l = true := by simpa using h71
  have hl16 := xi6 hvl
  refine xa5 (x3 (x6 ?_))
  refine xc9 mixed ?_
  refine R1 x4 rfl (R1 (xb7 Tryz.underlying34) rfl (R2 (d_makeT (f := fun n : Int => tI n) (y0 := 0) (ys := (List.replicate l.length (0 : Int))) l.length l.length Tryz.underlying23 el3 (fun _ _ => rfl) inferInstance rfl rfl rfl (Nat.le_refl _) (by omega) (by omega) rfl) rfl rfl (R1 x4 rfl (R1 (xb7 Tryz.underlying34) rfl (R2 (d_makeT (f := fun n : Int => tI n) (y0 := 0) (ys := (List.replicate l.length (0 : Int))) l.length l.length Tryz.underlying23 el3 (fun _ _ => rfl) inferInstance rfl rfl rfl (Nat.le_refl _) (by omega) (by omega) rfl) rfl rfl (R2 (xd9 (r := tS [⟨1, false, (tE (.int .i64 0))⟩, ⟨1, false, tIs (List.replicate l.length (0 : Int))⟩, ⟨1, false, tIs (List.replicate l.length (0 : Int))⟩]) (ts := [(1, tIs (List.replicate l.length (0 : Int))), (2, tIs (List.replicate l.length (0 : Int)))]) bu31 zr31.2 ⟨_, rfl⟩ rfl ⟨_, _, _, _, rfl, Up.f (fs := [⟨1, false, (tE (.int .i64 0))⟩, ⟨1, false, (tIs [])⟩, ⟨1, false, (tIs [])⟩]) (f := ⟨1, false, (tIs [])⟩) (fs' := [⟨1, false, (tE (.int .i64 0))⟩, ⟨1, false, tIs (List.replicate l.length (0 : Int))⟩, ⟨1, false, (tIs [])⟩]) 1 rfl rfl rfl, inferInstance, ⟨_, _, _, _, rfl, Up.f (fs := [⟨1, false, (tE (.int .i64 0))⟩, ⟨1, false, tIs (List.replicate l.length (0 : Int))⟩, ⟨1, false, (tIs [])⟩]) (f := ⟨1, false, (tIs [])⟩) (fs' := [⟨1, false, (tE (.int .i64 0))⟩, ⟨1, false, tIs (List.replicate l.length (0 : Int))⟩, ⟨1, false, tIs (List.replicate l.length (0 : Int))⟩]) 2 rfl rfl rfl, inferInstance, Le.refl⟩⟩) rfl rfl (RE (xa6 (es := 3) (agg := true) (0) ti31 rfl rfl rfl) ⟨rfl, rfl, trivial⟩ ⟨rfl, trivial⟩ trivial ?_)))))))
  refine R1 x5 rfl (xd1 (by kernel_rfl) (x3 (xa2 ?_)))
  exact xf1 Plain.mk' (rs := [.cell 2 31, .tmp 3]) rfl rfl ⟨⟨_, _, _, _, _, rfl, rfl, ti31, (Le.of (by rw [hvl]; rfl))⟩, ⟨_, rfl, (Le.int (by rw [hvl]; rfl))⟩, trivial⟩
theorem c_R24applies (d : Deal) (m : Int) :
  Ct Tryz.prog 36 [tDeal d, tI m] (tB (d.on m)) := by
 refine Ct.intro Tryz.func36 rfl Tryz.ntmps36 rfl ?_
 intro w F
 refine x6 ?_
 refine x8 ?_
 refine RE (xd4 (k := 2) ti67 rfl) ⟨rfl, trivial⟩ trivial ⟨rfl, trivial⟩ (R1 x5 rfl (x7 (by kernel_rfl) (x3 (x6 ?_))))
 refine x8 ?_
 refine R1 (x9 fo67_0 rfl) rfl (xa4 (0) ti3 rfl rfl rfl (At.g 0 rfl rfl) rfl (R1 x4 rfl (R2 d_leq rfl rfl (R1 x4 rfl ?_))))
 refine RGcaseD (t := 9) rfl (fun h78 => ?_) (fun h78 => ?_)
 ·
  refine RGon (decide_eq_true h78) rfl x4 rfl ⟨rfl, trivial⟩ trivial trivial (RGon (decide_eq_true h78) rfl (x9 fo67_1 rfl) rfl ⟨rfl, trivial⟩ trivial trivial (xd2 (decide_eq_true h78) rfl rfl (0) ti3 rfl rfl rfl (At.g 1 rfl rfl) rfl (RGon (decide_eq_true h78) rfl xd7 rfl ⟨rfl, rfl, trivial⟩ trivial trivial (R2 (xb2 (decide_eq_true h78)) rfl rfl (R1 x5 rfl (x7 (by kernel_rfl) (x3 ?_)))))))
  refine xa2 ?_
  exact xa9 Plain.mk' rfl rfl (Le.bool (by simp [Deal.on, *]))
 ·
  refine RGoff (decide_eq_false h78) rfl rfl (RGoff (decide_eq_false h78) rfl rfl (RGoff (decide_eq_false h78) rfl rfl (RGoff (decide_eq_false h78) rfl rfl (R2 (xc0 (decide_eq_false h78)) rfl rfl (R1 x5 rfl (x7 (by kernel_rfl) (x3 ?_)))))))
  refine xa2 ?_
  exact xa9 Plain.mk' rfl rfl (Le.bool (by simp [Deal.on, *]))
end An.S

/- Layers 4, 5 and 8: spans, values, steps. Plain data. -/
namespace An
open Go
structure Va where
  kind : Nat
  f : Fr
  i : Int
deriving DecidableEq
structure Sn where
  lo : Int
  hi : Int
deriving DecidableEq
structure Tst where
  lo : Int
  hi : Int
  v : Va
deriving DecidableEq
instance : Inhabited Sn := ⟨⟨0, 0⟩⟩
def va0 : Va := ⟨0, fr0, 0⟩
def sn0 : Sn := ⟨0, 0⟩
def tst0 : Tst := ⟨0, 0, va0⟩
abbrev tVa (v : Va) : Ty := tS [⟨1, false, tE (.int .u8 (v.kind : Int))⟩, ⟨4, true, tFr v.f⟩, ⟨1, false, tI v.i⟩]
abbrev tSn (s : Sn) : Ty := tS [⟨1, false, tI s.lo⟩, ⟨1, false, tI s.hi⟩]
abbrev tTs (s : Tst) : Ty := tS [⟨1, false, tI s.lo⟩, ⟨1, false, tI s.hi⟩, ⟨6, true, tVa s.v⟩]
def Va.valid (v : Va) : Bool :=
  if v.kind = 2 ∨ v.kind = 3 then decide (v.i = 0) && v.f.valid
  else if v.kind = 1 then decide (v.f = fr0) && decide (0 ≤ v.i) && decide (v.i ≤ 1)
  else if v.kind = 4 then decide (v.f = fr0) && decide (0 ≤ v.i) && decide (v.i < 65536)
  else if v.kind = 5 ∨ v.kind = 6 then decide (v.f = fr0) && decide (-1048576 ≤ v.i) && decide (v.i ≤ 1048576)
  else false
/-- A step and the one before it. -/
def tOk (l : List Tst) (i : Nat) : Bool :=
  decide (0 ≤ (l.getD i tst0).lo) && decide ((l.getD i tst0).lo < (l.getD i tst0).hi) && decide ((l.getD i tst0).hi ≤ 65536) &&
    (decide (i = 0) || decide ((l.getD (i - 1) tst0).hi ≤ (l.getD i tst0).lo) && decide ((l.getD (i - 1) tst0).v.kind = (l.getD i tst0).v.kind) && !(decide ((l.getD (i - 1) tst0).hi = (l.getD i tst0).lo) && decide ((l.getD (i - 1) tst0).v = (l.getD i tst0).v)))
def tRight (l : List Tst) : Bool := (List.range l.length).all (tOk l) && l.all fun s => s.v.valid
/-- A service record. -/
def sOk (s : Tst) : Bool := decide (s.v.kind = 2) && !s.v.f.n.neg && decide (s.v.f.rat ≤ 1)
def sRight (l : List Tst) : Bool := tRight l && l.all sOk
def Sn.ok (s : Sn) : Bool := decide (0 ≤ s.lo) && decide (s.lo ≤ s.hi) && decide (s.hi ≤ 65536)
/-- One more span, behind a set. -/
def mrg1 (acc : List Sn) (s : Sn) : List Sn :=
  if 0 < acc.length ∧ s.lo ≤ (acc.getD (acc.length - 1) sn0).hi then acc.set (acc.length - 1) ⟨(acc.getD (acc.length - 1) sn0).lo, max (acc.getD (acc.length - 1) sn0).hi s.hi⟩ else acc ++ [s]
def mrg (xs : List Sn) : List Sn := xs.foldl mrg1 []
end An

/- Comparing structs of two numbers; a nil slice in a struct variable, as a slice of one's own. For any program. -/
namespace An
open Go
/-- A struct of two numbers. -/
structure EqS2 (P : Program) (T : TypeId) : Prop where
  eq : ∀ (a b c d : Int) (w : World), (Op.equal T (.agg #[.int .i64 a, .int .i64 b]) (.agg #[.int .i64 c, .int .i64 d])).run P w = .ok (a == c && b == d) w
  guard : P.eqGuardType P.depth T = false
/-- A slot, seen as something else. -/
theorem St.recast {c : Base} {g : Slots} {h : Keys} {al : Names} {a : Act} {w : World} {t : Nat} {e e' : Ent} (hs : St c g h al a w) (hg : g t = some e) (hi : ∀ F η v, e.sat F w η v → e'.sat F w η v) (hsup : e'.supp = []) : St c (upd g t (some e')) h al a w := by
  obtain ⟨η, s⟩ := hs
  have s2 := s.put (s.slot t _ hg).1 (e := e') (hi _ _ _ (s.slot t _ hg).2.2) fun j hj => by rw [hsup] at hj; cases hj
  refine ⟨η, ?_⟩
  have ea : a.put (some t) (a.tmps.getD t undef) = a := by
    have hlt : t < a.tmps.size := by rw [s.tn]; exact (s.slot t _ hg).1
    have : a.tmps.setIfInBounds t (a.tmps.getD t undef) = a.tmps := by
      apply Array.ext_getElem?
      intro i
      rw [Array.getElem?_setIfInBounds]
      by_cases hi : t = i
      · subst hi; simp [hlt]
      · simp [hi]
    simp only [Act.put, this]
  rw [← ea]; exact s2
theorem fdOne_row {F : Dom} {w : World} {η : Env} {cs : Array Value} : ∀ (ts : List Ty) (o : Nat), Fd.all F w cs o (fdOne ts) → RowOk F w η cs o (ts.map Ent.val)
  | [], _, _ => fun i e hi => by simp at hi
  | t :: r, o, h => fun i e hi => by
    cases i with
    | zero =>
      simp only [List.map_cons, List.getElem?_cons_zero, Option.some.injEq] at hi
      subst hi
      exact h.1.2
    | succ i =>
      have := fdOne_row (η := η) r (o + 1) h.2 i e (by simpa using hi)
      rwa [show o + 1 + i = o + (i + 1) by omega] at this
/-- A struct, as a row of its cells. -/
theorem Does.rowV {P : Program} {c : Base} {o : Oper} {rd : List (Operand × Ent)} {kr : List (Nat × HEnt)} {d : Nat} {ts : List Ty} {kw : List (Nat × Option HEnt)} {nk : List Nat} {es : List Ent} (he : ts.map Ent.val = es) (hd : Does P c o ⟨rd, kr, some (d, some (.val (tS (fdOne ts)))), kw, nk⟩) :
    Does P c o ⟨rd, kr, some (d, some (.own (An.rowV es))), kw, nk⟩ := by
  subst he
  intro g h al a w hp hs
  refine Oper.wpIn_mono (fun a' w' hs' => ?_) (hd g h al a w ⟨hp.rd, hp.kr, hp.nk, fun x hx => by cases hx; exact hp.d (d, some (.own (An.rowV (ts.map Ent.val)))) rfl⟩ hs)
  have := hs'.recast (t := d) (e' := .own (An.rowV (ts.map Ent.val))) (xe1 _ _ _) (fun F η v hv => ?_) (by rw [rowV_supp]; simp [List.flatMap_map, Ent.supp])
  · simp only [Eff.g, upd_twice] at this ⊢
    exact this
  · obtain ⟨cs, h1, h2, h3⟩ := hv
    exact rowV_sat.2 ⟨cs, h1, by rw [h2, fdOne_sum]; simp, fdOne_row ts 0 h3⟩
end An

/- A slice of memory that was lent gets a name of one's own. For any program. -/
namespace An
open Go
end An

/- Arrays of structs that are written out, and their elements; the empty slice that is written out, as one's own. For any program. -/
namespace An
open Go
theorem BuI.array {P : Program} {T E len n : Nat} {agg : Bool} {z : Value} (hu : P.underlying T = some (.array len E)) (te : TyI P E n agg) (hz : (P.info? T).bind (·.zero) = some z) : BuI P T (fun i => some (i * n, n)) z := by
  refine ⟨fun parts w cs hf => ?_⟩
  simp only [Instr.build, Sem.run_bind, run_zero hz, Result.andThen_ok, run_underlying hu, te.size_run w]
  rw [hf]
  simp
section
variable {P : Program} {c : Base} {d ty : Nat} {pos : String} {af : Array Edge} {gd : Option (Nat × Bool)}
/-- The empty slice that is written out. -/
theorem d_empty {k : Nat} {T E es by_ : Nat} {agg : Bool} {z : Value} (sl : P.underlying T = some (.slice E)) (el : ElI P E es by_ agg z) (hes : Nat.blt 0 es = true) (hagg : agg = false → es = 1) :
    Does P c ⟨some d, .buildSlice T 0 #[], ty, pos, af, gd⟩ ⟨[], [], some (d, some (.own (.sl k es 0 0))), [(k, some ⟨E, es, agg, []⟩)], [k]⟩ := by
  intro g h al a w hp ⟨η, s⟩
  have hrun : (execOp a.eval ⟨some d, .buildSlice T 0 #[], ty, pos, af, gd⟩).run P w = .ok (.value (.slice (some ⟨w.heap.size, 0, none⟩) 0 0)) { w with heap := w.heap.push (.cells #[] E) } := by
    simp [execOp, Instr.buildSlice, Sem.run_bind, run_underlying sl, Result.andThen_ok, el.el.size_run w, Sem.run_pure, Instr.fill, run_newRow, go_sem]
  have hext : Ext w { w with heap := w.heap.push (.cells #[] E) } := ⟨rfl, rfl, rfl, by simp, fun b hb => by
    show (w.heap.push _)[b]? = _
    rw [Array.getElem?_push, if_neg (by omega)]⟩
  have s' := s.new' k hp.nk.1 ⟨E, es, agg, []⟩ 0 0 (Nat.le_refl _) (by simpa using hes) hagg (by decide) (fun j hj => by cases hj) hext fun h => absurd h (Nat.lt_irrefl _)
  refine xg6 hrun ?_
  refine ⟨_, s'.put (hp.d _ rfl) (e := .own (.sl k es 0 0)) ⟨_, by rw [Env.set_c], by omega, fun h => by rw [Env.set_c] at h; omega⟩ fun j hj => ?_⟩
  simp only [Ent.supp, VP.supp, List.mem_singleton] at hj
  subst hj; simp
end
end An

/- The reference of layer 24: steps and sums. -/
namespace An.S
open Go Go.Proofs An
set_option maxHeartbeats 2000000
set_option maxRecDepth 100000
theorem fi34 : FnI Tryz.prog 34 := ⟨_, Tryz.func34, by kernel_rfl, rfl⟩
theorem fi36 : FnI Tryz.prog 36 := ⟨_, Tryz.func36, by kernel_rfl, rfl⟩
theorem rs_bd {l : List Deal} {m : Int} {b p : List Int} {a : Int} {i : Nat} (hv : validL l = true) (hd : ∀ d ∈ l, d.share.dig) (hb : b.length = l.length) (hp : p.length = l.length) (hok : ∀ j, j < l.length → wIn (b.getD j 0) = true ∧ p.getD j 0 = take (shr l j) (b.getD j 0)) (ha : wIn a = true) (s : RsI l m b p a i) (hi : i ≤ l.length) :
    -36283883716608 ≤ (rsD l m b p a i).r ∧ (rsD l m b p a i).r ≤ 36283883716608 := by
  obtain ⟨a1, a2⟩ := xe8.1 ha
  have h0 : DvI l 0 ⟨b, p, List.replicate (l.length + 1) 0, a⟩ := ⟨hb, hp, by simp, fun j hj => by
    obtain ⟨h1, h2⟩ := hok j hj
    obtain ⟨q0, q1⟩ := shr_bd hv hd hj
    exact ⟨h1, by rw [h2]; exact wIn_take q0 q1 h1⟩, by simp only [Int.natCast_zero]; omega⟩
  have h := run_bd hv hd (apl1 l m i) _ 0 (fun j hj => Nat.lt_of_lt_of_le (apl1_lt hj) hi) h0 (fun j => by simp only [grep0]; omega) s.ok
  have hl := xi6 hv
  have hn : (apl1 l m i).length ≤ i := by
    have := List.length_filter_le (fun j => (l.getD j deal0).on m) (List.range i)
    rw [List.length_range] at this; exact this
  have hr := h.1.r
  have e : (dvRun l ⟨b, p, List.replicate (l.length + 1) 0, a⟩ (apl1 l m i)).1 = rsD l m b p a i := rfl
  rw [e] at hr
  omega
theorem sumA_bd {l : List Deal} {p : List Int} {a : Int} (hw : ∀ i, i < l.length → wIn (p.getD i 0) = true) : ∀ i, i ≤ l.length → -((i : Int) * 1099511627776) ≤ sumA l p a i ∧ sumA l p a i ≤ (i : Int) * 1099511627776
  | 0, _ => by simp [sumA]
  | i + 1, hi => by
    have ih := sumA_bd (a := a) hw i (by omega)
    have := xe8.1 (hw i (by omega))
    rw [sumA, Int.natCast_add]
    split <;> omega
theorem take_snocS {S : List Sm} {r : Nat} (h : r < S.length) : S.take (r + 1) = S.take r ++ [S.getD r sm0] := by
  rw [List.take_succ_eq_append_getElem h, List.getD_eq_getElem?_getD, List.getElem?_eq_getElem h]; rfl
theorem c_R24Step (l : List Deal) (o : Int) (b p : List Int) (m a : Int) (hd : ∀ d ∈ l, d.share.dig) :
  Ct Tryz.prog 12 [tL 7 true tDeal l, tState o b p, tI m, tI a] (tT [tState (stepO l o b p m a) (stepB l o b p m a) (stepP l o b p m a), tIs (stepQ l o b p m a), tI (stepE l o b p m a)]) := by
 refine Ct.intro Tryz.func12 rfl Tryz.ntmps12 rfl ?_
 intro w F
 refine x6 ?_
 refine x8 ?_
 refine RE (xd4 (k := 5) ti31 rfl) ⟨rfl, trivial⟩ trivial ⟨rfl, trivial⟩ (RE (xc4 (k := 8) (n := 3) (agg := true) zr31.1 zr31.2 rfl) trivial trivial ⟨rfl, trivial⟩ (R1 x5 rfl (R1 x5 rfl (x7 (by kernel_rfl) (x3 (x6 (x6 ?_)))))))
 refine x8 ?_
 refine R1 x4 rfl (RE (xa7 (0) ti31 rfl rfl) ⟨rfl, trivial⟩ ⟨rfl, trivial⟩ trivial (R2 (xa0 (c_R24Right l o b p hd) fi34 rfl) rfl rfl (R1 xe2 rfl (R1 x4 rfl ?_))))
 refine RGcase (t := 20) rfl (fun h82 => ?_) (fun h82 => ?_)
 ·
  have hB : stepBad l o b p m a = true := by rw [stepBad, h82]; rfl
  obtain ⟨e1, e2, e3, e4, e5⟩ := step_bad hB
  refine RGoff h82 rfl rfl (RGoff h82 rfl rfl (R2 (xb2 h82) rfl rfl (R1 x4 rfl (RGoff1 rfl rfl (RGoff1 rfl rfl (R2 (xb2 rfl) rfl rfl (R1 x4 rfl ?_)))))))
  refine RGoff1 rfl rfl (RGoff1 rfl rfl (RGoff1 rfl rfl (R2 (xb2 rfl) rfl rfl (x7 (by kernel_rfl) (x3 (C_bT rfl rfl (x6 ?_)))))))
  refine x8 ?_
  refine R0 (xd9 (r := tS [⟨1, false, (tE (.int .i64 0))⟩, ⟨1, false, (tIs [])⟩, ⟨1, false, (tIs [])⟩]) (ts := []) bu31 zr31.2 ⟨_, rfl⟩ rfl Le.refl)  (RE (xa6 (es := 3) (agg := true) (0) ti31 rfl rfl rfl) ⟨rfl, rfl, trivial⟩ ⟨rfl, trivial⟩ trivial (R1 x5 rfl (R1 x5 rfl (x7 (by kernel_rfl) (x3 (xa2 (xa3 ?_)))))))
  exact xf1 Plain.mk' (rs := [.cell 8 31, .tmp 9, .tmp 10]) rfl rfl ⟨⟨_, _, _, _, _, rfl, rfl, ti31, (Le.of (by first | (rw [e1, e2, e3]; done) | (rw [e1, e2, e3]; rfl)))⟩, ⟨_, rfl, (leNil e4)⟩, ⟨_, rfl, (Le.int (by rw [e5]))⟩, trivial⟩
 ·
  have hr : rightL l o b p = true := by rw [Bool.not_eq_false'] at h82; exact h82
  refine RGon h82 rfl x4 rfl ⟨rfl, trivial⟩ trivial trivial (RGon h82 rfl xd7 rfl ⟨rfl, rfl, trivial⟩ trivial trivial (R2 (xc0 h82) rfl rfl (R1 x4 rfl ?_)))
  refine RGcaseD (t := 24) rfl (fun h82_2 => ?_) (fun h82_2 => ?_)
  ·
   have hB : stepBad l o b p m a = true := by rw [stepBad, decide_eq_true h82_2]; simp
   obtain ⟨e1, e2, e3, e4, e5⟩ := step_bad hB
   refine RGoff (decide_eq_true h82_2) rfl rfl (RGoff (decide_eq_true h82_2) rfl rfl (R2 (xb2 (decide_eq_true h82_2)) rfl rfl (R1 x4 rfl (RGoff1 rfl rfl (RGoff1 rfl rfl (RGoff1 rfl rfl (R2 (xb2 rfl) rfl rfl ?_)))))))
   refine x7 (by kernel_rfl) (x3 (C_bT rfl rfl (x6 ?_)))
   refine x8 ?_
   refine R0 (xd9 (r := tS [⟨1, false, (tE (.int .i64 0))⟩, ⟨1, false, (tIs [])⟩, ⟨1, false, (tIs [])⟩]) (ts := []) bu31 zr31.2 ⟨_, rfl⟩ rfl Le.refl)  (RE (xa6 (es := 3) (agg := true) (0) ti31 rfl rfl rfl) ⟨rfl, rfl, trivial⟩ ⟨rfl, trivial⟩ trivial (R1 x5 rfl (R1 x5 rfl (x7 (by kernel_rfl) (x3 (xa2 (xa3 ?_)))))))
   exact xf1 Plain.mk' (rs := [.cell 8 31, .tmp 9, .tmp 10]) rfl rfl ⟨⟨_, _, _, _, _, rfl, rfl, ti31, (Le.of (by first | (rw [e1, e2, e3]; done) | (rw [e1, e2, e3]; rfl)))⟩, ⟨_, rfl, (leNil e4)⟩, ⟨_, rfl, (Le.int (by rw [e5]))⟩, trivial⟩
  ·
   refine RGon (decide_eq_false h82_2) rfl x4 rfl ⟨rfl, trivial⟩ trivial trivial (RGon (decide_eq_false h82_2) rfl xf2 rfl ⟨rfl, rfl, trivial⟩ trivial trivial (R2 (xc0 (decide_eq_false h82_2)) rfl rfl (R1 x4 rfl ?_)))
   refine RGcaseD (t := 28) rfl (fun h82_3 => ?_) (fun h82_3 => ?_)
   ·
    have hB : stepBad l o b p m a = true := by rw [stepBad, decide_eq_true h82_3]; simp
    obtain ⟨e1, e2, e3, e4, e5⟩ := step_bad hB
    refine RGoff (decide_eq_true h82_3) rfl rfl (RGoff (decide_eq_true h82_3) rfl rfl (RGoff (decide_eq_true h82_3) rfl rfl (R2 (xb2 (decide_eq_true h82_3)) rfl rfl (x7 (by kernel_rfl) (x3 (C_bT rfl rfl (x6 ?_)))))))
    refine x8 ?_
    refine R0 (xd9 (r := tS [⟨1, false, (tE (.int .i64 0))⟩, ⟨1, false, (tIs [])⟩, ⟨1, false, (tIs [])⟩]) (ts := []) bu31 zr31.2 ⟨_, rfl⟩ rfl Le.refl)  (RE (xa6 (es := 3) (agg := true) (0) ti31 rfl rfl rfl) ⟨rfl, rfl, trivial⟩ ⟨rfl, trivial⟩ trivial (R1 x5 rfl (R1 x5 rfl (x7 (by kernel_rfl) (x3 (xa2 (xa3 ?_)))))))
    exact xf1 Plain.mk' (rs := [.cell 8 31, .tmp 9, .tmp 10]) rfl rfl ⟨⟨_, _, _, _, _, rfl, rfl, ti31, (Le.of (by first | (rw [e1, e2, e3]; done) | (rw [e1, e2, e3]; rfl)))⟩, ⟨_, rfl, (leNil e4)⟩, ⟨_, rfl, (Le.int (by rw [e5]))⟩, trivial⟩
   ·
    refine RGon (decide_eq_false h82_3) rfl x4 rfl ⟨rfl, trivial⟩ trivial trivial (RGon (decide_eq_false h82_3) rfl (xa0 (c_R24small _) fi35 rfl) rfl ⟨rfl, trivial⟩ trivial trivial (RGon (decide_eq_false h82_3) rfl xe2 rfl ⟨rfl, trivial⟩ trivial trivial (R2 (xc0 (decide_eq_false h82_3)) rfl rfl (x7 (by kernel_rfl) (x3 ?_)))))
    refine xf0 rfl (fun h82_4 => ?_) (fun h82_4 => ?_)
    ·
     have hB : stepBad l o b p m a = true := by rw [stepBad, h82_4]; simp
     obtain ⟨e1, e2, e3, e4, e5⟩ := step_bad hB
     refine x6 ?_
     refine x8 ?_
     refine R0 (xd9 (r := tS [⟨1, false, (tE (.int .i64 0))⟩, ⟨1, false, (tIs [])⟩, ⟨1, false, (tIs [])⟩]) (ts := []) bu31 zr31.2 ⟨_, rfl⟩ rfl Le.refl)  (RE (xa6 (es := 3) (agg := true) (0) ti31 rfl rfl rfl) ⟨rfl, rfl, trivial⟩ ⟨rfl, trivial⟩ trivial (R1 x5 rfl (R1 x5 rfl (x7 (by kernel_rfl) (x3 (xa2 (xa3 ?_)))))))
     exact xf1 Plain.mk' (rs := [.cell 8 31, .tmp 9, .tmp 10]) rfl rfl ⟨⟨_, _, _, _, _, rfl, rfl, ti31, (Le.of (by first | (rw [e1, e2, e3]; done) | (rw [e1, e2, e3]; rfl)))⟩, ⟨_, rfl, (leNil e4)⟩, ⟨_, rfl, (Le.int (by rw [e5]))⟩, trivial⟩
    ·
     have ha : wIn a = true := by rw [Bool.not_eq_false'] at h82_4; exact h82_4
     have hB : stepBad l o b p m a = false := by rw [stepBad, hr, ha, decide_eq_false h82_2, decide_eq_false h82_3]; rfl
     refine xa5 (x3 (x6 ?_))
     obtain ⟨v1, hbl, hpl, v4, v5⟩ := xj2 hd hr
     have hl16 := xi6 v1
     have ho := xe8.1 v4
     refine xc9 mixed ?_
     refine R1 (x9 fo31_0 rfl) rfl (xa4 (0) ti3 rfl rfl rfl (At.g 0 rfl rfl) rfl (RE (d_empty (k := 36) Tryz.underlying23 el3 rfl (fun _ => rfl)) trivial trivial ⟨rfl, trivial⟩ (R1 (x9 fo31_1 rfl) rfl (xa4 (0) ti23 rfl rfl rfl (At.g 1 rfl rfl) rfl (RE (xg4 (k := 36) (k' := 39) (f := fun n : Int => tI n) (ys := b) (ts' := rV tI b) Tryz.underlying23 el3 zf3 rfl rfl (fun _ => inferInstance) rfl (by simp; omega) (by simp; omega) (by simp [rV]) (n' := l.length) (by simp; omega)) ⟨rfl, rfl, trivial⟩ ⟨rfl, trivial⟩ ⟨rfl, trivial⟩ (RE (d_empty (k := 40) Tryz.underlying23 el3 rfl (fun _ => rfl)) trivial trivial ⟨rfl, trivial⟩ (R1 (x9 fo31_2 rfl) rfl ?_)))))))
     refine xa4 (0) ti23 rfl rfl rfl (At.g 2 rfl rfl) rfl (RE (xg4 (k := 40) (k' := 43) (f := fun n : Int => tI n) (ys := p) (ts' := rV tI p) Tryz.underlying23 el3 zf3 rfl rfl (fun _ => inferInstance) rfl (by simp; omega) (by simp; omega) (by simp [rV]) (n' := l.length) (by simp; omega)) ⟨rfl, rfl, trivial⟩ ⟨rfl, trivial⟩ ⟨rfl, trivial⟩ (R3 (d_buildO (es := [.val (tI o), .own (.sl 39 1 0 l.length), .own (.sl 43 1 0 l.length)]) (r := [.val (tI o), .own (.sl 39 1 0 l.length), .own (.sl 43 1 0 l.length)]) bu31 rfl rfl rfl rfl) rfl rfl rfl (RE (d_allocC (k := 11) (n := 3) [.int .i64 0, .slice none 0 0, .slice none 0 0] zr31.1 rfl rfl rfl rfl) trivial trivial ⟨rfl, trivial⟩ (RE (d_storeM ti31 rfl rfl rfl) ⟨rfl, rfl, trivial⟩ ⟨rfl, trivial⟩ trivial (xd1 (by kernel_rfl) (x3 (x6 ?_)))))))
     refine x8 ?_
     refine RE (d_sliceOfO (k := 45) (ents := rV tI [(0 : Int)]) Tryz.underlying23 el3 zf3 rfl (fun e he => by simp only [rV, List.map_cons, List.map_nil, List.mem_singleton] at he; subst he; infer_instance) rfl rfl rfl) ⟨rfl, trivial⟩ trivial ⟨rfl, trivial⟩ (R1 x5 rfl (x7 (by kernel_rfl) (x3 (x6 ?_))))
     refine x8 ?_
     refine R1 x4 rfl (R1 x5 rfl (x7 (by kernel_rfl) (x3 (x6 (x6 ?_)))))
     refine x8 ?_
     refine R1 x5 rfl (x7 (by kernel_rfl) (x3 (xb3 ?_)))
     refine xe0 (fun (i : Nat) => i ≤ l.length ∧ RsI l m b p a i) (fun (i : Nat) => upd (upd (upd (upd (upd (upd (upd (upd (fun _ => none) 0 (some (.val (tL 7 true tDeal l)))) 2 (some (.val (tI m)))) 5 (some (.own (.ptr 5 0)))) 8 (some (.own (.ptr 8 0)))) 11 (some (.own (.ptr 11 0)))) 12 (some (.own (.sl 45 1 0 (i + 1))))) 13 (some (.val (tI (rsD l m b p a i).r)))) 14 (some (.val (tI i)))) (fun (i : Nat) => upd (upd (upd (upd (upd (upd (fun _ => none) 5 (some (⟨31, 3, true, [.val (tState o b p)]⟩))) 8 (some (⟨31, 3, true, [.val (tState 0 [] [])]⟩))) 11 (some (⟨31, 1, false, [.val (tI o), .own (.sl 39 1 0 l.length), .own (.sl 43 1 0 l.length)]⟩))) 39 (some (⟨3, 1, false, rV tI (rsD l m b p a i).b⟩))) 43 (some (⟨3, 1, false, rV tI (rsD l m b p a i).p⟩))) 45 (some (⟨3, 1, false, rV tI (rsQ l m b p a i)⟩))) (nm [5, 8, 11, 39, 43, 45]) (fun (i : Nat) => l.length - i) (0) ⟨Nat.zero_le _, RsI.zero hbl hpl⟩ (Sub.int rfl (by first | omega | rfl | (dsimp only; omega)) (Sub.int rfl (by first | omega | rfl | (dsimp only; omega)) (Sub.cons rfl (Sub.cons rfl (Sub.cons rfl (Sub.cons rfl (Sub.int rfl (by first | omega | rfl | (dsimp only; omega)) (Sub.cons rfl Sub.nil)))))))) ((SubK.consI rfl ImpK.refl) ((SubK.consI rfl ImpK.refl) ((SubK.consI rfl ImpK.refl) ((SubK.consI rfl ImpK.refl) ((SubK.consI rfl ImpK.refl) ((SubK.consI rfl ImpK.refl) SubK.nil)))))) (SupG.val (SupG.val (SupG.own rfl (SupG.own rfl (SupG.own rfl (SupG.own rfl (SupG.val (SupG.val SupG.nil)))))))) (SupH.cons rfl (supJ xg3) (SupH.cons rfl (supJ xg3) (SupH.cons rfl (supJ xg3) (SupH.cons rfl (supJL rfl) (SupH.cons rfl (supJL rfl) (SupH.cons rfl (supJL rfl) SupH.nil)))))) (lkOk rfl) ?_
     intro i hI
     obtain ⟨hi, hs⟩ := hI
     have hql := rsQ_len hs hi
     have hbd := rs_bd v1 hd hbl hpl v5 ha hs hi
     have hf1 := hs.fit.b
     have hf2 := hs.fit.p
     refine x6 (x6 ?_)
     refine x8 ?_
     refine R1 x4 rfl (R1 x4 rfl (R1 (xb7 Tryz.underlying34) rfl (R2 xd7 rfl rfl (x7 (by kernel_rfl) (x3 ?_)))))
     refine xc5 rfl (fun h88 => ?_) (fun h88 => ?_)
     ·
      refine xa5 (x3 (x6 (xb3 (x6 ?_))))
      refine x8 ?_
      refine R1 x5 rfl (x7 (by kernel_rfl) (x3 (x6 (x6 ?_))))
      refine x8 ?_
      refine R1 x4 rfl (R1 x4 rfl (R2 (xb6 sl34 (i) (by omega) (gD (l := l) (n := i) (d := deal0) (by omega))) rfl rfl (R1 (xb8 ti67) rfl (R1 x4 rfl (R2 (xa0 (c_R24applies (l.getD i deal0) m) fi36 rfl) rfl rfl (x7 (by kernel_rfl) (x3 ?_)))))))
      refine xf0 rfl (fun h90 => ?_) (fun h90 => ?_)
      ·
       have hon : (l.getD i deal0).on m = true := h90
       refine x6 ?_
       have hbi := xe8.1 (v5 i (by omega)).1
       have hkb := (hs.kb i (Nat.le_refl _)).1
       have hkp := (hs.kb i (Nat.le_refl _)).2.1
       have hnn : (rsD l m b p a i).n i = ((b.getD i 0) + (rsD l m b p a i).r) := by rw [Dv.n, hkb]
       refine xc9 mixed ?_
       refine R1 (x9 fo31_1 rfl) rfl (RE (xa7 (1) ti23 rfl rfl) ⟨rfl, trivial⟩ ⟨rfl, trivial⟩ trivial (R1 x4 rfl (R1 (x9 fo31_1 rfl) rfl (xa4 (0) ti23 rfl rfl rfl (At.g 1 rfl rfl) rfl (R1 x4 rfl (R2 (xb6 sl23 (i) (by omega) (gZ (by omega))) rfl rfl (R1 (xb8 ti3) rfl ?_)))))))
       refine R1 x4 rfl (R2 (xc2 (wr64 (by omega) (by omega))) rfl rfl (R2 (xd0 sl23 (by omega) (by omega) rfl) rfl rfl (RE (xa6 (i) ti3 (rV_lt (by omega)) (by omega) (rV_set (m := ((b.getD i 0) + (rsD l m b p a i).r)) rfl)) ⟨rfl, rfl, trivial⟩ ⟨rfl, trivial⟩ trivial (xd1 (by kernel_rfl) (x3 (x6 (x6 ?_)))))))
       refine x8 ?_
       refine R1 (x9 fo31_1 rfl) rfl (RE (xa7 (1) ti23 rfl rfl) ⟨rfl, trivial⟩ ⟨rfl, trivial⟩ trivial (R1 x4 rfl (R2 (xd0 sl23 (by omega) (by omega) rfl) rfl rfl (RE (xa7 (i) ti3 (rV_get_set (by omega)) (by omega)) ⟨rfl, trivial⟩ ⟨rfl, trivial⟩ trivial (R1 (xa0 (c_R24small _) fi35 rfl) rfl (R1 xe2 rfl (x7 (by kernel_rfl) ?_)))))))
       refine x3 ?_
       refine xf0 rfl (fun h92 => ?_) (fun h92 => ?_)
       ·
        have hw : wIn ((b.getD i 0) + (rsD l m b p a i).r) = false := by rw [Bool.not_eq_true'] at h92; exact h92
        have hF : stepOk l o b p m a = false := by rw [stepOk, hs.stop (by omega) hon (by rw [hnn]; exact hw)]; rfl
        obtain ⟨e1, e2, e3, e4, e5⟩ := step_full hB hF
        refine x6 ?_
        refine x8 ?_
        refine R0 (xd9 (r := tS [⟨1, false, (tE (.int .i64 0))⟩, ⟨1, false, (tIs [])⟩, ⟨1, false, (tIs [])⟩]) (ts := []) bu31 zr31.2 ⟨_, rfl⟩ rfl Le.refl)  (RE (xa6 (es := 3) (agg := true) (0) ti31 rfl rfl rfl) ⟨rfl, rfl, trivial⟩ ⟨rfl, trivial⟩ trivial (R1 x5 rfl (R1 x5 rfl (x7 (by kernel_rfl) (x3 (xa2 (xa3 ?_)))))))
        refine xa3 (xc7 (xa3 (xa3 (xc7 (xa3 ?_)))))
        exact xf1 Plain.mk' (rs := [.cell 8 31, .tmp 9, .tmp 10]) rfl rfl ⟨⟨_, _, _, _, _, rfl, rfl, ti31, (Le.of (by first | (rw [e1, e2, e3]; done) | (rw [e1, e2, e3]; rfl)))⟩, ⟨_, rfl, (leNil e4)⟩, ⟨_, rfl, (Le.int (by rw [e5]))⟩, trivial⟩
       ·
        have hw : wIn ((b.getD i 0) + (rsD l m b p a i).r) = true := by rw [Bool.not_eq_false'] at h92; exact h92
        refine xa5 (x3 (x6 ?_))
        have hwn : wIn ((rsD l m b p a i).n i) = true := by rw [hnn]; exact hw
        have hpd : (rsD l m b p a i).pd l i = (take (l.getD i deal0).share.rat ((b.getD i 0) + (rsD l m b p a i).r)) := by rw [Dv.pd, hnn]; rfl
        obtain ⟨q0, q1⟩ := shr_bd v1 hd (show i < l.length by omega)
        have hti := xe8.1 (wIn_take (q := (l.getD i deal0).share.rat) q0 q1 hw)
        have hpi : wIn (p.getD i 0) = true := by rw [(v5 i (by omega)).2]; exact wIn_take q0 q1 (v5 i (by omega)).1
        have hpi := xe8.1 hpi
        refine xc9 mixed ?_
        refine R1 (x9 fo31_2 rfl) rfl (RE (xa7 (2) ti23 rfl rfl) ⟨rfl, trivial⟩ ⟨rfl, trivial⟩ trivial (R1 x4 rfl (R1 x4 rfl (R1 x4 rfl (R2 (xb6 sl34 (i) (by omega) (gD (l := l) (n := i) (d := deal0) (by omega))) rfl rfl (R1 (xb8 ti67) rfl (R1 (x9 fo31_1 rfl) rfl ?_)))))))
        refine RE (xa7 (1) ti23 rfl rfl) ⟨rfl, trivial⟩ ⟨rfl, trivial⟩ trivial (R1 x4 rfl (R2 (xd0 sl23 (by omega) (by omega) rfl) rfl rfl (RE (xa7 (i) ti3 (rV_get_set (by omega)) (by omega)) ⟨rfl, trivial⟩ ⟨rfl, trivial⟩ trivial (R2 (xa0 (c_R24part _ (deal_at2 hd (by omega)) (validL_at v1 (by omega)) _ hw) fi37 rfl) rfl rfl (R2 (xd0 sl23 (by omega) (by omega) rfl) rfl rfl (RE (xa6 (i) ti3 (rV_lt (by omega)) (by omega) (rV_set (m := (take (l.getD i deal0).share.rat ((b.getD i 0) + (rsD l m b p a i).r))) rfl)) ⟨rfl, rfl, trivial⟩ ⟨rfl, trivial⟩ trivial (xd1 (by kernel_rfl) ?_)))))))
        refine x3 ?_
        refine xc9 mixed ?_
        refine R1 (x9 fo31_2 rfl) rfl (RE (xa7 (2) ti23 rfl rfl) ⟨rfl, trivial⟩ ⟨rfl, trivial⟩ trivial (R1 x4 rfl (R2 (xd0 sl23 (by omega) (by omega) rfl) rfl rfl (RE (xa7 (i) ti3 (rV_get_set (by omega)) (by omega)) ⟨rfl, trivial⟩ ⟨rfl, trivial⟩ trivial (R1 (x9 fo31_2 rfl) rfl (xa4 (0) ti23 rfl rfl rfl (At.g 2 rfl rfl) rfl (R1 x4 rfl ?_)))))))
        refine R2 (xb6 sl23 (i) (by omega) (gZ (by omega))) rfl rfl (R1 (xb8 ti3) rfl (R2 (xe4 (wr64 (by omega) (by omega))) rfl rfl (R1 x5 rfl (xd1 (by kernel_rfl) (x3 (x6 ?_))))))
        refine x8 ?_
        refine R1 x4 rfl (R1 x4 rfl (R1 (xf3 (n := 1) (f := fun n : Int => tI n) [((take (l.getD i deal0).share.rat ((b.getD i 0) + (rsD l m b p a i).r)) - p.getD i 0)] Tryz.underlying23 el3 zf3 rfl (fun _ => inferInstance) rfl rfl rfl) rfl (RE (xg4 (k := 45) (k' := 106) (f := fun n : Int => tI n) (ys := [((take (l.getD i deal0).share.rat ((b.getD i 0) + (rsD l m b p a i).r)) - p.getD i 0)]) (ts' := rV tI ((rsQ l m b p a i) ++ [((take (l.getD i deal0).share.rat ((b.getD i 0) + (rsD l m b p a i).r)) - p.getD i 0)])) Tryz.underlying23 el3 zf3 rfl rfl (fun _ => inferInstance) (rV_len.trans hql) (by simp; omega) (by simp; omega) (by simp [rV]) (n' := i + 1 + 1) rfl) ⟨rfl, rfl, trivial⟩ ⟨rfl, trivial⟩ ⟨rfl, trivial⟩ (R1 x5 rfl (x7 (by kernel_rfl) (x3 ?_))))))
        refine x8 ?_
        refine R1 x4 rfl (R1 x4 rfl (R2 (xe4 (wr64 (by omega) (by omega))) rfl rfl (R1 x5 rfl (x7 (by kernel_rfl) (xc8 (x3 ?_))))))
        refine x8 ?_
        refine R1 x4 rfl (R2 (xc2 (wr64 (by omega) (by omega))) rfl rfl (R1 x5 rfl (x7 (by kernel_rfl) ?_)))
        have hT := rs_onD hs hon hwn
        have hb2 : (rsD l m b p a (i + 1)).b = (rsD l m b p a i).b.set i ((b.getD i 0) + (rsD l m b p a i).r) := by rw [hT]; simp only [dv1]; rw [hnn]
        have hp2 : (rsD l m b p a (i + 1)).p = (rsD l m b p a i).p.set i (take (l.getD i deal0).share.rat ((b.getD i 0) + (rsD l m b p a i).r)) := by rw [hT]; simp only [dv1]; rw [hpd]
        have hr2 : (rsD l m b p a (i + 1)).r = (rsD l m b p a i).r - ((take (l.getD i deal0).share.rat ((b.getD i 0) + (rsD l m b p a i).r)) - p.getD i 0) := by rw [hT]; simp only [dv1]; rw [hpd, hkp]
        have hq2 := rsQ_on hs (by omega) hon hwn
        rw [hpd] at hq2
        exact K_famR (l := [5, 8, 11, 39, 43, 45]) (fun j => cond (Nat.beq j 45) 106 (j)) (i + 1) ⟨⟨by omega, hs.on (by omega) hon hwn⟩, (by omega)⟩ (SubR.int rfl (by first | omega | rfl | (dsimp only; omega)) ((SubR.consI rfl (Imp.of (by rw [hr2]; rfl))) (SubR.cons rfl (SubR.cons rfl (SubR.cons rfl (SubR.cons rfl (SubR.int rfl (by first | omega | rfl | (dsimp only; omega)) (SubR.cons rfl SubR.nil)))))))) ((SubKR.consI rfl (ImpK.of (by rw [hq2]; exact ren_rV.symm))) ((SubKR.consI rfl (ImpK.of (by rw [hp2]; exact ren_rV.symm))) ((SubKR.consI rfl (ImpK.of (by rw [hb2]; exact ren_rV.symm))) ((SubKR.consI rfl ImpK.refl) ((SubKR.consI rfl ImpK.refl) ((SubKR.consI rfl ImpK.refl) SubKR.nil)))))) (SupG.val (SupG.val (SupG.own rfl (SupG.own rfl (SupG.own rfl (SupG.own rfl (SupG.val (SupG.val SupG.nil)))))))) (SupH.cons rfl (supJ xg3) (SupH.cons rfl (supJ xg3) (SupH.cons rfl (supJ xg3) (SupH.cons rfl (supJL rfl) (SupH.cons rfl (supJL rfl) (SupH.cons rfl (supJL rfl) SupH.nil)))))) (lkOk rfl) rfl rfl (fun _ h => by cases h)
      ·
       have hon : (l.getD i deal0).on m = false := h90
       refine xa5 (x3 (x6 ?_))
       refine x8 ?_
       refine R1 x4 rfl (R1 x4 rfl (R1 (xf3 (n := 1) (f := fun n : Int => tI n) [(0 : Int)] Tryz.underlying23 el3 zf3 rfl (fun _ => inferInstance) rfl rfl rfl) rfl (RE (xg4 (k := 45) (k' := 106) (f := fun n : Int => tI n) (ys := [(0 : Int)]) (ts' := rV tI ((rsQ l m b p a i) ++ [(0 : Int)])) Tryz.underlying23 el3 zf3 rfl rfl (fun _ => inferInstance) (rV_len.trans hql) (by simp; omega) (by simp; omega) (by simp [rV]) (n' := i + 1 + 1) rfl) ⟨rfl, rfl, trivial⟩ ⟨rfl, trivial⟩ ⟨rfl, trivial⟩ (R1 x5 rfl (x7 (by kernel_rfl) (x3 ?_))))))
       refine x8 ?_
       refine R1 x4 rfl (R1 x4 rfl (R2 (xe4 (wr64 (by omega) (by omega))) rfl rfl (R1 x5 rfl (x7 (by kernel_rfl) (xc8 (x3 ?_))))))
       refine x8 ?_
       refine R1 x4 rfl (R2 (xc2 (wr64 (by omega) (by omega))) rfl rfl (R1 x5 rfl (x7 (by kernel_rfl) ?_)))
       have hT := rs_off (b := b) (p := p) (a := a) hon
       have hq2 := rsQ_off hs (by omega) hon
       exact K_famR (l := [5, 8, 11, 39, 43, 45]) (fun j => cond (Nat.beq j 45) 106 (j)) (i + 1) ⟨⟨by omega, hs.off hon⟩, (by omega)⟩ (SubR.int rfl (by first | omega | rfl | (dsimp only; omega)) ((SubR.consI rfl (Imp.of (by rw [hT, Int.sub_zero]; rfl))) (SubR.cons rfl (SubR.cons rfl (SubR.cons rfl (SubR.cons rfl (SubR.int rfl (by first | omega | rfl | (dsimp only; omega)) (SubR.cons rfl SubR.nil)))))))) ((SubKR.consI rfl (ImpK.of (by rw [hq2]; exact ren_rV.symm))) ((SubKR.consI rfl (ImpK.of (by rw [hT]; exact ren_rV.symm))) ((SubKR.consI rfl (ImpK.of (by rw [hT]; exact ren_rV.symm))) ((SubKR.consI rfl ImpK.refl) ((SubKR.consI rfl ImpK.refl) ((SubKR.consI rfl ImpK.refl) SubKR.nil)))))) (SupG.val (SupG.val (SupG.own rfl (SupG.own rfl (SupG.own rfl (SupG.own rfl (SupG.val (SupG.val SupG.nil)))))))) (SupH.cons rfl (supJ xg3) (SupH.cons rfl (supJ xg3) (SupH.cons rfl (supJ xg3) (SupH.cons rfl (supJL rfl) (SupH.cons rfl (supJL rfl) (SupH.cons rfl (supJL rfl) SupH.nil)))))) (lkOk rfl) rfl rfl (fun _ h => by cases h)
     ·
      refine xd8 (xc1 (xc1 (xe3 (x3 (x6 ?_)))))
      have hil : i = l.length := by omega
      subst hil
      obtain ⟨f1, f2, f3⟩ := rs_end hs
      rw [f2] at f3
      refine x8 ?_
      refine R1 x4 rfl (R1 x4 rfl (R2 (xd0 sl23 (by omega) (by omega) rfl) rfl rfl (RE (xa6 (0) ti3 (rV_lt (by omega)) (by omega) (rV_set (m := (rsD l m b p a l.length).r) rfl)) ⟨rfl, rfl, trivial⟩ ⟨rfl, trivial⟩ trivial (x7 (by kernel_rfl) (x3 (x6 ?_))))))
      refine x8 ?_
      refine R1 (x9 fo31_0 rfl) rfl (xa4 (0) ti3 rfl rfl rfl (At.g 0 rfl rfl) rfl (R1 x4 rfl (R2 (xc2 (wr64 (by omega) (by omega))) rfl rfl (R1 (x9 fo31_0 rfl) rfl (RE (xa6 (es := 1) (agg := false) (0) ti3 rfl rfl rfl) ⟨rfl, rfl, trivial⟩ ⟨rfl, trivial⟩ trivial (x7 (by kernel_rfl) (x3 ?_)))))))
      refine x6 (x6 ?_)
      refine x8 ?_
      refine R1 (x9 fo31_0 rfl) rfl (RE (xa7 (0) ti3 rfl rfl) ⟨rfl, trivial⟩ ⟨rfl, trivial⟩ trivial (R1 (xa0 (c_R24small _) fi35 rfl) rfl (R1 xe2 rfl (x7 (by kernel_rfl) (x3 ?_)))))
      refine xf0 rfl (fun h103 => ?_) (fun h103 => ?_)
      ·
       have hF : stepOk l o b p m a = false := by rw [stepOk, f1, f2, Bool.true_and]; rw [Bool.not_eq_true'] at h103; exact h103
       obtain ⟨e1, e2, e3, e4, e5⟩ := step_full hB hF
       refine x6 ?_
       refine x8 ?_
       refine R0 (xd9 (r := tS [⟨1, false, (tE (.int .i64 0))⟩, ⟨1, false, (tIs [])⟩, ⟨1, false, (tIs [])⟩]) (ts := []) bu31 zr31.2 ⟨_, rfl⟩ rfl Le.refl)  (RE (xa6 (es := 3) (agg := true) (0) ti31 rfl rfl rfl) ⟨rfl, rfl, trivial⟩ ⟨rfl, trivial⟩ trivial (R1 x5 rfl (R1 x5 rfl (x7 (by kernel_rfl) (x3 (xa2 (xa3 ?_)))))))
       exact xf1 Plain.mk' (rs := [.cell 8 31, .tmp 9, .tmp 10]) rfl rfl ⟨⟨_, _, _, _, _, rfl, rfl, ti31, (Le.of (by first | (rw [e1, e2, e3]; done) | (rw [e1, e2, e3]; rfl)))⟩, ⟨_, rfl, (leNil e4)⟩, ⟨_, rfl, (Le.int (by rw [e5]))⟩, trivial⟩
      ·
       have hF : stepOk l o b p m a = true := by rw [stepOk, f1, f2, Bool.true_and]; rw [Bool.not_eq_false'] at h103; exact h103
       obtain ⟨e1, e2, e3, e4, e5, e6⟩ := step_good hB hF
       refine xa5 (x3 (x6 (C_giveC (q := 11) (j := 39) (f := fun n : Int => tI n) (xs := (rsD l m b p a l.length).b) 1 rfl rfl rfl rfl (NoLbK.of fun _ h => h) (rV_all hf1) hf1 rfl (C_giveC (q := 11) (j := 43) (f := fun n : Int => tI n) (xs := (rsD l m b p a l.length).p) 2 rfl rfl rfl rfl (NoLbK.of fun _ h => h) (rV_all hf2) hf2 rfl ?_))))
       refine x8 ?_
       refine RE (d_loadM (us := [tI (o + (rsD l m b p a l.length).r), tIs (rsD l m b p a l.length).b, tIs (rsD l m b p a l.length).p]) (t := tState (o + (rsD l m b p a l.length).r) (rsD l m b p a l.length).b (rsD l m b p a l.length).p) ti31 rfl rfl rfl rfl) ⟨rfl, trivial⟩ ⟨rfl, trivial⟩ trivial (R1 x4 rfl (RE (xa6 (es := 3) (agg := true) (0) ti31 rfl rfl rfl) ⟨rfl, rfl, trivial⟩ ⟨rfl, trivial⟩ trivial (RE (d_assignS (f := fun n : Int => tI n) (xs := (rsQ l m b p a l.length).set 0 (rsD l m b p a l.length).r) (fun _ h => h) (rV_all (by rw [List.length_set]; exact hql)) (by rw [List.length_set]; exact hql)) ⟨rfl, trivial⟩ ⟨rfl, trivial⟩ trivial (R1 x5 rfl (x7 (by kernel_rfl) (x3 (xa2 ?_)))))))
       exact xf1 Plain.mk' (rs := [.cell 8 31, .tmp 9, .tmp 10]) rfl rfl ⟨⟨_, _, _, _, _, rfl, rfl, ti31, (Le.of (by rw [e1, e2, e3, f2]))⟩, ⟨_, rfl, (Le.of (by rw [e4, f2, f3]))⟩, ⟨_, rfl, (Le.int (by rw [e5]))⟩, trivial⟩
end An.S

/- Law 24: SplitRuns: the program and the reference take the same steps. -/
namespace An.S
open Go Go.Proofs An
set_option maxHeartbeats 2000000
set_option maxRecDepth 100000
theorem ti85 : TyI Tryz.prog 85 2 true := ⟨by kernel_rfl, by kernel_rfl⟩
theorem sl77 : SlI Tryz.prog 77 84 2 true := ⟨Tryz.underlying77, ti84⟩
theorem sl80 : SlI Tryz.prog 80 85 2 true := ⟨Tryz.underlying80, ti85⟩
theorem fo84_0 : fieldO Tryz.prog 84 0 = some 0 := by kernel_rfl
theorem fo84_1 : fieldO Tryz.prog 84 1 = some 1 := by kernel_rfl
theorem fo85_0 : fieldO Tryz.prog 85 0 = some 0 := by kernel_rfl
theorem fo85_1 : fieldO Tryz.prog 85 1 = some 1 := by kernel_rfl
theorem fi6 : FnI Tryz.prog 6 := ⟨_, Tryz.func6, by kernel_rfl, rfl⟩
theorem fi7 : FnI Tryz.prog 7 := ⟨_, Tryz.func7, by kernel_rfl, rfl⟩
theorem fi9 : FnI Tryz.prog 9 := ⟨_, Tryz.func9, by kernel_rfl, rfl⟩
theorem fi10 : FnI Tryz.prog 10 := ⟨_, Tryz.func10, by kernel_rfl, rfl⟩
theorem fi12 : FnI Tryz.prog 12 := ⟨_, Tryz.func12, by kernel_rfl, rfl⟩
theorem fi14 : FnI Tryz.prog 14 := ⟨_, Tryz.func14, by kernel_rfl, rfl⟩
theorem fi15 : FnI Tryz.prog 15 := ⟨_, Tryz.func15, by kernel_rfl, rfl⟩
theorem fi16 : FnI Tryz.prog 16 := ⟨_, Tryz.func16, by kernel_rfl, rfl⟩
theorem fi38 : FnI Tryz.prog 38 := ⟨_, Tryz.func38, by kernel_rfl, rfl⟩
theorem fi39 : FnI Tryz.prog 39 := ⟨_, Tryz.func39, by kernel_rfl, rfl⟩
theorem el67 : ElI Tryz.prog 67 7 88 true (.agg #[.int .i64 0, .int .i64 0, .bool false, .slice none 0 0, .bool false, .slice none 0 0, .int .i64 0]) := ⟨ti67, by kernel_rfl, by kernel_rfl⟩
theorem el85 : ElI Tryz.prog 85 2 16 true (.agg #[.int .i64 0, .int .i64 0]) := ⟨ti85, by kernel_rfl, by kernel_rfl⟩
theorem zr85 : (Tryz.prog.info? 85).bind (·.zero) = some (.agg #[.int .i64 0, .int .i64 0]) ∧ ∀ F w, (tS [⟨1, false, (tE (.int .i64 0))⟩, ⟨1, false, (tE (.int .i64 0))⟩]).p F w (.agg #[.int .i64 0, .int .i64 0]) := ⟨by kernel_rfl, fun _ _ => ⟨_, rfl, rfl, ⟨fun _ => rfl, rfl⟩, ⟨fun _ => rfl, rfl⟩, trivial⟩⟩
theorem bu67 : BuI Tryz.prog 67 (fun i => [(0, 1), (1, 1), (2, 4), (6, 1)][i]?) (.agg #[.int .i64 0, .int .i64 0, .bool false, .slice none 0 0, .bool false, .slice none 0 0, .int .i64 0]) := BuI.struct Tryz.underlying67 (by kernel_rfl) (by kernel_rfl)
theorem bu85 : BuI Tryz.prog 85 (fun i => [(0, 1), (1, 1)][i]?) (.agg #[.int .i64 0, .int .i64 0]) := BuI.struct Tryz.underlying85 (by kernel_rfl) (by kernel_rfl)
theorem zf67 : Flat 7 true (.agg #[.int .i64 0, .int .i64 0, .bool false, .slice none 0 0, .bool false, .slice none 0 0, .int .i64 0]) := flat_agg (by intro u hu; simp at hu; rcases hu with rfl | rfl | rfl | rfl | rfl | rfl | rfl <;> rfl)
theorem zf85 : Flat 2 true (.agg #[.int .i64 0, .int .i64 0]) := flat_agg (by intro u hu; simp at hu; rcases hu with rfl | rfl <;> rfl)
theorem take_snocD {l : List Deal} {i : Nat} (h : i < l.length) : l.take (i + 1) = l.take i ++ [l.getD i deal0] := by
  rw [List.take_succ_eq_append_getElem h, List.getD_eq_getElem?_getD, List.getElem?_eq_getElem h]; rfl
theorem large_len {l : List Deal} {k : Int} (h : largeL l 16 k = false) : l.length ≤ 16 := by
  rcases Nat.lt_or_ge 16 l.length with h1 | h1
  · have := any_stop (f := fun i => decide ((16 : Int) ≤ (i : Int)) || decide (k < ((l.getD i deal0).share.n.l.length : Int)) || decide (k < ((l.getD i deal0).share.d.l.length : Int))) h1 (by simp)
    rw [largeL] at h
    rw [h] at this; cases this
  · exact h1
theorem c_sameII (xs : List Int) : Ct Tryz.prog 13 [tIs xs, tIs xs] (tB true) := by
  have h := c_SameInts xs xs
  rw [decide_eq_true rfl] at h; exact h
theorem c_R24Sums (l : List Deal) (o : Int) (b p : List Int) (hd : ∀ d ∈ l, d.share.dig) :
  Ct Tryz.prog 39 [tL 7 true tDeal l, tState o b p] (tT [tL 2 true tSm (if rightL l o b p = true then (sumsL o (mpS l p l.length)) else []), tI (if rightL l o b p = true then 0 else 2)]) := by
 refine Ct.intro Tryz.func39 rfl Tryz.ntmps39 rfl ?_
 intro w F
 refine x6 ?_
 refine x8 ?_
 refine RE (xd4 (k := 3) ti31 rfl) ⟨rfl, trivial⟩ trivial ⟨rfl, trivial⟩ (R1 x5 rfl (R1 x5 rfl (x7 (by kernel_rfl) (x3 (x6 (x6 ?_))))))
 refine x8 ?_
 refine R1 x4 rfl (RE (xa7 (0) ti31 rfl rfl) ⟨rfl, trivial⟩ ⟨rfl, trivial⟩ trivial (R2 (xa0 (c_R24Right l o b p hd) fi34 rfl) rfl rfl (R1 xe2 rfl (x7 (by kernel_rfl) (x3 ?_)))))
 refine xf0 rfl (fun h111 => ?_) (fun h111 => ?_)
 ·
  have hr : ¬ rightL l o b p = true := by simpa using h111
  refine x6 ?_
  refine x8 ?_
  refine R1 x5 rfl (R1 x5 rfl (x7 (by kernel_rfl) (x3 (xa2 (xa3 ?_)))))
  exact xf6 Plain.mk' rfl rfl rfl (leNil (by rw [if_neg hr])) (Le.int (by rw [if_neg hr]))
 ·
  have hr : rightL l o b p = true := by simpa using h111
  refine xa5 (x3 (x6 ?_))
  obtain ⟨v1, v2, v3, v4, v5⟩ := xj2 hd hr
  have hl16 := xi6 v1
  have hpw : ∀ i, i < l.length → wIn (p.getD i 0) = true := fun i hi => by
   obtain ⟨h1, h2⟩ := v5 i hi
   obtain ⟨q0, q1⟩ := shr_bd v1 hd hi
   rw [h2]; exact wIn_take q0 q1 h1
  have hm := MpI.at v1 v3 hpw l.length (Nat.le_refl _)
  have hSl := (sums_ok (o := o) hm.keys hm.acc).2.2.1
  have hml := hm.len
  obtain ⟨hS0, hS1⟩ := first_sum (o := o) v1 v3 hpw
  have hS2 : (sumsL o (mpS l p l.length)).take 1 = [own0 o] := by rw [show (1 : Nat) = 0 + 1 from rfl, take_snocS hS0, hS1]; rfl
  refine x8 ?_
  refine R1 (x9 fo31_0 rfl) rfl (xa4 (0) ti3 rfl rfl rfl (At.g 0 rfl rfl) rfl (R2 (xd9 (r := tS [⟨1, false, tI 0⟩, ⟨1, false, tI o⟩]) (ts := [(0, tI 0), (1, tI o)]) bu85 zr85.2 ⟨_, rfl⟩ rfl ⟨_, _, _, _, rfl, Up.f (fs := [⟨1, false, (tE (.int .i64 0))⟩, ⟨1, false, (tE (.int .i64 0))⟩]) (f := ⟨1, false, (tE (.int .i64 0))⟩) (fs' := [⟨1, false, tI 0⟩, ⟨1, false, (tE (.int .i64 0))⟩]) 0 rfl rfl rfl, inferInstance, ⟨_, _, _, _, rfl, Up.f (fs := [⟨1, false, tI 0⟩, ⟨1, false, (tE (.int .i64 0))⟩]) (f := ⟨1, false, (tE (.int .i64 0))⟩) (fs' := [⟨1, false, tI 0⟩, ⟨1, false, tI o⟩]) 1 rfl rfl rfl, inferInstance, Le.refl⟩⟩) rfl rfl (RE (d_sliceOfO (k := 19) (ents := rV tSm [own0 o]) Tryz.underlying80 el85 zf85 rfl (fun e he => by simp only [rV, List.map_cons, List.map_nil, List.mem_singleton] at he; subst he; infer_instance) rfl rfl rfl) ⟨rfl, trivial⟩ trivial ⟨rfl, trivial⟩ (R1 x5 rfl (x7 (by kernel_rfl) (x3 (x6 ?_)))))))
  refine x8 ?_
  refine R1 x5 rfl (x7 (by kernel_rfl) (x3 (xb3 ?_)))
  refine xe0 (fun (r : Nat) => r < (sumsL o (mpS l p l.length)).length) (fun (r : Nat) => upd (upd (upd (upd (fun _ => none) 0 (some (.val (tL 7 true tDeal l)))) 3 (some (.own (.ptr 3 0)))) 6 (some (.own (.sl 19 2 0 (r + 1))))) 7 (some (.val (tI ((sumsL o (mpS l p l.length)).getD r sm0).acc)))) (fun (r : Nat) => upd (upd (fun _ => none) 3 (some (⟨31, 3, true, [.val (tState o b p)]⟩))) 19 (some (⟨85, 2, true, rV tSm ((sumsL o (mpS l p l.length)).take (r + 1))⟩))) (nm [3, 19]) (fun (r : Nat) => (sumsL o (mpS l p l.length)).length - r) (0) hS0 ((Sub.consI rfl (Imp.of (by rw [hS1]; rfl))) (Sub.cons rfl (Sub.cons rfl (Sub.cons rfl Sub.nil)))) ((SubK.consI rfl (ImpK.of (by rw [hS2]))) ((SubK.consI rfl ImpK.refl) SubK.nil)) (SupG.val (SupG.own rfl (SupG.own rfl (SupG.val SupG.nil)))) (SupH.cons rfl (supJ xg3) (SupH.cons rfl (supJL rfl) SupH.nil)) (lkOk rfl) ?_
  intro r hI
  have hs0 := ((sumsL o (mpS l p l.length)).getD r sm0).h.1
  refine xb3 (x6 ?_)
  refine x8 ?_
  refine R1 x5 rfl (x7 (by kernel_rfl) (x3 (x6 ?_)))
  refine x8 ?_
  refine R1 x5 rfl (x7 (by kernel_rfl) (x3 (x6 (x6 ?_))))
  refine x8 ?_
  refine R1 x5 rfl (x7 (by kernel_rfl) (x3 (xb3 ?_)))
  refine xe0 (fun (fm : (Nat) × (Int) × (Int)) => (fun (i : Nat) (nx : Int) (sm : Int) => i ≤ l.length ∧ nxI l ((sumsL o (mpS l p l.length)).getD r sm0).acc i nx ∧ sm = sumA l p nx i) fm.1 fm.2.1 fm.2.2) (fun (fm : (Nat) × (Int) × (Int)) => (fun (i : Nat) (nx : Int) (sm : Int) => upd (upd (upd (upd (upd (upd (upd (fun _ => none) 0 (some (.val (tL 7 true tDeal l)))) 3 (some (.own (.ptr 3 0)))) 6 (some (.own (.sl 19 2 0 (r + 1))))) 7 (some (.val (tI ((sumsL o (mpS l p l.length)).getD r sm0).acc)))) 8 (some (.val (tI nx)))) 9 (some (.val (tI sm)))) 10 (some (.val (tI i)))) fm.1 fm.2.1 fm.2.2) (fun (fm : (Nat) × (Int) × (Int)) => (fun (i : Nat) (nx : Int) (sm : Int) => upd (upd (fun _ => none) 3 (some (⟨31, 3, true, [.val (tState o b p)]⟩))) 19 (some (⟨85, 2, true, rV tSm ((sumsL o (mpS l p l.length)).take (r + 1))⟩))) fm.1 fm.2.1 fm.2.2) (nm [3, 19]) (fun (fm : (Nat) × (Int) × (Int)) => (fun (i : Nat) (nx : Int) (sm : Int) => l.length - i) fm.1 fm.2.1 fm.2.2) ((0, 0, 0)) (by dsimp only; exact ⟨Nat.zero_le _, nxI_zero, rfl⟩) (Sub.int rfl (by first | omega | rfl | (dsimp only; omega)) (Sub.int rfl (by first | omega | rfl | (dsimp only; omega)) (Sub.int rfl (by first | omega | rfl | (dsimp only; omega)) (Sub.int rfl (by first | omega | rfl | (dsimp only; omega)) (Sub.cons rfl (Sub.cons rfl (Sub.cons rfl Sub.nil))))))) ((SubK.consI rfl ImpK.refl) ((SubK.consI rfl ImpK.refl) SubK.nil)) (SupG.val (SupG.val (SupG.val (SupG.val (SupG.own rfl (SupG.own rfl (SupG.val SupG.nil))))))) (SupH.cons rfl (supJ xg3) (SupH.cons rfl (supJL rfl) SupH.nil)) (lkOk rfl) ?_
  intro fm hI2
  obtain ⟨i, nx, sm⟩ := fm
  replace hI2 : i ≤ l.length ∧ nxI l ((sumsL o (mpS l p l.length)).getD r sm0).acc i nx ∧ sm = sumA l p nx i := hI2
  show wc _ _ _ _ (upd (upd (upd (upd (upd (upd (upd (fun _ => none) 0 (some (.val (tL 7 true tDeal l)))) 3 (some (.own (.ptr 3 0)))) 6 (some (.own (.sl 19 2 0 (r + 1))))) 7 (some (.val (tI ((sumsL o (mpS l p l.length)).getD r sm0).acc)))) 8 (some (.val (tI nx)))) 9 (some (.val (tI sm)))) 10 (some (.val (tI i)))) (upd (upd (fun _ => none) 3 (some (⟨31, 3, true, [.val (tState o b p)]⟩))) 19 (some (⟨85, 2, true, rV tSm ((sumsL o (mpS l p l.length)).take (r + 1))⟩))) _
  obtain ⟨hi, hn, hsm⟩ := hI2
  have hsb := sumA_bd (a := nx) hpw i hi
  rw [← hsm] at hsb
  refine x6 (x6 ?_)
  refine x8 ?_
  refine R1 x4 rfl (R1 x4 rfl (R1 (xb7 Tryz.underlying34) rfl (R2 xd7 rfl rfl (x7 (by kernel_rfl) (x3 ?_)))))
  refine xc5 rfl (fun h119 => ?_) (fun h119 => ?_)
  ·
   refine xa5 (x3 (x6 (xb3 (x6 ?_))))
   refine x8 ?_
   refine R1 x4 rfl (R1 x4 rfl (R2 (xb6 sl34 (i) (by omega) (gD (l := l) (n := i) (d := deal0) (by omega))) rfl rfl (R1 (xh4 fo67_3 (At.f 3 rfl rfl) rfl) rfl (R1 (xb8 ti3) rfl (R1 x5 rfl (x7 (by kernel_rfl) (x3 ?_)))))))
   refine x6 (x6 ?_)
   refine x8 ?_
   refine R1 x4 rfl (R1 x4 rfl (R2 xf2 rfl rfl (R1 x4 rfl ?_)))
   refine RGcaseD (t := 34) rfl (fun h121 => ?_) (fun h121 => ?_)
   ·
    refine RGon (decide_eq_true h121) rfl x4 rfl ⟨rfl, trivial⟩ trivial trivial (RGon (decide_eq_true h121) rfl d_eql rfl ⟨rfl, rfl, trivial⟩ trivial trivial (RGon (decide_eq_true h121) rfl x4 rfl ⟨rfl, trivial⟩ trivial trivial ?_))
    refine RGcaseD (t := 37) rfl (fun h121_2 => ?_) (fun h121_2 => ?_)
    ·
     refine RGoff (decide_eq_true h121_2) rfl rfl (RGoff (decide_eq_true h121_2) rfl rfl (RGoff (decide_eq_true h121_2) rfl rfl (RGon (decide_eq_true h121) rfl (xb2 (decide_eq_true h121_2)) rfl ⟨rfl, rfl, trivial⟩ trivial trivial (R2 (xb2 (decide_eq_true h121)) rfl rfl (x7 (by kernel_rfl) (x3 (C_bT rfl rfl ?_)))))))
     refine x6 ?_
     refine x8 ?_
     refine R1 x4 rfl (R1 x5 rfl (x7 (by kernel_rfl) (x3 ?_)))
     refine x8 ?_
     refine R1 x5 rfl (x7 (by kernel_rfl) (x3 (x6 ?_)))
     refine x8 ?_
     refine R1 x4 rfl (R1 x4 rfl (R2 d_eql rfl rfl (x7 (by kernel_rfl) (x3 (C_bT rfl (decide_eq_true (by rfl)) ?_)))))
     have hpi := xe8.1 (hpw i (by omega))
     refine x8 ?_
     refine R1 x4 rfl (R1 (x9 fo31_2 rfl) rfl (xa4 (0) ti23 rfl rfl rfl (At.g 2 rfl rfl) rfl (R1 x4 rfl (R2 (xb6 sl23 (i) (by omega) (gZ (by omega))) rfl rfl (R1 (xb8 ti3) rfl (R2 (xc2 (wr64 (by omega) (by omega))) rfl rfl (R1 x5 rfl ?_)))))))
     refine x7 (by kernel_rfl) (xc8 (x3 ?_))
     refine x8 ?_
     refine R1 x4 rfl (R2 (xc2 (wr64 (by omega) (by omega))) rfl rfl (R1 x5 rfl (x7 (by kernel_rfl) ?_)))
     exact xc6 ((i + 1, (l.getD i deal0).acc, 0 + p.getD i 0)) ⟨(by dsimp only; exact ⟨by omega, (nxI_new hs0 hn h121 (.inl h121_2)).1, by rw [sumA, if_pos rfl, sumA_no (nxI_new hs0 hn h121 (.inl h121_2)).2]⟩), (by dsimp only; omega)⟩ (Sub.int rfl (by first | omega | rfl | (dsimp only; omega)) (Sub.int rfl (by first | omega | rfl | (dsimp only; omega)) (Sub.int rfl (by first | omega | rfl | (dsimp only; omega)) (Sub.int rfl (by first | omega | rfl | (dsimp only; omega)) (Sub.cons rfl (Sub.cons rfl (Sub.cons rfl Sub.nil))))))) ((SubK.consI rfl ImpK.refl) ((SubK.consI rfl ImpK.refl) SubK.nil)) (SupG.val (SupG.val (SupG.val (SupG.val (SupG.own rfl (SupG.own rfl (SupG.val SupG.nil))))))) (SupH.cons rfl (supJ xg3) (SupH.cons rfl (supJL rfl) SupH.nil)) (lkOk rfl)
    ·
     refine RGon (decide_eq_false h121_2) rfl x4 rfl ⟨rfl, trivial⟩ trivial trivial (RGon (decide_eq_false h121_2) rfl x4 rfl ⟨rfl, trivial⟩ trivial trivial (RGon (decide_eq_false h121_2) rfl xd7 rfl ⟨rfl, rfl, trivial⟩ trivial trivial (RGon (decide_eq_true h121) rfl (xc0 (decide_eq_false h121_2)) rfl ⟨rfl, rfl, trivial⟩ trivial trivial (R2 (xb2 (decide_eq_true h121)) rfl rfl (x7 (by kernel_rfl) (x3 ?_))))))
     refine xc5 rfl (fun h121_3 => ?_) (fun h121_3 => ?_)
     ·
      refine x6 ?_
      refine x8 ?_
      refine R1 x4 rfl (R1 x5 rfl (x7 (by kernel_rfl) (x3 ?_)))
      refine x8 ?_
      refine R1 x5 rfl (x7 (by kernel_rfl) (x3 (x6 ?_)))
      refine x8 ?_
      refine R1 x4 rfl (R1 x4 rfl (R2 d_eql rfl rfl (x7 (by kernel_rfl) (x3 (C_bT rfl (decide_eq_true (by rfl)) ?_)))))
      have hpi := xe8.1 (hpw i (by omega))
      refine x8 ?_
      refine R1 x4 rfl (R1 (x9 fo31_2 rfl) rfl (xa4 (0) ti23 rfl rfl rfl (At.g 2 rfl rfl) rfl (R1 x4 rfl (R2 (xb6 sl23 (i) (by omega) (gZ (by omega))) rfl rfl (R1 (xb8 ti3) rfl (R2 (xc2 (wr64 (by omega) (by omega))) rfl rfl (R1 x5 rfl ?_)))))))
      refine x7 (by kernel_rfl) (xc8 (x3 ?_))
      refine x8 ?_
      refine R1 x4 rfl (R2 (xc2 (wr64 (by omega) (by omega))) rfl rfl (R1 x5 rfl (x7 (by kernel_rfl) ?_)))
      exact xc6 ((i + 1, (l.getD i deal0).acc, 0 + p.getD i 0)) ⟨(by dsimp only; exact ⟨by omega, (nxI_new hs0 hn h121 (.inr h121_3)).1, by rw [sumA, if_pos rfl, sumA_no (nxI_new hs0 hn h121 (.inr h121_3)).2]⟩), (by dsimp only; omega)⟩ (Sub.int rfl (by first | omega | rfl | (dsimp only; omega)) (Sub.int rfl (by first | omega | rfl | (dsimp only; omega)) (Sub.int rfl (by first | omega | rfl | (dsimp only; omega)) (Sub.int rfl (by first | omega | rfl | (dsimp only; omega)) (Sub.cons rfl (Sub.cons rfl (Sub.cons rfl Sub.nil))))))) ((SubK.consI rfl ImpK.refl) ((SubK.consI rfl ImpK.refl) SubK.nil)) (SupG.val (SupG.val (SupG.val (SupG.val (SupG.own rfl (SupG.own rfl (SupG.val SupG.nil))))))) (SupH.cons rfl (supJ xg3) (SupH.cons rfl (supJL rfl) SupH.nil)) (lkOk rfl)
     ·
      refine xa5 (x3 (x6 ?_))
      refine x8 ?_
      refine R1 x4 rfl (R1 x4 rfl (R2 d_eql rfl rfl (x7 (by kernel_rfl) (x3 ?_))))
      refine xc5 rfl (fun h125 => ?_) (fun h125 => ?_)
      ·
       have hpi := xe8.1 (hpw i (by omega))
       refine x8 ?_
       refine R1 x4 rfl (R1 (x9 fo31_2 rfl) rfl (xa4 (0) ti23 rfl rfl rfl (At.g 2 rfl rfl) rfl (R1 x4 rfl (R2 (xb6 sl23 (i) (by omega) (gZ (by omega))) rfl rfl (R1 (xb8 ti3) rfl (R2 (xc2 (wr64 (by omega) (by omega))) rfl rfl (R1 x5 rfl ?_)))))))
       refine x7 (by kernel_rfl) (xc8 (x3 ?_))
       refine x8 ?_
       refine R1 x4 rfl (R2 (xc2 (wr64 (by omega) (by omega))) rfl rfl (R1 x5 rfl (x7 (by kernel_rfl) ?_)))
       exact xc6 ((i + 1, nx, sm + p.getD i 0)) ⟨(by dsimp only; exact ⟨by omega, nxI_old hn (fun h => by rcases h.2 with h | h <;> omega), by rw [sumA, if_pos h125, hsm]⟩), (by dsimp only; omega)⟩ (Sub.int rfl (by first | omega | rfl | (dsimp only; omega)) (Sub.int rfl (by first | omega | rfl | (dsimp only; omega)) (Sub.int rfl (by first | omega | rfl | (dsimp only; omega)) (Sub.int rfl (by first | omega | rfl | (dsimp only; omega)) (Sub.cons rfl (Sub.cons rfl (Sub.cons rfl Sub.nil))))))) ((SubK.consI rfl ImpK.refl) ((SubK.consI rfl ImpK.refl) SubK.nil)) (SupG.val (SupG.val (SupG.val (SupG.val (SupG.own rfl (SupG.own rfl (SupG.val SupG.nil))))))) (SupH.cons rfl (supJ xg3) (SupH.cons rfl (supJL rfl) SupH.nil)) (lkOk rfl)
      ·
       refine xa5 (xc8 (x3 ?_))
       refine x8 ?_
       refine R1 x4 rfl (R2 (xc2 (wr64 (by omega) (by omega))) rfl rfl (R1 x5 rfl (x7 (by kernel_rfl) ?_)))
       exact xc6 ((i + 1, nx, sm)) ⟨(by dsimp only; exact ⟨by omega, nxI_old hn (fun h => by rcases h.2 with h | h <;> omega), by rw [sumA, if_neg h125, Int.add_zero, hsm]⟩), (by dsimp only; omega)⟩ (Sub.int rfl (by first | omega | rfl | (dsimp only; omega)) (Sub.int rfl (by first | omega | rfl | (dsimp only; omega)) (Sub.int rfl (by first | omega | rfl | (dsimp only; omega)) (Sub.int rfl (by first | omega | rfl | (dsimp only; omega)) (Sub.cons rfl (Sub.cons rfl (Sub.cons rfl Sub.nil))))))) ((SubK.consI rfl ImpK.refl) ((SubK.consI rfl ImpK.refl) SubK.nil)) (SupG.val (SupG.val (SupG.val (SupG.val (SupG.own rfl (SupG.own rfl (SupG.val SupG.nil))))))) (SupH.cons rfl (supJ xg3) (SupH.cons rfl (supJL rfl) SupH.nil)) (lkOk rfl)
   ·
    refine RGoff (decide_eq_false h121) rfl rfl (RGoff (decide_eq_false h121) rfl rfl (RGoff (decide_eq_false h121) rfl rfl (RGoffU rfl rfl (RGoffU rfl rfl (RGoffU rfl rfl (RGoff (decide_eq_false h121) rfl rfl (R2 (xc0 (decide_eq_false h121)) rfl rfl ?_)))))))
    refine x7 (by kernel_rfl) (x3 (C_bF rfl rfl (xa5 (x3 (x6 ?_)))))
    refine x8 ?_
    refine R1 x4 rfl (R1 x4 rfl (R2 d_eql rfl rfl (x7 (by kernel_rfl) (x3 ?_))))
    refine xc5 rfl (fun h125 => ?_) (fun h125 => ?_)
    ·
     have hpi := xe8.1 (hpw i (by omega))
     refine x8 ?_
     refine R1 x4 rfl (R1 (x9 fo31_2 rfl) rfl (xa4 (0) ti23 rfl rfl rfl (At.g 2 rfl rfl) rfl (R1 x4 rfl (R2 (xb6 sl23 (i) (by omega) (gZ (by omega))) rfl rfl (R1 (xb8 ti3) rfl (R2 (xc2 (wr64 (by omega) (by omega))) rfl rfl (R1 x5 rfl ?_)))))))
     refine x7 (by kernel_rfl) (xc8 (x3 ?_))
     refine x8 ?_
     refine R1 x4 rfl (R2 (xc2 (wr64 (by omega) (by omega))) rfl rfl (R1 x5 rfl (x7 (by kernel_rfl) ?_)))
     exact xc6 ((i + 1, nx, sm + p.getD i 0)) ⟨(by dsimp only; exact ⟨by omega, nxI_old hn (fun h => h121 h.1), by rw [sumA, if_pos h125, hsm]⟩), (by dsimp only; omega)⟩ (Sub.int rfl (by first | omega | rfl | (dsimp only; omega)) (Sub.int rfl (by first | omega | rfl | (dsimp only; omega)) (Sub.int rfl (by first | omega | rfl | (dsimp only; omega)) (Sub.int rfl (by first | omega | rfl | (dsimp only; omega)) (Sub.cons rfl (Sub.cons rfl (Sub.cons rfl Sub.nil))))))) ((SubK.consI rfl ImpK.refl) ((SubK.consI rfl ImpK.refl) SubK.nil)) (SupG.val (SupG.val (SupG.val (SupG.val (SupG.own rfl (SupG.own rfl (SupG.val SupG.nil))))))) (SupH.cons rfl (supJ xg3) (SupH.cons rfl (supJL rfl) SupH.nil)) (lkOk rfl)
    ·
     refine xa5 (xc8 (x3 ?_))
     refine x8 ?_
     refine R1 x4 rfl (R2 (xc2 (wr64 (by omega) (by omega))) rfl rfl (R1 x5 rfl (x7 (by kernel_rfl) ?_)))
     exact xc6 ((i + 1, nx, sm)) ⟨(by dsimp only; exact ⟨by omega, nxI_old hn (fun h => h121 h.1), by rw [sumA, if_neg h125, Int.add_zero, hsm]⟩), (by dsimp only; omega)⟩ (Sub.int rfl (by first | omega | rfl | (dsimp only; omega)) (Sub.int rfl (by first | omega | rfl | (dsimp only; omega)) (Sub.int rfl (by first | omega | rfl | (dsimp only; omega)) (Sub.int rfl (by first | omega | rfl | (dsimp only; omega)) (Sub.cons rfl (Sub.cons rfl (Sub.cons rfl Sub.nil))))))) ((SubK.consI rfl ImpK.refl) ((SubK.consI rfl ImpK.refl) SubK.nil)) (SupG.val (SupG.val (SupG.val (SupG.val (SupG.own rfl (SupG.own rfl (SupG.val SupG.nil))))))) (SupH.cons rfl (supJ xg3) (SupH.cons rfl (supJL rfl) SupH.nil)) (lkOk rfl)
  ·
   refine xd8 (xc1 (xc1 (xe3 (x3 (x6 (x6 ?_))))))
   have hil : i = l.length := by omega
   subst hil
   have hnext := next_sum (o := o) v1 v3 hpw hI hn
   have htl : ((sumsL o (mpS l p l.length)).take (r + 1)).length = r + 1 := by rw [List.length_take]; omega
   refine x8 ?_
   refine R1 x4 rfl (R2 d_eql rfl rfl (x7 (by kernel_rfl) (x3 ?_)))
   refine xc5 rfl (fun h129 => ?_) (fun h129 => ?_)
   ·
    refine x6 ?_
    refine x8 ?_
    refine R1 x4 rfl (RE (d_assignS (f := tSm) (xs := (sumsL o (mpS l p l.length)).take (r + 1)) (fun _ h => h) (rV_all htl) htl) ⟨rfl, trivial⟩ ⟨rfl, trivial⟩ trivial (R1 x5 rfl (x7 (by kernel_rfl) (x3 (xa2 (xa3 (xc7 ?_)))))))
    refine xa3 (xc7 ?_)
    exact xf6 Plain.mk' rfl rfl rfl (Le.of (by rw [if_pos hr, hnext.1 h129, List.take_length])) (Le.int (by rw [if_pos hr]))
   ·
    refine xa5 (x3 (x6 ?_))
    obtain ⟨g1, g2, g3⟩ := hnext.2 h129
    obtain rfl : sm = ((sumsL o (mpS l p l.length)).getD (r + 1) sm0).amt := by rw [hsm, g3]
    subst g2
    refine x8 ?_
    refine R1 x4 rfl (R1 x4 rfl (R1 x4 rfl (R2 (xd9 (r := tS [⟨1, false, tI ((sumsL o (mpS l p l.length)).getD (r + 1) sm0).acc⟩, ⟨1, false, tI ((sumsL o (mpS l p l.length)).getD (r + 1) sm0).amt⟩]) (ts := [(0, tI ((sumsL o (mpS l p l.length)).getD (r + 1) sm0).acc), (1, tI ((sumsL o (mpS l p l.length)).getD (r + 1) sm0).amt)]) bu85 zr85.2 ⟨_, rfl⟩ rfl ⟨_, _, _, _, rfl, Up.f (fs := [⟨1, false, (tE (.int .i64 0))⟩, ⟨1, false, (tE (.int .i64 0))⟩]) (f := ⟨1, false, (tE (.int .i64 0))⟩) (fs' := [⟨1, false, tI ((sumsL o (mpS l p l.length)).getD (r + 1) sm0).acc⟩, ⟨1, false, (tE (.int .i64 0))⟩]) 0 rfl rfl rfl, inferInstance, ⟨_, _, _, _, rfl, Up.f (fs := [⟨1, false, tI ((sumsL o (mpS l p l.length)).getD (r + 1) sm0).acc⟩, ⟨1, false, (tE (.int .i64 0))⟩]) (f := ⟨1, false, (tE (.int .i64 0))⟩) (fs' := [⟨1, false, tI ((sumsL o (mpS l p l.length)).getD (r + 1) sm0).acc⟩, ⟨1, false, tI ((sumsL o (mpS l p l.length)).getD (r + 1) sm0).amt⟩]) 1 rfl rfl rfl, inferInstance, Le.refl⟩⟩) rfl rfl (R1 (xf3 (n := 1) (f := tSm) [((sumsL o (mpS l p l.length)).getD (r + 1) sm0)] Tryz.underlying80 el85 zf85 rfl (fun _ => inferInstance) rfl rfl rfl) rfl (RE (xg4 (k := 19) (k' := 62) (f := tSm) (ys := [((sumsL o (mpS l p l.length)).getD (r + 1) sm0)]) (ts' := rV tSm ((sumsL o (mpS l p l.length)).take (r + 1) ++ [((sumsL o (mpS l p l.length)).getD (r + 1) sm0)])) Tryz.underlying80 el85 zf85 rfl rfl (fun _ => inferInstance) (rV_len.trans htl) (by simp; omega) (by simp; omega) (by simp [rV]) (n' := r + 1 + 1) rfl) ⟨rfl, rfl, trivial⟩ ⟨rfl, trivial⟩ ⟨rfl, trivial⟩ (R1 x5 rfl (x7 (by kernel_rfl) ?_)))))))
    refine x3 ?_
    refine x8 ?_
    refine R1 x4 rfl (R1 x5 rfl (x7 (by kernel_rfl) (xc8 ?_)))
    exact K_famR (l := [3, 19]) (fun j => cond (Nat.beq j 19) 62 (j)) (r + 1) ⟨g1, (by omega)⟩ (SubR.int rfl (by first | omega | rfl | (dsimp only; omega)) (SubR.cons rfl (SubR.cons rfl (SubR.cons rfl SubR.nil)))) ((SubKR.consI rfl (ImpK.of (by rw [take_snocS g1]; exact ren_rV.symm))) ((SubKR.consI rfl ImpK.refl) SubKR.nil)) (SupG.val (SupG.own rfl (SupG.own rfl (SupG.val SupG.nil)))) (SupH.cons rfl (supJ xg3) (SupH.cons rfl (supJL rfl) SupH.nil)) (lkOk rfl) rfl rfl (fun _ h => by cases h)
theorem c_plain (l : List Deal) (hl : l.length ≤ 16) :
  Ct Tryz.prog 10 [tL 7 true tDeal l] (tL 7 true tDeal l) := by
 refine Ct.intro Tryz.func10 rfl Tryz.ntmps10 rfl ?_
 intro w F
 refine x6 ?_
 refine x8 ?_
 refine R1 x5 rfl (x7 (by kernel_rfl) (x3 (x6 ?_)))
 refine x8 ?_
 refine RE (d_assignN (k := 3) 67 7 true rfl (fun h => by cases h)) trivial trivial ⟨rfl, trivial⟩ (x7 (by kernel_rfl) (x3 (x6 (x6 ?_))))
 refine x8 ?_
 refine R1 x5 rfl (x7 (by kernel_rfl) (x3 (xb3 ?_)))
 refine xe0 (fun (i : Nat) => i ≤ l.length) (fun (i : Nat) => upd (upd (upd (fun _ => none) 0 (some (.val (tL 7 true tDeal l)))) 3 (some (.own (.sl 3 7 0 i)))) 4 (some (.val (tI i)))) (fun (i : Nat) => upd (fun _ => none) 3 (some (⟨67, 7, true, rV tDeal (l.take i)⟩))) (nm [3]) (fun (i : Nat) => l.length - i) (0) (Nat.zero_le _) (Sub.int rfl (by first | omega | rfl | (dsimp only; omega)) (Sub.cons rfl (Sub.cons rfl Sub.nil))) ((SubK.consI rfl ImpK.refl) SubK.nil) (SupG.val (SupG.own rfl (SupG.val SupG.nil))) (SupH.cons rfl (supJ xg3) SupH.nil) (lkOk rfl) ?_
 intro i hI
 have htl : (l.take i).length = i := by rw [List.length_take]; omega
 refine x6 (x6 ?_)
 refine x8 ?_
 refine R1 x4 rfl (R1 x4 rfl (R1 (xb7 Tryz.underlying22) rfl (R2 xd7 rfl rfl (x7 (by kernel_rfl) (x3 ?_)))))
 refine xc5 rfl (fun h46 => ?_) (fun h46 => ?_)
 ·
  refine xa5 (x3 (x6 (xb3 ?_)))
  refine xc9 mixed ?_
  refine R1 x4 rfl (R1 x4 rfl (R1 x4 rfl (R2 (xb6 sl22 (i) (by omega) (gD (l := l) (n := i) (d := deal0) (by omega))) rfl rfl (R1 (xh4 fo56_0 (At.f 0 rfl rfl) rfl) rfl (R1 (xb8 ti3) rfl (R1 x4 rfl (R1 x4 rfl ?_)))))))
  refine R2 (xb6 sl22 (i) (by omega) (gD (l := l) (n := i) (d := deal0) (by omega))) rfl rfl (R1 (xh4 fo56_1 (At.f 1 rfl rfl) rfl) rfl (R1 (xb8 ti3) rfl (R1 x4 rfl (R1 x4 rfl (R2 (xb6 sl22 (i) (by omega) (gD (l := l) (n := i) (d := deal0) (by omega))) rfl rfl (R1 (xh4 fo56_2 (At.f 2 rfl rfl) rfl) rfl (R1 (xb8 ti49) rfl ?_)))))))
  refine R1 x4 rfl (R1 x4 rfl (R2 (xb6 sl22 (i) (by omega) (gD (l := l) (n := i) (d := deal0) (by omega))) rfl rfl (R1 (xh4 fo56_3 (At.f 3 rfl rfl) rfl) rfl (R1 (xb8 ti3) rfl (RE (xd9 (r := tS [⟨1, false, tI (l.getD i deal0).lo⟩, ⟨1, false, tI (l.getD i deal0).hi⟩, ⟨4, true, tFr (l.getD i deal0).share⟩, ⟨1, false, tI (l.getD i deal0).acc⟩]) (ts := [(0, tI (l.getD i deal0).lo), (1, tI (l.getD i deal0).hi), (2, tFr (l.getD i deal0).share), (3, tI (l.getD i deal0).acc)]) bu67 zr67.2 ⟨_, rfl⟩ rfl ⟨_, _, _, _, rfl, Up.f (fs := [⟨1, false, (tE (.int .i64 0))⟩, ⟨1, false, (tE (.int .i64 0))⟩, ⟨4, true, (tS [⟨2, true, (tS [⟨1, false, (tE (.bool false))⟩, ⟨1, false, (tLm [])⟩])⟩, ⟨2, true, (tS [⟨1, false, (tE (.bool false))⟩, ⟨1, false, (tLm [])⟩])⟩])⟩, ⟨1, false, (tE (.int .i64 0))⟩]) (f := ⟨1, false, (tE (.int .i64 0))⟩) (fs' := [⟨1, false, tI (l.getD i deal0).lo⟩, ⟨1, false, (tE (.int .i64 0))⟩, ⟨4, true, (tS [⟨2, true, (tS [⟨1, false, (tE (.bool false))⟩, ⟨1, false, (tLm [])⟩])⟩, ⟨2, true, (tS [⟨1, false, (tE (.bool false))⟩, ⟨1, false, (tLm [])⟩])⟩])⟩, ⟨1, false, (tE (.int .i64 0))⟩]) 0 rfl rfl rfl, inferInstance, ⟨_, _, _, _, rfl, Up.f (fs := [⟨1, false, tI (l.getD i deal0).lo⟩, ⟨1, false, (tE (.int .i64 0))⟩, ⟨4, true, (tS [⟨2, true, (tS [⟨1, false, (tE (.bool false))⟩, ⟨1, false, (tLm [])⟩])⟩, ⟨2, true, (tS [⟨1, false, (tE (.bool false))⟩, ⟨1, false, (tLm [])⟩])⟩])⟩, ⟨1, false, (tE (.int .i64 0))⟩]) (f := ⟨1, false, (tE (.int .i64 0))⟩) (fs' := [⟨1, false, tI (l.getD i deal0).lo⟩, ⟨1, false, tI (l.getD i deal0).hi⟩, ⟨4, true, (tS [⟨2, true, (tS [⟨1, false, (tE (.bool false))⟩, ⟨1, false, (tLm [])⟩])⟩, ⟨2, true, (tS [⟨1, false, (tE (.bool false))⟩, ⟨1, false, (tLm [])⟩])⟩])⟩, ⟨1, false, (tE (.int .i64 0))⟩]) 1 rfl rfl rfl, inferInstance, ⟨_, _, _, _, rfl, Up.f (fs := [⟨1, false, tI (l.getD i deal0).lo⟩, ⟨1, false, tI (l.getD i deal0).hi⟩, ⟨4, true, (tS [⟨2, true, (tS [⟨1, false, (tE (.bool false))⟩, ⟨1, false, (tLm [])⟩])⟩, ⟨2, true, (tS [⟨1, false, (tE (.bool false))⟩, ⟨1, false, (tLm [])⟩])⟩])⟩, ⟨1, false, (tE (.int .i64 0))⟩]) (f := ⟨4, true, (tS [⟨2, true, (tS [⟨1, false, (tE (.bool false))⟩, ⟨1, false, (tLm [])⟩])⟩, ⟨2, true, (tS [⟨1, false, (tE (.bool false))⟩, ⟨1, false, (tLm [])⟩])⟩])⟩) (fs' := [⟨1, false, tI (l.getD i deal0).lo⟩, ⟨1, false, tI (l.getD i deal0).hi⟩, ⟨4, true, tFr (l.getD i deal0).share⟩, ⟨1, false, (tE (.int .i64 0))⟩]) 2 rfl rfl rfl, inferInstance, ⟨_, _, _, _, rfl, Up.f (fs := [⟨1, false, tI (l.getD i deal0).lo⟩, ⟨1, false, tI (l.getD i deal0).hi⟩, ⟨4, true, tFr (l.getD i deal0).share⟩, ⟨1, false, (tE (.int .i64 0))⟩]) (f := ⟨1, false, (tE (.int .i64 0))⟩) (fs' := [⟨1, false, tI (l.getD i deal0).lo⟩, ⟨1, false, tI (l.getD i deal0).hi⟩, ⟨4, true, tFr (l.getD i deal0).share⟩, ⟨1, false, tI (l.getD i deal0).acc⟩]) 3 rfl rfl rfl, inferInstance, Le.refl⟩⟩⟩⟩) ⟨rfl, rfl, rfl, rfl, trivial⟩ trivial trivial (R1 (xf3 (n := 1) (f := tDeal) [(l.getD i deal0)] Tryz.underlying34 el67 zf67 rfl (fun _ => inferInstance) rfl rfl rfl) rfl (RE (xg4 (k := 3) (k' := 34) (f := tDeal) (ys := [(l.getD i deal0)]) (ts' := rV tDeal (l.take i ++ [(l.getD i deal0)])) Tryz.underlying34 el67 zf67 rfl rfl (fun _ => inferInstance) (rV_len.trans htl) (by simp; omega) (by simp; omega) (by simp [rV]) (n' := i + 1) rfl) ⟨rfl, rfl, trivial⟩ ⟨rfl, trivial⟩ ⟨rfl, trivial⟩ ?_)))))))
  refine R1 x5 rfl (xd1 (by kernel_rfl) (xc8 (x3 ?_)))
  refine x8 ?_
  refine R1 x4 rfl (R2 (xc2 (wr64 (by omega) (by omega))) rfl rfl (R1 x5 rfl (x7 (by kernel_rfl) ?_)))
  exact K_famR (l := [3]) (fun j => cond (Nat.beq j 3) 34 (j)) (i + 1) ⟨(by omega), (by omega)⟩ (SubR.int rfl (by first | omega | rfl | (dsimp only; omega)) (SubR.cons rfl (SubR.cons rfl SubR.nil))) ((SubKR.consI rfl (ImpK.of (by rw [take_snocD (by omega)]; exact ren_rV.symm))) SubKR.nil) (SupG.val (SupG.own rfl (SupG.val SupG.nil))) (SupH.cons rfl (supJ xg3) SupH.nil) (lkOk rfl) rfl rfl (fun _ h => by cases h)
 ·
  refine xd8 (xc1 (xc1 (xe3 (x3 (x6 ?_)))))
  refine x8 ?_
  refine RE (xi3 (f := tDeal) (xs := l.take i) (fun _ h => h) (rV_all htl) htl) ⟨rfl, trivial⟩ ⟨rfl, trivial⟩ trivial (R1 x5 rfl (x7 (by kernel_rfl) (x3 (xa2 ?_))))
  exact xa9 Plain.mk' rfl rfl (Le.of (by rw [show i = l.length by omega, List.take_length]))
theorem c_state24 (o : Int) (b p : List Int) :
  Ct Tryz.prog 15 [tState o b p] (tState o b p) := by
 refine Ct.intro Tryz.func15 rfl Tryz.ntmps15 rfl ?_
 intro w F
 refine x6 ?_
 refine x8 ?_
 refine RE (xd4 (k := 1) ti27 rfl) ⟨rfl, trivial⟩ trivial ⟨rfl, trivial⟩ (RE (xc4 (k := 2) (n := 3) (agg := true) zr31.1 zr31.2 rfl) trivial trivial ⟨rfl, trivial⟩ (x7 (by kernel_rfl) (x3 (x6 ?_))))
 refine x8 ?_
 refine R1 (x9 fo27_0 rfl) rfl (xa4 (0) ti3 rfl rfl rfl (At.g 0 rfl rfl) rfl (R1 (x9 fo27_1 rfl) rfl (xa4 (0) ti23 rfl rfl rfl (At.g 1 rfl rfl) rfl (R1 (x9 fo27_2 rfl) rfl (xa4 (0) ti23 rfl rfl rfl (At.g 2 rfl rfl) rfl (R3 (xd9 (r := tS [⟨1, false, tI o⟩, ⟨1, false, tIs b⟩, ⟨1, false, tIs p⟩]) (ts := [(0, tI o), (1, tIs b), (2, tIs p)]) bu31 zr31.2 ⟨_, rfl⟩ rfl ⟨_, _, _, _, rfl, Up.f (fs := [⟨1, false, (tE (.int .i64 0))⟩, ⟨1, false, (tIs [])⟩, ⟨1, false, (tIs [])⟩]) (f := ⟨1, false, (tE (.int .i64 0))⟩) (fs' := [⟨1, false, tI o⟩, ⟨1, false, (tIs [])⟩, ⟨1, false, (tIs [])⟩]) 0 rfl rfl rfl, inferInstance, ⟨_, _, _, _, rfl, Up.f (fs := [⟨1, false, tI o⟩, ⟨1, false, (tIs [])⟩, ⟨1, false, (tIs [])⟩]) (f := ⟨1, false, (tIs [])⟩) (fs' := [⟨1, false, tI o⟩, ⟨1, false, tIs b⟩, ⟨1, false, (tIs [])⟩]) 1 rfl rfl rfl, inferInstance, ⟨_, _, _, _, rfl, Up.f (fs := [⟨1, false, tI o⟩, ⟨1, false, tIs b⟩, ⟨1, false, (tIs [])⟩]) (f := ⟨1, false, (tIs [])⟩) (fs' := [⟨1, false, tI o⟩, ⟨1, false, tIs b⟩, ⟨1, false, tIs p⟩]) 2 rfl rfl rfl, inferInstance, Le.refl⟩⟩⟩) rfl rfl rfl (RE (xa6 (es := 3) (agg := true) (0) ti31 rfl rfl rfl) ⟨rfl, rfl, trivial⟩ ⟨rfl, trivial⟩ trivial ?_)))))))
 refine x7 (by kernel_rfl) (x3 (xa2 ?_))
 exact xg2 Plain.mk' rfl ⟨_, _, _, _, _, rfl, rfl, ti31, Le.refl⟩
theorem c_sameST (o : Int) (b p : List Int) :
  Ct Tryz.prog 14 [tState o b p, tState o b p] (tB true) := by
 refine Ct.intro Tryz.func14 rfl Tryz.ntmps14 rfl ?_
 intro w F
 refine x6 ?_
 refine x8 ?_
 refine RE (xd4 (k := 2) ti31 rfl) ⟨rfl, trivial⟩ trivial ⟨rfl, trivial⟩ (RE (xd4 (k := 3) ti31 rfl) ⟨rfl, trivial⟩ trivial ⟨rfl, trivial⟩ (R1 x5 rfl (x7 (by kernel_rfl) (x3 (x6 ?_)))))
 refine x8 ?_
 refine R1 (x9 fo31_0 rfl) rfl (xa4 (0) ti3 rfl rfl rfl (At.g 0 rfl rfl) rfl (R1 (x9 fo31_0 rfl) rfl (xa4 (0) ti3 rfl rfl rfl (At.g 0 rfl rfl) rfl (R2 d_eql rfl rfl (R1 x4 rfl (RGon (decide_eq_true (by rfl)) rfl (x9 fo31_1 rfl) rfl ⟨rfl, trivial⟩ trivial trivial (xd2 (decide_eq_true (by rfl)) rfl rfl (0) ti23 rfl rfl rfl (At.g 1 rfl rfl) rfl ?_)))))))
 refine RGon (decide_eq_true (by rfl)) rfl (x9 fo31_1 rfl) rfl ⟨rfl, trivial⟩ trivial trivial (xd2 (decide_eq_true (by rfl)) rfl rfl (0) ti23 rfl rfl rfl (At.g 1 rfl rfl) rfl (RGon (decide_eq_true (by rfl)) rfl (xa0 (c_sameII b) fi13 rfl) rfl ⟨rfl, rfl, trivial⟩ trivial trivial (R2 (xb2 (decide_eq_true (by rfl))) rfl rfl (R1 x4 rfl (RGon rfl rfl (x9 fo31_2 rfl) rfl ⟨rfl, trivial⟩ trivial trivial (xd2 rfl rfl rfl (0) ti23 rfl rfl rfl (At.g 2 rfl rfl) rfl (RGon rfl rfl (x9 fo31_2 rfl) rfl ⟨rfl, trivial⟩ trivial trivial ?_)))))))
 refine xd2 rfl rfl rfl (0) ti23 rfl rfl rfl (At.g 2 rfl rfl) rfl (RGon rfl rfl (xa0 (c_sameII p) fi13 rfl) rfl ⟨rfl, rfl, trivial⟩ trivial trivial (R2 (xb2 rfl) rfl rfl (R1 x5 rfl (x7 (by kernel_rfl) (x3 (xa2 ?_))))))
 exact xa9 Plain.mk' rfl rfl Le.refl
theorem c_SumsP (l : List Deal) (o : Int) (b p : List Int) (hd : ∀ d ∈ l, d.share.dig) (hr : rightL l o b p = true) : Ct Tryz.prog 38 [tL 7 true tDeal l, tState o b p] (tT [tL 2 true tSm (sumsL o (mpS l p l.length)), tI 0]) := by
  have h := c_Sums l o b p hd
  rw [if_pos hr, if_pos hr] at h; exact h
theorem c_R24SumsP (l : List Deal) (o : Int) (b p : List Int) (hd : ∀ d ∈ l, d.share.dig) (hr : rightL l o b p = true) : Ct Tryz.prog 39 [tL 7 true tDeal l, tState o b p] (tT [tL 2 true tSm (sumsL o (mpS l p l.length)), tI 0]) := by
  have h := c_R24Sums l o b p hd
  rw [if_pos hr, if_pos hr] at h; exact h
theorem c_sums24 (l : List Deal) (o : Int) (b p : List Int) (hd : ∀ d ∈ l, d.share.dig) (hr : rightL l o b p = true) (hl : l.length ≤ 16) :
  Ct Tryz.prog 16 [tL 7 true tDeal l, tState o b p] (tB true) := by
 refine Ct.intro Tryz.func16 rfl Tryz.ntmps16 rfl ?_
 intro w F
 refine x6 ?_
 refine x8 ?_
 refine RE (xd4 (k := 3) ti27 rfl) ⟨rfl, trivial⟩ trivial ⟨rfl, trivial⟩ (R1 x5 rfl (x7 (by kernel_rfl) (x3 (x6 ?_))))
 refine x8 ?_
 refine R1 x4 rfl (RE (xa7 (0) ti27 rfl rfl) ⟨rfl, trivial⟩ ⟨rfl, trivial⟩ trivial (R2 (xa0 (c_SumsP l o b p hd hr) fi38 rfl) rfl rfl (R1 x4 rfl (R1 (xa8 rfl) rfl (R1 (xa8 rfl) rfl (R1 x5 rfl (R1 x5 rfl ?_)))))))
 refine x7 (by kernel_rfl) (x3 (x6 ?_))
 refine xc9 mixed ?_
 refine R1 x4 rfl (R1 (xa0 (c_plain l hl) fi10 rfl) rfl (RE (xa7 (0) ti27 rfl rfl) ⟨rfl, trivial⟩ ⟨rfl, trivial⟩ trivial (R1 (xa0 (c_state24 o b p) fi15 rfl) rfl (R2 (xa0 (c_R24SumsP l o b p hd hr) fi39 rfl) rfl rfl (R1 x4 rfl (R1 (xa8 rfl) rfl (R1 (xa8 rfl) rfl ?_)))))))
 refine R1 x5 rfl (R1 x5 rfl (xd1 (by kernel_rfl) (x3 (x6 (x6 ?_)))))
 refine x8 ?_
 refine R1 x4 rfl (R1 x4 rfl (R2 xg8 rfl rfl (R1 x4 rfl (RGon (decide_eq_false (by exact fun h => h rfl)) rfl x4 rfl ⟨rfl, trivial⟩ trivial trivial (RGon (decide_eq_false (by exact fun h => h rfl)) rfl (xb7 Tryz.underlying77) rfl ⟨rfl, trivial⟩ trivial trivial (RGon (decide_eq_false (by exact fun h => h rfl)) rfl x4 rfl ⟨rfl, trivial⟩ trivial trivial (RGon (decide_eq_false (by exact fun h => h rfl)) rfl (xb7 Tryz.underlying80) rfl ⟨rfl, trivial⟩ trivial trivial ?_)))))))
 refine RGon (decide_eq_false (by exact fun h => h rfl)) rfl xg8 rfl ⟨rfl, rfl, trivial⟩ trivial trivial (R2 (xc0 (decide_eq_false (by exact fun h => h rfl))) rfl rfl (x7 (by kernel_rfl) (x3 (C_bF rfl (decide_eq_false (by exact fun h => h rfl)) (xa5 (x3 (x6 ?_)))))))
 refine x6 ?_
 refine x8 ?_
 refine R1 x5 rfl (x7 (by kernel_rfl) (x3 (xb3 ?_)))
 refine C_len (s := 5) rfl (fun hl5 => ?_)
 refine xe0 (fun (i : Nat) => i ≤ (sumsL o (mpS l p l.length)).length) (fun (i : Nat) => upd (upd (upd (fun _ => none) 5 (some (.val (tL 2 true tSm (sumsL o (mpS l p l.length)))))) 7 (some (.val (tL 2 true tSm (sumsL o (mpS l p l.length)))))) 9 (some (.val (tI i)))) (fun (i : Nat) => fun _ => none) (nm []) (fun (i : Nat) => (sumsL o (mpS l p l.length)).length - i) (0) (Nat.zero_le _) (Sub.int rfl (by first | omega | rfl | (dsimp only; omega)) (Sub.cons rfl (Sub.cons rfl Sub.nil))) SubK.nil (SupG.val (SupG.val (SupG.val SupG.nil))) SupH.nil (lkOk rfl) ?_
 intro i hI
 refine x6 (x6 ?_)
 refine x8 ?_
 refine R1 x4 rfl (R1 x4 rfl (R1 (xb7 Tryz.underlying77) rfl (R2 xd7 rfl rfl (x7 (by kernel_rfl) (x3 ?_)))))
 refine xc5 rfl (fun h87 => ?_) (fun h87 => ?_)
 ·
  refine xa5 (x3 (x6 (xb3 (x6 ?_))))
  refine xc9 mixed ?_
  refine R1 x4 rfl (R1 x4 rfl (R2 (xb6 sl77 (i) (by omega) (gD (l := (sumsL o (mpS l p l.length))) (n := i) (d := sm0) (by omega))) rfl rfl (R1 (xh4 fo84_0 (At.f 0 rfl rfl) rfl) rfl (R1 (xb8 ti3) rfl (R1 x4 rfl (R1 x4 rfl (R2 (xb6 sl80 (i) (by omega) (gD (l := (sumsL o (mpS l p l.length))) (n := i) (d := sm0) (by omega))) rfl rfl ?_)))))))
  refine R1 (xh4 fo85_0 (At.f 0 rfl rfl) rfl) rfl (R1 (xb8 ti3) rfl (R2 xg8 rfl rfl (R1 x4 rfl (RGon (decide_eq_false (by exact fun h => h rfl)) rfl x4 rfl ⟨rfl, trivial⟩ trivial trivial (RGon (decide_eq_false (by exact fun h => h rfl)) rfl x4 rfl ⟨rfl, trivial⟩ trivial trivial (RGon (decide_eq_false (by exact fun h => h rfl)) rfl (xb6 sl77 (i) (by omega) (gD (l := (sumsL o (mpS l p l.length))) (n := i) (d := sm0) (by omega))) rfl ⟨rfl, rfl, trivial⟩ trivial trivial (RGon (decide_eq_false (by exact fun h => h rfl)) rfl (xh4 fo84_1 (At.f 1 rfl rfl) rfl) rfl ⟨rfl, trivial⟩ trivial trivial ?_)))))))
  refine RGon (decide_eq_false (by exact fun h => h rfl)) rfl (xb8 ti3) rfl ⟨rfl, trivial⟩ trivial trivial (RGon (decide_eq_false (by exact fun h => h rfl)) rfl x4 rfl ⟨rfl, trivial⟩ trivial trivial (RGon (decide_eq_false (by exact fun h => h rfl)) rfl x4 rfl ⟨rfl, trivial⟩ trivial trivial (RGon (decide_eq_false (by exact fun h => h rfl)) rfl (xb6 sl80 (i) (by omega) (gD (l := (sumsL o (mpS l p l.length))) (n := i) (d := sm0) (by omega))) rfl ⟨rfl, rfl, trivial⟩ trivial trivial (RGon (decide_eq_false (by exact fun h => h rfl)) rfl (xh4 fo85_1 (At.f 1 rfl rfl) rfl) rfl ⟨rfl, trivial⟩ trivial trivial (RGon (decide_eq_false (by exact fun h => h rfl)) rfl (xb8 ti3) rfl ⟨rfl, trivial⟩ trivial trivial (RGon (decide_eq_false (by exact fun h => h rfl)) rfl xg8 rfl ⟨rfl, rfl, trivial⟩ trivial trivial (R2 (xc0 (decide_eq_false (by exact fun h => h rfl))) rfl rfl ?_)))))))
  refine xd1 (by kernel_rfl) (x3 (C_bF rfl (decide_eq_false (by exact fun h => h rfl)) (xa5 (xc8 (x3 ?_)))))
  refine x8 ?_
  refine R1 x4 rfl (R2 (xc2 (wr64 (by omega) (by omega))) rfl rfl (R1 x5 rfl (x7 (by kernel_rfl) ?_)))
  exact xc6 (i + 1) ⟨(by omega), (by omega)⟩ (Sub.int rfl (by first | omega | rfl | (dsimp only; omega)) (Sub.cons rfl (Sub.cons rfl Sub.nil))) SubK.nil (SupG.val (SupG.val (SupG.val SupG.nil))) SupH.nil (lkOk rfl)
 ·
  refine xd8 (xc1 (xc1 (xe3 (x3 (x6 ?_)))))
  refine x8 ?_
  refine R1 x5 rfl (x7 (by kernel_rfl) (x3 (xa2 ?_)))
  exact xa9 Plain.mk' rfl rfl Le.refl
theorem c_SplitRuns (l : List Deal) (ms us : List Int) (hd : ∀ d ∈ l, d.share.dig) :
    Ct Tryz.prog 3 [tL 7 true tDeal l, tIs ms, tIs us] (tB true) := by
  refine Ct.intro Tryz.func3 rfl Tryz.ntmps3 rfl ?_
  intro w F
  refine C_len (s := 0) rfl (fun hl0 => ?_)
  refine C_len (s := 1) rfl (fun hl1 => ?_)
  refine x6 ?_
  refine x8 ?_
  refine R1 x5 rfl (x7 (by kernel_rfl) (x3 (x6 (x6 ?_))))
  refine x8 ?_
  refine R1 x4 rfl (R3 (xa0 (c_large24 l 16 4) fi6 rfl) rfl rfl rfl (R1 x4 rfl ?_))
  refine RGcase (t := 20) rfl (fun h134 => ?_) (fun h134 => ?_)
  ·
    refine RGoff h134 rfl rfl (RGoff h134 rfl rfl (RGoff h134 rfl rfl (R2 (xb2 h134) rfl rfl (x7 (by kernel_rfl) (x3 (C_bT rfl rfl (x6 ?_)))))))
    refine x8 ?_
    refine R0 (xa0 c_awake fi7 rfl)  (R1 x5 rfl (x7 (by kernel_rfl) (x3 (xa2 (xa3 ?_)))))
    exact xa9 Plain.mk' rfl rfl Le.refl
  ·
    have hl := large_len h134
    refine RGon h134 rfl x4 rfl ⟨rfl, trivial⟩ trivial trivial (RGon h134 rfl (xb7 Tryz.underlying23) rfl ⟨rfl, trivial⟩ trivial trivial (RGon h134 rfl xf2 rfl ⟨rfl, rfl, trivial⟩ trivial trivial (R2 (xc0 h134) rfl rfl (x7 (by kernel_rfl) (x3 ?_)))))
    refine xc5 rfl (fun h134_2 => ?_) (fun h134_2 => ?_)
    ·
      refine x6 ?_
      refine x8 ?_
      refine R0 (xa0 c_awake fi7 rfl)  (R1 x5 rfl (x7 (by kernel_rfl) (x3 (xa2 (xa3 ?_)))))
      exact xa9 Plain.mk' rfl rfl Le.refl
    ·
      refine xa5 (x3 (x6 ?_))
      refine x8 ?_
      refine R1 x4 rfl (R1 (xa0 (c_SNew l hd) fi8 rfl) rfl (R1 x4 rfl (R1 (xa8 rfl) rfl (R1 (xa8 rfl) rfl (RE (xc4 (k := 7) (n := 3) (agg := true) zr27.1 zr27.2 rfl) trivial trivial ⟨rfl, trivial⟩ (RE (xa6 (es := 3) (agg := true) (0) ti27 rfl rfl rfl) ⟨rfl, rfl, trivial⟩ ⟨rfl, trivial⟩ trivial (R1 x5 rfl ?_)))))))
      refine x7 (by kernel_rfl) (x3 (x6 ?_))
      refine x8 ?_
      refine R1 x4 rfl (R1 (xa0 (c_plain l hl) fi10 rfl) rfl (R1 (xa0 (c_R24New l hd) fi9 rfl) rfl (R1 x4 rfl (R1 (xa8 rfl) rfl (R1 (xa8 rfl) rfl (RE (xc4 (k := 9) (n := 3) (agg := true) zr31.1 zr31.2 rfl) trivial trivial ⟨rfl, trivial⟩ (RE (xa6 (es := 3) (agg := true) (0) ti31 rfl rfl rfl) ⟨rfl, rfl, trivial⟩ ⟨rfl, trivial⟩ trivial ?_)))))))
      refine R1 x5 rfl (x7 (by kernel_rfl) (x3 (x6 (x6 ?_))))
      refine x8 ?_
      refine R1 x4 rfl (R1 x4 rfl (R2 xg8 rfl rfl (R1 x4 rfl (RGon (decide_eq_false (by exact fun h => h rfl)) rfl x4 rfl ⟨rfl, trivial⟩ trivial trivial (RGon (decide_eq_false (by exact fun h => h rfl)) rfl xg8 rfl ⟨rfl, rfl, trivial⟩ trivial trivial (R2 (xc0 (decide_eq_false (by exact fun h => h rfl))) rfl rfl (x7 (by kernel_rfl) ?_)))))))
      refine x3 ?_
      refine xc5 rfl (fun h139_2 => ?_) (fun h139_2 => ?_)
      ·
        refine x6 ?_
        refine x8 ?_
        refine R1 x4 rfl (R1 x4 rfl (R2 d_eql rfl rfl (R1 x4 rfl (RGon (decide_eq_true (by rfl)) rfl (xa0 c_awake fi7 rfl) rfl trivial trivial trivial (R2 (xb2 (decide_eq_true (by rfl))) rfl rfl (R1 x5 rfl (x7 (by kernel_rfl) ?_)))))))
        refine x3 (xa2 (xa3 ?_))
        exact xa9 Plain.mk' rfl rfl Le.refl
      ·
        have hv : validL l = true := by
          cases h : validL l with
          | true => rfl
          | false => rw [h] at h139_2; exact absurd (by decide) h139_2
        refine xa5 (x3 (x6 (x6 ?_)))
        refine x8 ?_
        refine R1 x5 rfl (x7 (by kernel_rfl) (x3 (xb3 ?_)))
        refine xe0 (fun (fm : (Nat) × (Int) × (List Int) × (List Int)) => (fun (i : Nat) (o : Int) (b : List Int) (p : List Int) => i ≤ ms.length ∧ rightL l o b p = true) fm.1 fm.2.1 fm.2.2.1 fm.2.2.2) (fun (fm : (Nat) × (Int) × (List Int) × (List Int)) => (fun (i : Nat) (o : Int) (b : List Int) (p : List Int) => upd (upd (upd (upd (upd (upd (fun _ => none) 0 (some (.val (tL 7 true tDeal l)))) 1 (some (.val (tIs ms)))) 2 (some (.val (tIs us)))) 7 (some (.own (.ptr 7 0)))) 9 (some (.own (.ptr 9 0)))) 11 (some (.val (tI i)))) fm.1 fm.2.1 fm.2.2.1 fm.2.2.2) (fun (fm : (Nat) × (Int) × (List Int) × (List Int)) => (fun (i : Nat) (o : Int) (b : List Int) (p : List Int) => upd (upd (fun _ => none) 7 (some (⟨27, 3, true, [.val (tState o b p)]⟩))) 9 (some (⟨31, 3, true, [.val (tState o b p)]⟩))) fm.1 fm.2.1 fm.2.2.1 fm.2.2.2) (nm [7, 9]) (fun (fm : (Nat) × (Int) × (List Int) × (List Int)) => (fun (i : Nat) (o : Int) (b : List Int) (p : List Int) => ms.length - i) fm.1 fm.2.1 fm.2.2.1 fm.2.2.2) ((0, 0, (List.replicate l.length (0 : Int)), (List.replicate l.length (0 : Int)))) (by dsimp only; exact ⟨Nat.zero_le _, (fullI0 hv).r⟩) (Sub.int rfl (by first | omega | rfl | (dsimp only; omega)) (Sub.cons rfl (Sub.cons rfl (Sub.cons rfl (Sub.cons rfl (Sub.cons rfl Sub.nil)))))) ((SubK.consI rfl (ImpK.of (by rw [if_pos hv]; rfl))) ((SubK.consI rfl (ImpK.of (by rw [if_pos hv]; rfl))) SubK.nil)) (SupG.val (SupG.own rfl (SupG.own rfl (SupG.val (SupG.val (SupG.val SupG.nil)))))) (SupH.cons rfl (supJL rfl) (SupH.cons rfl (supJL rfl) SupH.nil)) (lkOk rfl) ?_
        intro fm hI
        obtain ⟨i, o, b, p⟩ := fm
        replace hI : i ≤ ms.length ∧ rightL l o b p = true := hI
        show wc _ _ _ _ (upd (upd (upd (upd (upd (upd (fun _ => none) 0 (some (.val (tL 7 true tDeal l)))) 1 (some (.val (tIs ms)))) 2 (some (.val (tIs us)))) 7 (some (.own (.ptr 7 0)))) 9 (some (.own (.ptr 9 0)))) 11 (some (.val (tI i)))) (upd (upd (fun _ => none) 7 (some (⟨27, 3, true, [.val (tState o b p)]⟩))) 9 (some (⟨31, 3, true, [.val (tState o b p)]⟩))) _
        obtain ⟨hi, hr⟩ := hI
        refine x6 (x6 ?_)
        refine x8 ?_
        refine R1 x4 rfl (R1 x4 rfl (R1 (xb7 Tryz.underlying23) rfl (R2 xd7 rfl rfl (R1 x4 rfl ?_))))
        refine RGcaseD (t := 54) rfl (fun h142 => ?_) (fun h142 => ?_)
        ·
          refine RGon (decide_eq_true h142) rfl x4 rfl ⟨rfl, trivial⟩ trivial trivial (RGon (decide_eq_true h142) rfl x4 rfl ⟨rfl, trivial⟩ trivial trivial (RGon (decide_eq_true h142) rfl (xb7 Tryz.underlying23) rfl ⟨rfl, trivial⟩ trivial trivial (RGon (decide_eq_true h142) rfl xd7 rfl ⟨rfl, rfl, trivial⟩ trivial trivial (R2 (xb2 (decide_eq_true h142)) rfl rfl (x7 (by kernel_rfl) (x3 ?_))))))
          refine xc5 rfl (fun h142_2 => ?_) (fun h142_2 => ?_)
          ·
            refine xa5 (x3 (x6 (xb3 (x6 ?_))))
            refine xc9 mixed ?_
            refine R1 x4 rfl (RE (xa7 (0) ti27 rfl rfl) ⟨rfl, trivial⟩ ⟨rfl, trivial⟩ trivial (R1 x4 rfl (R1 x4 rfl (R2 (xb6 sl23 (i) (by omega) (gZ (by omega))) rfl rfl (R1 (xb8 ti3) rfl (R1 x4 rfl (R1 x4 rfl ?_)))))))
            refine R2 (xb6 sl23 (i) (by omega) (gZ (by omega))) rfl rfl (R1 (xb8 ti3) rfl (RE (xa0 (c_Step l o b p _ _ hd) fi11 rfl) ⟨rfl, rfl, rfl, rfl, trivial⟩ trivial trivial (R1 x4 rfl (R1 (xa8 rfl) rfl (R1 (xa8 rfl) rfl (R1 (xa8 rfl) rfl (RE (xc4 (k := 12) (n := 3) (agg := true) zr27.1 zr27.2 rfl) trivial trivial ⟨rfl, trivial⟩ ?_)))))))
            refine RE (xa6 (es := 3) (agg := true) (0) ti27 rfl rfl rfl) ⟨rfl, rfl, trivial⟩ ⟨rfl, trivial⟩ trivial (R1 x5 rfl (R1 x5 rfl (xd1 (by kernel_rfl) (x3 (x6 ?_)))))
            refine xc9 mixed ?_
            refine R1 x4 rfl (R1 (xa0 (c_plain l hl) fi10 rfl) rfl (RE (xa7 (0) ti31 rfl rfl) ⟨rfl, trivial⟩ ⟨rfl, trivial⟩ trivial (R1 x4 rfl (R1 x4 rfl (R2 (xb6 sl23 (i) (by omega) (gZ (by omega))) rfl rfl (R1 (xb8 ti3) rfl (R1 x4 rfl ?_)))))))
            refine R1 x4 rfl (R2 (xb6 sl23 (i) (by omega) (gZ (by omega))) rfl rfl (R1 (xb8 ti3) rfl (RE (xa0 (c_R24Step l o b p _ _ hd) fi12 rfl) ⟨rfl, rfl, rfl, rfl, trivial⟩ trivial trivial (R1 x4 rfl (R1 (xa8 rfl) rfl (R1 (xa8 rfl) rfl (R1 (xa8 rfl) rfl ?_)))))))
            refine RE (xc4 (k := 15) (n := 3) (agg := true) zr31.1 zr31.2 rfl) trivial trivial ⟨rfl, trivial⟩ (RE (xa6 (es := 3) (agg := true) (0) ti31 rfl rfl rfl) ⟨rfl, rfl, trivial⟩ ⟨rfl, trivial⟩ trivial (R1 x5 rfl (R1 x5 rfl (xd1 (by kernel_rfl) (x3 (x6 (x6 ?_)))))))
            refine xc9 mixed ?_
            refine R1 x4 rfl (R1 x4 rfl (R2 xg8 rfl rfl (R1 x4 rfl (RGon (decide_eq_false (by exact fun h => h rfl)) rfl x4 rfl ⟨rfl, trivial⟩ trivial trivial (RGon (decide_eq_false (by exact fun h => h rfl)) rfl x4 rfl ⟨rfl, trivial⟩ trivial trivial (RGon (decide_eq_false (by exact fun h => h rfl)) rfl (xa0 (c_sameII _) fi13 rfl) rfl ⟨rfl, rfl, trivial⟩ trivial trivial (RGon (decide_eq_false (by exact fun h => h rfl)) rfl xe2 rfl ⟨rfl, trivial⟩ trivial trivial ?_)))))))
            refine R2 (xc0 (decide_eq_false (by exact fun h => h rfl))) rfl rfl (R1 x4 rfl (RGon rfl rfl (xa7 (0) ti27 rfl rfl) rfl ⟨rfl, trivial⟩ ⟨rfl, trivial⟩ trivial (RGon rfl rfl (xa0 (c_state24 _ _ _) fi15 rfl) rfl ⟨rfl, trivial⟩ trivial trivial (RGon rfl rfl (xa7 (0) ti31 rfl rfl) rfl ⟨rfl, trivial⟩ ⟨rfl, trivial⟩ trivial (RGon rfl rfl (xa0 (c_sameST _ _ _) fi14 rfl) rfl ⟨rfl, rfl, trivial⟩ trivial trivial (RGon rfl rfl xe2 rfl ⟨rfl, trivial⟩ trivial trivial (R2 (xc0 rfl) rfl rfl ?_)))))))
            refine xd1 (by kernel_rfl) (x3 (C_bF rfl rfl (xa5 (x3 (x6 ?_)))))
            refine x8 ?_
            refine R1 x4 rfl (R2 d_eql rfl rfl (x7 (by kernel_rfl) (x3 ?_)))
            refine xc5 rfl (fun h148 => ?_) (fun h148 => ?_)
            ·
              refine xc9 mixed ?_
              refine RE (xa7 (0) ti27 rfl rfl) ⟨rfl, trivial⟩ ⟨rfl, trivial⟩ trivial (RE (xa7 (0) ti31 rfl rfl) ⟨rfl, trivial⟩ ⟨rfl, trivial⟩ trivial (RE (xa6 (es := 3) (agg := true) (0) ti27 rfl rfl rfl) ⟨rfl, rfl, trivial⟩ ⟨rfl, trivial⟩ trivial (RE (xa6 (es := 3) (agg := true) (0) ti31 rfl rfl rfl) ⟨rfl, rfl, trivial⟩ ⟨rfl, trivial⟩ trivial (xd1 (by kernel_rfl) (xc8 (x3 ?_))))))
              refine x8 ?_
              refine R1 x4 rfl (R2 (xc2 (wr64 (by omega) (by omega))) rfl rfl (R1 x5 rfl (x7 (by kernel_rfl) ?_)))
              exact xc6 ((i + 1, stepO l o b p (ms.getD i 0) (us.getD i 0), stepB l o b p (ms.getD i 0) (us.getD i 0), stepP l o b p (ms.getD i 0) (us.getD i 0))) ⟨(by dsimp only; exact ⟨by omega, (StepI.of hd h148).right⟩), (by dsimp only; omega)⟩ (Sub.int rfl (by first | omega | rfl | (dsimp only; omega)) (Sub.cons rfl (Sub.cons rfl (Sub.cons rfl (Sub.cons rfl (Sub.cons rfl Sub.nil)))))) ((SubK.consI rfl ImpK.refl) ((SubK.consI rfl ImpK.refl) SubK.nil)) (SupG.val (SupG.own rfl (SupG.own rfl (SupG.val (SupG.val (SupG.val SupG.nil)))))) (SupH.cons rfl (supJL rfl) (SupH.cons rfl (supJL rfl) SupH.nil)) (lkOk rfl)
            ·
              refine xa5 (xc8 (x3 ?_))
              refine x8 ?_
              refine R1 x4 rfl (R2 (xc2 (wr64 (by omega) (by omega))) rfl rfl (R1 x5 rfl (x7 (by kernel_rfl) ?_)))
              exact xc6 ((i + 1, o, b, p)) ⟨(by dsimp only; exact ⟨by omega, hr⟩), (by dsimp only; omega)⟩ (Sub.int rfl (by first | omega | rfl | (dsimp only; omega)) (Sub.cons rfl (Sub.cons rfl (Sub.cons rfl (Sub.cons rfl (Sub.cons rfl Sub.nil)))))) ((SubK.consI rfl ImpK.refl) ((SubK.consI rfl ImpK.refl) SubK.nil)) (SupG.val (SupG.own rfl (SupG.own rfl (SupG.val (SupG.val (SupG.val SupG.nil)))))) (SupH.cons rfl (supJL rfl) (SupH.cons rfl (supJL rfl) SupH.nil)) (lkOk rfl)
          ·
            refine xd8 (xc1 (xc1 (xe3 (x3 (x6 ?_)))))
            refine x8 ?_
            refine R1 x4 rfl (RE (xa7 (0) ti27 rfl rfl) ⟨rfl, trivial⟩ ⟨rfl, trivial⟩ trivial (R2 (xa0 (c_sums24 l o b p hd hr hl) fi16 rfl) rfl rfl (R1 x4 rfl (RGon rfl rfl (xa0 c_awake fi7 rfl) rfl trivial trivial trivial (R2 (xb2 rfl) rfl rfl (R1 x5 rfl (x7 (by kernel_rfl) ?_)))))))
            refine x3 (xa2 ?_)
            exact xa9 Plain.mk' rfl rfl Le.refl
        ·
          refine RGoff (decide_eq_false h142) rfl rfl (RGoff (decide_eq_false h142) rfl rfl (RGoff (decide_eq_false h142) rfl rfl (RGoff (decide_eq_false h142) rfl rfl (R2 (xc0 (decide_eq_false h142)) rfl rfl (x7 (by kernel_rfl) (x3 (C_bF rfl rfl ?_)))))))
          refine xd8 (xc1 (xc1 (xe3 (x3 (x6 ?_)))))
          refine x8 ?_
          refine R1 x4 rfl (RE (xa7 (0) ti27 rfl rfl) ⟨rfl, trivial⟩ ⟨rfl, trivial⟩ trivial (R2 (xa0 (c_sums24 l o b p hd hr hl) fi16 rfl) rfl rfl (R1 x4 rfl (RGon rfl rfl (xa0 c_awake fi7 rfl) rfl trivial trivial trivial (R2 (xb2 rfl) rfl rfl (R1 x5 rfl (x7 (by kernel_rfl) ?_)))))))
          refine x3 (xa2 ?_)
          exact xa9 Plain.mk' rfl rfl Le.refl
end An.S
