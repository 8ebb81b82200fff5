/- Part 6 of a proof: W29, O24, LawB, W30, Shares2, Seq, W31. -/
import Derived.Test.YtakdpdkifnkaeaaGreatChecked
import Derived.Test.YtakdpdkifnkaeaaGreatS5
/- Law 24: SplitMerge: two amounts one behind the other are divided as their sum. -/
namespace An.S
open Go Go.Proofs An
set_option maxHeartbeats 2000000
set_option maxRecDepth 100000
theorem ti36 : TyI Tryz.prog 36 3 true := ⟨by kernel_rfl, by kernel_rfl⟩
theorem fo36_0 : fieldO Tryz.prog 36 0 = some 0 := by kernel_rfl
theorem fo36_1 : fieldO Tryz.prog 36 1 = some 1 := by kernel_rfl
theorem fo36_2 : fieldO Tryz.prog 36 2 = some 2 := by kernel_rfl
theorem fi16 : FnI Tryz.prog 16 := ⟨_, Tryz.func16, by kernel_rfl, rfl⟩
theorem fi17 : FnI Tryz.prog 17 := ⟨_, Tryz.func17, by kernel_rfl, rfl⟩
theorem fi18 : FnI Tryz.prog 18 := ⟨_, Tryz.func18, by kernel_rfl, rfl⟩
theorem zr36 : (Tryz.prog.info? 36).bind (·.zero) = some (.agg #[.int .i64 0, .slice none 0 0, .slice none 0 0]) ∧ ∀ F w, (tS [⟨1, false, (tE (.int .i64 0))⟩, ⟨1, false, (tIs [])⟩, ⟨1, false, (tIs [])⟩]).p F w (.agg #[.int .i64 0, .slice none 0 0, .slice none 0 0]) := ⟨by kernel_rfl, fun _ _ => ⟨_, rfl, rfl, ⟨fun _ => rfl, rfl⟩, ⟨fun _ => rfl, ⟨none, 0, rfl, Nat.le_refl _, by decide, .inl rfl⟩⟩, ⟨fun _ => rfl, ⟨none, 0, rfl, Nat.le_refl _, by decide, .inl rfl⟩⟩, trivial⟩⟩
theorem bu36 : BuI Tryz.prog 36 (fun i => [(0, 1), (1, 1), (2, 1)][i]?) (.agg #[.int .i64 0, .slice none 0 0, .slice none 0 0]) := BuI.struct Tryz.underlying36 (by kernel_rfl) (by kernel_rfl)
/-- Two runs one behind the other, and one run with the sum. -/
theorem run_merge {l : List Deal} {n : Nat} : ∀ (is : List Nat) (s u v : Dv), is.Nodup → (∀ i ∈ is, i < n) → s.fit n → u.fit n → v.fit n → v.r = s.r + u.r →
    (∀ i ∈ is, u.b.getD i 0 = (dvRun l s is).1.b.getD i 0 ∧ u.p.getD i 0 = (dvRun l s is).1.p.getD i 0) → (∀ i ∈ is, v.b.getD i 0 = s.b.getD i 0 ∧ v.p.getD i 0 = s.p.getD i 0) →
    (dvRun l s is).2 = true → (dvRun l u is).2 = true → (dvRun l v is).2 = true →
    (dvRun l v is).1.r = (dvRun l s is).1.r + (dvRun l u is).1.r ∧ (∀ j ∈ is, (dvRun l v is).1.b.getD j 0 = (dvRun l u is).1.b.getD j 0 ∧ (dvRun l v is).1.p.getD j 0 = (dvRun l u is).1.p.getD j 0 ∧ (dvRun l v is).1.q.getD (j + 1) 0 = (dvRun l s is).1.q.getD (j + 1) 0 + (dvRun l u is).1.q.getD (j + 1) 0)
  | [], s, u, v, _, _, _, _, _, hr, _, _, _, _, _ => ⟨hr, fun j hj => by simp at hj⟩
  | i :: r, s, u, v, hN, hi, hs, hu, hv, hr, hb, hc, t1, t2, t3 => by
    obtain ⟨hN1, hN2⟩ := List.nodup_cons.1 hN
    have hin := hi i (by simp)
    have s1 := hs.b; have s2 := hs.p; have s3 := hs.q; have u1 := hu.b; have u2 := hu.p; have u3 := hu.q; have v1 := hv.b; have v2 := hv.p; have v3 := hv.q
    rw [dvRun_cons s] at t1 hb ⊢
    rw [dvRun_cons u] at t2 ⊢
    rw [dvRun_cons v] at t3 ⊢
    split at t1
    · rename_i w1
      split at t2
      · rename_i w2
        split at t3
        · rename_i w3
          rw [if_pos w1] at hb
          rw [if_pos w1, if_pos w2, if_pos w3]
          obtain ⟨k1, k2, k3⟩ := run_keep (l := l) r (dv1 l s i) i hN1
          have e1 : (dv1 l s i).b.getD i 0 = s.n i := gset_same (by omega)
          have e2 : (dv1 l s i).p.getD i 0 = s.pd l i := gset_same (by omega)
          obtain ⟨b1, b2⟩ := hb i (by simp)
          rw [k1, e1] at b1
          rw [k2, e2] at b2
          obtain ⟨c1, c2⟩ := hc i (by simp)
          have hn : v.n i = u.n i := by rw [Dv.n, Dv.n, b1, c1, hr, Dv.n]; omega
          have hpd : v.pd l i = u.pd l i := by rw [Dv.pd, Dv.pd, hn]
          have hvr : (dv1 l v i).r = (dv1 l s i).r + (dv1 l u i).r := by
            simp only [dv1]; rw [hpd, b2, c2, hr]; omega
          obtain ⟨g1, g2⟩ := run_merge r (dv1 l s i) (dv1 l u i) (dv1 l v i) hN2 (fun j hj => hi j (by simp [hj])) hs.next hu.next hv.next hvr (fun j hj => by
            have hji : j ≠ i := fun e => hN1 (e ▸ hj)
            obtain ⟨d1, d2⟩ := hb j (by simp [hj])
            exact ⟨Eq.trans (gset_ne hji) d1, Eq.trans (gset_ne hji) d2⟩) (fun j hj => by
            have hji : j ≠ i := fun e => hN1 (e ▸ hj)
            obtain ⟨d1, d2⟩ := hc j (by simp [hj])
            exact ⟨(gset_ne hji).trans (d1.trans (gset_ne hji).symm), (gset_ne hji).trans (d2.trans (gset_ne hji).symm)⟩) t1 t2 t3
          refine ⟨g1, fun j hj => ?_⟩
          rcases List.mem_cons.1 hj with rfl | hj
          · obtain ⟨m1, m2, m3⟩ := run_keep (l := l) r (dv1 l u j) j hN1
            obtain ⟨n1, n2, n3⟩ := run_keep (l := l) r (dv1 l v j) j hN1
            rw [k3, m1, m2, m3, n1, n2, n3]
            have f1 : (dv1 l u j).b.getD j 0 = u.n j := gset_same (by omega)
            have f2 : (dv1 l u j).p.getD j 0 = u.pd l j := gset_same (by omega)
            have f3 : (dv1 l u j).q.getD (j + 1) 0 = u.pd l j - u.p.getD j 0 := gset_same (by omega)
            have x1 : (dv1 l v j).b.getD j 0 = v.n j := gset_same (by omega)
            have x2 : (dv1 l v j).p.getD j 0 = v.pd l j := gset_same (by omega)
            have x3 : (dv1 l v j).q.getD (j + 1) 0 = v.pd l j - v.p.getD j 0 := gset_same (by omega)
            have y3 : (dv1 l s j).q.getD (j + 1) 0 = s.pd l j - s.p.getD j 0 := gset_same (by omega)
            rw [f1, f2, f3, x1, x2, x3, y3]
            exact ⟨hn, hpd, by rw [hpd, b2, c2]; omega⟩
          · exact g2 j hj
        · cases t3
      · cases t2
    · cases t1
theorem step_merge {l : List Deal} {o : Int} {b p : List Int} {m a c : Int} (hd : ∀ d ∈ l, d.share.dig) (h1 : stepE l o b p m a = 0) (h2 : stepE l (stepO l o b p m a) (stepB l o b p m a) (stepP l o b p m a) m c = 0) (h3 : stepE l o b p m (a + c) = 0) :
    stepO l (stepO l o b p m a) (stepB l o b p m a) (stepP l o b p m a) m c = stepO l o b p m (a + c) ∧ stepB l (stepO l o b p m a) (stepB l o b p m a) (stepP l o b p m a) m c = stepB l o b p m (a + c) ∧
    stepP l (stepO l o b p m a) (stepB l o b p m a) (stepP l o b p m a) m c = stepP l o b p m (a + c) ∧ ∀ i, (stepQ l o b p m a).getD i 0 + (stepQ l (stepO l o b p m a) (stepB l o b p m a) (stepP l o b p m a) m c).getD i 0 = (stepQ l o b p m (a + c)).getD i 0 := by
  have s := StepI.of hd h1
  have v := StepI.of hd h3
  have hf := s.fit
  have hf0 := s.fit0
  have u := StepI.of hd h2
  rw [s.eo, s.eb, s.ep] at u ⊢
  have hu := u.fit0
  have c0 := run_merge (l := l) (apl l m) ⟨b, p, List.replicate (l.length + 1) 0, a⟩ ⟨(dvAll l m b p a).1.b, (dvAll l m b p a).1.p, List.replicate (l.length + 1) 0, c⟩ ⟨b, p, List.replicate (l.length + 1) 0, a + c⟩ apl_nodup apl_mem hf0 hu v.fit0 rfl
    (fun i _ => ⟨rfl, rfl⟩) (fun i _ => ⟨rfl, rfl⟩) s.all u.all v.all
  obtain ⟨c1, c2⟩ := c0
  have c1 : (dvAll l m b p (a + c)).1.r = (dvAll l m b p a).1.r + (dvAll l m (dvAll l m b p a).1.b (dvAll l m b p a).1.p c).1.r := c1
  have kp := fun j (hj : j ∉ apl l m) => run_keep (l := l) (apl l m) ⟨b, p, List.replicate (l.length + 1) 0, a⟩ j hj
  have ku := fun j (hj : j ∉ apl l m) => run_keep (l := l) (apl l m) ⟨(dvAll l m b p a).1.b, (dvAll l m b p a).1.p, List.replicate (l.length + 1) 0, c⟩ j hj
  have kv := fun j (hj : j ∉ apl l m) => run_keep (l := l) (apl l m) ⟨b, p, List.replicate (l.length + 1) 0, a + c⟩ j hj
  refine ⟨?_, ?_, ?_, fun i => ?_⟩
  · rw [u.eo, v.eo, c1]; omega
  · rw [u.eb, v.eb]
    refine ext_getD (u.fit.b.trans v.fit.b.symm) fun j _ => ?_
    by_cases hj : j ∈ apl l m
    · exact (c2 j hj).1.symm
    · exact (ku j hj).1.trans ((kp j hj).1.trans (kv j hj).1.symm)
  · rw [u.ep, v.ep]
    refine ext_getD (u.fit.p.trans v.fit.p.symm) fun j _ => ?_
    by_cases hj : j ∈ apl l m
    · exact (c2 j hj).2.1.symm
    · exact (ku j hj).2.1.trans ((kp j hj).2.1.trans (kv j hj).2.1.symm)
  · rw [s.eq, u.eq, v.eq, getD_set0 (by rw [hf.q]; omega), getD_set0 (by rw [u.fit.q]; omega), getD_set0 (by rw [v.fit.q]; omega)]
    by_cases h0 : i = 0
    · rw [if_pos h0, if_pos h0, if_pos h0, c1]
    · rw [if_neg h0, if_neg h0, if_neg h0]
      obtain ⟨j, rfl⟩ : ∃ j, i = j + 1 := ⟨i - 1, by omega⟩
      by_cases hj : j ∈ apl l m
      · exact (c2 j hj).2.2.symm
      · have e1 : (dvAll l m b p a).1.q.getD (j + 1) 0 = (List.replicate (l.length + 1) (0 : Int)).getD (j + 1) 0 := (kp j hj).2.2
        have e2 : (dvAll l m (dvAll l m b p a).1.b (dvAll l m b p a).1.p c).1.q.getD (j + 1) 0 = (List.replicate (l.length + 1) (0 : Int)).getD (j + 1) 0 := (ku j hj).2.2
        have e3 : (dvAll l m b p (a + c)).1.q.getD (j + 1) 0 = (List.replicate (l.length + 1) (0 : Int)).getD (j + 1) 0 := (kv j hj).2.2
        rw [e1, e2, e3, grep0]; rfl
theorem c_small (n : Int) :
    Ct Tryz.prog 16 [tI n] (tB (wIn n)) := by
  refine Ct.intro Tryz.func16 rfl Tryz.ntmps16 rfl ?_
  intro w F
  refine C_seq ?_
  refine C_reg ?_
  refine R1 d_assign rfl ?_
  refine R_nil (by kernel_rfl) ?_
  refine K_then ?_
  refine C_seq ?_
  refine C_reg ?_
  refine R1 d_move rfl ?_
  refine R2 d_geq rfl rfl ?_
  refine R1 d_move rfl ?_
  refine RGcaseD (t := 5) rfl (fun h13 => ?_) (fun h13 => ?_)
  ·
    refine RGon (decide_eq_true h13) rfl d_move rfl ⟨rfl, trivial⟩ trivial trivial ?_
    refine RGon (decide_eq_true h13) rfl d_leq rfl ⟨rfl, rfl, trivial⟩ trivial trivial ?_
    refine R2 (d_pickT (decide_eq_true h13)) rfl rfl ?_
    refine R1 d_assign rfl ?_
    refine R_nil (by kernel_rfl) ?_
    refine K_then ?_
    refine C_ret ?_
    exact E_ret1 Plain.mk' rfl rfl (Le.bool (by simp [wIn, *]))
  ·
    refine RGoff (decide_eq_false h13) rfl rfl ?_
    refine RGoff (decide_eq_false h13) rfl rfl ?_
    refine R2 (d_pickF (decide_eq_false h13)) rfl rfl ?_
    refine R1 d_assign rfl ?_
    refine R_nil (by kernel_rfl) ?_
    refine K_then ?_
    refine C_ret ?_
    exact E_ret1 Plain.mk' rfl rfl (Le.bool (by simp [wIn, *]))
theorem c_state (o : Int) (b p : List Int) :
    Ct Tryz.prog 18 [tState o b p] (tState o b p) := by
  refine Ct.intro Tryz.func18 rfl Tryz.ntmps18 rfl ?_
  intro w F
  refine C_seq ?_
  refine C_reg ?_
  refine RE (d_box (k := 1) ti25 rfl) ⟨rfl, trivial⟩ trivial ⟨rfl, trivial⟩ ?_
  refine RE (d_alloc (k := 2) (n := 3) (agg := true) zr36.1 zr36.2 rfl) trivial trivial ⟨rfl, trivial⟩ ?_
  refine R_nil (by kernel_rfl) ?_
  refine K_then ?_
  refine C_seq ?_
  refine C_reg ?_
  refine R1 (d_fieldO fo25_0 rfl) rfl ?_
  refine R_loadF (0) ti3 rfl rfl rfl (At.g 0 rfl rfl) rfl ?_
  refine R1 (d_fieldO fo25_1 rfl) rfl ?_
  refine R_loadF (0) ti23 rfl rfl rfl (At.g 1 rfl rfl) rfl ?_
  refine R1 (d_fieldO fo25_2 rfl) rfl ?_
  refine R_loadF (0) ti23 rfl rfl rfl (At.g 2 rfl rfl) rfl ?_
  refine R3 (d_build (r := tS [⟨1, false, tI o⟩, ⟨1, false, tIs b⟩, ⟨1, false, tIs p⟩]) (ts := [(0, tI o), (1, tIs b), (2, tIs p)]) bu36 zr36.2 ⟨_, rfl⟩ rfl ⟨_, _, _, _, rfl, Up.f (fs := [⟨1, false, (tE (.int .i64 0))⟩, ⟨1, false, (tIs [])⟩, ⟨1, false, (tIs [])⟩]) (f := ⟨1, false, (tE (.int .i64 0))⟩) (fs' := [⟨1, false, tI o⟩, ⟨1, false, (tIs [])⟩, ⟨1, false, (tIs [])⟩]) 0 rfl rfl rfl, inferInstance, ⟨_, _, _, _, rfl, Up.f (fs := [⟨1, false, tI o⟩, ⟨1, false, (tIs [])⟩, ⟨1, false, (tIs [])⟩]) (f := ⟨1, false, (tIs [])⟩) (fs' := [⟨1, false, tI o⟩, ⟨1, false, tIs b⟩, ⟨1, false, (tIs [])⟩]) 1 rfl rfl rfl, inferInstance, ⟨_, _, _, _, rfl, Up.f (fs := [⟨1, false, tI o⟩, ⟨1, false, tIs b⟩, ⟨1, false, (tIs [])⟩]) (f := ⟨1, false, (tIs [])⟩) (fs' := [⟨1, false, tI o⟩, ⟨1, false, tIs b⟩, ⟨1, false, tIs p⟩]) 2 rfl rfl rfl, inferInstance, Le.refl⟩⟩⟩) rfl rfl rfl ?_
  refine RE (d_store (es := 3) (agg := true) (0) ti36 rfl rfl rfl) ⟨rfl, rfl, trivial⟩ ⟨rfl, trivial⟩ trivial ?_
  refine R_nil (by kernel_rfl) ?_
  refine K_then ?_
  refine C_ret ?_
  exact E_retC Plain.mk' rfl ⟨_, _, _, _, _, rfl, rfl, ti36, Le.refl⟩
theorem c_same24 (o o2 : Int) (b p b2 p2 : List Int) :
    Ct Tryz.prog 17 [tState o b p, tState o2 b2 p2] (tB (decide (o = o2 ∧ b = b2 ∧ p = p2))) := by
  refine Ct.intro Tryz.func17 rfl Tryz.ntmps17 rfl ?_
  intro w F
  refine C_seq ?_
  refine C_reg ?_
  refine RE (d_box (k := 2) ti36 rfl) ⟨rfl, trivial⟩ trivial ⟨rfl, trivial⟩ ?_
  refine RE (d_box (k := 3) ti36 rfl) ⟨rfl, trivial⟩ trivial ⟨rfl, trivial⟩ ?_
  refine R1 d_assign rfl ?_
  refine R_nil (by kernel_rfl) ?_
  refine K_then ?_
  refine C_seq ?_
  refine C_reg ?_
  refine R1 (d_fieldO fo36_0 rfl) rfl ?_
  refine R_loadF (0) ti3 rfl rfl rfl (At.g 0 rfl rfl) rfl ?_
  refine R1 (d_fieldO fo36_0 rfl) rfl ?_
  refine R_loadF (0) ti3 rfl rfl rfl (At.g 0 rfl rfl) rfl ?_
  refine R2 d_eql rfl rfl ?_
  refine R1 d_move rfl ?_
  refine RGcaseD (t := 10) rfl (fun h67 => ?_) (fun h67 => ?_)
  ·
    refine RGon (decide_eq_true h67) rfl (d_fieldO fo36_1 rfl) rfl ⟨rfl, trivial⟩ trivial trivial ?_
    refine RG_loadF (decide_eq_true h67) rfl rfl (0) ti23 rfl rfl rfl (At.g 1 rfl rfl) rfl ?_
    refine RGon (decide_eq_true h67) rfl (d_fieldO fo36_1 rfl) rfl ⟨rfl, trivial⟩ trivial trivial ?_
    refine RG_loadF (decide_eq_true h67) rfl rfl (0) ti23 rfl rfl rfl (At.g 1 rfl rfl) rfl ?_
    refine RGon (decide_eq_true h67) rfl (d_call (c_SameInts _ _) fi14 rfl) rfl ⟨rfl, rfl, trivial⟩ trivial trivial ?_
    refine R2 (d_pickT (decide_eq_true h67)) rfl rfl ?_
    refine R1 d_move rfl ?_
    refine RGcaseD (t := 17) rfl (fun h67_2 => ?_) (fun h67_2 => ?_)
    ·
      refine RGon (decide_eq_true h67_2) rfl (d_fieldO fo36_2 rfl) rfl ⟨rfl, trivial⟩ trivial trivial ?_
      refine RG_loadF (decide_eq_true h67_2) rfl rfl (0) ti23 rfl rfl rfl (At.g 2 rfl rfl) rfl ?_
      refine RGon (decide_eq_true h67_2) rfl (d_fieldO fo36_2 rfl) rfl ⟨rfl, trivial⟩ trivial trivial ?_
      refine RG_loadF (decide_eq_true h67_2) rfl rfl (0) ti23 rfl rfl rfl (At.g 2 rfl rfl) rfl ?_
      refine RGon (decide_eq_true h67_2) rfl (d_call (c_SameInts _ _) fi14 rfl) rfl ⟨rfl, rfl, trivial⟩ trivial trivial ?_
      refine R2 (d_pickT (decide_eq_true h67_2)) rfl rfl ?_
      refine R1 d_assign rfl ?_
      refine R_nil (by kernel_rfl) ?_
      refine K_then ?_
      refine C_ret ?_
      exact E_ret1 Plain.mk' rfl rfl (Le.bool (by simp [*]))
    ·
      refine RGoff (decide_eq_false h67_2) rfl rfl ?_
      refine RGoff (decide_eq_false h67_2) rfl rfl ?_
      refine RGoff (decide_eq_false h67_2) rfl rfl ?_
      refine RGoff (decide_eq_false h67_2) rfl rfl ?_
      refine RGoff (decide_eq_false h67_2) rfl rfl ?_
      refine R2 (d_pickF (decide_eq_false h67_2)) rfl rfl ?_
      refine R1 d_assign rfl ?_
      refine R_nil (by kernel_rfl) ?_
      refine K_then ?_
      refine C_ret ?_
      exact E_ret1 Plain.mk' rfl rfl (Le.bool (by simp [*]))
  ·
    refine RGoff (decide_eq_false h67) rfl rfl ?_
    refine RGoff (decide_eq_false h67) rfl rfl ?_
    refine RGoff (decide_eq_false h67) rfl rfl ?_
    refine RGoff (decide_eq_false h67) rfl rfl ?_
    refine RGoff (decide_eq_false h67) rfl rfl ?_
    refine R2 (d_pickF (decide_eq_false h67)) rfl rfl ?_
    refine R1 d_move rfl ?_
    refine RGoff0 rfl rfl ?_
    refine RGoff0 rfl rfl ?_
    refine RGoff0 rfl rfl ?_
    refine RGoff0 rfl rfl ?_
    refine RGoff0 rfl rfl ?_
    refine R2 (d_pickF rfl) rfl rfl ?_
    refine R1 d_assign rfl ?_
    refine R_nil (by kernel_rfl) ?_
    refine K_then ?_
    refine C_ret ?_
    exact E_ret1 Plain.mk' rfl rfl (Le.bool (by simp [*]))
theorem c_sameS (o : Int) (b p : List Int) : Ct Tryz.prog 17 [tState o b p, tState o b p] (tB true) := by
  have h := c_same24 o o b p b p
  rw [decide_eq_true ⟨rfl, rfl, rfl⟩] at h; exact h
theorem c_sameT2 {o o2 : Int} {b p b2 p2 : List Int} (h : o = o2 ∧ b = b2 ∧ p = p2) : Ct Tryz.prog 17 [tState o b p, tState o2 b2 p2] (tB true) := by
  obtain ⟨rfl, rfl, rfl⟩ := h
  exact c_sameS _ _ _
theorem c_SplitMerge (l : List Deal) (o : Int) (b p : List Int) (m a c : Int) (hd : ∀ d ∈ l, d.share.dig) :
    Ct Tryz.prog 4 [tL 7 true tDeal l, tState o b p, tI m, tI a, tI c] (tB true) := by
  refine Ct.intro Tryz.func4 rfl Tryz.ntmps4 rfl ?_
  intro w F
  refine C_len (s := 0) rfl (fun hl0 => ?_)
  refine C_seq ?_
  refine C_reg ?_
  refine RE (d_box (k := 6) ti25 rfl) ⟨rfl, trivial⟩ trivial ⟨rfl, trivial⟩ ?_
  refine R1 d_assign rfl ?_
  refine R_nil (by kernel_rfl) ?_
  refine K_then ?_
  refine C_seq ?_
  refine C_seq ?_
  refine C_reg ?_
  refine R0 (d_call c_awake fi11 rfl)  ?_
  refine R1 d_not rfl ?_
  refine R_nil (by kernel_rfl) ?_
  refine K_then ?_
  refine C_bF rfl rfl ?_
  refine C_skip ?_
  refine K_then ?_
  refine C_seq ?_
  refine C_seq ?_
  refine C_reg ?_
  refine R1 d_move rfl ?_
  refine R3 (d_call (c_large24 l 16 4) fi12 rfl) rfl rfl rfl ?_
  refine R1 d_move rfl ?_
  refine RGcase (t := 31) rfl (fun h98 => ?_) (fun h98 => ?_)
  ·
    refine RGoff h98 rfl rfl ?_
    refine RGoff h98 rfl rfl ?_
    refine RGoff h98 rfl rfl ?_
    refine RGoff h98 rfl rfl ?_
    refine R2 (d_pickT h98) rfl rfl ?_
    refine R1 d_move rfl ?_
    refine RGoff1 rfl rfl ?_
    refine RGoff1 rfl rfl ?_
    refine RGoff1 rfl rfl ?_
    refine R2 (d_pickT rfl) rfl rfl ?_
    refine R1 d_move rfl ?_
    refine RGoff1 rfl rfl ?_
    refine RGoff1 rfl rfl ?_
    refine RGoff1 rfl rfl ?_
    refine R2 (d_pickT rfl) rfl rfl ?_
    refine R_nil (by kernel_rfl) ?_
    refine K_then ?_
    refine C_bT rfl rfl ?_
    refine C_seq ?_
    refine C_reg ?_
    refine R1 d_assign rfl ?_
    refine R_nil (by kernel_rfl) ?_
    refine K_then ?_
    refine C_ret ?_
    refine K_retT ?_
    exact E_ret1 Plain.mk' rfl rfl Le.refl
  ·
    refine RGon h98 rfl d_move rfl ⟨rfl, trivial⟩ trivial trivial ?_
    refine RGon h98 rfl (d_load (0) ti25 rfl rfl) rfl ⟨rfl, trivial⟩ ⟨rfl, trivial⟩ trivial ?_
    refine RGon h98 rfl (d_call (c_SRight l o b p hd) fi15 rfl) rfl ⟨rfl, rfl, trivial⟩ trivial trivial ?_
    refine RGon h98 rfl d_not rfl ⟨rfl, trivial⟩ trivial trivial ?_
    refine R2 (d_pickF h98) rfl rfl ?_
    refine R1 d_move rfl ?_
    refine RGcase (t := 37) rfl (fun h98_2 => ?_) (fun h98_2 => ?_)
    ·
      refine RGoff h98_2 rfl rfl ?_
      refine RGoff h98_2 rfl rfl ?_
      refine RGoff h98_2 rfl rfl ?_
      refine R2 (d_pickT h98_2) rfl rfl ?_
      refine R1 d_move rfl ?_
      refine RGoff1 rfl rfl ?_
      refine RGoff1 rfl rfl ?_
      refine RGoff1 rfl rfl ?_
      refine R2 (d_pickT rfl) rfl rfl ?_
      refine R_nil (by kernel_rfl) ?_
      refine K_then ?_
      refine C_bT rfl rfl ?_
      refine C_seq ?_
      refine C_reg ?_
      refine R1 d_assign rfl ?_
      refine R_nil (by kernel_rfl) ?_
      refine K_then ?_
      refine C_ret ?_
      refine K_retT ?_
      exact E_ret1 Plain.mk' rfl rfl Le.refl
    ·
      refine RGon h98_2 rfl d_move rfl ⟨rfl, trivial⟩ trivial trivial ?_
      refine RGon h98_2 rfl (d_call (c_small _) fi16 rfl) rfl ⟨rfl, trivial⟩ trivial trivial ?_
      refine RGon h98_2 rfl d_not rfl ⟨rfl, trivial⟩ trivial trivial ?_
      refine R2 (d_pickF h98_2) rfl rfl ?_
      refine R1 d_move rfl ?_
      refine RGcase (t := 42) rfl (fun h98_3 => ?_) (fun h98_3 => ?_)
      ·
        refine RGoff h98_3 rfl rfl ?_
        refine RGoff h98_3 rfl rfl ?_
        refine RGoff h98_3 rfl rfl ?_
        refine R2 (d_pickT h98_3) rfl rfl ?_
        refine R_nil (by kernel_rfl) ?_
        refine K_then ?_
        refine C_bT rfl rfl ?_
        refine C_seq ?_
        refine C_reg ?_
        refine R1 d_assign rfl ?_
        refine R_nil (by kernel_rfl) ?_
        refine K_then ?_
        refine C_ret ?_
        refine K_retT ?_
        exact E_ret1 Plain.mk' rfl rfl Le.refl
      ·
        have ha : wIn a = true := by rw [Bool.not_eq_false'] at h98_3; exact h98_3
        refine RGon h98_3 rfl d_move rfl ⟨rfl, trivial⟩ trivial trivial ?_
        refine RGon h98_3 rfl (d_call (c_small _) fi16 rfl) rfl ⟨rfl, trivial⟩ trivial trivial ?_
        refine RGon h98_3 rfl d_not rfl ⟨rfl, trivial⟩ trivial trivial ?_
        refine R2 (d_pickF h98_3) rfl rfl ?_
        refine R_nil (by kernel_rfl) ?_
        refine K_then ?_
        refine C_cond rfl (fun h98_4 => ?_) (fun h98_4 => ?_)
        ·
          refine C_seq ?_
          refine C_reg ?_
          refine R1 d_assign rfl ?_
          refine R_nil (by kernel_rfl) ?_
          refine K_then ?_
          refine C_ret ?_
          refine K_retT ?_
          exact E_ret1 Plain.mk' rfl rfl Le.refl
        ·
          have hc : wIn c = true := by rw [Bool.not_eq_false'] at h98_4; exact h98_4
          refine C_skip ?_
          refine K_then ?_
          refine C_seq ?_
          obtain ⟨a1, a2⟩ := wIn_iff.1 ha
          obtain ⟨c1, c2⟩ := wIn_iff.1 hc
          refine C_reg ?_
          refine R1 d_move rfl ?_
          refine RE (d_load (0) ti25 rfl rfl) ⟨rfl, trivial⟩ ⟨rfl, trivial⟩ trivial ?_
          refine R1 d_move rfl ?_
          refine R1 d_move rfl ?_
          refine RE (d_call (c_Step l o b p m a hd) fi13 rfl) ⟨rfl, rfl, rfl, rfl, trivial⟩ trivial trivial ?_
          refine R1 d_move rfl ?_
          refine R1 (d_extract rfl) rfl ?_
          refine R1 (d_extract rfl) rfl ?_
          refine R1 (d_extract rfl) rfl ?_
          refine RE (d_alloc (k := 11) (n := 3) (agg := true) zr25.1 zr25.2 rfl) trivial trivial ⟨rfl, trivial⟩ ?_
          refine RE (d_store (es := 3) (agg := true) (0) ti25 rfl rfl rfl) ⟨rfl, rfl, trivial⟩ ⟨rfl, trivial⟩ trivial ?_
          refine R1 d_assign rfl ?_
          refine R1 d_assign rfl ?_
          refine R_nil (by kernel_rfl) ?_
          refine K_then ?_
          refine C_seq ?_
          refine C_reg ?_
          refine R1 d_move rfl ?_
          refine RE (d_load (0) ti25 rfl rfl) ⟨rfl, trivial⟩ ⟨rfl, trivial⟩ trivial ?_
          refine R1 d_move rfl ?_
          refine R1 d_move rfl ?_
          refine RE (d_call (c_Step l _ _ _ m c hd) fi13 rfl) ⟨rfl, rfl, rfl, rfl, trivial⟩ trivial trivial ?_
          refine R1 d_move rfl ?_
          refine R1 (d_extract rfl) rfl ?_
          refine R1 (d_extract rfl) rfl ?_
          refine R1 (d_extract rfl) rfl ?_
          refine RE (d_alloc (k := 14) (n := 3) (agg := true) zr25.1 zr25.2 rfl) trivial trivial ⟨rfl, trivial⟩ ?_
          refine RE (d_store (es := 3) (agg := true) (0) ti25 rfl rfl rfl) ⟨rfl, rfl, trivial⟩ ⟨rfl, trivial⟩ trivial ?_
          refine R1 d_assign rfl ?_
          refine R1 d_assign rfl ?_
          refine R_nil (by kernel_rfl) ?_
          refine K_then ?_
          refine C_seq ?_
          refine C_reg ?_
          refine R1 d_move rfl ?_
          refine RE (d_load (0) ti25 rfl rfl) ⟨rfl, trivial⟩ ⟨rfl, trivial⟩ trivial ?_
          refine R1 d_move rfl ?_
          refine R1 d_move rfl ?_
          refine R1 d_move rfl ?_
          refine R2 (d_add (by first | exact wr64 (by omega) (by omega))) rfl rfl ?_
          refine RE (d_call (c_Step l o b p m (a + c) hd) fi13 rfl) ⟨rfl, rfl, rfl, rfl, trivial⟩ trivial trivial ?_
          refine R1 d_move rfl ?_
          refine R1 (d_extract rfl) rfl ?_
          refine R1 (d_extract rfl) rfl ?_
          refine R1 (d_extract rfl) rfl ?_
          refine RE (d_alloc (k := 17) (n := 3) (agg := true) zr25.1 zr25.2 rfl) trivial trivial ⟨rfl, trivial⟩ ?_
          refine RE (d_store (es := 3) (agg := true) (0) ti25 rfl rfl rfl) ⟨rfl, rfl, trivial⟩ ⟨rfl, trivial⟩ trivial ?_
          refine R1 d_assign rfl ?_
          refine R1 d_assign rfl ?_
          refine R_nil (by kernel_rfl) ?_
          refine K_then ?_
          refine C_seq ?_
          refine C_reg ?_
          refine R1 d_move rfl ?_
          refine RE (d_load (0) ti25 rfl rfl) ⟨rfl, trivial⟩ ⟨rfl, trivial⟩ trivial ?_
          refine R1 d_move rfl ?_
          refine R1 d_move rfl ?_
          refine RE (d_call (c_Step l o b p m c hd) fi13 rfl) ⟨rfl, rfl, rfl, rfl, trivial⟩ trivial trivial ?_
          refine R1 d_move rfl ?_
          refine R1 (d_extract rfl) rfl ?_
          refine R1 (d_extract rfl) rfl ?_
          refine R1 (d_extract rfl) rfl ?_
          refine RE (d_alloc (k := 20) (n := 3) (agg := true) zr25.1 zr25.2 rfl) trivial trivial ⟨rfl, trivial⟩ ?_
          refine RE (d_store (es := 3) (agg := true) (0) ti25 rfl rfl rfl) ⟨rfl, rfl, trivial⟩ ⟨rfl, trivial⟩ trivial ?_
          refine R1 d_assign rfl ?_
          refine R1 d_assign rfl ?_
          refine R_nil (by kernel_rfl) ?_
          refine K_then ?_
          refine C_seq ?_
          refine C_reg ?_
          refine R1 d_move rfl ?_
          refine RE (d_load (0) ti25 rfl rfl) ⟨rfl, trivial⟩ ⟨rfl, trivial⟩ trivial ?_
          refine R1 d_move rfl ?_
          refine R1 d_move rfl ?_
          refine RE (d_call (c_Step l _ _ _ m a hd) fi13 rfl) ⟨rfl, rfl, rfl, rfl, trivial⟩ trivial trivial ?_
          refine R1 d_move rfl ?_
          refine R1 (d_extract rfl) rfl ?_
          refine R1 (d_extract rfl) rfl ?_
          refine R1 (d_extract rfl) rfl ?_
          refine RE (d_alloc (k := 23) (n := 3) (agg := true) zr25.1 zr25.2 rfl) trivial trivial ⟨rfl, trivial⟩ ?_
          refine RE (d_store (es := 3) (agg := true) (0) ti25 rfl rfl rfl) ⟨rfl, rfl, trivial⟩ ⟨rfl, trivial⟩ trivial ?_
          refine R1 d_assign rfl ?_
          refine R1 d_assign rfl ?_
          refine R_nil (by kernel_rfl) ?_
          refine K_then ?_
          refine C_seq ?_
          refine C_seq ?_
          refine C_reg ?_
          refine R1 d_move rfl ?_
          refine R2 d_neq rfl rfl ?_
          refine R1 d_move rfl ?_
          refine RGcaseD (t := 96) rfl (fun h106 => ?_) (fun h106 => ?_)
          ·
            refine RGoff (decide_eq_true h106) rfl rfl ?_
            refine RGoff (decide_eq_true h106) rfl rfl ?_
            refine R2 (d_pickT (decide_eq_true h106)) rfl rfl ?_
            refine R1 d_move rfl ?_
            refine RGoff1 rfl rfl ?_
            refine RGoff1 rfl rfl ?_
            refine R2 (d_pickT rfl) rfl rfl ?_
            refine R1 d_move rfl ?_
            refine RGoff1 rfl rfl ?_
            refine RGoff1 rfl rfl ?_
            refine R2 (d_pickT rfl) rfl rfl ?_
            refine R1 d_move rfl ?_
            refine RGoff1 rfl rfl ?_
            refine RGoff1 rfl rfl ?_
            refine R2 (d_pickT rfl) rfl rfl ?_
            refine R_nil (by kernel_rfl) ?_
            refine K_then ?_
            refine C_bT rfl rfl ?_
            refine C_seq ?_
            refine C_reg ?_
            refine R1 d_assign rfl ?_
            refine R_nil (by kernel_rfl) ?_
            refine K_then ?_
            refine C_ret ?_
            refine K_retT ?_
            exact E_ret1 Plain.mk' rfl rfl Le.refl
          ·
            refine RGon (decide_eq_false h106) rfl d_move rfl ⟨rfl, trivial⟩ trivial trivial ?_
            refine RGon (decide_eq_false h106) rfl d_neq rfl ⟨rfl, rfl, trivial⟩ trivial trivial ?_
            refine R2 (d_pickF (decide_eq_false h106)) rfl rfl ?_
            refine R1 d_move rfl ?_
            refine RGcaseD (t := 100) rfl (fun h106_2 => ?_) (fun h106_2 => ?_)
            ·
              refine RGoff (decide_eq_true h106_2) rfl rfl ?_
              refine RGoff (decide_eq_true h106_2) rfl rfl ?_
              refine R2 (d_pickT (decide_eq_true h106_2)) rfl rfl ?_
              refine R1 d_move rfl ?_
              refine RGoff1 rfl rfl ?_
              refine RGoff1 rfl rfl ?_
              refine R2 (d_pickT rfl) rfl rfl ?_
              refine R1 d_move rfl ?_
              refine RGoff1 rfl rfl ?_
              refine RGoff1 rfl rfl ?_
              refine R2 (d_pickT rfl) rfl rfl ?_
              refine R_nil (by kernel_rfl) ?_
              refine K_then ?_
              refine C_bT rfl rfl ?_
              refine C_seq ?_
              refine C_reg ?_
              refine R1 d_assign rfl ?_
              refine R_nil (by kernel_rfl) ?_
              refine K_then ?_
              refine C_ret ?_
              refine K_retT ?_
              exact E_ret1 Plain.mk' rfl rfl Le.refl
            ·
              refine RGon (decide_eq_false h106_2) rfl d_move rfl ⟨rfl, trivial⟩ trivial trivial ?_
              refine RGon (decide_eq_false h106_2) rfl d_neq rfl ⟨rfl, rfl, trivial⟩ trivial trivial ?_
              refine R2 (d_pickF (decide_eq_false h106_2)) rfl rfl ?_
              refine R1 d_move rfl ?_
              refine RGcaseD (t := 104) rfl (fun h106_3 => ?_) (fun h106_3 => ?_)
              ·
                refine RGoff (decide_eq_true h106_3) rfl rfl ?_
                refine RGoff (decide_eq_true h106_3) rfl rfl ?_
                refine R2 (d_pickT (decide_eq_true h106_3)) rfl rfl ?_
                refine R1 d_move rfl ?_
                refine RGoff1 rfl rfl ?_
                refine RGoff1 rfl rfl ?_
                refine R2 (d_pickT rfl) rfl rfl ?_
                refine R_nil (by kernel_rfl) ?_
                refine K_then ?_
                refine C_bT rfl rfl ?_
                refine C_seq ?_
                refine C_reg ?_
                refine R1 d_assign rfl ?_
                refine R_nil (by kernel_rfl) ?_
                refine K_then ?_
                refine C_ret ?_
                refine K_retT ?_
                exact E_ret1 Plain.mk' rfl rfl Le.refl
              ·
                refine RGon (decide_eq_false h106_3) rfl d_move rfl ⟨rfl, trivial⟩ trivial trivial ?_
                refine RGon (decide_eq_false h106_3) rfl d_neq rfl ⟨rfl, rfl, trivial⟩ trivial trivial ?_
                refine R2 (d_pickF (decide_eq_false h106_3)) rfl rfl ?_
                refine R1 d_move rfl ?_
                refine RGcaseD (t := 108) rfl (fun h106_4 => ?_) (fun h106_4 => ?_)
                ·
                  refine RGoff (decide_eq_true h106_4) rfl rfl ?_
                  refine RGoff (decide_eq_true h106_4) rfl rfl ?_
                  refine R2 (d_pickT (decide_eq_true h106_4)) rfl rfl ?_
                  refine R_nil (by kernel_rfl) ?_
                  refine K_then ?_
                  refine C_bT rfl rfl ?_
                  refine C_seq ?_
                  refine C_reg ?_
                  refine R1 d_assign rfl ?_
                  refine R_nil (by kernel_rfl) ?_
                  refine K_then ?_
                  refine C_ret ?_
                  refine K_retT ?_
                  exact E_ret1 Plain.mk' rfl rfl Le.refl
                ·
                  refine RGon (decide_eq_false h106_4) rfl d_move rfl ⟨rfl, trivial⟩ trivial trivial ?_
                  refine RGon (decide_eq_false h106_4) rfl d_neq rfl ⟨rfl, rfl, trivial⟩ trivial trivial ?_
                  refine R2 (d_pickF (decide_eq_false h106_4)) rfl rfl ?_
                  refine R_nil (by kernel_rfl) ?_
                  refine K_then ?_
                  refine C_if rfl (fun h106_5 => ?_) (fun h106_5 => ?_)
                  ·
                    refine C_seq ?_
                    refine C_reg ?_
                    refine R1 d_assign rfl ?_
                    refine R_nil (by kernel_rfl) ?_
                    refine K_then ?_
                    refine C_ret ?_
                    refine K_retT ?_
                    exact E_ret1 Plain.mk' rfl rfl Le.refl
                  ·
                    refine C_skip ?_
                    refine K_then ?_
                    refine C_seq ?_
                    refine C_seq ?_
                    have e1 : stepE l o b p m a = 0 := by omega
                    have e2 : stepE l (stepO l o b p m a) (stepB l o b p m a) (stepP l o b p m a) m c = 0 := by omega
                    have e3 : stepE l o b p m (a + c) = 0 := by omega
                    have e4 : stepE l o b p m c = 0 := by omega
                    have e5 : stepE l (stepO l o b p m c) (stepB l o b p m c) (stepP l o b p m c) m a = 0 := by omega
                    obtain ⟨f1, f2, f3, f4⟩ := step_merge hd e1 e2 e3
                    have e3' : stepE l o b p m (c + a) = 0 := by rw [Int.add_comm]; exact e3
                    obtain ⟨g1, g2, g3, _⟩ := step_merge hd e4 e5 e3'
                    rw [Int.add_comm c a] at g1 g2 g3
                    have s1 := StepI.of hd e1
                    have s2 := StepI.of hd e2
                    have s3 := StepI.of hd e3
                    obtain ⟨k1, _, _⟩ := s1.len
                    obtain ⟨k2, _, _⟩ := s2.len
                    obtain ⟨k3, _, _⟩ := s3.len
                    have hl16 := validL_len s1.v
                    refine C_draw mixed ?_
                    refine RE (d_load (0) ti25 rfl rfl) ⟨rfl, trivial⟩ ⟨rfl, trivial⟩ trivial ?_
                    refine R1 (d_call (c_state _ _ _) fi18 rfl) rfl ?_
                    refine RE (d_load (0) ti25 rfl rfl) ⟨rfl, trivial⟩ ⟨rfl, trivial⟩ trivial ?_
                    refine R1 (d_call (c_state _ _ _) fi18 rfl) rfl ?_
                    refine R2 (d_call (c_sameT2 ⟨f1, f2, f3⟩) fi17 rfl) rfl rfl ?_
                    refine R1 d_not rfl ?_
                    refine R1 d_move rfl ?_
                    refine RGon rfl rfl (d_load (0) ti25 rfl rfl) rfl ⟨rfl, trivial⟩ ⟨rfl, trivial⟩ trivial ?_
                    refine RGon rfl rfl (d_call (c_state _ _ _) fi18 rfl) rfl ⟨rfl, trivial⟩ trivial trivial ?_
                    refine RGon rfl rfl (d_load (0) ti25 rfl rfl) rfl ⟨rfl, trivial⟩ ⟨rfl, trivial⟩ trivial ?_
                    refine RGon rfl rfl (d_call (c_state _ _ _) fi18 rfl) rfl ⟨rfl, trivial⟩ trivial trivial ?_
                    refine RGon rfl rfl (d_call (c_sameT2 ⟨g1, g2, g3⟩) fi17 rfl) rfl ⟨rfl, rfl, trivial⟩ trivial trivial ?_
                    refine RGon rfl rfl d_not rfl ⟨rfl, trivial⟩ trivial trivial ?_
                    refine R2 (d_pickF rfl) rfl rfl ?_
                    refine R1 d_move rfl ?_
                    refine RGon rfl rfl d_move rfl ⟨rfl, trivial⟩ trivial trivial ?_
                    refine RGon rfl rfl (d_len Tryz.underlying23) rfl ⟨rfl, trivial⟩ trivial trivial ?_
                    refine RGon rfl rfl d_move rfl ⟨rfl, trivial⟩ trivial trivial ?_
                    refine RGon rfl rfl (d_len Tryz.underlying22) rfl ⟨rfl, trivial⟩ trivial trivial ?_
                    refine RGon rfl rfl (d_add (by first | exact wr64 (by omega) (by omega))) rfl ⟨rfl, rfl, trivial⟩ trivial trivial ?_
                    refine RGon rfl rfl d_neq rfl ⟨rfl, rfl, trivial⟩ trivial trivial ?_
                    refine R2 (d_pickF rfl) rfl rfl ?_
                    refine R1 d_move rfl ?_
                    refine RGon (decide_eq_false (by omega)) rfl d_move rfl ⟨rfl, trivial⟩ trivial trivial ?_
                    refine RGon (decide_eq_false (by omega)) rfl (d_len Tryz.underlying23) rfl ⟨rfl, trivial⟩ trivial trivial ?_
                    refine RGon (decide_eq_false (by omega)) rfl d_move rfl ⟨rfl, trivial⟩ trivial trivial ?_
                    refine RGon (decide_eq_false (by omega)) rfl (d_len Tryz.underlying22) rfl ⟨rfl, trivial⟩ trivial trivial ?_
                    refine RGon (decide_eq_false (by omega)) rfl (d_add (by first | exact wr64 (by omega) (by omega))) rfl ⟨rfl, rfl, trivial⟩ trivial trivial ?_
                    refine RGon (decide_eq_false (by omega)) rfl d_neq rfl ⟨rfl, rfl, trivial⟩ trivial trivial ?_
                    refine R2 (d_pickF (decide_eq_false (by omega))) rfl rfl ?_
                    refine R1 d_move rfl ?_
                    refine RGon (decide_eq_false (by omega)) rfl d_move rfl ⟨rfl, trivial⟩ trivial trivial ?_
                    refine RGon (decide_eq_false (by omega)) rfl (d_len Tryz.underlying23) rfl ⟨rfl, trivial⟩ trivial trivial ?_
                    refine RGon (decide_eq_false (by omega)) rfl d_move rfl ⟨rfl, trivial⟩ trivial trivial ?_
                    refine RGon (decide_eq_false (by omega)) rfl (d_len Tryz.underlying22) rfl ⟨rfl, trivial⟩ trivial trivial ?_
                    refine RGon (decide_eq_false (by omega)) rfl (d_add (by first | exact wr64 (by omega) (by omega))) rfl ⟨rfl, rfl, trivial⟩ trivial trivial ?_
                    refine RGon (decide_eq_false (by omega)) rfl d_neq rfl ⟨rfl, rfl, trivial⟩ trivial trivial ?_
                    refine R2 (d_pickF (decide_eq_false (by omega))) rfl rfl ?_
                    refine R_end (by kernel_rfl) ?_
                    refine K_then ?_
                    refine C_bF rfl (decide_eq_false (by omega)) ?_
                    refine C_skip ?_
                    refine K_then ?_
                    refine C_seq ?_
                    refine C_seq ?_
                    refine C_reg ?_
                    refine R1 d_assign rfl ?_
                    refine R_nil (by kernel_rfl) ?_
                    refine K_then ?_
                    refine C_block ?_
                    refine C_loop (fun (i : Nat) => i ≤ (stepQ l o b p m (a + c)).length) (fun (i : Nat) => upd (upd (upd (upd (fun _ => none) 12 (some (.val (tIs (stepQ l o b p m a))))) 15 (some (.val (tIs (stepQ l (stepO l o b p m a) (stepB l o b p m a) (stepP l o b p m a) m c))))) 18 (some (.val (tIs (stepQ l o b p m (a + c)))))) 26 (some (.val (tI i)))) (fun (i : Nat) => fun _ => none) (nm []) (fun (i : Nat) => (stepQ l o b p m (a + c)).length - i) (0) (Nat.zero_le _) (Sub.int rfl (by first | omega | rfl | (dsimp only; omega)) (Sub.cons rfl (Sub.cons rfl (Sub.cons rfl Sub.nil)))) SubK.nil (SupG.val (SupG.val (SupG.val (SupG.val SupG.nil)))) SupH.nil (lkOk rfl) ?_
                    intro i hI
                    refine C_seq ?_
                    refine C_seq ?_
                    refine C_reg ?_
                    refine R1 d_move rfl ?_
                    refine R1 d_move rfl ?_
                    refine R1 (d_len Tryz.underlying23) rfl ?_
                    refine R2 d_lss rfl rfl ?_
                    refine R_nil (by kernel_rfl) ?_
                    refine K_then ?_
                    refine C_if rfl (fun h112 => ?_) (fun h112 => ?_)
                    ·
                      refine C_skip ?_
                      refine K_then ?_
                      refine C_seq ?_
                      refine C_block ?_
                      refine C_seq ?_
                      have q1 := StepI.qbd hd s1 i
                      have q2 := StepI.qbd hd s2 i
                      have q3 := f4 i
                      refine C_draw mixed ?_
                      refine R1 d_move rfl ?_
                      refine R1 d_move rfl ?_
                      refine R2 (d_indexP sl23 (i) (by omega) (gZ (by omega))) rfl rfl ?_
                      refine R1 (d_loadP ti3) rfl ?_
                      refine R1 d_move rfl ?_
                      refine R1 d_move rfl ?_
                      refine R2 (d_indexP sl23 (i) (by omega) (gZ (by omega))) rfl rfl ?_
                      refine R1 (d_loadP ti3) rfl ?_
                      refine R2 (d_add (by first | exact wr64 (by omega) (by omega))) rfl rfl ?_
                      refine R1 d_move rfl ?_
                      refine R1 d_move rfl ?_
                      refine R2 (d_indexP sl23 (i) (by omega) (gZ (by omega))) rfl rfl ?_
                      refine R1 (d_loadP ti3) rfl ?_
                      refine R2 d_neq rfl rfl ?_
                      refine R_end (by kernel_rfl) ?_
                      refine K_then ?_
                      refine C_bF rfl (decide_eq_false (by omega)) ?_
                      refine C_skip ?_
                      refine K_norB ?_
                      refine K_then ?_
                      refine C_reg ?_
                      refine R1 d_move rfl ?_
                      refine R2 (d_add (by first | exact wr64 (by omega) (by omega))) rfl rfl ?_
                      refine R1 d_assign rfl ?_
                      refine R_nil (by kernel_rfl) ?_
                      exact K_fam (i + 1) ⟨(by omega), (by omega)⟩ (Sub.int rfl (by first | omega | rfl | (dsimp only; omega)) (Sub.cons rfl (Sub.cons rfl (Sub.cons rfl Sub.nil)))) SubK.nil (SupG.val (SupG.val (SupG.val (SupG.val SupG.nil)))) SupH.nil (lkOk rfl)
                    ·
                      refine C_exit ?_
                      refine K_exT ?_
                      refine K_exT ?_
                      refine K_exB ?_
                      refine K_then ?_
                      refine C_seq ?_
                      refine C_reg ?_
                      refine R1 d_assign rfl ?_
                      refine R_nil (by kernel_rfl) ?_
                      refine K_then ?_
                      refine C_ret ?_
                      exact E_ret1 Plain.mk' rfl rfl Le.refl
end An.S

/- What the readers of law 24 read: deals, states, numbers. -/
namespace An.S
open Go Go.Proofs An
open Go.ChangeShapes Go.WideShapes Go.ChangeAt Go.RowKit
set_option maxRecDepth 100000
theorem own : ownKnob Tryz.prog.godebug = none := by kernel_rfl
theorem laidOut : laidOutB Tryz.prog = true := by kernel_rfl
theorem oBool : Opn Tryz.prog 4 1 false (fun b : Bool => tB b) (fun _ => True) := Opn.bool Tryz.underlying4 (by kernel_rfl)
theorem oInt : Opn Tryz.prog 3 1 false (fun n : Int => tI n) (fun n => IntKind.i64.min ≤ n ∧ n ≤ IntKind.i64.max) := Opn.int Tryz.underlying3 (by kernel_rfl)
theorem oU16 : Opn Tryz.prog 122 1 false (fun n : Nat => tE (.int .u16 n)) (fun n => n < 65536) := Opn.nat Tryz.underlying122 (by kernel_rfl) rfl rfl
theorem oLm : Opn Tryz.prog 46 1 false (fun l : List Nat => tLm l) (fun l => Dig 65536 l) := (Opn.slice Tryz.underlying46 (by kernel_rfl) oU16).as id (fun _ => rfl) (fun _ h => h)
theorem oInts : Opn Tryz.prog 23 1 false (fun l : List Int => tIs l) (fun l => ∀ x ∈ l, -9223372036854775808 ≤ x ∧ x ≤ 9223372036854775807) := (Opn.slice Tryz.underlying23 (by kernel_rfl) oInt).as id (fun _ => rfl) (fun _ h => h)
theorem oWh : Opn Tryz.prog 48 2 true (fun x : Wh => tWh x) (fun x => Dig 65536 x.l) :=
  (Opn.struct Tryz.underlying48 (by kernel_rfl) (by decide) (OpnF.cons oBool rfl rfl (OpnF.cons oLm rfl rfl OpnF.nil rfl) rfl)).as (fun x => ⟨x.1, x.2.1⟩) (fun _ => rfl) (fun _ h => h.2.1)
theorem oFr : Opn Tryz.prog 50 4 true (fun x : Fr => tFr x) (fun x => x.dig) :=
  (Opn.struct Tryz.underlying50 (by kernel_rfl) (by decide) (OpnF.cons oWh rfl rfl (OpnF.cons oWh rfl rfl OpnF.nil rfl) rfl)).as (fun x => ⟨x.1, x.2.1⟩) (fun _ => rfl) (fun _ h => ⟨h.1, h.2.1⟩)
theorem oDeal : Opn Tryz.prog 68 7 true (fun x : Deal => tDeal x) (fun x => x.share.dig) :=
  (Opn.struct Tryz.underlying68 (by kernel_rfl) (by decide) (OpnF.cons oInt rfl rfl (OpnF.cons oInt rfl rfl (OpnF.cons oFr rfl rfl (OpnF.cons oInt rfl rfl OpnF.nil rfl) rfl) rfl) rfl)).as (fun x => ⟨x.1, x.2.1, x.2.2.1, x.2.2.2.1⟩) (fun _ => rfl) (fun _ h => h.2.2.1)
theorem oDeals : Opn Tryz.prog 22 1 false (fun l : List Deal => tL 7 true tDeal l) (fun l => ∀ d ∈ l, d.share.dig) := Opn.slice Tryz.underlying22 (by kernel_rfl) oDeal
theorem oState : Opn Tryz.prog 25 3 true (fun x : Int × List Int × List Int => tState x.1 x.2.1 x.2.2) (fun _ => True) :=
  (Opn.struct Tryz.underlying25 (by kernel_rfl) (by decide) (OpnF.cons oInt rfl rfl (OpnF.cons oInts rfl rfl (OpnF.cons oInts rfl rfl OpnF.nil rfl) rfl) rfl)).as (fun x => (x.1, x.2.1, x.2.2.1)) (fun _ => rfl) (fun _ _ => trivial)
/-- What a contract says, as the frame of a statement wants it. -/
theorem walked {f : FuncId} {ts : List Ty} (h : Ct Tryz.prog f ts (tB true)) {vs : List Value} {W : World} (ha : Tup.all (Old W) W ts vs) : Calls Tryz.prog f vs.toArray W fun e W' => e = .returned (.bool true) ∧ Ext W W' :=
  (h (Old W) W vs ha).mono fun e W' ⟨v, h1, h2, h3⟩ => by
    have h3 : v = .bool true := h3
    subst h3; exact ⟨h1, h2⟩
end An.S

/- Layer 24: amounts that fit are not rejected. Plain data. -/
namespace An.S
open An Go
theorem take_diff {q : Rat} {b r : Int} (h0 : 0 ≤ q) (h1 : q ≤ 1) : (0 ≤ r → 0 ≤ take q (b + r) - take q b ∧ take q (b + r) - take q b ≤ r) ∧ (r ≤ 0 → r ≤ take q (b + r) - take q b ∧ take q (b + r) - take q b ≤ 0) := by
  have up : ∀ (x y : Int), 0 ≤ y → take q x ≤ take q (x + y) ∧ take q (x + y) ≤ take q x + y := fun x y hy => by
    have hy' : (0 : Rat) ≤ (y : Rat) := by exact_mod_cast hy
    have e : ((x + y : Int) : Rat) = (x : Rat) + (y : Rat) := by simp
    have k0 := Rat.mul_nonneg h0 hy'
    have k1 := Rat.mul_le_mul_of_nonneg_right h1 hy'
    simp only [take]
    rw [e]
    constructor
    · exact Rat.floor_monotone (by grind)
    · have h := Rat.floor_monotone (a := q * ((x : Rat) + (y : Rat))) (b := q * (x : Rat) + (y : Rat)) (by grind)
      rw [Rat.floor_add_intCast] at h
      exact h
  refine ⟨fun hr => ?_, fun hr => ?_⟩
  · have := up b r hr; omega
  · have := up (b + r) (-r) (by omega)
    rw [Int.add_neg_cancel_right] at this; omega
theorem run_full {l : List Deal} (hv : validL l = true) (hd : ∀ d ∈ l, d.share.dig) {A B : Int} (hAB : A + B ≤ 1099511627776) (hA : 0 ≤ A) : ∀ (is : List Nat) (s : Dv), is.Nodup → (∀ i ∈ is, i < l.length) → s.fit l.length → s.ok l l.length → -A ≤ s.r ∧ s.r ≤ A → (∀ i ∈ is, -B ≤ s.b.getD i 0 ∧ s.b.getD i 0 ≤ B) → (∀ j, j < l.length → -(A + B) ≤ s.b.getD j 0 ∧ s.b.getD j 0 ≤ A + B) →
    (dvRun l s is).2 = true ∧ (-A ≤ (dvRun l s is).1.r ∧ (dvRun l s is).1.r ≤ A) ∧ ∀ j, j < l.length → -(A + B) ≤ (dvRun l s is).1.b.getD j 0 ∧ (dvRun l s is).1.b.getD j 0 ≤ A + B
  | [], s, _, _, _, _, hr, _, hj => ⟨rfl, hr, hj⟩
  | i :: r, s, hN, hi, hf, ho, hr, hb, hj => by
    obtain ⟨hN1, hN2⟩ := List.nodup_cons.1 hN
    have hin := hi i (by simp)
    obtain ⟨b1, b2⟩ := hb i (by simp)
    have f1 := hf.b
    have hn : s.n i = s.b.getD i 0 + s.r := rfl
    have hw : wIn (s.n i) = true := by rw [wIn_iff, hn]; omega
    obtain ⟨q0, q1⟩ := shr_bd hv hd hin
    have hd' := take_diff (q := shr l i) (b := s.b.getD i 0) (r := s.r) q0 q1
    have hp : s.pd l i - s.p.getD i 0 = take (shr l i) (s.b.getD i 0 + s.r) - take (shr l i) (s.b.getD i 0) := by rw [Dv.pd, hn, (ho i hin).2]
    have hr' : -A ≤ (dv1 l s i).r ∧ (dv1 l s i).r ≤ A := by
      simp only [dv1]
      rw [hp]
      rcases Int.le_total 0 s.r with h | h
      · have := hd'.1 h; omega
      · have := hd'.2 h; omega
    rw [dvRun_cons, if_pos hw]
    refine run_full hv hd hAB hA r (dv1 l s i) hN2 (fun j hj => hi j (by simp [hj])) hf.next (ho.next hf hin hw) hr' (fun j hjr => ?_) (fun j hjl => ?_)
    · have hji : j ≠ i := fun e => hN1 (e ▸ hjr)
      have e : (dv1 l s i).b.getD j 0 = s.b.getD j 0 := gset_ne hji
      rw [e]; exact hb j (by simp [hjr])
    · by_cases hji : j = i
      · subst hji
        have e : (dv1 l s j).b.getD j 0 = s.n j := gset_same (by omega)
        rw [e, hn]; omega
      · have e : (dv1 l s i).b.getD j 0 = s.b.getD j 0 := gset_ne hji
        rw [e]; exact hj j hjl
theorem run_zero {l : List Deal} {n : Nat} : ∀ (is : List Nat) (s : Dv), (∀ i ∈ is, i < n) → s.fit n → s.ok l n → s.r = 0 → (∀ j, s.q.getD j 0 = 0) → (dvRun l s is).1.r = 0 ∧ ∀ j, (dvRun l s is).1.q.getD j 0 = 0
  | [], s, _, _, _, hr, hq => ⟨hr, hq⟩
  | i :: r, s, hi, hf, ho, hr, hq => by
    have hin := hi i (by simp)
    have hn : s.n i = s.b.getD i 0 := by rw [Dv.n, hr]; omega
    have hp : s.pd l i = s.p.getD i 0 := by rw [Dv.pd, hn, (ho i hin).2]
    have hw : wIn (s.n i) = true := by rw [hn]; exact (ho i hin).1
    rw [dvRun_cons, if_pos hw]
    refine run_zero r (dv1 l s i) (fun j hj => hi j (by simp [hj])) hf.next (ho.next hf hin hw) ?_ (fun j => ?_)
    · simp only [dv1]; rw [hp, hr]; omega
    · have f3 := hf.q
      by_cases hj : j = i + 1
      · subst hj
        have e : (dv1 l s i).q.getD (i + 1) 0 = s.pd l i - s.p.getD i 0 := gset_same (by omega)
        rw [e, hp]; omega
      · have e : (dv1 l s i).q.getD j 0 = s.q.getD j 0 := gset_ne hj
        rw [e]; exact hq j
/-- A state that has room for what is left. -/
structure FullI (l : List Deal) (left o : Int) (b p : List Int) : Prop where
  r : rightL l o b p = true
  l0 : 0 ≤ left
  l1 : left ≤ 1099511627776
  o : -(1099511627776 - left) ≤ o ∧ o ≤ 1099511627776 - left
  b : ∀ j, j < l.length → -(1099511627776 - left) ≤ b.getD j 0 ∧ b.getD j 0 ≤ 1099511627776 - left
theorem FullI.next {l : List Deal} {left o : Int} {b p : List Int} {m a z : Int} (hd : ∀ d ∈ l, d.share.dig) (s : FullI l left o b p) (m0 : 0 ≤ m) (m1 : m ≤ 1048576) (h0 : 0 ≤ z) (h1 : -z ≤ a) (h2 : a ≤ z) (h3 : z ≤ left) :
    stepE l o b p m a = 0 ∧ FullI l (left - z) (stepO l o b p m a) (stepB l o b p m a) (stepP l o b p m a) := by
  obtain ⟨v, lb, lp, wo, hok⟩ := right_parts hd s.r
  have := s.l0; have := s.l1; have ho := s.o
  obtain ⟨c1, c2, c3⟩ := run_full v hd (A := z) (B := 1099511627776 - left) (by omega) h0 (apl l m) ⟨b, p, List.replicate (l.length + 1) 0, a⟩ apl_nodup apl_mem (An.fit0 lb lp) (fun i hi => hok i hi) ⟨h1, h2⟩
    (fun i hi => s.b i (apl_mem i hi)) (fun j hj => by have := s.b j hj; simp only; omega)
  have c2 : -z ≤ (dvAll l m b p a).1.r ∧ (dvAll l m b p a).1.r ≤ z := c2
  have c3 : ∀ j, j < l.length → -(z + (1099511627776 - left)) ≤ (dvAll l m b p a).1.b.getD j 0 ∧ (dvAll l m b p a).1.b.getD j 0 ≤ z + (1099511627776 - left) := c3
  have hE : stepE l o b p m a = 0 := StepI.mk' s.r m0 m1 (by rw [wIn_iff]; omega) c1 (by rw [wIn_iff]; omega)
  have t := StepI.of hd hE
  refine ⟨hE, t.right, by omega, by omega, by rw [t.eo]; omega, fun j hj => by have := c3 j hj; rw [t.eb]; omega⟩
theorem getD_Z {l : List Deal} {j : Nat} : (List.replicate l.length (0 : Int)).getD j 0 = 0 := grep0
theorem take_zero {q : Rat} : take q 0 = 0 := by
  have : take q 0 = (0 : Rat).floor := by simp [take]
  rw [this]; rfl
theorem right0 {l : List Deal} (hv : validL l = true) : rightL l 0 (List.replicate l.length 0) (List.replicate l.length 0) = true :=
  right_mk hv (by simp) (by simp) (by decide) fun j _ => by simp only [getD_Z, take_zero]; decide
theorem fullI0 {l : List Deal} (hv : validL l = true) : FullI l 1099511627776 0 (List.replicate l.length 0) (List.replicate l.length 0) :=
  ⟨right0 hv, by decide, by decide, by decide, fun j _ => by rw [getD_Z]; decide⟩
/-- An amount of 0 gives parts of 0. -/
theorem full_zero {l : List Deal} {o : Int} {b p : List Int} (hd : ∀ d ∈ l, d.share.dig) (h : rightL l o b p = true) (hE : stepE l o b p 0 0 = 0) : (stepQ l o b p 0 0).length = l.length + 1 ∧ ∀ i, (stepQ l o b p 0 0).getD i 0 = 0 := by
  have t := StepI.of hd hE
  obtain ⟨c1, c2⟩ := run_zero (l := l) (apl l 0) ⟨b, p, List.replicate (l.length + 1) 0, 0⟩ apl_mem t.fit0 t.ok rfl (fun j => grep0)
  have _ := h
  refine ⟨t.len.1, fun i => ?_⟩
  have c1 : (dvAll l 0 b p 0).1.r = 0 := c1
  have c2 : ∀ j, (dvAll l 0 b p 0).1.q.getD j 0 = 0 := c2
  rw [t.eq, getD_set0 (by rw [t.fit.q]; omega), c1]
  split
  · rfl
  · exact c2 i
theorem right_zero {l : List Deal} {o : Int} {b p : List Int} (hd : ∀ d ∈ l, d.share.dig) {left : Int} (s : FullI l left o b p) : stepE l o b p 0 0 = 0 :=
  (s.next hd (m := 0) (a := 0) (z := 0) (by decide) (by decide) (by decide) (by decide) (by decide) s.l0).1
theorem sz_of {x : Int} (h1 : -9223372036854775808 ≤ x) (h2 : x ≤ 9223372036854775807) (h3 : ¬ max x (IntKind.i64.wrap (0 - x)) < 0) : -max x (IntKind.i64.wrap (0 - x)) ≤ x ∧ x ≤ max x (IntKind.i64.wrap (0 - x)) := by
  rw [IntKind.wrap_i64] at *; omega
end An.S

/- Law 24: SplitFull: an amount that fits is not rejected. -/
namespace An.S
open Go Go.Proofs An
set_option maxHeartbeats 2000000
set_option maxRecDepth 100000
theorem c_SNewV (l : List Deal) (hd : ∀ d ∈ l, d.share.dig) (hv : validL l = true) : Ct Tryz.prog 20 [tL 7 true tDeal l] (tT [tState 0 (List.replicate l.length (0 : Int)) (List.replicate l.length (0 : Int)), tI 0]) := by
  have h := c_SNew l hd
  rw [if_pos hv, if_pos hv] at h; exact h
theorem i64_at {l : List Int} (h : ∀ x ∈ l, -9223372036854775808 ≤ x ∧ x ≤ 9223372036854775807) (i : Nat) : -9223372036854775808 ≤ l.getD i 0 ∧ l.getD i 0 ≤ 9223372036854775807 := by
  rw [List.getD_eq_getElem?_getD]
  cases he : l[i]? with
  | none => exact ⟨by decide, by decide⟩
  | some x => exact h x (List.mem_of_getElem? he)
theorem c_SplitFull (l : List Deal) (ms us : List Int) (hd : ∀ d ∈ l, d.share.dig) (hu : ∀ x ∈ us, -9223372036854775808 ≤ x ∧ x ≤ 9223372036854775807) :
    Ct Tryz.prog 5 [tL 7 true tDeal l, tIs ms, tIs us] (tB true) := by
  refine Ct.intro Tryz.func5 rfl Tryz.ntmps5 rfl ?_
  intro w F
  refine C_len (s := 0) rfl (fun hl0 => ?_)
  refine C_len (s := 1) rfl (fun hl1 => ?_)
  refine C_seq ?_
  refine C_reg ?_
  refine R1 d_assign rfl ?_
  refine R_nil (by kernel_rfl) ?_
  refine K_then ?_
  refine C_seq ?_
  refine C_seq ?_
  refine C_reg ?_
  refine R0 (d_call c_awake fi11 rfl)  ?_
  refine R1 d_not rfl ?_
  refine R_nil (by kernel_rfl) ?_
  refine K_then ?_
  refine C_bF rfl rfl ?_
  refine C_skip ?_
  refine K_then ?_
  refine C_seq ?_
  refine C_seq ?_
  refine C_reg ?_
  refine R1 d_move rfl ?_
  refine R3 (d_call (c_large24 l 16 4) fi12 rfl) rfl rfl rfl ?_
  refine R1 d_move rfl ?_
  refine RGcase (t := 23) rfl (fun h168 => ?_) (fun h168 => ?_)
  ·
    refine RGoff h168 rfl rfl ?_
    refine RGoff h168 rfl rfl ?_
    refine RGoff h168 rfl rfl ?_
    refine R2 (d_pickT h168) rfl rfl ?_
    refine R1 d_move rfl ?_
    refine RGoff1 rfl rfl ?_
    refine RGoff1 rfl rfl ?_
    refine RGoff1 rfl rfl ?_
    refine R2 (d_pickT rfl) rfl rfl ?_
    refine R_nil (by kernel_rfl) ?_
    refine K_then ?_
    refine C_bT rfl rfl ?_
    refine C_seq ?_
    refine C_reg ?_
    refine R1 d_assign rfl ?_
    refine R_nil (by kernel_rfl) ?_
    refine K_then ?_
    refine C_ret ?_
    refine K_retT ?_
    exact E_ret1 Plain.mk' rfl rfl Le.refl
  ·
    refine RGon h168 rfl d_move rfl ⟨rfl, trivial⟩ trivial trivial ?_
    refine RGon h168 rfl (d_len Tryz.underlying23) rfl ⟨rfl, trivial⟩ trivial trivial ?_
    refine RGon h168 rfl d_gtr rfl ⟨rfl, rfl, trivial⟩ trivial trivial ?_
    refine R2 (d_pickF h168) rfl rfl ?_
    refine R1 d_move rfl ?_
    refine RGcaseD (t := 28) rfl (fun h168_2 => ?_) (fun h168_2 => ?_)
    ·
      refine RGoff (decide_eq_true h168_2) rfl rfl ?_
      refine RGoff (decide_eq_true h168_2) rfl rfl ?_
      refine RGoff (decide_eq_true h168_2) rfl rfl ?_
      refine R2 (d_pickT (decide_eq_true h168_2)) rfl rfl ?_
      refine R_nil (by kernel_rfl) ?_
      refine K_then ?_
      refine C_bT rfl rfl ?_
      refine C_seq ?_
      refine C_reg ?_
      refine R1 d_assign rfl ?_
      refine R_nil (by kernel_rfl) ?_
      refine K_then ?_
      refine C_ret ?_
      refine K_retT ?_
      exact E_ret1 Plain.mk' rfl rfl Le.refl
    ·
      refine RGon (decide_eq_false h168_2) rfl d_move rfl ⟨rfl, trivial⟩ trivial trivial ?_
      refine RGon (decide_eq_false h168_2) rfl (d_call (c_SValid l hd) fi19 rfl) rfl ⟨rfl, trivial⟩ trivial trivial ?_
      refine RGon (decide_eq_false h168_2) rfl d_not rfl ⟨rfl, trivial⟩ trivial trivial ?_
      refine R2 (d_pickF (decide_eq_false h168_2)) rfl rfl ?_
      refine R_nil (by kernel_rfl) ?_
      refine K_then ?_
      refine C_cond rfl (fun h168_3 => ?_) (fun h168_3 => ?_)
      ·
        refine C_seq ?_
        refine C_reg ?_
        refine R1 d_assign rfl ?_
        refine R_nil (by kernel_rfl) ?_
        refine K_then ?_
        refine C_ret ?_
        refine K_retT ?_
        exact E_ret1 Plain.mk' rfl rfl Le.refl
      ·
        have hv : validL l = true := by rw [Bool.not_eq_false'] at h168_3; exact h168_3
        refine C_skip ?_
        refine K_then ?_
        refine C_seq ?_
        refine C_reg ?_
        refine R1 d_move rfl ?_
        refine R1 (d_call (c_SNewV l hd hv) fi20 rfl) rfl ?_
        refine R1 d_move rfl ?_
        refine R1 (d_extract rfl) rfl ?_
        refine R1 (d_extract rfl) rfl ?_
        refine RE (d_alloc (k := 7) (n := 3) (agg := true) zr25.1 zr25.2 rfl) trivial trivial ⟨rfl, trivial⟩ ?_
        refine RE (d_store (es := 3) (agg := true) (0) ti25 rfl rfl rfl) ⟨rfl, rfl, trivial⟩ ⟨rfl, trivial⟩ trivial ?_
        refine R1 d_assign rfl ?_
        refine R_nil (by kernel_rfl) ?_
        refine K_then ?_
        refine C_seq ?_
        refine C_reg ?_
        refine R1 d_assign rfl ?_
        refine R_nil (by kernel_rfl) ?_
        refine K_then ?_
        refine C_seq ?_
        refine C_seq ?_
        refine C_reg ?_
        refine R1 d_move rfl ?_
        refine R2 d_neq rfl rfl ?_
        refine R_nil (by kernel_rfl) ?_
        refine K_then ?_
        refine C_bF rfl (decide_eq_false (by omega)) ?_
        refine C_skip ?_
        refine K_then ?_
        refine C_seq ?_
        refine C_seq ?_
        refine C_reg ?_
        refine R1 d_assign rfl ?_
        refine R_nil (by kernel_rfl) ?_
        refine K_then ?_
        refine C_block ?_
        refine C_loop (fun (fm : (Nat) × (Int) × (Int) × (List Int) × (List Int)) => (fun (i : Nat) (left : Int) (o : Int) (b : List Int) (p : List Int) => i ≤ ms.length ∧ FullI l left o b p) fm.1 fm.2.1 fm.2.2.1 fm.2.2.2.1 fm.2.2.2.2) (fun (fm : (Nat) × (Int) × (Int) × (List Int) × (List Int)) => (fun (i : Nat) (left : Int) (o : Int) (b : List Int) (p : List Int) => upd (upd (upd (upd (upd (upd (fun _ => none) 0 (some (.val (tL 7 true tDeal l)))) 1 (some (.val (tIs ms)))) 2 (some (.val (tIs us)))) 7 (some (.own (.ptr 7 0)))) 9 (some (.val (tI left)))) 10 (some (.val (tI i)))) fm.1 fm.2.1 fm.2.2.1 fm.2.2.2.1 fm.2.2.2.2) (fun (fm : (Nat) × (Int) × (Int) × (List Int) × (List Int)) => (fun (i : Nat) (left : Int) (o : Int) (b : List Int) (p : List Int) => upd (fun _ => none) 7 (some (⟨25, 3, true, [.val (tState o b p)]⟩))) fm.1 fm.2.1 fm.2.2.1 fm.2.2.2.1 fm.2.2.2.2) (nm [7]) (fun (fm : (Nat) × (Int) × (Int) × (List Int) × (List Int)) => (fun (i : Nat) (left : Int) (o : Int) (b : List Int) (p : List Int) => ms.length - i) fm.1 fm.2.1 fm.2.2.1 fm.2.2.2.1 fm.2.2.2.2) ((0, 1099511627776, 0, (List.replicate l.length (0 : Int)), (List.replicate l.length (0 : Int)))) (by dsimp only; exact ⟨Nat.zero_le _, fullI0 hv⟩) (Sub.int rfl (by first | omega | rfl | (dsimp only; omega)) (Sub.int rfl (by first | omega | rfl | (dsimp only; omega)) (Sub.cons rfl (Sub.cons rfl (Sub.cons rfl (Sub.cons rfl Sub.nil)))))) (SubK.cons rfl SubK.nil) (SupG.val (SupG.val (SupG.own rfl (SupG.val (SupG.val (SupG.val SupG.nil)))))) (SupH.cons rfl (supJL rfl) SupH.nil) (lkOk rfl) ?_
        intro fm hI
        obtain ⟨i, left, o, b, p⟩ := fm
        replace hI : i ≤ ms.length ∧ FullI l left o b p := hI
        show wc _ _ _ _ (upd (upd (upd (upd (upd (upd (fun _ => none) 0 (some (.val (tL 7 true tDeal l)))) 1 (some (.val (tIs ms)))) 2 (some (.val (tIs us)))) 7 (some (.own (.ptr 7 0)))) 9 (some (.val (tI left)))) 10 (some (.val (tI i)))) (upd (fun _ => none) 7 (some (⟨25, 3, true, [.val (tState o b p)]⟩))) _
        obtain ⟨hi, hI2⟩ := hI
        have hl0' := hI2.l0
        have hl1' := hI2.l1
        refine C_seq ?_
        refine C_seq ?_
        refine C_reg ?_
        refine R1 d_move rfl ?_
        refine R1 d_move rfl ?_
        refine R1 (d_len Tryz.underlying23) rfl ?_
        refine R2 d_lss rfl rfl ?_
        refine R1 d_move rfl ?_
        refine RGcaseD (t := 44) rfl (fun h176 => ?_) (fun h176 => ?_)
        ·
          refine RGon (decide_eq_true h176) rfl d_move rfl ⟨rfl, trivial⟩ trivial trivial ?_
          refine RGon (decide_eq_true h176) rfl d_move rfl ⟨rfl, trivial⟩ trivial trivial ?_
          refine RGon (decide_eq_true h176) rfl (d_len Tryz.underlying23) rfl ⟨rfl, trivial⟩ trivial trivial ?_
          refine RGon (decide_eq_true h176) rfl d_lss rfl ⟨rfl, rfl, trivial⟩ trivial trivial ?_
          refine R2 (d_pickT (decide_eq_true h176)) rfl rfl ?_
          refine R_nil (by kernel_rfl) ?_
          refine K_then ?_
          refine C_if rfl (fun h176_2 => ?_) (fun h176_2 => ?_)
          ·
            refine C_skip ?_
            refine K_then ?_
            refine C_seq ?_
            refine C_block ?_
            refine C_seq ?_
            obtain ⟨x1, x2⟩ := i64_at hu i
            refine C_draw mixed ?_
            refine R1 d_move rfl ?_
            refine R1 d_move rfl ?_
            refine R2 (d_indexP sl23 (i) (by omega) (gZ (by omega))) rfl rfl ?_
            refine R1 (d_loadP ti3) rfl ?_
            refine R1 d_move rfl ?_
            refine R1 d_move rfl ?_
            refine R2 (d_indexP sl23 (i) (by omega) (gZ (by omega))) rfl rfl ?_
            refine R1 (d_loadP ti3) rfl ?_
            refine R1 (d_neg rfl) rfl ?_
            refine R2 d_max2 rfl rfl ?_
            refine R1 d_assign rfl ?_
            refine R_end (by kernel_rfl) ?_
            refine K_then ?_
            refine C_seq ?_
            refine C_seq ?_
            refine C_reg ?_
            refine R1 d_move rfl ?_
            refine R1 d_move rfl ?_
            refine R2 (d_indexP sl23 (i) (by omega) (gZ (by omega))) rfl rfl ?_
            refine R1 (d_loadP ti3) rfl ?_
            refine R2 d_lss rfl rfl ?_
            refine R1 d_move rfl ?_
            refine RGcaseD (t := 67) rfl (fun h178 => ?_) (fun h178 => ?_)
            ·
              refine RGoff (decide_eq_true h178) rfl rfl ?_
              refine RGoff (decide_eq_true h178) rfl rfl ?_
              refine RGoff (decide_eq_true h178) rfl rfl ?_
              refine RGoff (decide_eq_true h178) rfl rfl ?_
              refine RGoff (decide_eq_true h178) rfl rfl ?_
              refine R2 (d_pickT (decide_eq_true h178)) rfl rfl ?_
              refine R1 d_move rfl ?_
              refine RGoff1 rfl rfl ?_
              refine RGoff1 rfl rfl ?_
              refine R2 (d_pickT rfl) rfl rfl ?_
              refine R1 d_move rfl ?_
              refine RGoff1 rfl rfl ?_
              refine RGoff1 rfl rfl ?_
              refine RGoff1 rfl rfl ?_
              refine R2 (d_pickT rfl) rfl rfl ?_
              refine R_nil (by kernel_rfl) ?_
              refine K_then ?_
              refine C_bT rfl rfl ?_
              refine C_exit ?_
              refine K_exT ?_
              refine K_exB ?_
              refine K_then ?_
              refine C_reg ?_
              refine R1 d_move rfl ?_
              refine R2 (d_add (by first | exact wr64 (by omega) (by omega))) rfl rfl ?_
              refine R1 d_assign rfl ?_
              refine R_nil (by kernel_rfl) ?_
              exact K_fam ((i + 1, left, o, b, p)) ⟨(by dsimp only; exact ⟨by omega, hI2⟩), (by dsimp only; omega)⟩ (Sub.int rfl (by first | omega | rfl | (dsimp only; omega)) (Sub.int rfl (by first | omega | rfl | (dsimp only; omega)) (Sub.cons rfl (Sub.cons rfl (Sub.cons rfl (Sub.cons rfl Sub.nil)))))) (SubK.cons rfl SubK.nil) (SupG.val (SupG.val (SupG.own rfl (SupG.val (SupG.val (SupG.val SupG.nil)))))) (SupH.cons rfl (supJL rfl) SupH.nil) (lkOk rfl)
            ·
              refine RGon (decide_eq_false h178) rfl d_move rfl ⟨rfl, trivial⟩ trivial trivial ?_
              refine RGon (decide_eq_false h178) rfl d_move rfl ⟨rfl, trivial⟩ trivial trivial ?_
              refine RGon (decide_eq_false h178) rfl (d_indexP sl23 (i) (by omega) (gZ (by omega))) rfl ⟨rfl, rfl, trivial⟩ trivial trivial ?_
              refine RGon (decide_eq_false h178) rfl (d_loadP ti3) rfl ⟨rfl, trivial⟩ trivial trivial ?_
              refine RGon (decide_eq_false h178) rfl d_gtr rfl ⟨rfl, rfl, trivial⟩ trivial trivial ?_
              refine R2 (d_pickF (decide_eq_false h178)) rfl rfl ?_
              refine R1 d_move rfl ?_
              refine RGcaseD (t := 74) rfl (fun h178_2 => ?_) (fun h178_2 => ?_)
              ·
                refine RGoff (decide_eq_true h178_2) rfl rfl ?_
                refine RGoff (decide_eq_true h178_2) rfl rfl ?_
                refine R2 (d_pickT (decide_eq_true h178_2)) rfl rfl ?_
                refine R1 d_move rfl ?_
                refine RGoff1 rfl rfl ?_
                refine RGoff1 rfl rfl ?_
                refine RGoff1 rfl rfl ?_
                refine R2 (d_pickT rfl) rfl rfl ?_
                refine R_nil (by kernel_rfl) ?_
                refine K_then ?_
                refine C_bT rfl rfl ?_
                refine C_exit ?_
                refine K_exT ?_
                refine K_exB ?_
                refine K_then ?_
                refine C_reg ?_
                refine R1 d_move rfl ?_
                refine R2 (d_add (by first | exact wr64 (by omega) (by omega))) rfl rfl ?_
                refine R1 d_assign rfl ?_
                refine R_nil (by kernel_rfl) ?_
                exact K_fam ((i + 1, left, o, b, p)) ⟨(by dsimp only; exact ⟨by omega, hI2⟩), (by dsimp only; omega)⟩ (Sub.int rfl (by first | omega | rfl | (dsimp only; omega)) (Sub.int rfl (by first | omega | rfl | (dsimp only; omega)) (Sub.cons rfl (Sub.cons rfl (Sub.cons rfl (Sub.cons rfl Sub.nil)))))) (SubK.cons rfl SubK.nil) (SupG.val (SupG.val (SupG.own rfl (SupG.val (SupG.val (SupG.val SupG.nil)))))) (SupH.cons rfl (supJL rfl) SupH.nil) (lkOk rfl)
              ·
                refine RGon (decide_eq_false h178_2) rfl d_move rfl ⟨rfl, trivial⟩ trivial trivial ?_
                refine RGon (decide_eq_false h178_2) rfl d_lss rfl ⟨rfl, rfl, trivial⟩ trivial trivial ?_
                refine R2 (d_pickF (decide_eq_false h178_2)) rfl rfl ?_
                refine R1 d_move rfl ?_
                refine RGcaseD (t := 78) rfl (fun h178_3 => ?_) (fun h178_3 => ?_)
                ·
                  refine RGoff (decide_eq_true h178_3) rfl rfl ?_
                  refine RGoff (decide_eq_true h178_3) rfl rfl ?_
                  refine RGoff (decide_eq_true h178_3) rfl rfl ?_
                  refine R2 (d_pickT (decide_eq_true h178_3)) rfl rfl ?_
                  refine R_nil (by kernel_rfl) ?_
                  refine K_then ?_
                  refine C_bT rfl rfl ?_
                  refine C_exit ?_
                  refine K_exT ?_
                  refine K_exB ?_
                  refine K_then ?_
                  refine C_reg ?_
                  refine R1 d_move rfl ?_
                  refine R2 (d_add (by first | exact wr64 (by omega) (by omega))) rfl rfl ?_
                  refine R1 d_assign rfl ?_
                  refine R_nil (by kernel_rfl) ?_
                  exact K_fam ((i + 1, left, o, b, p)) ⟨(by dsimp only; exact ⟨by omega, hI2⟩), (by dsimp only; omega)⟩ (Sub.int rfl (by first | omega | rfl | (dsimp only; omega)) (Sub.int rfl (by first | omega | rfl | (dsimp only; omega)) (Sub.cons rfl (Sub.cons rfl (Sub.cons rfl (Sub.cons rfl Sub.nil)))))) (SubK.cons rfl SubK.nil) (SupG.val (SupG.val (SupG.own rfl (SupG.val (SupG.val (SupG.val SupG.nil)))))) (SupH.cons rfl (supJL rfl) SupH.nil) (lkOk rfl)
                ·
                  refine RGon (decide_eq_false h178_3) rfl d_move rfl ⟨rfl, trivial⟩ trivial trivial ?_
                  refine RGon (decide_eq_false h178_3) rfl d_move rfl ⟨rfl, trivial⟩ trivial trivial ?_
                  refine RGon (decide_eq_false h178_3) rfl d_gtr rfl ⟨rfl, rfl, trivial⟩ trivial trivial ?_
                  refine R2 (d_pickF (decide_eq_false h178_3)) rfl rfl ?_
                  refine R_nil (by kernel_rfl) ?_
                  refine K_then ?_
                  refine C_if rfl (fun h178_4 => ?_) (fun h178_4 => ?_)
                  ·
                    refine C_exit ?_
                    refine K_exT ?_
                    refine K_exB ?_
                    refine K_then ?_
                    refine C_reg ?_
                    refine R1 d_move rfl ?_
                    refine R2 (d_add (by first | exact wr64 (by omega) (by omega))) rfl rfl ?_
                    refine R1 d_assign rfl ?_
                    refine R_nil (by kernel_rfl) ?_
                    exact K_fam ((i + 1, left, o, b, p)) ⟨(by dsimp only; exact ⟨by omega, hI2⟩), (by dsimp only; omega)⟩ (Sub.int rfl (by first | omega | rfl | (dsimp only; omega)) (Sub.int rfl (by first | omega | rfl | (dsimp only; omega)) (Sub.cons rfl (Sub.cons rfl (Sub.cons rfl (Sub.cons rfl Sub.nil)))))) (SubK.cons rfl SubK.nil) (SupG.val (SupG.val (SupG.own rfl (SupG.val (SupG.val (SupG.val SupG.nil)))))) (SupH.cons rfl (supJL rfl) SupH.nil) (lkOk rfl)
                  ·
                    refine C_skip ?_
                    refine K_then ?_
                    refine C_seq ?_
                    obtain ⟨z1, z2⟩ := sz_of x1 x2 h178_3
                    obtain ⟨hE, hN⟩ := hI2.next hd (m := (ms.getD i 0)) (a := (us.getD i 0)) (z := (max (us.getD i 0) (IntKind.i64.wrap (0 - (us.getD i 0))))) (by omega) (by omega) (by omega) z1 z2 (by omega)
                    refine C_draw mixed ?_
                    refine R1 d_move rfl ?_
                    refine RE (d_load (0) ti25 rfl rfl) ⟨rfl, trivial⟩ ⟨rfl, trivial⟩ trivial ?_
                    refine R1 d_move rfl ?_
                    refine R1 d_move rfl ?_
                    refine R2 (d_indexP sl23 (i) (by omega) (gZ (by omega))) rfl rfl ?_
                    refine R1 (d_loadP ti3) rfl ?_
                    refine R1 d_move rfl ?_
                    refine R1 d_move rfl ?_
                    refine R2 (d_indexP sl23 (i) (by omega) (gZ (by omega))) rfl rfl ?_
                    refine R1 (d_loadP ti3) rfl ?_
                    refine RE (d_call (c_Step l o b p _ _ hd) fi13 rfl) ⟨rfl, rfl, rfl, rfl, trivial⟩ trivial trivial ?_
                    refine R1 d_move rfl ?_
                    refine R1 (d_extract rfl) rfl ?_
                    refine R1 (d_extract rfl) rfl ?_
                    refine R1 (d_extract rfl) rfl ?_
                    refine RE (d_alloc (k := 12) (n := 3) (agg := true) zr25.1 zr25.2 rfl) trivial trivial ⟨rfl, trivial⟩ ?_
                    refine RE (d_store (es := 3) (agg := true) (0) ti25 rfl rfl rfl) ⟨rfl, rfl, trivial⟩ ⟨rfl, trivial⟩ trivial ?_
                    refine R1 d_assign rfl ?_
                    refine R1 d_assign rfl ?_
                    refine R_end (by kernel_rfl) ?_
                    refine K_then ?_
                    refine C_seq ?_
                    refine C_seq ?_
                    refine C_reg ?_
                    refine R1 d_move rfl ?_
                    refine R2 d_neq rfl rfl ?_
                    refine R_nil (by kernel_rfl) ?_
                    refine K_then ?_
                    refine C_bF rfl (decide_eq_false (by omega)) ?_
                    refine C_skip ?_
                    refine K_then ?_
                    refine C_seq ?_
                    refine C_reg ?_
                    refine R1 d_move rfl ?_
                    refine R1 d_move rfl ?_
                    refine R2 (d_sub (by first | exact wr64 (by omega) (by omega))) rfl rfl ?_
                    refine R1 d_assign rfl ?_
                    refine R_nil (by kernel_rfl) ?_
                    refine K_then ?_
                    refine C_reg ?_
                    refine RE (d_load (0) ti25 rfl rfl) ⟨rfl, trivial⟩ ⟨rfl, trivial⟩ trivial ?_
                    refine RE (d_store (es := 3) (agg := true) (0) ti25 rfl rfl rfl) ⟨rfl, rfl, trivial⟩ ⟨rfl, trivial⟩ trivial ?_
                    refine R_nil (by kernel_rfl) ?_
                    refine K_norB ?_
                    refine K_then ?_
                    refine C_reg ?_
                    refine R1 d_move rfl ?_
                    refine R2 (d_add (by first | exact wr64 (by omega) (by omega))) rfl rfl ?_
                    refine R1 d_assign rfl ?_
                    refine R_nil (by kernel_rfl) ?_
                    exact K_fam ((i + 1, left - (max (us.getD i 0) (IntKind.i64.wrap (0 - (us.getD i 0)))), stepO l o b p (ms.getD i 0) (us.getD i 0), stepB l o b p (ms.getD i 0) (us.getD i 0), stepP l o b p (ms.getD i 0) (us.getD i 0))) ⟨(by dsimp only; exact ⟨by omega, hN⟩), (by dsimp only; omega)⟩ (Sub.int rfl (by first | omega | rfl | (dsimp only; omega)) (Sub.int rfl (by first | omega | rfl | (dsimp only; omega)) (Sub.cons rfl (Sub.cons rfl (Sub.cons rfl (Sub.cons rfl Sub.nil)))))) (SubK.cons rfl SubK.nil) (SupG.val (SupG.val (SupG.own rfl (SupG.val (SupG.val (SupG.val SupG.nil)))))) (SupH.cons rfl (supJL rfl) SupH.nil) (lkOk rfl)
          ·
            refine C_exit ?_
            refine K_exT ?_
            refine K_exT ?_
            refine K_exB ?_
            refine K_then ?_
            refine C_seq ?_
            have hE0 := right_zero hd hI2
            obtain ⟨hq1, hq2⟩ := full_zero hd hI2.r hE0
            have hl16 := validL_len hv
            refine C_reg ?_
            refine R1 d_move rfl ?_
            refine RE (d_load (0) ti25 rfl rfl) ⟨rfl, trivial⟩ ⟨rfl, trivial⟩ trivial ?_
            refine RE (d_call (c_Step l o b p 0 0 hd) fi13 rfl) ⟨rfl, rfl, rfl, rfl, trivial⟩ trivial trivial ?_
            refine R1 d_move rfl ?_
            refine R1 (d_extract rfl) rfl ?_
            refine R1 (d_extract rfl) rfl ?_
            refine R1 (d_extract rfl) rfl ?_
            refine RE (d_alloc (k := 15) (n := 3) (agg := true) zr25.1 zr25.2 rfl) trivial trivial ⟨rfl, trivial⟩ ?_
            refine RE (d_store (es := 3) (agg := true) (0) ti25 rfl rfl rfl) ⟨rfl, rfl, trivial⟩ ⟨rfl, trivial⟩ trivial ?_
            refine R1 d_assign rfl ?_
            refine R1 d_assign rfl ?_
            refine R_nil (by kernel_rfl) ?_
            refine K_then ?_
            refine C_seq ?_
            refine C_seq ?_
            refine C_reg ?_
            refine R1 d_assign rfl ?_
            refine R_nil (by kernel_rfl) ?_
            refine K_then ?_
            refine C_block ?_
            refine C_loop (fun (j : Nat) => j ≤ (stepQ l o b p 0 0).length) (fun (j : Nat) => upd (upd (upd (upd (fun _ => none) 0 (some (.val (tL 7 true tDeal l)))) 16 (some (.val (tIs (stepQ l o b p 0 0))))) 17 (some (.val (tI (stepE l o b p 0 0))))) 18 (some (.val (tI j)))) (fun (j : Nat) => fun _ => none) (nm []) (fun (j : Nat) => (stepQ l o b p 0 0).length - j) (0) (Nat.zero_le _) (Sub.int rfl (by first | omega | rfl | (dsimp only; omega)) (Sub.int rfl (by first | omega | rfl | (dsimp only; omega)) (Sub.cons rfl (Sub.cons rfl Sub.nil)))) SubK.nil (SupG.val (SupG.val (SupG.val (SupG.val SupG.nil)))) SupH.nil (lkOk rfl) ?_
            intro j hI
            refine C_seq ?_
            refine C_seq ?_
            refine C_reg ?_
            refine R1 d_move rfl ?_
            refine R1 d_move rfl ?_
            refine R1 (d_len Tryz.underlying23) rfl ?_
            refine R2 d_lss rfl rfl ?_
            refine R_nil (by kernel_rfl) ?_
            refine K_then ?_
            refine C_if rfl (fun h189 => ?_) (fun h189 => ?_)
            ·
              refine C_skip ?_
              refine K_then ?_
              refine C_seq ?_
              refine C_block ?_
              refine C_seq ?_
              have hz := hq2 j
              refine C_reg ?_
              refine R1 d_move rfl ?_
              refine R1 d_move rfl ?_
              refine R2 (d_indexP sl23 (j) (by omega) (gZ (by omega))) rfl rfl ?_
              refine R1 (d_loadP ti3) rfl ?_
              refine R2 d_neq rfl rfl ?_
              refine R_nil (by kernel_rfl) ?_
              refine K_then ?_
              refine C_bF rfl (decide_eq_false (by omega)) ?_
              refine C_skip ?_
              refine K_norB ?_
              refine K_then ?_
              refine C_reg ?_
              refine R1 d_move rfl ?_
              refine R2 (d_add (by first | exact wr64 (by omega) (by omega))) rfl rfl ?_
              refine R1 d_assign rfl ?_
              refine R_nil (by kernel_rfl) ?_
              exact K_fam (j + 1) ⟨(by omega), (by omega)⟩ (Sub.int rfl (by first | omega | rfl | (dsimp only; omega)) (Sub.int rfl (by first | omega | rfl | (dsimp only; omega)) (Sub.cons rfl (Sub.cons rfl Sub.nil)))) SubK.nil (SupG.val (SupG.val (SupG.val (SupG.val SupG.nil)))) SupH.nil (lkOk rfl)
            ·
              refine C_exit ?_
              refine K_exT ?_
              refine K_exT ?_
              refine K_exB ?_
              refine K_then ?_
              refine C_seq ?_
              refine C_reg ?_
              refine R1 d_move rfl ?_
              refine R2 d_eql rfl rfl ?_
              refine R1 d_move rfl ?_
              refine RGon (decide_eq_true (by omega)) rfl d_move rfl ⟨rfl, trivial⟩ trivial trivial ?_
              refine RGon (decide_eq_true (by omega)) rfl (d_len Tryz.underlying23) rfl ⟨rfl, trivial⟩ trivial trivial ?_
              refine RGon (decide_eq_true (by omega)) rfl d_move rfl ⟨rfl, trivial⟩ trivial trivial ?_
              refine RGon (decide_eq_true (by omega)) rfl (d_len Tryz.underlying22) rfl ⟨rfl, trivial⟩ trivial trivial ?_
              refine RGon (decide_eq_true (by omega)) rfl (d_add (by first | exact wr64 (by omega) (by omega))) rfl ⟨rfl, rfl, trivial⟩ trivial trivial ?_
              refine RGon (decide_eq_true (by omega)) rfl d_eql rfl ⟨rfl, rfl, trivial⟩ trivial trivial ?_
              refine R2 (d_pickT (decide_eq_true (by omega))) rfl rfl ?_
              refine R1 d_assign rfl ?_
              refine R_nil (by kernel_rfl) ?_
              refine K_then ?_
              refine C_ret ?_
              exact E_ret1 Plain.mk' rfl rfl (Le.bool (decide_eq_true (by omega)))
        ·
          refine RGoff (decide_eq_false h176) rfl rfl ?_
          refine RGoff (decide_eq_false h176) rfl rfl ?_
          refine RGoff (decide_eq_false h176) rfl rfl ?_
          refine RGoff (decide_eq_false h176) rfl rfl ?_
          refine R2 (d_pickF (decide_eq_false h176)) rfl rfl ?_
          refine R_nil (by kernel_rfl) ?_
          refine K_then ?_
          refine C_bF rfl rfl ?_
          refine C_exit ?_
          refine K_exT ?_
          refine K_exT ?_
          refine K_exB ?_
          refine K_then ?_
          refine C_seq ?_
          have hE0 := right_zero hd hI2
          obtain ⟨hq1, hq2⟩ := full_zero hd hI2.r hE0
          have hl16 := validL_len hv
          refine C_reg ?_
          refine R1 d_move rfl ?_
          refine RE (d_load (0) ti25 rfl rfl) ⟨rfl, trivial⟩ ⟨rfl, trivial⟩ trivial ?_
          refine RE (d_call (c_Step l o b p 0 0 hd) fi13 rfl) ⟨rfl, rfl, rfl, rfl, trivial⟩ trivial trivial ?_
          refine R1 d_move rfl ?_
          refine R1 (d_extract rfl) rfl ?_
          refine R1 (d_extract rfl) rfl ?_
          refine R1 (d_extract rfl) rfl ?_
          refine RE (d_alloc (k := 15) (n := 3) (agg := true) zr25.1 zr25.2 rfl) trivial trivial ⟨rfl, trivial⟩ ?_
          refine RE (d_store (es := 3) (agg := true) (0) ti25 rfl rfl rfl) ⟨rfl, rfl, trivial⟩ ⟨rfl, trivial⟩ trivial ?_
          refine R1 d_assign rfl ?_
          refine R1 d_assign rfl ?_
          refine R_nil (by kernel_rfl) ?_
          refine K_then ?_
          refine C_seq ?_
          refine C_seq ?_
          refine C_reg ?_
          refine R1 d_assign rfl ?_
          refine R_nil (by kernel_rfl) ?_
          refine K_then ?_
          refine C_block ?_
          refine C_loop (fun (j : Nat) => j ≤ (stepQ l o b p 0 0).length) (fun (j : Nat) => upd (upd (upd (upd (fun _ => none) 0 (some (.val (tL 7 true tDeal l)))) 16 (some (.val (tIs (stepQ l o b p 0 0))))) 17 (some (.val (tI (stepE l o b p 0 0))))) 18 (some (.val (tI j)))) (fun (j : Nat) => fun _ => none) (nm []) (fun (j : Nat) => (stepQ l o b p 0 0).length - j) (0) (Nat.zero_le _) (Sub.int rfl (by first | omega | rfl | (dsimp only; omega)) (Sub.int rfl (by first | omega | rfl | (dsimp only; omega)) (Sub.cons rfl (Sub.cons rfl Sub.nil)))) SubK.nil (SupG.val (SupG.val (SupG.val (SupG.val SupG.nil)))) SupH.nil (lkOk rfl) ?_
          intro j hI
          refine C_seq ?_
          refine C_seq ?_
          refine C_reg ?_
          refine R1 d_move rfl ?_
          refine R1 d_move rfl ?_
          refine R1 (d_len Tryz.underlying23) rfl ?_
          refine R2 d_lss rfl rfl ?_
          refine R_nil (by kernel_rfl) ?_
          refine K_then ?_
          refine C_if rfl (fun h189 => ?_) (fun h189 => ?_)
          ·
            refine C_skip ?_
            refine K_then ?_
            refine C_seq ?_
            refine C_block ?_
            refine C_seq ?_
            have hz := hq2 j
            refine C_reg ?_
            refine R1 d_move rfl ?_
            refine R1 d_move rfl ?_
            refine R2 (d_indexP sl23 (j) (by omega) (gZ (by omega))) rfl rfl ?_
            refine R1 (d_loadP ti3) rfl ?_
            refine R2 d_neq rfl rfl ?_
            refine R_nil (by kernel_rfl) ?_
            refine K_then ?_
            refine C_bF rfl (decide_eq_false (by omega)) ?_
            refine C_skip ?_
            refine K_norB ?_
            refine K_then ?_
            refine C_reg ?_
            refine R1 d_move rfl ?_
            refine R2 (d_add (by first | exact wr64 (by omega) (by omega))) rfl rfl ?_
            refine R1 d_assign rfl ?_
            refine R_nil (by kernel_rfl) ?_
            exact K_fam (j + 1) ⟨(by omega), (by omega)⟩ (Sub.int rfl (by first | omega | rfl | (dsimp only; omega)) (Sub.int rfl (by first | omega | rfl | (dsimp only; omega)) (Sub.cons rfl (Sub.cons rfl Sub.nil)))) SubK.nil (SupG.val (SupG.val (SupG.val (SupG.val SupG.nil)))) SupH.nil (lkOk rfl)
          ·
            refine C_exit ?_
            refine K_exT ?_
            refine K_exT ?_
            refine K_exB ?_
            refine K_then ?_
            refine C_seq ?_
            refine C_reg ?_
            refine R1 d_move rfl ?_
            refine R2 d_eql rfl rfl ?_
            refine R1 d_move rfl ?_
            refine RGon (decide_eq_true (by omega)) rfl d_move rfl ⟨rfl, trivial⟩ trivial trivial ?_
            refine RGon (decide_eq_true (by omega)) rfl (d_len Tryz.underlying23) rfl ⟨rfl, trivial⟩ trivial trivial ?_
            refine RGon (decide_eq_true (by omega)) rfl d_move rfl ⟨rfl, trivial⟩ trivial trivial ?_
            refine RGon (decide_eq_true (by omega)) rfl (d_len Tryz.underlying22) rfl ⟨rfl, trivial⟩ trivial trivial ?_
            refine RGon (decide_eq_true (by omega)) rfl (d_add (by first | exact wr64 (by omega) (by omega))) rfl ⟨rfl, rfl, trivial⟩ trivial trivial ?_
            refine RGon (decide_eq_true (by omega)) rfl d_eql rfl ⟨rfl, rfl, trivial⟩ trivial trivial ?_
            refine R2 (d_pickT (decide_eq_true (by omega))) rfl rfl ?_
            refine R1 d_assign rfl ?_
            refine R_nil (by kernel_rfl) ?_
            refine K_then ?_
            refine C_ret ?_
            exact E_ret1 Plain.mk' rfl rfl (Le.bool (decide_eq_true (by omega)))
end An.S

/- Layer 24: the exact shares add up; what a deal has got is near its share. Plain data. -/
namespace An
open Go
theorem validL_len16 {l : List Deal} (h : validL l = true) : l.length ≤ 16 := by
  simp only [validL, Bool.and_eq_true, decide_eq_true_eq] at h; exact h.1
/-- The shares, deal by deal. -/
def sp (l : List Deal) (m : Int) (j : Nat) : Sh := shRun l ⟨List.replicate (l.length + 1) (fr ((0 : Int) : Rat)), ((1 : Int) : Rat)⟩ (apl1 l m j)
theorem shRun_snoc {l : List Deal} {i : Nat} : ∀ (is : List Nat) (s : Sh), shRun l s (is ++ [i]) = sh1 l (shRun l s is) i
  | [], s => rfl
  | j :: r, s => by rw [List.cons_append, shRun, shRun_snoc r]; rfl
theorem sp_yes {l : List Deal} {m : Int} {j : Nat} (h : (l.getD j deal0).on m = true) : sp l m (j + 1) = sh1 l (sp l m j) j := by
  rw [sp, apl1_yes h, shRun_snoc]; rfl
theorem sp_no {l : List Deal} {m : Int} {j : Nat} (h : (l.getD j deal0).on m = false) : sp l m (j + 1) = sp l m j := by
  rw [sp, apl1_no h]; rfl
theorem sp_zero {l : List Deal} {m : Int} : sp l m 0 = ⟨List.replicate (l.length + 1) (fr ((0 : Int) : Rat)), ((1 : Int) : Rat)⟩ := rfl
theorem sp_all {l : List Deal} {m : Int} : sp l m l.length = shAll l m := rfl
/-- What the deal j gets of 1. -/
def xk (l : List Deal) (m : Int) (j : Nat) : Rat := bif (l.getD j deal0).on m then (sp l m j).r * shr l j else 0
section
variable {l : List Deal} {m : Int}
theorem sp_r (j : Nat) : (sp l m (j + 1)).r = (sp l m j).r - xk l m j := by
  cases h : (l.getD j deal0).on m with
  | true => rw [sp_yes h, xk, h]; rfl
  | false => rw [sp_no h, xk, h]; simp only [cond_false]; grind
theorem sp_I (hv : validL l = true) (hD : ∀ d ∈ l, d.share.dig) : ∀ j, j ≤ l.length → ShI l j (sp l m j)
  | 0, _ => shI0
  | j + 1, hj => by
    have h := sp_I hv hD j (by omega)
    cases ho : (l.getD j deal0).on m with
    | true => rw [sp_yes ho]; exact h.next hv hD (by omega)
    | false => rw [sp_no ho]; exact ⟨h.q, h.lo, h.hi, by have := h.den; omega⟩
theorem fr_getD_set {q : List Fr} {i j : Nat} {x : Fr} (h : i < q.length) : (q.set i x).getD j fr0 = if j = i then x else q.getD j fr0 := by
  rw [List.getD_eq_getElem?_getD, List.getD_eq_getElem?_getD, List.getElem?_set]
  by_cases hij : i = j
  · subst hij; simp [h]
  · rw [if_neg hij, if_neg (fun e => hij e.symm)]
theorem sp_q (hv : validL l = true) (hD : ∀ d ∈ l, d.share.dig) : ∀ j, j ≤ l.length → ∀ k, k < l.length → (sp l m j).q.getD (k + 1) fr0 = if k < j then fr (xk l m k) else fr 0
  | 0, _, k, hk => by
    rw [sp_zero, if_neg (by omega), List.getD_eq_getElem?_getD, List.getElem?_replicate, if_pos (by omega)]; rfl
  | j + 1, hj, k, hk => by
    have hq := (sp_I (m := m) hv hD j (by omega)).q
    have ih := sp_q hv hD j (by omega) k hk
    cases ho : (l.getD j deal0).on m with
    | true =>
      rw [sp_yes ho]
      simp only [sh1]
      rw [fr_getD_set (by omega)]
      by_cases hkj : k = j
      · subst hkj
        rw [if_pos rfl, if_pos (by omega), xk, ho]; rfl
      · rw [if_neg (by omega), ih]
        by_cases h2 : k < j
        · rw [if_pos h2, if_pos (by omega)]
        · rw [if_neg h2, if_neg (by omega)]
    | false =>
      rw [sp_no ho, ih]
      by_cases hkj : k = j
      · subst hkj
        rw [if_neg (by omega), if_pos (by omega), xk, ho]; rfl
      · by_cases h2 : k < j
        · rw [if_pos h2, if_pos (by omega)]
        · rw [if_neg h2, if_neg (by omega)]
def shQ (l : List Deal) (m : Int) : List Fr := (shAll l m).q.set 0 (fr (shAll l m).r)
/-- The i-th share, that of the member first. -/
def xv (l : List Deal) (m : Int) (i : Nat) : Rat := if i = 0 then (shAll l m).r else xk l m (i - 1)
theorem shQ_len (hv : validL l = true) (hD : ∀ d ∈ l, d.share.dig) : (shQ l m).length = l.length + 1 := by
  rw [shQ, List.length_set]; exact (sp_I (m := m) hv hD l.length (Nat.le_refl _)).q
theorem shQ_at (hv : validL l = true) (hD : ∀ d ∈ l, d.share.dig) {i : Nat} (hi : i < l.length + 1) : (shQ l m).getD i fr0 = fr (xv l m i) := by
  have hq := (sp_I (m := m) hv hD l.length (Nat.le_refl _)).q
  rw [sp_all] at hq
  rw [shQ, fr_getD_set (by omega), xv]
  by_cases h0 : i = 0
  · rw [if_pos h0, if_pos h0]
  · rw [if_neg h0, if_neg h0]
    obtain ⟨k, rfl⟩ : ∃ k, i = k + 1 := ⟨i - 1, by omega⟩
    have := sp_q (m := m) hv hD l.length (Nat.le_refl _) k (by omega)
    rw [if_pos (by omega), sp_all] at this
    exact this
/-- The first i shares add up to this. -/
def ps (l : List Deal) (m : Int) : Nat → Rat
  | 0 => 0
  | j + 1 => (shAll l m).r + (1 - (sp l m j).r)
theorem ps_next (i : Nat) : ps l m i + xv l m i = ps l m (i + 1) := by
  cases i with
  | zero =>
    simp only [ps, xv, if_true, sp_zero]
    have : ((1 : Int) : Rat) = 1 := rfl
    rw [this]; grind
  | succ j =>
    simp only [ps, xv, sp_r, Nat.succ_ne_zero, if_false, Nat.add_sub_cancel]
    grind
theorem ps_end : ps l m (l.length + 1) = 1 := by
  simp only [ps, sp_all]; grind
theorem xk_bd (hv : validL l = true) (hD : ∀ d ∈ l, d.share.dig) {j : Nat} (hj : j < l.length) : 0 ≤ xk l m j ∧ xk l m j ≤ 1 ∧ len16 ((xk l m j).den : Int) ≤ 4 * j + 5 := by
  have h := sp_I (m := m) hv hD j (by omega)
  obtain ⟨q0, q1⟩ := shr_bd hv hD hj
  obtain ⟨s1, s2, _⟩ := shr_len hv hD hj
  cases ho : (l.getD j deal0).on m with
  | true =>
    rw [xk, ho]
    simp only [cond_true]
    have k1 := Rat.mul_nonneg h.lo q0
    have k2 := Rat.mul_le_mul_of_nonneg_right h.hi q0
    refine ⟨k1, by grind, ?_⟩
    have := (len_mul_parts (Nat.le_trans (num_le_den h.lo h.hi) h.den) s1 h.den s2).2
    omega
  | false =>
    rw [xk, ho]
    simp only [cond_false]
    refine ⟨by decide +kernel, by decide +kernel, ?_⟩
    show len16 (((0 : Rat).den : Nat) : Int) ≤ _
    have : len16 (((0 : Rat).den : Nat) : Int) ≤ 1 := by
      show (wh 1).l.length ≤ 1
      rw [wh_one]; decide
    omega
theorem xv_bd (hv : validL l = true) (hD : ∀ d ∈ l, d.share.dig) {i : Nat} (hi : i < l.length + 1) : 0 ≤ xv l m i ∧ xv l m i ≤ 1 ∧ len16 ((xv l m i).den : Int) ≤ 69 := by
  have hl := validL_len16 hv
  rw [xv]
  by_cases h0 : i = 0
  · rw [if_pos h0]
    have h := sp_I (m := m) hv hD l.length (Nat.le_refl _)
    rw [sp_all] at h
    exact ⟨h.lo, h.hi, by have := h.den; omega⟩
  · rw [if_neg h0]
    obtain ⟨k1, k2, k3⟩ := xk_bd (m := m) hv hD (j := i - 1) (by omega)
    exact ⟨k1, k2, by omega⟩
end
theorem add_parts (a b : Rat) : (a + b).num = (a.num * b.den + b.num * a.den) / ((Int.gcd (a.num * b.den + b.num * a.den) ((a.den : Int) * (b.den : Int)) : Nat) : Int) ∧ ((a + b).den : Int) = (a.den : Int) * (b.den : Int) / ((Int.gcd (a.num * b.den + b.num * a.den) ((a.den : Int) * (b.den : Int)) : Nat) : Int) := by
  have h := lowest_eq (n := a.num * b.den + b.num * a.den) (d := (a.den : Int) * (b.den : Int)) (Int.mul_pos (by have := a.den_nz; omega) (by have := b.den_nz; omega))
  have e : Rat.divInt (a.num * b.den + b.num * a.den) ((a.den : Int) * (b.den : Int)) = a + b := by
    rw [Rat.add_def, ← Int.natCast_mul, Rat.divInt_ofNat, Rat.normalize_eq_mkRat]
  rw [e, fr] at h
  injection h with h1 h2
  exact ⟨wh_inj h1, wh_inj h2⟩
theorem len_add_parts {a b : Rat} {k l m n t : Nat} (ha : len16 a.num ≤ k) (hb : len16 b.num ≤ l) (ha2 : len16 (a.den : Int) ≤ m) (hb2 : len16 (b.den : Int) ≤ n) (h1 : k + n ≤ t) (h2 : l + m ≤ t) : len16 (a + b).num ≤ t + 1 ∧ len16 ((a + b).den : Int) ≤ m + n := by
  obtain ⟨e1, e2⟩ := add_parts a b
  exact ⟨e1 ▸ len16_div (len16_add (Nat.le_trans (len16_mul ha hb2) h1) (Nat.le_trans (len16_mul hb ha2) h2)), e2 ▸ len16_div (len16_mul ha2 hb2)⟩
theorem short01 {q : Rat} (h0 : 0 ≤ q) (h1 : q ≤ 1) (hd : len16 (q.den : Int) ≤ 256) : short q := ⟨Nat.le_trans (num_le_den h0 h1) hd, hd⟩
theorem ps_short {l : List Deal} {m : Int} (hv : validL l = true) (hD : ∀ d ∈ l, d.share.dig) {i : Nat} (hi : i ≤ l.length + 1) : short (ps l m i) := by
  have hl := validL_len16 hv
  cases i with
  | zero => exact short_int (by decide +kernel)
  | succ j =>
    have h1 := sp_I (m := m) hv hD l.length (Nat.le_refl _)
    have h2 := sp_I (m := m) hv hD j (by omega)
    rw [sp_all] at h1
    have hle : (shAll l m).r ≤ (sp l m j).r := by
      have key : ∀ d, j + d ≤ l.length → (sp l m (j + d)).r ≤ (sp l m j).r := by
        intro d
        induction d with
        | zero => intro _; exact Rat.le_refl
        | succ d ih =>
          intro hd
          have h3 := ih (by omega)
          have h4 := (xk_bd (m := m) hv hD (j := j + d) (by omega)).1
          have h5 := sp_r (l := l) (m := m) (j + d)
          rw [show j + (d + 1) = j + d + 1 by omega, h5]
          grind
      have := key (l.length - j) (by omega)
      rw [show j + (l.length - j) = l.length by omega, sp_all] at this
      exact this
    have hd := one_sub_den (sp l m j).r
    have hn1 := num_le_den h1.lo h1.hi
    have g0 : 0 ≤ 1 - (sp l m j).r := by have := h2.hi; grind
    have g1 : 1 - (sp l m j).r ≤ 1 := by have := h2.lo; grind
    have hn2 := num_le_den g0 g1
    have d1 := h1.den
    have d2 := h2.den
    have := (len_add_parts (a := (shAll l m).r) (b := 1 - (sp l m j).r) (t := 200) hn1 hn2 d1 (Nat.le_trans hd d2) (by omega) (by omega)).2
    simp only [ps]
    refine short01 ?_ ?_ (by omega)
    · have := h1.lo; grind
    · grind
end An

/- Layer 24: amounts for one month: what a deal has got is near its exact share. Plain data. -/
namespace An.S
open An Go
def sumTo (f : Nat → Int) : Nat → Int
  | 0 => 0
  | k + 1 => sumTo f k + f k
theorem sumTo_congr {f g : Nat → Int} : ∀ k, (∀ i, i < k → f i = g i) → sumTo f k = sumTo g k
  | 0, _ => rfl
  | k + 1, h => by rw [sumTo, sumTo, sumTo_congr k fun i hi => h i (by omega), h k (by omega)]
def sumP (p : List Int) (k : Nat) : Int := sumTo (fun i => p.getD i 0) k
theorem sumP_succ (p : List Int) (k : Nat) : sumP p (k + 1) = sumP p k + p.getD k 0 := rfl
theorem sumP_set {p : List Int} {j k : Nat} {x : Int} (h : k ≤ j) : sumP (p.set j x) k = sumP p k := sumTo_congr k fun i hi => gset_ne (by omega)
theorem sumP_zero {n : Nat} : ∀ k, sumP (List.replicate n 0) k = 0
  | 0 => rfl
  | k + 1 => by rw [sumP_succ, sumP_zero k, grep0]; rfl
/-- After amounts for one month that add up to T. -/
structure SeqI (l : List Deal) (m T o : Int) (b p : List Int) : Prop where
  r : rightL l o b p = true
  b : ∀ k, k < l.length → b.getD k 0 = bif (l.getD k deal0).on m then T - sumP p k else 0
theorem run_snoc {l : List Deal} {i : Nat} : ∀ (is : List Nat) (s : Dv), (dvRun l s (is ++ [i])).2 = true → (dvRun l s is).2 = true ∧ (dvRun l s (is ++ [i])).1 = dv1 l (dvRun l s is).1 i
  | [], s, h => by
    rw [List.nil_append, dvRun_cons] at h ⊢
    split at h
    · rename_i hw; rw [if_pos hw]; exact ⟨rfl, rfl⟩
    · cases h
  | j :: r, s, h => by
    rw [List.cons_append, dvRun_cons] at h ⊢
    rw [dvRun_cons]
    split at h
    · rename_i hw; rw [if_pos hw, if_pos hw]; exact run_snoc r _ h
    · cases h
theorem pre_ok {l : List Deal} {m : Int} {s : Dv} (h : (dvRun l s (apl l m)).2 = true) : ∀ d, d ≤ l.length → (dvRun l s (apl1 l m (l.length - d))).2 = true
  | 0, _ => h
  | d + 1, hd => by
    have ih := pre_ok h d (by omega)
    rw [show l.length - d = l.length - (d + 1) + 1 by omega] at ih
    cases ho : (l.getD (l.length - (d + 1)) deal0).on m with
    | true => rw [apl1_yes ho] at ih; exact (run_snoc _ _ ih).1
    | false => rw [apl1_no ho] at ih; exact ih
theorem apl1_mem {l : List Deal} {m : Int} {j k : Nat} (h : j ≤ k) : k ∉ apl1 l m j := fun hk => by
  have := List.mem_range.1 (List.mem_filter.1 hk).1
  omega
section
variable {l : List Deal} {m T o a : Int} {b p : List Int}
theorem seq_pre (s : SeqI l m T o b p) (hlb : b.length = l.length) (hlp : p.length = l.length) (h : (dvRun l ⟨b, p, List.replicate (l.length + 1) 0, a⟩ (apl l m)).2 = true) : ∀ j, j ≤ l.length →
    (dvRun l ⟨b, p, List.replicate (l.length + 1) 0, a⟩ (apl1 l m j)).1.r = a - (sumP (dvRun l ⟨b, p, List.replicate (l.length + 1) 0, a⟩ (apl1 l m j)).1.p j - sumP p j) ∧
    ∀ k, k < j → (dvRun l ⟨b, p, List.replicate (l.length + 1) 0, a⟩ (apl1 l m j)).1.b.getD k 0 = bif (l.getD k deal0).on m then T + a - sumP (dvRun l ⟨b, p, List.replicate (l.length + 1) 0, a⟩ (apl1 l m j)).1.p k else 0
  | 0, _ => ⟨by show a = _; simp [sumP, sumTo], fun k hk => by omega⟩
  | j + 1, hj => by
    have ih := seq_pre s hlb hlp h j (by omega)
    have hfit := run_fit (l := l) (n := l.length) (apl1 l m j) ⟨b, p, List.replicate (l.length + 1) 0, a⟩ (An.fit0 hlb hlp)
    have hk := run_keep (l := l) (apl1 l m j) ⟨b, p, List.replicate (l.length + 1) 0, a⟩ j (apl1_mem (Nat.le_refl _))
    have hok := pre_ok h (l.length - (j + 1)) (by omega)
    rw [show l.length - (l.length - (j + 1)) = j + 1 by omega] at hok
    have hb := s.b j (by omega)
    cases ho : (l.getD j deal0).on m with
    | true =>
      rw [apl1_yes ho] at hok ⊢
      obtain ⟨_, e⟩ := run_snoc _ _ hok
      rw [e]
      generalize (dvRun l ⟨b, p, List.replicate (l.length + 1) 0, a⟩ (apl1 l m j)).1 = t at *
      obtain ⟨h1, h2⟩ := ih
      obtain ⟨k1, k2, _⟩ := hk
      have k1 : t.b.getD j 0 = b.getD j 0 := k1
      have k2 : t.p.getD j 0 = p.getD j 0 := k2
      rw [ho] at hb
      simp only [cond_true] at hb
      have f1 := hfit.b; have f2 := hfit.p
      have e1 : (dv1 l t j).p = t.p.set j (t.pd l j) := rfl
      have e2 : (dv1 l t j).b = t.b.set j (t.n j) := rfl
      have e3 : (dv1 l t j).r = t.r - (t.pd l j - t.p.getD j 0) := rfl
      have e4 : t.n j = t.b.getD j 0 + t.r := rfl
      have e5 : sumP (dv1 l t j).p (j + 1) = sumP t.p j + t.pd l j := by
        rw [sumP_succ, e1, sumP_set (Nat.le_refl _), gset_same (by omega)]
      refine ⟨by rw [e3, e5, sumP_succ, k2, h1]; omega, fun k hkj => ?_⟩
      rw [e1, e2, sumP_set (by omega)]
      by_cases hkk : k = j
      · subst hkk
        rw [gset_same (by omega), ho, e4, k1, hb, h1]
        simp only [cond_true]; omega
      · rw [gset_ne hkk]; exact h2 k (by omega)
    | false =>
      rw [apl1_no ho]
      obtain ⟨h1, h2⟩ := ih
      obtain ⟨k1, k2, _⟩ := hk
      refine ⟨?_, fun k hkj => ?_⟩
      · rw [h1, sumP_succ, sumP_succ, k2]; simp only []; omega
      · by_cases hkk : k = j
        · subst hkk
          rw [k1, ho]
          rw [ho] at hb
          exact hb
        · exact h2 k (by omega)
theorem SeqI.next (hd : ∀ d ∈ l, d.share.dig) (s : SeqI l m T o b p) (hE : stepE l o b p m a = 0) : SeqI l m (T + a) (stepO l o b p m a) (stepB l o b p m a) (stepP l o b p m a) := by
  have t := StepI.of hd hE
  obtain ⟨_, h2⟩ := seq_pre s t.lb t.lp t.all l.length (Nat.le_refl _)
  refine ⟨t.right, fun k hk => ?_⟩
  rw [t.eb, t.ep]
  exact h2 k hk
theorem seqI0 (hv : validL l = true) : SeqI l m 0 0 (List.replicate l.length 0) (List.replicate l.length 0) :=
  ⟨right0 hv, fun k _ => by rw [grep0, sumP_zero]; cases (l.getD k deal0).on m <;> rfl⟩
theorem take_fl (q : Rat) (n : Int) : ((take q n : Int) : Rat) ≤ q * (n : Rat) ∧ q * (n : Rat) < ((take q n : Int) : Rat) + 1 := by
  have h1 := Rat.floor_le (q * (n : Rat))
  have h2 := Rat.lt_floor_add_one (q * (n : Rat))
  refine ⟨h1, ?_⟩
  rw [Rat.intCast_add] at h2
  exact h2
/-- What is missing ahead of the deal k. -/
theorem seq_err (hd : ∀ d ∈ l, d.share.dig) (s : SeqI l m T o b p) : ∀ k, k ≤ l.length → (T : Rat) * (sp l m k).r - ((T - sumP p k : Int) : Rat) ≤ 0 ∧ -((k : Nat) : Rat) ≤ (T : Rat) * (sp l m k).r - ((T - sumP p k : Int) : Rat)
  | 0, _ => by
    have e : (sp l m 0).r = 1 := rfl
    have e2 : sumP p 0 = 0 := rfl
    rw [e, e2, Int.sub_zero, Rat.mul_one]
    have : ((0 : Nat) : Rat) = 0 := rfl
    constructor <;> grind
  | k + 1, hk => by
    obtain ⟨v, lb, lp, _, hok⟩ := right_parts hd s.r
    obtain ⟨h1, h2⟩ := seq_err hd s k (by omega)
    obtain ⟨o1, o2⟩ := hok k (by omega)
    obtain ⟨q0, q1⟩ := shr_bd v hd (i := k) (by omega)
    have hb := s.b k (by omega)
    have hr := sp_r (l := l) (m := m) k
    have hc : (((k + 1 : Nat)) : Rat) = (k : Rat) + 1 := by simp
    rw [hr, sumP_succ, hc]
    have e : ((T - (sumP p k + p.getD k 0) : Int) : Rat) = ((T - sumP p k : Int) : Rat) - ((p.getD k 0 : Int) : Rat) := by
      rw [← Int.sub_sub, Rat.intCast_sub]
    rw [e]
    cases ho : (l.getD k deal0).on m with
    | true =>
      rw [ho] at hb
      simp only [cond_true] at hb
      rw [xk, ho]
      simp only [cond_true]
      rw [hb] at o2
      obtain ⟨f1, f2⟩ := take_fl (shr l k) (T - sumP p k)
      rw [← o2] at f1 f2
      generalize ((T - sumP p k : Int) : Rat) = B at *
      generalize ((p.getD k 0 : Int) : Rat) = pk at *
      generalize (T : Rat) = t at *
      generalize (sp l m k).r = r at *
      generalize shr l k = q at *
      have n1 : 0 ≤ (1 - q) * (B - t * r) := Rat.mul_nonneg (by grind) (by grind)
      have n2 : 0 ≤ q * (B - t * r) := Rat.mul_nonneg q0 (by grind)
      constructor <;> grind
    | false =>
      rw [ho] at hb
      simp only [cond_false] at hb
      rw [hb, take_zero] at o2
      rw [xk, ho, o2]
      simp only [cond_false]
      have : ((0 : Int) : Rat) = 0 := rfl
      rw [this]
      constructor <;> grind
/-- What a deal has got, less its exact share. -/
theorem seq_near (hd : ∀ d ∈ l, d.share.dig) (s : SeqI l m T o b p) {k : Nat} (hk : k < l.length) : ((p.getD k 0 : Int) : Rat) - xk l m k * (T : Rat) < (((k : Int) + 1 : Int) : Rat) ∧ -(((p.getD k 0 : Int) : Rat) - xk l m k * (T : Rat)) < (((k : Int) + 1 : Int) : Rat) := by
  obtain ⟨v, lb, lp, _, hok⟩ := right_parts hd s.r
  obtain ⟨h1, h2⟩ := seq_err hd s k (by omega)
  obtain ⟨o1, o2⟩ := hok k (by omega)
  obtain ⟨q0, q1⟩ := shr_bd v hd (i := k) (by omega)
  have hb := s.b k (by omega)
  have hc : (((k : Int) + 1 : Int) : Rat) = (k : Rat) + 1 := by rw [Rat.intCast_add]; rfl
  have hk0 : (0 : Rat) ≤ (k : Rat) := by exact_mod_cast Nat.zero_le k
  rw [hc]
  cases ho : (l.getD k deal0).on m with
  | true =>
    rw [ho] at hb
    simp only [cond_true] at hb
    rw [xk, ho]
    simp only [cond_true]
    rw [hb] at o2
    obtain ⟨f1, f2⟩ := take_fl (shr l k) (T - sumP p k)
    rw [← o2] at f1 f2
    generalize ((T - sumP p k : Int) : Rat) = B at *
    generalize ((p.getD k 0 : Int) : Rat) = pk at *
    generalize (T : Rat) = t at *
    generalize (sp l m k).r = r at *
    generalize shr l k = q at *
    generalize ((k : Nat) : Rat) = kk at *
    have n1 : 0 ≤ (1 - q) * (B - t * r) := Rat.mul_nonneg (by grind) (by grind)
    have n2 : 0 ≤ q * (B - t * r) := Rat.mul_nonneg q0 (by grind)
    constructor <;> grind
  | false =>
    rw [ho] at hb
    simp only [cond_false] at hb
    rw [hb, take_zero] at o2
    rw [xk, ho, o2]
    simp only [cond_false]
    have : ((0 : Int) : Rat) = 0 := rfl
    rw [this]
    constructor <;> grind
theorem xk_short (hv : validL l = true) (hd : ∀ d ∈ l, d.share.dig) {k : Nat} (hk : k < l.length) (hT : -9223372036854775808 ≤ T ∧ T ≤ 9223372036854775807) : short (xk l m k) ∧ short (xk l m k * (T : Rat)) ∧ ∀ n : Int, -9223372036854775808 ≤ n → n ≤ 9223372036854775807 → short ((n : Rat) - xk l m k * (T : Rat)) := by
  have hl := validL_len hv
  obtain ⟨x0, x1, xd⟩ := xk_bd (m := m) hv hd hk
  have xn := num_le_den x0 x1
  have d1 : ∀ z : Int, len16 ((((z : Int) : Rat).den : Nat) : Int) ≤ 1 := fun z => by
    rw [Rat.den_intCast]
    show (wh 1).l.length ≤ 1
    rw [wh_one]; decide
  have tn : len16 ((T : Rat)).num ≤ 4 := by rw [Rat.num_intCast]; exact len16_64 hT.1 hT.2
  obtain ⟨m1, m2⟩ := len_mul_parts (Nat.le_trans xn xd) tn xd (d1 T)
  refine ⟨short01 x0 x1 (by omega), short_lt (by omega) (by omega), fun n n1 n2 => ?_⟩
  have nn : len16 ((n : Rat)).num ≤ 4 := by rw [Rat.num_intCast]; exact len16_64 n1 n2
  have m1' : len16 (-(xk l m k * (T : Rat))).num ≤ 4 * k + 5 + 4 := by rw [Rat.neg_num, len16_neg]; exact m1
  have m2' : len16 ((-(xk l m k * (T : Rat))).den : Int) ≤ 4 * k + 5 + 1 := by rw [Rat.neg_den]; exact m2
  obtain ⟨g1, g2⟩ := len_add_parts (t := 4 * k + 5 + 5) nn m1' (d1 n) m2' (by omega) (by omega)
  rw [Rat.sub_eq_add_neg]
  exact short_lt (by omega) (by omega)
theorem short_neg {q : Rat} (h : short q) : short (-q) := ⟨by rw [Rat.neg_num, len16_neg]; exact h.1, by rw [Rat.neg_den]; exact h.2⟩
theorem cmpQ_lt {a b : Rat} (h : a < b) : cmpQ a b = -1 := by rw [cmpQ, if_pos h]
end
end An.S

/- Law 24: SplitShares: the exact shares, and what the deals have got. -/
namespace An.S
open Go Go.Proofs An
set_option maxHeartbeats 2000000
set_option maxRecDepth 100000
theorem fi23 : FnI Tryz.prog 23 := ⟨_, Tryz.func23, by kernel_rfl, rfl⟩
theorem fi24 : FnI Tryz.prog 24 := ⟨_, Tryz.func24, by kernel_rfl, rfl⟩
theorem fi27 : FnI Tryz.prog 27 := ⟨_, Tryz.func27, by kernel_rfl, rfl⟩
theorem c_SharesV (l : List Deal) (m : Int) (hd : ∀ d ∈ l, d.share.dig) (hv : validL l = true) (m0 : ¬ m < 0) (m1 : ¬ m > 1048576) : Ct Tryz.prog 21 [tL 7 true tDeal l, tI m] (tT [tL 4 true tFr (shQ l m), tI 0]) := by
  have h := c_Shares l m hd
  have e : shBad l m = false := by rw [shBad, hv, decide_eq_false m0, decide_eq_false (by omega)]; rfl
  rw [e] at h; exact h
theorem c_FAddV (a b : Rat) (f : Fr) (hf : f = fr b) (h1 : short a) (h2 : short b) (h3 : short (a + b)) : Ct Tryz.prog 23 [tFr (fr a), tFr f] (tT [tFr (fr (a + b)), tI 0]) := by
  have h := c_FAdd a b h1 h2
  rw [resF, resFE, if_pos h3, if_pos h3] at h
  rw [hf]; exact h
theorem c_FMulW (a b : Rat) (f : Fr) (hf : f = fr a) (h1 : short a) (h2 : short b) (h3 : short (a * b)) : Ct Tryz.prog 25 [tFr f, tFr (fr b)] (tT [tFr (fr (a * b)), tI 0]) := by
  have h := c_FMul a b h1 h2
  rw [resF, resFE, if_pos h3, if_pos h3] at h
  rw [hf]; exact h
theorem c_FCmpL (a b : Rat) (h1 : short a) (h2 : short b) (h : a < b) : Ct Tryz.prog 28 [tFr (fr a), tFr (fr b)] (tI (-1)) := by
  have hc := c_FCmp a b h1 h2
  rw [cmpQ_lt h] at hc; exact hc
theorem c_FSame1 (a b : Rat) (h : a = b) : Ct Tryz.prog 24 [tFr (fr a), tFr (fr b)] (tB true) := by
  subst h
  have h := c_FSame (fr a) (fr a)
  rw [decide_eq_true rfl] at h; exact h
theorem ps_end1 {l : List Deal} {m : Int} : ps l m (l.length + 1) = ((1 : Int) : Rat) := ps_end
theorem xn_neg {l : List Deal} {m : Int} {i : Nat} (hv : validL l = true) (hd : ∀ d ∈ l, d.share.dig) (hi : i < l.length + 1) : ((shQ l m).getD i fr0).n.neg = false := by
  rw [shQ_at hv hd hi]
  have h := (xv_bd (m := m) hv hd hi).1
  have := Rat.num_nonneg.2 h
  exact decide_eq_false (by omega)
theorem short_i {n : Int} (h1 : -9223372036854775808 ≤ n) (h2 : n ≤ 9223372036854775807) : short (n : Rat) := short_int (Nat.le_trans (len16_64 h1 h2) (by decide))
theorem c_SplitShares (l : List Deal) (m : Int) (us : List Int) (hd : ∀ d ∈ l, d.share.dig) :
    Ct Tryz.prog 6 [tL 7 true tDeal l, tI m, tIs us] (tB true) := by
  refine Ct.intro Tryz.func6 rfl Tryz.ntmps6 rfl ?_
  intro w F
  refine C_len (s := 0) rfl (fun hl0 => ?_)
  refine C_len (s := 2) rfl (fun hl1 => ?_)
  refine C_seq ?_
  refine C_reg ?_
  refine R1 d_assign rfl ?_
  refine R_nil (by kernel_rfl) ?_
  refine K_then ?_
  refine C_seq ?_
  refine C_seq ?_
  refine C_reg ?_
  refine R0 (d_call c_awake fi11 rfl)  ?_
  refine R1 d_not rfl ?_
  refine R_nil (by kernel_rfl) ?_
  refine K_then ?_
  refine C_bF rfl rfl ?_
  refine C_skip ?_
  refine K_then ?_
  refine C_seq ?_
  refine C_seq ?_
  refine C_reg ?_
  refine R1 d_move rfl ?_
  refine R3 (d_call (c_large24 l 16 4) fi12 rfl) rfl rfl rfl ?_
  refine R1 d_move rfl ?_
  refine RGcase (t := 30) rfl (fun h125 => ?_) (fun h125 => ?_)
  ·
    refine RGoff h125 rfl rfl ?_
    refine RGoff h125 rfl rfl ?_
    refine RGoff h125 rfl rfl ?_
    refine R2 (d_pickT h125) rfl rfl ?_
    refine R1 d_move rfl ?_
    refine RGoff1 rfl rfl ?_
    refine RGoff1 rfl rfl ?_
    refine RGoff1 rfl rfl ?_
    refine R2 (d_pickT rfl) rfl rfl ?_
    refine R1 d_move rfl ?_
    refine RGoff1 rfl rfl ?_
    refine RGoff1 rfl rfl ?_
    refine R2 (d_pickT rfl) rfl rfl ?_
    refine R1 d_move rfl ?_
    refine RGoff1 rfl rfl ?_
    refine RGoff1 rfl rfl ?_
    refine R2 (d_pickT rfl) rfl rfl ?_
    refine R_nil (by kernel_rfl) ?_
    refine K_then ?_
    refine C_bT rfl rfl ?_
    refine C_seq ?_
    refine C_reg ?_
    refine R1 d_assign rfl ?_
    refine R_nil (by kernel_rfl) ?_
    refine K_then ?_
    refine C_ret ?_
    refine K_retT ?_
    exact E_ret1 Plain.mk' rfl rfl Le.refl
  ·
    refine RGon h125 rfl d_move rfl ⟨rfl, trivial⟩ trivial trivial ?_
    refine RGon h125 rfl (d_len Tryz.underlying23) rfl ⟨rfl, trivial⟩ trivial trivial ?_
    refine RGon h125 rfl d_gtr rfl ⟨rfl, rfl, trivial⟩ trivial trivial ?_
    refine R2 (d_pickF h125) rfl rfl ?_
    refine R1 d_move rfl ?_
    refine RGcaseD (t := 35) rfl (fun h125_2 => ?_) (fun h125_2 => ?_)
    ·
      refine RGoff (decide_eq_true h125_2) rfl rfl ?_
      refine RGoff (decide_eq_true h125_2) rfl rfl ?_
      refine RGoff (decide_eq_true h125_2) rfl rfl ?_
      refine R2 (d_pickT (decide_eq_true h125_2)) rfl rfl ?_
      refine R1 d_move rfl ?_
      refine RGoff1 rfl rfl ?_
      refine RGoff1 rfl rfl ?_
      refine R2 (d_pickT rfl) rfl rfl ?_
      refine R1 d_move rfl ?_
      refine RGoff1 rfl rfl ?_
      refine RGoff1 rfl rfl ?_
      refine R2 (d_pickT rfl) rfl rfl ?_
      refine R_nil (by kernel_rfl) ?_
      refine K_then ?_
      refine C_bT rfl rfl ?_
      refine C_seq ?_
      refine C_reg ?_
      refine R1 d_assign rfl ?_
      refine R_nil (by kernel_rfl) ?_
      refine K_then ?_
      refine C_ret ?_
      refine K_retT ?_
      exact E_ret1 Plain.mk' rfl rfl Le.refl
    ·
      refine RGon (decide_eq_false h125_2) rfl d_move rfl ⟨rfl, trivial⟩ trivial trivial ?_
      refine RGon (decide_eq_false h125_2) rfl (d_call (c_SValid l hd) fi19 rfl) rfl ⟨rfl, trivial⟩ trivial trivial ?_
      refine RGon (decide_eq_false h125_2) rfl d_not rfl ⟨rfl, trivial⟩ trivial trivial ?_
      refine R2 (d_pickF (decide_eq_false h125_2)) rfl rfl ?_
      refine R1 d_move rfl ?_
      refine RGcase (t := 40) rfl (fun h125_3 => ?_) (fun h125_3 => ?_)
      ·
        refine RGoff h125_3 rfl rfl ?_
        refine RGoff h125_3 rfl rfl ?_
        refine R2 (d_pickT h125_3) rfl rfl ?_
        refine R1 d_move rfl ?_
        refine RGoff1 rfl rfl ?_
        refine RGoff1 rfl rfl ?_
        refine R2 (d_pickT rfl) rfl rfl ?_
        refine R_nil (by kernel_rfl) ?_
        refine K_then ?_
        refine C_bT rfl rfl ?_
        refine C_seq ?_
        refine C_reg ?_
        refine R1 d_assign rfl ?_
        refine R_nil (by kernel_rfl) ?_
        refine K_then ?_
        refine C_ret ?_
        refine K_retT ?_
        exact E_ret1 Plain.mk' rfl rfl Le.refl
      ·
        have hv : validL l = true := by rw [Bool.not_eq_false'] at h125_3; exact h125_3
        refine RGon h125_3 rfl d_move rfl ⟨rfl, trivial⟩ trivial trivial ?_
        refine RGon h125_3 rfl d_lss rfl ⟨rfl, rfl, trivial⟩ trivial trivial ?_
        refine R2 (d_pickF h125_3) rfl rfl ?_
        refine R1 d_move rfl ?_
        refine RGcaseD (t := 44) rfl (fun h125_4 => ?_) (fun h125_4 => ?_)
        ·
          refine RGoff (decide_eq_true h125_4) rfl rfl ?_
          refine RGoff (decide_eq_true h125_4) rfl rfl ?_
          refine R2 (d_pickT (decide_eq_true h125_4)) rfl rfl ?_
          refine R_nil (by kernel_rfl) ?_
          refine K_then ?_
          refine C_bT rfl rfl ?_
          refine C_seq ?_
          refine C_reg ?_
          refine R1 d_assign rfl ?_
          refine R_nil (by kernel_rfl) ?_
          refine K_then ?_
          refine C_ret ?_
          refine K_retT ?_
          exact E_ret1 Plain.mk' rfl rfl Le.refl
        ·
          refine RGon (decide_eq_false h125_4) rfl d_move rfl ⟨rfl, trivial⟩ trivial trivial ?_
          refine RGon (decide_eq_false h125_4) rfl d_gtr rfl ⟨rfl, rfl, trivial⟩ trivial trivial ?_
          refine R2 (d_pickF (decide_eq_false h125_4)) rfl rfl ?_
          refine R_nil (by kernel_rfl) ?_
          refine K_then ?_
          refine C_if rfl (fun h125_5 => ?_) (fun h125_5 => ?_)
          ·
            refine C_seq ?_
            refine C_reg ?_
            refine R1 d_assign rfl ?_
            refine R_nil (by kernel_rfl) ?_
            refine K_then ?_
            refine C_ret ?_
            refine K_retT ?_
            exact E_ret1 Plain.mk' rfl rfl Le.refl
          ·
            refine C_skip ?_
            refine K_then ?_
            refine C_seq ?_
            refine C_reg ?_
            refine R1 d_move rfl ?_
            refine R1 d_move rfl ?_
            refine R2 (d_call (c_SharesV l m hd hv h125_4 h125_5) fi21 rfl) rfl rfl ?_
            refine R1 d_move rfl ?_
            refine R1 (d_extract rfl) rfl ?_
            refine R1 (d_extract rfl) rfl ?_
            refine R1 d_assign rfl ?_
            refine R1 d_assign rfl ?_
            refine R_nil (by kernel_rfl) ?_
            refine K_then ?_
            refine C_seq ?_
            refine C_reg ?_
            refine R1 d_move rfl ?_
            refine R1 (d_call (c_SNewV l hd hv) fi20 rfl) rfl ?_
            refine R1 d_move rfl ?_
            refine R1 (d_extract rfl) rfl ?_
            refine R1 (d_extract rfl) rfl ?_
            refine RE (d_alloc (k := 9) (n := 3) (agg := true) zr25.1 zr25.2 rfl) trivial trivial ⟨rfl, trivial⟩ ?_
            refine RE (d_store (es := 3) (agg := true) (0) ti25 rfl rfl rfl) ⟨rfl, rfl, trivial⟩ ⟨rfl, trivial⟩ trivial ?_
            refine R1 d_assign rfl ?_
            refine R_nil (by kernel_rfl) ?_
            refine K_then ?_
            refine C_seq ?_
            refine C_seq ?_
            have hq := shQ_len (m := m) hv hd
            have hl16 := validL_len hv
            refine C_reg ?_
            refine R1 d_move rfl ?_
            refine R2 d_neq rfl rfl ?_
            refine R1 d_move rfl ?_
            refine RGon (decide_eq_false (by omega)) rfl d_move rfl ⟨rfl, trivial⟩ trivial trivial ?_
            refine RGon (decide_eq_false (by omega)) rfl d_neq rfl ⟨rfl, rfl, trivial⟩ trivial trivial ?_
            refine R2 (d_pickF (decide_eq_false (by omega))) rfl rfl ?_
            refine R1 d_move rfl ?_
            refine RGon (decide_eq_false (by omega)) rfl d_move rfl ⟨rfl, trivial⟩ trivial trivial ?_
            refine RGon (decide_eq_false (by omega)) rfl (d_len Tryz.underlying43) rfl ⟨rfl, trivial⟩ trivial trivial ?_
            refine RGon (decide_eq_false (by omega)) rfl d_move rfl ⟨rfl, trivial⟩ trivial trivial ?_
            refine RGon (decide_eq_false (by omega)) rfl (d_len Tryz.underlying22) rfl ⟨rfl, trivial⟩ trivial trivial ?_
            refine RGon (decide_eq_false (by omega)) rfl (d_add (by first | exact wr64 (by omega) (by omega))) rfl ⟨rfl, rfl, trivial⟩ trivial trivial ?_
            refine RGon (decide_eq_false (by omega)) rfl d_neq rfl ⟨rfl, rfl, trivial⟩ trivial trivial ?_
            refine R2 (d_pickF (decide_eq_false (by omega))) rfl rfl ?_
            refine R_nil (by kernel_rfl) ?_
            refine K_then ?_
            refine C_bF rfl (decide_eq_false (by omega)) ?_
            refine C_skip ?_
            refine K_then ?_
            refine C_seq ?_
            refine C_reg ?_
            refine R1 (d_call (c_FFromInt 0 (by decide) (by decide)) fi22 rfl) rfl ?_
            refine RE (d_alloc (k := 11) (n := 4) (agg := true) zr50.1 zr50.2 rfl) trivial trivial ⟨rfl, trivial⟩ ?_
            refine RE (d_store (es := 4) (agg := true) (0) ti50 rfl rfl rfl) ⟨rfl, rfl, trivial⟩ ⟨rfl, trivial⟩ trivial ?_
            refine R_nil (by kernel_rfl) ?_
            refine K_then ?_
            refine C_seq ?_
            refine C_seq ?_
            refine C_reg ?_
            refine R1 d_assign rfl ?_
            refine R_nil (by kernel_rfl) ?_
            refine K_then ?_
            refine C_block ?_
            refine C_loop (fun (i : Nat) => i ≤ l.length + 1) (fun (i : Nat) => upd (upd (upd (upd (upd (upd (upd (fun _ => none) 0 (some (.val (tL 7 true tDeal l)))) 1 (some (.val (tI m)))) 2 (some (.val (tIs us)))) 7 (some (.val (tL 4 true tFr (shQ l m))))) 9 (some (.own (.ptr 9 0)))) 11 (some (.own (.ptr 11 0)))) 12 (some (.val (tI i)))) (fun (i : Nat) => upd (upd (fun _ => none) 9 (some (⟨25, 3, true, [.val (tState 0 (List.replicate l.length (0 : Int)) (List.replicate l.length (0 : Int)))]⟩))) 11 (some (⟨50, 4, true, [.val (tFr (fr (ps l m i)))]⟩))) (nm [9, 11]) (fun (i : Nat) => l.length + 1 - i) (0) (Nat.zero_le _) (Sub.int rfl (by first | omega | rfl | (dsimp only; omega)) (Sub.cons rfl (Sub.cons rfl (Sub.cons rfl (Sub.cons rfl (Sub.int rfl (by first | omega | rfl | (dsimp only; omega)) (Sub.cons rfl Sub.nil))))))) (SubK.cons rfl (SubK.cons rfl SubK.nil)) (SupG.val (SupG.own rfl (SupG.own rfl (SupG.val (SupG.val (SupG.val (SupG.val SupG.nil))))))) (SupH.cons rfl (supJL rfl) (SupH.cons rfl (supJL rfl) SupH.nil)) (lkOk rfl) ?_
            intro i hI
            refine C_seq ?_
            refine C_seq ?_
            refine C_reg ?_
            refine R1 d_move rfl ?_
            refine R1 d_move rfl ?_
            refine R1 (d_len Tryz.underlying43) rfl ?_
            refine R2 d_lss rfl rfl ?_
            refine R_nil (by kernel_rfl) ?_
            refine K_then ?_
            refine C_if rfl (fun h134 => ?_) (fun h134 => ?_)
            ·
              refine C_skip ?_
              refine K_then ?_
              refine C_seq ?_
              refine C_block ?_
              refine C_seq ?_
              have hx := short01 (xv_bd (m := m) hv hd (i := i) (by omega)).1 (xv_bd (m := m) hv hd (i := i) (by omega)).2.1 (Nat.le_trans (xv_bd (m := m) hv hd (i := i) (by omega)).2.2 (by decide))
              refine C_draw mixed ?_
              refine RE (d_load (0) ti50 rfl rfl) ⟨rfl, trivial⟩ ⟨rfl, trivial⟩ trivial ?_
              refine R1 d_move rfl ?_
              refine R1 d_move rfl ?_
              refine R2 (d_indexP sl43 (i) (by omega) (gD (l := shQ l m) (d := fr0) (by omega))) rfl rfl ?_
              refine R1 (d_loadP ti50) rfl ?_
              refine R2 (d_call (c_FAddV (ps l m i) (xv l m i) _ (shQ_at hv hd (by omega)) (ps_short hv hd (by omega)) hx (ps_next i ▸ ps_short hv hd (by omega))) fi23 rfl) rfl rfl ?_
              refine R1 d_move rfl ?_
              refine R1 (d_extract rfl) rfl ?_
              refine R1 (d_extract rfl) rfl ?_
              refine RE (d_store (es := 4) (agg := true) (0) ti50 rfl rfl rfl) ⟨rfl, rfl, trivial⟩ ⟨rfl, trivial⟩ trivial ?_
              refine R_end (by kernel_rfl) ?_
              refine K_then ?_
              refine C_seq ?_
              refine C_reg ?_
              refine R1 d_move rfl ?_
              refine R1 d_move rfl ?_
              refine R2 (d_indexP sl43 (i) (by omega) (gD (l := shQ l m) (d := fr0) (by omega))) rfl rfl ?_
              refine R1 (d_fieldP fo50_0 (At.f 0 rfl rfl) rfl) rfl ?_
              refine R1 (d_fieldP fo48_0 (At.f 0 rfl rfl) rfl) rfl ?_
              refine R1 (d_loadP ti4) rfl ?_
              refine R_nil (by kernel_rfl) ?_
              refine K_then ?_
              refine C_bF rfl (by exact xn_neg hv hd (by omega)) ?_
              refine C_skip ?_
              refine K_norB ?_
              refine K_then ?_
              refine C_reg ?_
              refine R1 d_move rfl ?_
              refine R2 (d_add (by first | exact wr64 (by omega) (by omega))) rfl rfl ?_
              refine R1 d_assign rfl ?_
              refine R_nil (by kernel_rfl) ?_
              exact K_fam (i + 1) ⟨(by omega), (by omega)⟩ (Sub.int rfl (by first | omega | rfl | (dsimp only; omega)) (Sub.cons rfl (Sub.cons rfl (Sub.cons rfl (Sub.cons rfl (Sub.int rfl (by first | omega | rfl | (dsimp only; omega)) (Sub.cons rfl Sub.nil))))))) (SubK.cons (by rw [← ps_next]; rfl) (SubK.cons rfl SubK.nil)) (SupG.val (SupG.own rfl (SupG.own rfl (SupG.val (SupG.val (SupG.val (SupG.val SupG.nil))))))) (SupH.cons rfl (supJL rfl) (SupH.cons rfl (supJL rfl) SupH.nil)) (lkOk rfl)
            ·
              refine C_exit ?_
              refine K_exT ?_
              refine K_exT ?_
              refine K_exB ?_
              refine K_then ?_
              refine C_seq ?_
              refine C_reg ?_
              refine R1 d_assign rfl ?_
              refine R_nil (by kernel_rfl) ?_
              refine K_then ?_
              refine C_seq ?_
              refine C_seq ?_
              refine C_reg ?_
              refine R1 d_assign rfl ?_
              refine R_nil (by kernel_rfl) ?_
              refine K_then ?_
              refine C_block ?_
              refine C_loop (fun (fm : (Nat) × (Int) × (Int) × (List Int) × (List Int)) => (fun (i : Nat) (T : Int) (o : Int) (b : List Int) (p : List Int) => i ≤ us.length ∧ SeqI l m T o b p ∧ -(i * 1099511627776 : Int) ≤ T ∧ T ≤ (i * 1099511627776 : Int)) fm.1 fm.2.1 fm.2.2.1 fm.2.2.2.1 fm.2.2.2.2) (fun (fm : (Nat) × (Int) × (Int) × (List Int) × (List Int)) => (fun (i : Nat) (T : Int) (o : Int) (b : List Int) (p : List Int) => upd (upd (upd (upd (upd (upd (upd (upd (fun _ => none) 0 (some (.val (tL 7 true tDeal l)))) 1 (some (.val (tI m)))) 2 (some (.val (tIs us)))) 7 (some (.val (tL 4 true tFr (shQ l m))))) 9 (some (.own (.ptr 9 0)))) 11 (some (.own (.ptr 11 0)))) 13 (some (.val (tI T)))) 14 (some (.val (tI i)))) fm.1 fm.2.1 fm.2.2.1 fm.2.2.2.1 fm.2.2.2.2) (fun (fm : (Nat) × (Int) × (Int) × (List Int) × (List Int)) => (fun (i : Nat) (T : Int) (o : Int) (b : List Int) (p : List Int) => upd (upd (fun _ => none) 9 (some (⟨25, 3, true, [.val (tState o b p)]⟩))) 11 (some (⟨50, 4, true, [.val (tFr (fr (ps l m (l.length + 1))))]⟩))) fm.1 fm.2.1 fm.2.2.1 fm.2.2.2.1 fm.2.2.2.2) (nm [9, 11]) (fun (fm : (Nat) × (Int) × (Int) × (List Int) × (List Int)) => (fun (i : Nat) (T : Int) (o : Int) (b : List Int) (p : List Int) => us.length - i) fm.1 fm.2.1 fm.2.2.1 fm.2.2.2.1 fm.2.2.2.2) ((0, 0, 0, (List.replicate l.length (0 : Int)), (List.replicate l.length (0 : Int)))) (by dsimp only; exact ⟨Nat.zero_le _, seqI0 hv, by simp, by simp⟩) (Sub.int rfl (by first | omega | rfl | (dsimp only; omega)) (Sub.int rfl (by first | omega | rfl | (dsimp only; omega)) (Sub.cons rfl (Sub.cons rfl (Sub.cons rfl (Sub.cons rfl (Sub.int rfl (by first | omega | rfl | (dsimp only; omega)) (Sub.cons rfl Sub.nil)))))))) (SubK.cons (by rw [show i = l.length + 1 by omega]; rfl) (SubK.cons rfl SubK.nil)) (SupG.val (SupG.val (SupG.own rfl (SupG.own rfl (SupG.val (SupG.val (SupG.val (SupG.val SupG.nil)))))))) (SupH.cons rfl (supJL rfl) (SupH.cons rfl (supJL rfl) SupH.nil)) (lkOk rfl) ?_
              intro fm hI
              obtain ⟨i, T, o, b, p⟩ := fm
              replace hI : i ≤ us.length ∧ SeqI l m T o b p ∧ -(i * 1099511627776 : Int) ≤ T ∧ T ≤ (i * 1099511627776 : Int) := hI
              show wc _ _ _ _ (upd (upd (upd (upd (upd (upd (upd (upd (fun _ => none) 0 (some (.val (tL 7 true tDeal l)))) 1 (some (.val (tI m)))) 2 (some (.val (tIs us)))) 7 (some (.val (tL 4 true tFr (shQ l m))))) 9 (some (.own (.ptr 9 0)))) 11 (some (.own (.ptr 11 0)))) 13 (some (.val (tI T)))) 14 (some (.val (tI i)))) (upd (upd (fun _ => none) 9 (some (⟨25, 3, true, [.val (tState o b p)]⟩))) 11 (some (⟨50, 4, true, [.val (tFr (fr (ps l m (l.length + 1))))]⟩))) _
              obtain ⟨hi, hS, hT1, hT2⟩ := hI
              refine C_seq ?_
              refine C_seq ?_
              refine C_reg ?_
              refine R1 d_move rfl ?_
              refine R1 d_move rfl ?_
              refine R1 (d_len Tryz.underlying23) rfl ?_
              refine R2 d_lss rfl rfl ?_
              refine R_nil (by kernel_rfl) ?_
              refine K_then ?_
              refine C_if rfl (fun h141 => ?_) (fun h141 => ?_)
              ·
                refine C_skip ?_
                refine K_then ?_
                refine C_seq ?_
                refine C_block ?_
                refine C_seq ?_
                refine C_draw mixed ?_
                refine R1 d_move rfl ?_
                refine RE (d_load (0) ti25 rfl rfl) ⟨rfl, trivial⟩ ⟨rfl, trivial⟩ trivial ?_
                refine R1 d_move rfl ?_
                refine R1 d_move rfl ?_
                refine R1 d_move rfl ?_
                refine R2 (d_indexP sl23 (i) (by omega) (gZ (by omega))) rfl rfl ?_
                refine R1 (d_loadP ti3) rfl ?_
                refine RE (d_call (c_Step l o b p m _ hd) fi13 rfl) ⟨rfl, rfl, rfl, rfl, trivial⟩ trivial trivial ?_
                refine R1 d_move rfl ?_
                refine R1 (d_extract rfl) rfl ?_
                refine R1 (d_extract rfl) rfl ?_
                refine R1 (d_extract rfl) rfl ?_
                refine RE (d_alloc (k := 15) (n := 3) (agg := true) zr25.1 zr25.2 rfl) trivial trivial ⟨rfl, trivial⟩ ?_
                refine RE (d_store (es := 3) (agg := true) (0) ti25 rfl rfl rfl) ⟨rfl, rfl, trivial⟩ ⟨rfl, trivial⟩ trivial ?_
                refine R1 d_assign rfl ?_
                refine R1 d_assign rfl ?_
                refine R_end (by kernel_rfl) ?_
                refine K_then ?_
                refine C_seq ?_
                refine C_reg ?_
                refine R1 d_move rfl ?_
                refine R2 d_eql rfl rfl ?_
                refine R_nil (by kernel_rfl) ?_
                refine K_then ?_
                refine C_if rfl (fun h143 => ?_) (fun h143 => ?_)
                ·
                  have hE : stepE l o b p m (us.getD i 0) = 0 := by omega
                  have s1 := StepI.of hd hE
                  obtain ⟨a1, a2⟩ := wIn_iff.1 s1.wa
                  refine C_seq ?_
                  refine C_reg ?_
                  refine RE (d_load (0) ti25 rfl rfl) ⟨rfl, trivial⟩ ⟨rfl, trivial⟩ trivial ?_
                  refine RE (d_store (es := 3) (agg := true) (0) ti25 rfl rfl rfl) ⟨rfl, rfl, trivial⟩ ⟨rfl, trivial⟩ trivial ?_
                  refine R_nil (by kernel_rfl) ?_
                  refine K_then ?_
                  refine C_reg ?_
                  refine R1 d_move rfl ?_
                  refine R1 d_move rfl ?_
                  refine R1 d_move rfl ?_
                  refine R2 (d_indexP sl23 (i) (by omega) (gZ (by omega))) rfl rfl ?_
                  refine R1 (d_loadP ti3) rfl ?_
                  refine R2 (d_add (by first | exact wr64 (by omega) (by omega))) rfl rfl ?_
                  refine R1 d_assign rfl ?_
                  refine R_nil (by kernel_rfl) ?_
                  refine K_norB ?_
                  refine K_then ?_
                  refine C_reg ?_
                  refine R1 d_move rfl ?_
                  refine R2 (d_add (by first | exact wr64 (by omega) (by omega))) rfl rfl ?_
                  refine R1 d_assign rfl ?_
                  refine R_nil (by kernel_rfl) ?_
                  exact K_fam ((i + 1, T + (us.getD i 0), stepO l o b p m (us.getD i 0), stepB l o b p m (us.getD i 0), stepP l o b p m (us.getD i 0))) ⟨(by dsimp only; exact ⟨by omega, hS.next hd hE, by omega, by omega⟩), (by dsimp only; omega)⟩ (Sub.int rfl (by first | omega | rfl | (dsimp only; omega)) (Sub.int rfl (by first | omega | rfl | (dsimp only; omega)) (Sub.cons rfl (Sub.cons rfl (Sub.cons rfl (Sub.cons rfl (Sub.int rfl (by first | omega | rfl | (dsimp only; omega)) (Sub.cons rfl Sub.nil)))))))) (SubK.cons rfl (SubK.cons rfl SubK.nil)) (SupG.val (SupG.val (SupG.own rfl (SupG.own rfl (SupG.val (SupG.val (SupG.val (SupG.val SupG.nil)))))))) (SupH.cons rfl (supJL rfl) (SupH.cons rfl (supJL rfl) SupH.nil)) (lkOk rfl)
                ·
                  refine C_skip ?_
                  refine K_norB ?_
                  refine K_then ?_
                  refine C_reg ?_
                  refine R1 d_move rfl ?_
                  refine R2 (d_add (by first | exact wr64 (by omega) (by omega))) rfl rfl ?_
                  refine R1 d_assign rfl ?_
                  refine R_nil (by kernel_rfl) ?_
                  exact K_fam ((i + 1, T, o, b, p)) ⟨(by dsimp only; exact ⟨by omega, hS, by omega, by omega⟩), (by dsimp only; omega)⟩ (Sub.int rfl (by first | omega | rfl | (dsimp only; omega)) (Sub.int rfl (by first | omega | rfl | (dsimp only; omega)) (Sub.cons rfl (Sub.cons rfl (Sub.cons rfl (Sub.cons rfl (Sub.int rfl (by first | omega | rfl | (dsimp only; omega)) (Sub.cons rfl Sub.nil)))))))) (SubK.cons rfl (SubK.cons rfl SubK.nil)) (SupG.val (SupG.val (SupG.own rfl (SupG.own rfl (SupG.val (SupG.val (SupG.val (SupG.val SupG.nil)))))))) (SupH.cons rfl (supJL rfl) (SupH.cons rfl (supJL rfl) SupH.nil)) (lkOk rfl)
              ·
                refine C_exit ?_
                refine K_exT ?_
                refine K_exT ?_
                refine K_exB ?_
                refine K_then ?_
                refine C_seq ?_
                refine C_seq ?_
                obtain ⟨v1, v2, v3, v4, _⟩ := right_parts hd hS.r
                have hpb := right_in hd hS.r
                refine C_draw mixed ?_
                refine R1 (d_fieldO fo25_2 rfl) rfl ?_
                refine R_loadF (0) ti23 rfl rfl rfl (At.g 2 rfl rfl) rfl ?_
                refine R1 (d_len Tryz.underlying23) rfl ?_
                refine R1 d_move rfl ?_
                refine R1 (d_len Tryz.underlying22) rfl ?_
                refine R2 d_neq rfl rfl ?_
                refine R1 d_move rfl ?_
                refine RGon (decide_eq_false (by omega)) rfl (d_load (0) ti50 rfl rfl) rfl ⟨rfl, trivial⟩ ⟨rfl, trivial⟩ trivial ?_
                refine RGon (decide_eq_false (by omega)) rfl (d_call (c_FFromInt 1 (by decide) (by decide)) fi22 rfl) rfl ⟨rfl, trivial⟩ trivial trivial ?_
                refine RGon (decide_eq_false (by omega)) rfl (d_call (c_FSame1 (ps l m (l.length + 1)) ((1 : Int) : Rat) ps_end1) fi24 rfl) rfl ⟨rfl, rfl, trivial⟩ trivial trivial ?_
                refine RGon (decide_eq_false (by omega)) rfl d_not rfl ⟨rfl, trivial⟩ trivial trivial ?_
                refine R2 (d_pickF (decide_eq_false (by omega))) rfl rfl ?_
                refine R_end (by kernel_rfl) ?_
                refine K_then ?_
                refine C_bF rfl rfl ?_
                refine C_skip ?_
                refine K_then ?_
                refine C_seq ?_
                refine C_seq ?_
                refine C_reg ?_
                refine R1 d_assign rfl ?_
                refine R_nil (by kernel_rfl) ?_
                refine K_then ?_
                refine C_block ?_
                refine C_loop (fun (k : Nat) => k ≤ l.length) (fun (k : Nat) => upd (upd (upd (upd (upd (fun _ => none) 0 (some (.val (tL 7 true tDeal l)))) 7 (some (.val (tL 4 true tFr (shQ l m))))) 9 (some (.own (.ptr 9 0)))) 13 (some (.val (tI T)))) 18 (some (.val (tI k)))) (fun (k : Nat) => upd (fun _ => none) 9 (some (⟨25, 3, true, [.val (tState o b p)]⟩))) (nm [9]) (fun (k : Nat) => l.length - k) (0) (Nat.zero_le _) (Sub.int rfl (by first | omega | rfl | (dsimp only; omega)) (Sub.int rfl (by first | omega | rfl | (dsimp only; omega)) (Sub.cons rfl (Sub.cons rfl (Sub.cons rfl Sub.nil))))) (SubK.cons rfl SubK.nil) (SupG.val (SupG.val (SupG.own rfl (SupG.val (SupG.val SupG.nil))))) (SupH.cons rfl (supJL rfl) SupH.nil) (lkOk rfl) ?_
                intro k hI
                refine C_seq ?_
                refine C_seq ?_
                refine C_reg ?_
                refine R1 d_move rfl ?_
                refine R1 d_move rfl ?_
                refine R1 (d_len Tryz.underlying22) rfl ?_
                refine R2 d_lss rfl rfl ?_
                refine R_nil (by kernel_rfl) ?_
                refine K_then ?_
                refine C_if rfl (fun h151 => ?_) (fun h151 => ?_)
                ·
                  refine C_skip ?_
                  refine K_then ?_
                  refine C_seq ?_
                  refine C_block ?_
                  refine C_seq ?_
                  obtain ⟨hs1, hs2, hs3⟩ := xk_short (m := m) (T := T) hv hd (k := k) (by omega) ⟨by omega, by omega⟩
                  obtain ⟨p1, p2⟩ := wIn_iff.1 (hpb k (by omega)).2
                  replace hs3 := hs3 (p.getD k 0) (by omega) (by omega)
                  obtain ⟨hn1, hn2⟩ := seq_near hd hS (k := k) (by omega)
                  refine C_draw mixed ?_
                  refine R1 d_move rfl ?_
                  refine R1 d_move rfl ?_
                  refine R2 (d_add (by first | exact wr64 (by omega) (by omega))) rfl rfl ?_
                  refine R2 (d_indexP sl43 (k + 1) (by omega) (gD (l := shQ l m) (d := fr0) (by omega))) rfl rfl ?_
                  refine R1 (d_loadP ti50) rfl ?_
                  refine R1 d_move rfl ?_
                  refine R1 (d_call (c_FFromInt T (by omega) (by omega)) fi22 rfl) rfl ?_
                  refine R2 (d_call (c_FMulW (xk l m k) (T : Rat) _ (shQ_at (i := k + 1) hv hd (by omega)) hs1 (short_i (by omega) (by omega)) hs2) fi25 rfl) rfl rfl ?_
                  refine R1 d_move rfl ?_
                  refine R1 (d_extract rfl) rfl ?_
                  refine R1 (d_extract rfl) rfl ?_
                  refine RE (d_alloc (k := 19) (n := 4) (agg := true) zr50.1 zr50.2 rfl) trivial trivial ⟨rfl, trivial⟩ ?_
                  refine RE (d_store (es := 4) (agg := true) (0) ti50 rfl rfl rfl) ⟨rfl, rfl, trivial⟩ ⟨rfl, trivial⟩ trivial ?_
                  refine R1 d_assign rfl ?_
                  refine R_end (by kernel_rfl) ?_
                  refine K_then ?_
                  refine C_seq ?_
                  refine C_draw mixed ?_
                  refine R1 (d_fieldO fo25_2 rfl) rfl ?_
                  refine R_loadF (0) ti23 rfl rfl rfl (At.g 2 rfl rfl) rfl ?_
                  refine R1 d_move rfl ?_
                  refine R2 (d_indexP sl23 (k) (by omega) (gZ (by omega))) rfl rfl ?_
                  refine R1 (d_loadP ti3) rfl ?_
                  refine R1 (d_call (c_FFromInt (p.getD k 0) (by omega) (by omega)) fi22 rfl) rfl ?_
                  refine RE (d_load (0) ti50 rfl rfl) ⟨rfl, trivial⟩ ⟨rfl, trivial⟩ trivial ?_
                  refine R2 (d_call (c_FSubS ((p.getD k 0) : Rat) (xk l m k * (T : Rat)) (short_i (by omega) (by omega)) hs2 hs3) fi26 rfl) rfl rfl ?_
                  refine R1 d_move rfl ?_
                  refine R1 (d_extract rfl) rfl ?_
                  refine R1 (d_extract rfl) rfl ?_
                  refine RE (d_alloc (k := 21) (n := 4) (agg := true) zr50.1 zr50.2 rfl) trivial trivial ⟨rfl, trivial⟩ ?_
                  refine RE (d_store (es := 4) (agg := true) (0) ti50 rfl rfl rfl) ⟨rfl, rfl, trivial⟩ ⟨rfl, trivial⟩ trivial ?_
                  refine R1 d_assign rfl ?_
                  refine R_end (by kernel_rfl) ?_
                  refine K_then ?_
                  refine C_seq ?_
                  refine C_reg ?_
                  refine RE (d_load (0) ti50 rfl rfl) ⟨rfl, trivial⟩ ⟨rfl, trivial⟩ trivial ?_
                  refine R1 (d_call (c_FNeg ((((p.getD k 0) : Int) : Rat) - (xk l m k * (T : Rat))) hs3) fi27 rfl) rfl ?_
                  refine R1 d_move rfl ?_
                  refine R1 (d_extract rfl) rfl ?_
                  refine R1 (d_extract rfl) rfl ?_
                  refine RE (d_alloc (k := 23) (n := 4) (agg := true) zr50.1 zr50.2 rfl) trivial trivial ⟨rfl, trivial⟩ ?_
                  refine RE (d_store (es := 4) (agg := true) (0) ti50 rfl rfl rfl) ⟨rfl, rfl, trivial⟩ ⟨rfl, trivial⟩ trivial ?_
                  refine R1 d_assign rfl ?_
                  refine R_nil (by kernel_rfl) ?_
                  refine K_then ?_
                  refine C_seq ?_
                  refine C_reg ?_
                  refine R1 d_move rfl ?_
                  refine R2 (d_add (by first | exact wr64 (by omega) (by omega))) rfl rfl ?_
                  refine R1 (d_call (c_FFromInt ((k : Int) + 1) (by omega) (by omega)) fi22 rfl) rfl ?_
                  refine RE (d_alloc (k := 25) (n := 4) (agg := true) zr50.1 zr50.2 rfl) trivial trivial ⟨rfl, trivial⟩ ?_
                  refine RE (d_store (es := 4) (agg := true) (0) ti50 rfl rfl rfl) ⟨rfl, rfl, trivial⟩ ⟨rfl, trivial⟩ trivial ?_
                  refine R_nil (by kernel_rfl) ?_
                  refine K_then ?_
                  refine C_seq ?_
                  refine C_reg ?_
                  refine RE (d_load (0) ti50 rfl rfl) ⟨rfl, trivial⟩ ⟨rfl, trivial⟩ trivial ?_
                  refine RE (d_load (0) ti50 rfl rfl) ⟨rfl, trivial⟩ ⟨rfl, trivial⟩ trivial ?_
                  refine R2 (d_call (c_FCmpL _ _ hs3 (short_i (by omega) (by omega)) hn1) fi28 rfl) rfl rfl ?_
                  refine R2 d_geq rfl rfl ?_
                  refine R1 d_move rfl ?_
                  refine RGon (decide_eq_false (by omega)) rfl (d_load (0) ti50 rfl rfl) rfl ⟨rfl, trivial⟩ ⟨rfl, trivial⟩ trivial ?_
                  refine RGon (decide_eq_false (by omega)) rfl (d_load (0) ti50 rfl rfl) rfl ⟨rfl, trivial⟩ ⟨rfl, trivial⟩ trivial ?_
                  refine RGon (decide_eq_false (by omega)) rfl (d_call (c_FCmpL _ _ (short_neg hs3) (short_i (by omega) (by omega)) hn2) fi28 rfl) rfl ⟨rfl, rfl, trivial⟩ trivial trivial ?_
                  refine RGon (decide_eq_false (by omega)) rfl d_geq rfl ⟨rfl, rfl, trivial⟩ trivial trivial ?_
                  refine R2 (d_pickF (decide_eq_false (by omega))) rfl rfl ?_
                  refine R_nil (by kernel_rfl) ?_
                  refine K_then ?_
                  refine C_bF rfl (decide_eq_false (by omega)) ?_
                  refine C_skip ?_
                  refine K_norB ?_
                  refine K_then ?_
                  refine C_reg ?_
                  refine R1 d_move rfl ?_
                  refine R2 (d_add (by first | exact wr64 (by omega) (by omega))) rfl rfl ?_
                  refine R1 d_assign rfl ?_
                  refine R_nil (by kernel_rfl) ?_
                  exact K_fam (k + 1) ⟨(by omega), (by omega)⟩ (Sub.int rfl (by first | omega | rfl | (dsimp only; omega)) (Sub.int rfl (by first | omega | rfl | (dsimp only; omega)) (Sub.cons rfl (Sub.cons rfl (Sub.cons rfl Sub.nil))))) (SubK.cons rfl SubK.nil) (SupG.val (SupG.val (SupG.own rfl (SupG.val (SupG.val SupG.nil))))) (SupH.cons rfl (supJL rfl) SupH.nil) (lkOk rfl)
                ·
                  refine C_exit ?_
                  refine K_exT ?_
                  refine K_exT ?_
                  refine K_exB ?_
                  refine K_then ?_
                  refine C_seq ?_
                  refine C_reg ?_
                  refine R1 d_assign rfl ?_
                  refine R_nil (by kernel_rfl) ?_
                  refine K_then ?_
                  refine C_ret ?_
                  exact E_ret1 Plain.mk' rfl rfl Le.refl
end An.S
