/- Part 6 of a proof: Q7, Q8, Q9, Q10, Q11, Q12, Q13. -/
import Derived.Test.YtnacfpmbanimpaaGreatDoorS5
/- Law 9: what the laws are made of. -/
namespace An.S
open Go Go.Proofs An
set_option maxHeartbeats 2000000
theorem fi22 : FnI Tryz.prog 22 := ⟨_, Tryz.func22, by kernel_rfl, rfl⟩
theorem fi32 : FnI Tryz.prog 32 := ⟨_, Tryz.func32, by kernel_rfl, rfl⟩
theorem fi33 : FnI Tryz.prog 33 := ⟨_, Tryz.func33, by kernel_rfl, rfl⟩
theorem fi57 : FnI Tryz.prog 57 := ⟨_, Tryz.func57, by kernel_rfl, rfl⟩
def xc (n d : Int) : Va := ⟨3, fr (kfr n d), 0⟩
def pbF (m : List Nat) (k : Nat) (t : Int) : Int := t + if ((m.getD (3 * k) 0 : Nat) : Int) % 5 = 0 then ((m.getD (3 * k) 0 : Nat) : Int) % 40 else 0
def pbE (m : List Nat) (k : Nat) (t : Int) : Int := pbF m k t + 1 + ((m.getD (3 * k + 1) 0 : Nat) : Int) % 400
def pbV (m : List Nat) (k : Nat) : Va := xc (((m.getD (3 * k + 2) 0 : Nat) : Int) % 1000) 3
def pbS (m : List Nat) (k : Nat) (t : Int) : Tst := ⟨pbF m k t, pbE m k t, pbV m k⟩
def pbRun (m : List Nat) : Nat → Nat → List Tst → Int → List Tst
  | 0, _, out, _ => out
  | f + 1, k, out, t => if 3 * k + 2 < m.length ∧ k < 40 then pbRun m f (k + 1) (pst1 out (pbS m k t)) (pbE m k t) else out
def pbT (m : List Nat) : List Tst := pbRun m 41 0 [] 0
theorem pbRun_stop {m : List Nat} {k : Nat} {out : List Tst} {t : Int} {r : List Tst} (hk : k ≤ 40) (h : pbRun m (41 - k) k out t = r) (hs : ¬ (3 * k + 2 < m.length ∧ k < 40)) : out = r := by
  rw [show 41 - k = (40 - k) + 1 by omega, pbRun, if_neg hs] at h; exact h
theorem pbRun_next {m : List Nat} {k : Nat} {out : List Tst} {t : Int} {r : List Tst} (hk : k ≤ 40) (h : pbRun m (41 - k) k out t = r) (hs : 3 * k + 2 < m.length ∧ k < 40) : pbRun m (41 - (k + 1)) (k + 1) (pst1 out (pbS m k t)) (pbE m k t) = r := by
  rw [show 41 - k = (41 - (k + 1)) + 1 by omega, pbRun, if_pos hs] at h; exact h
theorem pbF_bd {m : List Nat} {k : Nat} {t : Int} : t ≤ pbF m k t ∧ pbF m k t ≤ t + 39 := by
  simp only [pbF]; split <;> omega
theorem pbE_bd {m : List Nat} {k : Nat} {t : Int} : pbF m k t < pbE m k t ∧ pbE m k t ≤ t + 439 := by
  have := pbF_bd (m := m) (k := k) (t := t)
  simp only [pbE]; omega
theorem pbS_lt {m : List Nat} {k : Nat} {t : Int} : (pbS m k t).lo < (pbS m k t).hi := pbE_bd.1
theorem xc_ok {D B n d x : Int} (hd : 0 < d) (e : n * D = x * d) (hD : 0 < D) (hDb : D ≤ 9223372036854775807) (h1 : -B ≤ x) (h2 : x ≤ B) (hB : B ≤ 9223372036854775807) : gOk 3 D B (xc n d) ∧ wt D (xc n d) = x := by
  have e2 : kfr n d = Rat.divInt x D := by
    rw [kfr_big (by omega)]
    exact (Rat.divInt_eq_divInt_iff (by omega) (by omega)).2 e
  rw [xc, e2]
  exact ⟨gOk.mk (.inr rfl) hD hDb h1 h2 hB, wt_is hD (rat_fr _)⟩
/-- A record of thirds. -/
abbrev isP (B : Int) (l : List Tst) : Prop := isG 3 3 B l ∧ ∀ s ∈ l, 0 ≤ wt 3 s.v
theorem pbV_ok (m : List Nat) (k : Nat) : gOk 3 3 999 (pbV m k) ∧ 0 ≤ wt 3 (pbV m k) := by
  have := xc_ok (D := 3) (B := 999) (n := ((m.getD (3 * k + 2) 0 : Nat) : Int) % 1000) (d := 3) (x := ((m.getD (3 * k + 2) 0 : Nat) : Int) % 1000) (by decide) rfl (by decide) (by decide) (by omega) (by omega) (by decide)
  refine ⟨this.1, ?_⟩
  have h2 := this.2
  rw [pbV, h2]; omega
theorem pst1_all {P : Va → Prop} {acc : List Tst} {s : Tst} (h : ∀ x ∈ acc, P x.v) (hs : P s.v) : ∀ x ∈ pst1 acc s, P x.v := by
  intro x hx
  rw [pst1] at hx
  split at hx
  · exact h x hx
  · split at hx
    · rename_i hc
      rcases List.mem_or_eq_of_mem_set hx with h1 | h1
      · exact h x h1
      · subst h1
        show P (acc.getD (acc.length - 1) tst0).v
        exact h _ (xe6 (by omega))
    · rcases List.mem_append.1 hx with h1 | h1
      · exact h x h1
      · rw [List.mem_singleton.1 h1]; exact hs
theorem pbRun_isP {m : List Nat} : ∀ (f k : Nat) (out : List Tst) (t : Int), f + k = 41 → isP 999 out → 0 ≤ t → t ≤ 439 * k → (0 < out.length → (out.getD (out.length - 1) tst0).hi ≤ t) → (isP 999 (pbRun m f k out t) ∧ (pbRun m f k out t).length ≤ out.length + f) ∧ (0 < (pbRun m f k out t).length → ((pbRun m f k out t).getD ((pbRun m f k out t).length - 1) tst0).hi ≤ 17999)
  | 0, k, out, t, hk, h, h0, ht, hl => ⟨⟨h, Nat.le_refl _⟩, fun hp => by have := hl hp; simp only [pbRun]; omega⟩
  | f + 1, k, out, t, hk, h, h0, ht, hl => by
    rw [pbRun]
    split
    · have hF := pbF_bd (m := m) (k := k) (t := t)
      have hE := pbE_bd (m := m) (k := k) (t := t)
      have hv := pbV_ok m k
      have h1 : isP 999 (An.pst1 out (pbS m k t)) := ⟨h.1.pst1 (by show 0 ≤ pbF m k t; omega) (by show pbE m k t ≤ 65536; omega) hv.1 fun hp => by have := hl hp; show _ ≤ pbF m k t; omega, pst1_all (P := fun v => 0 ≤ wt 3 v) h.2 hv.2⟩
      have h2 := pst1_last (l := out) (pbS_lt (m := m) (k := k) (t := t))
      have h3 := pbRun_isP (m := m) f (k + 1) _ (pbE m k t) (by omega) h1 (by omega) (by omega) fun _ => by rw [h2.2.1]; exact Int.le_refl _
      have h4 := pst1_len out (pbS m k t)
      exact ⟨⟨h3.1.1, by omega⟩, h3.2⟩
    · exact ⟨⟨h, by omega⟩, fun hp => by have := hl hp; omega⟩
theorem pbT_ok (m : List Nat) : isP 999 (pbT m) ∧ (pbT m).length ≤ 41 ∧ (0 < (pbT m).length → ((pbT m).getD ((pbT m).length - 1) tst0).hi ≤ 17999) := by
  have := pbRun_isP (m := m) 41 0 [] 0 rfl ⟨isG_nil, fun s hs => by cases hs⟩ (Int.le_refl _) (by decide) fun h => by cases h
  exact ⟨this.1.1, by have := this.1.2; simp at this; exact this, this.2⟩
/-! Thirds. -/
def thirdV (v : Va) : Int := (if v.f.n.l.length = 1 then ((v.f.n.l.getD 0 0 : Nat) : Int) else 0) * if v.f.d.l.length = 1 ∧ v.f.d.l.getD 0 0 = 1 then 3 else 1
theorem c_pay (a b n d : Int) (h1 : -9223372036854775808 ≤ n) (h2 : n ≤ 9223372036854775807) (h3 : -9223372036854775808 ≤ d) (h4 : d ≤ 9223372036854775807) :
  Ct Tryz.prog 57 [tI a, tI b, tI n, tI d] (tTs ⟨a, b, xc n d⟩) := by
 refine Ct.intro Tryz.func57 rfl Tryz.ntmps57 rfl ?_
 intro w F
 refine x6 ?_
 refine x8 ?_
 refine RE (xb4 (k := 8) (n := 8) (agg := true) zr41.1 zr41.2 rfl) trivial trivial ⟨rfl, trivial⟩ (x7 (by kernel_rfl) (x4 (x6 ?_)))
 refine x8 ?_
 refine R1 x3 rfl (R1 x3 rfl (R1 x3 rfl (R1 x3 rfl (R2 (xa1 (c_Cash n d h1 h2 h3 h4) fi22 rfl) rfl rfl (R3 (xc8 (r := tS [⟨1, false, tI a⟩, ⟨1, false, tI b⟩, ⟨6, true, tVa (xc n d)⟩]) (ts := [(0, tI a), (1, tI b), (2, tVa (xc n d))]) bu41 zr41.2 ⟨_, rfl⟩ rfl ⟨_, _, _, _, rfl, Up.f (fs := [⟨1, false, (tE (.int .i64 0))⟩, ⟨1, false, (tE (.int .i64 0))⟩, ⟨6, true, (tS [⟨1, false, (tE (.int .u8 0))⟩, ⟨4, true, (tS [⟨2, true, (tS [⟨1, false, (tE (.bool false))⟩, ⟨1, false, (tLm [])⟩])⟩, ⟨2, true, (tS [⟨1, false, (tE (.bool false))⟩, ⟨1, false, (tLm [])⟩])⟩])⟩, ⟨1, false, (tE (.int .i64 0))⟩])⟩]) (f := ⟨1, false, (tE (.int .i64 0))⟩) (fs' := [⟨1, false, tI a⟩, ⟨1, false, (tE (.int .i64 0))⟩, ⟨6, true, (tS [⟨1, false, (tE (.int .u8 0))⟩, ⟨4, true, (tS [⟨2, true, (tS [⟨1, false, (tE (.bool false))⟩, ⟨1, false, (tLm [])⟩])⟩, ⟨2, true, (tS [⟨1, false, (tE (.bool false))⟩, ⟨1, false, (tLm [])⟩])⟩])⟩, ⟨1, false, (tE (.int .i64 0))⟩])⟩]) 0 rfl rfl rfl, inferInstance, ⟨_, _, _, _, rfl, Up.f (fs := [⟨1, false, tI a⟩, ⟨1, false, (tE (.int .i64 0))⟩, ⟨6, true, (tS [⟨1, false, (tE (.int .u8 0))⟩, ⟨4, true, (tS [⟨2, true, (tS [⟨1, false, (tE (.bool false))⟩, ⟨1, false, (tLm [])⟩])⟩, ⟨2, true, (tS [⟨1, false, (tE (.bool false))⟩, ⟨1, false, (tLm [])⟩])⟩])⟩, ⟨1, false, (tE (.int .i64 0))⟩])⟩]) (f := ⟨1, false, (tE (.int .i64 0))⟩) (fs' := [⟨1, false, tI a⟩, ⟨1, false, tI b⟩, ⟨6, true, (tS [⟨1, false, (tE (.int .u8 0))⟩, ⟨4, true, (tS [⟨2, true, (tS [⟨1, false, (tE (.bool false))⟩, ⟨1, false, (tLm [])⟩])⟩, ⟨2, true, (tS [⟨1, false, (tE (.bool false))⟩, ⟨1, false, (tLm [])⟩])⟩])⟩, ⟨1, false, (tE (.int .i64 0))⟩])⟩]) 1 rfl rfl rfl, inferInstance, ⟨_, _, _, _, rfl, Up.f (fs := [⟨1, false, tI a⟩, ⟨1, false, tI b⟩, ⟨6, true, (tS [⟨1, false, (tE (.int .u8 0))⟩, ⟨4, true, (tS [⟨2, true, (tS [⟨1, false, (tE (.bool false))⟩, ⟨1, false, (tLm [])⟩])⟩, ⟨2, true, (tS [⟨1, false, (tE (.bool false))⟩, ⟨1, false, (tLm [])⟩])⟩])⟩, ⟨1, false, (tE (.int .i64 0))⟩])⟩]) (f := ⟨6, true, (tS [⟨1, false, (tE (.int .u8 0))⟩, ⟨4, true, (tS [⟨2, true, (tS [⟨1, false, (tE (.bool false))⟩, ⟨1, false, (tLm [])⟩])⟩, ⟨2, true, (tS [⟨1, false, (tE (.bool false))⟩, ⟨1, false, (tLm [])⟩])⟩])⟩, ⟨1, false, (tE (.int .i64 0))⟩])⟩) (fs' := [⟨1, false, tI a⟩, ⟨1, false, tI b⟩, ⟨6, true, tVa (xc n d)⟩]) 2 rfl rfl rfl, inferInstance, Le.refl⟩⟩⟩) rfl rfl rfl (RE (xa3 (es := 8) (agg := true) (0) ti41 rfl rfl rfl) ⟨rfl, rfl, trivial⟩ ⟨rfl, trivial⟩ trivial (x7 (by kernel_rfl) ?_)))))))
 refine x4 (xa0 ?_)
 exact xg8 Plain.mk' rfl ⟨_, _, _, _, _, rfl, rfl, ti41, Le.refl⟩
def exP : List Tst := [⟨0, 59, xc 100 1⟩, ⟨59, 90, xc 160 1⟩, ⟨90, 120, xc 130 1⟩, ⟨125, 200, xc 900 1⟩]
theorem c_example  :
  Ct Tryz.prog 30 [] (tL 8 true tTs exP) := by
 refine Ct.intro Tryz.func30 rfl Tryz.ntmps30 rfl ?_
 intro w F
 refine x6 ?_
 refine x8 ?_
 refine R1 x5 rfl (x7 (by kernel_rfl) (x4 (x6 ?_)))
 refine x8 ?_
 refine RE (xa1 (c_pay 0 59 100 1 (by decide) (by decide) (by decide) (by decide)) fi57 rfl) ⟨rfl, rfl, rfl, rfl, trivial⟩ trivial trivial (RE (xa1 (c_pay 59 90 160 1 (by decide) (by decide) (by decide) (by decide)) fi57 rfl) ⟨rfl, rfl, rfl, rfl, trivial⟩ trivial trivial (RE (xa1 (c_pay 90 120 130 1 (by decide) (by decide) (by decide) (by decide)) fi57 rfl) ⟨rfl, rfl, rfl, rfl, trivial⟩ trivial trivial (RE (xa1 (c_pay 125 200 900 1 (by decide) (by decide) (by decide) (by decide)) fi57 rfl) ⟨rfl, rfl, rfl, rfl, trivial⟩ trivial trivial (RE (xg0 (n := 4) (f := tTs) exP Tryz.underlying24 el41 zf41 rfl (fun _ => inferInstance) rfl rfl rfl) ⟨rfl, rfl, rfl, rfl, trivial⟩ trivial trivial (R1 x5 rfl (x7 (by kernel_rfl) (x4 ?_)))))))
 refine xa0 ?_
 exact xa4 Plain.mk' rfl rfl Le.refl
theorem c_asked (x y n : Int) :
  Ct Tryz.prog 11 [tI x, tI y, tI n] (tT [tI (x % 15000), tI (x % 15000 + y % 3001), tI (1 + n % 20)]) := by
 refine Ct.intro Tryz.func11 rfl Tryz.ntmps11 rfl ?_
 intro w F
 refine x6 ?_
 refine x8 ?_
 refine R1 x5 rfl (R1 x5 rfl (R1 x5 rfl (x7 (by kernel_rfl) (x4 (x6 ?_)))))
 refine x8 ?_
 refine R1 x3 rfl (R2 (xa1 (c_Pick x 15000 (by decide) (by decide)) fi33 rfl) rfl rfl (R1 x5 rfl (x7 (by kernel_rfl) (x4 (x6 ?_)))))
 refine x8 ?_
 refine R1 x3 rfl (R1 x3 rfl (R1 x3 rfl (R2 (xa1 (c_Pick y 3001 (by decide) (by decide)) fi33 rfl) rfl rfl (R2 (xb5 (wr64 (by omega) (by omega))) rfl rfl (R1 x3 rfl (R2 (xa1 (c_Pick n 20 (by decide) (by decide)) fi33 rfl) rfl rfl (R2 (xb5 (wr64 (by omega) (by omega))) rfl rfl ?_)))))))
 refine R1 x5 rfl (R1 x5 rfl (R1 x5 rfl (x7 (by kernel_rfl) (x4 (xa0 ?_)))))
 exact xf0 Plain.mk' (rs := [.tmp 6, .tmp 7, .tmp 8]) rfl rfl ⟨⟨_, rfl, Le.refl⟩, ⟨_, rfl, Le.refl⟩, ⟨_, rfl, Le.refl⟩, trivial⟩
theorem c_Built09 (m : List Nat) (hm : ∀ i, m.getD i 0 < 65536) :
  Ct Tryz.prog 10 [tLm m] (tL 8 true tTs (pbT m)) := by
 refine Ct.intro Tryz.func10 rfl Tryz.ntmps10 rfl ?_
 intro w F
 refine C_len (s := 0) rfl (fun hl0 => ?_)
 refine x6 ?_
 refine x8 ?_
 refine R1 x5 rfl (x7 (by kernel_rfl) (x4 (x6 ?_)))
 refine x8 ?_
 refine RE (d_assignN (k := 3) 41 8 true rfl (fun h => by cases h)) trivial trivial ⟨rfl, trivial⟩ (x7 (by kernel_rfl) (x4 (x6 ?_)))
 refine x8 ?_
 refine R1 x5 rfl (x7 (by kernel_rfl) (x4 (x6 (x6 ?_))))
 refine x8 ?_
 refine R1 x5 rfl (x7 (by kernel_rfl) (x4 (xb3 ?_)))
 refine xe0 (fun (fm : (Nat) × (List Tst) × (Int)) => (fun (k : Nat) (xs : List Tst) (t : Int) => k ≤ 40 ∧ pbRun m (41 - k) k xs t = pbT m ∧ xs.length ≤ k ∧ 0 ≤ t ∧ t ≤ 439 * k) fm.1 fm.2.1 fm.2.2) (fun (fm : (Nat) × (List Tst) × (Int)) => (fun (k : Nat) (xs : List Tst) (t : Int) => upd (upd (upd (upd (fun _ => none) 0 (some (.val (tLm m)))) 3 (some (.own (.sl 3 8 0 xs.length)))) 4 (some (.val (tI t)))) 5 (some (.val (tI (3 * (k : Int)))))) fm.1 fm.2.1 fm.2.2) (fun (fm : (Nat) × (List Tst) × (Int)) => (fun (k : Nat) (xs : List Tst) (t : Int) => upd (fun _ => none) 3 (some (⟨41, 8, true, rV tTs xs⟩))) fm.1 fm.2.1 fm.2.2) (nm [3]) (fun (fm : (Nat) × (List Tst) × (Int)) => (fun (k : Nat) (xs : List Tst) (t : Int) => 41 - k) fm.1 fm.2.1 fm.2.2) ((0, [], 0)) (by dsimp only; exact ⟨Nat.zero_le _, rfl, Nat.le_refl _, by omega, by omega⟩) (Sub.int rfl (by first | omega | rfl | (dsimp only; omega)) (Sub.int rfl (by first | omega | rfl | (dsimp only; omega)) (Sub.cons rfl (Sub.cons rfl Sub.nil)))) ((SubK.consI rfl ImpK.refl) SubK.nil) (SupG.val (SupG.val (SupG.own rfl (SupG.val SupG.nil)))) (SupH.cons rfl (supJ xe3) SupH.nil) (lkOk rfl) ?_
 intro fm hI
 obtain ⟨k, xs, t⟩ := fm
 replace hI : k ≤ 40 ∧ pbRun m (41 - k) k xs t = pbT m ∧ xs.length ≤ k ∧ 0 ≤ t ∧ t ≤ 439 * k := hI
 show wc _ _ _ _ (upd (upd (upd (upd (fun _ => none) 0 (some (.val (tLm m)))) 3 (some (.own (.sl 3 8 0 xs.length)))) 4 (some (.val (tI t)))) 5 (some (.val (tI (3 * (k : Int)))))) (upd (fun _ => none) 3 (some (⟨41, 8, true, rV tTs xs⟩))) _
 obtain ⟨hk, hb, hxl, ht0, ht1⟩ := hI
 have m0 := hm (3 * k)
 have m1 := hm (3 * k + 1)
 have m2 := hm (3 * k + 2)
 have hF := pbF_bd (m := m) (k := k) (t := t)
 have hE := pbE_bd (m := m) (k := k) (t := t)
 refine x6 (x6 ?_)
 refine x8 ?_
 refine R1 x3 rfl (R2 (xb5 (wr64 (by omega) (by omega))) rfl rfl (R1 x3 rfl (R1 (xc6 Tryz.underlying22) rfl (R2 xd8 rfl rfl (R1 x3 rfl ?_)))))
 refine RGcaseD (t := 15) rfl (fun h18 => ?_) (fun h18 => ?_)
 ·
  refine RGon (decide_eq_true h18) rfl x3 rfl ⟨rfl, trivial⟩ trivial trivial (RGon (decide_eq_true h18) rfl xd8 rfl ⟨rfl, rfl, trivial⟩ trivial trivial (R2 (xb2 (decide_eq_true h18)) rfl rfl (x7 (by kernel_rfl) (x4 ?_))))
  refine xc0 rfl (fun h18_2 => ?_) (fun h18_2 => ?_)
  ·
   refine xa5 (x4 (x6 (xb3 (x6 ?_))))
   refine x8 ?_
   refine R1 x3 rfl (R1 x5 rfl (x7 (by kernel_rfl) (x4 ?_)))
   refine C_join (fun (f : Int) => f = pbF m k t) (fun (f : Int) => upd (upd (upd (upd (fun _ => none) 0 (some (.val (tLm m)))) 3 (some (.own (.sl 3 8 0 xs.length)))) 5 (some (.val (tI (3 * (k : Int)))))) 6 (some (.val (tI f)))) (fun (f : Int) => upd (fun _ => none) 3 (some (⟨41, 8, true, rV tTs xs⟩))) (nm [3]) ?_ ?_
   ·
    refine x6 ?_
    refine x8 ?_
    refine R1 x3 rfl (R1 x3 rfl (R2 (xc1 sl22 (3 * k) (by omega) (gN (by omega))) rfl rfl (R1 (xc5 ti46) rfl (R2 (d_remP (by omega) (by omega)) rfl rfl (R2 xe5 rfl rfl (x7 (by kernel_rfl) (x4 ?_)))))))
    refine xc0 rfl (fun h20 => ?_) (fun h20 => ?_)
    ·
     refine x8 ?_
     refine R1 x3 rfl (R1 x3 rfl (R1 x3 rfl (R2 (xc1 sl22 (3 * k) (by omega) (gN (by omega))) rfl rfl (R1 (xc5 ti46) rfl (R1 (xb1 Tryz.underlying3 (isS Tryz.underlying46) (wr64 (by omega) (by omega))) rfl (R2 (d_remP (by omega) (by omega)) rfl rfl (R2 (xb5 (wr64 (by omega) (by omega))) rfl rfl ?_)))))))
     refine R1 x5 rfl (x7 (by kernel_rfl) ?_)
     exact xc3 (_) (by rw [pbF, if_pos h20]) (Sub.int rfl (by first | omega | rfl | (dsimp only; omega)) (Sub.int rfl (by first | omega | rfl | (dsimp only; omega)) (Sub.cons rfl (Sub.cons rfl Sub.nil)))) ((SubK.consI rfl ImpK.refl) SubK.nil) (SupG.val (SupG.val (SupG.own rfl (SupG.val SupG.nil)))) (SupH.cons rfl (supJ xe3) SupH.nil) (lkOk rfl)
    ·
     refine xa5 ?_
     exact xc3 (_) (by rw [pbF, if_neg h20, Int.add_zero]) (Sub.int rfl (by first | omega | rfl | (dsimp only; omega)) (Sub.int rfl (by first | omega | rfl | (dsimp only; omega)) (Sub.cons rfl (Sub.cons rfl Sub.nil)))) ((SubK.consI rfl ImpK.refl) SubK.nil) (SupG.val (SupG.val (SupG.own rfl (SupG.val SupG.nil)))) (SupH.cons rfl (supJ xe3) SupH.nil) (lkOk rfl)
   ·
    intro f hf
    refine x6 ?_
    subst hf
    refine xd5 mixed ?_
    refine R1 x3 rfl (R2 (xb5 (wr64 (by omega) (by omega))) rfl rfl (R1 x3 rfl (R1 x3 rfl (R2 (xb5 (wr64 (by omega) (by omega))) rfl rfl (R2 (xc1 sl22 (3 * k + 1) (by omega) (gN (by omega))) rfl rfl (R1 (xc5 ti46) rfl (R1 (xb1 Tryz.underlying3 (isS Tryz.underlying46) (wr64 (by omega) (by omega))) rfl ?_)))))))
    refine R2 (d_remP (by omega) (by omega)) rfl rfl (R2 (xb5 (wr64 (by omega) (by omega))) rfl rfl (R1 x3 rfl (R1 x3 rfl (R2 (xb5 (wr64 (by omega) (by omega))) rfl rfl (R2 (xc1 sl22 (3 * k + 2) (by omega) (gN (by omega))) rfl rfl (R1 (xc5 ti46) rfl (R1 (xb1 Tryz.underlying3 (isS Tryz.underlying46) (wr64 (by omega) (by omega))) rfl ?_)))))))
    refine R2 (d_remP (by omega) (by omega)) rfl rfl (R2 (xa1 (c_Cash (((m.getD (3 * k + 2) 0 : Nat) : Int) % 1000) 3 (by omega) (by omega) (by decide) (by decide)) fi22 rfl) rfl rfl (RE (xb4 (k := 8) (n := 6) (agg := true) zr39.1 zr39.2 rfl) trivial trivial ⟨rfl, trivial⟩ (R1 x5 rfl (RE (xa3 (es := 6) (agg := true) (0) ti39 rfl rfl rfl) ⟨rfl, rfl, trivial⟩ ⟨rfl, trivial⟩ trivial (xd7 (by kernel_rfl) (x4 (x6 ?_)))))))
    refine x6 ?_
    refine x8 ?_
    refine R1 x3 rfl (R1 (d_lenO Tryz.underlying24) rfl (R2 (xe1 (wr64 (by omega) (by omega))) rfl rfl (R1 x5 rfl (x7 (by kernel_rfl) (x4 (x6 ?_))))))
    refine xd5 mixed ?_
    refine R1 x3 rfl (R2 d_geq rfl rfl (R1 x3 rfl ?_))
    refine RGcaseD (t := 59) rfl (fun h24 => ?_) (fun h24 => ?_)
    ·
     refine RGon (decide_eq_true h24) rfl x3 rfl ⟨rfl, trivial⟩ trivial trivial (RGon (decide_eq_true h24) rfl x3 rfl ⟨rfl, trivial⟩ trivial trivial (RGon (decide_eq_true h24) rfl (xd0 sl24 (by omega) (by omega) rfl) rfl ⟨rfl, rfl, trivial⟩ trivial trivial (RGon (decide_eq_true h24) rfl (x9 fo41_1 rfl) rfl ⟨rfl, trivial⟩ trivial trivial (RGon (decide_eq_true h24) rfl (d_loadF (es := 8) (o := 1) (xs.length - 1) ti3 (rV_getD (d := tst0) (by omega)) (At.g 1 rfl rfl) (by omega)) rfl ⟨rfl, trivial⟩ ⟨rfl, trivial⟩ trivial (RGon (decide_eq_true h24) rfl x3 rfl ⟨rfl, trivial⟩ trivial trivial (RGon (decide_eq_true h24) rfl xe5 rfl ⟨rfl, rfl, trivial⟩ trivial trivial (R2 (xb2 (decide_eq_true h24)) rfl rfl ?_)))))))
     refine R1 x3 rfl ?_
     refine RGcaseD (t := 68) rfl (fun h24_2 => ?_) (fun h24_2 => ?_)
     ·
      refine RGon (decide_eq_true h24_2) rfl x3 rfl ⟨rfl, trivial⟩ trivial trivial (RGon (decide_eq_true h24_2) rfl x3 rfl ⟨rfl, trivial⟩ trivial trivial (RGon (decide_eq_true h24_2) rfl (xd0 sl24 (by omega) (by omega) rfl) rfl ⟨rfl, rfl, trivial⟩ trivial trivial (RGon (decide_eq_true h24_2) rfl (x9 fo41_2 rfl) rfl ⟨rfl, trivial⟩ trivial trivial (RGon (decide_eq_true h24_2) rfl (d_loadF (es := 8) (o := 2) (xs.length - 1) ti39 (rV_getD (d := tst0) (by omega)) (At.g 2 rfl rfl) (by omega)) rfl ⟨rfl, trivial⟩ ⟨rfl, trivial⟩ trivial (RGon (decide_eq_true h24_2) rfl (xa7 (0) ti39 rfl rfl) rfl ⟨rfl, trivial⟩ ⟨rfl, trivial⟩ trivial (RGon (decide_eq_true h24_2) rfl (xa1 (c_SameValue _ _) fi32 rfl) rfl ⟨rfl, rfl, trivial⟩ trivial trivial (R2 (xb2 (decide_eq_true h24_2)) rfl rfl ?_)))))))
      refine xd7 (by kernel_rfl) (x4 ?_)
      refine xc0 rfl (fun h24_3 => ?_) (fun h24_3 => ?_)
      ·
       refine x8 ?_
       refine R1 x3 rfl (R1 x3 rfl (R1 x3 rfl (R2 (xd0 sl24 (by omega) (by omega) rfl) rfl rfl (R1 (x9 fo41_1 rfl) rfl (RE (d_storeF (es := 8) (o := 1) (t2 := tTs ⟨(xs.getD (xs.length - 1) tst0).lo, (pbS m k t).hi, (xs.getD (xs.length - 1) tst0).v⟩) (xs.length - 1) ti3 (rV_getD (d := tst0) (by omega)) (Up.g 1 rfl rfl rfl) (by omega) (rV_set rfl)) ⟨rfl, rfl, trivial⟩ ⟨rfl, trivial⟩ trivial (x7 (by kernel_rfl) (x4 ?_)))))))
       refine x8 ?_
       refine R1 x3 rfl (R1 x5 rfl (x7 (by kernel_rfl) (xb9 (x4 ?_))))
       refine x8 ?_
       refine R1 x3 rfl (R2 (xb5 (wr64 (by omega) (by omega))) rfl rfl (R1 x5 rfl (x7 (by kernel_rfl) ?_)))
       have hpx : pst1 xs (pbS m k t) = (xs.set (xs.length - 1) ⟨(xs.getD (xs.length - 1) tst0).lo, (pbS m k t).hi, (xs.getD (xs.length - 1) tst0).v⟩) := by
        rw [pst1, if_neg (by have := pbS_lt (m := m) (k := k) (t := t); omega), if_pos ⟨by omega, by show _ = pbF m k t; omega, h24_3⟩]
       exact xc3 ((k + 1, (xs.set (xs.length - 1) ⟨(xs.getD (xs.length - 1) tst0).lo, (pbS m k t).hi, (xs.getD (xs.length - 1) tst0).v⟩), pbE m k t)) ⟨(by dsimp only; exact ⟨by omega, by rw [← hpx]; exact pbRun_next hk hb ⟨by omega, by omega⟩, by rw [List.length_set]; omega, by omega, by omega⟩), (by dsimp only; omega)⟩ (Sub.int rfl (by first | omega | rfl | (dsimp only; omega)) (Sub.int rfl (by first | omega | rfl | (dsimp only; omega)) ((Sub.consI rfl (Imp.of (by dsimp only; rw [List.length_set]))) (Sub.cons rfl Sub.nil)))) ((SubK.consI rfl ImpK.refl) SubK.nil) (SupG.val (SupG.val (SupG.own rfl (SupG.val SupG.nil)))) (SupH.cons rfl (supJ xe3) SupH.nil) (lkOk rfl)
      ·
       refine x8 ?_
       refine R1 x3 rfl (R1 x3 rfl (R1 x3 rfl (RE (xa7 (0) ti39 rfl rfl) ⟨rfl, trivial⟩ ⟨rfl, trivial⟩ trivial (R3 (xc8 (r := tS [⟨1, false, tI (pbS m k t).lo⟩, ⟨1, false, tI (pbS m k t).hi⟩, ⟨6, true, tVa (pbS m k t).v⟩]) (ts := [(0, tI (pbS m k t).lo), (1, tI (pbS m k t).hi), (2, tVa (pbS m k t).v)]) bu41 zr41.2 ⟨_, rfl⟩ rfl ⟨_, _, _, _, rfl, Up.f (fs := [⟨1, false, (tE (.int .i64 0))⟩, ⟨1, false, (tE (.int .i64 0))⟩, ⟨6, true, (tS [⟨1, false, (tE (.int .u8 0))⟩, ⟨4, true, (tS [⟨2, true, (tS [⟨1, false, (tE (.bool false))⟩, ⟨1, false, (tLm [])⟩])⟩, ⟨2, true, (tS [⟨1, false, (tE (.bool false))⟩, ⟨1, false, (tLm [])⟩])⟩])⟩, ⟨1, false, (tE (.int .i64 0))⟩])⟩]) (f := ⟨1, false, (tE (.int .i64 0))⟩) (fs' := [⟨1, false, tI (pbS m k t).lo⟩, ⟨1, false, (tE (.int .i64 0))⟩, ⟨6, true, (tS [⟨1, false, (tE (.int .u8 0))⟩, ⟨4, true, (tS [⟨2, true, (tS [⟨1, false, (tE (.bool false))⟩, ⟨1, false, (tLm [])⟩])⟩, ⟨2, true, (tS [⟨1, false, (tE (.bool false))⟩, ⟨1, false, (tLm [])⟩])⟩])⟩, ⟨1, false, (tE (.int .i64 0))⟩])⟩]) 0 rfl rfl rfl, inferInstance, ⟨_, _, _, _, rfl, Up.f (fs := [⟨1, false, tI (pbS m k t).lo⟩, ⟨1, false, (tE (.int .i64 0))⟩, ⟨6, true, (tS [⟨1, false, (tE (.int .u8 0))⟩, ⟨4, true, (tS [⟨2, true, (tS [⟨1, false, (tE (.bool false))⟩, ⟨1, false, (tLm [])⟩])⟩, ⟨2, true, (tS [⟨1, false, (tE (.bool false))⟩, ⟨1, false, (tLm [])⟩])⟩])⟩, ⟨1, false, (tE (.int .i64 0))⟩])⟩]) (f := ⟨1, false, (tE (.int .i64 0))⟩) (fs' := [⟨1, false, tI (pbS m k t).lo⟩, ⟨1, false, tI (pbS m k t).hi⟩, ⟨6, true, (tS [⟨1, false, (tE (.int .u8 0))⟩, ⟨4, true, (tS [⟨2, true, (tS [⟨1, false, (tE (.bool false))⟩, ⟨1, false, (tLm [])⟩])⟩, ⟨2, true, (tS [⟨1, false, (tE (.bool false))⟩, ⟨1, false, (tLm [])⟩])⟩])⟩, ⟨1, false, (tE (.int .i64 0))⟩])⟩]) 1 rfl rfl rfl, inferInstance, ⟨_, _, _, _, rfl, Up.f (fs := [⟨1, false, tI (pbS m k t).lo⟩, ⟨1, false, tI (pbS m k t).hi⟩, ⟨6, true, (tS [⟨1, false, (tE (.int .u8 0))⟩, ⟨4, true, (tS [⟨2, true, (tS [⟨1, false, (tE (.bool false))⟩, ⟨1, false, (tLm [])⟩])⟩, ⟨2, true, (tS [⟨1, false, (tE (.bool false))⟩, ⟨1, false, (tLm [])⟩])⟩])⟩, ⟨1, false, (tE (.int .i64 0))⟩])⟩]) (f := ⟨6, true, (tS [⟨1, false, (tE (.int .u8 0))⟩, ⟨4, true, (tS [⟨2, true, (tS [⟨1, false, (tE (.bool false))⟩, ⟨1, false, (tLm [])⟩])⟩, ⟨2, true, (tS [⟨1, false, (tE (.bool false))⟩, ⟨1, false, (tLm [])⟩])⟩])⟩, ⟨1, false, (tE (.int .i64 0))⟩])⟩) (fs' := [⟨1, false, tI (pbS m k t).lo⟩, ⟨1, false, tI (pbS m k t).hi⟩, ⟨6, true, tVa (pbS m k t).v⟩]) 2 rfl rfl rfl, inferInstance, Le.refl⟩⟩⟩) rfl rfl rfl (R1 (xg0 (n := 1) (f := tTs) [(pbS m k t)] Tryz.underlying24 el41 zf41 rfl (fun _ => inferInstance) rfl rfl rfl) rfl (RE (xf9 (k := 3) (k' := 88) (f := tTs) (ys := [(pbS m k t)]) (ts' := rV tTs (xs ++ [(pbS m k t)])) Tryz.underlying24 el41 zf41 rfl rfl (fun _ => inferInstance) rV_len (by simp; omega) (by simp; omega) (by simp [rV]) (n' := xs.length + 1) rfl) ⟨rfl, rfl, trivial⟩ ⟨rfl, trivial⟩ ⟨rfl, trivial⟩ (R1 x5 rfl ?_)))))))
       refine x7 (by kernel_rfl) (x4 ?_)
       refine x8 ?_
       refine R1 x3 rfl (R1 x5 rfl (x7 (by kernel_rfl) (xb9 (x4 ?_))))
       refine x8 ?_
       refine R1 x3 rfl (R2 (xb5 (wr64 (by omega) (by omega))) rfl rfl (R1 x5 rfl (x7 (by kernel_rfl) ?_)))
       have hpx : pst1 xs (pbS m k t) = xs ++ [(pbS m k t)] := by
        rw [pst1, if_neg (by have := pbS_lt (m := m) (k := k) (t := t); omega), if_neg (fun h => h24_3 h.2.2)]
       exact K_famR (l := [3]) (fun j => cond (Nat.beq j 3) 88 (j)) ((k + 1, xs ++ [(pbS m k t)], pbE m k t)) ⟨(by dsimp only; exact ⟨by omega, by rw [← hpx]; exact pbRun_next hk hb ⟨by omega, by omega⟩, by rw [List.length_append]; simp; omega, by omega, by omega⟩), (by dsimp only; omega)⟩ (SubR.int rfl (by first | omega | rfl | (dsimp only; omega)) (SubR.int rfl (by first | omega | rfl | (dsimp only; omega)) ((SubR.consI rfl (Imp.of (by dsimp only; rw [List.length_append]; rfl))) (SubR.cons rfl SubR.nil)))) ((SubKR.consI rfl (ImpK.of ren_rV.symm)) SubKR.nil) (SupG.val (SupG.val (SupG.own rfl (SupG.val SupG.nil)))) (SupH.cons rfl (supJ xe3) SupH.nil) (lkOk rfl) rfl rfl (fun _ h => by cases h)
     ·
      refine RGoff (decide_eq_false h24_2) rfl rfl (RGoff (decide_eq_false h24_2) rfl rfl (RGoff (decide_eq_false h24_2) rfl rfl (RGoff (decide_eq_false h24_2) rfl rfl (RGoff (decide_eq_false h24_2) rfl rfl (RGoff (decide_eq_false h24_2) rfl rfl (RGoff (decide_eq_false h24_2) rfl rfl (R2 (xa9 (decide_eq_false h24_2)) rfl rfl ?_)))))))
      refine xd7 (by kernel_rfl) (x4 (C_bF rfl rfl ?_))
      refine x8 ?_
      refine R1 x3 rfl (R1 x3 rfl (R1 x3 rfl (RE (xa7 (0) ti39 rfl rfl) ⟨rfl, trivial⟩ ⟨rfl, trivial⟩ trivial (R3 (xc8 (r := tS [⟨1, false, tI (pbS m k t).lo⟩, ⟨1, false, tI (pbS m k t).hi⟩, ⟨6, true, tVa (pbS m k t).v⟩]) (ts := [(0, tI (pbS m k t).lo), (1, tI (pbS m k t).hi), (2, tVa (pbS m k t).v)]) bu41 zr41.2 ⟨_, rfl⟩ rfl ⟨_, _, _, _, rfl, Up.f (fs := [⟨1, false, (tE (.int .i64 0))⟩, ⟨1, false, (tE (.int .i64 0))⟩, ⟨6, true, (tS [⟨1, false, (tE (.int .u8 0))⟩, ⟨4, true, (tS [⟨2, true, (tS [⟨1, false, (tE (.bool false))⟩, ⟨1, false, (tLm [])⟩])⟩, ⟨2, true, (tS [⟨1, false, (tE (.bool false))⟩, ⟨1, false, (tLm [])⟩])⟩])⟩, ⟨1, false, (tE (.int .i64 0))⟩])⟩]) (f := ⟨1, false, (tE (.int .i64 0))⟩) (fs' := [⟨1, false, tI (pbS m k t).lo⟩, ⟨1, false, (tE (.int .i64 0))⟩, ⟨6, true, (tS [⟨1, false, (tE (.int .u8 0))⟩, ⟨4, true, (tS [⟨2, true, (tS [⟨1, false, (tE (.bool false))⟩, ⟨1, false, (tLm [])⟩])⟩, ⟨2, true, (tS [⟨1, false, (tE (.bool false))⟩, ⟨1, false, (tLm [])⟩])⟩])⟩, ⟨1, false, (tE (.int .i64 0))⟩])⟩]) 0 rfl rfl rfl, inferInstance, ⟨_, _, _, _, rfl, Up.f (fs := [⟨1, false, tI (pbS m k t).lo⟩, ⟨1, false, (tE (.int .i64 0))⟩, ⟨6, true, (tS [⟨1, false, (tE (.int .u8 0))⟩, ⟨4, true, (tS [⟨2, true, (tS [⟨1, false, (tE (.bool false))⟩, ⟨1, false, (tLm [])⟩])⟩, ⟨2, true, (tS [⟨1, false, (tE (.bool false))⟩, ⟨1, false, (tLm [])⟩])⟩])⟩, ⟨1, false, (tE (.int .i64 0))⟩])⟩]) (f := ⟨1, false, (tE (.int .i64 0))⟩) (fs' := [⟨1, false, tI (pbS m k t).lo⟩, ⟨1, false, tI (pbS m k t).hi⟩, ⟨6, true, (tS [⟨1, false, (tE (.int .u8 0))⟩, ⟨4, true, (tS [⟨2, true, (tS [⟨1, false, (tE (.bool false))⟩, ⟨1, false, (tLm [])⟩])⟩, ⟨2, true, (tS [⟨1, false, (tE (.bool false))⟩, ⟨1, false, (tLm [])⟩])⟩])⟩, ⟨1, false, (tE (.int .i64 0))⟩])⟩]) 1 rfl rfl rfl, inferInstance, ⟨_, _, _, _, rfl, Up.f (fs := [⟨1, false, tI (pbS m k t).lo⟩, ⟨1, false, tI (pbS m k t).hi⟩, ⟨6, true, (tS [⟨1, false, (tE (.int .u8 0))⟩, ⟨4, true, (tS [⟨2, true, (tS [⟨1, false, (tE (.bool false))⟩, ⟨1, false, (tLm [])⟩])⟩, ⟨2, true, (tS [⟨1, false, (tE (.bool false))⟩, ⟨1, false, (tLm [])⟩])⟩])⟩, ⟨1, false, (tE (.int .i64 0))⟩])⟩]) (f := ⟨6, true, (tS [⟨1, false, (tE (.int .u8 0))⟩, ⟨4, true, (tS [⟨2, true, (tS [⟨1, false, (tE (.bool false))⟩, ⟨1, false, (tLm [])⟩])⟩, ⟨2, true, (tS [⟨1, false, (tE (.bool false))⟩, ⟨1, false, (tLm [])⟩])⟩])⟩, ⟨1, false, (tE (.int .i64 0))⟩])⟩) (fs' := [⟨1, false, tI (pbS m k t).lo⟩, ⟨1, false, tI (pbS m k t).hi⟩, ⟨6, true, tVa (pbS m k t).v⟩]) 2 rfl rfl rfl, inferInstance, Le.refl⟩⟩⟩) rfl rfl rfl (R1 (xg0 (n := 1) (f := tTs) [(pbS m k t)] Tryz.underlying24 el41 zf41 rfl (fun _ => inferInstance) rfl rfl rfl) rfl (RE (xf9 (k := 3) (k' := 88) (f := tTs) (ys := [(pbS m k t)]) (ts' := rV tTs (xs ++ [(pbS m k t)])) Tryz.underlying24 el41 zf41 rfl rfl (fun _ => inferInstance) rV_len (by simp; omega) (by simp; omega) (by simp [rV]) (n' := xs.length + 1) rfl) ⟨rfl, rfl, trivial⟩ ⟨rfl, trivial⟩ ⟨rfl, trivial⟩ (R1 x5 rfl ?_)))))))
      refine x7 (by kernel_rfl) (x4 ?_)
      refine x8 ?_
      refine R1 x3 rfl (R1 x5 rfl (x7 (by kernel_rfl) (xb9 (x4 ?_))))
      refine x8 ?_
      refine R1 x3 rfl (R2 (xb5 (wr64 (by omega) (by omega))) rfl rfl (R1 x5 rfl (x7 (by kernel_rfl) ?_)))
      have hpx : pst1 xs (pbS m k t) = xs ++ [(pbS m k t)] := by
       rw [pst1, if_neg (by have := pbS_lt (m := m) (k := k) (t := t); omega), if_neg (fun h => h24_2 (by have := h.2.1; exact this))]
      exact K_famR (l := [3]) (fun j => cond (Nat.beq j 3) 88 (j)) ((k + 1, xs ++ [(pbS m k t)], pbE m k t)) ⟨(by dsimp only; exact ⟨by omega, by rw [← hpx]; exact pbRun_next hk hb ⟨by omega, by omega⟩, by rw [List.length_append]; simp; omega, by omega, by omega⟩), (by dsimp only; omega)⟩ (SubR.int rfl (by first | omega | rfl | (dsimp only; omega)) (SubR.int rfl (by first | omega | rfl | (dsimp only; omega)) ((SubR.consI rfl (Imp.of (by dsimp only; rw [List.length_append]; rfl))) (SubR.cons rfl SubR.nil)))) ((SubKR.consI rfl (ImpK.of ren_rV.symm)) SubKR.nil) (SupG.val (SupG.val (SupG.own rfl (SupG.val SupG.nil)))) (SupH.cons rfl (supJ xe3) SupH.nil) (lkOk rfl) rfl rfl (fun _ h => by cases h)
    ·
     refine RGoff (decide_eq_false h24) rfl rfl (RGoff (decide_eq_false h24) rfl rfl (RGoff (decide_eq_false h24) rfl rfl (RGoff (decide_eq_false h24) rfl rfl (RGoff (decide_eq_false h24) rfl rfl (RGoff (decide_eq_false h24) rfl rfl (RGoff (decide_eq_false h24) rfl rfl (R2 (xa9 (decide_eq_false h24)) rfl rfl ?_)))))))
     refine R1 x3 rfl (RGoff0 rfl rfl (RGoff0 rfl rfl (RGoff0 rfl rfl (RGoff0 rfl rfl (RGoff0 rfl rfl (RGoff0 rfl rfl (RGoff0 rfl rfl ?_)))))))
     refine R2 (xa9 rfl) rfl rfl (xd7 (by kernel_rfl) (x4 (C_bF rfl rfl ?_)))
     refine x8 ?_
     refine R1 x3 rfl (R1 x3 rfl (R1 x3 rfl (RE (xa7 (0) ti39 rfl rfl) ⟨rfl, trivial⟩ ⟨rfl, trivial⟩ trivial (R3 (xc8 (r := tS [⟨1, false, tI (pbS m k t).lo⟩, ⟨1, false, tI (pbS m k t).hi⟩, ⟨6, true, tVa (pbS m k t).v⟩]) (ts := [(0, tI (pbS m k t).lo), (1, tI (pbS m k t).hi), (2, tVa (pbS m k t).v)]) bu41 zr41.2 ⟨_, rfl⟩ rfl ⟨_, _, _, _, rfl, Up.f (fs := [⟨1, false, (tE (.int .i64 0))⟩, ⟨1, false, (tE (.int .i64 0))⟩, ⟨6, true, (tS [⟨1, false, (tE (.int .u8 0))⟩, ⟨4, true, (tS [⟨2, true, (tS [⟨1, false, (tE (.bool false))⟩, ⟨1, false, (tLm [])⟩])⟩, ⟨2, true, (tS [⟨1, false, (tE (.bool false))⟩, ⟨1, false, (tLm [])⟩])⟩])⟩, ⟨1, false, (tE (.int .i64 0))⟩])⟩]) (f := ⟨1, false, (tE (.int .i64 0))⟩) (fs' := [⟨1, false, tI (pbS m k t).lo⟩, ⟨1, false, (tE (.int .i64 0))⟩, ⟨6, true, (tS [⟨1, false, (tE (.int .u8 0))⟩, ⟨4, true, (tS [⟨2, true, (tS [⟨1, false, (tE (.bool false))⟩, ⟨1, false, (tLm [])⟩])⟩, ⟨2, true, (tS [⟨1, false, (tE (.bool false))⟩, ⟨1, false, (tLm [])⟩])⟩])⟩, ⟨1, false, (tE (.int .i64 0))⟩])⟩]) 0 rfl rfl rfl, inferInstance, ⟨_, _, _, _, rfl, Up.f (fs := [⟨1, false, tI (pbS m k t).lo⟩, ⟨1, false, (tE (.int .i64 0))⟩, ⟨6, true, (tS [⟨1, false, (tE (.int .u8 0))⟩, ⟨4, true, (tS [⟨2, true, (tS [⟨1, false, (tE (.bool false))⟩, ⟨1, false, (tLm [])⟩])⟩, ⟨2, true, (tS [⟨1, false, (tE (.bool false))⟩, ⟨1, false, (tLm [])⟩])⟩])⟩, ⟨1, false, (tE (.int .i64 0))⟩])⟩]) (f := ⟨1, false, (tE (.int .i64 0))⟩) (fs' := [⟨1, false, tI (pbS m k t).lo⟩, ⟨1, false, tI (pbS m k t).hi⟩, ⟨6, true, (tS [⟨1, false, (tE (.int .u8 0))⟩, ⟨4, true, (tS [⟨2, true, (tS [⟨1, false, (tE (.bool false))⟩, ⟨1, false, (tLm [])⟩])⟩, ⟨2, true, (tS [⟨1, false, (tE (.bool false))⟩, ⟨1, false, (tLm [])⟩])⟩])⟩, ⟨1, false, (tE (.int .i64 0))⟩])⟩]) 1 rfl rfl rfl, inferInstance, ⟨_, _, _, _, rfl, Up.f (fs := [⟨1, false, tI (pbS m k t).lo⟩, ⟨1, false, tI (pbS m k t).hi⟩, ⟨6, true, (tS [⟨1, false, (tE (.int .u8 0))⟩, ⟨4, true, (tS [⟨2, true, (tS [⟨1, false, (tE (.bool false))⟩, ⟨1, false, (tLm [])⟩])⟩, ⟨2, true, (tS [⟨1, false, (tE (.bool false))⟩, ⟨1, false, (tLm [])⟩])⟩])⟩, ⟨1, false, (tE (.int .i64 0))⟩])⟩]) (f := ⟨6, true, (tS [⟨1, false, (tE (.int .u8 0))⟩, ⟨4, true, (tS [⟨2, true, (tS [⟨1, false, (tE (.bool false))⟩, ⟨1, false, (tLm [])⟩])⟩, ⟨2, true, (tS [⟨1, false, (tE (.bool false))⟩, ⟨1, false, (tLm [])⟩])⟩])⟩, ⟨1, false, (tE (.int .i64 0))⟩])⟩) (fs' := [⟨1, false, tI (pbS m k t).lo⟩, ⟨1, false, tI (pbS m k t).hi⟩, ⟨6, true, tVa (pbS m k t).v⟩]) 2 rfl rfl rfl, inferInstance, Le.refl⟩⟩⟩) rfl rfl rfl (R1 (xg0 (n := 1) (f := tTs) [(pbS m k t)] Tryz.underlying24 el41 zf41 rfl (fun _ => inferInstance) rfl rfl rfl) rfl (RE (xf9 (k := 3) (k' := 88) (f := tTs) (ys := [(pbS m k t)]) (ts' := rV tTs (xs ++ [(pbS m k t)])) Tryz.underlying24 el41 zf41 rfl rfl (fun _ => inferInstance) rV_len (by simp; omega) (by simp; omega) (by simp [rV]) (n' := xs.length + 1) rfl) ⟨rfl, rfl, trivial⟩ ⟨rfl, trivial⟩ ⟨rfl, trivial⟩ (R1 x5 rfl ?_)))))))
     refine x7 (by kernel_rfl) (x4 ?_)
     refine x8 ?_
     refine R1 x3 rfl (R1 x5 rfl (x7 (by kernel_rfl) (xb9 (x4 ?_))))
     refine x8 ?_
     refine R1 x3 rfl (R2 (xb5 (wr64 (by omega) (by omega))) rfl rfl (R1 x5 rfl (x7 (by kernel_rfl) ?_)))
     have hpx : pst1 xs (pbS m k t) = xs ++ [(pbS m k t)] := by
      rw [pst1, if_neg (by have := pbS_lt (m := m) (k := k) (t := t); omega), if_neg (by omega)]
     exact K_famR (l := [3]) (fun j => cond (Nat.beq j 3) 88 (j)) ((k + 1, xs ++ [(pbS m k t)], pbE m k t)) ⟨(by dsimp only; exact ⟨by omega, by rw [← hpx]; exact pbRun_next hk hb ⟨by omega, by omega⟩, by rw [List.length_append]; simp; omega, by omega, by omega⟩), (by dsimp only; omega)⟩ (SubR.int rfl (by first | omega | rfl | (dsimp only; omega)) (SubR.int rfl (by first | omega | rfl | (dsimp only; omega)) ((SubR.consI rfl (Imp.of (by dsimp only; rw [List.length_append]; rfl))) (SubR.cons rfl SubR.nil)))) ((SubKR.consI rfl (ImpK.of ren_rV.symm)) SubKR.nil) (SupG.val (SupG.val (SupG.own rfl (SupG.val SupG.nil)))) (SupH.cons rfl (supJ xe3) SupH.nil) (lkOk rfl) rfl rfl (fun _ h => by cases h)
  ·
   refine xd3 (xb7 (xb7 (xd9 (x4 (x6 ?_)))))
   refine x8 ?_
   refine R1 x3 rfl (RE (d_assignS (f := tTs) (xs := xs) (fun _ h => h) (rV_all rfl) rfl) ⟨rfl, trivial⟩ ⟨rfl, trivial⟩ trivial (x7 (by kernel_rfl) (x4 (xa0 ?_))))
   exact xa4 Plain.mk' rfl rfl (Le.of (by rw [pbRun_stop hk hb (by omega)]))
 ·
  refine RGoff (decide_eq_false h18) rfl rfl (RGoff (decide_eq_false h18) rfl rfl (R2 (xa9 (decide_eq_false h18)) rfl rfl (x7 (by kernel_rfl) (x4 (C_bF rfl rfl (xd3 (xb7 ?_)))))))
  refine xb7 (xd9 (x4 (x6 ?_)))
  refine x8 ?_
  refine R1 x3 rfl (RE (d_assignS (f := tTs) (xs := xs) (fun _ h => h) (rV_all rfl) rfl) ⟨rfl, trivial⟩ ⟨rfl, trivial⟩ trivial (x7 (by kernel_rfl) (x4 (xa0 ?_))))
  exact xa4 Plain.mk' rfl rfl (Le.of (by rw [pbRun_stop hk hb (by omega)]))
def thN (v : Va) : Int := if v.f.n.l.length = 1 then ((v.f.n.l.getD 0 0 : Nat) : Int) else 0
end An.S

/- Law 9: the examples. -/
namespace An.S
open Go Go.Proofs An
set_option maxHeartbeats 2000000
set_option maxRecDepth 100000
theorem fi12 : FnI Tryz.prog 12 := ⟨_, Tryz.func12, by kernel_rfl, rfl⟩
theorem fi20 : FnI Tryz.prog 20 := ⟨_, Tryz.func20, by kernel_rfl, rfl⟩
theorem fi21 : FnI Tryz.prog 21 := ⟨_, Tryz.func21, by kernel_rfl, rfl⟩
theorem fi24 : FnI Tryz.prog 24 := ⟨_, Tryz.func24, by kernel_rfl, rfl⟩
theorem fi30 : FnI Tryz.prog 30 := ⟨_, Tryz.func30, by kernel_rfl, rfl⟩
theorem fi31 : FnI Tryz.prog 31 := ⟨_, Tryz.func31, by kernel_rfl, rfl⟩
theorem nOk3 : nOk 3 2700 := ⟨⟨by decide, by decide⟩, by decide, by decide⟩
theorem xc1_ok {n : Int} (h : 0 ≤ n) (h2 : n ≤ 900) : gOk 3 3 2700 (xc n 1) := (xc_ok (D := 3) (B := 2700) (n := n) (d := 1) (x := n * 3) (by decide) (by omega) (by decide) (by decide) (by omega) (by omega) (by decide)).1
theorem xg9 : isG 3 3 2700 exP := ⟨by decide +kernel, fun s hs => by
  simp only [exP, List.mem_cons, List.not_mem_nil, or_false] at hs
  rcases hs with rfl | rfl | rfl | rfl <;> exact xc1_ok (by decide) (by decide)⟩
theorem exAv : avR 3 exP 0 90 = (fr (kfr 362 3), 0) := by decide +kernel
theorem exAv2 : (avR 3 exP 0 121).2 = 6 := by decide +kernel
theorem exWi : winR exP 0 120 3 = ([0, 1], 0) := by decide +kernel
theorem c_exA : Ct Tryz.prog 12 [tL 8 true tTs exP, tI 0, tI 90] (tT [tFr (fr (kfr 362 3)), tI 0]) := by
  have h := c_Average 3 2700 exP 0 90 nOk3 xg9.dig (fun _ => xg9) (by decide)
  rw [exAv] at h; exact h
theorem c_exA2 : Ct Tryz.prog 12 [tL 8 true tTs exP, tI 0, tI 121] (tT [tFr (avR 3 exP 0 121).1, tI 6]) := by
  have h := c_Average 3 2700 exP 0 121 nOk3 xg9.dig (fun _ => xg9) (by decide)
  rw [exAv2] at h; exact h
theorem c_exW : Ct Tryz.prog 24 [tG KL (tL 8 true tTs exP), tI 0, tI 120, tI 3] (tT [tL 1 false tI [0, 1], tI 0]) := by
  have h := c_Windows 3 2700 exP 0 120 3 xg9.dig (fun _ => xg9) (by decide)
  rw [exWi] at h; exact h
theorem c_sameFv (f g : Fr) (e : f = g) : Ct Tryz.prog 16 [tFr f, tFr g] (tB true) := by
  have h := c_SameFrac f g
  rw [decide_eq_true e] at h; exact h
theorem c_sameIv (u w : List Int) (e : u = w) : Ct Tryz.prog 31 [tL 1 false tI u, tL 1 false tI w] (tB true) := by
  have h := c_SameInts u w
  rw [decide_eq_true e] at h; exact h
theorem exB1 : fO 3 exP ((1 : Int).toNat) (bO 3 exP 0 120 1) = fr (kfr 160 1) ∧ bE 3 exP 0 120 1 = 0 ∧ wM (bO 3 exP 0 120 1) = 2 := by decide +kernel
theorem c_exB1 : Ct Tryz.prog 20 [tG KL (tL 8 true tTs exP), tI 0, tI 120, tI 1] (tT [tFr (fr (kfr 160 1)), tI 0]) := by
  have h := c_Best 3 2700 exP 0 120 1 nOk3 xg9.dig (fun _ => xg9) (by decide)
  rw [exB1.1, exB1.2.1] at h; exact h
theorem c_exWB1 : Ct Tryz.prog 21 [tG KL (tL 8 true tTs exP), tI 0, tI 120, tI 1] (tT [tI 2, tI 0]) := by
  have h := c_When 3 2700 exP 0 120 1 nOk3 xg9.dig (fun _ => xg9) (by decide)
  rw [exB1.2.2, exB1.2.1] at h; exact h
theorem exB2 : fO 3 exP ((2 : Int).toNat) (bO 3 exP 0 120 2) = fr (kfr 8860 61) ∧ bE 3 exP 0 120 2 = 0 ∧ wM (bO 3 exP 0 120 2) = 2 := by decide +kernel
theorem c_exB2 : Ct Tryz.prog 20 [tG KL (tL 8 true tTs exP), tI 0, tI 120, tI 2] (tT [tFr (fr (kfr 8860 61)), tI 0]) := by
  have h := c_Best 3 2700 exP 0 120 2 nOk3 xg9.dig (fun _ => xg9) (by decide)
  rw [exB2.1, exB2.2.1] at h; exact h
theorem c_exWB2 : Ct Tryz.prog 21 [tG KL (tL 8 true tTs exP), tI 0, tI 120, tI 2] (tT [tI 2, tI 0]) := by
  have h := c_When 3 2700 exP 0 120 2 nOk3 xg9.dig (fun _ => xg9) (by decide)
  rw [exB2.2.2, exB2.2.1] at h; exact h
theorem exB3 : fO 3 exP ((4 : Int).toNat) (bO 3 exP 1 120 4) = fr0 ∧ bE 3 exP 1 120 4 = 6 ∧ wM (bO 3 exP 1 120 4) = 0 := by decide +kernel
theorem c_exB3 : Ct Tryz.prog 20 [tG KL (tL 8 true tTs exP), tI 1, tI 120, tI 4] (tT [tFr (fr0), tI 6]) := by
  have h := c_Best 3 2700 exP 1 120 4 nOk3 xg9.dig (fun _ => xg9) (by decide)
  rw [exB3.1, exB3.2.1] at h; exact h
theorem exB4 : fO 3 exP ((1 : Int).toNat) (bO 3 exP 0 200 1) = fr (kfr 900 1) ∧ bE 3 exP 0 200 1 = 0 ∧ wM (bO 3 exP 0 200 1) = 5 := by decide +kernel
theorem c_exB4 : Ct Tryz.prog 20 [tG KL (tL 8 true tTs exP), tI 0, tI 200, tI 1] (tT [tFr (fr (kfr 900 1)), tI 0]) := by
  have h := c_Best 3 2700 exP 0 200 1 nOk3 xg9.dig (fun _ => xg9) (by decide)
  rw [exB4.1, exB4.2.1] at h; exact h
theorem c_exWB4 : Ct Tryz.prog 21 [tG KL (tL 8 true tTs exP), tI 0, tI 200, tI 1] (tT [tI 5, tI 0]) := by
  have h := c_When 3 2700 exP 0 200 1 nOk3 xg9.dig (fun _ => xg9) (by decide)
  rw [exB4.2.2, exB4.2.1] at h; exact h
theorem c_awake09  :
    Ct0 KL Tryz.prog 9 (tB true) := by
  refine Ct0.intro 137 Tryz.func9 rfl Tryz.ntmps9 rfl ?_
  intro w F
  refine x6 ?_
  refine x8 ?_
  refine R1 x5 rfl ?_
  refine x7 (by kernel_rfl) ?_
  refine x4 ?_
  refine x6 ?_
  refine x8 ?_
  refine R0 (xa1 c_example fi30 rfl)  ?_
  refine R1 x5 rfl ?_
  refine x7 (by kernel_rfl) ?_
  refine x4 ?_
  refine x6 ?_
  refine x8 ?_
  refine R1 x3 rfl ?_
  refine R3 (xa1 c_exA fi12 rfl) rfl rfl rfl ?_
  refine R1 x3 rfl ?_
  refine R1 (xa2 rfl) rfl ?_
  refine R1 (xa2 rfl) rfl ?_
  refine RE (xb4 (k := 2) (n := 4) (agg := true) zr31.1 zr31.2 rfl) trivial trivial ⟨rfl, trivial⟩ ?_
  refine RE (xa3 (es := 4) (agg := true) (0) ti31 rfl rfl rfl) ⟨rfl, rfl, trivial⟩ ⟨rfl, trivial⟩ trivial ?_
  refine R1 x5 rfl ?_
  refine x7 (by kernel_rfl) ?_
  refine x4 ?_
  refine x6 ?_
  refine x8 ?_
  refine R1 x3 rfl ?_
  refine R3 (xa1 c_exA2 fi12 rfl) rfl rfl rfl ?_
  refine R1 x3 rfl ?_
  refine R1 (xa2 rfl) rfl ?_
  refine R1 (xa2 rfl) rfl ?_
  refine RE (xb4 (k := 4) (n := 4) (agg := true) zr31.1 zr31.2 rfl) trivial trivial ⟨rfl, trivial⟩ ?_
  refine RE (xa3 (es := 4) (agg := true) (0) ti31 rfl rfl rfl) ⟨rfl, rfl, trivial⟩ ⟨rfl, trivial⟩ trivial ?_
  refine R1 x5 rfl ?_
  refine x7 (by kernel_rfl) ?_
  refine x4 ?_
  refine x6 ?_
  refine x8 ?_
  refine R1 x3 rfl ?_
  refine RE (xh0 137 car_K c_exB1 fi20 rfl) ⟨rfl, rfl, rfl, rfl, rfl, trivial⟩ trivial trivial ?_
  refine R1 x3 rfl ?_
  refine R1 (xa2 rfl) rfl ?_
  refine R1 (xa2 rfl) rfl ?_
  refine RE (xb4 (k := 6) (n := 4) (agg := true) zr31.1 zr31.2 rfl) trivial trivial ⟨rfl, trivial⟩ ?_
  refine RE (xa3 (es := 4) (agg := true) (0) ti31 rfl rfl rfl) ⟨rfl, rfl, trivial⟩ ⟨rfl, trivial⟩ trivial ?_
  refine R1 x5 rfl ?_
  refine x7 (by kernel_rfl) ?_
  refine x4 ?_
  refine x6 ?_
  refine x8 ?_
  refine R1 x3 rfl ?_
  refine RE (xh0 137 car_K c_exB2 fi20 rfl) ⟨rfl, rfl, rfl, rfl, rfl, trivial⟩ trivial trivial ?_
  refine R1 x3 rfl ?_
  refine R1 (xa2 rfl) rfl ?_
  refine R1 (xa2 rfl) rfl ?_
  refine RE (xb4 (k := 8) (n := 4) (agg := true) zr31.1 zr31.2 rfl) trivial trivial ⟨rfl, trivial⟩ ?_
  refine RE (xa3 (es := 4) (agg := true) (0) ti31 rfl rfl rfl) ⟨rfl, rfl, trivial⟩ ⟨rfl, trivial⟩ trivial ?_
  refine R1 x5 rfl ?_
  refine x7 (by kernel_rfl) ?_
  refine x4 ?_
  refine x6 ?_
  refine x8 ?_
  refine R1 x3 rfl ?_
  refine RE (xh0 137 car_K c_exB3 fi20 rfl) ⟨rfl, rfl, rfl, rfl, rfl, trivial⟩ trivial trivial ?_
  refine R1 x3 rfl ?_
  refine R1 (xa2 rfl) rfl ?_
  refine R1 (xa2 rfl) rfl ?_
  refine RE (xb4 (k := 10) (n := 4) (agg := true) zr31.1 zr31.2 rfl) trivial trivial ⟨rfl, trivial⟩ ?_
  refine RE (xa3 (es := 4) (agg := true) (0) ti31 rfl rfl rfl) ⟨rfl, rfl, trivial⟩ ⟨rfl, trivial⟩ trivial ?_
  refine R1 x5 rfl ?_
  refine x7 (by kernel_rfl) ?_
  refine x4 ?_
  refine x6 ?_
  refine x8 ?_
  refine R1 x3 rfl ?_
  refine RE (xh0 137 car_K c_exB4 fi20 rfl) ⟨rfl, rfl, rfl, rfl, rfl, trivial⟩ trivial trivial ?_
  refine R1 x3 rfl ?_
  refine R1 (xa2 rfl) rfl ?_
  refine R1 (xa2 rfl) rfl ?_
  refine RE (xb4 (k := 12) (n := 4) (agg := true) zr31.1 zr31.2 rfl) trivial trivial ⟨rfl, trivial⟩ ?_
  refine RE (xa3 (es := 4) (agg := true) (0) ti31 rfl rfl rfl) ⟨rfl, rfl, trivial⟩ ⟨rfl, trivial⟩ trivial ?_
  refine R1 x5 rfl ?_
  refine x7 (by kernel_rfl) ?_
  refine x4 ?_
  refine x6 ?_
  refine x8 ?_
  refine R1 x3 rfl ?_
  refine RE (xh0 137 car_K c_exWB1 fi21 rfl) ⟨rfl, rfl, rfl, rfl, rfl, trivial⟩ trivial trivial ?_
  refine R1 x3 rfl ?_
  refine R1 (xa2 rfl) rfl ?_
  refine R1 (xa2 rfl) rfl ?_
  refine R1 x5 rfl ?_
  refine R1 x5 rfl ?_
  refine x7 (by kernel_rfl) ?_
  refine x4 ?_
  refine x6 ?_
  refine x8 ?_
  refine R1 x3 rfl ?_
  refine RE (xh0 137 car_K c_exWB2 fi21 rfl) ⟨rfl, rfl, rfl, rfl, rfl, trivial⟩ trivial trivial ?_
  refine R1 x3 rfl ?_
  refine R1 (xa2 rfl) rfl ?_
  refine R1 (xa2 rfl) rfl ?_
  refine R1 x5 rfl ?_
  refine R1 x5 rfl ?_
  refine x7 (by kernel_rfl) ?_
  refine x4 ?_
  refine x6 ?_
  refine x8 ?_
  refine R1 x3 rfl ?_
  refine RE (xh0 137 car_K c_exWB4 fi21 rfl) ⟨rfl, rfl, rfl, rfl, rfl, trivial⟩ trivial trivial ?_
  refine R1 x3 rfl ?_
  refine R1 (xa2 rfl) rfl ?_
  refine R1 (xa2 rfl) rfl ?_
  refine R1 x5 rfl ?_
  refine R1 x5 rfl ?_
  refine x7 (by kernel_rfl) ?_
  refine x4 ?_
  refine x6 ?_
  refine x8 ?_
  refine R1 x3 rfl ?_
  refine RE (xh0 137 car_K c_exW fi24 rfl) ⟨rfl, rfl, rfl, rfl, rfl, trivial⟩ trivial trivial ?_
  refine R1 x3 rfl ?_
  refine R1 (xa2 rfl) rfl ?_
  refine R1 (xa2 rfl) rfl ?_
  refine R1 x5 rfl ?_
  refine R1 x5 rfl ?_
  refine x7 (by kernel_rfl) ?_
  refine x4 ?_
  refine x6 ?_
  refine x6 ?_
  refine x8 ?_
  refine R1 x3 rfl ?_
  refine R1 x3 rfl ?_
  refine R2 (xb5 (wr64 (by omega) (by omega))) rfl rfl ?_
  refine R1 x3 rfl ?_
  refine R2 (xb5 (wr64 (by omega) (by omega))) rfl rfl ?_
  refine R1 x3 rfl ?_
  refine R2 (xb5 (wr64 (by omega) (by omega))) rfl rfl ?_
  refine R1 x3 rfl ?_
  refine R2 (xb5 (wr64 (by omega) (by omega))) rfl rfl ?_
  refine R1 x3 rfl ?_
  refine R2 (xb5 (wr64 (by omega) (by omega))) rfl rfl ?_
  refine R1 x3 rfl ?_
  refine R2 (xb5 (wr64 (by omega) (by omega))) rfl rfl ?_
  refine R1 x3 rfl ?_
  refine R2 (xb5 (wr64 (by omega) (by omega))) rfl rfl ?_
  refine R2 xe7 rfl rfl ?_
  refine R1 x3 rfl ?_
  refine RGon (decide_eq_false (by omega)) rfl x3 rfl ⟨rfl, trivial⟩ trivial trivial ?_
  refine RGon (decide_eq_false (by omega)) rfl xe7 rfl ⟨rfl, rfl, trivial⟩ trivial trivial ?_
  refine R2 (xa9 (decide_eq_false (by omega))) rfl rfl ?_
  refine R1 x3 rfl ?_
  refine RGon (decide_eq_false (by omega)) rfl x3 rfl ⟨rfl, trivial⟩ trivial trivial ?_
  refine RGon (decide_eq_false (by omega)) rfl xe7 rfl ⟨rfl, rfl, trivial⟩ trivial trivial ?_
  refine R2 (xa9 (decide_eq_false (by omega))) rfl rfl ?_
  refine R1 x3 rfl ?_
  refine RGon (decide_eq_false (by omega)) rfl x3 rfl ⟨rfl, trivial⟩ trivial trivial ?_
  refine RGon (decide_eq_false (by omega)) rfl xe7 rfl ⟨rfl, rfl, trivial⟩ trivial trivial ?_
  refine R2 (xa9 (decide_eq_false (by omega))) rfl rfl ?_
  refine R1 x3 rfl ?_
  refine RGon (decide_eq_false (by omega)) rfl x3 rfl ⟨rfl, trivial⟩ trivial trivial ?_
  refine RGon (decide_eq_false (by omega)) rfl xe7 rfl ⟨rfl, rfl, trivial⟩ trivial trivial ?_
  refine R2 (xa9 (decide_eq_false (by omega))) rfl rfl ?_
  refine R1 x3 rfl ?_
  refine RGon (decide_eq_false (by omega)) rfl x3 rfl ⟨rfl, trivial⟩ trivial trivial ?_
  refine RGon (decide_eq_false (by omega)) rfl xe7 rfl ⟨rfl, rfl, trivial⟩ trivial trivial ?_
  refine R2 (xa9 (decide_eq_false (by omega))) rfl rfl ?_
  refine R1 x3 rfl ?_
  refine RGon (decide_eq_false (by omega)) rfl x3 rfl ⟨rfl, trivial⟩ trivial trivial ?_
  refine RGon (decide_eq_false (by omega)) rfl (xg0 (n := 2) (f := fun n : Int => tI n) [0, 1] Tryz.underlying54 el3 zf3 rfl (fun _ => inferInstance) rfl rfl rfl) rfl ⟨rfl, rfl, trivial⟩ trivial trivial ?_
  refine RGon (decide_eq_false (by omega)) rfl (xa1 (c_sameIv _ _ rfl) fi31 rfl) rfl ⟨rfl, rfl, trivial⟩ trivial trivial ?_
  refine RGon (decide_eq_false (by omega)) rfl xe4 rfl ⟨rfl, trivial⟩ trivial trivial ?_
  refine R2 (xa9 (decide_eq_false (by omega))) rfl rfl ?_
  refine x7 (by kernel_rfl) ?_
  refine x4 ?_
  refine C_bF rfl rfl ?_
  refine xa5 ?_
  refine x4 ?_
  refine x6 ?_
  refine x8 ?_
  refine R1 x5 rfl ?_
  refine x7 (by kernel_rfl) ?_
  refine x4 ?_
  refine x6 ?_
  refine xd5 mixed ?_
  refine R1 x3 rfl ?_
  refine RE (xa7 (0) ti31 rfl rfl) ⟨rfl, trivial⟩ ⟨rfl, trivial⟩ trivial ?_
  refine R2 (xa1 (c_KFrac 362 3 (by decide) (by decide) (by decide) (by decide)) fi17 rfl) rfl rfl ?_
  refine R3 (d_callF (c_sameFv _ _ rfl) fi16 rfl) rfl rfl rfl ?_
  refine R1 x3 rfl ?_
  refine RGon rfl rfl x3 rfl ⟨rfl, trivial⟩ trivial trivial ?_
  refine RGon rfl rfl (xa7 (0) ti31 rfl rfl) rfl ⟨rfl, trivial⟩ ⟨rfl, trivial⟩ trivial ?_
  refine RGon rfl rfl (xa1 (c_KFrac 160 1 (by decide) (by decide) (by decide) (by decide)) fi17 rfl) rfl ⟨rfl, rfl, trivial⟩ trivial trivial ?_
  refine RGon rfl rfl (d_callF (c_sameFv _ _ rfl) fi16 rfl) rfl ⟨rfl, rfl, rfl, trivial⟩ trivial trivial ?_
  refine R2 (xb2 rfl) rfl rfl ?_
  refine R1 x3 rfl ?_
  refine RGon rfl rfl x3 rfl ⟨rfl, trivial⟩ trivial trivial ?_
  refine RGon rfl rfl (xa7 (0) ti31 rfl rfl) rfl ⟨rfl, trivial⟩ ⟨rfl, trivial⟩ trivial ?_
  refine RGon rfl rfl (xa1 (c_KFrac 8860 61 (by decide) (by decide) (by decide) (by decide)) fi17 rfl) rfl ⟨rfl, rfl, trivial⟩ trivial trivial ?_
  refine RGon rfl rfl (d_callF (c_sameFv _ _ rfl) fi16 rfl) rfl ⟨rfl, rfl, rfl, trivial⟩ trivial trivial ?_
  refine R2 (xb2 rfl) rfl rfl ?_
  refine R1 x3 rfl ?_
  refine RGon rfl rfl x3 rfl ⟨rfl, trivial⟩ trivial trivial ?_
  refine RGon rfl rfl (xa7 (0) ti31 rfl rfl) rfl ⟨rfl, trivial⟩ ⟨rfl, trivial⟩ trivial ?_
  refine RGon rfl rfl (xa1 (c_KFrac 900 1 (by decide) (by decide) (by decide) (by decide)) fi17 rfl) rfl ⟨rfl, rfl, trivial⟩ trivial trivial ?_
  refine RGon rfl rfl (d_callF (c_sameFv _ _ rfl) fi16 rfl) rfl ⟨rfl, rfl, rfl, trivial⟩ trivial trivial ?_
  refine R2 (xb2 rfl) rfl rfl ?_
  refine R1 x5 rfl ?_
  refine xd7 (by kernel_rfl) ?_
  refine x4 ?_
  refine xa0 ?_
  exact xa4 Plain.mk' rfl rfl Le.refl
end An.S

/- Law 9: SalaryMean. -/
namespace An.S
open Go Go.Proofs An
set_option maxHeartbeats 2000000
theorem fi9 : FnI Tryz.prog 9 := ⟨_, Tryz.func9, by kernel_rfl, rfl⟩
theorem fi10 : FnI Tryz.prog 10 := ⟨_, Tryz.func10, by kernel_rfl, rfl⟩
theorem fi11 : FnI Tryz.prog 11 := ⟨_, Tryz.func11, by kernel_rfl, rfl⟩
theorem nOk9 : nOk 3 999 := ⟨⟨by decide, by decide⟩, by decide, by decide⟩
theorem gS_lin {w : Va → Int} {l : List Tst} {a b u c : Int} : gS (fun v => u * w v + c) l a b = u * gS w l a b + c * nD l a b := by
  induction l with
  | nil => simp [gS, nD]
  | cons s r ih =>
    rw [gS_cons, ih, show nD (s :: r) a b = gS1 (fun _ => 1) a b s + nD r a b from gS_cons, gS_cons (w := w)]
    simp only [gS1]
    by_cases hd : dyG a b s ≤ 0
    · simp only [if_pos hd]; rw [Int.zero_add, Int.zero_add, Int.zero_add]
    · simp only [if_neg hd]
      rw [Int.add_mul, Int.mul_add, Int.mul_add, Int.one_mul, Int.mul_assoc]; omega
def loP (l : List Tst) (p q : Int) (s : Tst) : Bool := decide (s.lo < q) && decide (p < s.hi) && decide (wt 3 s.v * (q - p) ≤ gS (wt 3) l p q)
def hiP (l : List Tst) (p q : Int) (s : Tst) : Bool := decide (s.lo < q) && decide (p < s.hi) && decide (gS (wt 3) l p q ≤ wt 3 s.v * (q - p))
def loB (l : List Tst) (p q : Int) (i : Nat) : Bool := (l.take i).any (loP l p q)
def hiB (l : List Tst) (p q : Int) (i : Nat) : Bool := (l.take i).any (hiP l p q)
theorem any_next {f : Tst → Bool} {l : List Tst} {i : Nat} (hi : i < l.length) : (l.take (i + 1)).any f = ((l.take i).any f || f (l.getD i tst0)) := by
  rw [List.take_succ_eq_append_getElem hi, List.any_append, List.getD_eq_getElem?_getD, List.getElem?_eq_getElem hi]; simp
end An.S

/- Law 9: SalaryWindows. -/
namespace An.S
open Go Go.Proofs An
set_option maxHeartbeats 2000000
theorem start_28 : ∀ {k : Nat}, k ≤ 2160 → 28 * (k : Int) ≤ startI k
  | 0, _ => by rw [start_zero]; decide
  | k + 1, h => by
    have := start_28 (k := k) (by omega)
    have := start_step (k := k) (by omega)
    omega
theorem c_Month2 (d : Int) (h0 : 0 ≤ d) (h1 : d < 65536) : Ct Tryz.prog 26 [tG KL (tI d)] (tT [tI (monI d), tI 0]) := by
  have h := c_Month d
  rw [if_pos ⟨h0, h1⟩, if_pos ⟨h0, h1⟩] at h; exact h
theorem okW_iff {l : List Tst} {p q : Int} {n k : Nat} : okW l p q n k = true ↔ k + n < 2154 ∧ p ≤ startI k ∧ startI (k + n) ≤ q ∧ nD l (startI k) (startI (k + n)) = startI (k + n) - startI k := by
  simp [okW, and_assoc]
/-- The month of the first day asked for. -/
theorem mon_bd {p : Int} (h0 : 0 ≤ p) (h1 : p < 15000) : monI p ≤ 535 ∧ startI (monI p) ≤ p ∧ p < startI (monI p + 1) := by
  have h := mon_in h0 (show p < 65536 by omega)
  have := start_28 (k := monI p) (by omega)
  exact ⟨by omega, h.2.1, h.2.2⟩
theorem far_bd {f : Nat} {p q : Int} (hf : f ≤ 535) (h1 : p < startI (f + 1)) (h2 : q ≤ p + 3000) : q < startI (f + 102) := by
  have := start_far (k := f + 1) (by omega)
  rw [show f + 1 + 101 = f + 102 by omega] at this
  omega
end An.S

/- Law 9: SalaryBest. -/
namespace An.S
open Go Go.Proofs An
set_option maxHeartbeats 2000000
theorem best_gen {D : Int} {l : List Tst} {n : Nat} {ks : List Nat} (hp : ks.Pairwise (· < ·)) {o : Option Nat} (ho : bstL D l n ks = o) : (o = none → ks = []) ∧ ∀ m, o = some m → m ∈ ks ∧ (∀ k ∈ ks, avW D l n k ≤ avW D l n m) ∧ ∀ k ∈ ks, k < m → avW D l n k < avW D l n m := by
  have hs := bstL_spec (D := D) (l := l) (n := n) ks hp
  rw [ho] at hs
  cases o with
  | none => exact ⟨fun _ => hs, fun m h => (by cases h)⟩
  | some m => exact ⟨fun h => (by cases h), fun m' h => (by cases h; exact hs)⟩
theorem bst_L {D : Int} {l : List Tst} {p q : Int} {n : Nat} {o : Option Nat} (ho : o = bstT D l p q n) : bstL D l n (winT l p q n) = o := by rw [ho, bstT]
theorem best_some {D : Int} {l : List Tst} {p q : Int} {n m : Nat} {o : Option Nat} (ho : o = bstT D l p q n) (h : o = some m) : m ∈ winT l p q n ∧ (∀ k ∈ winT l p q n, avW D l n k ≤ avW D l n m) ∧ ∀ k ∈ winT l p q n, k < m → avW D l n k < avW D l n m := (best_gen win_asc (bst_L ho)).2 m h
end An.S

/- Law 9: SalaryOutside. -/
namespace An.S
open Go Go.Proofs An
set_option maxHeartbeats 2000000
theorem bst_uniq {l l' : List Tst} {D D' : Int} {n : Nat} {ks : List Nat} (hp : ks.Pairwise (· < ·)) (ha : ∀ k ∈ ks, ∀ m ∈ ks, (avW D l n k < avW D l n m ↔ avW D' l' n k < avW D' l' n m)) : bstL D l n ks = bstL D' l' n ks := by
  have g1 := best_gen (D := D) (l := l) (n := n) hp rfl
  have g2 := best_gen (D := D') (l := l') (n := n) hp rfl
  cases h1 : bstL D l n ks with
  | none =>
    rw [g1.1 h1]; rfl
  | some m =>
    obtain ⟨m1, m2, m3⟩ := g1.2 m h1
    cases h2 : bstL D' l' n ks with
    | none => rw [g2.1 h2] at m1; cases m1
    | some m' =>
      obtain ⟨n1, n2, n3⟩ := g2.2 m' h2
      rcases Nat.lt_trichotomy m m' with h | h | h
      · exact absurd ((ha m m1 m' n1).2 (n3 m m1 h)) (Rat.not_lt.2 (m2 m' n1))
      · rw [h]
      · exact absurd ((ha m' n1 m m1).1 (m3 m' n1 h)) (Rat.not_lt.2 (n2 m m1))
theorem win_same {l l' : List Tst} {p q p' q' : Int} {n n' : Nat} (hw : ∀ k, k < 2154 → (okW l p q n k = true ↔ okW l' p' q' n' k = true)) : winT l p q n = winT l' p' q' n' := by
  rw [winT, winT, winP, winP]
  exact List.filter_congr fun k hk => Bool.eq_iff_iff.2 (hw k (List.mem_range.1 hk))
/-- The first day, of those asked for, with which a month begins. -/
def stD (f : Nat) (p : Int) : Int := if startI f < p then startI (f + 1) else startI f
end An.S

/- Law 9: SalaryScaled. -/
namespace An.S
open Go Go.Proofs An
set_option maxHeartbeats 2000000
/-- The factor. -/
def scQ (u : Nat) : Rat := kfr (1 + (u : Int)) 7
theorem scQ_is (u : Nat) : scQ u = Rat.divInt (1 + (u : Int)) 7 := kfr_big (by decide)
theorem scQ_pos (u : Nat) : 0 < scQ u := by
  rw [scQ_is]
  have h := (le_dv (x := 1 + (u : Int)) (y := 0) (d := 7) (e := 1) (by decide) (by decide))
  refine Rat.not_le.1 fun h0 => ?_
  rw [Rat.zero_divInt] at h
  have := h.1 h0; omega
def tmV (c : Rat) (v : Va) : Va := ⟨3, fr (v.f.rat * c), 0⟩
def adV (c : Rat) (v : Va) : Va := ⟨3, fr (v.f.rat + c), 0⟩
def mapS (g : Va → Va) (l : List Tst) : List Tst := l.map fun s => ⟨s.lo, s.hi, g s.v⟩
theorem mapS_len {g : Va → Va} {l : List Tst} : (mapS g l).length = l.length := List.length_map ..
theorem mapS_snoc {g : Va → Va} {l : List Tst} {i : Nat} (hi : i < l.length) : mapS g (l.take (i + 1)) = mapS g (l.take i) ++ [⟨(l.getD i tst0).lo, (l.getD i tst0).hi, g (l.getD i tst0).v⟩] := by
  rw [List.take_succ_eq_append_getElem hi, mapS, List.map_append, List.getD_eq_getElem?_getD, List.getElem?_eq_getElem hi]; rfl
theorem mapS_get {g : Va → Va} {l : List Tst} {i : Nat} (hi : i < l.length) : (mapS g l).getD i tst0 = ⟨(l.getD i tst0).lo, (l.getD i tst0).hi, g (l.getD i tst0).v⟩ := by
  rw [mapS, List.getD_eq_getElem?_getD, List.getElem?_map, List.getD_eq_getElem?_getD, List.getElem?_eq_getElem hi]; rfl
theorem mapS_isG {g : Va → Va} {D B D' B' : Int} {l : List Tst} (h : isG 3 D B l) (hok : ∀ s ∈ l, gOk 3 D' B' (g s.v)) (hinj : ∀ s ∈ l, ∀ t ∈ l, g s.v = g t.v → s.v = t.v) : isG 3 D' B' (mapS g l) := by
  refine isG_of ⟨fun s hs => ?_, h.asc.2.map _ fun s t hst => hst⟩ (nb_of fun i hi => ?_) fun s hs => ?_
  · obtain ⟨x, hx, rfl⟩ := List.mem_map.1 hs
    exact h.asc.1 x hx
  · rw [mapS_len] at hi
    rw [mapS_get (by omega), mapS_get hi]
    rintro ⟨e1, e2⟩
    exact nb_at h.nb hi ⟨e1, hinj _ (xe6 (by omega)) _ (xe6 hi) e2⟩
  · obtain ⟨x, hx, rfl⟩ := List.mem_map.1 hs
    exact ⟨h.out x hx, hok x hx⟩
theorem gS_map {w : Va → Int} {g : Va → Va} {l : List Tst} {a b : Int} : gS w (mapS g l) a b = gS (fun v => w (g v)) l a b := by
  rw [gS, gS, mapS, List.map_map]; rfl
theorem nD_map {g : Va → Va} {l : List Tst} {a b : Int} : nD (mapS g l) a b = nD l a b := gS_map
theorem gS_cong {w w' : Va → Int} {l : List Tst} {a b : Int} (h : ∀ s ∈ l, w s.v = w' s.v) : gS w l a b = gS w' l a b :=
  congrArg List.sum (List.map_congr_left fun s hs => by simp only [gS1, h s hs])
theorem va_eq {K : Nat} {D B : Int} {u v : Va} (hu : gOk K D B u) (hv : gOk K D B v) (e : wt D u = wt D v) : u = v := by
  obtain ⟨⟨_, a1, a2, a3, _⟩, a4, _⟩ := hu
  obtain ⟨⟨_, b1, b2, b3, _⟩, b4, _⟩ := hv
  have er : u.f.rat = v.f.rat := by rw [a4, b4, e]
  cases u; cases v
  simp only at *
  rw [a1, b1, a2, b2, a3, b3, er]
theorem tm_ok {v : Va} {u : Nat} (hu : u < 65536) (h : gOk 3 3 999 v) (h0 : 0 ≤ wt 3 v) : gOk 3 21 100000000 (tmV (scQ u) v) ∧ wt 21 (tmV (scQ u) v) = (1 + (u : Int)) * wt 3 v + 0 := by
  have hb := h.2.2.2
  have e : v.f.rat * scQ u = Rat.divInt ((1 + (u : Int)) * wt 3 v + 0) 21 := by
    have e1 := h.2.1
    generalize wt 3 v = k at *
    rw [e1, scQ_is, Rat.divInt_mul_divInt, Int.mul_comm k, Int.add_zero]; rfl
  have h1 : 0 ≤ (1 + (u : Int)) * wt 3 v := Int.mul_nonneg (by omega) h0
  have h2 : (1 + (u : Int)) * wt 3 v ≤ 65536 * 999 := Int.mul_le_mul (by omega) hb h0 (by decide)
  rw [tmV, e]
  exact ⟨gOk.mk (.inr rfl) (by decide) (by decide) (by omega) (by omega) (by decide), wt_is (by decide) (rat_fr _)⟩
theorem pl_ok {v : Va} {u : Nat} (hu : u < 65536) (h : gOk 3 3 999 v) (h0 : 0 ≤ wt 3 v) : gOk 3 21 100000000 (adV (scQ u) v) ∧ wt 21 (adV (scQ u) v) = 7 * wt 3 v + 3 * (1 + (u : Int)) := by
  have hb := h.2.2.2
  have e : v.f.rat + scQ u = Rat.divInt (7 * wt 3 v + 3 * (1 + (u : Int))) 21 := by
    have e1 := h.2.1
    generalize wt 3 v = k at *
    rw [e1, scQ_is, Rat.divInt_add_divInt _ _ (by decide) (by decide), Int.mul_comm k, Int.mul_comm (1 + (u : Int))]; rfl
  rw [adV, e]
  exact ⟨gOk.mk (.inr rfl) (by decide) (by decide) (by omega) (by omega) (by decide), wt_is (by decide) (rat_fr _)⟩
theorem nOk21 : nOk 21 100000000 := ⟨⟨by decide, by decide⟩, by decide, by decide⟩
theorem tm_isG {l : List Tst} {u : Nat} (hu : u < 65536) (h : isP 999 l) : isG 3 21 100000000 (mapS (tmV (scQ u)) l) :=
  mapS_isG h.1 (fun s hs => (tm_ok hu (h.1.2 s hs) (h.2 s hs)).1) fun s hs t ht e => va_eq (h.1.2 s hs) (h.1.2 t ht) (by
    have e2 := congrArg (wt 21) e
    rw [(tm_ok hu (h.1.2 s hs) (h.2 s hs)).2, (tm_ok hu (h.1.2 t ht) (h.2 t ht)).2, Int.add_zero, Int.add_zero] at e2
    exact Int.eq_of_mul_eq_mul_left (by omega) e2)
theorem pl_isG {l : List Tst} {u : Nat} (hu : u < 65536) (h : isP 999 l) : isG 3 21 100000000 (mapS (adV (scQ u)) l) :=
  mapS_isG h.1 (fun s hs => (pl_ok hu (h.1.2 s hs) (h.2 s hs)).1) fun s hs t ht e => va_eq (h.1.2 s hs) (h.1.2 t ht) (by
    have e2 := congrArg (wt 21) e
    rw [(pl_ok hu (h.1.2 s hs) (h.2 s hs)).2, (pl_ok hu (h.1.2 t ht) (h.2 t ht)).2] at e2
    omega)
theorem ok_map {g : Va → Va} {l : List Tst} {p q : Int} {n k : Nat} : okW (mapS g l) p q n k = okW l p q n k := by
  rw [okW, okW, nD_map]
theorem win_map {g : Va → Va} {l : List Tst} {p q : Int} {n : Nat} : winT (mapS g l) p q n = winT l p q n := win_same fun k _ => by rw [ok_map]
theorem tm_av {l : List Tst} {n k u : Nat} (hu : u < 65536) (h : isP 999 l) : avW 21 (mapS (tmV (scQ u)) l) n k = avW 3 l n k * scQ u := by
  rw [avW, avW, avQ, avQ, gS_map, gS_cong (w' := fun v => (1 + (u : Int)) * wt 3 v + 0) fun s hs => (tm_ok hu (h.1.2 s hs) (h.2 s hs)).2, gS_lin, scQ_is, Rat.divInt_mul_divInt]
  congr 1
  · rw [Int.zero_mul, Int.add_zero, Int.mul_comm]
  · omega
theorem pl_av {l : List Tst} {p q : Int} {n k u : Nat} (hu : u < 65536) (h : isP 999 l) (hn : 1 ≤ n) (hw : okW l p q n k = true) : avW 21 (mapS (adV (scQ u)) l) n k = avW 3 l n k + scQ u := by
  have hw := okW_iff.1 hw
  have hlt := start_lt (show k < k + n by omega) (by omega)
  rw [avW, avW, avQ, avQ, gS_map, gS_cong (w' := fun v => 7 * wt 3 v + 3 * (1 + (u : Int))) fun s hs => (pl_ok hu (h.1.2 s hs) (h.2 s hs)).2, gS_lin, hw.2.2.2, scQ_is, Rat.divInt_add_divInt _ _ (by omega) (by decide)]
  generalize startI (k + n) - startI k = N
  generalize gS (wt 3) l (startI k) (startI (k + n)) = S
  congr 1
  · rw [Int.mul_comm S 7, ← Int.mul_assoc, Int.mul_comm (1 + (u : Int)) 3]
  · omega
theorem tm_bst {l : List Tst} {p q : Int} {n u : Nat} (hu : u < 65536) (h : isP 999 l) : bstT 21 (mapS (tmV (scQ u)) l) p q n = bstT 3 l p q n := by
  rw [bstT, bstT, win_map]
  exact (bst_uniq win_asc fun k _ m _ => by rw [tm_av hu h, tm_av hu h, Rat.mul_lt_mul_right (scQ_pos u)]).symm
theorem pl_bst {l : List Tst} {p q : Int} {n u : Nat} (hu : u < 65536) (h : isP 999 l) (hn : 1 ≤ n) : bstT 21 (mapS (adV (scQ u)) l) p q n = bstT 3 l p q n := by
  rw [bstT, bstT, win_map]
  exact (bst_uniq win_asc fun k hk m hm => by rw [pl_av hu h hn (win_mem.1 hk).2, pl_av hu h hn (win_mem.1 hm).2, Rat.add_lt_add_right]).symm
theorem short_sc (u : Nat) (hu : u < 65536) : short (scQ u) := by rw [scQ_is]; exact short_dv (by decide) (by omega) (by omega) (by decide)
theorem c_MulS {v : Va} {u : Nat} (hu : u < 65536) (h : gOk 3 3 999 v) (h0 : 0 ≤ wt 3 v) : Ct Tryz.prog 18 [tFr v.f, tFr (fr (scQ u))] (tT [tFr (fr (v.f.rat * scQ u)), tI 0]) := by
  have hs : short (v.f.rat * scQ u) := by
    have := (tm_ok hu h h0).1.1.2.2.2.2
    rwa [tmV, rat_fr] at this
  have h1 := c_FMul v.f.rat (scQ u) h.1.2.2.2.2 (short_sc u hu)
  rw [resF, resFE, if_pos hs, if_pos hs, ← h.1.2.2.2.1] at h1; exact h1
theorem c_AddS {v : Va} {u : Nat} (hu : u < 65536) (h : gOk 3 3 999 v) (h0 : 0 ≤ wt 3 v) : Ct Tryz.prog 19 [tFr v.f, tFr (fr (scQ u))] (tT [tFr (fr (v.f.rat + scQ u)), tI 0]) := by
  have hs : short (v.f.rat + scQ u) := by
    have := (pl_ok hu h h0).1.1.2.2.2.2
    rwa [adV, rat_fr] at this
  have h1 := c_FAdd v.f.rat (scQ u) h.1.2.2.2.2 (short_sc u hu)
  rw [resF, resFE, if_pos hs, if_pos hs, ← h.1.2.2.2.1] at h1; exact h1
theorem c_MulR {a b : Rat} (ha : short a) (hb : short b) (hs : short (a * b)) : Ct Tryz.prog 18 [tFr (fr a), tFr (fr b)] (tT [tFr (fr (a * b)), tI 0]) := by
  have h1 := c_FMul a b ha hb
  rw [resF, resFE, if_pos hs, if_pos hs] at h1; exact h1
theorem c_AddR {a b : Rat} (ha : short a) (hb : short b) (hs : short (a + b)) : Ct Tryz.prog 19 [tFr (fr a), tFr (fr b)] (tT [tFr (fr (a + b)), tI 0]) := by
  have h1 := c_FAdd a b ha hb
  rw [resF, resFE, if_pos hs, if_pos hs] at h1; exact h1
theorem c_SalSc (m : List Nat) (hmm : ∀ i, m.getD i 0 < 65536) (x y z : Int) (u : Nat) (hu : u < 65536) :
    Ct Tryz.prog 4 [tG KL (tLm m), tI x, tI y, tI z, tE (.int .u16 (u : Int))] (tB true) := by
  obtain ⟨h, hll, hlast⟩ := pbT_ok m
  have hbt := c_Built09 m hmm
  generalize pbT m = l at *
  obtain ⟨p, hp⟩ : ∃ p, p = x % 15000 := ⟨_, rfl⟩
  obtain ⟨q, hq⟩ : ∃ q, q = x % 15000 + y % 3001 := ⟨_, rfl⟩
  have hpq : 0 ≤ p ∧ p ≤ q ∧ q ≤ 18000 ∧ q ≤ p + 3000 ∧ p < 15000 := by omega
  obtain ⟨n, hn⟩ : ∃ n : Nat, (n : Int) = 1 + z % 20 := ⟨(1 + z % 20).toNat, by omega⟩
  have hn1 : 1 ≤ n := by omega
  have hn2 : n ≤ 20 := by omega
  have hak := c_asked x y z
  rw [← hq, ← hp, ← hn] at hak
  have hask : askB l p q = true := askB_iff.2 ⟨h.1.pay, ⟨by omega, by omega⟩, by omega, by omega⟩
  have hlok : lenOk l p q (n : Int) := ⟨hask, by omega, by omega⟩
  obtain ⟨hf0, hf1, hf2⟩ := mon_bd hpq.1 hpq.2.2.2.2
  have hMo := c_Month2 p hpq.1 (by omega)
  generalize monI p = f at *
  have hfar := far_bd (q := q) hf0 hf2 hpq.2.2.2.1
  clear hMo
  have hT := tm_isG hu h
  have hP := pl_isG hu h
  have hlT := mapS_len (g := tmV (scQ u)) (l := l)
  have hlP := mapS_len (g := adV (scQ u)) (l := l)
  have kT : lenOk (mapS (tmV (scQ u)) l) p q (n : Int) := ⟨askB_iff.2 ⟨hT.pay, ⟨by omega, by omega⟩, by omega, by omega⟩, by omega, by omega⟩
  have kP : lenOk (mapS (adV (scQ u)) l) p q (n : Int) := ⟨askB_iff.2 ⟨hP.pay, ⟨by omega, by omega⟩, by omega, by omega⟩, by omega, by omega⟩
  have hB1 := c_Best 3 999 l p q n nOk9 h.1.dig (fun _ => h.1) (by omega)
  have hB2 := c_Best 21 100000000 (mapS (tmV (scQ u)) l) p q n nOk21 hT.dig (fun _ => hT) (by omega)
  have hB3 := c_Best 21 100000000 (mapS (adV (scQ u)) l) p q n nOk21 hP.dig (fun _ => hP) (by omega)
  have hW1 := c_When 3 999 l p q n nOk9 h.1.dig (fun _ => h.1) (by omega)
  have hW2 := c_When 21 100000000 (mapS (tmV (scQ u)) l) p q n nOk21 hT.dig (fun _ => hT) (by omega)
  have hW3 := c_When 21 100000000 (mapS (adV (scQ u)) l) p q n nOk21 hP.dig (fun _ => hP) (by omega)
  rw [bO, if_pos hlok, bE, if_pos hlok, Int.toNat_natCast] at hB1 hW1
  rw [bO, if_pos kT, bE, if_pos kT, Int.toNat_natCast, tm_bst hu h] at hB2 hW2
  rw [bO, if_pos kP, bE, if_pos kP, Int.toNat_natCast, pl_bst hu h hn1] at hB3 hW3
  obtain ⟨o, ho⟩ : ∃ o, o = bstT 3 l p q n := ⟨_, rfl⟩
  rw [← ho] at hB1 hB2 hB3 hW1 hW2 hW3
  refine Ct.intro Tryz.func4 rfl Tryz.ntmps4 rfl ?_
  intro w F
  refine C_know (i := 0) (q := 5) rfl rfl (x6 ?_)
  refine x8 ?_
  refine R1 x5 rfl (x7 (by kernel_rfl) (x4 (x6 (x6 ?_))))
  refine x8 ?_
  refine R1 (d_call0 5 car_K c_awake09 fi9) rfl (R1 xe4 rfl (x7 (by kernel_rfl) (x4 (C_bF rfl rfl (xa5 (x4 (x6 ?_)))))))
  refine x8 ?_
  refine R1 x3 rfl (R1 (xa1 hbt fi10 rfl) rfl (R1 x5 rfl (x7 (by kernel_rfl) (x4 (x6 ?_)))))
  refine x8 ?_
  refine R1 x3 rfl (R1 x3 rfl (R1 x3 rfl (R3 (xa1 hak fi11 rfl) rfl rfl rfl (R1 x3 rfl (R1 (xa2 rfl) rfl (R1 (xa2 rfl) rfl (R1 (xa2 rfl) rfl ?_)))))))
  refine R1 x5 rfl (R1 x5 rfl (R1 x5 rfl (x7 (by kernel_rfl) (x4 (x6 ?_)))))
  refine x8 ?_
  refine R1 x3 rfl (R1 (xb1 Tryz.underlying3 (isS Tryz.underlying46) (wr64 (by omega) (by omega))) rfl (R2 (xb5 (wr64 (by omega) (by omega))) rfl rfl (R2 (xa1 (c_KFrac (1 + (u : Int)) 7 (by omega) (by omega) (by decide) (by decide)) fi17 rfl) rfl rfl (RE (xb4 (k := 13) (n := 4) (agg := true) zr31.1 zr31.2 rfl) trivial trivial ⟨rfl, trivial⟩ (RE (xa3 (es := 4) (agg := true) (0) ti31 rfl rfl rfl) ⟨rfl, rfl, trivial⟩ ⟨rfl, trivial⟩ trivial (x7 (by kernel_rfl) (x4 ?_)))))))
  refine x6 ?_
  refine x8 ?_
  refine RE (d_assignN (k := 14) 41 8 true rfl (fun h => by cases h)) trivial trivial ⟨rfl, trivial⟩ (RE (d_assignN (k := 15) 41 8 true rfl (fun h => by cases h)) trivial trivial ⟨rfl, trivial⟩ (x7 (by kernel_rfl) (x4 (x6 (x6 ?_)))))
  refine x8 ?_
  refine R1 x3 rfl (R1 (xc6 Tryz.underlying24) rfl (R1 x3 rfl (x7 (by kernel_rfl) (x4 (xb3 ?_)))))
  refine xe0 (fun (fm : (Nat) × (List Tst) × (List Tst)) => (fun (i : Nat) (xs : List Tst) (ys : List Tst) => i ≤ l.length ∧ xs = mapS (tmV (scQ u)) (l.take i) ∧ ys = mapS (adV (scQ u)) (l.take i)) fm.1 fm.2.1 fm.2.2) (fun (fm : (Nat) × (List Tst) × (List Tst)) => (fun (i : Nat) (xs : List Tst) (ys : List Tst) => upd (upd (upd (upd (upd (upd (upd (upd (upd (upd (upd (fun _ => none) 1 (some (.val (tI p)))) 3 (some (.val (tI (n : Int))))) 5 (some (.val (tK KL)))) 11 (some (.val (tL 8 true tTs l)))) 12 (some (.val (tI q)))) 13 (some (.own (.ptr 13 0)))) 14 (some (.own (.sl 14 8 0 xs.length)))) 15 (some (.own (.sl 15 8 0 ys.length)))) 54 (some (.val (tL 8 true tTs l)))) 55 (some (.val (tI l.length)))) 56 (some (.val (tI i)))) fm.1 fm.2.1 fm.2.2) (fun (fm : (Nat) × (List Tst) × (List Tst)) => (fun (i : Nat) (xs : List Tst) (ys : List Tst) => upd (upd (upd (fun _ => none) 13 (some (⟨31, 4, true, [.val (tFr (fr (scQ u)))]⟩))) 14 (some (⟨41, 8, true, rV tTs xs⟩))) 15 (some (⟨41, 8, true, rV tTs ys⟩))) fm.1 fm.2.1 fm.2.2) (nm [13, 14, 15]) (fun (fm : (Nat) × (List Tst) × (List Tst)) => (fun (i : Nat) (xs : List Tst) (ys : List Tst) => l.length - i) fm.1 fm.2.1 fm.2.2) ((0, [], [])) (by dsimp only; exact ⟨Nat.zero_le _, rfl, rfl⟩) (Sub.int rfl (by first | omega | rfl | (dsimp only; omega)) (Sub.int rfl (by first | omega | rfl | (dsimp only; omega)) (Sub.cons rfl (Sub.cons rfl (Sub.cons rfl (Sub.cons rfl (Sub.int rfl (by first | omega | rfl | (dsimp only; omega)) (Sub.cons rfl (Sub.cons rfl (Sub.int rfl (by first | omega | rfl | (dsimp only; omega)) (Sub.int rfl (by first | omega | rfl | (dsimp only; omega)) Sub.nil))))))))))) ((SubK.consI rfl ImpK.refl) ((SubK.consI rfl ImpK.refl) ((SubK.consI rfl ImpK.refl) SubK.nil))) (SupG.val (SupG.val (SupG.val (SupG.own rfl (SupG.own rfl (SupG.own rfl (SupG.val (SupG.val (SupG.val (SupG.val (SupG.val SupG.nil))))))))))) (SupH.cons rfl (supJ xe3) (SupH.cons rfl (supJ xe3) (SupH.cons rfl (supJL rfl) SupH.nil))) (lkOk rfl) ?_
  intro fm hI
  obtain ⟨i, xs, ys⟩ := fm
  replace hI : i ≤ l.length ∧ xs = mapS (tmV (scQ u)) (l.take i) ∧ ys = mapS (adV (scQ u)) (l.take i) := hI
  show wc _ _ _ _ (upd (upd (upd (upd (upd (upd (upd (upd (upd (upd (upd (fun _ => none) 1 (some (.val (tI p)))) 3 (some (.val (tI (n : Int))))) 5 (some (.val (tK KL)))) 11 (some (.val (tL 8 true tTs l)))) 12 (some (.val (tI q)))) 13 (some (.own (.ptr 13 0)))) 14 (some (.own (.sl 14 8 0 xs.length)))) 15 (some (.own (.sl 15 8 0 ys.length)))) 54 (some (.val (tL 8 true tTs l)))) 55 (some (.val (tI l.length)))) 56 (some (.val (tI i)))) (upd (upd (upd (fun _ => none) 13 (some (⟨31, 4, true, [.val (tFr (fr (scQ u)))]⟩))) 14 (some (⟨41, 8, true, rV tTs xs⟩))) 15 (some (⟨41, 8, true, rV tTs ys⟩))) _
  obtain ⟨hi, hx, hy⟩ := hI
  have hxl : xs.length = i := by rw [hx, mapS_len, List.length_take]; omega
  have hyl : ys.length = i := by rw [hy, mapS_len, List.length_take]; omega
  refine x6 ?_
  refine x8 ?_
  refine R2 xd8 rfl rfl (x7 (by kernel_rfl) (x4 (x6 ?_)))
  refine xc0 rfl (fun h185 => ?_) (fun h185 => ?_)
  ·
    refine xa5 (x4 (x6 (xb3 (x6 ?_))))
    refine x8 ?_
    refine R2 (xc1 sl24 (i) (by omega) (gD (l := l) (n := i) (d := tst0) (by omega))) rfl rfl (R1 (xc5 ti41) rfl (RE (xb4 (k := 17) (n := 8) (agg := true) zr41.1 zr41.2 rfl) trivial trivial ⟨rfl, trivial⟩ (RE (xa3 (es := 8) (agg := true) (0) ti41 rfl rfl rfl) ⟨rfl, rfl, trivial⟩ ⟨rfl, trivial⟩ trivial (x7 (by kernel_rfl) (x4 (x6 ?_))))))
    have hm2 := xe6 (l := l) (i := i) (by omega)
    have hso := h.1.2 _ hm2
    have hs0 := h.2 _ hm2
    refine x8 ?_
    refine R1 (x9 fo41_2 rfl) rfl (R1 (x9 fo39_1 rfl) rfl (xa6 (0) ti31 rfl rfl rfl (At.t (At.g 2 rfl rfl) (At.g 1 rfl rfl)) rfl (RE (xa7 (0) ti31 rfl rfl) ⟨rfl, trivial⟩ ⟨rfl, trivial⟩ trivial (R2 (xa1 (c_MulS hu hso hs0) fi18 rfl) rfl rfl (R1 x3 rfl (R1 (xa2 rfl) rfl (R1 (xa2 rfl) rfl ?_)))))))
    refine RE (xb4 (k := 18) (n := 4) (agg := true) zr31.1 zr31.2 rfl) trivial trivial ⟨rfl, trivial⟩ (RE (xa3 (es := 4) (agg := true) (0) ti31 rfl rfl rfl) ⟨rfl, rfl, trivial⟩ ⟨rfl, trivial⟩ trivial (R1 x5 rfl (x7 (by kernel_rfl) (x4 (x6 ?_)))))
    refine x8 ?_
    refine R1 (x9 fo41_2 rfl) rfl (R1 (x9 fo39_1 rfl) rfl (xa6 (0) ti31 rfl rfl rfl (At.t (At.g 2 rfl rfl) (At.g 1 rfl rfl)) rfl (RE (xa7 (0) ti31 rfl rfl) ⟨rfl, trivial⟩ ⟨rfl, trivial⟩ trivial (R2 (xa1 (c_AddS hu hso hs0) fi19 rfl) rfl rfl (R1 x3 rfl (R1 (xa2 rfl) rfl (R1 (xa2 rfl) rfl ?_)))))))
    refine RE (xb4 (k := 20) (n := 4) (agg := true) zr31.1 zr31.2 rfl) trivial trivial ⟨rfl, trivial⟩ (RE (xa3 (es := 4) (agg := true) (0) ti31 rfl rfl rfl) ⟨rfl, rfl, trivial⟩ ⟨rfl, trivial⟩ trivial (R1 x5 rfl (x7 (by kernel_rfl) (x4 (x6 (x6 ?_))))))
    refine x8 ?_
    refine R1 x3 rfl (R1 x3 rfl (R2 (xb5 (wr64 (by omega) (by omega))) rfl rfl (R2 xe7 rfl rfl (x7 (by kernel_rfl) (x4 (C_bF rfl (decide_eq_false (by omega)) (xa5 ?_)))))))
    refine x4 (x6 ?_)
    refine x8 ?_
    refine R1 x3 rfl (R1 (x9 fo41_0 rfl) rfl (xa6 (0) ti3 rfl rfl rfl (At.g 0 rfl rfl) rfl (R1 (x9 fo41_1 rfl) rfl (xa6 (0) ti3 rfl rfl rfl (At.g 1 rfl rfl) rfl (RE (xa7 (0) ti31 rfl rfl) ⟨rfl, trivial⟩ ⟨rfl, trivial⟩ trivial (R2 (xc8 (r := tS [⟨1, false, tE (.int .u8 3)⟩, ⟨4, true, tFr (fr ((l.getD i tst0).v.f.rat * scQ u))⟩, ⟨1, false, (tE (.int .i64 0))⟩]) (ts := [(0, tE (.int .u8 3)), (1, tFr (fr ((l.getD i tst0).v.f.rat * scQ u)))]) bu39 zr39.2 ⟨_, rfl⟩ rfl ⟨_, _, _, _, rfl, Up.f (fs := [⟨1, false, (tE (.int .u8 0))⟩, ⟨4, true, (tS [⟨2, true, (tS [⟨1, false, (tE (.bool false))⟩, ⟨1, false, (tLm [])⟩])⟩, ⟨2, true, (tS [⟨1, false, (tE (.bool false))⟩, ⟨1, false, (tLm [])⟩])⟩])⟩, ⟨1, false, (tE (.int .i64 0))⟩]) (f := ⟨1, false, (tE (.int .u8 0))⟩) (fs' := [⟨1, false, tE (.int .u8 3)⟩, ⟨4, true, (tS [⟨2, true, (tS [⟨1, false, (tE (.bool false))⟩, ⟨1, false, (tLm [])⟩])⟩, ⟨2, true, (tS [⟨1, false, (tE (.bool false))⟩, ⟨1, false, (tLm [])⟩])⟩])⟩, ⟨1, false, (tE (.int .i64 0))⟩]) 0 rfl rfl rfl, inferInstance, ⟨_, _, _, _, rfl, Up.f (fs := [⟨1, false, tE (.int .u8 3)⟩, ⟨4, true, (tS [⟨2, true, (tS [⟨1, false, (tE (.bool false))⟩, ⟨1, false, (tLm [])⟩])⟩, ⟨2, true, (tS [⟨1, false, (tE (.bool false))⟩, ⟨1, false, (tLm [])⟩])⟩])⟩, ⟨1, false, (tE (.int .i64 0))⟩]) (f := ⟨4, true, (tS [⟨2, true, (tS [⟨1, false, (tE (.bool false))⟩, ⟨1, false, (tLm [])⟩])⟩, ⟨2, true, (tS [⟨1, false, (tE (.bool false))⟩, ⟨1, false, (tLm [])⟩])⟩])⟩) (fs' := [⟨1, false, tE (.int .u8 3)⟩, ⟨4, true, tFr (fr ((l.getD i tst0).v.f.rat * scQ u))⟩, ⟨1, false, (tE (.int .i64 0))⟩]) 1 rfl rfl rfl, inferInstance, Le.refl⟩⟩) rfl rfl (R3 (xc8 (r := tS [⟨1, false, tI (l.getD i tst0).lo⟩, ⟨1, false, tI (l.getD i tst0).hi⟩, ⟨6, true, tVa (tmV (scQ u) (l.getD i tst0).v)⟩]) (ts := [(0, tI (l.getD i tst0).lo), (1, tI (l.getD i tst0).hi), (2, tVa (tmV (scQ u) (l.getD i tst0).v))]) bu41 zr41.2 ⟨_, rfl⟩ rfl ⟨_, _, _, _, rfl, Up.f (fs := [⟨1, false, (tE (.int .i64 0))⟩, ⟨1, false, (tE (.int .i64 0))⟩, ⟨6, true, (tS [⟨1, false, (tE (.int .u8 0))⟩, ⟨4, true, (tS [⟨2, true, (tS [⟨1, false, (tE (.bool false))⟩, ⟨1, false, (tLm [])⟩])⟩, ⟨2, true, (tS [⟨1, false, (tE (.bool false))⟩, ⟨1, false, (tLm [])⟩])⟩])⟩, ⟨1, false, (tE (.int .i64 0))⟩])⟩]) (f := ⟨1, false, (tE (.int .i64 0))⟩) (fs' := [⟨1, false, tI (l.getD i tst0).lo⟩, ⟨1, false, (tE (.int .i64 0))⟩, ⟨6, true, (tS [⟨1, false, (tE (.int .u8 0))⟩, ⟨4, true, (tS [⟨2, true, (tS [⟨1, false, (tE (.bool false))⟩, ⟨1, false, (tLm [])⟩])⟩, ⟨2, true, (tS [⟨1, false, (tE (.bool false))⟩, ⟨1, false, (tLm [])⟩])⟩])⟩, ⟨1, false, (tE (.int .i64 0))⟩])⟩]) 0 rfl rfl rfl, inferInstance, ⟨_, _, _, _, rfl, Up.f (fs := [⟨1, false, tI (l.getD i tst0).lo⟩, ⟨1, false, (tE (.int .i64 0))⟩, ⟨6, true, (tS [⟨1, false, (tE (.int .u8 0))⟩, ⟨4, true, (tS [⟨2, true, (tS [⟨1, false, (tE (.bool false))⟩, ⟨1, false, (tLm [])⟩])⟩, ⟨2, true, (tS [⟨1, false, (tE (.bool false))⟩, ⟨1, false, (tLm [])⟩])⟩])⟩, ⟨1, false, (tE (.int .i64 0))⟩])⟩]) (f := ⟨1, false, (tE (.int .i64 0))⟩) (fs' := [⟨1, false, tI (l.getD i tst0).lo⟩, ⟨1, false, tI (l.getD i tst0).hi⟩, ⟨6, true, (tS [⟨1, false, (tE (.int .u8 0))⟩, ⟨4, true, (tS [⟨2, true, (tS [⟨1, false, (tE (.bool false))⟩, ⟨1, false, (tLm [])⟩])⟩, ⟨2, true, (tS [⟨1, false, (tE (.bool false))⟩, ⟨1, false, (tLm [])⟩])⟩])⟩, ⟨1, false, (tE (.int .i64 0))⟩])⟩]) 1 rfl rfl rfl, inferInstance, ⟨_, _, _, _, rfl, Up.f (fs := [⟨1, false, tI (l.getD i tst0).lo⟩, ⟨1, false, tI (l.getD i tst0).hi⟩, ⟨6, true, (tS [⟨1, false, (tE (.int .u8 0))⟩, ⟨4, true, (tS [⟨2, true, (tS [⟨1, false, (tE (.bool false))⟩, ⟨1, false, (tLm [])⟩])⟩, ⟨2, true, (tS [⟨1, false, (tE (.bool false))⟩, ⟨1, false, (tLm [])⟩])⟩])⟩, ⟨1, false, (tE (.int .i64 0))⟩])⟩]) (f := ⟨6, true, (tS [⟨1, false, (tE (.int .u8 0))⟩, ⟨4, true, (tS [⟨2, true, (tS [⟨1, false, (tE (.bool false))⟩, ⟨1, false, (tLm [])⟩])⟩, ⟨2, true, (tS [⟨1, false, (tE (.bool false))⟩, ⟨1, false, (tLm [])⟩])⟩])⟩, ⟨1, false, (tE (.int .i64 0))⟩])⟩) (fs' := [⟨1, false, tI (l.getD i tst0).lo⟩, ⟨1, false, tI (l.getD i tst0).hi⟩, ⟨6, true, tVa (tmV (scQ u) (l.getD i tst0).v)⟩]) 2 rfl rfl rfl, inferInstance, Le.refl⟩⟩⟩) rfl rfl rfl ?_)))))))
    refine R1 (xg0 (n := 1) (f := tTs) [(⟨(l.getD i tst0).lo, (l.getD i tst0).hi, tmV (scQ u) (l.getD i tst0).v⟩ : Tst)] Tryz.underlying24 el41 zf41 rfl (fun _ => inferInstance) rfl rfl rfl) rfl (RE (xf9 (k := 14) (k' := 89) (f := tTs) (ys := [(⟨(l.getD i tst0).lo, (l.getD i tst0).hi, tmV (scQ u) (l.getD i tst0).v⟩ : Tst)]) (ts' := rV tTs (xs ++ [(⟨(l.getD i tst0).lo, (l.getD i tst0).hi, tmV (scQ u) (l.getD i tst0).v⟩ : Tst)])) Tryz.underlying24 el41 zf41 rfl rfl (fun _ => inferInstance) rV_len (by simp; omega) (by simp; omega) (by simp [rV]) (n' := xs.length + 1) rfl) ⟨rfl, rfl, trivial⟩ ⟨rfl, trivial⟩ ⟨rfl, trivial⟩ (R1 x5 rfl (x7 (by kernel_rfl) (x4 ?_))))
    refine x8 ?_
    refine R1 x3 rfl (R1 (x9 fo41_0 rfl) rfl (xa6 (0) ti3 rfl rfl rfl (At.g 0 rfl rfl) rfl (R1 (x9 fo41_1 rfl) rfl (xa6 (0) ti3 rfl rfl rfl (At.g 1 rfl rfl) rfl (RE (xa7 (0) ti31 rfl rfl) ⟨rfl, trivial⟩ ⟨rfl, trivial⟩ trivial (R2 (xc8 (r := tS [⟨1, false, tE (.int .u8 3)⟩, ⟨4, true, tFr (fr ((l.getD i tst0).v.f.rat + scQ u))⟩, ⟨1, false, (tE (.int .i64 0))⟩]) (ts := [(0, tE (.int .u8 3)), (1, tFr (fr ((l.getD i tst0).v.f.rat + scQ u)))]) bu39 zr39.2 ⟨_, rfl⟩ rfl ⟨_, _, _, _, rfl, Up.f (fs := [⟨1, false, (tE (.int .u8 0))⟩, ⟨4, true, (tS [⟨2, true, (tS [⟨1, false, (tE (.bool false))⟩, ⟨1, false, (tLm [])⟩])⟩, ⟨2, true, (tS [⟨1, false, (tE (.bool false))⟩, ⟨1, false, (tLm [])⟩])⟩])⟩, ⟨1, false, (tE (.int .i64 0))⟩]) (f := ⟨1, false, (tE (.int .u8 0))⟩) (fs' := [⟨1, false, tE (.int .u8 3)⟩, ⟨4, true, (tS [⟨2, true, (tS [⟨1, false, (tE (.bool false))⟩, ⟨1, false, (tLm [])⟩])⟩, ⟨2, true, (tS [⟨1, false, (tE (.bool false))⟩, ⟨1, false, (tLm [])⟩])⟩])⟩, ⟨1, false, (tE (.int .i64 0))⟩]) 0 rfl rfl rfl, inferInstance, ⟨_, _, _, _, rfl, Up.f (fs := [⟨1, false, tE (.int .u8 3)⟩, ⟨4, true, (tS [⟨2, true, (tS [⟨1, false, (tE (.bool false))⟩, ⟨1, false, (tLm [])⟩])⟩, ⟨2, true, (tS [⟨1, false, (tE (.bool false))⟩, ⟨1, false, (tLm [])⟩])⟩])⟩, ⟨1, false, (tE (.int .i64 0))⟩]) (f := ⟨4, true, (tS [⟨2, true, (tS [⟨1, false, (tE (.bool false))⟩, ⟨1, false, (tLm [])⟩])⟩, ⟨2, true, (tS [⟨1, false, (tE (.bool false))⟩, ⟨1, false, (tLm [])⟩])⟩])⟩) (fs' := [⟨1, false, tE (.int .u8 3)⟩, ⟨4, true, tFr (fr ((l.getD i tst0).v.f.rat + scQ u))⟩, ⟨1, false, (tE (.int .i64 0))⟩]) 1 rfl rfl rfl, inferInstance, Le.refl⟩⟩) rfl rfl (R3 (xc8 (r := tS [⟨1, false, tI (l.getD i tst0).lo⟩, ⟨1, false, tI (l.getD i tst0).hi⟩, ⟨6, true, tVa (adV (scQ u) (l.getD i tst0).v)⟩]) (ts := [(0, tI (l.getD i tst0).lo), (1, tI (l.getD i tst0).hi), (2, tVa (adV (scQ u) (l.getD i tst0).v))]) bu41 zr41.2 ⟨_, rfl⟩ rfl ⟨_, _, _, _, rfl, Up.f (fs := [⟨1, false, (tE (.int .i64 0))⟩, ⟨1, false, (tE (.int .i64 0))⟩, ⟨6, true, (tS [⟨1, false, (tE (.int .u8 0))⟩, ⟨4, true, (tS [⟨2, true, (tS [⟨1, false, (tE (.bool false))⟩, ⟨1, false, (tLm [])⟩])⟩, ⟨2, true, (tS [⟨1, false, (tE (.bool false))⟩, ⟨1, false, (tLm [])⟩])⟩])⟩, ⟨1, false, (tE (.int .i64 0))⟩])⟩]) (f := ⟨1, false, (tE (.int .i64 0))⟩) (fs' := [⟨1, false, tI (l.getD i tst0).lo⟩, ⟨1, false, (tE (.int .i64 0))⟩, ⟨6, true, (tS [⟨1, false, (tE (.int .u8 0))⟩, ⟨4, true, (tS [⟨2, true, (tS [⟨1, false, (tE (.bool false))⟩, ⟨1, false, (tLm [])⟩])⟩, ⟨2, true, (tS [⟨1, false, (tE (.bool false))⟩, ⟨1, false, (tLm [])⟩])⟩])⟩, ⟨1, false, (tE (.int .i64 0))⟩])⟩]) 0 rfl rfl rfl, inferInstance, ⟨_, _, _, _, rfl, Up.f (fs := [⟨1, false, tI (l.getD i tst0).lo⟩, ⟨1, false, (tE (.int .i64 0))⟩, ⟨6, true, (tS [⟨1, false, (tE (.int .u8 0))⟩, ⟨4, true, (tS [⟨2, true, (tS [⟨1, false, (tE (.bool false))⟩, ⟨1, false, (tLm [])⟩])⟩, ⟨2, true, (tS [⟨1, false, (tE (.bool false))⟩, ⟨1, false, (tLm [])⟩])⟩])⟩, ⟨1, false, (tE (.int .i64 0))⟩])⟩]) (f := ⟨1, false, (tE (.int .i64 0))⟩) (fs' := [⟨1, false, tI (l.getD i tst0).lo⟩, ⟨1, false, tI (l.getD i tst0).hi⟩, ⟨6, true, (tS [⟨1, false, (tE (.int .u8 0))⟩, ⟨4, true, (tS [⟨2, true, (tS [⟨1, false, (tE (.bool false))⟩, ⟨1, false, (tLm [])⟩])⟩, ⟨2, true, (tS [⟨1, false, (tE (.bool false))⟩, ⟨1, false, (tLm [])⟩])⟩])⟩, ⟨1, false, (tE (.int .i64 0))⟩])⟩]) 1 rfl rfl rfl, inferInstance, ⟨_, _, _, _, rfl, Up.f (fs := [⟨1, false, tI (l.getD i tst0).lo⟩, ⟨1, false, tI (l.getD i tst0).hi⟩, ⟨6, true, (tS [⟨1, false, (tE (.int .u8 0))⟩, ⟨4, true, (tS [⟨2, true, (tS [⟨1, false, (tE (.bool false))⟩, ⟨1, false, (tLm [])⟩])⟩, ⟨2, true, (tS [⟨1, false, (tE (.bool false))⟩, ⟨1, false, (tLm [])⟩])⟩])⟩, ⟨1, false, (tE (.int .i64 0))⟩])⟩]) (f := ⟨6, true, (tS [⟨1, false, (tE (.int .u8 0))⟩, ⟨4, true, (tS [⟨2, true, (tS [⟨1, false, (tE (.bool false))⟩, ⟨1, false, (tLm [])⟩])⟩, ⟨2, true, (tS [⟨1, false, (tE (.bool false))⟩, ⟨1, false, (tLm [])⟩])⟩])⟩, ⟨1, false, (tE (.int .i64 0))⟩])⟩) (fs' := [⟨1, false, tI (l.getD i tst0).lo⟩, ⟨1, false, tI (l.getD i tst0).hi⟩, ⟨6, true, tVa (adV (scQ u) (l.getD i tst0).v)⟩]) 2 rfl rfl rfl, inferInstance, Le.refl⟩⟩⟩) rfl rfl rfl ?_)))))))
    refine R1 (xg0 (n := 1) (f := tTs) [(⟨(l.getD i tst0).lo, (l.getD i tst0).hi, adV (scQ u) (l.getD i tst0).v⟩ : Tst)] Tryz.underlying24 el41 zf41 rfl (fun _ => inferInstance) rfl rfl rfl) rfl (RE (xf9 (k := 15) (k' := 99) (f := tTs) (ys := [(⟨(l.getD i tst0).lo, (l.getD i tst0).hi, adV (scQ u) (l.getD i tst0).v⟩ : Tst)]) (ts' := rV tTs (ys ++ [(⟨(l.getD i tst0).lo, (l.getD i tst0).hi, adV (scQ u) (l.getD i tst0).v⟩ : Tst)])) Tryz.underlying24 el41 zf41 rfl rfl (fun _ => inferInstance) rV_len (by simp; omega) (by simp; omega) (by simp [rV]) (n' := ys.length + 1) rfl) ⟨rfl, rfl, trivial⟩ ⟨rfl, trivial⟩ ⟨rfl, trivial⟩ (R1 x5 rfl (x7 (by kernel_rfl) (xb9 (x4 ?_)))))
    refine x8 ?_
    refine R2 (xb5 (wr64 (by omega) (by omega))) rfl rfl (R1 x3 rfl (x7 (by kernel_rfl) ?_))
    exact K_famR (l := [13, 14, 15]) (fun j => cond (Nat.beq j 15) 99 (cond (Nat.beq j 14) 89 (j))) ((i + 1, xs ++ [(⟨(l.getD i tst0).lo, (l.getD i tst0).hi, tmV (scQ u) (l.getD i tst0).v⟩ : Tst)], ys ++ [(⟨(l.getD i tst0).lo, (l.getD i tst0).hi, adV (scQ u) (l.getD i tst0).v⟩ : Tst)])) ⟨(by dsimp only; exact ⟨by omega, by rw [mapS_snoc (by omega), hx], by rw [mapS_snoc (by omega), hy]⟩), (by dsimp only; omega)⟩ (SubR.int rfl (by first | omega | rfl | (dsimp only; omega)) (SubR.int rfl (by first | omega | rfl | (dsimp only; omega)) (SubR.cons rfl ((SubR.consI rfl (Imp.of (by dsimp only; rw [List.length_append]; rfl))) ((SubR.consI rfl (Imp.of (by dsimp only; rw [List.length_append]; rfl))) (SubR.cons rfl (SubR.int rfl (by first | omega | rfl | (dsimp only; omega)) (SubR.cons rfl (SubR.cons rfl (SubR.int rfl (by first | omega | rfl | (dsimp only; omega)) (SubR.int rfl (by first | omega | rfl | (dsimp only; omega)) SubR.nil))))))))))) ((SubKR.consI rfl (ImpK.of ren_rV.symm)) ((SubKR.consI rfl (ImpK.of ren_rV.symm)) ((SubKR.consI rfl ImpK.refl) SubKR.nil))) (SupG.val (SupG.val (SupG.val (SupG.own rfl (SupG.own rfl (SupG.own rfl (SupG.val (SupG.val (SupG.val (SupG.val (SupG.val SupG.nil))))))))))) (SupH.cons rfl (supJ xe3) (SupH.cons rfl (supJ xe3) (SupH.cons rfl (supJL rfl) SupH.nil))) (lkOk rfl) rfl rfl (fun _ h => by cases h)
  ·
    refine xd3 (xb7 (xb7 (xd9 (x4 (x6 ?_)))))
    have hie : i = l.length := by omega
    subst hie
    rw [List.take_length] at hx hy
    subst hx
    subst hy
    refine C_give (t := 14) (k := 14) (f := tTs) (xs := (mapS (tmV (scQ u)) l)) rfl rfl (fun _ h => h) (rV_all rfl) rfl (C_give (t := 15) (k := 15) (f := tTs) (xs := (mapS (adV (scQ u)) l)) rfl rfl (fun _ h => h) (rV_all rfl) rfl ?_)
    refine x8 ?_
    refine R1 x3 rfl (R1 x3 rfl (R1 x3 rfl (R1 x3 rfl (RE (xh0 5 car_K hB1 fi20 rfl) ⟨rfl, rfl, rfl, rfl, rfl, trivial⟩ trivial trivial (R1 x3 rfl (R1 (xa2 rfl) rfl (R1 (xa2 rfl) rfl ?_)))))))
    refine RE (xb4 (k := 22) (n := 4) (agg := true) zr31.1 zr31.2 rfl) trivial trivial ⟨rfl, trivial⟩ (RE (xa3 (es := 4) (agg := true) (0) ti31 rfl rfl rfl) ⟨rfl, rfl, trivial⟩ ⟨rfl, trivial⟩ trivial (R1 x5 rfl (x7 (by kernel_rfl) (x4 (x6 ?_)))))
    refine x8 ?_
    refine R1 x3 rfl (R1 x3 rfl (R1 x3 rfl (R1 x3 rfl (RE (xh0 5 car_K hB2 fi20 rfl) ⟨rfl, rfl, rfl, rfl, rfl, trivial⟩ trivial trivial (R1 x3 rfl (R1 (xa2 rfl) rfl (R1 (xa2 rfl) rfl ?_)))))))
    refine RE (xb4 (k := 24) (n := 4) (agg := true) zr31.1 zr31.2 rfl) trivial trivial ⟨rfl, trivial⟩ (RE (xa3 (es := 4) (agg := true) (0) ti31 rfl rfl rfl) ⟨rfl, rfl, trivial⟩ ⟨rfl, trivial⟩ trivial (R1 x5 rfl (x7 (by kernel_rfl) (x4 (x6 ?_)))))
    refine x8 ?_
    refine R1 x3 rfl (R1 x3 rfl (R1 x3 rfl (R1 x3 rfl (RE (xh0 5 car_K hB3 fi20 rfl) ⟨rfl, rfl, rfl, rfl, rfl, trivial⟩ trivial trivial (R1 x3 rfl (R1 (xa2 rfl) rfl (R1 (xa2 rfl) rfl ?_)))))))
    refine RE (xb4 (k := 26) (n := 4) (agg := true) zr31.1 zr31.2 rfl) trivial trivial ⟨rfl, trivial⟩ (RE (xa3 (es := 4) (agg := true) (0) ti31 rfl rfl rfl) ⟨rfl, rfl, trivial⟩ ⟨rfl, trivial⟩ trivial (R1 x5 rfl (x7 (by kernel_rfl) (x4 (x6 ?_)))))
    refine x8 ?_
    refine R1 x3 rfl (R1 x3 rfl (R1 x3 rfl (R1 x3 rfl (RE (xh0 5 car_K hW1 fi21 rfl) ⟨rfl, rfl, rfl, rfl, rfl, trivial⟩ trivial trivial (R1 x3 rfl (R1 (xa2 rfl) rfl (R1 (xa2 rfl) rfl ?_)))))))
    refine R1 x5 rfl (R1 x5 rfl (x7 (by kernel_rfl) (x4 (x6 ?_))))
    refine x8 ?_
    refine R1 x3 rfl (R1 x3 rfl (R1 x3 rfl (R1 x3 rfl (RE (xh0 5 car_K hW2 fi21 rfl) ⟨rfl, rfl, rfl, rfl, rfl, trivial⟩ trivial trivial (R1 x3 rfl (R1 (xa2 rfl) rfl (R1 (xa2 rfl) rfl ?_)))))))
    refine R1 x5 rfl (R1 x5 rfl (x7 (by kernel_rfl) (x4 (x6 ?_))))
    refine x8 ?_
    refine R1 x3 rfl (R1 x3 rfl (R1 x3 rfl (R1 x3 rfl (RE (xh0 5 car_K hW3 fi21 rfl) ⟨rfl, rfl, rfl, rfl, rfl, trivial⟩ trivial trivial (R1 x3 rfl (R1 (xa2 rfl) rfl (R1 (xa2 rfl) rfl ?_)))))))
    refine R1 x5 rfl (R1 x5 rfl (x7 (by kernel_rfl) (x4 (x6 (x6 ?_)))))
    refine x8 ?_
    refine R1 x3 rfl (R1 x3 rfl (R2 xe7 rfl rfl (R1 x3 rfl (RGon (decide_eq_false (by omega)) rfl x3 rfl ⟨rfl, trivial⟩ trivial trivial (RGon (decide_eq_false (by omega)) rfl x3 rfl ⟨rfl, trivial⟩ trivial trivial (RGon (decide_eq_false (by omega)) rfl xe7 rfl ⟨rfl, rfl, trivial⟩ trivial trivial (R2 (xa9 (decide_eq_false (by omega))) rfl rfl ?_)))))))
    refine R1 x3 rfl (RGon (decide_eq_false (by omega)) rfl x3 rfl ⟨rfl, trivial⟩ trivial trivial (RGon (decide_eq_false (by omega)) rfl x3 rfl ⟨rfl, trivial⟩ trivial trivial (RGon (decide_eq_false (by omega)) rfl xe7 rfl ⟨rfl, rfl, trivial⟩ trivial trivial (R2 (xa9 (decide_eq_false (by omega))) rfl rfl (R1 x3 rfl (RGon (decide_eq_false (by omega)) rfl x3 rfl ⟨rfl, trivial⟩ trivial trivial (RGon (decide_eq_false (by omega)) rfl x3 rfl ⟨rfl, trivial⟩ trivial trivial ?_)))))))
    refine RGon (decide_eq_false (by omega)) rfl xe7 rfl ⟨rfl, rfl, trivial⟩ trivial trivial (R2 (xa9 (decide_eq_false (by omega))) rfl rfl (R1 x3 rfl (RGon (decide_eq_false (by omega)) rfl x3 rfl ⟨rfl, trivial⟩ trivial trivial (RGon (decide_eq_false (by omega)) rfl x3 rfl ⟨rfl, trivial⟩ trivial trivial (RGon (decide_eq_false (by omega)) rfl xe7 rfl ⟨rfl, rfl, trivial⟩ trivial trivial (R2 (xa9 (decide_eq_false (by omega))) rfl rfl (R1 x3 rfl ?_)))))))
    refine RGon (decide_eq_false (by omega)) rfl x3 rfl ⟨rfl, trivial⟩ trivial trivial (RGon (decide_eq_false (by omega)) rfl x3 rfl ⟨rfl, trivial⟩ trivial trivial (RGon (decide_eq_false (by omega)) rfl xe7 rfl ⟨rfl, rfl, trivial⟩ trivial trivial (R2 (xa9 (decide_eq_false (by omega))) rfl rfl (R1 x3 rfl (RGon (decide_eq_false (by omega)) rfl x3 rfl ⟨rfl, trivial⟩ trivial trivial (RGon (decide_eq_false (by omega)) rfl x3 rfl ⟨rfl, trivial⟩ trivial trivial (RGon (decide_eq_false (by omega)) rfl xe7 rfl ⟨rfl, rfl, trivial⟩ trivial trivial ?_)))))))
    refine R2 (xa9 (decide_eq_false (by omega))) rfl rfl (x7 (by kernel_rfl) (x4 (C_bF rfl (decide_eq_false (by omega)) (xa5 (x4 (x6 (x6 ?_)))))))
    refine x8 ?_
    refine R1 x3 rfl (R2 xe7 rfl rfl (x7 (by kernel_rfl) (x4 ?_)))
    refine xc0 rfl (fun h203 => ?_) (fun h203 => ?_)
    ·
      have hoe : o = none := by
        cases o with
        | none => rfl
        | some m => exact absurd rfl h203
      subst hoe
      refine x6 ?_
      refine x8 ?_
      refine R1 x3 rfl (R2 xe5 rfl rfl (R1 x5 rfl (x7 (by kernel_rfl) (x4 (xa0 (xa8 ?_))))))
      exact xa4 Plain.mk' rfl rfl Le.refl
    ·
      obtain ⟨m, rfl⟩ : ∃ m, o = some m := by
        cases o with
        | none => exact absurd h203 (by decide)
        | some m => exact ⟨m, rfl⟩
      have hbs := best_some ho rfl
      have hwk := (win_mem.1 hbs.1).2
      have hrg := win_rng hpq.1 (by omega) hn1 hbs.1
      have hsm := short_win nOk9 h.1 hpq.1 (by omega) hn1 hbs.1
      have ha1 := tm_av (n := n) (k := m) hu h
      have ha2 := pl_av hu h hn1 hwk
      have hs1 := short_av (l := (mapS (tmV (scQ u)) l)) nOk21 hT hrg.1 hrg.2.1 hrg.2.2
      have hs2 := short_av (l := (mapS (adV (scQ u)) l)) nOk21 hP hrg.1 hrg.2.1 hrg.2.2
      rw [← avW, ha1] at hs1
      rw [← avW, ha2] at hs2
      refine xa5 (x4 (x6 ?_))
      refine x8 ?_
      refine RE (xa7 (0) ti31 rfl rfl) ⟨rfl, trivial⟩ ⟨rfl, trivial⟩ trivial (RE (xa7 (0) ti31 rfl rfl) ⟨rfl, trivial⟩ ⟨rfl, trivial⟩ trivial (R2 (xa1 (c_MulR hsm (short_sc u hu) hs1) fi18 rfl) rfl rfl (R1 x3 rfl (R1 (xa2 rfl) rfl (R1 (xa2 rfl) rfl (RE (xb4 (k := 34) (n := 4) (agg := true) zr31.1 zr31.2 rfl) trivial trivial ⟨rfl, trivial⟩ (RE (xa3 (es := 4) (agg := true) (0) ti31 rfl rfl rfl) ⟨rfl, rfl, trivial⟩ ⟨rfl, trivial⟩ trivial ?_)))))))
      refine R1 x5 rfl (x7 (by kernel_rfl) (x4 (x6 ?_)))
      refine x8 ?_
      refine RE (xa7 (0) ti31 rfl rfl) ⟨rfl, trivial⟩ ⟨rfl, trivial⟩ trivial (RE (xa7 (0) ti31 rfl rfl) ⟨rfl, trivial⟩ ⟨rfl, trivial⟩ trivial (R2 (xa1 (c_AddR hsm (short_sc u hu) hs2) fi19 rfl) rfl rfl (R1 x3 rfl (R1 (xa2 rfl) rfl (R1 (xa2 rfl) rfl (RE (xb4 (k := 36) (n := 4) (agg := true) zr31.1 zr31.2 rfl) trivial trivial ⟨rfl, trivial⟩ (RE (xa3 (es := 4) (agg := true) (0) ti31 rfl rfl rfl) ⟨rfl, rfl, trivial⟩ ⟨rfl, trivial⟩ trivial ?_)))))))
      refine R1 x5 rfl (x7 (by kernel_rfl) (x4 (x6 ?_)))
      refine x8 ?_
      refine R1 x3 rfl (R1 x3 rfl (R2 (xb5 (wr64 (by omega) (by omega))) rfl rfl (R2 xe5 rfl rfl (R1 x3 rfl (RGon (decide_eq_true (by rfl)) rfl (xa7 (0) ti31 rfl rfl) rfl ⟨rfl, trivial⟩ ⟨rfl, trivial⟩ trivial (RGon (decide_eq_true (by rfl)) rfl (xa7 (0) ti31 rfl rfl) rfl ⟨rfl, trivial⟩ ⟨rfl, trivial⟩ trivial (RGon (decide_eq_true (by rfl)) rfl (xa1 (c_sameFv _ _ (congrArg fr ha1)) fi16 rfl) rfl ⟨rfl, rfl, trivial⟩ trivial trivial ?_)))))))
      refine R2 (xb2 (decide_eq_true (by rfl))) rfl rfl (R1 x3 rfl (RGon rfl rfl (xa7 (0) ti31 rfl rfl) rfl ⟨rfl, trivial⟩ ⟨rfl, trivial⟩ trivial (RGon rfl rfl (xa7 (0) ti31 rfl rfl) rfl ⟨rfl, trivial⟩ ⟨rfl, trivial⟩ trivial (RGon rfl rfl (xa1 (c_sameFv _ _ (congrArg fr ha2)) fi16 rfl) rfl ⟨rfl, rfl, trivial⟩ trivial trivial (R2 (xb2 rfl) rfl rfl (R1 x5 rfl (x7 (by kernel_rfl) ?_)))))))
      refine x4 (xa0 ?_)
      exact xa4 Plain.mk' rfl rfl Le.refl
end An.S
