/- Part 6 of a proof: Q7, Q8, Q9, Q10, Q11. -/
import Derived.Test.YtnacfpmbanimpaaGreatDoorB5
/- Law 9: what the laws are made of. -/
namespace An.S
open Go Go.Proofs An
set_option maxHeartbeats 2000000
theorem fi22 : FnI Tryz.prog 22 := ⟨_, Tryz.func22, by kernel_rfl, rfl⟩
theorem fi32 : FnI Tryz.prog 32 := ⟨_, Tryz.func32, by kernel_rfl, rfl⟩
theorem fi33 : FnI Tryz.prog 33 := ⟨_, Tryz.func33, by kernel_rfl, rfl⟩
theorem fi38 : FnI Tryz.prog 38 := ⟨_, Tryz.func38, by kernel_rfl, rfl⟩
theorem fi57 : FnI Tryz.prog 57 := ⟨_, Tryz.func57, by kernel_rfl, rfl⟩
def xc (n d : Int) : Va := ⟨3, fr (kfr n d), 0⟩
def pbF (m : List Nat) (k : Nat) (t : Int) : Int := t + if ((m.getD (3 * k) 0 : Nat) : Int) % 5 = 0 then ((m.getD (3 * k) 0 : Nat) : Int) % 40 else 0
def pbE (m : List Nat) (k : Nat) (t : Int) : Int := pbF m k t + 1 + ((m.getD (3 * k + 1) 0 : Nat) : Int) % 400
def pbV (m : List Nat) (k : Nat) : Va := xc (((m.getD (3 * k + 2) 0 : Nat) : Int) % 1000) 3
def pbS (m : List Nat) (k : Nat) (t : Int) : Tst := ⟨pbF m k t, pbE m k t, pbV m k⟩
def pbRun (m : List Nat) : Nat → Nat → List Tst → Int → List Tst
  | 0, _, out, _ => out
  | f + 1, k, out, t => if 3 * k + 2 < m.length ∧ k < 40 then pbRun m f (k + 1) (pst1 out (pbS m k t)) (pbE m k t) else out
def pbT (m : List Nat) : List Tst := pbRun m 41 0 [] 0
theorem pbRun_stop {m : List Nat} {k : Nat} {out : List Tst} {t : Int} {r : List Tst} (hk : k ≤ 40) (h : pbRun m (41 - k) k out t = r) (hs : ¬ (3 * k + 2 < m.length ∧ k < 40)) : out = r := by
  rw [show 41 - k = (40 - k) + 1 by omega, pbRun, if_neg hs] at h; exact h
theorem pbRun_next {m : List Nat} {k : Nat} {out : List Tst} {t : Int} {r : List Tst} (hk : k ≤ 40) (h : pbRun m (41 - k) k out t = r) (hs : 3 * k + 2 < m.length ∧ k < 40) : pbRun m (41 - (k + 1)) (k + 1) (pst1 out (pbS m k t)) (pbE m k t) = r := by
  rw [show 41 - k = (41 - (k + 1)) + 1 by omega, pbRun, if_pos hs] at h; exact h
theorem pbF_bd {m : List Nat} {k : Nat} {t : Int} : t ≤ pbF m k t ∧ pbF m k t ≤ t + 39 := by
  simp only [pbF]; split <;> omega
theorem pbE_bd {m : List Nat} {k : Nat} {t : Int} : pbF m k t < pbE m k t ∧ pbE m k t ≤ t + 439 := by
  have := pbF_bd (m := m) (k := k) (t := t)
  simp only [pbE]; omega
theorem pbS_lt {m : List Nat} {k : Nat} {t : Int} : (pbS m k t).lo < (pbS m k t).hi := pbE_bd.1
theorem xc_ok {D B n d x : Int} (hd : 0 < d) (e : n * D = x * d) (hD : 0 < D) (hDb : D ≤ 9223372036854775807) (h1 : -B ≤ x) (h2 : x ≤ B) (hB : B ≤ 9223372036854775807) : gOk 3 D B (xc n d) ∧ wt D (xc n d) = x := by
  have e2 : kfr n d = Rat.divInt x D := by
    rw [kfr_big (by omega)]
    exact (Rat.divInt_eq_divInt_iff (by omega) (by omega)).2 e
  rw [xc, e2]
  exact ⟨gOk.mk (.inr rfl) hD hDb h1 h2 hB, wt_is hD (rat_fr _)⟩
/-- A record of thirds. -/
abbrev isP (B : Int) (l : List Tst) : Prop := isG 3 3 B l ∧ ∀ s ∈ l, 0 ≤ wt 3 s.v
theorem pbV_ok (m : List Nat) (k : Nat) : gOk 3 3 999 (pbV m k) ∧ 0 ≤ wt 3 (pbV m k) := by
  have := xc_ok (D := 3) (B := 999) (n := ((m.getD (3 * k + 2) 0 : Nat) : Int) % 1000) (d := 3) (x := ((m.getD (3 * k + 2) 0 : Nat) : Int) % 1000) (by decide) rfl (by decide) (by decide) (by omega) (by omega) (by decide)
  refine ⟨this.1, ?_⟩
  have h2 := this.2
  rw [pbV, h2]; omega
theorem pst1_all {P : Va → Prop} {acc : List Tst} {s : Tst} (h : ∀ x ∈ acc, P x.v) (hs : P s.v) : ∀ x ∈ pst1 acc s, P x.v := by
  intro x hx
  rw [pst1] at hx
  split at hx
  · exact h x hx
  · split at hx
    · rename_i hc
      rcases List.mem_or_eq_of_mem_set hx with h1 | h1
      · exact h x h1
      · subst h1
        show P (acc.getD (acc.length - 1) tst0).v
        exact h _ (xe5 (by omega))
    · rcases List.mem_append.1 hx with h1 | h1
      · exact h x h1
      · rw [List.mem_singleton.1 h1]; exact hs
theorem pbRun_isP {m : List Nat} : ∀ (f k : Nat) (out : List Tst) (t : Int), f + k = 41 → isP 999 out → 0 ≤ t → t ≤ 439 * k → (0 < out.length → (out.getD (out.length - 1) tst0).hi ≤ t) → (isP 999 (pbRun m f k out t) ∧ (pbRun m f k out t).length ≤ out.length + f) ∧ (0 < (pbRun m f k out t).length → ((pbRun m f k out t).getD ((pbRun m f k out t).length - 1) tst0).hi ≤ 17999)
  | 0, k, out, t, hk, h, h0, ht, hl => ⟨⟨h, Nat.le_refl _⟩, fun hp => by have := hl hp; simp only [pbRun]; omega⟩
  | f + 1, k, out, t, hk, h, h0, ht, hl => by
    rw [pbRun]
    split
    · have hF := pbF_bd (m := m) (k := k) (t := t)
      have hE := pbE_bd (m := m) (k := k) (t := t)
      have hv := pbV_ok m k
      have h1 : isP 999 (An.pst1 out (pbS m k t)) := ⟨h.1.pst1 (by show 0 ≤ pbF m k t; omega) (by show pbE m k t ≤ 65536; omega) hv.1 fun hp => by have := hl hp; show _ ≤ pbF m k t; omega, pst1_all (P := fun v => 0 ≤ wt 3 v) h.2 hv.2⟩
      have h2 := pst1_last (l := out) (pbS_lt (m := m) (k := k) (t := t))
      have h3 := pbRun_isP (m := m) f (k + 1) _ (pbE m k t) (by omega) h1 (by omega) (by omega) fun _ => by rw [h2.2.1]; exact Int.le_refl _
      have h4 := pst1_len out (pbS m k t)
      exact ⟨⟨h3.1.1, by omega⟩, h3.2⟩
    · exact ⟨⟨h, by omega⟩, fun hp => by have := hl hp; omega⟩
theorem pbT_ok (m : List Nat) : isP 999 (pbT m) ∧ (pbT m).length ≤ 41 ∧ (0 < (pbT m).length → ((pbT m).getD ((pbT m).length - 1) tst0).hi ≤ 17999) := by
  have := pbRun_isP (m := m) 41 0 [] 0 rfl ⟨isG_nil, fun s hs => by cases hs⟩ (Int.le_refl _) (by decide) fun h => by cases h
  exact ⟨this.1.1, by have := this.1.2; simp at this; exact this, this.2⟩
/-! Thirds. -/
def thirdV (v : Va) : Int := (if v.f.n.l.length = 1 then ((v.f.n.l.getD 0 0 : Nat) : Int) else 0) * if v.f.d.l.length = 1 ∧ v.f.d.l.getD 0 0 = 1 then 3 else 1
theorem dig_one {x : Nat} (h : x < 65536) : dig 65536 x = if x = 0 then [] else [x] := by
  by_cases h0 : x = 0
  · rw [if_pos h0, h0, xe7]
  · rw [if_neg h0, dig_pos xd3 (by omega), Nat.mod_eq_of_lt h, Nat.div_eq_of_lt h, xe7]
theorem third_is {B : Int} {v : Va} (h : gOk 3 3 B v) (h0 : 0 ≤ wt 3 v) (hB : B ≤ 65535) : thirdV v = wt 3 v := by
  obtain ⟨⟨_, _, _, hf, _⟩, hw, _, hb⟩ := h
  generalize hn : wt 3 v = n at *
  generalize v.f.rat = q at *
  have hm : q.num * 3 = n * q.den := by
    have e : Rat.divInt q.num q.den = Rat.divInt n 3 := by rw [Rat.num_divInt_den]; exact hw
    exact (Rat.divInt_eq_divInt_iff (by have := q.den_nz; omega) (by decide)).1 e
  have hq0 : 0 ≤ q.num := by
    rcases Int.lt_or_le q.num 0 with h1 | h1
    · have : 0 ≤ n * (q.den : Int) := Int.mul_nonneg h0 (by omega)
      omega
    · exact h1
  have hden : q.den ∣ 3 := by
    have h1 : q.den ∣ q.num.natAbs * 3 := by
      refine ⟨n.natAbs, ?_⟩
      have := congrArg Int.natAbs hm
      rw [Int.natAbs_mul, Int.natAbs_mul] at this
      rw [Nat.mul_comm q.den]; exact this
    exact q.reduced.symm.dvd_of_dvd_mul_left h1
  have hd : q.den = 1 ∨ q.den = 3 := by
    have h1 := Nat.le_of_dvd (by decide) hden
    have h2 := q.den_nz
    have h3 : q.den ≠ 2 := fun e => by rw [e] at hden; exact absurd hden (by decide)
    omega
  have hnum : q.num ≤ 65535 := by
    rcases hd with e | e <;> rw [e] at hm <;> omega
  have hN : (wh q.num).l = if q.num.natAbs = 0 then [] else [q.num.natAbs] := dig_one (by omega)
  have hD : (wh (q.den : Int)).l = [q.den] := by
    have := dig_one (x := ((q.den : Int)).natAbs) (by omega)
    rw [if_neg (by have := q.den_nz; omega)] at this
    exact this
  rw [thirdV, hf]
  show (if (wh q.num).l.length = 1 then _ else _) * (if (wh (q.den : Int)).l.length = 1 ∧ (wh (q.den : Int)).l.getD 0 0 = 1 then _ else _) = n
  rw [show (fr q).n.l = _ from hN, hN, hD]
  by_cases hz : q.num.natAbs = 0
  · have e0 : q.num = 0 := by omega
    rw [e0] at hm
    have hn0 : n = 0 := by rcases hd with e | e <;> rw [e] at hm <;> omega
    rw [if_pos hz, hn0]; simp
  · rw [if_neg hz]
    rcases hd with e | e <;> rw [e] at hm ⊢ <;> simp <;> omega
/-- Of the first steps. -/
theorem gS_snoc {w : Va → Int} {l : List Tst} {i : Nat} {a b : Int} (hi : i < l.length) : gS w (l.take (i + 1)) a b = gS w (l.take i) a b + gS1 w a b (l.getD i tst0) := sum_nxT hi
theorem gS1_bd {w : Va → Int} {s : Tst} {a b c : Int} (h : 0 ≤ s.lo ∧ s.hi ≤ 65536) (h0 : 0 ≤ w s.v) (hc : w s.v ≤ c) (hc0 : c ≤ 65535) : 0 ≤ gS1 w a b s ∧ gS1 w a b s ≤ 4294967296 := by
  rw [gS1]
  split
  · exact ⟨Int.le_refl _, by decide⟩
  · rename_i hd
    have h1 : dyG a b s ≤ 65536 := by simp only [dyG]; omega
    refine ⟨Int.mul_nonneg h0 (by omega), ?_⟩
    have := Int.mul_le_mul (show w s.v ≤ 65535 by omega) h1 (by omega) (by decide)
    omega
theorem gS_take {w : Va → Int} {l : List Tst} {a b c : Int} (h : ∀ s ∈ l, 0 ≤ s.lo ∧ s.hi ≤ 65536) (h0 : ∀ s ∈ l, 0 ≤ w s.v ∧ w s.v ≤ c) (hc : c ≤ 65535) : ∀ i, i ≤ l.length → 0 ≤ gS w (l.take i) a b ∧ gS w (l.take i) a b ≤ 4294967296 * i
  | 0, _ => by simp [gS]
  | i + 1, hi => by
    have ih := gS_take (a := a) (b := b) h h0 hc i (by omega)
    have hm := xe5 (l := l) (i := i) (by omega)
    have h1 := gS1_bd (a := a) (b := b) (h _ hm) (h0 _ hm).1 (h0 _ hm).2 hc
    rw [gS_snoc (by omega)]; omega
theorem c_pay (a b n d : Int) (h1 : -9223372036854775808 ≤ n) (h2 : n ≤ 9223372036854775807) (h3 : -9223372036854775808 ≤ d) (h4 : d ≤ 9223372036854775807) :
  Ct Tryz.prog 57 [tI a, tI b, tI n, tI d] (tTs ⟨a, b, xc n d⟩) := by
 refine Ct.intro Tryz.func57 rfl Tryz.ntmps57 rfl ?_
 intro w F
 refine x6 ?_
 refine x8 ?_
 refine RE (xb5 (k := 8) (n := 8) (agg := true) zr41.1 zr41.2 rfl) trivial trivial ⟨rfl, trivial⟩ (x7 (by kernel_rfl) (x4 (x6 ?_)))
 refine x8 ?_
 refine R1 x3 rfl (R1 x3 rfl (R1 x3 rfl (R1 x3 rfl (R2 (xa1 (c_Cash n d h1 h2 h3 h4) fi22 rfl) rfl rfl (R3 (xd1 (r := tS [⟨1, false, tI a⟩, ⟨1, false, tI b⟩, ⟨6, true, tVa (xc n d)⟩]) (ts := [(0, tI a), (1, tI b), (2, tVa (xc n d))]) bu41 zr41.2 ⟨_, rfl⟩ rfl ⟨_, _, _, _, rfl, Up.f (fs := [⟨1, false, (tE (.int .i64 0))⟩, ⟨1, false, (tE (.int .i64 0))⟩, ⟨6, true, (tS [⟨1, false, (tE (.int .u8 0))⟩, ⟨4, true, (tS [⟨2, true, (tS [⟨1, false, (tE (.bool false))⟩, ⟨1, false, (tLm [])⟩])⟩, ⟨2, true, (tS [⟨1, false, (tE (.bool false))⟩, ⟨1, false, (tLm [])⟩])⟩])⟩, ⟨1, false, (tE (.int .i64 0))⟩])⟩]) (f := ⟨1, false, (tE (.int .i64 0))⟩) (fs' := [⟨1, false, tI a⟩, ⟨1, false, (tE (.int .i64 0))⟩, ⟨6, true, (tS [⟨1, false, (tE (.int .u8 0))⟩, ⟨4, true, (tS [⟨2, true, (tS [⟨1, false, (tE (.bool false))⟩, ⟨1, false, (tLm [])⟩])⟩, ⟨2, true, (tS [⟨1, false, (tE (.bool false))⟩, ⟨1, false, (tLm [])⟩])⟩])⟩, ⟨1, false, (tE (.int .i64 0))⟩])⟩]) 0 rfl rfl rfl, inferInstance, ⟨_, _, _, _, rfl, Up.f (fs := [⟨1, false, tI a⟩, ⟨1, false, (tE (.int .i64 0))⟩, ⟨6, true, (tS [⟨1, false, (tE (.int .u8 0))⟩, ⟨4, true, (tS [⟨2, true, (tS [⟨1, false, (tE (.bool false))⟩, ⟨1, false, (tLm [])⟩])⟩, ⟨2, true, (tS [⟨1, false, (tE (.bool false))⟩, ⟨1, false, (tLm [])⟩])⟩])⟩, ⟨1, false, (tE (.int .i64 0))⟩])⟩]) (f := ⟨1, false, (tE (.int .i64 0))⟩) (fs' := [⟨1, false, tI a⟩, ⟨1, false, tI b⟩, ⟨6, true, (tS [⟨1, false, (tE (.int .u8 0))⟩, ⟨4, true, (tS [⟨2, true, (tS [⟨1, false, (tE (.bool false))⟩, ⟨1, false, (tLm [])⟩])⟩, ⟨2, true, (tS [⟨1, false, (tE (.bool false))⟩, ⟨1, false, (tLm [])⟩])⟩])⟩, ⟨1, false, (tE (.int .i64 0))⟩])⟩]) 1 rfl rfl rfl, inferInstance, ⟨_, _, _, _, rfl, Up.f (fs := [⟨1, false, tI a⟩, ⟨1, false, tI b⟩, ⟨6, true, (tS [⟨1, false, (tE (.int .u8 0))⟩, ⟨4, true, (tS [⟨2, true, (tS [⟨1, false, (tE (.bool false))⟩, ⟨1, false, (tLm [])⟩])⟩, ⟨2, true, (tS [⟨1, false, (tE (.bool false))⟩, ⟨1, false, (tLm [])⟩])⟩])⟩, ⟨1, false, (tE (.int .i64 0))⟩])⟩]) (f := ⟨6, true, (tS [⟨1, false, (tE (.int .u8 0))⟩, ⟨4, true, (tS [⟨2, true, (tS [⟨1, false, (tE (.bool false))⟩, ⟨1, false, (tLm [])⟩])⟩, ⟨2, true, (tS [⟨1, false, (tE (.bool false))⟩, ⟨1, false, (tLm [])⟩])⟩])⟩, ⟨1, false, (tE (.int .i64 0))⟩])⟩) (fs' := [⟨1, false, tI a⟩, ⟨1, false, tI b⟩, ⟨6, true, tVa (xc n d)⟩]) 2 rfl rfl rfl, inferInstance, Le.refl⟩⟩⟩) rfl rfl rfl (RE (xa4 (es := 8) (agg := true) (0) ti41 rfl rfl rfl) ⟨rfl, rfl, trivial⟩ ⟨rfl, trivial⟩ trivial (x7 (by kernel_rfl) ?_)))))))
 refine x4 (xa0 ?_)
 exact xg8 Plain.mk' rfl ⟨_, _, _, _, _, rfl, rfl, ti41, Le.refl⟩
def exP : List Tst := [⟨0, 59, xc 100 1⟩, ⟨59, 90, xc 160 1⟩, ⟨90, 120, xc 130 1⟩, ⟨125, 200, xc 900 1⟩]
theorem c_example  :
  Ct Tryz.prog 30 [] (tL 8 true tTs exP) := by
 refine Ct.intro Tryz.func30 rfl Tryz.ntmps30 rfl ?_
 intro w F
 refine x6 ?_
 refine x8 ?_
 refine R1 x5 rfl (x7 (by kernel_rfl) (x4 (x6 ?_)))
 refine x8 ?_
 refine RE (xa1 (c_pay 0 59 100 1 (by decide) (by decide) (by decide) (by decide)) fi57 rfl) ⟨rfl, rfl, rfl, rfl, trivial⟩ trivial trivial (RE (xa1 (c_pay 59 90 160 1 (by decide) (by decide) (by decide) (by decide)) fi57 rfl) ⟨rfl, rfl, rfl, rfl, trivial⟩ trivial trivial (RE (xa1 (c_pay 90 120 130 1 (by decide) (by decide) (by decide) (by decide)) fi57 rfl) ⟨rfl, rfl, rfl, rfl, trivial⟩ trivial trivial (RE (xa1 (c_pay 125 200 900 1 (by decide) (by decide) (by decide) (by decide)) fi57 rfl) ⟨rfl, rfl, rfl, rfl, trivial⟩ trivial trivial (RE (xg2 (n := 4) (f := tTs) exP Tryz.underlying24 el41 zf41 rfl (fun _ => inferInstance) rfl rfl rfl) ⟨rfl, rfl, rfl, rfl, trivial⟩ trivial trivial (R1 x5 rfl (x7 (by kernel_rfl) (x4 ?_)))))))
 refine xa0 ?_
 exact xa5 Plain.mk' rfl rfl Le.refl
theorem c_asked (x y n : Int) :
  Ct Tryz.prog 11 [tI x, tI y, tI n] (tT [tI (x % 15000), tI (x % 15000 + y % 3001), tI (1 + n % 20)]) := by
 refine Ct.intro Tryz.func11 rfl Tryz.ntmps11 rfl ?_
 intro w F
 refine x6 ?_
 refine x8 ?_
 refine R1 x5 rfl (R1 x5 rfl (R1 x5 rfl (x7 (by kernel_rfl) (x4 (x6 ?_)))))
 refine x8 ?_
 refine R1 x3 rfl (R2 (xa1 (c_Pick x 15000 (by decide) (by decide)) fi33 rfl) rfl rfl (R1 x5 rfl (x7 (by kernel_rfl) (x4 (x6 ?_)))))
 refine x8 ?_
 refine R1 x3 rfl (R1 x3 rfl (R1 x3 rfl (R2 (xa1 (c_Pick y 3001 (by decide) (by decide)) fi33 rfl) rfl rfl (R2 (xb4 (wr64 (by omega) (by omega))) rfl rfl (R1 x3 rfl (R2 (xa1 (c_Pick n 20 (by decide) (by decide)) fi33 rfl) rfl rfl (R2 (xb4 (wr64 (by omega) (by omega))) rfl rfl ?_)))))))
 refine R1 x5 rfl (R1 x5 rfl (R1 x5 rfl (x7 (by kernel_rfl) (x4 (xa0 ?_)))))
 exact xe9 Plain.mk' (rs := [.tmp 6, .tmp 7, .tmp 8]) rfl rfl ⟨⟨_, rfl, Le.refl⟩, ⟨_, rfl, Le.refl⟩, ⟨_, rfl, Le.refl⟩, trivial⟩
theorem c_Built09 (m : List Nat) (hm : ∀ i, m.getD i 0 < 65536) :
  Ct Tryz.prog 10 [tLm m] (tL 8 true tTs (pbT m)) := by
 refine Ct.intro Tryz.func10 rfl Tryz.ntmps10 rfl ?_
 intro w F
 refine C_len (s := 0) rfl (fun hl0 => ?_)
 refine x6 ?_
 refine x8 ?_
 refine R1 x5 rfl (x7 (by kernel_rfl) (x4 (x6 ?_)))
 refine x8 ?_
 refine RE (d_assignN (k := 3) 41 8 true rfl (fun h => by cases h)) trivial trivial ⟨rfl, trivial⟩ (x7 (by kernel_rfl) (x4 (x6 ?_)))
 refine x8 ?_
 refine R1 x5 rfl (x7 (by kernel_rfl) (x4 (x6 (x6 ?_))))
 refine x8 ?_
 refine R1 x5 rfl (x7 (by kernel_rfl) (x4 (xb3 ?_)))
 refine xe1 (fun (fm : (Nat) × (List Tst) × (Int)) => (fun (k : Nat) (xs : List Tst) (t : Int) => k ≤ 40 ∧ pbRun m (41 - k) k xs t = pbT m ∧ xs.length ≤ k ∧ 0 ≤ t ∧ t ≤ 439 * k) fm.1 fm.2.1 fm.2.2) (fun (fm : (Nat) × (List Tst) × (Int)) => (fun (k : Nat) (xs : List Tst) (t : Int) => upd (upd (upd (upd (fun _ => none) 0 (some (.val (tLm m)))) 3 (some (.own (.sl 3 8 0 xs.length)))) 4 (some (.val (tI t)))) 5 (some (.val (tI (3 * (k : Int)))))) fm.1 fm.2.1 fm.2.2) (fun (fm : (Nat) × (List Tst) × (Int)) => (fun (k : Nat) (xs : List Tst) (t : Int) => upd (fun _ => none) 3 (some (⟨41, 8, true, rV tTs xs⟩))) fm.1 fm.2.1 fm.2.2) (nm [3]) (fun (fm : (Nat) × (List Tst) × (Int)) => (fun (k : Nat) (xs : List Tst) (t : Int) => 41 - k) fm.1 fm.2.1 fm.2.2) ((0, [], 0)) (by dsimp only; exact ⟨Nat.zero_le _, rfl, Nat.le_refl _, by omega, by omega⟩) (Sub.int rfl (by first | omega | rfl | (dsimp only; omega)) (Sub.int rfl (by first | omega | rfl | (dsimp only; omega)) (Sub.cons rfl (Sub.cons rfl Sub.nil)))) ((SubK.consI rfl ImpK.refl) SubK.nil) (SupG.val (SupG.val (SupG.own rfl (SupG.val SupG.nil)))) (SupH.cons rfl (supJ xe6) SupH.nil) (lkOk rfl) ?_
 intro fm hI
 obtain ⟨k, xs, t⟩ := fm
 replace hI : k ≤ 40 ∧ pbRun m (41 - k) k xs t = pbT m ∧ xs.length ≤ k ∧ 0 ≤ t ∧ t ≤ 439 * k := hI
 show wc _ _ _ _ (upd (upd (upd (upd (fun _ => none) 0 (some (.val (tLm m)))) 3 (some (.own (.sl 3 8 0 xs.length)))) 4 (some (.val (tI t)))) 5 (some (.val (tI (3 * (k : Int)))))) (upd (fun _ => none) 3 (some (⟨41, 8, true, rV tTs xs⟩))) _
 obtain ⟨hk, hb, hxl, ht0, ht1⟩ := hI
 have m0 := hm (3 * k)
 have m1 := hm (3 * k + 1)
 have m2 := hm (3 * k + 2)
 have hF := pbF_bd (m := m) (k := k) (t := t)
 have hE := pbE_bd (m := m) (k := k) (t := t)
 refine x6 (x6 ?_)
 refine x8 ?_
 refine R1 x3 rfl (R2 (xb4 (wr64 (by omega) (by omega))) rfl rfl (R1 x3 rfl (R1 (xc4 Tryz.underlying22) rfl (R2 xd6 rfl rfl (R1 x3 rfl ?_)))))
 refine RGcaseD (t := 15) rfl (fun h18 => ?_) (fun h18 => ?_)
 ·
  refine RGon (decide_eq_true h18) rfl x3 rfl ⟨rfl, trivial⟩ trivial trivial (RGon (decide_eq_true h18) rfl xd6 rfl ⟨rfl, rfl, trivial⟩ trivial trivial (R2 (xb1 (decide_eq_true h18)) rfl rfl (x7 (by kernel_rfl) (x4 ?_))))
  refine xc1 rfl (fun h18_2 => ?_) (fun h18_2 => ?_)
  ·
   refine xa3 (x4 (x6 (xb3 (x6 ?_))))
   refine x8 ?_
   refine R1 x3 rfl (R1 x5 rfl (x7 (by kernel_rfl) (x4 ?_)))
   refine C_join (fun (f : Int) => f = pbF m k t) (fun (f : Int) => upd (upd (upd (upd (fun _ => none) 0 (some (.val (tLm m)))) 3 (some (.own (.sl 3 8 0 xs.length)))) 5 (some (.val (tI (3 * (k : Int)))))) 6 (some (.val (tI f)))) (fun (f : Int) => upd (fun _ => none) 3 (some (⟨41, 8, true, rV tTs xs⟩))) (nm [3]) ?_ ?_
   ·
    refine x6 ?_
    refine x8 ?_
    refine R1 x3 rfl (R1 x3 rfl (R2 (xc2 sl22 (3 * k) (by omega) (gN (by omega))) rfl rfl (R1 (xc5 ti46) rfl (R2 (d_remP (by omega) (by omega)) rfl rfl (R2 xe0 rfl rfl (x7 (by kernel_rfl) (x4 ?_)))))))
    refine xc1 rfl (fun h20 => ?_) (fun h20 => ?_)
    ·
     refine x8 ?_
     refine R1 x3 rfl (R1 x3 rfl (R1 x3 rfl (R2 (xc2 sl22 (3 * k) (by omega) (gN (by omega))) rfl rfl (R1 (xc5 ti46) rfl (R1 (xb2 Tryz.underlying3 (isS Tryz.underlying46) (wr64 (by omega) (by omega))) rfl (R2 (d_remP (by omega) (by omega)) rfl rfl (R2 (xb4 (wr64 (by omega) (by omega))) rfl rfl ?_)))))))
     refine R1 x5 rfl (x7 (by kernel_rfl) ?_)
     exact xb7 (_) (by rw [pbF, if_pos h20]) (Sub.int rfl (by first | omega | rfl | (dsimp only; omega)) (Sub.int rfl (by first | omega | rfl | (dsimp only; omega)) (Sub.cons rfl (Sub.cons rfl Sub.nil)))) ((SubK.consI rfl ImpK.refl) SubK.nil) (SupG.val (SupG.val (SupG.own rfl (SupG.val SupG.nil)))) (SupH.cons rfl (supJ xe6) SupH.nil) (lkOk rfl)
    ·
     refine xa3 ?_
     exact xb7 (_) (by rw [pbF, if_neg h20, Int.add_zero]) (Sub.int rfl (by first | omega | rfl | (dsimp only; omega)) (Sub.int rfl (by first | omega | rfl | (dsimp only; omega)) (Sub.cons rfl (Sub.cons rfl Sub.nil)))) ((SubK.consI rfl ImpK.refl) SubK.nil) (SupG.val (SupG.val (SupG.own rfl (SupG.val SupG.nil)))) (SupH.cons rfl (supJ xe6) SupH.nil) (lkOk rfl)
   ·
    intro f hf
    refine x6 ?_
    subst hf
    refine xd4 mixed ?_
    refine R1 x3 rfl (R2 (xb4 (wr64 (by omega) (by omega))) rfl rfl (R1 x3 rfl (R1 x3 rfl (R2 (xb4 (wr64 (by omega) (by omega))) rfl rfl (R2 (xc2 sl22 (3 * k + 1) (by omega) (gN (by omega))) rfl rfl (R1 (xc5 ti46) rfl (R1 (xb2 Tryz.underlying3 (isS Tryz.underlying46) (wr64 (by omega) (by omega))) rfl ?_)))))))
    refine R2 (d_remP (by omega) (by omega)) rfl rfl (R2 (xb4 (wr64 (by omega) (by omega))) rfl rfl (R1 x3 rfl (R1 x3 rfl (R2 (xb4 (wr64 (by omega) (by omega))) rfl rfl (R2 (xc2 sl22 (3 * k + 2) (by omega) (gN (by omega))) rfl rfl (R1 (xc5 ti46) rfl (R1 (xb2 Tryz.underlying3 (isS Tryz.underlying46) (wr64 (by omega) (by omega))) rfl ?_)))))))
    refine R2 (d_remP (by omega) (by omega)) rfl rfl (R2 (xa1 (c_Cash (((m.getD (3 * k + 2) 0 : Nat) : Int) % 1000) 3 (by omega) (by omega) (by decide) (by decide)) fi22 rfl) rfl rfl (RE (xb5 (k := 8) (n := 6) (agg := true) zr39.1 zr39.2 rfl) trivial trivial ⟨rfl, trivial⟩ (R1 x5 rfl (RE (xa4 (es := 6) (agg := true) (0) ti39 rfl rfl rfl) ⟨rfl, rfl, trivial⟩ ⟨rfl, trivial⟩ trivial (xd7 (by kernel_rfl) (x4 (x6 ?_)))))))
    refine x6 ?_
    refine x8 ?_
    refine R1 x3 rfl (R1 (d_lenO Tryz.underlying24) rfl (R2 (xe2 (wr64 (by omega) (by omega))) rfl rfl (R1 x5 rfl (x7 (by kernel_rfl) (x4 (x6 ?_))))))
    refine xd4 mixed ?_
    refine R1 x3 rfl (R2 d_geq rfl rfl (R1 x3 rfl ?_))
    refine RGcaseD (t := 59) rfl (fun h24 => ?_) (fun h24 => ?_)
    ·
     refine RGon (decide_eq_true h24) rfl x3 rfl ⟨rfl, trivial⟩ trivial trivial (RGon (decide_eq_true h24) rfl x3 rfl ⟨rfl, trivial⟩ trivial trivial (RGon (decide_eq_true h24) rfl (xc9 sl24 (by omega) (by omega) rfl) rfl ⟨rfl, rfl, trivial⟩ trivial trivial (RGon (decide_eq_true h24) rfl (x9 fo41_1 rfl) rfl ⟨rfl, trivial⟩ trivial trivial (RGon (decide_eq_true h24) rfl (d_loadF (es := 8) (o := 1) (xs.length - 1) ti3 (rV_getD (d := tst0) (by omega)) (At.g 1 rfl rfl) (by omega)) rfl ⟨rfl, trivial⟩ ⟨rfl, trivial⟩ trivial (RGon (decide_eq_true h24) rfl x3 rfl ⟨rfl, trivial⟩ trivial trivial (RGon (decide_eq_true h24) rfl xe0 rfl ⟨rfl, rfl, trivial⟩ trivial trivial (R2 (xb1 (decide_eq_true h24)) rfl rfl ?_)))))))
     refine R1 x3 rfl ?_
     refine RGcaseD (t := 68) rfl (fun h24_2 => ?_) (fun h24_2 => ?_)
     ·
      refine RGon (decide_eq_true h24_2) rfl x3 rfl ⟨rfl, trivial⟩ trivial trivial (RGon (decide_eq_true h24_2) rfl x3 rfl ⟨rfl, trivial⟩ trivial trivial (RGon (decide_eq_true h24_2) rfl (xc9 sl24 (by omega) (by omega) rfl) rfl ⟨rfl, rfl, trivial⟩ trivial trivial (RGon (decide_eq_true h24_2) rfl (x9 fo41_2 rfl) rfl ⟨rfl, trivial⟩ trivial trivial (RGon (decide_eq_true h24_2) rfl (d_loadF (es := 8) (o := 2) (xs.length - 1) ti39 (rV_getD (d := tst0) (by omega)) (At.g 2 rfl rfl) (by omega)) rfl ⟨rfl, trivial⟩ ⟨rfl, trivial⟩ trivial (RGon (decide_eq_true h24_2) rfl (xa9 (0) ti39 rfl rfl) rfl ⟨rfl, trivial⟩ ⟨rfl, trivial⟩ trivial (RGon (decide_eq_true h24_2) rfl (xa1 (c_SameValue _ _) fi32 rfl) rfl ⟨rfl, rfl, trivial⟩ trivial trivial (R2 (xb1 (decide_eq_true h24_2)) rfl rfl ?_)))))))
      refine xd7 (by kernel_rfl) (x4 ?_)
      refine xc1 rfl (fun h24_3 => ?_) (fun h24_3 => ?_)
      ·
       refine x8 ?_
       refine R1 x3 rfl (R1 x3 rfl (R1 x3 rfl (R2 (xc9 sl24 (by omega) (by omega) rfl) rfl rfl (R1 (x9 fo41_1 rfl) rfl (RE (d_storeF (es := 8) (o := 1) (t2 := tTs ⟨(xs.getD (xs.length - 1) tst0).lo, (pbS m k t).hi, (xs.getD (xs.length - 1) tst0).v⟩) (xs.length - 1) ti3 (rV_getD (d := tst0) (by omega)) (Up.g 1 rfl rfl rfl) (by omega) (rV_set rfl)) ⟨rfl, rfl, trivial⟩ ⟨rfl, trivial⟩ trivial (x7 (by kernel_rfl) (x4 ?_)))))))
       refine x8 ?_
       refine R1 x3 rfl (R1 x5 rfl (x7 (by kernel_rfl) (xb9 (x4 ?_))))
       refine x8 ?_
       refine R1 x3 rfl (R2 (xb4 (wr64 (by omega) (by omega))) rfl rfl (R1 x5 rfl (x7 (by kernel_rfl) ?_)))
       have hpx : pst1 xs (pbS m k t) = (xs.set (xs.length - 1) ⟨(xs.getD (xs.length - 1) tst0).lo, (pbS m k t).hi, (xs.getD (xs.length - 1) tst0).v⟩) := by
        rw [pst1, if_neg (by have := pbS_lt (m := m) (k := k) (t := t); omega), if_pos ⟨by omega, by show _ = pbF m k t; omega, h24_3⟩]
       exact xb7 ((k + 1, (xs.set (xs.length - 1) ⟨(xs.getD (xs.length - 1) tst0).lo, (pbS m k t).hi, (xs.getD (xs.length - 1) tst0).v⟩), pbE m k t)) ⟨(by dsimp only; exact ⟨by omega, by rw [← hpx]; exact pbRun_next hk hb ⟨by omega, by omega⟩, by rw [List.length_set]; omega, by omega, by omega⟩), (by dsimp only; omega)⟩ (Sub.int rfl (by first | omega | rfl | (dsimp only; omega)) (Sub.int rfl (by first | omega | rfl | (dsimp only; omega)) ((Sub.consI rfl (Imp.of (by dsimp only; rw [List.length_set]))) (Sub.cons rfl Sub.nil)))) ((SubK.consI rfl ImpK.refl) SubK.nil) (SupG.val (SupG.val (SupG.own rfl (SupG.val SupG.nil)))) (SupH.cons rfl (supJ xe6) SupH.nil) (lkOk rfl)
      ·
       refine x8 ?_
       refine R1 x3 rfl (R1 x3 rfl (R1 x3 rfl (RE (xa9 (0) ti39 rfl rfl) ⟨rfl, trivial⟩ ⟨rfl, trivial⟩ trivial (R3 (xd1 (r := tS [⟨1, false, tI (pbS m k t).lo⟩, ⟨1, false, tI (pbS m k t).hi⟩, ⟨6, true, tVa (pbS m k t).v⟩]) (ts := [(0, tI (pbS m k t).lo), (1, tI (pbS m k t).hi), (2, tVa (pbS m k t).v)]) bu41 zr41.2 ⟨_, rfl⟩ rfl ⟨_, _, _, _, rfl, Up.f (fs := [⟨1, false, (tE (.int .i64 0))⟩, ⟨1, false, (tE (.int .i64 0))⟩, ⟨6, true, (tS [⟨1, false, (tE (.int .u8 0))⟩, ⟨4, true, (tS [⟨2, true, (tS [⟨1, false, (tE (.bool false))⟩, ⟨1, false, (tLm [])⟩])⟩, ⟨2, true, (tS [⟨1, false, (tE (.bool false))⟩, ⟨1, false, (tLm [])⟩])⟩])⟩, ⟨1, false, (tE (.int .i64 0))⟩])⟩]) (f := ⟨1, false, (tE (.int .i64 0))⟩) (fs' := [⟨1, false, tI (pbS m k t).lo⟩, ⟨1, false, (tE (.int .i64 0))⟩, ⟨6, true, (tS [⟨1, false, (tE (.int .u8 0))⟩, ⟨4, true, (tS [⟨2, true, (tS [⟨1, false, (tE (.bool false))⟩, ⟨1, false, (tLm [])⟩])⟩, ⟨2, true, (tS [⟨1, false, (tE (.bool false))⟩, ⟨1, false, (tLm [])⟩])⟩])⟩, ⟨1, false, (tE (.int .i64 0))⟩])⟩]) 0 rfl rfl rfl, inferInstance, ⟨_, _, _, _, rfl, Up.f (fs := [⟨1, false, tI (pbS m k t).lo⟩, ⟨1, false, (tE (.int .i64 0))⟩, ⟨6, true, (tS [⟨1, false, (tE (.int .u8 0))⟩, ⟨4, true, (tS [⟨2, true, (tS [⟨1, false, (tE (.bool false))⟩, ⟨1, false, (tLm [])⟩])⟩, ⟨2, true, (tS [⟨1, false, (tE (.bool false))⟩, ⟨1, false, (tLm [])⟩])⟩])⟩, ⟨1, false, (tE (.int .i64 0))⟩])⟩]) (f := ⟨1, false, (tE (.int .i64 0))⟩) (fs' := [⟨1, false, tI (pbS m k t).lo⟩, ⟨1, false, tI (pbS m k t).hi⟩, ⟨6, true, (tS [⟨1, false, (tE (.int .u8 0))⟩, ⟨4, true, (tS [⟨2, true, (tS [⟨1, false, (tE (.bool false))⟩, ⟨1, false, (tLm [])⟩])⟩, ⟨2, true, (tS [⟨1, false, (tE (.bool false))⟩, ⟨1, false, (tLm [])⟩])⟩])⟩, ⟨1, false, (tE (.int .i64 0))⟩])⟩]) 1 rfl rfl rfl, inferInstance, ⟨_, _, _, _, rfl, Up.f (fs := [⟨1, false, tI (pbS m k t).lo⟩, ⟨1, false, tI (pbS m k t).hi⟩, ⟨6, true, (tS [⟨1, false, (tE (.int .u8 0))⟩, ⟨4, true, (tS [⟨2, true, (tS [⟨1, false, (tE (.bool false))⟩, ⟨1, false, (tLm [])⟩])⟩, ⟨2, true, (tS [⟨1, false, (tE (.bool false))⟩, ⟨1, false, (tLm [])⟩])⟩])⟩, ⟨1, false, (tE (.int .i64 0))⟩])⟩]) (f := ⟨6, true, (tS [⟨1, false, (tE (.int .u8 0))⟩, ⟨4, true, (tS [⟨2, true, (tS [⟨1, false, (tE (.bool false))⟩, ⟨1, false, (tLm [])⟩])⟩, ⟨2, true, (tS [⟨1, false, (tE (.bool false))⟩, ⟨1, false, (tLm [])⟩])⟩])⟩, ⟨1, false, (tE (.int .i64 0))⟩])⟩) (fs' := [⟨1, false, tI (pbS m k t).lo⟩, ⟨1, false, tI (pbS m k t).hi⟩, ⟨6, true, tVa (pbS m k t).v⟩]) 2 rfl rfl rfl, inferInstance, Le.refl⟩⟩⟩) rfl rfl rfl (R1 (xg2 (n := 1) (f := tTs) [(pbS m k t)] Tryz.underlying24 el41 zf41 rfl (fun _ => inferInstance) rfl rfl rfl) rfl (RE (xg4 (k := 3) (k' := 88) (f := tTs) (ys := [(pbS m k t)]) (ts' := rV tTs (xs ++ [(pbS m k t)])) Tryz.underlying24 el41 zf41 rfl rfl (fun _ => inferInstance) rV_len (by simp; omega) (by simp; omega) (by simp [rV]) (n' := xs.length + 1) rfl) ⟨rfl, rfl, trivial⟩ ⟨rfl, trivial⟩ ⟨rfl, trivial⟩ (R1 x5 rfl ?_)))))))
       refine x7 (by kernel_rfl) (x4 ?_)
       refine x8 ?_
       refine R1 x3 rfl (R1 x5 rfl (x7 (by kernel_rfl) (xb9 (x4 ?_))))
       refine x8 ?_
       refine R1 x3 rfl (R2 (xb4 (wr64 (by omega) (by omega))) rfl rfl (R1 x5 rfl (x7 (by kernel_rfl) ?_)))
       have hpx : pst1 xs (pbS m k t) = xs ++ [(pbS m k t)] := by
        rw [pst1, if_neg (by have := pbS_lt (m := m) (k := k) (t := t); omega), if_neg (fun h => h24_3 h.2.2)]
       exact K_famR (l := [3]) (fun j => cond (Nat.beq j 3) 88 (j)) ((k + 1, xs ++ [(pbS m k t)], pbE m k t)) ⟨(by dsimp only; exact ⟨by omega, by rw [← hpx]; exact pbRun_next hk hb ⟨by omega, by omega⟩, by rw [List.length_append]; simp; omega, by omega, by omega⟩), (by dsimp only; omega)⟩ (SubR.int rfl (by first | omega | rfl | (dsimp only; omega)) (SubR.int rfl (by first | omega | rfl | (dsimp only; omega)) ((SubR.consI rfl (Imp.of (by dsimp only; rw [List.length_append]; rfl))) (SubR.cons rfl SubR.nil)))) ((SubKR.consI rfl (ImpK.of ren_rV.symm)) SubKR.nil) (SupG.val (SupG.val (SupG.own rfl (SupG.val SupG.nil)))) (SupH.cons rfl (supJ xe6) SupH.nil) (lkOk rfl) rfl rfl (fun _ h => by cases h)
     ·
      refine RGoff (decide_eq_false h24_2) rfl rfl (RGoff (decide_eq_false h24_2) rfl rfl (RGoff (decide_eq_false h24_2) rfl rfl (RGoff (decide_eq_false h24_2) rfl rfl (RGoff (decide_eq_false h24_2) rfl rfl (RGoff (decide_eq_false h24_2) rfl rfl (RGoff (decide_eq_false h24_2) rfl rfl (R2 (xa7 (decide_eq_false h24_2)) rfl rfl ?_)))))))
      refine xd7 (by kernel_rfl) (x4 (C_bF rfl rfl ?_))
      refine x8 ?_
      refine R1 x3 rfl (R1 x3 rfl (R1 x3 rfl (RE (xa9 (0) ti39 rfl rfl) ⟨rfl, trivial⟩ ⟨rfl, trivial⟩ trivial (R3 (xd1 (r := tS [⟨1, false, tI (pbS m k t).lo⟩, ⟨1, false, tI (pbS m k t).hi⟩, ⟨6, true, tVa (pbS m k t).v⟩]) (ts := [(0, tI (pbS m k t).lo), (1, tI (pbS m k t).hi), (2, tVa (pbS m k t).v)]) bu41 zr41.2 ⟨_, rfl⟩ rfl ⟨_, _, _, _, rfl, Up.f (fs := [⟨1, false, (tE (.int .i64 0))⟩, ⟨1, false, (tE (.int .i64 0))⟩, ⟨6, true, (tS [⟨1, false, (tE (.int .u8 0))⟩, ⟨4, true, (tS [⟨2, true, (tS [⟨1, false, (tE (.bool false))⟩, ⟨1, false, (tLm [])⟩])⟩, ⟨2, true, (tS [⟨1, false, (tE (.bool false))⟩, ⟨1, false, (tLm [])⟩])⟩])⟩, ⟨1, false, (tE (.int .i64 0))⟩])⟩]) (f := ⟨1, false, (tE (.int .i64 0))⟩) (fs' := [⟨1, false, tI (pbS m k t).lo⟩, ⟨1, false, (tE (.int .i64 0))⟩, ⟨6, true, (tS [⟨1, false, (tE (.int .u8 0))⟩, ⟨4, true, (tS [⟨2, true, (tS [⟨1, false, (tE (.bool false))⟩, ⟨1, false, (tLm [])⟩])⟩, ⟨2, true, (tS [⟨1, false, (tE (.bool false))⟩, ⟨1, false, (tLm [])⟩])⟩])⟩, ⟨1, false, (tE (.int .i64 0))⟩])⟩]) 0 rfl rfl rfl, inferInstance, ⟨_, _, _, _, rfl, Up.f (fs := [⟨1, false, tI (pbS m k t).lo⟩, ⟨1, false, (tE (.int .i64 0))⟩, ⟨6, true, (tS [⟨1, false, (tE (.int .u8 0))⟩, ⟨4, true, (tS [⟨2, true, (tS [⟨1, false, (tE (.bool false))⟩, ⟨1, false, (tLm [])⟩])⟩, ⟨2, true, (tS [⟨1, false, (tE (.bool false))⟩, ⟨1, false, (tLm [])⟩])⟩])⟩, ⟨1, false, (tE (.int .i64 0))⟩])⟩]) (f := ⟨1, false, (tE (.int .i64 0))⟩) (fs' := [⟨1, false, tI (pbS m k t).lo⟩, ⟨1, false, tI (pbS m k t).hi⟩, ⟨6, true, (tS [⟨1, false, (tE (.int .u8 0))⟩, ⟨4, true, (tS [⟨2, true, (tS [⟨1, false, (tE (.bool false))⟩, ⟨1, false, (tLm [])⟩])⟩, ⟨2, true, (tS [⟨1, false, (tE (.bool false))⟩, ⟨1, false, (tLm [])⟩])⟩])⟩, ⟨1, false, (tE (.int .i64 0))⟩])⟩]) 1 rfl rfl rfl, inferInstance, ⟨_, _, _, _, rfl, Up.f (fs := [⟨1, false, tI (pbS m k t).lo⟩, ⟨1, false, tI (pbS m k t).hi⟩, ⟨6, true, (tS [⟨1, false, (tE (.int .u8 0))⟩, ⟨4, true, (tS [⟨2, true, (tS [⟨1, false, (tE (.bool false))⟩, ⟨1, false, (tLm [])⟩])⟩, ⟨2, true, (tS [⟨1, false, (tE (.bool false))⟩, ⟨1, false, (tLm [])⟩])⟩])⟩, ⟨1, false, (tE (.int .i64 0))⟩])⟩]) (f := ⟨6, true, (tS [⟨1, false, (tE (.int .u8 0))⟩, ⟨4, true, (tS [⟨2, true, (tS [⟨1, false, (tE (.bool false))⟩, ⟨1, false, (tLm [])⟩])⟩, ⟨2, true, (tS [⟨1, false, (tE (.bool false))⟩, ⟨1, false, (tLm [])⟩])⟩])⟩, ⟨1, false, (tE (.int .i64 0))⟩])⟩) (fs' := [⟨1, false, tI (pbS m k t).lo⟩, ⟨1, false, tI (pbS m k t).hi⟩, ⟨6, true, tVa (pbS m k t).v⟩]) 2 rfl rfl rfl, inferInstance, Le.refl⟩⟩⟩) rfl rfl rfl (R1 (xg2 (n := 1) (f := tTs) [(pbS m k t)] Tryz.underlying24 el41 zf41 rfl (fun _ => inferInstance) rfl rfl rfl) rfl (RE (xg4 (k := 3) (k' := 88) (f := tTs) (ys := [(pbS m k t)]) (ts' := rV tTs (xs ++ [(pbS m k t)])) Tryz.underlying24 el41 zf41 rfl rfl (fun _ => inferInstance) rV_len (by simp; omega) (by simp; omega) (by simp [rV]) (n' := xs.length + 1) rfl) ⟨rfl, rfl, trivial⟩ ⟨rfl, trivial⟩ ⟨rfl, trivial⟩ (R1 x5 rfl ?_)))))))
      refine x7 (by kernel_rfl) (x4 ?_)
      refine x8 ?_
      refine R1 x3 rfl (R1 x5 rfl (x7 (by kernel_rfl) (xb9 (x4 ?_))))
      refine x8 ?_
      refine R1 x3 rfl (R2 (xb4 (wr64 (by omega) (by omega))) rfl rfl (R1 x5 rfl (x7 (by kernel_rfl) ?_)))
      have hpx : pst1 xs (pbS m k t) = xs ++ [(pbS m k t)] := by
       rw [pst1, if_neg (by have := pbS_lt (m := m) (k := k) (t := t); omega), if_neg (fun h => h24_2 (by have := h.2.1; exact this))]
      exact K_famR (l := [3]) (fun j => cond (Nat.beq j 3) 88 (j)) ((k + 1, xs ++ [(pbS m k t)], pbE m k t)) ⟨(by dsimp only; exact ⟨by omega, by rw [← hpx]; exact pbRun_next hk hb ⟨by omega, by omega⟩, by rw [List.length_append]; simp; omega, by omega, by omega⟩), (by dsimp only; omega)⟩ (SubR.int rfl (by first | omega | rfl | (dsimp only; omega)) (SubR.int rfl (by first | omega | rfl | (dsimp only; omega)) ((SubR.consI rfl (Imp.of (by dsimp only; rw [List.length_append]; rfl))) (SubR.cons rfl SubR.nil)))) ((SubKR.consI rfl (ImpK.of ren_rV.symm)) SubKR.nil) (SupG.val (SupG.val (SupG.own rfl (SupG.val SupG.nil)))) (SupH.cons rfl (supJ xe6) SupH.nil) (lkOk rfl) rfl rfl (fun _ h => by cases h)
    ·
     refine RGoff (decide_eq_false h24) rfl rfl (RGoff (decide_eq_false h24) rfl rfl (RGoff (decide_eq_false h24) rfl rfl (RGoff (decide_eq_false h24) rfl rfl (RGoff (decide_eq_false h24) rfl rfl (RGoff (decide_eq_false h24) rfl rfl (RGoff (decide_eq_false h24) rfl rfl (R2 (xa7 (decide_eq_false h24)) rfl rfl ?_)))))))
     refine R1 x3 rfl (RGoff0 rfl rfl (RGoff0 rfl rfl (RGoff0 rfl rfl (RGoff0 rfl rfl (RGoff0 rfl rfl (RGoff0 rfl rfl (RGoff0 rfl rfl ?_)))))))
     refine R2 (xa7 rfl) rfl rfl (xd7 (by kernel_rfl) (x4 (C_bF rfl rfl ?_)))
     refine x8 ?_
     refine R1 x3 rfl (R1 x3 rfl (R1 x3 rfl (RE (xa9 (0) ti39 rfl rfl) ⟨rfl, trivial⟩ ⟨rfl, trivial⟩ trivial (R3 (xd1 (r := tS [⟨1, false, tI (pbS m k t).lo⟩, ⟨1, false, tI (pbS m k t).hi⟩, ⟨6, true, tVa (pbS m k t).v⟩]) (ts := [(0, tI (pbS m k t).lo), (1, tI (pbS m k t).hi), (2, tVa (pbS m k t).v)]) bu41 zr41.2 ⟨_, rfl⟩ rfl ⟨_, _, _, _, rfl, Up.f (fs := [⟨1, false, (tE (.int .i64 0))⟩, ⟨1, false, (tE (.int .i64 0))⟩, ⟨6, true, (tS [⟨1, false, (tE (.int .u8 0))⟩, ⟨4, true, (tS [⟨2, true, (tS [⟨1, false, (tE (.bool false))⟩, ⟨1, false, (tLm [])⟩])⟩, ⟨2, true, (tS [⟨1, false, (tE (.bool false))⟩, ⟨1, false, (tLm [])⟩])⟩])⟩, ⟨1, false, (tE (.int .i64 0))⟩])⟩]) (f := ⟨1, false, (tE (.int .i64 0))⟩) (fs' := [⟨1, false, tI (pbS m k t).lo⟩, ⟨1, false, (tE (.int .i64 0))⟩, ⟨6, true, (tS [⟨1, false, (tE (.int .u8 0))⟩, ⟨4, true, (tS [⟨2, true, (tS [⟨1, false, (tE (.bool false))⟩, ⟨1, false, (tLm [])⟩])⟩, ⟨2, true, (tS [⟨1, false, (tE (.bool false))⟩, ⟨1, false, (tLm [])⟩])⟩])⟩, ⟨1, false, (tE (.int .i64 0))⟩])⟩]) 0 rfl rfl rfl, inferInstance, ⟨_, _, _, _, rfl, Up.f (fs := [⟨1, false, tI (pbS m k t).lo⟩, ⟨1, false, (tE (.int .i64 0))⟩, ⟨6, true, (tS [⟨1, false, (tE (.int .u8 0))⟩, ⟨4, true, (tS [⟨2, true, (tS [⟨1, false, (tE (.bool false))⟩, ⟨1, false, (tLm [])⟩])⟩, ⟨2, true, (tS [⟨1, false, (tE (.bool false))⟩, ⟨1, false, (tLm [])⟩])⟩])⟩, ⟨1, false, (tE (.int .i64 0))⟩])⟩]) (f := ⟨1, false, (tE (.int .i64 0))⟩) (fs' := [⟨1, false, tI (pbS m k t).lo⟩, ⟨1, false, tI (pbS m k t).hi⟩, ⟨6, true, (tS [⟨1, false, (tE (.int .u8 0))⟩, ⟨4, true, (tS [⟨2, true, (tS [⟨1, false, (tE (.bool false))⟩, ⟨1, false, (tLm [])⟩])⟩, ⟨2, true, (tS [⟨1, false, (tE (.bool false))⟩, ⟨1, false, (tLm [])⟩])⟩])⟩, ⟨1, false, (tE (.int .i64 0))⟩])⟩]) 1 rfl rfl rfl, inferInstance, ⟨_, _, _, _, rfl, Up.f (fs := [⟨1, false, tI (pbS m k t).lo⟩, ⟨1, false, tI (pbS m k t).hi⟩, ⟨6, true, (tS [⟨1, false, (tE (.int .u8 0))⟩, ⟨4, true, (tS [⟨2, true, (tS [⟨1, false, (tE (.bool false))⟩, ⟨1, false, (tLm [])⟩])⟩, ⟨2, true, (tS [⟨1, false, (tE (.bool false))⟩, ⟨1, false, (tLm [])⟩])⟩])⟩, ⟨1, false, (tE (.int .i64 0))⟩])⟩]) (f := ⟨6, true, (tS [⟨1, false, (tE (.int .u8 0))⟩, ⟨4, true, (tS [⟨2, true, (tS [⟨1, false, (tE (.bool false))⟩, ⟨1, false, (tLm [])⟩])⟩, ⟨2, true, (tS [⟨1, false, (tE (.bool false))⟩, ⟨1, false, (tLm [])⟩])⟩])⟩, ⟨1, false, (tE (.int .i64 0))⟩])⟩) (fs' := [⟨1, false, tI (pbS m k t).lo⟩, ⟨1, false, tI (pbS m k t).hi⟩, ⟨6, true, tVa (pbS m k t).v⟩]) 2 rfl rfl rfl, inferInstance, Le.refl⟩⟩⟩) rfl rfl rfl (R1 (xg2 (n := 1) (f := tTs) [(pbS m k t)] Tryz.underlying24 el41 zf41 rfl (fun _ => inferInstance) rfl rfl rfl) rfl (RE (xg4 (k := 3) (k' := 88) (f := tTs) (ys := [(pbS m k t)]) (ts' := rV tTs (xs ++ [(pbS m k t)])) Tryz.underlying24 el41 zf41 rfl rfl (fun _ => inferInstance) rV_len (by simp; omega) (by simp; omega) (by simp [rV]) (n' := xs.length + 1) rfl) ⟨rfl, rfl, trivial⟩ ⟨rfl, trivial⟩ ⟨rfl, trivial⟩ (R1 x5 rfl ?_)))))))
     refine x7 (by kernel_rfl) (x4 ?_)
     refine x8 ?_
     refine R1 x3 rfl (R1 x5 rfl (x7 (by kernel_rfl) (xb9 (x4 ?_))))
     refine x8 ?_
     refine R1 x3 rfl (R2 (xb4 (wr64 (by omega) (by omega))) rfl rfl (R1 x5 rfl (x7 (by kernel_rfl) ?_)))
     have hpx : pst1 xs (pbS m k t) = xs ++ [(pbS m k t)] := by
      rw [pst1, if_neg (by have := pbS_lt (m := m) (k := k) (t := t); omega), if_neg (by omega)]
     exact K_famR (l := [3]) (fun j => cond (Nat.beq j 3) 88 (j)) ((k + 1, xs ++ [(pbS m k t)], pbE m k t)) ⟨(by dsimp only; exact ⟨by omega, by rw [← hpx]; exact pbRun_next hk hb ⟨by omega, by omega⟩, by rw [List.length_append]; simp; omega, by omega, by omega⟩), (by dsimp only; omega)⟩ (SubR.int rfl (by first | omega | rfl | (dsimp only; omega)) (SubR.int rfl (by first | omega | rfl | (dsimp only; omega)) ((SubR.consI rfl (Imp.of (by dsimp only; rw [List.length_append]; rfl))) (SubR.cons rfl SubR.nil)))) ((SubKR.consI rfl (ImpK.of ren_rV.symm)) SubKR.nil) (SupG.val (SupG.val (SupG.own rfl (SupG.val SupG.nil)))) (SupH.cons rfl (supJ xe6) SupH.nil) (lkOk rfl) rfl rfl (fun _ h => by cases h)
  ·
   refine xd2 (xb8 (xb8 (xd9 (x4 (x6 ?_)))))
   refine x8 ?_
   refine R1 x3 rfl (RE (d_assignS (f := tTs) (xs := xs) (fun _ h => h) (rV_all rfl) rfl) ⟨rfl, trivial⟩ ⟨rfl, trivial⟩ trivial (x7 (by kernel_rfl) (x4 (xa0 ?_))))
   exact xa5 Plain.mk' rfl rfl (Le.of (by rw [pbRun_stop hk hb (by omega)]))
 ·
  refine RGoff (decide_eq_false h18) rfl rfl (RGoff (decide_eq_false h18) rfl rfl (R2 (xa7 (decide_eq_false h18)) rfl rfl (x7 (by kernel_rfl) (x4 (C_bF rfl rfl (xd2 (xb8 ?_)))))))
  refine xb8 (xd9 (x4 (x6 ?_)))
  refine x8 ?_
  refine R1 x3 rfl (RE (d_assignS (f := tTs) (xs := xs) (fun _ h => h) (rV_all rfl) rfl) ⟨rfl, trivial⟩ ⟨rfl, trivial⟩ trivial (x7 (by kernel_rfl) (x4 (xa0 ?_))))
  exact xa5 Plain.mk' rfl rfl (Le.of (by rw [pbRun_stop hk hb (by omega)]))
def thN (v : Va) : Int := if v.f.n.l.length = 1 then ((v.f.n.l.getD 0 0 : Nat) : Int) else 0
theorem thN_bd {v : Va} (h : v.f.dig) : 0 ≤ thN v ∧ thN v ≤ 65535 := by
  have := h.1.getD (by decide) 0
  unfold thN; split <;> omega
theorem c_third (v : Va) (hD : v.f.dig) :
  Ct Tryz.prog 38 [tVa v] (tI (thirdV v)) := by
 have hN := thN_bd hD
 have g1 := hD.1.getD (by decide) 0
 have g2 := hD.2.getD (by decide) 0
 refine Ct.intro Tryz.func38 rfl Tryz.ntmps38 rfl ?_
 intro w F
 refine x6 ?_
 refine x8 ?_
 refine RE (xc8 (k := 1) ti39 rfl) ⟨rfl, trivial⟩ trivial ⟨rfl, trivial⟩ (R1 x5 rfl (x7 (by kernel_rfl) (x4 (x6 ?_))))
 refine x8 ?_
 refine R1 x5 rfl (x7 (by kernel_rfl) (x4 ?_))
 refine C_join (fun (x : Int) => x = thN v) (fun (x : Int) => upd (upd (fun _ => none) 1 (some (.own (.ptr 1 0)))) 3 (some (.val (tI x)))) (fun (x : Int) => upd (fun _ => none) 1 (some (⟨39, 6, true, [.val (tVa v)]⟩))) (nm [1]) ?_ ?_
 ·
  refine x6 ?_
  refine x8 ?_
  refine R1 (x9 fo39_1 rfl) rfl (R1 (x9 fo31_0 rfl) rfl (R1 (x9 fo29_1 rfl) rfl (xa6 (0) ti22 rfl rfl rfl (At.t (At.g 1 rfl rfl) (At.t (At.g 0 rfl rfl) (At.g 1 rfl rfl))) rfl (R1 (xc4 Tryz.underlying22) rfl (R2 xe0 rfl rfl (x7 (by kernel_rfl) (x4 ?_)))))))
  refine xc1 rfl (fun h43 => ?_) (fun h43 => ?_)
  ·
   refine x8 ?_
   refine R1 (x9 fo39_1 rfl) rfl (R1 (x9 fo31_0 rfl) rfl (R1 (x9 fo29_1 rfl) rfl (xa6 (0) ti22 rfl rfl rfl (At.t (At.g 1 rfl rfl) (At.t (At.g 0 rfl rfl) (At.g 1 rfl rfl))) rfl (R2 (xc2 sl22 (0) (by omega) (gN (by omega))) rfl rfl (R1 (xc5 ti46) rfl (R1 (xb2 Tryz.underlying3 (isS Tryz.underlying46) (wr64 (by omega) (by omega))) rfl (R1 x5 rfl ?_)))))))
   refine x7 (by kernel_rfl) ?_
   exact xb7 (_) (by rw [thN, if_pos (by omega)]) (Sub.int rfl (by first | omega | rfl | (dsimp only; omega)) (Sub.cons rfl Sub.nil)) ((SubK.consI rfl ImpK.refl) SubK.nil) (SupG.val (SupG.own rfl SupG.nil)) (SupH.cons rfl (supJL rfl) SupH.nil) (lkOk rfl)
  ·
   refine xa3 ?_
   exact xb7 (_) (by rw [thN, if_neg (by omega)]) (Sub.int rfl (by first | omega | rfl | (dsimp only; omega)) (Sub.cons rfl Sub.nil)) ((SubK.consI rfl ImpK.refl) SubK.nil) (SupG.val (SupG.own rfl SupG.nil)) (SupH.cons rfl (supJL rfl) SupH.nil) (lkOk rfl)
 ·
  intro x hx
  refine C_join (fun (y : Int) => y = thirdV v) (fun (y : Int) => upd (fun _ => none) 3 (some (.val (tI y)))) (fun (y : Int) => fun _ => none) (nm []) ?_ ?_
  ·
   refine x6 ?_
   subst hx
   refine x8 ?_
   refine R1 (x9 fo39_1 rfl) rfl (R1 (x9 fo31_1 rfl) rfl (R1 (x9 fo29_1 rfl) rfl (xa6 (0) ti22 rfl rfl rfl (At.t (At.g 1 rfl rfl) (At.t (At.g 1 rfl rfl) (At.g 1 rfl rfl))) rfl (R1 (xc4 Tryz.underlying22) rfl (R2 xe0 rfl rfl (R1 x3 rfl ?_))))))
   refine RGcaseD (t := 23) rfl (fun h46 => ?_) (fun h46 => ?_)
   ·
    refine RGon (decide_eq_true h46) rfl (x9 fo39_1 rfl) rfl ⟨rfl, trivial⟩ trivial trivial (RGon (decide_eq_true h46) rfl (x9 fo31_1 rfl) rfl ⟨rfl, trivial⟩ trivial trivial (RGon (decide_eq_true h46) rfl (x9 fo29_1 rfl) rfl ⟨rfl, trivial⟩ trivial trivial (xc0 (decide_eq_true h46) rfl rfl (0) ti22 rfl rfl rfl (At.t (At.g 1 rfl rfl) (At.t (At.g 1 rfl rfl) (At.g 1 rfl rfl))) rfl (RGon (decide_eq_true h46) rfl (xc2 sl22 (0) (by omega) (gN (by omega))) rfl ⟨rfl, rfl, trivial⟩ trivial trivial (RGon (decide_eq_true h46) rfl (xc5 ti46) rfl ⟨rfl, trivial⟩ trivial trivial (RGon (decide_eq_true h46) rfl xe0 rfl ⟨rfl, rfl, trivial⟩ trivial trivial (R2 (xb1 (decide_eq_true h46)) rfl rfl ?_)))))))
    refine x7 (by kernel_rfl) (x4 ?_)
    refine xc1 rfl (fun h46_2 => ?_) (fun h46_2 => ?_)
    ·
     refine x8 ?_
     refine R1 x3 rfl (R2 (d_mul (wr64 (by omega) (by omega))) rfl rfl (R1 x5 rfl (x7 (by kernel_rfl) ?_)))
     exact xb7 (_) (by rw [thirdV, ← thN, if_pos ⟨by omega, by omega⟩]) (Sub.int rfl (by first | omega | rfl | (dsimp only; omega)) Sub.nil) SubK.nil (SupG.val SupG.nil) SupH.nil (lkOk rfl)
    ·
     refine xa3 ?_
     exact xb7 (_) (by rw [thirdV, ← thN, if_neg (fun h => by omega), Int.mul_one]) (Sub.int rfl (by first | omega | rfl | (dsimp only; omega)) Sub.nil) SubK.nil (SupG.val SupG.nil) SupH.nil (lkOk rfl)
   ·
    refine RGoff (decide_eq_false h46) rfl rfl (RGoff (decide_eq_false h46) rfl rfl (RGoff (decide_eq_false h46) rfl rfl (RGoff (decide_eq_false h46) rfl rfl (RGoff (decide_eq_false h46) rfl rfl (RGoff (decide_eq_false h46) rfl rfl (RGoff (decide_eq_false h46) rfl rfl (R2 (xa7 (decide_eq_false h46)) rfl rfl ?_)))))))
    refine x7 (by kernel_rfl) (x4 (C_bF rfl rfl (xa3 ?_)))
    exact xb7 (_) (by rw [thirdV, ← thN, if_neg (fun h => by omega), Int.mul_one]) (Sub.int rfl (by first | omega | rfl | (dsimp only; omega)) Sub.nil) SubK.nil (SupG.val SupG.nil) SupH.nil (lkOk rfl)
  ·
   intro y hy
   refine x6 ?_
   subst hy
   refine x8 ?_
   refine R1 x3 rfl (R1 x5 rfl (x7 (by kernel_rfl) (x4 (xa0 ?_))))
   exact xa5 Plain.mk' rfl rfl Le.refl
theorem c_thirdP {B : Int} (v : Va) (h : gOk 3 3 B v) (h0 : 0 ≤ wt 3 v) (hB : B ≤ 65535) : Ct Tryz.prog 38 [tVa v] (tI (wt 3 v)) := by
  have := c_third v h.dig
  rw [third_is h h0 hB] at this; exact this
theorem c_thirds (B : Int) (l : List Tst) (a b : Int) (h : isP B l) (hB : B ≤ 65535) (hl : l.length ≤ 1000) (ha : 0 ≤ a) (ha2 : a ≤ 100000) (hb : 0 ≤ b) (hb2 : b ≤ 100000) :
  Ct Tryz.prog 13 [tL 8 true tTs l, tI a, tI b] (tT [tI (gS (wt 3) l a b), tI (nD l a b)]) := by
 refine Ct.intro Tryz.func13 rfl Tryz.ntmps13 rfl ?_
 intro w F
 refine x6 ?_
 refine x8 ?_
 refine R1 x5 rfl (R1 x5 rfl (x7 (by kernel_rfl) (x4 (x6 ?_))))
 refine x8 ?_
 refine R1 x5 rfl (R1 x5 rfl (x7 (by kernel_rfl) (x4 (x6 (x6 ?_)))))
 refine x8 ?_
 refine R1 x3 rfl (R1 (xc4 Tryz.underlying24) rfl (R1 x3 rfl (x7 (by kernel_rfl) (x4 (xb3 ?_)))))
 refine xe1 (fun (i : Nat) => i ≤ l.length) (fun (i : Nat) => upd (upd (upd (upd (upd (upd (upd (fun _ => none) 1 (some (.val (tI a)))) 2 (some (.val (tI b)))) 8 (some (.val (tI (gS (wt 3) (l.take i) a b))))) 9 (some (.val (tI (gS (fun _ => 1) (l.take i) a b))))) 13 (some (.val (tL 8 true tTs l)))) 14 (some (.val (tI l.length)))) 15 (some (.val (tI i)))) (fun (i : Nat) => fun _ => none) (nm []) (fun (i : Nat) => l.length - i) (0) (Nat.zero_le _) (Sub.int rfl (by first | omega | rfl | (dsimp only; omega)) (Sub.int rfl (by first | omega | rfl | (dsimp only; omega)) (Sub.cons rfl ((Sub.consI rfl (Imp.int (by simp [gS]))) ((Sub.consI rfl (Imp.int (by simp [gS]))) (Sub.int rfl (by first | omega | rfl | (dsimp only; omega)) (Sub.int rfl (by first | omega | rfl | (dsimp only; omega)) Sub.nil))))))) SubK.nil (SupG.val (SupG.val (SupG.val (SupG.val (SupG.val (SupG.val (SupG.val SupG.nil))))))) SupH.nil (lkOk rfl) ?_
 intro i hI
 refine x6 ?_
 refine x8 ?_
 refine R2 xd6 rfl rfl (x7 (by kernel_rfl) (x4 (x6 ?_)))
 refine xc1 rfl (fun h55 => ?_) (fun h55 => ?_)
 ·
  refine xa3 (x4 (x6 (xb3 (x6 ?_))))
  refine x8 ?_
  refine R2 (xc2 sl24 (i) (by omega) (gD (l := l) (n := i) (d := tst0) (by omega))) rfl rfl (R1 (xc5 ti41) rfl (RE (xb5 (k := 11) (n := 8) (agg := true) zr41.1 zr41.2 rfl) trivial trivial ⟨rfl, trivial⟩ (RE (xa4 (es := 8) (agg := true) (0) ti41 rfl rfl rfl) ⟨rfl, rfl, trivial⟩ ⟨rfl, trivial⟩ trivial (x7 (by kernel_rfl) (x4 (x6 ?_))))))
  have hm := xe5 (l := l) (i := i) (by omega)
  have hsb := h.1.bd _ hm
  have hso := h.1.2 _ hm
  have hs0 := h.2 _ hm
  have t8 := gS_take (w := wt 3) (l := l) (a := a) (b := b) (c := 65535) h.1.out (fun s hs => ⟨h.2 s hs, by have := (h.1.2 s hs).2.2.2; omega⟩) (Int.le_refl _) i (by omega)
  have t9 := gS_take (w := fun _ => 1) (l := l) (a := a) (b := b) (c := 65535) h.1.out (fun s hs => ⟨by decide, by decide⟩) (Int.le_refl _) i (by omega)
  refine x8 ?_
  refine R1 (x9 fo41_1 rfl) rfl (xa6 (0) ti3 rfl rfl rfl (At.g 1 rfl rfl) rfl (R1 x3 rfl (R2 d_min2 rfl rfl (R1 (x9 fo41_0 rfl) rfl (xa6 (0) ti3 rfl rfl rfl (At.g 0 rfl rfl) rfl (R1 x3 rfl (R2 d_max2 rfl rfl ?_)))))))
  refine R2 (xe2 (wr64 (by omega) (by omega))) rfl rfl (R1 x5 rfl (x7 (by kernel_rfl) (x4 (x6 ?_))))
  have hm := xe5 (l := l) (i := i) (by omega)
  have hsb := h.1.bd _ hm
  have hso := h.1.2 _ hm
  have hs0 := h.2 _ hm
  have t8 := gS_take (w := wt 3) (l := l) (a := a) (b := b) (c := 65535) h.1.out (fun s hs => ⟨h.2 s hs, by have := (h.1.2 s hs).2.2.2; omega⟩) (Int.le_refl _) i (by omega)
  have t9 := gS_take (w := fun _ => 1) (l := l) (a := a) (b := b) (c := 65535) h.1.out (fun s hs => ⟨by decide, by decide⟩) (Int.le_refl _) i (by omega)
  refine x8 ?_
  refine R1 x3 rfl (R2 d_gtr rfl rfl (x7 (by kernel_rfl) (x4 ?_)))
  refine xc1 rfl (fun h56 => ?_) (fun h56 => ?_)
  ·
   refine x6 ?_
   have e8 : gS1 (wt 3) a b (l.getD i tst0) = wt 3 (l.getD i tst0).v * (min (l.getD i tst0).hi b - max (l.getD i tst0).lo a) := by rw [gS1, if_neg (show ¬ dyG a b (l.getD i tst0) ≤ 0 by simp only [dyG]; omega)]; rfl
   have e9 : gS1 (fun _ => 1) a b (l.getD i tst0) = (min (l.getD i tst0).hi b - max (l.getD i tst0).lo a) := by rw [gS1, if_neg (show ¬ dyG a b (l.getD i tst0) ≤ 0 by simp only [dyG]; omega), Int.one_mul]; rfl
   have b8 := gS1_bd (w := wt 3) (s := (l.getD i tst0)) (a := a) (b := b) (c := 65535) (h.1.out _ hm) hs0 (by have := hso.2.2.2; omega) (Int.le_refl _)
   rw [e8] at b8
   refine x8 ?_
   refine R1 x3 rfl (R1 x3 rfl (R2 (xb4 (wr64 (by omega) (by omega))) rfl rfl (R1 x5 rfl (x7 (by kernel_rfl) (x4 ?_)))))
   refine x8 ?_
   refine R1 x3 rfl (R1 (x9 fo41_2 rfl) rfl (xa6 (0) ti39 rfl rfl rfl (At.g 2 rfl rfl) rfl (R1 (xa1 (c_thirdP (l.getD i tst0).v hso hs0 hB) fi38 rfl) rfl (R1 x3 rfl (R2 (d_mul (wr64 (by omega) (by omega))) rfl rfl (R2 (xb4 (wr64 (by omega) (by omega))) rfl rfl (R1 x5 rfl ?_)))))))
   refine x7 (by kernel_rfl) (xb9 (x4 ?_))
   refine x8 ?_
   refine R2 (xb4 (wr64 (by omega) (by omega))) rfl rfl (R1 x3 rfl (x7 (by kernel_rfl) ?_))
   exact xb7 (i + 1) ⟨(by omega), (by omega)⟩ (Sub.int rfl (by first | omega | rfl | (dsimp only; omega)) (Sub.int rfl (by first | omega | rfl | (dsimp only; omega)) (Sub.cons rfl ((Sub.consI rfl (Imp.int (by rw [gS_snoc (by omega), e9]))) ((Sub.consI rfl (Imp.int (by rw [gS_snoc (by omega), e8]))) (Sub.int rfl (by first | omega | rfl | (dsimp only; omega)) (Sub.int rfl (by first | omega | rfl | (dsimp only; omega)) Sub.nil))))))) SubK.nil (SupG.val (SupG.val (SupG.val (SupG.val (SupG.val (SupG.val (SupG.val SupG.nil))))))) SupH.nil (lkOk rfl)
  ·
   refine xa3 (xb9 (x4 ?_))
   refine x8 ?_
   refine R2 (xb4 (wr64 (by omega) (by omega))) rfl rfl (R1 x3 rfl (x7 (by kernel_rfl) ?_))
   exact xb7 (i + 1) ⟨(by omega), (by omega)⟩ (Sub.int rfl (by first | omega | rfl | (dsimp only; omega)) (Sub.int rfl (by first | omega | rfl | (dsimp only; omega)) (Sub.cons rfl ((Sub.consI rfl (Imp.int (by rw [gS_snoc (by omega), gS1, if_pos (show dyG a b (l.getD i tst0) ≤ 0 by simp only [dyG]; omega), Int.add_zero]))) ((Sub.consI rfl (Imp.int (by rw [gS_snoc (by omega), gS1, if_pos (show dyG a b (l.getD i tst0) ≤ 0 by simp only [dyG]; omega), Int.add_zero]))) (Sub.int rfl (by first | omega | rfl | (dsimp only; omega)) (Sub.int rfl (by first | omega | rfl | (dsimp only; omega)) Sub.nil))))))) SubK.nil (SupG.val (SupG.val (SupG.val (SupG.val (SupG.val (SupG.val (SupG.val SupG.nil))))))) SupH.nil (lkOk rfl)
 ·
  refine xd2 (xb8 (xb8 (xd9 (x4 (x6 ?_)))))
  refine x8 ?_
  refine R1 x3 rfl (R1 x3 rfl (R1 x5 rfl (R1 x5 rfl (x7 (by kernel_rfl) (x4 (xa0 ?_))))))
  exact xg1 Plain.mk' rfl rfl rfl (Le.int (by rw [show i = l.length by omega, List.take_length])) (Le.int (by rw [show i = l.length by omega, List.take_length]; rfl))
end An.S

/- Law 9: the examples. -/
namespace An.S
open Go Go.Proofs An
set_option maxHeartbeats 2000000
set_option maxRecDepth 100000
theorem fi12 : FnI Tryz.prog 12 := ⟨_, Tryz.func12, by kernel_rfl, rfl⟩
theorem fi20 : FnI Tryz.prog 20 := ⟨_, Tryz.func20, by kernel_rfl, rfl⟩
theorem fi21 : FnI Tryz.prog 21 := ⟨_, Tryz.func21, by kernel_rfl, rfl⟩
theorem fi24 : FnI Tryz.prog 24 := ⟨_, Tryz.func24, by kernel_rfl, rfl⟩
theorem fi30 : FnI Tryz.prog 30 := ⟨_, Tryz.func30, by kernel_rfl, rfl⟩
theorem fi31 : FnI Tryz.prog 31 := ⟨_, Tryz.func31, by kernel_rfl, rfl⟩
theorem nOk3 : nOk 3 2700 := ⟨⟨by decide, by decide⟩, by decide, by decide⟩
theorem xc1_ok {n : Int} (h : 0 ≤ n) (h2 : n ≤ 900) : gOk 3 3 2700 (xc n 1) := (xc_ok (D := 3) (B := 2700) (n := n) (d := 1) (x := n * 3) (by decide) (by omega) (by decide) (by decide) (by omega) (by omega) (by decide)).1
theorem xg9 : isG 3 3 2700 exP := ⟨by decide +kernel, fun s hs => by
  simp only [exP, List.mem_cons, List.not_mem_nil, or_false] at hs
  rcases hs with rfl | rfl | rfl | rfl <;> exact xc1_ok (by decide) (by decide)⟩
theorem exAv : avR 3 exP 0 90 = (fr (kfr 362 3), 0) := by decide +kernel
theorem exAv2 : (avR 3 exP 0 121).2 = 6 := by decide +kernel
theorem exWi : winR exP 0 120 3 = ([0, 1], 0) := by decide +kernel
theorem c_exA : Ct Tryz.prog 12 [tL 8 true tTs exP, tI 0, tI 90] (tT [tFr (fr (kfr 362 3)), tI 0]) := by
  have h := c_Average 3 2700 exP 0 90 nOk3 xg9.dig (fun _ => xg9) (by decide)
  rw [exAv] at h; exact h
theorem c_exA2 : Ct Tryz.prog 12 [tL 8 true tTs exP, tI 0, tI 121] (tT [tFr (avR 3 exP 0 121).1, tI 6]) := by
  have h := c_Average 3 2700 exP 0 121 nOk3 xg9.dig (fun _ => xg9) (by decide)
  rw [exAv2] at h; exact h
theorem c_exW : Ct Tryz.prog 24 [tG KL (tL 8 true tTs exP), tI 0, tI 120, tI 3] (tT [tL 1 false tI [0, 1], tI 0]) := by
  have h := c_Windows 3 2700 exP 0 120 3 xg9.dig (fun _ => xg9) (by decide)
  rw [exWi] at h; exact h
theorem c_sameFv (f g : Fr) (e : f = g) : Ct Tryz.prog 16 [tFr f, tFr g] (tB true) := by
  have h := c_SameFrac f g
  rw [decide_eq_true e] at h; exact h
theorem c_sameIv (u w : List Int) (e : u = w) : Ct Tryz.prog 31 [tL 1 false tI u, tL 1 false tI w] (tB true) := by
  have h := c_SameInts u w
  rw [decide_eq_true e] at h; exact h
theorem exB1 : fO 3 exP ((1 : Int).toNat) (bO 3 exP 0 120 1) = fr (kfr 160 1) ∧ bE 3 exP 0 120 1 = 0 ∧ wM (bO 3 exP 0 120 1) = 2 := by decide +kernel
theorem c_exB1 : Ct Tryz.prog 20 [tG KL (tL 8 true tTs exP), tI 0, tI 120, tI 1] (tT [tFr (fr (kfr 160 1)), tI 0]) := by
  have h := c_Best 3 2700 exP 0 120 1 nOk3 xg9.dig (fun _ => xg9) (by decide)
  rw [exB1.1, exB1.2.1] at h; exact h
theorem c_exWB1 : Ct Tryz.prog 21 [tG KL (tL 8 true tTs exP), tI 0, tI 120, tI 1] (tT [tI 2, tI 0]) := by
  have h := c_When 3 2700 exP 0 120 1 nOk3 xg9.dig (fun _ => xg9) (by decide)
  rw [exB1.2.2, exB1.2.1] at h; exact h
theorem exB2 : fO 3 exP ((2 : Int).toNat) (bO 3 exP 0 120 2) = fr (kfr 8860 61) ∧ bE 3 exP 0 120 2 = 0 ∧ wM (bO 3 exP 0 120 2) = 2 := by decide +kernel
theorem c_exB2 : Ct Tryz.prog 20 [tG KL (tL 8 true tTs exP), tI 0, tI 120, tI 2] (tT [tFr (fr (kfr 8860 61)), tI 0]) := by
  have h := c_Best 3 2700 exP 0 120 2 nOk3 xg9.dig (fun _ => xg9) (by decide)
  rw [exB2.1, exB2.2.1] at h; exact h
theorem c_exWB2 : Ct Tryz.prog 21 [tG KL (tL 8 true tTs exP), tI 0, tI 120, tI 2] (tT [tI 2, tI 0]) := by
  have h := c_When 3 2700 exP 0 120 2 nOk3 xg9.dig (fun _ => xg9) (by decide)
  rw [exB2.2.2, exB2.2.1] at h; exact h
theorem exB3 : fO 3 exP ((4 : Int).toNat) (bO 3 exP 1 120 4) = fr0 ∧ bE 3 exP 1 120 4 = 6 ∧ wM (bO 3 exP 1 120 4) = 0 := by decide +kernel
theorem c_exB3 : Ct Tryz.prog 20 [tG KL (tL 8 true tTs exP), tI 1, tI 120, tI 4] (tT [tFr (fr0), tI 6]) := by
  have h := c_Best 3 2700 exP 1 120 4 nOk3 xg9.dig (fun _ => xg9) (by decide)
  rw [exB3.1, exB3.2.1] at h; exact h
theorem exB4 : fO 3 exP ((1 : Int).toNat) (bO 3 exP 0 200 1) = fr (kfr 900 1) ∧ bE 3 exP 0 200 1 = 0 ∧ wM (bO 3 exP 0 200 1) = 5 := by decide +kernel
theorem c_exB4 : Ct Tryz.prog 20 [tG KL (tL 8 true tTs exP), tI 0, tI 200, tI 1] (tT [tFr (fr (kfr 900 1)), tI 0]) := by
  have h := c_Best 3 2700 exP 0 200 1 nOk3 xg9.dig (fun _ => xg9) (by decide)
  rw [exB4.1, exB4.2.1] at h; exact h
theorem c_exWB4 : Ct Tryz.prog 21 [tG KL (tL 8 true tTs exP), tI 0, tI 200, tI 1] (tT [tI 5, tI 0]) := by
  have h := c_When 3 2700 exP 0 200 1 nOk3 xg9.dig (fun _ => xg9) (by decide)
  rw [exB4.2.2, exB4.2.1] at h; exact h
theorem c_awake09  :
    Ct0 KL Tryz.prog 9 (tB true) := by
  refine Ct0.intro 137 Tryz.func9 rfl Tryz.ntmps9 rfl ?_
  intro w F
  refine x6 ?_
  refine x8 ?_
  refine R1 x5 rfl ?_
  refine x7 (by kernel_rfl) ?_
  refine x4 ?_
  refine x6 ?_
  refine x8 ?_
  refine R0 (xa1 c_example fi30 rfl)  ?_
  refine R1 x5 rfl ?_
  refine x7 (by kernel_rfl) ?_
  refine x4 ?_
  refine x6 ?_
  refine x8 ?_
  refine R1 x3 rfl ?_
  refine R3 (xa1 c_exA fi12 rfl) rfl rfl rfl ?_
  refine R1 x3 rfl ?_
  refine R1 (xa2 rfl) rfl ?_
  refine R1 (xa2 rfl) rfl ?_
  refine RE (xb5 (k := 2) (n := 4) (agg := true) zr31.1 zr31.2 rfl) trivial trivial ⟨rfl, trivial⟩ ?_
  refine RE (xa4 (es := 4) (agg := true) (0) ti31 rfl rfl rfl) ⟨rfl, rfl, trivial⟩ ⟨rfl, trivial⟩ trivial ?_
  refine R1 x5 rfl ?_
  refine x7 (by kernel_rfl) ?_
  refine x4 ?_
  refine x6 ?_
  refine x8 ?_
  refine R1 x3 rfl ?_
  refine R3 (xa1 c_exA2 fi12 rfl) rfl rfl rfl ?_
  refine R1 x3 rfl ?_
  refine R1 (xa2 rfl) rfl ?_
  refine R1 (xa2 rfl) rfl ?_
  refine RE (xb5 (k := 4) (n := 4) (agg := true) zr31.1 zr31.2 rfl) trivial trivial ⟨rfl, trivial⟩ ?_
  refine RE (xa4 (es := 4) (agg := true) (0) ti31 rfl rfl rfl) ⟨rfl, rfl, trivial⟩ ⟨rfl, trivial⟩ trivial ?_
  refine R1 x5 rfl ?_
  refine x7 (by kernel_rfl) ?_
  refine x4 ?_
  refine x6 ?_
  refine x8 ?_
  refine R1 x3 rfl ?_
  refine RE (xh1 137 car_K c_exB1 fi20 rfl) ⟨rfl, rfl, rfl, rfl, rfl, trivial⟩ trivial trivial ?_
  refine R1 x3 rfl ?_
  refine R1 (xa2 rfl) rfl ?_
  refine R1 (xa2 rfl) rfl ?_
  refine RE (xb5 (k := 6) (n := 4) (agg := true) zr31.1 zr31.2 rfl) trivial trivial ⟨rfl, trivial⟩ ?_
  refine RE (xa4 (es := 4) (agg := true) (0) ti31 rfl rfl rfl) ⟨rfl, rfl, trivial⟩ ⟨rfl, trivial⟩ trivial ?_
  refine R1 x5 rfl ?_
  refine x7 (by kernel_rfl) ?_
  refine x4 ?_
  refine x6 ?_
  refine x8 ?_
  refine R1 x3 rfl ?_
  refine RE (xh1 137 car_K c_exB2 fi20 rfl) ⟨rfl, rfl, rfl, rfl, rfl, trivial⟩ trivial trivial ?_
  refine R1 x3 rfl ?_
  refine R1 (xa2 rfl) rfl ?_
  refine R1 (xa2 rfl) rfl ?_
  refine RE (xb5 (k := 8) (n := 4) (agg := true) zr31.1 zr31.2 rfl) trivial trivial ⟨rfl, trivial⟩ ?_
  refine RE (xa4 (es := 4) (agg := true) (0) ti31 rfl rfl rfl) ⟨rfl, rfl, trivial⟩ ⟨rfl, trivial⟩ trivial ?_
  refine R1 x5 rfl ?_
  refine x7 (by kernel_rfl) ?_
  refine x4 ?_
  refine x6 ?_
  refine x8 ?_
  refine R1 x3 rfl ?_
  refine RE (xh1 137 car_K c_exB3 fi20 rfl) ⟨rfl, rfl, rfl, rfl, rfl, trivial⟩ trivial trivial ?_
  refine R1 x3 rfl ?_
  refine R1 (xa2 rfl) rfl ?_
  refine R1 (xa2 rfl) rfl ?_
  refine RE (xb5 (k := 10) (n := 4) (agg := true) zr31.1 zr31.2 rfl) trivial trivial ⟨rfl, trivial⟩ ?_
  refine RE (xa4 (es := 4) (agg := true) (0) ti31 rfl rfl rfl) ⟨rfl, rfl, trivial⟩ ⟨rfl, trivial⟩ trivial ?_
  refine R1 x5 rfl ?_
  refine x7 (by kernel_rfl) ?_
  refine x4 ?_
  refine x6 ?_
  refine x8 ?_
  refine R1 x3 rfl ?_
  refine RE (xh1 137 car_K c_exB4 fi20 rfl) ⟨rfl, rfl, rfl, rfl, rfl, trivial⟩ trivial trivial ?_
  refine R1 x3 rfl ?_
  refine R1 (xa2 rfl) rfl ?_
  refine R1 (xa2 rfl) rfl ?_
  refine RE (xb5 (k := 12) (n := 4) (agg := true) zr31.1 zr31.2 rfl) trivial trivial ⟨rfl, trivial⟩ ?_
  refine RE (xa4 (es := 4) (agg := true) (0) ti31 rfl rfl rfl) ⟨rfl, rfl, trivial⟩ ⟨rfl, trivial⟩ trivial ?_
  refine R1 x5 rfl ?_
  refine x7 (by kernel_rfl) ?_
  refine x4 ?_
  refine x6 ?_
  refine x8 ?_
  refine R1 x3 rfl ?_
  refine RE (xh1 137 car_K c_exWB1 fi21 rfl) ⟨rfl, rfl, rfl, rfl, rfl, trivial⟩ trivial trivial ?_
  refine R1 x3 rfl ?_
  refine R1 (xa2 rfl) rfl ?_
  refine R1 (xa2 rfl) rfl ?_
  refine R1 x5 rfl ?_
  refine R1 x5 rfl ?_
  refine x7 (by kernel_rfl) ?_
  refine x4 ?_
  refine x6 ?_
  refine x8 ?_
  refine R1 x3 rfl ?_
  refine RE (xh1 137 car_K c_exWB2 fi21 rfl) ⟨rfl, rfl, rfl, rfl, rfl, trivial⟩ trivial trivial ?_
  refine R1 x3 rfl ?_
  refine R1 (xa2 rfl) rfl ?_
  refine R1 (xa2 rfl) rfl ?_
  refine R1 x5 rfl ?_
  refine R1 x5 rfl ?_
  refine x7 (by kernel_rfl) ?_
  refine x4 ?_
  refine x6 ?_
  refine x8 ?_
  refine R1 x3 rfl ?_
  refine RE (xh1 137 car_K c_exWB4 fi21 rfl) ⟨rfl, rfl, rfl, rfl, rfl, trivial⟩ trivial trivial ?_
  refine R1 x3 rfl ?_
  refine R1 (xa2 rfl) rfl ?_
  refine R1 (xa2 rfl) rfl ?_
  refine R1 x5 rfl ?_
  refine R1 x5 rfl ?_
  refine x7 (by kernel_rfl) ?_
  refine x4 ?_
  refine x6 ?_
  refine x8 ?_
  refine R1 x3 rfl ?_
  refine RE (xh1 137 car_K c_exW fi24 rfl) ⟨rfl, rfl, rfl, rfl, rfl, trivial⟩ trivial trivial ?_
  refine R1 x3 rfl ?_
  refine R1 (xa2 rfl) rfl ?_
  refine R1 (xa2 rfl) rfl ?_
  refine R1 x5 rfl ?_
  refine R1 x5 rfl ?_
  refine x7 (by kernel_rfl) ?_
  refine x4 ?_
  refine x6 ?_
  refine x6 ?_
  refine x8 ?_
  refine R1 x3 rfl ?_
  refine R1 x3 rfl ?_
  refine R2 (xb4 (wr64 (by omega) (by omega))) rfl rfl ?_
  refine R1 x3 rfl ?_
  refine R2 (xb4 (wr64 (by omega) (by omega))) rfl rfl ?_
  refine R1 x3 rfl ?_
  refine R2 (xb4 (wr64 (by omega) (by omega))) rfl rfl ?_
  refine R1 x3 rfl ?_
  refine R2 (xb4 (wr64 (by omega) (by omega))) rfl rfl ?_
  refine R1 x3 rfl ?_
  refine R2 (xb4 (wr64 (by omega) (by omega))) rfl rfl ?_
  refine R1 x3 rfl ?_
  refine R2 (xb4 (wr64 (by omega) (by omega))) rfl rfl ?_
  refine R1 x3 rfl ?_
  refine R2 (xb4 (wr64 (by omega) (by omega))) rfl rfl ?_
  refine R2 xf2 rfl rfl ?_
  refine R1 x3 rfl ?_
  refine RGon (decide_eq_false (by omega)) rfl x3 rfl ⟨rfl, trivial⟩ trivial trivial ?_
  refine RGon (decide_eq_false (by omega)) rfl xf2 rfl ⟨rfl, rfl, trivial⟩ trivial trivial ?_
  refine R2 (xa7 (decide_eq_false (by omega))) rfl rfl ?_
  refine R1 x3 rfl ?_
  refine RGon (decide_eq_false (by omega)) rfl x3 rfl ⟨rfl, trivial⟩ trivial trivial ?_
  refine RGon (decide_eq_false (by omega)) rfl xf2 rfl ⟨rfl, rfl, trivial⟩ trivial trivial ?_
  refine R2 (xa7 (decide_eq_false (by omega))) rfl rfl ?_
  refine R1 x3 rfl ?_
  refine RGon (decide_eq_false (by omega)) rfl x3 rfl ⟨rfl, trivial⟩ trivial trivial ?_
  refine RGon (decide_eq_false (by omega)) rfl xf2 rfl ⟨rfl, rfl, trivial⟩ trivial trivial ?_
  refine R2 (xa7 (decide_eq_false (by omega))) rfl rfl ?_
  refine R1 x3 rfl ?_
  refine RGon (decide_eq_false (by omega)) rfl x3 rfl ⟨rfl, trivial⟩ trivial trivial ?_
  refine RGon (decide_eq_false (by omega)) rfl xf2 rfl ⟨rfl, rfl, trivial⟩ trivial trivial ?_
  refine R2 (xa7 (decide_eq_false (by omega))) rfl rfl ?_
  refine R1 x3 rfl ?_
  refine RGon (decide_eq_false (by omega)) rfl x3 rfl ⟨rfl, trivial⟩ trivial trivial ?_
  refine RGon (decide_eq_false (by omega)) rfl xf2 rfl ⟨rfl, rfl, trivial⟩ trivial trivial ?_
  refine R2 (xa7 (decide_eq_false (by omega))) rfl rfl ?_
  refine R1 x3 rfl ?_
  refine RGon (decide_eq_false (by omega)) rfl x3 rfl ⟨rfl, trivial⟩ trivial trivial ?_
  refine RGon (decide_eq_false (by omega)) rfl (xg2 (n := 2) (f := fun n : Int => tI n) [0, 1] Tryz.underlying54 el3 zf3 rfl (fun _ => inferInstance) rfl rfl rfl) rfl ⟨rfl, rfl, trivial⟩ trivial trivial ?_
  refine RGon (decide_eq_false (by omega)) rfl (xa1 (c_sameIv _ _ rfl) fi31 rfl) rfl ⟨rfl, rfl, trivial⟩ trivial trivial ?_
  refine RGon (decide_eq_false (by omega)) rfl xe4 rfl ⟨rfl, trivial⟩ trivial trivial ?_
  refine R2 (xa7 (decide_eq_false (by omega))) rfl rfl ?_
  refine x7 (by kernel_rfl) ?_
  refine x4 ?_
  refine C_bF rfl rfl ?_
  refine xa3 ?_
  refine x4 ?_
  refine x6 ?_
  refine x8 ?_
  refine R1 x5 rfl ?_
  refine x7 (by kernel_rfl) ?_
  refine x4 ?_
  refine x6 ?_
  refine xd4 mixed ?_
  refine R1 x3 rfl ?_
  refine RE (xa9 (0) ti31 rfl rfl) ⟨rfl, trivial⟩ ⟨rfl, trivial⟩ trivial ?_
  refine R2 (xa1 (c_KFrac 362 3 (by decide) (by decide) (by decide) (by decide)) fi17 rfl) rfl rfl ?_
  refine R3 (d_callF (c_sameFv _ _ rfl) fi16 rfl) rfl rfl rfl ?_
  refine R1 x3 rfl ?_
  refine RGon rfl rfl x3 rfl ⟨rfl, trivial⟩ trivial trivial ?_
  refine RGon rfl rfl (xa9 (0) ti31 rfl rfl) rfl ⟨rfl, trivial⟩ ⟨rfl, trivial⟩ trivial ?_
  refine RGon rfl rfl (xa1 (c_KFrac 160 1 (by decide) (by decide) (by decide) (by decide)) fi17 rfl) rfl ⟨rfl, rfl, trivial⟩ trivial trivial ?_
  refine RGon rfl rfl (d_callF (c_sameFv _ _ rfl) fi16 rfl) rfl ⟨rfl, rfl, rfl, trivial⟩ trivial trivial ?_
  refine R2 (xb1 rfl) rfl rfl ?_
  refine R1 x3 rfl ?_
  refine RGon rfl rfl x3 rfl ⟨rfl, trivial⟩ trivial trivial ?_
  refine RGon rfl rfl (xa9 (0) ti31 rfl rfl) rfl ⟨rfl, trivial⟩ ⟨rfl, trivial⟩ trivial ?_
  refine RGon rfl rfl (xa1 (c_KFrac 8860 61 (by decide) (by decide) (by decide) (by decide)) fi17 rfl) rfl ⟨rfl, rfl, trivial⟩ trivial trivial ?_
  refine RGon rfl rfl (d_callF (c_sameFv _ _ rfl) fi16 rfl) rfl ⟨rfl, rfl, rfl, trivial⟩ trivial trivial ?_
  refine R2 (xb1 rfl) rfl rfl ?_
  refine R1 x3 rfl ?_
  refine RGon rfl rfl x3 rfl ⟨rfl, trivial⟩ trivial trivial ?_
  refine RGon rfl rfl (xa9 (0) ti31 rfl rfl) rfl ⟨rfl, trivial⟩ ⟨rfl, trivial⟩ trivial ?_
  refine RGon rfl rfl (xa1 (c_KFrac 900 1 (by decide) (by decide) (by decide) (by decide)) fi17 rfl) rfl ⟨rfl, rfl, trivial⟩ trivial trivial ?_
  refine RGon rfl rfl (d_callF (c_sameFv _ _ rfl) fi16 rfl) rfl ⟨rfl, rfl, rfl, trivial⟩ trivial trivial ?_
  refine R2 (xb1 rfl) rfl rfl ?_
  refine R1 x5 rfl ?_
  refine xd7 (by kernel_rfl) ?_
  refine x4 ?_
  refine xa0 ?_
  exact xa5 Plain.mk' rfl rfl Le.refl
end An.S

/- Law 9: SalaryMean. -/
namespace An.S
open Go Go.Proofs An
set_option maxHeartbeats 2000000
theorem fi9 : FnI Tryz.prog 9 := ⟨_, Tryz.func9, by kernel_rfl, rfl⟩
theorem fi10 : FnI Tryz.prog 10 := ⟨_, Tryz.func10, by kernel_rfl, rfl⟩
theorem fi11 : FnI Tryz.prog 11 := ⟨_, Tryz.func11, by kernel_rfl, rfl⟩
theorem fi13 : FnI Tryz.prog 13 := ⟨_, Tryz.func13, by kernel_rfl, rfl⟩
theorem fi14 : FnI Tryz.prog 14 := ⟨_, Tryz.func14, by kernel_rfl, rfl⟩
theorem nOk9 : nOk 3 999 := ⟨⟨by decide, by decide⟩, by decide, by decide⟩
def loP (l : List Tst) (p q : Int) (s : Tst) : Bool := decide (s.lo < q) && decide (p < s.hi) && decide (wt 3 s.v * (q - p) ≤ gS (wt 3) l p q)
def hiP (l : List Tst) (p q : Int) (s : Tst) : Bool := decide (s.lo < q) && decide (p < s.hi) && decide (gS (wt 3) l p q ≤ wt 3 s.v * (q - p))
def loB (l : List Tst) (p q : Int) (i : Nat) : Bool := (l.take i).any (loP l p q)
def hiB (l : List Tst) (p q : Int) (i : Nat) : Bool := (l.take i).any (hiP l p q)
theorem any_next {f : Tst → Bool} {l : List Tst} {i : Nat} (hi : i < l.length) : (l.take (i + 1)).any f = ((l.take i).any f || f (l.getD i tst0)) := by
  rw [List.take_succ_eq_append_getElem hi, List.any_append, List.getD_eq_getElem?_getD, List.getElem?_eq_getElem hi]; simp
end An.S

/- Law 9: SalaryWindows. -/
namespace An.S
open Go Go.Proofs An
set_option maxHeartbeats 2000000
theorem fi26 : FnI Tryz.prog 26 := ⟨_, Tryz.func26, by kernel_rfl, rfl⟩
theorem start_28 : ∀ {k : Nat}, k ≤ 2160 → 28 * (k : Int) ≤ startI k
  | 0, _ => by rw [start_zero]; decide
  | k + 1, h => by
    have := start_28 (k := k) (by omega)
    have := start_step (k := k) (by omega)
    omega
theorem start_max {k : Nat} (h : k ≤ 2153) : startI k ≤ 65535 := by
  have := xi0 h (by decide)
  have := start_last.1; omega
theorem c_First2 (m : Int) (k : Nat) (hm : m = k) (hk : k < 2154) : Ct Tryz.prog 27 [tG KL (tI m)] (tT [tI (startI k), tI 0]) := by
  subst hm
  have h := c_First (k : Int)
  rw [if_pos ⟨by omega, by omega⟩, if_pos ⟨by omega, by omega⟩, Int.toNat_natCast] at h; exact h
theorem c_Month2 (d : Int) (h0 : 0 ≤ d) (h1 : d < 65536) : Ct Tryz.prog 26 [tG KL (tI d)] (tT [tI (monI d), tI 0]) := by
  have h := c_Month d
  rw [if_pos ⟨h0, h1⟩, if_pos ⟨h0, h1⟩] at h; exact h
theorem okW_iff {l : List Tst} {p q : Int} {n k : Nat} : okW l p q n k = true ↔ k + n < 2154 ∧ p ≤ startI k ∧ startI (k + n) ≤ q ∧ nD l (startI k) (startI (k + n)) = startI (k + n) - startI k := by
  simp [okW, and_assoc]
theorem winP_low {l : List Tst} {p q : Int} {n : Nat} : ∀ {k : Nat}, k ≤ 2160 → startI k ≤ p → winP l p q n k = []
  | 0, _, _ => rfl
  | k + 1, h, hp => by
    have h1 := start_step (k := k) (by omega)
    rw [winP_no fun hw => by have := okW_iff.1 hw; omega]
    exact winP_low (k := k) (by omega) (by omega)
theorem winP_high {l : List Tst} {p q : Int} {n k : Nat} (hk : k ≤ 2154) (hq : q < startI k) : (winP l p q n k).length = (winT l p q n).length := by
  have : ∀ m, k ≤ m → m ≤ 2154 → winP l p q n m = winP l p q n k := fun m => by
    induction m with
    | zero => intro hm _; rw [show k = 0 by omega]
    | succ m ih =>
      intro hm hm2
      rcases Nat.lt_or_ge m k with h1 | h1
      · rw [show k = m + 1 by omega]
      · rw [winP_no fun hw => by
          have h2 := okW_iff.1 hw
          have h3 := xi0 (show k ≤ m + n by omega) (by omega)
          omega]
        exact ih h1 (by omega)
  rw [winT, this 2154 hk (Nat.le_refl _)]
/-- The month of the first day asked for. -/
theorem mon_bd {p : Int} (h0 : 0 ≤ p) (h1 : p < 15000) : monI p ≤ 535 ∧ startI (monI p) ≤ p ∧ p < startI (monI p + 1) := by
  have h := mon_in h0 (show p < 65536 by omega)
  have := start_28 (k := monI p) (by omega)
  exact ⟨by omega, h.2.1, h.2.2⟩
theorem far_bd {f : Nat} {p q : Int} (hf : f ≤ 535) (h1 : p < startI (f + 1)) (h2 : q ≤ p + 3000) : q < startI (f + 102) := by
  have := start_far (k := f + 1) (by omega)
  rw [show f + 1 + 101 = f + 102 by omega] at this
  omega
end An.S

/- Law 9: SalaryBest. -/
namespace An.S
open Go Go.Proofs An
set_option maxHeartbeats 2000000
theorem cmpQ_self {a : Rat} : cmpQ a a = 0 := by
  have : ¬ a < a := Rat.not_lt.2 Rat.le_refl
  rw [cmpQ, if_neg this, if_pos rfl]
theorem cmpQ_le {a b : Rat} (h : a ≤ b) : cmpQ a b ≤ 0 := by
  rcases Int.lt_or_le 0 (cmpQ a b) with h1 | h1
  · exact absurd (cmp_gt.1 h1) (Rat.not_lt.2 h)
  · exact h1
theorem cmpQ_neg {a b : Rat} (h : a < b) : cmpQ a b = -1 := by rw [cmpQ, if_pos h]
theorem best_gen {D : Int} {l : List Tst} {n : Nat} {ks : List Nat} (hp : ks.Pairwise (· < ·)) {o : Option Nat} (ho : bstL D l n ks = o) : (o = none → ks = []) ∧ ∀ m, o = some m → m ∈ ks ∧ (∀ k ∈ ks, avW D l n k ≤ avW D l n m) ∧ ∀ k ∈ ks, k < m → avW D l n k < avW D l n m := by
  have hs := bstL_spec (D := D) (l := l) (n := n) ks hp
  rw [ho] at hs
  cases o with
  | none => exact ⟨fun _ => hs, fun m h => (by cases h)⟩
  | some m => exact ⟨fun h => (by cases h), fun m' h => (by cases h; exact hs)⟩
theorem bst_L {D : Int} {l : List Tst} {p q : Int} {n : Nat} {o : Option Nat} (ho : o = bstT D l p q n) : bstL D l n (winT l p q n) = o := by rw [ho, bstT]
theorem best_none {D : Int} {l : List Tst} {p q : Int} {n : Nat} {o : Option Nat} (ho : o = bstT D l p q n) (h : o = none) : winT l p q n = [] := (best_gen win_asc (bst_L ho)).1 h
theorem best_some {D : Int} {l : List Tst} {p q : Int} {n m : Nat} {o : Option Nat} (ho : o = bstT D l p q n) (h : o = some m) : m ∈ winT l p q n ∧ (∀ k ∈ winT l p q n, avW D l n k ≤ avW D l n m) ∧ ∀ k ∈ winT l p q n, k < m → avW D l n k < avW D l n m := (best_gen win_asc (bst_L ho)).2 m h
theorem best_ex {D : Int} {l : List Tst} {p q : Int} {n k : Nat} {o : Option Nat} (ho : o = bstT D l p q n) (h : k ∈ winT l p q n) : ∃ m, o = some m := by
  cases o with
  | none => rw [best_none ho rfl] at h; cases h
  | some m => exact ⟨m, rfl⟩
theorem best_lim {l : List Tst} {p q : Int} {n f m : Nat} (hf : f ≤ 535) (h1 : startI f ≤ p) (h2 : q < startI (f + 102)) (hn : 1 ≤ n) (h : m ∈ winT l p q n) : f ≤ m ∧ m < f + 102 := by
  have hw := win_is h
  have hlt := start_lt (show m < m + n by omega) (by omega)
  constructor
  · rcases Nat.lt_or_ge m f with h3 | h3
    · have := start_lt h3 (by omega); omega
    · exact h3
  · exact start_inj (by omega) (by omega)
theorem any_no {o : Option Nat} {c : Nat} (h : ∀ m, o = some m → m ≠ c) : o.any (fun m => decide (m < c)) = o.any fun m => decide (m < c + 1) := by
  cases o with
  | none => rfl
  | some m =>
    have := h m rfl
    show decide (m < c) = decide (m < c + 1)
    exact decide_eq_decide.2 (by omega)
theorem any_low {o : Option Nat} {c : Nat} (h : ∀ m, o = some m → c ≤ m) : o.any (fun m => decide (m < c)) = false := by
  cases o with
  | none => rfl
  | some m =>
    have := h m rfl
    exact decide_eq_false (by omega)
theorem c_SalBest (m : List Nat) (hmm : ∀ i, m.getD i 0 < 65536) (x y z : Int) :
    Ct Tryz.prog 6 [tG KL (tLm m), tI x, tI y, tI z] (tB true) := by
  obtain ⟨h, hll, hlast⟩ := pbT_ok m
  have hbt := c_Built09 m hmm
  generalize pbT m = l at *
  obtain ⟨p, hp⟩ : ∃ p, p = x % 15000 := ⟨_, rfl⟩
  obtain ⟨q, hq⟩ : ∃ q, q = x % 15000 + y % 3001 := ⟨_, rfl⟩
  have hpq : 0 ≤ p ∧ p ≤ q ∧ q ≤ 18000 ∧ q ≤ p + 3000 ∧ p < 15000 := by omega
  obtain ⟨n, hn⟩ : ∃ n : Nat, (n : Int) = 1 + z % 20 := ⟨(1 + z % 20).toNat, by omega⟩
  have hn1 : 1 ≤ n := by omega
  have hn2 : n ≤ 20 := by omega
  have hak := c_asked x y z
  rw [← hq, ← hp, ← hn] at hak
  have hask : askB l p q = true := askB_iff.2 ⟨h.1.pay, ⟨by omega, by omega⟩, by omega, by omega⟩
  have hlok : lenOk l p q (n : Int) := ⟨hask, by omega, by omega⟩
  obtain ⟨hf0, hf1, hf2⟩ := mon_bd hpq.1 hpq.2.2.2.2
  have hMo := c_Month2 p hpq.1 (by omega)
  generalize monI p = f at *
  have hfar := far_bd (q := q) hf0 hf2 hpq.2.2.2.1
  have hBs := c_Best 3 999 l p q n nOk9 h.1.dig (fun _ => h.1) (by omega)
  have hWh := c_When 3 999 l p q n nOk9 h.1.dig (fun _ => h.1) (by omega)
  rw [bO, if_pos hlok, bE, if_pos hlok, Int.toNat_natCast] at hBs hWh
  obtain ⟨o, ho⟩ : ∃ o, o = bstT 3 l p q n := ⟨_, rfl⟩
  rw [← ho] at hBs hWh
  have hwl := win_len (l := l) (p := p) (q := q) (n := n)
  refine Ct.intro Tryz.func6 rfl Tryz.ntmps6 rfl ?_
  intro w F
  refine C_know (i := 0) (q := 4) rfl rfl (x6 ?_)
  refine x8 ?_
  refine R1 x5 rfl (x7 (by kernel_rfl) (x4 (x6 (x6 ?_))))
  refine x8 ?_
  refine R1 (d_call0 4 car_K c_awake09 fi9) rfl (R1 xe4 rfl (x7 (by kernel_rfl) (x4 (C_bF rfl rfl (xa3 (x4 (x6 ?_)))))))
  refine x8 ?_
  refine R1 x3 rfl (R1 (xa1 hbt fi10 rfl) rfl (R1 x5 rfl (x7 (by kernel_rfl) (x4 (x6 ?_)))))
  refine x8 ?_
  refine R1 x3 rfl (R1 x3 rfl (R1 x3 rfl (R3 (xa1 hak fi11 rfl) rfl rfl rfl (R1 x3 rfl (R1 (xa2 rfl) rfl (R1 (xa2 rfl) rfl (R1 (xa2 rfl) rfl ?_)))))))
  refine R1 x5 rfl (R1 x5 rfl (R1 x5 rfl (x7 (by kernel_rfl) (x4 (x6 ?_)))))
  refine x8 ?_
  refine R1 x3 rfl (R1 x3 rfl (R1 x3 rfl (R1 x3 rfl (RE (xh1 4 car_K hBs fi20 rfl) ⟨rfl, rfl, rfl, rfl, rfl, trivial⟩ trivial trivial (R1 x3 rfl (R1 (xa2 rfl) rfl (R1 (xa2 rfl) rfl ?_)))))))
  refine RE (xb5 (k := 11) (n := 4) (agg := true) zr31.1 zr31.2 rfl) trivial trivial ⟨rfl, trivial⟩ (RE (xa4 (es := 4) (agg := true) (0) ti31 rfl rfl rfl) ⟨rfl, rfl, trivial⟩ ⟨rfl, trivial⟩ trivial (R1 x5 rfl (x7 (by kernel_rfl) (x4 (x6 ?_)))))
  refine x8 ?_
  refine R1 x3 rfl (R1 x3 rfl (R1 x3 rfl (R1 x3 rfl (RE (xh1 4 car_K hWh fi21 rfl) ⟨rfl, rfl, rfl, rfl, rfl, trivial⟩ trivial trivial (R1 x3 rfl (R1 (xa2 rfl) rfl (R1 (xa2 rfl) rfl ?_)))))))
  refine R1 x5 rfl (R1 x5 rfl (x7 (by kernel_rfl) (x4 (x6 ?_))))
  refine x8 ?_
  refine R1 x3 rfl (R2 (xh1 4 car_K hMo fi26 rfl) rfl rfl (R1 x3 rfl (R1 (xa2 rfl) rfl (R1 (xa2 rfl) rfl (R1 x5 rfl (R1 x5 rfl (x7 (by kernel_rfl) ?_)))))))
  refine x4 (x6 (x6 ?_))
  refine x8 ?_
  refine R1 x3 rfl (R2 xf2 rfl rfl (R1 x3 rfl (RGon (decide_eq_false (by omega)) rfl x3 rfl ⟨rfl, trivial⟩ trivial trivial (RGon (decide_eq_false (by omega)) rfl x3 rfl ⟨rfl, trivial⟩ trivial trivial (RGon (decide_eq_false (by omega)) rfl xf2 rfl ⟨rfl, rfl, trivial⟩ trivial trivial (R2 (xa7 (decide_eq_false (by omega))) rfl rfl (x7 (by kernel_rfl) ?_)))))))
  refine x4 (C_bF rfl (decide_eq_false (by omega)) (xa3 (x4 (x6 ?_))))
  refine x8 ?_
  refine R1 x5 rfl (R1 x5 rfl (x7 (by kernel_rfl) (x4 (x6 (x6 ?_)))))
  refine x8 ?_
  refine R1 x3 rfl (R1 x5 rfl (x7 (by kernel_rfl) (x4 (xb3 ?_))))
  refine xe1 (fun (fm : (Nat) × (Nat)) => (fun (i : Nat) (j : Nat) => i ≤ 102 ∧ j = (winP l p q n (f + i)).length) fm.1 fm.2) (fun (fm : (Nat) × (Nat)) => (fun (i : Nat) (j : Nat) => upd (upd (upd (upd (upd (upd (upd (upd (upd (upd (upd (upd (fun _ => none) 1 (some (.val (tI p)))) 3 (some (.val (tI (n : Int))))) 4 (some (.val (tK KL)))) 9 (some (.val (tL 8 true tTs l)))) 10 (some (.val (tI q)))) 11 (some (.own (.ptr 11 0)))) 12 (some (.val (tI (eO o))))) 13 (some (.val (tI (wM o))))) 15 (some (.val (tI (f : Int))))) 17 (some (.val (tB (decide (0 < j)))))) 18 (some (.val (tB (o.any fun m => decide (m < f + i)))))) 19 (some (.val (tI ((f : Int) + (i : Int)))))) fm.1 fm.2) (fun (fm : (Nat) × (Nat)) => (fun (i : Nat) (j : Nat) => upd (fun _ => none) 11 (some (⟨31, 4, true, [.val (tFr (fO 3 l n o))]⟩))) fm.1 fm.2) (nm [11]) (fun (fm : (Nat) × (Nat)) => (fun (i : Nat) (j : Nat) => 102 - i) fm.1 fm.2) ((0, 0)) (by dsimp only; exact ⟨Nat.zero_le _, by rw [Nat.add_zero, winP_low (by omega) hf1]; rfl⟩) (Sub.int rfl (by first | omega | rfl | (dsimp only; omega)) ((Sub.consI rfl (Imp.of (congrArg (fun b => Ent.val (tB b)) (any_low fun m hm => (best_lim hf0 hf1 hfar hn1 (best_some ho hm).1).1).symm))) (Sub.cons rfl (Sub.int rfl (by first | omega | rfl | (dsimp only; omega)) (Sub.int rfl (by first | omega | rfl | (dsimp only; omega)) (Sub.int rfl (by first | omega | rfl | (dsimp only; omega)) (Sub.cons rfl (Sub.int rfl (by first | omega | rfl | (dsimp only; omega)) (Sub.cons rfl (Sub.cons rfl (Sub.int rfl (by first | omega | rfl | (dsimp only; omega)) (Sub.int rfl (by first | omega | rfl | (dsimp only; omega)) Sub.nil)))))))))))) ((SubK.consI rfl ImpK.refl) SubK.nil) (SupG.val (SupG.val (SupG.val (SupG.val (SupG.val (SupG.val (SupG.own rfl (SupG.val (SupG.val (SupG.val (SupG.val (SupG.val SupG.nil)))))))))))) (SupH.cons rfl (supJL rfl) SupH.nil) (lkOk rfl) ?_
  intro fm hI
  obtain ⟨i, j⟩ := fm
  replace hI : i ≤ 102 ∧ j = (winP l p q n (f + i)).length := hI
  show wc _ _ _ _ (upd (upd (upd (upd (upd (upd (upd (upd (upd (upd (upd (upd (fun _ => none) 1 (some (.val (tI p)))) 3 (some (.val (tI (n : Int))))) 4 (some (.val (tK KL)))) 9 (some (.val (tL 8 true tTs l)))) 10 (some (.val (tI q)))) 11 (some (.own (.ptr 11 0)))) 12 (some (.val (tI (eO o))))) 13 (some (.val (tI (wM o))))) 15 (some (.val (tI (f : Int))))) 17 (some (.val (tB (decide (0 < j)))))) 18 (some (.val (tB (o.any fun m => decide (m < f + i)))))) 19 (some (.val (tI ((f : Int) + (i : Int)))))) (upd (fun _ => none) 11 (some (⟨31, 4, true, [.val (tFr (fO 3 l n o))]⟩))) _
  obtain ⟨hi, hj⟩ := hI
  refine x6 (x6 ?_)
  refine x8 ?_
  refine R1 x3 rfl (R1 x3 rfl (R2 (xb4 (wr64 (by omega) (by omega))) rfl rfl (R2 xd6 rfl rfl (x7 (by kernel_rfl) (x4 ?_)))))
  refine xc1 rfl (fun h78 => ?_) (fun h78 => ?_)
  ·
    refine xa3 (x4 (x6 (xb3 (x6 ?_))))
    have hlt := start_lt (show f + i < f + i + n by omega) (by omega)
    have hnn := start_nn (show f + i ≤ 2160 by omega)
    have hmx := start_max (show f + i + n ≤ 2153 by omega)
    have hnd := nD_bd (l := l) (a := startI (f + i)) (b := startI (f + i + n)) h.1.asc (by omega)
    refine x8 ?_
    refine R1 x3 rfl (R2 (xh1 4 car_K (c_First2 ((f : Int) + (i : Int)) (f + i) (by omega) (by omega)) fi27 rfl) rfl rfl (R1 x3 rfl (R1 (xa2 rfl) rfl (R1 (xa2 rfl) rfl (R1 x5 rfl (R1 x5 rfl (x7 (by kernel_rfl) ?_)))))))
    refine x4 (x6 ?_)
    refine x8 ?_
    refine R1 x3 rfl (R1 x3 rfl (R2 (xb4 (wr64 (by omega) (by omega))) rfl rfl (R2 (xh1 4 car_K (c_First2 (((f : Int) + (i : Int)) + (n : Int)) (f + i + n) (by omega) (by omega)) fi27 rfl) rfl rfl (R1 x3 rfl (R1 (xa2 rfl) rfl (R1 (xa2 rfl) rfl (R1 x5 rfl ?_)))))))
    refine R1 x5 rfl (x7 (by kernel_rfl) (x4 (x6 (x6 ?_))))
    refine x8 ?_
    refine R1 x3 rfl (R1 x3 rfl (R2 (xb4 (wr64 (by omega) (by omega))) rfl rfl (R2 xf2 rfl rfl (x7 (by kernel_rfl) (x4 (C_bF rfl (decide_eq_false (by omega)) (xa3 ?_)))))))
    refine x4 (x6 ?_)
    refine x8 ?_
    refine R1 x3 rfl (R1 x3 rfl (R1 x3 rfl (R3 (xa1 (c_thirds 999 l (startI (f + i)) (startI (f + i + n)) h (by decide) (by omega) (by omega) (by omega) (by omega) (by omega)) fi13 rfl) rfl rfl rfl (R1 x3 rfl (R1 (xa2 rfl) rfl (R1 (xa2 rfl) rfl (R1 x5 rfl ?_)))))))
    refine R1 x5 rfl (x7 (by kernel_rfl) (x4 (x6 (x6 ?_))))
    refine x8 ?_
    refine R1 x3 rfl (R1 x3 rfl (R2 xd6 rfl rfl (R1 x3 rfl ?_)))
    refine RGcaseD (t := 100) rfl (fun h85 => ?_) (fun h85 => ?_)
    ·
      refine RGoff (decide_eq_true h85) rfl rfl (RGoff (decide_eq_true h85) rfl rfl (RGoff (decide_eq_true h85) rfl rfl (R2 (xb1 (decide_eq_true h85)) rfl rfl (R1 x3 rfl (RGoff1 rfl rfl (RGoff1 rfl rfl (RGoff1 rfl rfl ?_)))))))
      refine RGoff1 rfl rfl (RGoff1 rfl rfl (R2 (xb1 rfl) rfl rfl (x7 (by kernel_rfl) (x4 (C_bT rfl rfl (xd2 (xb8 ?_)))))))
      refine xd9 (x4 ?_)
      refine x8 ?_
      refine R1 x3 rfl (R2 (xb4 (wr64 (by omega) (by omega))) rfl rfl (R1 x5 rfl (x7 (by kernel_rfl) ?_)))
      exact xb7 ((i + 1, j)) ⟨(by dsimp only; exact ⟨by omega, by rw [← Nat.add_assoc, winP_no (fun hw => by have := okW_iff.1 hw; omega)]; exact hj⟩), (by dsimp only; omega)⟩ (Sub.int rfl (by first | omega | rfl | (dsimp only; omega)) ((Sub.consI rfl (Imp.of (congrArg (fun b => Ent.val (tB b)) (any_no (c := f + i) fun m hm he => by have hw := win_is (best_some ho hm).1; rw [he] at hw; omega)))) (Sub.cons rfl (Sub.int rfl (by first | omega | rfl | (dsimp only; omega)) (Sub.int rfl (by first | omega | rfl | (dsimp only; omega)) (Sub.int rfl (by first | omega | rfl | (dsimp only; omega)) (Sub.cons rfl (Sub.int rfl (by first | omega | rfl | (dsimp only; omega)) (Sub.cons rfl (Sub.cons rfl (Sub.int rfl (by first | omega | rfl | (dsimp only; omega)) (Sub.int rfl (by first | omega | rfl | (dsimp only; omega)) Sub.nil)))))))))))) ((SubK.consI rfl ImpK.refl) SubK.nil) (SupG.val (SupG.val (SupG.val (SupG.val (SupG.val (SupG.val (SupG.own rfl (SupG.val (SupG.val (SupG.val (SupG.val (SupG.val SupG.nil)))))))))))) (SupH.cons rfl (supJL rfl) SupH.nil) (lkOk rfl)
    ·
      refine RGon (decide_eq_false h85) rfl x3 rfl ⟨rfl, trivial⟩ trivial trivial (RGon (decide_eq_false h85) rfl x3 rfl ⟨rfl, trivial⟩ trivial trivial (RGon (decide_eq_false h85) rfl d_gtr rfl ⟨rfl, rfl, trivial⟩ trivial trivial (R2 (xa7 (decide_eq_false h85)) rfl rfl (R1 x3 rfl ?_))))
      refine RGcaseD (t := 105) rfl (fun h85_2 => ?_) (fun h85_2 => ?_)
      ·
        refine RGoff (decide_eq_true h85_2) rfl rfl (RGoff (decide_eq_true h85_2) rfl rfl (RGoff (decide_eq_true h85_2) rfl rfl (RGoff (decide_eq_true h85_2) rfl rfl (RGoff (decide_eq_true h85_2) rfl rfl (R2 (xb1 (decide_eq_true h85_2)) rfl rfl (x7 (by kernel_rfl) (x4 ?_)))))))
        refine C_bT rfl rfl (xd2 (xb8 (xd9 (x4 ?_))))
        refine x8 ?_
        refine R1 x3 rfl (R2 (xb4 (wr64 (by omega) (by omega))) rfl rfl (R1 x5 rfl (x7 (by kernel_rfl) ?_)))
        exact xb7 ((i + 1, j)) ⟨(by dsimp only; exact ⟨by omega, by rw [← Nat.add_assoc, winP_no (fun hw => by have := okW_iff.1 hw; omega)]; exact hj⟩), (by dsimp only; omega)⟩ (Sub.int rfl (by first | omega | rfl | (dsimp only; omega)) ((Sub.consI rfl (Imp.of (congrArg (fun b => Ent.val (tB b)) (any_no (c := f + i) fun m hm he => by have hw := win_is (best_some ho hm).1; rw [he] at hw; omega)))) (Sub.cons rfl (Sub.int rfl (by first | omega | rfl | (dsimp only; omega)) (Sub.int rfl (by first | omega | rfl | (dsimp only; omega)) (Sub.int rfl (by first | omega | rfl | (dsimp only; omega)) (Sub.cons rfl (Sub.int rfl (by first | omega | rfl | (dsimp only; omega)) (Sub.cons rfl (Sub.cons rfl (Sub.int rfl (by first | omega | rfl | (dsimp only; omega)) (Sub.int rfl (by first | omega | rfl | (dsimp only; omega)) Sub.nil)))))))))))) ((SubK.consI rfl ImpK.refl) SubK.nil) (SupG.val (SupG.val (SupG.val (SupG.val (SupG.val (SupG.val (SupG.own rfl (SupG.val (SupG.val (SupG.val (SupG.val (SupG.val SupG.nil)))))))))))) (SupH.cons rfl (supJL rfl) SupH.nil) (lkOk rfl)
      ·
        refine RGon (decide_eq_false h85_2) rfl x3 rfl ⟨rfl, trivial⟩ trivial trivial (RGon (decide_eq_false h85_2) rfl x3 rfl ⟨rfl, trivial⟩ trivial trivial (RGon (decide_eq_false h85_2) rfl x3 rfl ⟨rfl, trivial⟩ trivial trivial (RGon (decide_eq_false h85_2) rfl (xe2 (wr64 (by omega) (by omega))) rfl ⟨rfl, rfl, trivial⟩ trivial trivial (RGon (decide_eq_false h85_2) rfl xd6 rfl ⟨rfl, rfl, trivial⟩ trivial trivial (R2 (xa7 (decide_eq_false h85_2)) rfl rfl (x7 (by kernel_rfl) (x4 ?_)))))))
        refine xc1 rfl (fun h85_3 => ?_) (fun h85_3 => ?_)
        ·
          refine xd2 (xb8 (xd9 (x4 ?_)))
          refine x8 ?_
          refine R1 x3 rfl (R2 (xb4 (wr64 (by omega) (by omega))) rfl rfl (R1 x5 rfl (x7 (by kernel_rfl) ?_)))
          exact xb7 ((i + 1, j)) ⟨(by dsimp only; exact ⟨by omega, by rw [← Nat.add_assoc, winP_no (fun hw => by have := okW_iff.1 hw; omega)]; exact hj⟩), (by dsimp only; omega)⟩ (Sub.int rfl (by first | omega | rfl | (dsimp only; omega)) ((Sub.consI rfl (Imp.of (congrArg (fun b => Ent.val (tB b)) (any_no (c := f + i) fun m hm he => by have hw := win_is (best_some ho hm).1; rw [he] at hw; omega)))) (Sub.cons rfl (Sub.int rfl (by first | omega | rfl | (dsimp only; omega)) (Sub.int rfl (by first | omega | rfl | (dsimp only; omega)) (Sub.int rfl (by first | omega | rfl | (dsimp only; omega)) (Sub.cons rfl (Sub.int rfl (by first | omega | rfl | (dsimp only; omega)) (Sub.cons rfl (Sub.cons rfl (Sub.int rfl (by first | omega | rfl | (dsimp only; omega)) (Sub.int rfl (by first | omega | rfl | (dsimp only; omega)) Sub.nil)))))))))))) ((SubK.consI rfl ImpK.refl) SubK.nil) (SupG.val (SupG.val (SupG.val (SupG.val (SupG.val (SupG.val (SupG.own rfl (SupG.val (SupG.val (SupG.val (SupG.val (SupG.val SupG.nil)))))))))))) (SupH.cons rfl (supJL rfl) SupH.nil) (lkOk rfl)
        ·
          refine xa3 (x4 (x6 ?_))
          have hok : okW l p q n (f + i) = true := okW_iff.2 ⟨by omega, by omega, by omega, by omega⟩
          have hwa := win_at (by omega) hok
          rw [← hj] at hwa
          have hwy := winP_yes hok
          have hmem : f + i ∈ winT l p q n := win_mem.2 ⟨by omega, hok⟩
          obtain ⟨m, rfl⟩ := best_ex ho hmem
          obtain ⟨hb1, hb2, hb3⟩ := best_some ho rfl
          have hgi := gS_in (a := startI (f + i)) (b := startI (f + i + n)) nOk9 h.1 hnn (by omega) (by omega)
          have hsk := short_win nOk9 h.1 hpq.1 (by omega) hn1 hmem
          have hsm := short_win nOk9 h.1 hpq.1 (by omega) hn1 hb1
          have hkf : kfr (gS (wt 3) l (startI (f + i)) (startI (f + i + n))) (3 * (startI (f + i + n) - startI (f + i))) = avW 3 l n (f + i) := kfr_big (by omega)
          have hcm := c_FCmp (avW 3 l n (f + i)) (avW 3 l n m) hsk hsm
          have hc1 := cmpQ_le (hb2 _ hmem)
          have hc2 : f + i < m → cmpQ (avW 3 l n (f + i)) (avW 3 l n m) = -1 := fun hh => cmpQ_neg (hb3 _ hmem hh)
          have hc3 : f + i = m → cmpQ (avW 3 l n (f + i)) (avW 3 l n m) = 0 := fun hh => by rw [hh]; exact cmpQ_self
          rw [← hkf] at hcm hc1 hc2 hc3
          generalize cmpQ (kfr (gS (wt 3) l (startI (f + i)) (startI (f + i + n))) (3 * (startI (f + i + n) - startI (f + i)))) (avW 3 l n m) = c at *
          have hwm : wM (some m) = (m : Int) := rfl
          refine xd4 mixed ?_
          refine R1 x3 rfl (R1 x3 rfl (R1 x3 rfl (R2 (xe2 (wr64 (by omega) (by omega))) rfl rfl (R2 (d_mul (wr64 (by omega) (by omega))) rfl rfl (R2 (xa1 (c_KFrac (gS (wt 3) l (startI (f + i)) (startI (f + i + n))) (3 * (startI (f + i + n) - startI (f + i))) hgi.1 hgi.2 (by omega) (by omega)) fi17 rfl) rfl rfl (RE (xa9 (0) ti31 rfl rfl) ⟨rfl, trivial⟩ ⟨rfl, trivial⟩ trivial (R2 (xa1 hcm fi15 rfl) rfl rfl ?_)))))))
          refine R1 x5 rfl (xd7 (by kernel_rfl) (x4 (x6 (x6 ?_))))
          refine x8 ?_
          refine R1 x3 rfl (R2 d_gtr rfl rfl (R1 x3 rfl (RGon (decide_eq_false (by omega)) rfl x3 rfl ⟨rfl, trivial⟩ trivial trivial (RGon (decide_eq_false (by omega)) rfl xe0 rfl ⟨rfl, rfl, trivial⟩ trivial trivial (RGon (decide_eq_false (by omega)) rfl x3 rfl ⟨rfl, trivial⟩ trivial trivial ?_)))))
          refine RGcaseD (t := 125) rfl (fun h89_2 => ?_) (fun h89_2 => ?_)
          ·
            refine RGon (decide_eq_true h89_2) rfl x3 rfl ⟨rfl, trivial⟩ trivial trivial (RGon (decide_eq_true h89_2) rfl x3 rfl ⟨rfl, trivial⟩ trivial trivial (RGon (decide_eq_true h89_2) rfl xd6 rfl ⟨rfl, rfl, trivial⟩ trivial trivial (RGon (decide_eq_false (by omega)) rfl (xb1 (decide_eq_true h89_2)) rfl ⟨rfl, rfl, trivial⟩ trivial trivial (R2 (xa7 (decide_eq_false (by omega))) rfl rfl (R1 x3 rfl (RGon (decide_eq_false (by omega)) rfl x3 rfl ⟨rfl, trivial⟩ trivial trivial (RGon (decide_eq_false (by omega)) rfl x3 rfl ⟨rfl, trivial⟩ trivial trivial ?_)))))))
            refine RGon (decide_eq_false (by omega)) rfl xe0 rfl ⟨rfl, rfl, trivial⟩ trivial trivial (RGon (decide_eq_false (by omega)) rfl x3 rfl ⟨rfl, trivial⟩ trivial trivial ?_)
            refine RGcaseD (t := 135) rfl (fun h89_4 => ?_) (fun h89_4 => ?_)
            ·
              refine RGon (decide_eq_true h89_4) rfl x3 rfl ⟨rfl, trivial⟩ trivial trivial (RGon (decide_eq_true h89_4) rfl xf2 rfl ⟨rfl, rfl, trivial⟩ trivial trivial (RGon (decide_eq_false (by omega)) rfl (xb1 (decide_eq_true h89_4)) rfl ⟨rfl, rfl, trivial⟩ trivial trivial (R2 (xa7 (decide_eq_false (by omega))) rfl rfl (x7 (by kernel_rfl) (x4 (C_bF rfl (decide_eq_false (by omega)) (xa3 ?_)))))))
              refine x4 ?_
              refine x8 ?_
              refine R1 x3 rfl (R1 x3 rfl ?_)
              refine RGcase (t := 141) rfl (fun h92 => ?_) (fun h92 => ?_)
              ·
                refine RGoff h92 rfl rfl (RGoff h92 rfl rfl (RGoff h92 rfl rfl (R2 (xb1 h92) rfl rfl (R1 x5 rfl (R1 x5 rfl (x7 (by kernel_rfl) (xb9 ?_)))))))
                refine x4 ?_
                refine x8 ?_
                refine R1 x3 rfl (R2 (xb4 (wr64 (by omega) (by omega))) rfl rfl (R1 x5 rfl (x7 (by kernel_rfl) ?_)))
                exact xb7 ((i + 1, j + 1)) ⟨(by dsimp only; exact ⟨by omega, by rw [← Nat.add_assoc, hwy, hj]⟩), (by dsimp only; omega)⟩ (Sub.int rfl (by first | omega | rfl | (dsimp only; omega)) ((Sub.consI rfl (Imp.of (congrArg (fun b => Ent.val (tB b)) (by first | exact (decide_eq_true (by have := of_decide_eq_true h92; omega)).symm | exact decide_eq_decide.2 (by have := of_decide_eq_false h92; omega))))) ((Sub.consI rfl (Imp.of (congrArg (fun b => Ent.val (tB b)) (decide_eq_true (by omega)).symm))) (Sub.int rfl (by first | omega | rfl | (dsimp only; omega)) (Sub.int rfl (by first | omega | rfl | (dsimp only; omega)) (Sub.int rfl (by first | omega | rfl | (dsimp only; omega)) (Sub.cons rfl (Sub.int rfl (by first | omega | rfl | (dsimp only; omega)) (Sub.cons rfl (Sub.cons rfl (Sub.int rfl (by first | omega | rfl | (dsimp only; omega)) (Sub.int rfl (by first | omega | rfl | (dsimp only; omega)) Sub.nil)))))))))))) ((SubK.consI rfl ImpK.refl) SubK.nil) (SupG.val (SupG.val (SupG.val (SupG.val (SupG.val (SupG.val (SupG.own rfl (SupG.val (SupG.val (SupG.val (SupG.val (SupG.val SupG.nil)))))))))))) (SupH.cons rfl (supJL rfl) SupH.nil) (lkOk rfl)
              ·
                refine RGon h92 rfl x3 rfl ⟨rfl, trivial⟩ trivial trivial (RGon h92 rfl x3 rfl ⟨rfl, trivial⟩ trivial trivial (RGon h92 rfl xe0 rfl ⟨rfl, rfl, trivial⟩ trivial trivial (R2 (xa7 h92) rfl rfl (R1 x5 rfl (R1 x5 rfl (x7 (by kernel_rfl) (xb9 ?_)))))))
                refine x4 ?_
                refine x8 ?_
                refine R1 x3 rfl (R2 (xb4 (wr64 (by omega) (by omega))) rfl rfl (R1 x5 rfl (x7 (by kernel_rfl) ?_)))
                exact xb7 ((i + 1, j + 1)) ⟨(by dsimp only; exact ⟨by omega, by rw [← Nat.add_assoc, hwy, hj]⟩), (by dsimp only; omega)⟩ (Sub.int rfl (by first | omega | rfl | (dsimp only; omega)) ((Sub.consI rfl (Imp.of (congrArg (fun b => Ent.val (tB b)) (by first | exact (decide_eq_true (by have := of_decide_eq_true h92; omega)).symm | exact decide_eq_decide.2 (by have := of_decide_eq_false h92; omega))))) ((Sub.consI rfl (Imp.of (congrArg (fun b => Ent.val (tB b)) (decide_eq_true (by omega)).symm))) (Sub.int rfl (by first | omega | rfl | (dsimp only; omega)) (Sub.int rfl (by first | omega | rfl | (dsimp only; omega)) (Sub.int rfl (by first | omega | rfl | (dsimp only; omega)) (Sub.cons rfl (Sub.int rfl (by first | omega | rfl | (dsimp only; omega)) (Sub.cons rfl (Sub.cons rfl (Sub.int rfl (by first | omega | rfl | (dsimp only; omega)) (Sub.int rfl (by first | omega | rfl | (dsimp only; omega)) Sub.nil)))))))))))) ((SubK.consI rfl ImpK.refl) SubK.nil) (SupG.val (SupG.val (SupG.val (SupG.val (SupG.val (SupG.val (SupG.own rfl (SupG.val (SupG.val (SupG.val (SupG.val (SupG.val SupG.nil)))))))))))) (SupH.cons rfl (supJL rfl) SupH.nil) (lkOk rfl)
            ·
              refine RGoff (decide_eq_false h89_4) rfl rfl (RGoff (decide_eq_false h89_4) rfl rfl (RGon (decide_eq_false (by omega)) rfl (xa7 (decide_eq_false h89_4)) rfl ⟨rfl, rfl, trivial⟩ trivial trivial (R2 (xa7 (decide_eq_false (by omega))) rfl rfl (x7 (by kernel_rfl) (x4 (C_bF rfl rfl (xa3 ?_)))))))
              refine x4 ?_
              refine x8 ?_
              refine R1 x3 rfl (R1 x3 rfl ?_)
              refine RGcase (t := 141) rfl (fun h92 => ?_) (fun h92 => ?_)
              ·
                refine RGoff h92 rfl rfl (RGoff h92 rfl rfl (RGoff h92 rfl rfl (R2 (xb1 h92) rfl rfl (R1 x5 rfl (R1 x5 rfl (x7 (by kernel_rfl) (xb9 ?_)))))))
                refine x4 ?_
                refine x8 ?_
                refine R1 x3 rfl (R2 (xb4 (wr64 (by omega) (by omega))) rfl rfl (R1 x5 rfl (x7 (by kernel_rfl) ?_)))
                exact xb7 ((i + 1, j + 1)) ⟨(by dsimp only; exact ⟨by omega, by rw [← Nat.add_assoc, hwy, hj]⟩), (by dsimp only; omega)⟩ (Sub.int rfl (by first | omega | rfl | (dsimp only; omega)) ((Sub.consI rfl (Imp.of (congrArg (fun b => Ent.val (tB b)) (by first | exact (decide_eq_true (by have := of_decide_eq_true h92; omega)).symm | exact decide_eq_decide.2 (by have := of_decide_eq_false h92; omega))))) ((Sub.consI rfl (Imp.of (congrArg (fun b => Ent.val (tB b)) (decide_eq_true (by omega)).symm))) (Sub.int rfl (by first | omega | rfl | (dsimp only; omega)) (Sub.int rfl (by first | omega | rfl | (dsimp only; omega)) (Sub.int rfl (by first | omega | rfl | (dsimp only; omega)) (Sub.cons rfl (Sub.int rfl (by first | omega | rfl | (dsimp only; omega)) (Sub.cons rfl (Sub.cons rfl (Sub.int rfl (by first | omega | rfl | (dsimp only; omega)) (Sub.int rfl (by first | omega | rfl | (dsimp only; omega)) Sub.nil)))))))))))) ((SubK.consI rfl ImpK.refl) SubK.nil) (SupG.val (SupG.val (SupG.val (SupG.val (SupG.val (SupG.val (SupG.own rfl (SupG.val (SupG.val (SupG.val (SupG.val (SupG.val SupG.nil)))))))))))) (SupH.cons rfl (supJL rfl) SupH.nil) (lkOk rfl)
              ·
                refine RGon h92 rfl x3 rfl ⟨rfl, trivial⟩ trivial trivial (RGon h92 rfl x3 rfl ⟨rfl, trivial⟩ trivial trivial (RGon h92 rfl xe0 rfl ⟨rfl, rfl, trivial⟩ trivial trivial (R2 (xa7 h92) rfl rfl (R1 x5 rfl (R1 x5 rfl (x7 (by kernel_rfl) (xb9 ?_)))))))
                refine x4 ?_
                refine x8 ?_
                refine R1 x3 rfl (R2 (xb4 (wr64 (by omega) (by omega))) rfl rfl (R1 x5 rfl (x7 (by kernel_rfl) ?_)))
                exact xb7 ((i + 1, j + 1)) ⟨(by dsimp only; exact ⟨by omega, by rw [← Nat.add_assoc, hwy, hj]⟩), (by dsimp only; omega)⟩ (Sub.int rfl (by first | omega | rfl | (dsimp only; omega)) ((Sub.consI rfl (Imp.of (congrArg (fun b => Ent.val (tB b)) (by first | exact (decide_eq_true (by have := of_decide_eq_true h92; omega)).symm | exact decide_eq_decide.2 (by have := of_decide_eq_false h92; omega))))) ((Sub.consI rfl (Imp.of (congrArg (fun b => Ent.val (tB b)) (decide_eq_true (by omega)).symm))) (Sub.int rfl (by first | omega | rfl | (dsimp only; omega)) (Sub.int rfl (by first | omega | rfl | (dsimp only; omega)) (Sub.int rfl (by first | omega | rfl | (dsimp only; omega)) (Sub.cons rfl (Sub.int rfl (by first | omega | rfl | (dsimp only; omega)) (Sub.cons rfl (Sub.cons rfl (Sub.int rfl (by first | omega | rfl | (dsimp only; omega)) (Sub.int rfl (by first | omega | rfl | (dsimp only; omega)) Sub.nil)))))))))))) ((SubK.consI rfl ImpK.refl) SubK.nil) (SupG.val (SupG.val (SupG.val (SupG.val (SupG.val (SupG.val (SupG.own rfl (SupG.val (SupG.val (SupG.val (SupG.val (SupG.val SupG.nil)))))))))))) (SupH.cons rfl (supJL rfl) SupH.nil) (lkOk rfl)
          ·
            refine RGoff (decide_eq_false h89_2) rfl rfl (RGoff (decide_eq_false h89_2) rfl rfl (RGoff (decide_eq_false h89_2) rfl rfl (RGon (decide_eq_false (by omega)) rfl (xa7 (decide_eq_false h89_2)) rfl ⟨rfl, rfl, trivial⟩ trivial trivial (R2 (xa7 (decide_eq_false (by omega))) rfl rfl (R1 x3 rfl (RGon rfl rfl x3 rfl ⟨rfl, trivial⟩ trivial trivial (RGon rfl rfl x3 rfl ⟨rfl, trivial⟩ trivial trivial ?_)))))))
            refine RGon rfl rfl xe0 rfl ⟨rfl, rfl, trivial⟩ trivial trivial (RGon rfl rfl x3 rfl ⟨rfl, trivial⟩ trivial trivial ?_)
            refine RGcaseD (t := 135) rfl (fun h89_3 => ?_) (fun h89_3 => ?_)
            ·
              refine RGon (decide_eq_true h89_3) rfl x3 rfl ⟨rfl, trivial⟩ trivial trivial (RGon (decide_eq_true h89_3) rfl xf2 rfl ⟨rfl, rfl, trivial⟩ trivial trivial (RGon rfl rfl (xb1 (decide_eq_true h89_3)) rfl ⟨rfl, rfl, trivial⟩ trivial trivial (R2 (xa7 rfl) rfl rfl (x7 (by kernel_rfl) (x4 (C_bF rfl (decide_eq_false (by omega)) (xa3 ?_)))))))
              refine x4 ?_
              refine x8 ?_
              refine R1 x3 rfl (R1 x3 rfl ?_)
              refine RGcase (t := 141) rfl (fun h92 => ?_) (fun h92 => ?_)
              ·
                refine RGoff h92 rfl rfl (RGoff h92 rfl rfl (RGoff h92 rfl rfl (R2 (xb1 h92) rfl rfl (R1 x5 rfl (R1 x5 rfl (x7 (by kernel_rfl) (xb9 ?_)))))))
                refine x4 ?_
                refine x8 ?_
                refine R1 x3 rfl (R2 (xb4 (wr64 (by omega) (by omega))) rfl rfl (R1 x5 rfl (x7 (by kernel_rfl) ?_)))
                exact xb7 ((i + 1, j + 1)) ⟨(by dsimp only; exact ⟨by omega, by rw [← Nat.add_assoc, hwy, hj]⟩), (by dsimp only; omega)⟩ (Sub.int rfl (by first | omega | rfl | (dsimp only; omega)) ((Sub.consI rfl (Imp.of (congrArg (fun b => Ent.val (tB b)) (by first | exact (decide_eq_true (by have := of_decide_eq_true h92; omega)).symm | exact decide_eq_decide.2 (by have := of_decide_eq_false h92; omega))))) ((Sub.consI rfl (Imp.of (congrArg (fun b => Ent.val (tB b)) (decide_eq_true (by omega)).symm))) (Sub.int rfl (by first | omega | rfl | (dsimp only; omega)) (Sub.int rfl (by first | omega | rfl | (dsimp only; omega)) (Sub.int rfl (by first | omega | rfl | (dsimp only; omega)) (Sub.cons rfl (Sub.int rfl (by first | omega | rfl | (dsimp only; omega)) (Sub.cons rfl (Sub.cons rfl (Sub.int rfl (by first | omega | rfl | (dsimp only; omega)) (Sub.int rfl (by first | omega | rfl | (dsimp only; omega)) Sub.nil)))))))))))) ((SubK.consI rfl ImpK.refl) SubK.nil) (SupG.val (SupG.val (SupG.val (SupG.val (SupG.val (SupG.val (SupG.own rfl (SupG.val (SupG.val (SupG.val (SupG.val (SupG.val SupG.nil)))))))))))) (SupH.cons rfl (supJL rfl) SupH.nil) (lkOk rfl)
              ·
                refine RGon h92 rfl x3 rfl ⟨rfl, trivial⟩ trivial trivial (RGon h92 rfl x3 rfl ⟨rfl, trivial⟩ trivial trivial (RGon h92 rfl xe0 rfl ⟨rfl, rfl, trivial⟩ trivial trivial (R2 (xa7 h92) rfl rfl (R1 x5 rfl (R1 x5 rfl (x7 (by kernel_rfl) (xb9 ?_)))))))
                refine x4 ?_
                refine x8 ?_
                refine R1 x3 rfl (R2 (xb4 (wr64 (by omega) (by omega))) rfl rfl (R1 x5 rfl (x7 (by kernel_rfl) ?_)))
                exact xb7 ((i + 1, j + 1)) ⟨(by dsimp only; exact ⟨by omega, by rw [← Nat.add_assoc, hwy, hj]⟩), (by dsimp only; omega)⟩ (Sub.int rfl (by first | omega | rfl | (dsimp only; omega)) ((Sub.consI rfl (Imp.of (congrArg (fun b => Ent.val (tB b)) (by first | exact (decide_eq_true (by have := of_decide_eq_true h92; omega)).symm | exact decide_eq_decide.2 (by have := of_decide_eq_false h92; omega))))) ((Sub.consI rfl (Imp.of (congrArg (fun b => Ent.val (tB b)) (decide_eq_true (by omega)).symm))) (Sub.int rfl (by first | omega | rfl | (dsimp only; omega)) (Sub.int rfl (by first | omega | rfl | (dsimp only; omega)) (Sub.int rfl (by first | omega | rfl | (dsimp only; omega)) (Sub.cons rfl (Sub.int rfl (by first | omega | rfl | (dsimp only; omega)) (Sub.cons rfl (Sub.cons rfl (Sub.int rfl (by first | omega | rfl | (dsimp only; omega)) (Sub.int rfl (by first | omega | rfl | (dsimp only; omega)) Sub.nil)))))))))))) ((SubK.consI rfl ImpK.refl) SubK.nil) (SupG.val (SupG.val (SupG.val (SupG.val (SupG.val (SupG.val (SupG.own rfl (SupG.val (SupG.val (SupG.val (SupG.val (SupG.val SupG.nil)))))))))))) (SupH.cons rfl (supJL rfl) SupH.nil) (lkOk rfl)
            ·
              refine RGoff (decide_eq_false h89_3) rfl rfl (RGoff (decide_eq_false h89_3) rfl rfl (RGon rfl rfl (xa7 (decide_eq_false h89_3)) rfl ⟨rfl, rfl, trivial⟩ trivial trivial (R2 (xa7 rfl) rfl rfl (x7 (by kernel_rfl) (x4 (C_bF rfl rfl (xa3 ?_)))))))
              refine x4 ?_
              refine x8 ?_
              refine R1 x3 rfl (R1 x3 rfl ?_)
              refine RGcase (t := 141) rfl (fun h92 => ?_) (fun h92 => ?_)
              ·
                refine RGoff h92 rfl rfl (RGoff h92 rfl rfl (RGoff h92 rfl rfl (R2 (xb1 h92) rfl rfl (R1 x5 rfl (R1 x5 rfl (x7 (by kernel_rfl) (xb9 ?_)))))))
                refine x4 ?_
                refine x8 ?_
                refine R1 x3 rfl (R2 (xb4 (wr64 (by omega) (by omega))) rfl rfl (R1 x5 rfl (x7 (by kernel_rfl) ?_)))
                exact xb7 ((i + 1, j + 1)) ⟨(by dsimp only; exact ⟨by omega, by rw [← Nat.add_assoc, hwy, hj]⟩), (by dsimp only; omega)⟩ (Sub.int rfl (by first | omega | rfl | (dsimp only; omega)) ((Sub.consI rfl (Imp.of (congrArg (fun b => Ent.val (tB b)) (by first | exact (decide_eq_true (by have := of_decide_eq_true h92; omega)).symm | exact decide_eq_decide.2 (by have := of_decide_eq_false h92; omega))))) ((Sub.consI rfl (Imp.of (congrArg (fun b => Ent.val (tB b)) (decide_eq_true (by omega)).symm))) (Sub.int rfl (by first | omega | rfl | (dsimp only; omega)) (Sub.int rfl (by first | omega | rfl | (dsimp only; omega)) (Sub.int rfl (by first | omega | rfl | (dsimp only; omega)) (Sub.cons rfl (Sub.int rfl (by first | omega | rfl | (dsimp only; omega)) (Sub.cons rfl (Sub.cons rfl (Sub.int rfl (by first | omega | rfl | (dsimp only; omega)) (Sub.int rfl (by first | omega | rfl | (dsimp only; omega)) Sub.nil)))))))))))) ((SubK.consI rfl ImpK.refl) SubK.nil) (SupG.val (SupG.val (SupG.val (SupG.val (SupG.val (SupG.val (SupG.own rfl (SupG.val (SupG.val (SupG.val (SupG.val (SupG.val SupG.nil)))))))))))) (SupH.cons rfl (supJL rfl) SupH.nil) (lkOk rfl)
              ·
                refine RGon h92 rfl x3 rfl ⟨rfl, trivial⟩ trivial trivial (RGon h92 rfl x3 rfl ⟨rfl, trivial⟩ trivial trivial (RGon h92 rfl xe0 rfl ⟨rfl, rfl, trivial⟩ trivial trivial (R2 (xa7 h92) rfl rfl (R1 x5 rfl (R1 x5 rfl (x7 (by kernel_rfl) (xb9 ?_)))))))
                refine x4 ?_
                refine x8 ?_
                refine R1 x3 rfl (R2 (xb4 (wr64 (by omega) (by omega))) rfl rfl (R1 x5 rfl (x7 (by kernel_rfl) ?_)))
                exact xb7 ((i + 1, j + 1)) ⟨(by dsimp only; exact ⟨by omega, by rw [← Nat.add_assoc, hwy, hj]⟩), (by dsimp only; omega)⟩ (Sub.int rfl (by first | omega | rfl | (dsimp only; omega)) ((Sub.consI rfl (Imp.of (congrArg (fun b => Ent.val (tB b)) (by first | exact (decide_eq_true (by have := of_decide_eq_true h92; omega)).symm | exact decide_eq_decide.2 (by have := of_decide_eq_false h92; omega))))) ((Sub.consI rfl (Imp.of (congrArg (fun b => Ent.val (tB b)) (decide_eq_true (by omega)).symm))) (Sub.int rfl (by first | omega | rfl | (dsimp only; omega)) (Sub.int rfl (by first | omega | rfl | (dsimp only; omega)) (Sub.int rfl (by first | omega | rfl | (dsimp only; omega)) (Sub.cons rfl (Sub.int rfl (by first | omega | rfl | (dsimp only; omega)) (Sub.cons rfl (Sub.cons rfl (Sub.int rfl (by first | omega | rfl | (dsimp only; omega)) (Sub.int rfl (by first | omega | rfl | (dsimp only; omega)) Sub.nil)))))))))))) ((SubK.consI rfl ImpK.refl) SubK.nil) (SupG.val (SupG.val (SupG.val (SupG.val (SupG.val (SupG.val (SupG.own rfl (SupG.val (SupG.val (SupG.val (SupG.val (SupG.val SupG.nil)))))))))))) (SupH.cons rfl (supJL rfl) SupH.nil) (lkOk rfl)
  ·
    refine xd2 (xb8 (xb8 (xd9 (x4 (x6 (x6 ?_))))))
    have hend := winP_high (l := l) (p := p) (q := q) (n := n) (k := f + i) (by omega) (by rw [show i = 102 by omega]; exact hfar)
    refine x8 ?_
    refine R1 x3 rfl (R1 xe4 rfl (x7 (by kernel_rfl) (x4 ?_)))
    refine xf5 rfl (fun h94 => ?_) (fun h94 => ?_)
    ·
      have hj0 : j = 0 := by
        have h1 : decide (0 < j) = false := by simpa using h94
        have := of_decide_eq_false h1; omega
      have hwe : winT l p q n = [] := List.length_eq_zero_iff.1 (by omega)
      have hoe : o = none := by
        cases o with
        | none => rfl
        | some m => have := (best_some ho rfl).1; rw [hwe] at this; cases this
      subst hoe
      refine x6 ?_
      refine x8 ?_
      refine R1 x3 rfl (R2 xe0 rfl rfl (R1 x3 rfl (RGon (decide_eq_true (by rfl)) rfl x3 rfl ⟨rfl, trivial⟩ trivial trivial (RGon (decide_eq_true (by rfl)) rfl xe0 rfl ⟨rfl, rfl, trivial⟩ trivial trivial (R2 (xb1 (decide_eq_true (by rfl))) rfl rfl (R1 x3 rfl (RGon (decide_eq_true (by rfl)) rfl (xa9 (0) ti31 rfl rfl) rfl ⟨rfl, trivial⟩ ⟨rfl, trivial⟩ trivial ?_)))))))
      refine RGon (decide_eq_true (by rfl)) rfl (xa1 (c_Limbs fr0 (by decide) (by decide)) fi14 rfl) rfl ⟨rfl, trivial⟩ trivial trivial (RGon (decide_eq_true (by rfl)) rfl xe0 rfl ⟨rfl, rfl, trivial⟩ trivial trivial (R2 (xb1 (decide_eq_true (by rfl))) rfl rfl (R1 x5 rfl (x7 (by kernel_rfl) (x4 (xa0 (xa8 ?_)))))))
      exact xa5 Plain.mk' rfl rfl (Le.bool (decide_eq_true (by simp [fr0])))
    ·
      have hj0 : 0 < j := by
        have h1 : decide (0 < j) = true := by simpa using h94
        exact of_decide_eq_true h1
      obtain ⟨m, rfl⟩ := best_ex ho (getD_memN (ks := winT l p q n) (k := 0) (by omega))
      have hbs := best_some ho rfl
      have hbl := best_lim hf0 hf1 hfar hn1 hbs.1
      refine xa3 (x4 (x6 ?_))
      refine x8 ?_
      refine R1 x3 rfl (R2 xe0 rfl rfl (R1 x3 rfl (RGon (decide_eq_true (by rfl)) rfl x3 rfl ⟨rfl, trivial⟩ trivial trivial (R2 (xb1 (decide_eq_true (by rfl))) rfl rfl (R1 x3 rfl (RGon (by exact decide_eq_true (by omega)) rfl (xa9 (0) ti31 rfl rfl) rfl ⟨rfl, trivial⟩ ⟨rfl, trivial⟩ trivial (RGon (by exact decide_eq_true (by omega)) rfl (xa1 (c_FValidQ (avW 3 l n m) (short_win nOk9 h.1 hpq.1 (by omega) hn1 hbs.1)) fi28 rfl) rfl ⟨rfl, trivial⟩ trivial trivial ?_)))))))
      refine R2 (xb1 (by exact decide_eq_true (by omega))) rfl rfl (R1 x5 rfl (x7 (by kernel_rfl) (x4 (xa0 ?_))))
      exact xa5 Plain.mk' rfl rfl Le.refl
end An.S
