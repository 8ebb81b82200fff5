/- Part 5 of a proof: Y1, X5, Y2, Svc, S12, S13, X6, LibAp, Z1, LibAq, Z2, LibAr, LibAs, Z3, R5b, Y3, S17, S18, Svc2, S14, S15, Chg2, Svc3, Sv2, Svc4, R8, Z4. -/
import Derived.Test.YtdcbapghcmhgkaaGreatV4
set_option maxHeartbeats 4000000
set_option maxRecDepth 100000
namespace An.S
open Go Go.Proofs An
instance fi69:FnI Tryz.prog 69:=⟨_,Tryz.func69,by kernel_rfl,rfl⟩
instance fi76:FnI Tryz.prog 76:=⟨_,Tryz.func76,by kernel_rfl,rfl⟩
instance fi77:FnI Tryz.prog 77:=⟨_,Tryz.func77,by kernel_rfl,rfl⟩
instance fi131:FnI Tryz.prog 131:=⟨_,Tryz.func131,by kernel_rfl,rfl⟩
instance fi132:FnI Tryz.prog 132:=⟨_,Tryz.func132,by kernel_rfl,rfl⟩
instance fi146:FnI Tryz.prog 146:=⟨_,Tryz.func146,by kernel_rfl,rfl⟩
instance fi147:FnI Tryz.prog 147:=⟨_,Tryz.func147,by kernel_rfl,rfl⟩
instance fi199:FnI Tryz.prog 199:=⟨_,Tryz.func199,by kernel_rfl,rfl⟩
instance fi200:FnI Tryz.prog 200:=⟨_,Tryz.func200,by kernel_rfl,rfl⟩
instance fi201:FnI Tryz.prog 201:=⟨_,Tryz.func201,by kernel_rfl,rfl⟩
theorem c_R2Plus (a b:Rat) (ha:short a) (hb:short b):
  Ct Tryz.prog 201 [tFr (fr a),tFr (fr b)] (tFr (fr (a+b))):=by
 obtain ⟨an,ad⟩:=ha
 obtain ⟨bn,bd⟩:=hb
 have ha:short a:=⟨an,ad⟩
 have hb:short b:=⟨bn,bd⟩
 have da:=a.den_nz
 have db:=b.den_nz
 have l1:=len16_mul an bd
 have l2:=len16_mul bn ad
 have l3:=len16_mul ad bd
 have l4:=len16_add (x:=a.num*(b.den:Int)) (y:=b.num*(a.den:Int)) (k:=512) (by omega) (by omega)
 refine Ct.intro Tryz.func201 rfl Tryz.ntmps201 rfl ?_
 intro w F
 refine A4 ?_
 refine RE (x9 (k:=4) (n:=4) (agg:=true) zr30.1 zr30.2 rfl) trivial trivial ⟨rfl,trivial⟩ ?_
 refine A8 ?_
 refine R2 (x3 (xp6 a.num (b.den:Int) (by omega) (by omega)) fi202 rfl) rfl rfl ?_
 refine A4 ?_
 refine R2 (x3 (xp6 b.num (a.den:Int) (by omega) (by omega)) fi202 rfl) rfl rfl (R2 (x3 (c_RSum (a.num*(b.den:Int)) (b.num*(a.den:Int)) (by omega) (by omega)) fi228 rfl) rfl rfl (RE (x9 (k:=5) (n:=2) (agg:=true) zr28.1 zr28.2 rfl) trivial trivial ⟨rfl,trivial⟩ ?_))
 refine A10 ?_
 refine R2 (x3 (xp6 (a.den:Int) (b.den:Int) (by omega) (by omega)) fi202 rfl) rfl rfl (R2 (x3 (c_RLowest (a.num*(b.den:Int)+b.num*(a.den:Int)) ((a.den:Int)*(b.den:Int)) (by omega) (by omega) (Int.mul_ne_zero (by omega) (by omega))) fi135 rfl) rfl rfl ?_)
 refine A4 ?_
 exact xd6 Plain.mk' rfl ⟨_,_,_,_,_,rfl,rfl,ti30,(Le.of (by rw [xt1]))⟩
theorem c_R2Add (a b:Rat) (ha:short a) (hb:short b):
  Ct Tryz.prog 132 [tFr (fr a),tFr (fr b)] (tT [tFr (resF (a+b)),tI (resFE (a+b))]):=by
 refine Ct.intro Tryz.func132 rfl Tryz.ntmps132 rfl ?_
 intro w F
 refine A4 ?_
 refine RE (x9 (k:=4) (n:=4) (agg:=true) zr30.1 zr30.2 rfl) trivial trivial ⟨rfl,trivial⟩ ?_
 refine A7 ?_
 refine R1 (x3 (xt5 a ha) fi71 rfl) rfl ?_
 refine A3 ?_
 refine RGon rfl rfl (x3 (xt5 b hb) fi71 rfl) rfl ⟨rfl,trivial⟩ trivial trivial ?_
 refine A11 ?_
 refine R2 (x3 (c_R2Plus a b ha hb) fi201 rfl) rfl rfl (R1 (x3 (c_R2told (a+b)) fi133 rfl) rfl ?_)
 refine A7 ?_
 exact xb9 Plain.mk' (rs:=[.cell 4 30,.tmp 5]) rfl rfl ⟨⟨_,_,_,_,_,rfl,rfl,ti30,Le.refl⟩,⟨_,rfl,Le.refl⟩,trivial⟩
theorem c_R2MulT (f:Fr) (n:Int) (hf1:f=fr f.rat) (hf2:short f.rat) (hn:short (n:Rat)):Ct Tryz.prog 69 [tFr f,tFr (fr (n:Rat))] (tT [tFr (resF (f.rat*(n:Rat))),tI (resFE (f.rat*(n:Rat)))]):=by
 have h:=c_R2Mul f.rat (n:Rat) hf2 hn
 rw [←hf1] at h;exact h
theorem c_R2AddR (q p:Rat) (hq:short q) (hp:short p):Ct Tryz.prog 132 [tFr (fr q),tFr (resF p)] (tT [tFr (resF (q+p)),tI (resFE (q+p))]):=by
 rw [show resF p=fr p from if_pos hp];exact c_R2Add q p hq hp
theorem c_R5Right (l:List Tst) (hl:l.length≤500000) (hD: ∀s∈l,s.v.f.dig) (hs: ∀s∈l,s.v.f.n.l.length≤1048576∧s.v.f.d.l.length≤1048576):
  Ct Tryz.prog 77 [tL 8 true tTs l] (tB (tRight l)):=by
 refine Ct.intro Tryz.func77 rfl Tryz.ntmps77 rfl ?_
 intro w F
 refine A12 ?_
 refine cL (fun (i:Nat)=>i≤l.length∧ ∀j,j < i→rOk l j) (fun (i:Nat)=>upd (upd (fun _=>none) 0 (some (.val (tL 8 true tTs l)))) 3 (some (.val (tI i)))) (fun (i:Nat)=>fun _=>none) [] (fun (i:Nat)=>l.length - i) (0) ⟨Nat.zero_le _,fun j hj=>by omega⟩ ?_
 intro i hI
 obtain ⟨hi,hok⟩:=hI
 refine A9 ?_
 refine x8 rfl (fun h51=> ?_) (fun h51=> ?_)
 ·
  refine A9 ?_
  refine R2 (x6 sl22 (i) (by omega) (gD (l:=l) (n:=i) (d:=tst0) (by omega))) rfl rfl (R1 (xb5 fo34_0.h (At.f 0 rfl rfl) rfl) rfl ?_)
  refine A3 ?_
  refine RGcaseD (t:=16) rfl (fun h52=> ?_) (fun h52=> ?_)
  ·
   refine A18 ?_
   refine A18 ?_
   refine A18 ?_
   refine A4 ?_
   exact x4 Plain.mk' rfl rfl (Le.bool (xs5 (i:=i) (by omega) (fun h=>by have q1:=h.1.1;have q2:=h.1.2.1;have q3:=h.1.2.2;first | omega | (rw [q2] at h52_4;cases h52_4))))
  ·
   refine A2 ?_
   refine RGon (decide_eq_false h52) rfl (x6 sl22 (i) (by omega) (gD (l:=l) (n:=i) (d:=tst0) (by omega))) rfl ⟨rfl,rfl,trivial⟩ trivial trivial (RGon (decide_eq_false h52) rfl (xb5 fo34_0.h (At.f 0 rfl rfl) rfl) rfl ⟨rfl,trivial⟩ trivial trivial ?_)
   refine A3 ?_
   refine RGon (decide_eq_false h52) rfl (x6 sl22 (i) (by omega) (gD (l:=l) (n:=i) (d:=tst0) (by omega))) rfl ⟨rfl,rfl,trivial⟩ trivial trivial (RGon (decide_eq_false h52) rfl (xb5 fo34_1.h (At.f 1 rfl rfl) rfl) rfl ⟨rfl,trivial⟩ trivial trivial ?_)
   refine A4 ?_
   refine RGcaseD (t:=29) rfl (fun h52_2=> ?_) (fun h52_2=> ?_)
   ·
    refine A18 ?_
    refine A18 ?_
    refine A9 ?_
    exact x4 Plain.mk' rfl rfl (Le.bool (xs5 (i:=i) (by omega) (fun h=>by have q1:=h.1.1;have q2:=h.1.2.1;have q3:=h.1.2.2;first | omega | (rw [q2] at h52_4;cases h52_4))))
   ·
    refine A2 ?_
    refine RGon (decide_eq_false h52_2) rfl (x6 sl22 (i) (by omega) (gD (l:=l) (n:=i) (d:=tst0) (by omega))) rfl ⟨rfl,rfl,trivial⟩ trivial trivial (RGon (decide_eq_false h52_2) rfl (xb5 fo34_1.h (At.f 1 rfl rfl) rfl) rfl ⟨rfl,trivial⟩ trivial trivial ?_)
    refine A4 ?_
    refine RGcaseD (t:=37) rfl (fun h52_3=> ?_) (fun h52_3=> ?_)
    ·
     refine A18 ?_
     refine A18 ?_
     refine A1 ?_
     exact x4 Plain.mk' rfl rfl (Le.bool (xs5 (i:=i) (by omega) (fun h=>by have q1:=h.1.1;have q2:=h.1.2.1;have q3:=h.1.2.2;first | omega | (rw [q2] at h52_4;cases h52_4))))
    ·
     refine A2 ?_
     refine RGon (decide_eq_false h52_3) rfl (x6 sl22 (i) (by omega) (gD (l:=l) (n:=i) (d:=tst0) (by omega))) rfl ⟨rfl,rfl,trivial⟩ trivial trivial (RGon (decide_eq_false h52_3) rfl (xb5 fo34_2.h (At.f 2 rfl rfl) rfl) rfl ⟨rfl,trivial⟩ trivial trivial ?_)
     refine A1 ?_
     refine RGon (decide_eq_false h52_3) rfl (x3 (c_R5Valid _ (hD _ (xd5 (l:=l) (i:=i) (by omega))) (hs _ (xd5 (l:=l) (i:=i) (by omega))).1 (hs _ (xd5 (l:=l) (i:=i) (by omega))).2) fi146 rfl) rfl ⟨rfl,trivial⟩ trivial trivial ?_
     refine A3 ?_
     refine RGcase (t:=46) rfl (fun h52_4=> ?_) (fun h52_4=> ?_)
     ·
      refine A18 ?_
      refine A10 ?_
      exact x4 Plain.mk' rfl rfl (Le.bool (xs5 (i:=i) (by omega) (fun h=>by have q1:=h.1.1;have q2:=h.1.2.1;have q3:=h.1.2.2;first | omega | (rw [q2] at h52_4;cases h52_4))))
     ·
      have hv:(l.getD i tst0).v.valid=true:=by simpa using h52_4
      refine A2 ?_
      refine RGon h52_4 rfl (x6 sl22 (i) (by omega) (gD (l:=l) (n:=i) (d:=tst0) (by omega))) rfl ⟨rfl,rfl,trivial⟩ trivial trivial (RGon h52_4 rfl (xb5 fo34_2.h (At.f 2 rfl rfl) rfl) rfl ⟨rfl,trivial⟩ trivial trivial (RGon h52_4 rfl (xb5 fo32_0.h (At.f 0 rfl rfl) rfl) rfl ⟨rfl,trivial⟩ trivial trivial ?_))
      refine A2 ?_
      refine RGon h52_4 rfl (x6 sl22 (0) (by omega) (gD (l:=l) (n:=0) (d:=tst0) (by omega))) rfl ⟨rfl,rfl,trivial⟩ trivial trivial (RGon h52_4 rfl (xb5 fo34_2.h (At.f 2 rfl rfl) rfl) rfl ⟨rfl,trivial⟩ trivial trivial (RGon h52_4 rfl (xb5 fo32_0.h (At.f 0 rfl rfl) rfl) rfl ⟨rfl,trivial⟩ trivial trivial ?_))
      refine A5 ?_
      refine x8 rfl (fun h52_5=> ?_) (fun h52_5=> ?_)
      ·
       refine A12 ?_
       exact x4 Plain.mk' rfl rfl (Le.bool (xs5 (i:=i) (by omega) (fun h=>by have q1:=h.1.1;have q2:=h.1.2.1;have q3:=h.1.2.2;first | omega | (rw [q2] at h52_4;cases h52_4))))
      ·
       refine A7 ?_
       refine RGcaseD (t:=62) rfl (fun h55=> ?_) (fun h55=> ?_)
       ·
        refine A2 ?_
        refine RGon (decide_eq_true h55) rfl (xe6 (wr64 (by omega) (by omega))) rfl ⟨rfl,rfl,trivial⟩ trivial trivial (RGon (decide_eq_true h55) rfl (x6 sl22 (i - 1) (by omega) (gD (l:=l) (n:=i - 1) (d:=tst0) (by omega))) rfl ⟨rfl,rfl,trivial⟩ trivial trivial (RGon (decide_eq_true h55) rfl (xb5 fo34_1.h (At.f 1 rfl rfl) rfl) rfl ⟨rfl,trivial⟩ trivial trivial ?_))
        refine A3 ?_
        refine RGon (decide_eq_true h55) rfl (x6 sl22 (i) (by omega) (gD (l:=l) (n:=i) (d:=tst0) (by omega))) rfl ⟨rfl,rfl,trivial⟩ trivial trivial (RGon (decide_eq_true h55) rfl (xb5 fo34_0.h (At.f 0 rfl rfl) rfl) rfl ⟨rfl,trivial⟩ trivial trivial ?_)
        refine A3 ?_
        refine RGcaseD (t:=75) rfl (fun h55_2=> ?_) (fun h55_2=> ?_)
        ·
         refine A18 ?_
         refine A8 ?_
         refine RGon (decide_eq_true h55) rfl (xe3 (decide_eq_true h55_2)) rfl ⟨rfl,rfl,trivial⟩ trivial trivial ?_
         refine A15 ?_
         exact x4 Plain.mk' rfl rfl (Le.bool (xs5 (i:=i) (by omega) (fun h=>by have q:=h.2;first | omega | exact (q.resolve_left (by omega)).2 ⟨by omega,by assumption⟩)))
        ·
         refine A2 ?_
         refine RGon (decide_eq_false h55_2) rfl (xe6 (wr64 (by omega) (by omega))) rfl ⟨rfl,rfl,trivial⟩ trivial trivial (RGon (decide_eq_false h55_2) rfl (x6 sl22 (i - 1) (by omega) (gD (l:=l) (n:=i - 1) (d:=tst0) (by omega))) rfl ⟨rfl,rfl,trivial⟩ trivial trivial (RGon (decide_eq_false h55_2) rfl (xb5 fo34_1.h (At.f 1 rfl rfl) rfl) rfl ⟨rfl,trivial⟩ trivial trivial ?_))
         refine A3 ?_
         refine RGon (decide_eq_false h55_2) rfl (x6 sl22 (i) (by omega) (gD (l:=l) (n:=i) (d:=tst0) (by omega))) rfl ⟨rfl,rfl,trivial⟩ trivial trivial (RGon (decide_eq_false h55_2) rfl (xb5 fo34_0.h (At.f 0 rfl rfl) rfl) rfl ⟨rfl,trivial⟩ trivial trivial ?_)
         refine A3 ?_
         refine RGcaseD (t:=88) rfl (fun h55_3=> ?_) (fun h55_3=> ?_)
         ·
          refine A2 ?_
          refine RGon (decide_eq_true h55_3) rfl (xe6 (wr64 (by omega) (by omega))) rfl ⟨rfl,rfl,trivial⟩ trivial trivial (RGon (decide_eq_true h55_3) rfl (x6 sl22 (i - 1) (by omega) (gD (l:=l) (n:=i - 1) (d:=tst0) (by omega))) rfl ⟨rfl,rfl,trivial⟩ trivial trivial (RGon (decide_eq_true h55_3) rfl (xb5 fo34_2.h (At.f 2 rfl rfl) rfl) rfl ⟨rfl,trivial⟩ trivial trivial ?_))
          refine A3 ?_
          refine RGon (decide_eq_true h55_3) rfl (x6 sl22 (i) (by omega) (gD (l:=l) (n:=i) (d:=tst0) (by omega))) rfl ⟨rfl,rfl,trivial⟩ trivial trivial (RGon (decide_eq_true h55_3) rfl (xb5 fo34_2.h (At.f 2 rfl rfl) rfl) rfl ⟨rfl,trivial⟩ trivial trivial ?_)
          refine A1 ?_
          refine RGon (decide_eq_true h55_3) rfl (x3 (c_R5Same _ _ (hs _ (xd5 (l:=l) (i:=i - 1) (by omega))).1 (hs _ (xd5 (l:=l) (i:=i - 1) (by omega))).2) fi147 rfl) rfl ⟨rfl,rfl,trivial⟩ trivial trivial (RGon (decide_eq_false h55_2) rfl (xe3 (decide_eq_true h55_3)) rfl ⟨rfl,rfl,trivial⟩ trivial trivial (RGon (decide_eq_true h55) rfl (xc7 (decide_eq_false h55_2)) rfl ⟨rfl,rfl,trivial⟩ trivial trivial ?_))
          refine A3 ?_
          refine x8 rfl (fun h55_4=> ?_) (fun h55_4=> ?_)
          ·
           refine A11 ?_
           exact x4 Plain.mk' rfl rfl (Le.bool (xs5 (i:=i) (by omega) (fun h=>by have q:=h.2;first | omega | exact (q.resolve_left (by omega)).2 ⟨by omega,by assumption⟩)))
          ·
           refine A8 ?_
           exact K_fam (i+1) ⟨⟨by omega,fun j hj=>by
  by_cases hji:j=i
  ·subst hji;exact ⟨⟨⟨by omega,by omega,by omega⟩,hv,by omega⟩,.inr ⟨by omega,fun h=>h55_4 h.2⟩⟩
  ·exact hok j (by omega)⟩, (by omega)⟩ (Sub.int rfl (by first | omega | rfl | (dsimp only; omega)) (Sub.cons rfl Sub.nil)) SubK.nil (SupG.val (SupG.val SupG.nil)) SupH.nil (lkOk rfl)
         ·
          refine A12 ?_
          refine RGon (decide_eq_false h55_2) rfl (xc7 (decide_eq_false h55_3)) rfl ⟨rfl,rfl,trivial⟩ trivial trivial (RGon (decide_eq_true h55) rfl (xc7 (decide_eq_false h55_2)) rfl ⟨rfl,rfl,trivial⟩ trivial trivial ?_)
          refine A12 ?_
          exact K_fam (i+1) ⟨⟨by omega,fun j hj=>by
  by_cases hji:j=i
  ·subst hji;exact ⟨⟨⟨by omega,by omega,by omega⟩,hv,by omega⟩,.inr ⟨by omega,fun h=>by omega⟩⟩
  ·exact hok j (by omega)⟩, (by omega)⟩ (Sub.int rfl (by first | omega | rfl | (dsimp only; omega)) (Sub.cons rfl Sub.nil)) SubK.nil (SupG.val (SupG.val SupG.nil)) SupH.nil (lkOk rfl)
       ·
        refine A18 ?_
        refine A18 ?_
        refine A16 ?_
        exact K_fam (i+1) ⟨⟨by omega,fun j hj=>by
  by_cases hji:j=i
  ·subst hji;exact ⟨⟨⟨by omega,by omega,by omega⟩,hv,by omega⟩,.inl (by omega)⟩
  ·exact hok j (by omega)⟩,(by omega)⟩ (Sub.int rfl (by first | omega | rfl | (dsimp only;omega)) (Sub.cons rfl Sub.nil)) SubK.nil (SupG.val (SupG.val SupG.nil)) SupH.nil (lkOk rfl)
 ·
  refine A11 ?_
  exact x4 Plain.mk' rfl rfl (Le.bool (right_R.2 (fun j hj=>hok j (by omega))).symm)
theorem c_R5within (a b:Int):
  Ct Tryz.prog 199 [tI a,tI b] (tB (Sn.ok ⟨a,b⟩)):=by
 refine Ct.intro Tryz.func199 rfl Tryz.ntmps199 rfl ?_
 intro w F
 refine A10 ?_
 refine RGcaseD (t:=7) rfl (fun h91=> ?_) (fun h91=> ?_)
 ·
  refine A5 ?_
  refine RGcaseD (t:=12) rfl (fun h91_2=> ?_) (fun h91_2=> ?_)
  ·
   refine A7 ?_
   exact x4 Plain.mk' rfl rfl (Le.bool (by simp [Sn.ok, *]))
  ·
   refine A7 ?_
   exact x4 Plain.mk' rfl rfl (Le.bool (by simp [Sn.ok, *]))
 ·
  refine A12 ?_
  exact x4 Plain.mk' rfl rfl (Le.bool (by simp [Sn.ok, *]))
theorem c_R5part (zs:List Tst) (s:Tst) (a b:Int) (hz:zs.length≤1000000):
  CtG Tryz.prog 200 [(1,⟨34,8,true,rV tTs zs⟩)] [.own (.sl 1 8 0 zs.length),.val (tTs s),.val (tI a),.val (tI b)] (.own (.sl 90 8 0 (parR zs (clip a b s)).length)) [(90,⟨34,8,true,rV tTs (parR zs (clip a b s))⟩)] [90]:=by
 refine CtG.intro [1] Tryz.func200 rfl Tryz.ntmps200 rfl rfl ⟨⟨rfl,xb0⟩,trivial⟩ ?_
 intro w F η
 refine C_renS (t:=0) (k:=1) 90 rfl rfl rfl ?_
 refine A11 ?_
 refine R2 d_max2 rfl rfl ?_
 refine A3 ?_
 refine R2 d_min2 rfl rfl ?_
 refine A1 ?_
 refine xm1 (0) ti3 rfl rfl rfl rfl (Up.g 0 rfl rfl rfl) rfl rfl ?_
 refine A1 ?_
 refine xm1 (0) ti3 rfl rfl rfl rfl (Up.g 1 rfl rfl rfl) rfl rfl ?_
 refine A2 ?_
 refine xg9 (fun (_j:Unit)=>True) (fun (_j:Unit)=>upd (fun _=>none) 0 (some (.own (.sl 90 8 0 (parR zs (clip a b s)).length)))) (fun (_j:Unit)=>upd (fun _=>none) 90 (some (⟨34,8,true,rV tTs (parR zs (clip a b s))⟩))) (nm [90,1]) ?_ ?_
 ·
  refine A9 ?_
  refine x8 rfl (fun h106=> ?_) (fun h106=> ?_)
  ·
   refine A3 ?_
   refine R1 (xd2 (n:=1) (f:=tTs) [(clip a b s)] Tryz.underlying22 el34 zf34 rfl (fun _=>inferInstance) rfl rfl rfl) rfl (RE (xc5 (k:=90) (k':=27) (f:=tTs) (ys:=[(clip a b s)]) (ts':=rV tTs (zs++[(clip a b s)])) Tryz.underlying22 el34 zf34 rfl rfl (fun _=>inferInstance) xe5 (by simp;omega) (by simp;omega) (by simp [rV]) (n':=zs.length+1) rfl) ⟨rfl,rfl,trivial⟩ ⟨rfl,trivial⟩ ⟨rfl,trivial⟩ ?_)
   refine A2 ?_
   have e:(parR zs (clip a b s))=zs++[(clip a b s)]:=if_pos h106
   exact xe4 (l:=[90,1]) (fun j=>cond (Nat.beq j 90) 27 (j)) (()) trivial ((SubR.consI rfl (Imp.of (by rw [e,List.length_append];rfl))) SubR.nil) ((SubKR.consI rfl (ImpK.of (by rw [e];exact xc2.symm))) SubKR.nil) (SupG.own rfl SupG.nil) (SupH.cons rfl (supJ xb0) SupH.nil) (lkOk rfl) rfl rfl (fun _ h=>by cases h)
  ·
   refine A1 ?_
   have e:(parR zs (clip a b s))=zs:=if_neg h106
   exact kF (()) trivial (hg:=((Sub.consI rfl (Imp.of (by rw [e]))) Sub.nil)) (hh:=((SubK.consI rfl (ImpK.of (by rw [e]))) SubK.nil))
 ·
  intro _j hj106
  refine A7 ?_
  exact xe8 LentC.mk' rfl rfl Imp.refl ⟨rfl,trivial⟩ rfl ⟨⟨rfl,xb0⟩,trivial⟩ rfl
theorem c_R5Cut (l:List Tst) (hl:l.length≤500000) (a b:Int) (hD: ∀s∈l,s.v.f.dig) (hs: ∀s∈l,s.v.f.n.l.length≤1048576∧s.v.f.d.l.length≤1048576):
  Ct Tryz.prog 131 [tL 8 true tTs l,tI a,tI b] (tT [tL 8 true tTs (if (tRight l=true∧Sn.ok ⟨a,b⟩=true) then cutR l a b else []),tI (if (tRight l=true∧Sn.ok ⟨a,b⟩=true) then 0 else 2)]):=by
 refine Ct.intro Tryz.func131 rfl Tryz.ntmps131 rfl ?_
 intro w F
 refine A10 ?_
 refine R1 (x3 (c_R5Right l hl hD hs) fi77 rfl) rfl ?_
 refine A2 ?_
 refine RGcase (t:=13) rfl (fun h114=> ?_) (fun h114=> ?_)
 ·
  refine A16 ?_
  exact xc3 Plain.mk' rfl rfl rfl (leNil (if_neg (fun h=>by simp [h.1] at*))) (Le.int (if_neg (fun h=>by simp [h.1] at*)).symm)
 ·
  refine A2 ?_
  refine RGon h114 rfl (x3 (c_R5within a b) fi199 rfl) rfl ⟨rfl,rfl,trivial⟩ trivial trivial ?_
  refine A4 ?_
  refine xd4 rfl (fun h114_2=> ?_) (fun h114_2=> ?_)
  ·
   refine A8 ?_
   exact xc3 Plain.mk' rfl rfl rfl (leNil (if_neg (fun h=>by simp [h.1,h.2] at*))) (Le.int (if_neg (fun h=>by simp [h.1,h.2] at*)).symm)
  ·
   refine A4 ?_
   refine RE (xd8 (k:=8) 34 8 true rfl (fun h=>by cases h)) trivial trivial ⟨rfl,trivial⟩ ?_
   refine A9 ?_
   have hok:(tRight l=true∧Sn.ok ⟨a,b⟩=true):=by simpa using And.intro h114 h114_2
   refine cL (fun (fm:(Nat)×(List Tst))=>(fun (i:Nat) (zs:List Tst)=>i≤l.length∧zs=cutR (l.take i) a b) fm.1 fm.2) (fun (fm:(Nat)×(List Tst))=>(fun (i:Nat) (zs:List Tst)=>upd (upd (upd (upd (upd (fun _=>none) 0 (some (.val (tL 8 true tTs l)))) 1 (some (.val (tI a)))) 2 (some (.val (tI b)))) 8 (some (.own (.sl 8 8 0 zs.length)))) 9 (some (.val (tI i)))) fm.1 fm.2) (fun (fm:(Nat)×(List Tst))=>(fun (i:Nat) (zs:List Tst)=>upd (fun _=>none) 8 (some (⟨34,8,true,rV tTs zs⟩))) fm.1 fm.2) [8] (fun (fm:(Nat)×(List Tst))=>(fun (i:Nat) (zs:List Tst)=>l.length - i) fm.1 fm.2) ((0,[])) (by dsimp only;exact ⟨Nat.zero_le _,rfl⟩) (hh:=((SubK.consI rfl ImpK.refl) SubK.nil)) ?_
   intro fm hI
   obtain ⟨i,zs⟩:=fm
   replace hI:i≤l.length∧zs=cutR (l.take i) a b:=hI
   show wc _ _ _ _ (upd (upd (upd (upd (upd (fun _=>none) 0 (some (.val (tL 8 true tTs l)))) 1 (some (.val (tI a)))) 2 (some (.val (tI b)))) 8 (some (.own (.sl 8 8 0 zs.length)))) 9 (some (.val (tI i)))) (upd (fun _=>none) 8 (some (⟨34,8,true,rV tTs zs⟩))) _
   obtain ⟨hi,hz⟩:=hI
   have hzl:zs.length≤i:=by rw [hz];exact cutR_len hi
   refine A9 ?_
   refine x8 rfl (fun h118=> ?_) (fun h118=> ?_)
   ·
    refine A8 ?_
    refine R2 (x6 sl22 (i) (by omega) (gD (l:=l) (n:=i) (d:=tst0) (by omega))) rfl rfl ?_
    refine A3 ?_
    refine RE (xe2 (fun j=>cond (Nat.beq j 1) 8 (32)) (c_R5part zs (l.getD i tst0) a b (by omega)) fi200 rfl (krC (ρ:=fun j=>cond (Nat.beq j 1) 8 (32)) (k:=1) xc2 (krN (ρ:=fun j=>cond (Nat.beq j 1) 8 (32)))) (krC (ρ:=fun j=>cond (Nat.beq j 1) 8 (32)) (k:=90) xc2 (krN (ρ:=fun j=>cond (Nat.beq j 1) 8 (32)))) ⟨⟨rfl,xb0⟩,trivial⟩ rfl) ⟨rfl,rfl,rfl,rfl,trivial⟩ ⟨rfl,trivial⟩ ⟨rfl,trivial⟩ ?_
    refine A9 ?_
    exact xe4 (l:=[8]) (fun j=>cond (Nat.beq j 8) 32 (j)) ((i+1,parR zs (clip a b (l.getD i tst0)))) ⟨(by dsimp only;exact ⟨by omega,by rw [cutR_next (by omega),←hz]⟩),(by dsimp only;omega)⟩ (SubR.int rfl (by first | omega | rfl | (dsimp only;omega)) (SubR.cons rfl (SubR.int rfl (by first | omega | rfl | (dsimp only;omega)) (SubR.int rfl (by first | omega | rfl | (dsimp only;omega)) (SubR.cons rfl SubR.nil))))) ((SubKR.consI rfl (ImpK.of xc2.symm)) SubKR.nil) (SupG.val (SupG.own rfl (SupG.val (SupG.val (SupG.val SupG.nil))))) (SupH.cons rfl (supJ xb0) SupH.nil) (lkOk rfl) rfl rfl (fun _ h=>by cases h)
   ·
    refine A7 ?_
    refine RE (xg3 (f:=tTs) (xs:=zs) (fun _ h=>h) (xi4 rfl) rfl) ⟨rfl,trivial⟩ ⟨rfl,trivial⟩ trivial ?_
    refine A5 ?_
    exact xc3 Plain.mk' rfl rfl rfl (Le.of (by rw [if_pos hok,hz,show i=l.length by omega,List.take_length])) (Le.int (by rw [if_pos hok]))
theorem c_R5Sum (l:List Tst) (hl:l.length≤500000) (a b:Int) (hD: ∀s∈l,s.v.f.dig) (hs: ∀s∈l,s.v.f.n.l.length≤1048576∧s.v.f.d.l.length≤1048576):
  Ct Tryz.prog 68 [tL 8 true tTs l,tI a,tI b] (tT [tFr (if sumC l a b then sumF (sumT (cutT l a b)) else fr0),tI (if sumC l a b then sumE (sumT (cutT l a b)) else 2)]):=by
 have hcut:=c_R5Cut l hl a b hD hs
 obtain ⟨part,hpart⟩: ∃p:List Tst,p=(if (tRight l=true∧Sn.ok ⟨a,b⟩=true) then cutR l a b else []):=⟨_,rfl⟩
 obtain ⟨er,her⟩: ∃e:Int,e=(if (tRight l=true∧Sn.ok ⟨a,b⟩=true) then 0 else 2):=⟨_,rfl⟩
 rw [←hpart,←her] at hcut
 refine Ct.intro Tryz.func68 rfl Tryz.ntmps68 rfl ?_
 intro w F
 refine A2 ?_
 refine RE (x9 (k:=6) (n:=4) (agg:=true) zr30.1 zr30.2 rfl) trivial trivial ⟨rfl,trivial⟩ ?_
 refine A8 ?_
 refine R3 (x3 hcut fi131 rfl) rfl rfl rfl ?_
 refine A7 ?_
 refine xg9 (fun (_j:Unit)=>numK l∧(tRight l=true∧Sn.ok ⟨a,b⟩=true)) (fun (_j:Unit)=>upd (upd (fun _=>none) 6 (some (.own (.ptr 6 0)))) 8 (some (.val (tL 8 true tTs part)))) (fun (_j:Unit)=>upd (fun _=>none) 6 (some (⟨30,4,true,[.val (tFr fr0)]⟩))) (nm [6]) ?_ ?_
 ·
  refine A5 ?_
  refine RGcaseD (t:=23) rfl (fun h156=> ?_) (fun h156=> ?_)
  ·
   have hb0: ¬(tRight l=true∧Sn.ok ⟨a,b⟩=true):=fun h=>h156 (by rw [her,if_pos h])
   have hb: ¬sumC l a b:=fun h=>hb0 h.1
   refine A18 ?_
   refine A7 ?_
   refine R0 (xb8 (r:=tS [⟨2,true,(tS [⟨1,false,(tE (.bool false))⟩,⟨1,false,(tLm [])⟩])⟩,⟨2,true,(tS [⟨1,false,(tE (.bool false))⟩,⟨1,false,(tLm [])⟩])⟩]) (ts:=[]) bu30 zr30.2 Le.refl) ?_
   refine A6 ?_
   exact xb9 Plain.mk' (rs:=[.cell 6 30,.tmp 7]) rfl rfl ⟨⟨_,_,_,_,_,rfl,rfl,ti30,(Le.of (by rw [if_neg hb];rfl))⟩,⟨_,rfl,(Le.int (by rw [if_neg hb]))⟩,trivial⟩
  ·
   have hok:(tRight l=true∧Sn.ok ⟨a,b⟩=true):=Classical.byContradiction fun h=>h156 (by rw [her,if_neg h];decide)
   refine A4 ?_
   refine RGcaseD (t:=27) rfl (fun h156_2=> ?_) (fun h156_2=> ?_)
   ·
    refine A1 ?_
    refine RGon (decide_eq_true h156_2) rfl (x6 sl22 (0) (by omega) (gD (l:=l) (n:=0) (d:=tst0) (by omega))) rfl ⟨rfl,rfl,trivial⟩ trivial trivial (RGon (decide_eq_true h156_2) rfl (xb5 fo34_2.h (At.f 2 rfl rfl) rfl) rfl ⟨rfl,trivial⟩ trivial trivial (RGon (decide_eq_true h156_2) rfl (xb5 fo32_0.h (At.f 0 rfl rfl) rfl) rfl ⟨rfl,trivial⟩ trivial trivial ?_))
    refine A2 ?_
    refine RGon (decide_eq_false h156) rfl (xe3 (decide_eq_true h156_2)) rfl ⟨rfl,rfl,trivial⟩ trivial trivial ?_
    refine A1 ?_
    refine RGcaseD (t:=35) rfl (fun h156_3=> ?_) (fun h156_3=> ?_)
    ·
     refine A1 ?_
     refine RGon (decide_eq_true h156_3) rfl (x6 sl22 (0) (by omega) (gD (l:=l) (n:=0) (d:=tst0) (by omega))) rfl ⟨rfl,rfl,trivial⟩ trivial trivial (RGon (decide_eq_true h156_3) rfl (xb5 fo34_2.h (At.f 2 rfl rfl) rfl) rfl ⟨rfl,trivial⟩ trivial trivial (RGon (decide_eq_true h156_3) rfl (xb5 fo32_0.h (At.f 0 rfl rfl) rfl) rfl ⟨rfl,trivial⟩ trivial trivial ?_))
     refine A2 ?_
     refine RGon (decide_eq_false h156) rfl (xe3 (decide_eq_true h156_3)) rfl ⟨rfl,rfl,trivial⟩ trivial trivial ?_
     refine A3 ?_
     refine x8 rfl (fun h156_4=> ?_) (fun h156_4=> ?_)
     ·
      refine A2 ?_
      refine R0 (xb8 (r:=tS [⟨2,true,(tS [⟨1,false,(tE (.bool false))⟩,⟨1,false,(tLm [])⟩])⟩,⟨2,true,(tS [⟨1,false,(tE (.bool false))⟩,⟨1,false,(tLm [])⟩])⟩]) (ts:=[]) bu30 zr30.2 Le.refl) ?_
      refine A6 ?_
      exact xb9 Plain.mk' (rs:=[.cell 6 30,.tmp 7]) rfl rfl ⟨⟨_,_,_,_,_,rfl,rfl,ti30,(Le.of (by rw [if_neg (fun h=>by have:=h.2;simp only [numK] at this;omega)];rfl))⟩,⟨_,rfl,(Le.int (by rw [if_neg (fun h=>by have:=h.2;simp only [numK] at this;omega)]))⟩,trivial⟩
     ·
      refine A1 ?_
      exact kF (()) ⟨by simp only [numK];omega,hok⟩ (hh:=((SubK.consI rfl ImpK.refl) SubK.nil))
    ·
     refine A6 ?_
     refine RGon (decide_eq_false h156) rfl (xc7 (decide_eq_false h156_3)) rfl ⟨rfl,rfl,trivial⟩ trivial trivial ?_
     refine A5 ?_
     exact kF (()) ⟨by simp only [numK];omega,hok⟩ (hh:=((SubK.consI rfl ImpK.refl) SubK.nil))
   ·
    refine A6 ?_
    refine RGon (decide_eq_false h156) rfl (xc7 (decide_eq_false h156_2)) rfl ⟨rfl,rfl,trivial⟩ trivial trivial ?_
    refine A7 ?_
    refine RGon (decide_eq_false h156) rfl (xc7 rfl) rfl ⟨rfl,rfl,trivial⟩ trivial trivial ?_
    refine A5 ?_
    exact kF (()) ⟨by simp only [numK];omega,hok⟩ (hh:=((SubK.consI rfl ImpK.refl) SubK.nil))
 ·
  intro _j hnk
  refine A2 ?_
  refine R1 (x3 (xv2 0 (by decide) (by decide)) fi76 rfl) rfl (RE (x9 (k:=10) (n:=4) (agg:=true) zr30.1 zr30.2 rfl) trivial trivial ⟨rfl,trivial⟩ ?_)
  refine A10 ?_
  have hok:=hnk.2
  have hc:sumC l a b:=⟨hok,hnk.1⟩
  have hnum:=cut_num (a:=a) (b:=b) hok.1 hD hc.2
  rw [if_pos hok,cut_R hok.1] at hpart
  rw [←hpart] at hnum
  refine xj2 (s:=8) rfl (fun hl0=> ?_)
  refine cL (fun (fm:(Nat)×(Rat))=>(fun (i:Nat) (q:Rat)=>i≤part.length∧sumT (part.take i)=some q∧short q) fm.1 fm.2) (fun (fm:(Nat)×(Rat))=>(fun (i:Nat) (q:Rat)=>upd (upd (upd (upd (fun _=>none) 6 (some (.own (.ptr 6 0)))) 8 (some (.val (tL 8 true tTs part)))) 10 (some (.own (.ptr 10 0)))) 11 (some (.val (tI i)))) fm.1 fm.2) (fun (fm:(Nat)×(Rat))=>(fun (i:Nat) (q:Rat)=>upd (upd (fun _=>none) 6 (some (⟨30,4,true,[.val (tFr fr0)]⟩))) 10 (some (⟨30,4,true,[.val (tFr (fr q))]⟩))) fm.1 fm.2) [6,10] (fun (fm:(Nat)×(Rat))=>(fun (i:Nat) (q:Rat)=>part.length - i) fm.1 fm.2) ((0,((0:Int):Rat))) (by dsimp only;exact ⟨Nat.zero_le _,rfl,xh6 (Nat.le_trans (len16_64 (by decide) (by decide)) (by decide))⟩) (hh:=((SubK.consI rfl ImpK.refl) ((SubK.consI rfl ImpK.refl) SubK.nil))) ?_
  intro fm hI
  obtain ⟨i,q⟩:=fm
  replace hI:i≤part.length∧sumT (part.take i)=some q∧short q:=hI
  show wc _ _ _ _ (upd (upd (upd (upd (fun _=>none) 6 (some (.own (.ptr 6 0)))) 8 (some (.val (tL 8 true tTs part)))) 10 (some (.own (.ptr 10 0)))) 11 (some (.val (tI i)))) (upd (upd (fun _=>none) 6 (some (⟨30,4,true,[.val (tFr fr0)]⟩))) 10 (some (⟨30,4,true,[.val (tFr (fr q))]⟩))) _
  obtain ⟨hi,hq,hsq⟩:=hI
  refine A9 ?_
  refine x8 rfl (fun h160=> ?_) (fun h160=> ?_)
  ·
   refine A8 ?_
   obtain ⟨n1,n2,n3,n4,n5⟩:=hnum _ (xd5 (l:=part) (i:=i) (by omega))
   refine R2 (x6 sl22 (i) (by omega) (gD (l:=part) (n:=i) (d:=tst0) (by omega))) rfl rfl (R1 (xb5 fo34_2.h (At.f 2 rfl rfl) rfl) rfl (R1 (xb5 fo32_1.h (At.f 1 rfl rfl) rfl) rfl ?_))
   refine A3 ?_
   refine R2 (x6 sl22 (i) (by omega) (gD (l:=part) (n:=i) (d:=tst0) (by omega))) rfl rfl (R1 (xb5 fo34_1.h (At.f 1 rfl rfl) rfl) rfl ?_)
   refine A3 ?_
   refine R2 (x6 sl22 (i) (by omega) (gD (l:=part) (n:=i) (d:=tst0) (by omega))) rfl rfl (R1 (xb5 fo34_0.h (At.f 0 rfl rfl) rfl) rfl ?_)
   refine A2 ?_
   refine R1 (x3 (xv2 ((part.getD i tst0).hi - (part.getD i tst0).lo) (by omega) (by omega)) fi76 rfl) rfl (R2 (x3 (c_R2MulT (part.getD i tst0).v.f ((part.getD i tst0).hi - (part.getD i tst0).lo) n4 n5 (xh6 (Nat.le_trans (len16_64 (by omega) (by omega)) (by decide)))) fi69 rfl) rfl rfl ?_)
   refine A3 ?_
   refine RE (x9 (k:=12) (n:=4) (agg:=true) zr30.1 zr30.2 rfl) trivial trivial ⟨rfl,trivial⟩ ?_
   refine A11 ?_
   refine x8 rfl (fun h162=> ?_) (fun h162=> ?_)
   ·
    refine A2 ?_
    refine R0 (xb8 (r:=tS [⟨2,true,(tS [⟨1,false,(tE (.bool false))⟩,⟨1,false,(tLm [])⟩])⟩,⟨2,true,(tS [⟨1,false,(tE (.bool false))⟩,⟨1,false,(tLm [])⟩])⟩]) (ts:=[]) bu30 zr30.2 Le.refl) ?_
    refine A12 ?_
    exact xb9 Plain.mk' (rs:=[.cell 6 30,.tmp 7]) rfl rfl ⟨⟨_,_,_,_,_,rfl,rfl,ti30,(Le.of (by rw [if_pos hc,←hpart,xk9 (i:=i+1) (by rw [xi2 (by omega),hq,sumStep,if_neg (fun h=>xe0 h162 h.1)])];rfl))⟩,⟨_,rfl,(Le.int (by rw [if_pos hc,←hpart,xk9 (i:=i+1) (by rw [xi2 (by omega),hq,sumStep,if_neg (fun h=>xe0 h162 h.1)]),resFE,if_neg (xe0 h162)];rfl))⟩,trivial⟩
   ·
    have hp:=xh0 (Decidable.not_not.1 h162)
    refine A6 ?_
    refine R2 (x3 (c_R2AddR q ((part.getD i tst0).v.f.rat*(((part.getD i tst0).hi - (part.getD i tst0).lo:Int):Rat)) hsq hp) fi132 rfl) rfl rfl ?_
    refine A13 ?_
    refine x8 rfl (fun h166=> ?_) (fun h166=> ?_)
    ·
     refine A2 ?_
     refine R0 (xb8 (r:=tS [⟨2,true,(tS [⟨1,false,(tE (.bool false))⟩,⟨1,false,(tLm [])⟩])⟩,⟨2,true,(tS [⟨1,false,(tE (.bool false))⟩,⟨1,false,(tLm [])⟩])⟩]) (ts:=[]) bu30 zr30.2 Le.refl) ?_
     refine A11 ?_
     exact xb9 Plain.mk' (rs:=[.cell 6 30,.tmp 7]) rfl rfl ⟨⟨_,_,_,_,_,rfl,rfl,ti30,(Le.of (by rw [if_pos hc,←hpart,xk9 (i:=i+1) (by rw [xi2 (by omega),hq,sumStep,if_neg (fun h=>xe0 h166 h.2)])];rfl))⟩,⟨_,rfl,(Le.int (by rw [if_pos hc,←hpart,xk9 (i:=i+1) (by rw [xi2 (by omega),hq,sumStep,if_neg (fun h=>xe0 h166 h.2)]),resFE,if_neg (xe0 h166)];rfl))⟩,trivial⟩
    ·
     have h166z:=Decidable.not_not.1 h166
     refine A8 ?_
     exact kF ((i+1,q+((part.getD i tst0).v.f.rat*(((part.getD i tst0).hi - (part.getD i tst0).lo:Int):Rat)))) ⟨(by dsimp only;exact ⟨by omega,by rw [xi2 (by omega),hq,sumStep,if_pos ⟨hp,xh0 h166z⟩],xh0 h166z⟩),(by dsimp only;omega)⟩ (hh:=((SubK.consI rfl (ImpK.of (by dsimp only;rw [resF,if_pos (xh0 h166z)];rfl))) ((SubK.consI rfl ImpK.refl) SubK.nil)))
  ·
   refine A13 ?_
   exact xb9 Plain.mk' (rs:=[.cell 6 30,.tmp 7]) rfl rfl ⟨⟨_,_,_,_,_,rfl,rfl,ti30,(Le.of (by rw [if_pos hc,←hpart,←List.take_length (l:=part),←show i=part.length by omega,hq];rfl))⟩,⟨_,rfl,(Le.int (by rw [if_pos hc,←hpart,←List.take_length (l:=part),←show i=part.length by omega,hq];rfl))⟩,trivial⟩
theorem c_SameFracT (x:Fr):Ct Tryz.prog 30 [tFr x,tFr x] (tB true):=by
 have:=xw9 x x
 rw [decide_eq_true rfl] at this;exact this
instance fi33:FnI Tryz.prog 33:=⟨_,Tryz.func33,by kernel_rfl,rfl⟩
instance fi36:FnI Tryz.prog 36:=⟨_,Tryz.func36,by kernel_rfl,rfl⟩
instance fi47:FnI Tryz.prog 47:=⟨_,Tryz.func47,by kernel_rfl,rfl⟩
instance fi68:FnI Tryz.prog 68:=⟨_,Tryz.func68,by kernel_rfl,rfl⟩
instance fi70:FnI Tryz.prog 70:=⟨_,Tryz.func70,by kernel_rfl,rfl⟩
instance fi72:FnI Tryz.prog 72:=⟨_,Tryz.func72,by kernel_rfl,rfl⟩
instance fi141:FnI Tryz.prog 141:=⟨_,Tryz.func141,by kernel_rfl,rfl⟩
theorem c_R2OrderV (f g:Fr) (hf:f.dig) (hg:g.dig) (vf:f.valid=true) (vg:g.valid=true):Ct Tryz.prog 141 [tFr f,tFr g] (tI (cmpQ f.rat g.rat)):=by
 obtain ⟨e1,s1⟩:=Fr.of_valid' hf vf
 obtain ⟨e2,s2⟩:=Fr.of_valid' hg vg
 have h:=c_R2Order f.rat g.rat s1 s2
 rw [←e1,←e2] at h;exact h
def cmpV (f g:Fr):Int:=if f.valid=true∧g.valid=true then cmpQ f.rat g.rat else 0
theorem c_R2Cmp (f g:Fr) (hf:f.dig) (hg:g.dig):
  Ct Tryz.prog 72 [tFr f,tFr g] (tI (cmpV f g)):=by
 refine Ct.intro Tryz.func72 rfl Tryz.ntmps72 rfl ?_
 intro w F
 refine A11 ?_
 refine R1 (x3 (xq6 f hf.1 hf.2) fi71 rfl) rfl ?_
 refine A2 ?_
 refine RGcase (t:=8) rfl (fun h175=> ?_) (fun h175=> ?_)
 ·
  refine A14 ?_
  exact x4 Plain.mk' rfl rfl (Le.int (by rw [cmpV,if_neg (fun h=>by simp [h.1] at*)]))
 ·
  have vf:f.valid=true:=by simpa using h175
  refine A1 ?_
  refine RGon h175 rfl (x3 (xq6 g hg.1 hg.2) fi71 rfl) rfl ⟨rfl,trivial⟩ trivial trivial ?_
  refine A4 ?_
  refine xd4 rfl (fun h175_2=> ?_) (fun h175_2=> ?_)
  ·
   refine A7 ?_
   exact x4 Plain.mk' rfl rfl (Le.int (by rw [cmpV,if_neg (fun h=>by simp [h.1,h.2] at*)]))
  ·
   refine A6 ?_
   refine R2 (x3 (c_R2OrderV f g hf hg vf (by simpa using h175_2)) fi141 rfl) rfl rfl ?_
   refine A4 ?_
   exact x4 Plain.mk' rfl rfl (Le.int (by rw [cmpV,if_pos ⟨vf,by simpa using h175_2⟩]))
theorem c_R2Cmp1 (f:Fr) (hf:f.dig):Ct Tryz.prog 72 [tFr f,tFr (fr ((1:Int):Rat))] (tI (if f.valid=true then cmpQ f.rat 1 else 0)):=by
 have h:=c_R2Cmp f (fr ((1:Int):Rat)) hf ⟨xc6 xa0 _,xc6 xa0 _⟩
 have e:cmpV f (fr ((1:Int):Rat))=if f.valid=true then cmpQ f.rat 1 else 0:=by
  rw [cmpV,rat_fr]
  by_cases hv:f.valid=true
  ·rw [if_pos ⟨hv,valid_fr short_one⟩,if_pos hv];rfl
  ·rw [if_neg (fun h=>hv h.1),if_neg hv]
 rw [e] at h;exact h
theorem c_R2CmpE {x:Fr} {q:Rat} (hx:x=fr q) (hq:short q) (f:Fr) (hF:f.dig) (hv:f.valid=true):Ct Tryz.prog 72 [tFr x,tFr f] (tI (cmpQ q f.rat)):=by
 have h:=c_R2Cmp (fr q) f ⟨xc6 xa0 _,xc6 xa0 _⟩ hF
 rw [cmpV,if_pos ⟨valid_fr hq,hv⟩,rat_fr,←hx] at h;exact h
def r8 (s:Tst):Prop:=s.v.kind=2∧s.v.f.n.neg=false∧ ¬0 < (if s.v.f.valid=true then cmpQ s.v.f.rat 1 else 0)
theorem sRight_R {l:List Tst} (h: ∀i,i < l.length→r8 (l.getD i tst0)):tRight l=sRight l:=by
 cases hr:tRight l with
 | false=>rw [sRight,hr];rfl
 | true=>
  rw [sRight,hr,Bool.true_and]
  refine (List.all_eq_true.2 fun s hs=> ?_).symm
  obtain ⟨i,hi,rfl⟩:=xn8 hs
  obtain ⟨h1,h2,h3⟩:=h i hi
  have hv:=num_valid (xr0 hr _ hs) h1
  rw [if_pos hv,xj3] at h3
  simp only [sOk,h1,h2,Decidable.not_not.1 h3,decide_true,Bool.not_false,Bool.and_self]
theorem sRight_no {l:List Tst} {i:Nat} (hi:i < l.length) (h:sOk (l.getD i tst0)=false):false=sRight l:=by
 cases hr:sRight l with
 | false=>rfl
 | true=>
  simp only [sRight,Bool.and_eq_true,List.all_eq_true] at hr
  rw [hr.2 _ (xd5 hi)] at h;cases h
theorem sOk_cmp {s:Tst} (h:0 < (if s.v.f.valid=true then cmpQ s.v.f.rat 1 else 0)):sOk s=false:=by
 split at h
 ·rw [xj3] at h
  simp [sOk,h]
 ·omega
theorem c_R8Right (l:List Tst) (hl:l.length≤500000) (hD: ∀s∈l,s.v.f.dig) (hs: ∀s∈l,s.v.f.n.l.length≤1048576∧s.v.f.d.l.length≤1048576):
  Ct Tryz.prog 36 [tL 8 true tTs l] (tB (sRight l)):=by
 refine Ct.intro Tryz.func36 rfl Tryz.ntmps36 rfl ?_
 intro w F
 refine A12 ?_
 refine cL (fun (i:Nat)=>i≤l.length∧ ∀j,j < i→r8 (l.getD j tst0)) (fun (i:Nat)=>upd (upd (fun _=>none) 0 (some (.val (tL 8 true tTs l)))) 3 (some (.val (tI i)))) (fun (i:Nat)=>fun _=>none) [] (fun (i:Nat)=>l.length - i) (0) ⟨Nat.zero_le _,fun j hj=>by omega⟩ ?_
 intro i hI
 obtain ⟨hi,hok⟩:=hI
 refine A9 ?_
 refine x8 rfl (fun h16=> ?_) (fun h16=> ?_)
 ·
  refine A8 ?_
  refine R2 (x6 sl22 (i) (by omega) (gD (l:=l) (n:=i) (d:=tst0) (by omega))) rfl rfl (R1 (xb5 fo34_2.h (At.f 2 rfl rfl) rfl) rfl (R1 (xb5 fo32_0.h (At.f 0 rfl rfl) rfl) rfl ?_))
  refine A3 ?_
  refine RGcaseD (t:=17) rfl (fun h17=> ?_) (fun h17=> ?_)
  ·
   refine A18 ?_
   refine A16 ?_
   exact x4 Plain.mk' rfl rfl (Le.bool (sRight_no (i:=i) (by omega) (by rw [sOk,decide_eq_false (by omega)];rfl)))
  ·
   refine A2 ?_
   refine RGon (decide_eq_false h17) rfl (x6 sl22 (i) (by omega) (gD (l:=l) (n:=i) (d:=tst0) (by omega))) rfl ⟨rfl,rfl,trivial⟩ trivial trivial (RGon (decide_eq_false h17) rfl (xb5 fo34_2.h (At.f 2 rfl rfl) rfl) rfl ⟨rfl,trivial⟩ trivial trivial (RGon (decide_eq_false h17) rfl (xb5 fo32_1.h (At.f 1 rfl rfl) rfl) rfl ⟨rfl,trivial⟩ trivial trivial (RGon (decide_eq_false h17) rfl (xb5 fo30_0.h (At.f 0 rfl rfl) rfl) rfl ⟨rfl,trivial⟩ trivial trivial (RGon (decide_eq_false h17) rfl (xb5 fo28_0.h (At.f 0 rfl rfl) rfl) rfl ⟨rfl,trivial⟩ trivial trivial ?_))))
   refine A3 ?_
   refine RGcase (t:=27) rfl (fun h17_2=> ?_) (fun h17_2=> ?_)
   ·
    refine A18 ?_
    refine A6 ?_
    exact x4 Plain.mk' rfl rfl (Le.bool (sRight_no (i:=i) (by omega) (by rw [sOk,h17_2];simp)))
   ·
    refine A2 ?_
    refine RGon h17_2 rfl (x6 sl22 (i) (by omega) (gD (l:=l) (n:=i) (d:=tst0) (by omega))) rfl ⟨rfl,rfl,trivial⟩ trivial trivial (RGon h17_2 rfl (xb5 fo34_2.h (At.f 2 rfl rfl) rfl) rfl ⟨rfl,trivial⟩ trivial trivial (RGon h17_2 rfl (xb5 fo32_1.h (At.f 1 rfl rfl) rfl) rfl ⟨rfl,trivial⟩ trivial trivial ?_))
    refine A1 ?_
    refine RGon h17_2 rfl (x3 (xv2 1 (by decide) (by decide)) fi76 rfl) rfl ⟨rfl,trivial⟩ trivial trivial (RGon h17_2 rfl (x3 (c_R2Cmp1 _ (hD _ (xd5 (l:=l) (i:=i) (by omega)))) fi72 rfl) rfl ⟨rfl,rfl,trivial⟩ trivial trivial ?_)
    refine A4 ?_
    refine x8 rfl (fun h17_3=> ?_) (fun h17_3=> ?_)
    ·
     refine A11 ?_
     exact x4 Plain.mk' rfl rfl (Le.bool (sRight_no (i:=i) (by omega) (sOk_cmp h17_3)))
    ·
     refine A8 ?_
     exact K_fam (i+1) ⟨⟨by omega,fun j hj=>by
  by_cases hji:j=i
  ·subst hji;exact ⟨by omega,h17_2,h17_3⟩
  ·exact hok j (by omega)⟩,(by omega)⟩ (Sub.int rfl (by first | omega | rfl | (dsimp only;omega)) (Sub.cons rfl Sub.nil)) SubK.nil (SupG.val (SupG.val SupG.nil)) SupH.nil (lkOk rfl)
 ·
  refine A8 ?_
  refine R1 (x3 (c_R5Right l hl hD hs) fi77 rfl) rfl ?_
  refine A4 ?_
  exact x4 Plain.mk' rfl rfl (Le.bool (sRight_R fun j hj=>hok j (by omega)))
theorem c_R8may (l:List Tst) (hl:l.length≤500000) (a b:Int) (hD: ∀s∈l,s.v.f.dig) (hs: ∀s∈l,s.v.f.n.l.length≤1048576∧s.v.f.d.l.length≤1048576):
  Ct Tryz.prog 47 [tL 8 true tTs l,tI a,tI b] (tB (askB l a b)):=by
 refine Ct.intro Tryz.func47 rfl Tryz.ntmps47 rfl ?_
 intro w F
 refine A8 ?_
 refine R1 (x3 (c_R8Right l hl hD hs) fi36 rfl) rfl ?_
 refine A1 ?_
 refine RGcase (t:=9) rfl (fun h26=> ?_) (fun h26=> ?_)
 ·
  refine A4 ?_
  refine RGcaseD (t:=13) rfl (fun h26_2=> ?_) (fun h26_2=> ?_)
  ·
   refine A4 ?_
   refine RGcaseD (t:=17) rfl (fun h26_3=> ?_) (fun h26_3=> ?_)
   ·
    refine A4 ?_
    refine RGcaseD (t:=21) rfl (fun h26_4=> ?_) (fun h26_4=> ?_)
    ·
     refine A7 ?_
     exact x4 Plain.mk' rfl rfl (Le.bool (by simp only [askB];simp [*]))
    ·
     refine A7 ?_
     exact x4 Plain.mk' rfl rfl (Le.bool (by simp only [askB];simp [*]))
   ·
    refine A11 ?_
    exact x4 Plain.mk' rfl rfl (Le.bool (by simp only [askB];simp [*]))
  ·
   refine A15 ?_
   exact x4 Plain.mk' rfl rfl (Le.bool (by simp only [askB];simp [*]))
 ·
  refine A18 ?_
  refine A1 ?_
  exact x4 Plain.mk' rfl rfl (Le.bool (by simp only [askB];simp [*]))
theorem cutT_nil {l:List Tst} {a:Int}:cutT l a a=[]:=by
 rw [cutT]
 suffices h: ∀ps:List Tst,(∀s∈ps,s.hi≤s.lo)→pst [] ps=[] from h _ fun s hs=>by
  obtain ⟨x,_,rfl⟩:=List.mem_map.1 hs
  show min x.hi a≤max x.lo a;omega
 intro ps
 induction ps with
 | nil=>intro _;rfl
 | cons s r ih=>
  intro h
  show pst (pst1 [] s) r=[]
  rw [pst1,if_pos (h s (List.mem_cons_self ..))]
  exact ih fun x hx=>h x (List.mem_cons_of_mem _ hx)
theorem mulO_0:mulO ((0:Int):Rat) q4=some ((0:Int):Rat):=by
 have e:((0:Int):Rat)*q4=((0:Int):Rat):=Rat.zero_mul _
 rw [mulO,e,if_pos (xh6 (len16_small (by decide) (by decide)))]
theorem yq_max {l:List Tst} {a b:Int}:(sumT (cutT l a (max a b))).bind (fun q=>mulO q q4)=yq l a b:=by
 rw [yq]
 by_cases h:b≤a
 ·rw [if_pos h,show max a b=a by omega,cutT_nil]
  exact mulO_0
 ·rw [if_neg h,show max a b=b by omega]
theorem ask_max {l:List Tst} {a b:Int} (h:askB l a b=true):sumC l a (max a b):=by
 obtain ⟨h1,h2,h3,h4,h5⟩:=askB_iff.1 h
 simp only [sRight,Bool.and_eq_true,List.all_eq_true] at h1
 refine ⟨⟨h1.1,by simp [Sn.ok];omega⟩,?_⟩
 rcases Nat.eq_zero_or_pos l.length with h0 | h0
 ·exact .inl h0
 ·have:=h1.2 _ (xd5 (l:=l) h0)
  simp only [sOk,Bool.and_eq_true,decide_eq_true_eq] at this
  exact .inr (.inl this.1.1)
theorem c_R5SumOk (l:List Tst) (hl:l.length≤500000) (a b:Int) (hD: ∀s∈l,s.v.f.dig) (hs: ∀s∈l,s.v.f.n.l.length≤1048576∧s.v.f.d.l.length≤1048576) (h:sumC l a b):Ct Tryz.prog 68 [tL 8 true tTs l,tI a,tI b] (tT [tFr (sumF (sumT (cutT l a b))),tI (sumE (sumT (cutT l a b)))]):=by
 have:=c_R5Sum l hl a b hD hs
 rw [if_pos h,if_pos h] at this;exact this
theorem c_R2MulQ4 {o:Option Rat} {q:Rat} (ho:o=some q) (hq:short q):Ct Tryz.prog 69 [tFr (sumF o),tFr (fr (Rat.divInt 4 1461))] (tT [tFr (resF (q*q4)),tI (resFE (q*q4))]):=by
 have h:=c_R2Mul q q4 hq short_q4
 rw [ho]
 have e:Rat.divInt 4 1461=q4:=by decide+kernel
 rw [e];exact h
theorem c_R8Years (l:List Tst) (hl:l.length≤500000) (a b:Int) (hD: ∀s∈l,s.v.f.dig) (hs: ∀s∈l,s.v.f.n.l.length≤1048576∧s.v.f.d.l.length≤1048576):
  Ct Tryz.prog 33 [tL 8 true tTs l,tI a,tI b] (tT [tFr (if askB l a b=true then sumF (yq l a b) else fr0),tI (if askB l a b=true then sumE (yq l a b) else 2)]):=by
 refine Ct.intro Tryz.func33 rfl Tryz.ntmps33 rfl ?_
 intro w F
 refine A2 ?_
 refine RE (x9 (k:=6) (n:=4) (agg:=true) zr30.1 zr30.2 rfl) trivial trivial ⟨rfl,trivial⟩ ?_
 refine A9 ?_
 refine R3 (x3 (c_R8may l hl a b hD hs) fi47 rfl) rfl rfl rfl ?_
 refine A3 ?_
 refine xd4 rfl (fun h31=> ?_) (fun h31=> ?_)
 ·
  have hk: ¬askB l a b=true:=by simpa using h31
  refine A2 ?_
  refine R0 (xb8 (r:=tS [⟨2,true,(tS [⟨1,false,(tE (.bool false))⟩,⟨1,false,(tLm [])⟩])⟩,⟨2,true,(tS [⟨1,false,(tE (.bool false))⟩,⟨1,false,(tLm [])⟩])⟩]) (ts:=[]) bu30 zr30.2 Le.refl) ?_
  refine A6 ?_
  exact xb9 Plain.mk' (rs:=[.cell 6 30,.tmp 7]) rfl rfl ⟨⟨_,_,_,_,_,rfl,rfl,ti30,(Le.of (by rw [if_neg hk];rfl))⟩,⟨_,rfl,(Le.int (by rw [if_neg hk]))⟩,trivial⟩
 ·
  have hk:askB l a b=true:=by simpa using h31
  refine A2 ?_
  refine xg9 (fun (_j:Unit)=>True) (fun (_j:Unit)=>upd (upd (upd (upd (upd (fun _=>none) 0 (some (.val (tL 8 true tTs l)))) 1 (some (.val (tI a)))) 2 (some (.val (tI (max a b))))) 6 (some (.own (.ptr 6 0)))) 7 (some (.val (tI 0)))) (fun (_j:Unit)=>upd (fun _=>none) 6 (some (⟨30,4,true,[.val (tFr fr0)]⟩))) (nm [6]) ?_ ?_
  ·
   refine A7 ?_
   refine x8 rfl (fun h34=> ?_) (fun h34=> ?_)
   ·
    refine A4 ?_
    exact kF (()) trivial (hh:=((SubK.consI rfl ImpK.refl) SubK.nil))
   ·
    refine A1 ?_
    exact kF (()) trivial (hh:=((SubK.consI rfl ImpK.refl) SubK.nil))
  ·
   intro _j hj34
   refine A5 ?_
   refine R3 (x3 (c_R5SumOk l hl a (max a b) hD hs (ask_max hk)) fi68 rfl) rfl rfl rfl ?_
   refine A3 ?_
   refine RE (x9 (k:=8) (n:=4) (agg:=true) zr30.1 zr30.2 rfl) trivial trivial ⟨rfl,trivial⟩ ?_
   refine A11 ?_
   refine x8 rfl (fun h38=> ?_) (fun h38=> ?_)
   ·
    refine A2 ?_
    refine R0 (xb8 (r:=tS [⟨2,true,(tS [⟨1,false,(tE (.bool false))⟩,⟨1,false,(tLm [])⟩])⟩,⟨2,true,(tS [⟨1,false,(tE (.bool false))⟩,⟨1,false,(tLm [])⟩])⟩]) (ts:=[]) bu30 zr30.2 Le.refl) ?_
    refine A7 ?_
    exact xb9 Plain.mk' (rs:=[.cell 6 30,.tmp 7]) rfl rfl ⟨⟨_,_,_,_,_,rfl,rfl,ti30,(Le.of (by rw [if_pos hk,←yq_max];cases hsm:sumT (cutT l a (max a b)) with | none=>rfl | some q=>rw [hsm] at h38;exact absurd rfl h38))⟩,⟨_,rfl,(Le.int (by rw [if_pos hk,←yq_max];cases hsm:sumT (cutT l a (max a b)) with | none=>rfl | some q=>rw [hsm] at h38;exact absurd rfl h38))⟩,trivial⟩
   ·
    obtain ⟨q,hq,hqs⟩:=xz3 (fun q h=>sumT_short h) (Decidable.not_not.1 h38)
    refine A5 ?_
    refine R2 (x3 (c_RQuick 4 1461 (by decide) (by decide) (by decide) (by decide) (by decide)) fi70 rfl) rfl rfl (R2 (x3 (c_R2MulQ4 hq hqs) fi69 rfl) rfl rfl ?_)
    refine A7 ?_
    exact xb9 Plain.mk' (rs:=[.cell 6 30,.tmp 7]) rfl rfl ⟨⟨_,_,_,_,_,rfl,rfl,ti30,(Le.of (by rw [if_pos hk,←yq_max,hq,resF_mulO];rfl))⟩,⟨_,rfl,(Le.int (by rw [if_pos hk,←yq_max,hq,resFE_mulO];rfl))⟩,trivial⟩
theorem c_R8Capped (l:List Tst) (hl:l.length≤500000) (a b:Int) (hD: ∀s∈l,s.v.f.dig) (hs: ∀s∈l,s.v.f.n.l.length≤1048576∧s.v.f.d.l.length≤1048576) (f:Fr) (hF:f.dig):
  Ct Tryz.prog 34 [tL 8 true tTs l,tI a,tI b,tFr f] (tT [tFr (if capC l a b f then sumF (capO l a b f) else fr0),tI (if capC l a b f then sumE (capO l a b f) else 2)]):=by
 refine Ct.intro Tryz.func34 rfl Tryz.ntmps34 rfl ?_
 intro w F
 refine A3 ?_
 refine RE (x9 (k:=8) (n:=4) (agg:=true) zr30.1 zr30.2 rfl) trivial trivial ⟨rfl,trivial⟩ ?_
 refine A9 ?_
 refine R3 (x3 (c_R8may l hl a b hD hs) fi47 rfl) rfl rfl rfl ?_
 refine A2 ?_
 refine RGcase (t:=17) rfl (fun h46=> ?_) (fun h46=> ?_)
 ·
  refine A14 ?_
  refine R0 (xb8 (r:=tS [⟨2,true,(tS [⟨1,false,(tE (.bool false))⟩,⟨1,false,(tLm [])⟩])⟩,⟨2,true,(tS [⟨1,false,(tE (.bool false))⟩,⟨1,false,(tLm [])⟩])⟩]) (ts:=[]) bu30 zr30.2 Le.refl) ?_
  refine A6 ?_
  exact xb9 Plain.mk' (rs:=[.cell 8 30,.tmp 9]) rfl rfl ⟨⟨_,_,_,_,_,rfl,rfl,ti30,(Le.of (by rw [if_neg (fun h:capC l a b f=>by simp [h.2] at*)];rfl))⟩,⟨_,rfl,(Le.int (by rw [if_neg (fun h:capC l a b f=>by simp [h.2] at*)]))⟩,trivial⟩
 ·
  have hk0:askB l a b=true:=by simpa using h46
  refine A1 ?_
  refine RGon h46 rfl (x3 (xq6 f hF.1 hF.2) fi71 rfl) rfl ⟨rfl,trivial⟩ trivial trivial ?_
  refine A3 ?_
  refine RGcase (t:=22) rfl (fun h46_2=> ?_) (fun h46_2=> ?_)
  ·
   refine A9 ?_
   refine R0 (xb8 (r:=tS [⟨2,true,(tS [⟨1,false,(tE (.bool false))⟩,⟨1,false,(tLm [])⟩])⟩,⟨2,true,(tS [⟨1,false,(tE (.bool false))⟩,⟨1,false,(tLm [])⟩])⟩]) (ts:=[]) bu30 zr30.2 Le.refl) ?_
   refine A6 ?_
   exact xb9 Plain.mk' (rs:=[.cell 8 30,.tmp 9]) rfl rfl ⟨⟨_,_,_,_,_,rfl,rfl,ti30,(Le.of (by rw [if_neg (fun h:capC l a b f=>by simp [h.1.1,h.2] at*)];rfl))⟩,⟨_,rfl,(Le.int (by rw [if_neg (fun h:capC l a b f=>by simp [h.1.1,h.2] at*)]))⟩,trivial⟩
  ·
   refine A2 ?_
   refine xd0 h46_2 rfl rfl (0) ti4 rfl rfl rfl (At.t (At.g 0 rfl rfl) (At.g 0 rfl rfl)) rfl ?_
   refine A3 ?_
   refine xd4 rfl (fun h46_3=> ?_) (fun h46_3=> ?_)
   ·
    refine A2 ?_
    refine R0 (xb8 (r:=tS [⟨2,true,(tS [⟨1,false,(tE (.bool false))⟩,⟨1,false,(tLm [])⟩])⟩,⟨2,true,(tS [⟨1,false,(tE (.bool false))⟩,⟨1,false,(tLm [])⟩])⟩]) (ts:=[]) bu30 zr30.2 Le.refl) ?_
    refine A6 ?_
    exact xb9 Plain.mk' (rs:=[.cell 8 30,.tmp 9]) rfl rfl ⟨⟨_,_,_,_,_,rfl,rfl,ti30,(Le.of (by rw [if_neg (fun h:capC l a b f=>by simp [h.1.1,h.1.2,h.2] at*)];rfl))⟩,⟨_,rfl,(Le.int (by rw [if_neg (fun h:capC l a b f=>by simp [h.1.1,h.1.2,h.2] at*)]))⟩,trivial⟩
   ·
    have hv2:f.valid=true∧f.n.neg=false:=⟨by simpa using h46_2,h46_3⟩
    have hf:=Fr.of_valid' hF hv2.1
    refine A7 ?_
    refine R3 (x3 (c_R8Years l hl a b hD hs) fi33 rfl) rfl rfl rfl ?_
    refine A3 ?_
    refine RE (x9 (k:=10) (n:=4) (agg:=true) zr30.1 zr30.2 rfl) trivial trivial ⟨rfl,trivial⟩ ?_
    refine A10 ?_
    refine RGcaseD (t:=37) rfl (fun h50=> ?_) (fun h50=> ?_)
    ·
     obtain ⟨hk,q,hq,hqs⟩:=yr_ok (l:=l) (a:=a) (b:=b) (by assumption)
     have hc:capC l a b f:=⟨hv2,hk⟩
     refine A2 ?_
     refine RGon (decide_eq_true h50) rfl (x3 (c_R2CmpE (x:=if askB l a b=true then sumF (yq l a b) else fr0) (q:=q) (by rw [if_pos hk,hq];rfl) hqs f hF hv2.1) fi72 rfl) rfl ⟨rfl,rfl,trivial⟩ trivial trivial ?_
     refine A4 ?_
     refine x8 rfl (fun h50_2=> ?_) (fun h50_2=> ?_)
     ·
      refine A9 ?_
      exact xb9 Plain.mk' (rs:=[.cell 8 30,.tmp 9]) rfl rfl ⟨⟨_,_,_,_,_,rfl,rfl,ti30,(Le.of (by rw [if_pos hc,capO,hq,Option.map_some,if_neg (xj3.1 (by assumption))];exact congrArg tFr hf.1))⟩,⟨_,rfl,(Le.int (by rw [if_pos hc,capO,hq];rfl))⟩,trivial⟩
     ·
      refine A11 ?_
      exact xb9 Plain.mk' (rs:=[.cell 8 30,.tmp 9]) rfl rfl ⟨⟨_,_,_,_,_,rfl,rfl,ti30,(Le.of (by rw [if_pos hc,capO,hq,if_pos hk,Option.map_some,if_pos (Decidable.byContradiction fun h=>absurd (xj3.2 h) (by omega))]))⟩,⟨_,rfl,(Le.int (by rw [if_pos hc,capO,hq,if_pos hk];rfl))⟩,trivial⟩
    ·
     refine A18 ?_
     refine A1 ?_
     exact xb9 Plain.mk' (rs:=[.cell 8 30,.tmp 9]) rfl rfl ⟨⟨_,_,_,_,_,rfl,rfl,ti30,(Le.of (by rw [(cap_bad hv2 (by assumption)).1];cases hy:yq l a b with | none=>split <;> rfl | some q=>exact absurd (show (if askB l a b=true then sumE (yq l a b) else 2)=0 by rw [if_pos hk0,hy];rfl) (by assumption)))⟩,⟨_,rfl,(Le.int (cap_bad hv2 (by assumption)).2)⟩,trivial⟩
end An.S
namespace An.S
open Go
theorem wkS_asc {l:List Tst} {a b:Int} (h:tRight l=true) (h0:0≤a) (h1:b≤65536) (hab:a < b):ascS (wkS l a b):=by
 refine ⟨fun s hs=> ?_,?_⟩
 ·obtain ⟨x,hx,rfl⟩:=List.mem_map.1 hs
  obtain ⟨hm,hi⟩:=List.mem_filter.1 hx
  obtain ⟨i,hi2,rfl⟩:=xn8 hm
  have h3:=xm4 h hi2
  have h4: ¬_:=fun h'=>by rw [idle_iff.2 h'] at hi;cases hi
  simp only [okS,clipS]
  omega
 ·refine (((tRight_pair h).filter _).map (S:=fun s t=>s.hi≤t.lo) (clipS a b) fun s t hst=> ?_)
  simp only [clipS];omega
theorem wkd_eq {l:List Tst} {a b:Int} (h:tRight l=true) (h0:0≤a) (h1:b≤65536):wkd l a b=if b≤a then [] else mrg (wkS l a b):=by
 rw [wkd];split
 ·rfl
 ·rename_i hab
  have ha:=wkS_asc h h0 h1 (by omega)
  rw [if_pos (ascS_ok ha),mkS,ascS_pos ha,ascS_srt ha]
theorem wkd_set {l:List Tst} {a b:Int} (h:tRight l=true) (h0:0≤a) (h1:b≤65536):sVal (wkd l a b)=true∧dayS (wkd l a b)=if b≤a then 0 else dayS (wkS l a b):=by
 rw [wkd_eq h h0 h1]
 split
 ·exact ⟨rfl,rfl⟩
 ·rename_i hab
  have:=mrg_asc (wkS l a b) [] (wkS_asc h h0 h1 (by omega)) rfl fun h'=>by cases h'
  exact ⟨this.1,by rw [mrg,this.2];simp [dayS]⟩
end An.S
namespace An.S
open Go Go.Proofs An
instance fi10:FnI Tryz.prog 10:=⟨_,Tryz.func10,by kernel_rfl,rfl⟩
instance fi17:FnI Tryz.prog 17:=⟨_,Tryz.func17,by kernel_rfl,rfl⟩
instance fi18:FnI Tryz.prog 18:=⟨_,Tryz.func18,by kernel_rfl,rfl⟩
instance fi19:FnI Tryz.prog 19:=⟨_,Tryz.func19,by kernel_rfl,rfl⟩
instance fi24:FnI Tryz.prog 24:=⟨_,Tryz.func24,by kernel_rfl,rfl⟩
instance fi26:FnI Tryz.prog 26:=⟨_,Tryz.func26,by kernel_rfl,rfl⟩
instance fi28:FnI Tryz.prog 28:=⟨_,Tryz.func28,by kernel_rfl,rfl⟩
instance fi29:FnI Tryz.prog 29:=⟨_,Tryz.func29,by kernel_rfl,rfl⟩
instance fi31:FnI Tryz.prog 31:=⟨_,Tryz.func31,by kernel_rfl,rfl⟩
theorem dig_fr (q:Rat):(fr q).dig:=⟨xc6 xa0 _,xc6 xa0 _⟩
def exL:List Tst:=[(⟨0,100,⟨2,fr (kfr 1 1),0⟩⟩:Tst),(⟨100,150,⟨2,fr (kfr 1 2),0⟩⟩:Tst),(⟨160,200,⟨2,fr (kfr 0 1),0⟩⟩:Tst),(⟨200,300,⟨2,fr (kfr 1 4),0⟩⟩:Tst)]
theorem exD: ∀s∈exL,s.v.f.dig:=fun s hs=>by
 simp only [exL,List.mem_cons,List.not_mem_nil,or_false] at hs
 rcases hs with rfl | rfl | rfl | rfl <;> exact dig_fr _
theorem c_example:
  Ct Tryz.prog 26 [] (tL 8 true tTs exL):=by
 refine Ct.intro Tryz.func26 rfl Tryz.ntmps26 rfl ?_
 intro w F
 refine A7 ?_
 refine RE (x3 (xn9 0 100 1 1 (by decide) (by decide) (by decide) (by decide)) fi10 rfl) ⟨rfl,rfl,rfl,rfl,trivial⟩ trivial trivial (RE (x3 (xn9 100 150 1 2 (by decide) (by decide) (by decide) (by decide)) fi10 rfl) ⟨rfl,rfl,rfl,rfl,trivial⟩ trivial trivial (RE (x3 (xn9 160 200 0 1 (by decide) (by decide) (by decide) (by decide)) fi10 rfl) ⟨rfl,rfl,rfl,rfl,trivial⟩ trivial trivial (RE (x3 (xn9 200 300 1 4 (by decide) (by decide) (by decide) (by decide)) fi10 rfl) ⟨rfl,rfl,rfl,rfl,trivial⟩ trivial trivial (RE (xd2 (n:=4) (f:=tTs) [(⟨0,100,⟨2,fr (kfr 1 1),0⟩⟩:Tst),(⟨100,150,⟨2,fr (kfr 1 2),0⟩⟩:Tst),(⟨160,200,⟨2,fr (kfr 0 1),0⟩⟩:Tst),(⟨200,300,⟨2,fr (kfr 1 4),0⟩⟩:Tst)] Tryz.underlying22 el34 zf34 rfl (fun _=>inferInstance) rfl rfl rfl) ⟨rfl,rfl,rfl,rfl,trivial⟩ trivial trivial ?_))))
 refine A4 ?_
 exact x4 Plain.mk' rfl rfl Le.refl
theorem c_YearsV (l:List Tst) (a b:Int) (q:Rat) (hl:l.length≤500000) (hD: ∀s∈l,s.v.f.dig) (hk:askB l a b=true) (hy:yq l a b=some q):Ct Tryz.prog 27 [tL 8 true tTs l,tI a,tI b] (tT [tFr (fr q),tI 0]):=by
 have h:=c_Years l a b hl hD
 rw [if_pos hk,if_pos hk,hy] at h;exact h
theorem c_CappedV (l:List Tst) (a b:Int) (f:Fr) (q:Rat) (hl:l.length≤500000) (hD: ∀s∈l,s.v.f.dig) (hF:f.dig) (hk:capC l a b f) (hy:capO l a b f=some q):Ct Tryz.prog 28 [tL 8 true tTs l,tI a,tI b,tFr f] (tT [tFr (fr q),tI 0]):=by
 have h:=c_Capped l a b f hl hD hF
 rw [if_pos hk,if_pos hk,hy] at h;exact h
theorem c_MonthsV (f:Fr) (n:Int) (hF:f.dig) (hc:moC f) (hn:(m12 f).floor=n):Ct Tryz.prog 29 [tFr f] (tT [tI n,tI 0]):=by
 have h:=c_Months f hF
 rw [if_pos hc,if_pos hc.1,if_pos hc,hn] at h;exact h
theorem c_WorkedV (l:List Tst) (a b:Int) (w:List Sn) (hl:l.length≤500000) (hD: ∀s∈l,s.v.f.dig) (hk:askB l a b=true) (hw:wkd l a b=w):Ct Tryz.prog 17 [tL 8 true tTs l,tI a,tI b] (tT [tL 2 true tSn w,tI 0]):=by
 have h:=c_Worked l a b hl hD
 rw [if_pos hk,if_pos hk,hw] at h;exact h
theorem c_BreaksV (l:List Tst) (a b:Int) (w:List Sn) (hl:l.length≤500000) (hD: ∀s∈l,s.v.f.dig) (hk:askB l a b=true) (hw:brk (wkd l a b)=w):Ct Tryz.prog 18 [tL 8 true tTs l,tI a,tI b] (tT [tL 2 true tSn w,tI 0]):=by
 have h:=c_Breaks l a b hl hD
 rw [if_pos hk,if_pos hk,hw] at h;exact h
theorem c_PeriodsV (l:List Tst) (a b d:Int) (w:List Sn) (hl:l.length≤500000) (hD: ∀s∈l,s.v.f.dig) (hk:askB l a b=true∧sVal (wkd l a b)=true∧0≤d) (hw:brg d (wkd l a b)=w):Ct Tryz.prog 19 [tL 8 true tTs l,tI a,tI b,tI d] (tT [tL 2 true tSn w,tI 0]):=by
 have h:=c_Periods l a b d hl hD
 rw [if_pos hk,if_pos hk,hw] at h;exact h
theorem c_sameF (f:Fr):Ct Tryz.prog 30 [tFr f,tFr f] (tB true):=by
 have h:=xw9 f f
 rw [decide_eq_true rfl] at h;exact h
theorem c_sameS (w:List Sn):Ct Tryz.prog 24 [tL 2 true tSn w,tL 2 true tSn w] (tB true):=by
 have h:=c_SameSpans w w
 rw [decide_eq_true rfl] at h;exact h
theorem exW:wkd exL 0 300=[⟨0,150⟩,⟨200,300⟩]:=(wkd_eq (by decide+kernel) (by decide) (by decide)).trans (by decide+kernel)
theorem exV:wkd exL 150 220=[⟨200,220⟩]:=(wkd_eq (by decide+kernel) (by decide) (by decide)).trans (by decide+kernel)
theorem c_awake:
  Ct Tryz.prog 7 [] (tB true):=by
 refine Ct.intro Tryz.func7 rfl Tryz.ntmps7 rfl ?_
 intro w F
 refine A7 ?_
 refine R0 (x3 c_example fi26 rfl) ?_
 refine A6 ?_
 refine R3 (x3 (c_YearsV exL 0 300 (kfr 200 487) (by decide) exD (by decide+kernel) (by decide+kernel)) fi27 rfl) rfl rfl rfl ?_
 refine A3 ?_
 refine RE (x9 (k:=2) (n:=4) (agg:=true) zr30.1 zr30.2 rfl) trivial trivial ⟨rfl,trivial⟩ ?_
 refine A7 ?_
 refine R3 (x3 (c_YearsV exL 50 50 (kfr 0 1) (by decide) exD (by decide+kernel) (by decide+kernel)) fi27 rfl) rfl rfl rfl ?_
 refine A3 ?_
 refine RE (x9 (k:=4) (n:=4) (agg:=true) zr30.1 zr30.2 rfl) trivial trivial ⟨rfl,trivial⟩ ?_
 refine A7 ?_
 refine R3 (x3 (c_YearsV exL 120 110 (kfr 0 1) (by decide) exD (by decide+kernel) (by decide+kernel)) fi27 rfl) rfl rfl rfl ?_
 refine A3 ?_
 refine RE (x9 (k:=6) (n:=4) (agg:=true) zr30.1 zr30.2 rfl) trivial trivial ⟨rfl,trivial⟩ ?_
 refine A7 ?_
 refine R2 (x3 (xk6 1 3 (by decide) (by decide) (by decide) (by decide)) fi12 rfl) rfl rfl (RE (x3 (c_CappedV exL 0 300 (fr (kfr 1 3)) (kfr 1 3) (by decide) exD (dig_fr _) (by decide+kernel) (by decide+kernel)) fi28 rfl) ⟨rfl,rfl,rfl,rfl,trivial⟩ trivial trivial ?_)
 refine A3 ?_
 refine RE (x9 (k:=8) (n:=4) (agg:=true) zr30.1 zr30.2 rfl) trivial trivial ⟨rfl,trivial⟩ ?_
 refine A6 ?_
 refine R2 (x3 (xk6 5 4 (by decide) (by decide) (by decide) (by decide)) fi12 rfl) rfl rfl (R1 (x3 (c_MonthsV (fr (kfr 5 4)) 15 (dig_fr _) (by decide+kernel) (by decide+kernel)) fi29 rfl) rfl ?_)
 refine A9 ?_
 refine R2 (x3 (xk6 1 13 (by decide) (by decide) (by decide) (by decide)) fi12 rfl) rfl rfl (R1 (x3 (c_MonthsV (fr (kfr 1 13)) 0 (dig_fr _) (by decide+kernel) (by decide+kernel)) fi29 rfl) rfl ?_)
 refine A18 ?_
 refine A5 ?_
 refine RGon (decide_eq_false (by omega)) rfl (xb7 (0) ti30 rfl rfl) rfl ⟨rfl,trivial⟩ ⟨rfl,trivial⟩ trivial (RGon (decide_eq_false (by omega)) rfl (x3 (xk6 200 487 (by decide) (by decide) (by decide) (by decide)) fi12 rfl) rfl ⟨rfl,rfl,trivial⟩ trivial trivial (RGon (decide_eq_false (by omega)) rfl (x3 (c_sameF _) fi30 rfl) rfl ⟨rfl,rfl,trivial⟩ trivial trivial (RGon (decide_eq_false (by omega)) rfl xi1 rfl ⟨rfl,trivial⟩ trivial trivial (R2 (xc7 (decide_eq_false (by omega))) rfl rfl ?_))))
 refine A2 ?_
 refine RGon rfl rfl (x3 (xk6 0 1 (by decide) (by decide) (by decide) (by decide)) fi12 rfl) rfl ⟨rfl,rfl,trivial⟩ trivial trivial (RGon rfl rfl (x3 (c_sameF _) fi30 rfl) rfl ⟨rfl,rfl,trivial⟩ trivial trivial ?_)
 refine A5 ?_
 refine RGon rfl rfl (x3 (c_sameF _) fi30 rfl) rfl ⟨rfl,rfl,trivial⟩ trivial trivial ?_
 refine A4 ?_
 refine RGon rfl rfl (x3 (xk6 1 3 (by decide) (by decide) (by decide) (by decide)) fi12 rfl) rfl ⟨rfl,rfl,trivial⟩ trivial trivial (RGon rfl rfl (x3 (c_sameF _) fi30 rfl) rfl ⟨rfl,rfl,trivial⟩ trivial trivial ?_)
 refine A7 ?_
 refine RGon (decide_eq_false (by omega)) rfl x5 rfl ⟨rfl,trivial⟩ trivial trivial (RGon (decide_eq_false (by omega)) rfl d_neq rfl ⟨rfl,rfl,trivial⟩ trivial trivial (R2 (xc7 (decide_eq_false (by omega))) rfl rfl ?_))
 refine A2 ?_
 refine xb2 rfl (decide_eq_false (by omega)) ?_
 refine A5 ?_
 refine R3 (x3 (c_WorkedV exL 0 300 [(⟨0,150⟩:Sn),(⟨200,300⟩:Sn)] (by decide) exD (by decide+kernel) exW) fi17 rfl) rfl rfl rfl ?_
 refine A10 ?_
 refine R3 (x3 (c_BreaksV exL 0 300 [(⟨150,200⟩:Sn)] (by decide) exD (by decide+kernel) (by rw [exW];decide+kernel)) fi18 rfl) rfl rfl rfl ?_
 refine A10 ?_
 refine RE (x3 (c_PeriodsV exL 0 300 50 [(⟨0,300⟩:Sn)] (by decide) exD ⟨by decide+kernel,by rw [exW];decide+kernel,by decide⟩ (by rw [exW];decide+kernel)) fi19 rfl) ⟨rfl,rfl,rfl,rfl,trivial⟩ trivial trivial ?_
 refine A10 ?_
 refine RE (x3 (c_PeriodsV exL 0 300 49 [(⟨0,150⟩:Sn),(⟨200,300⟩:Sn)] (by decide) exD ⟨by decide+kernel,by rw [exW];decide+kernel,by decide⟩ (by rw [exW];decide+kernel)) fi19 rfl) ⟨rfl,rfl,rfl,rfl,trivial⟩ trivial trivial ?_
 refine A10 ?_
 refine R3 (x3 (c_WorkedV exL 150 220 [(⟨200,220⟩:Sn)] (by decide) exD (by decide+kernel) exV) fi17 rfl) rfl rfl rfl ?_
 refine A10 ?_
 refine R3 (x3 (c_BreaksV exL 150 220 [] (by decide) exD (by decide+kernel) (by rw [exV];decide+kernel)) fi18 rfl) rfl rfl rfl ?_
 refine A18 ?_
 refine A9 ?_
 refine RGon (decide_eq_true (by omega)) rfl x5 rfl ⟨rfl,trivial⟩ trivial trivial (RGon (decide_eq_true (by omega)) rfl x5 rfl ⟨rfl,trivial⟩ trivial trivial (RGon (decide_eq_true (by omega)) rfl (x3 (c_to 0 150) fi31 rfl) rfl ⟨rfl,rfl,trivial⟩ trivial trivial (RGon (decide_eq_true (by omega)) rfl (x3 (c_to 200 300) fi31 rfl) rfl ⟨rfl,rfl,trivial⟩ trivial trivial (RGon (decide_eq_true (by omega)) rfl (xd2 (n:=2) (f:=tSn) [(⟨0,150⟩:Sn),(⟨200,300⟩:Sn)] Tryz.underlying45 el62 zf62 rfl (fun _=>inferInstance) rfl rfl rfl) rfl ⟨rfl,rfl,trivial⟩ trivial trivial (RGon (decide_eq_true (by omega)) rfl (xu4 (c_sameS [(⟨0,150⟩:Sn),(⟨200,300⟩:Sn)]) fi24 rfl) rfl ⟨rfl,rfl,rfl,trivial⟩ trivial trivial (R2 (xe3 (decide_eq_true (by omega))) rfl rfl ?_))))))
 refine A3 ?_
 refine RGon rfl rfl (x3 (c_to 150 200) fi31 rfl) rfl ⟨rfl,rfl,trivial⟩ trivial trivial (RGon rfl rfl (xd2 (n:=1) (f:=tSn) [(⟨150,200⟩:Sn)] Tryz.underlying45 el62 zf62 rfl (fun _=>inferInstance) rfl rfl rfl) rfl ⟨rfl,trivial⟩ trivial trivial (RGon rfl rfl (xu4 (c_sameS [(⟨150,200⟩:Sn)]) fi24 rfl) rfl ⟨rfl,rfl,rfl,trivial⟩ trivial trivial ?_))
 refine A4 ?_
 refine RGon rfl rfl (x3 (c_to 0 300) fi31 rfl) rfl ⟨rfl,rfl,trivial⟩ trivial trivial (RGon rfl rfl (xd2 (n:=1) (f:=tSn) [(⟨0,300⟩:Sn)] Tryz.underlying45 el62 zf62 rfl (fun _=>inferInstance) rfl rfl rfl) rfl ⟨rfl,trivial⟩ trivial trivial (RGon rfl rfl (xu4 (c_sameS [(⟨0,300⟩:Sn)]) fi24 rfl) rfl ⟨rfl,rfl,rfl,trivial⟩ trivial trivial ?_))
 refine A5 ?_
 refine RGon rfl rfl (xu4 (c_sameS [(⟨0,150⟩:Sn),(⟨200,300⟩:Sn)]) fi24 rfl) rfl ⟨rfl,rfl,rfl,trivial⟩ trivial trivial ?_
 refine A4 ?_
 refine RGon rfl rfl (x3 (c_to 200 220) fi31 rfl) rfl ⟨rfl,rfl,trivial⟩ trivial trivial (RGon rfl rfl (xd2 (n:=1) (f:=tSn) [(⟨200,220⟩:Sn)] Tryz.underlying45 el62 zf62 rfl (fun _=>inferInstance) rfl rfl rfl) rfl ⟨rfl,trivial⟩ trivial trivial (RGon rfl rfl (xu4 (c_sameS [(⟨200,220⟩:Sn)]) fi24 rfl) rfl ⟨rfl,rfl,rfl,trivial⟩ trivial trivial ?_))
 refine A10 ?_
 exact x4 Plain.mk' rfl rfl (Le.bool (by decide))
instance fi16:FnI Tryz.prog 16:=⟨_,Tryz.func16,by kernel_rfl,rfl⟩
instance fi23:FnI Tryz.prog 23:=⟨_,Tryz.func23,by kernel_rfl,rfl⟩
instance fi34:FnI Tryz.prog 34:=⟨_,Tryz.func34,by kernel_rfl,rfl⟩
instance fi38:FnI Tryz.prog 38:=⟨_,Tryz.func38,by kernel_rfl,rfl⟩
theorem c_years8 (l:List Tst) (a b:Int) (f:Fr) (hl:l.length≤60) (hD: ∀s∈l,s.v.f.dig) (hs: ∀s∈l,s.v.f.n.l.length≤1200∧s.v.f.d.l.length≤1200) (hF:f.dig) (hf1:f.n.l.length≤600) (hf2:f.d.l.length≤600):
  Ct Tryz.prog 11 [tL 8 true tTs l,tI a,tI b,tFr f] (tB true):=by
 refine Ct.introO Tryz.func11 rfl Tryz.ntmps11 rfl ?_
 intro w F
 refine A9 ?_
 refine R1 (xg2 (ts:=[_]) (r:=tG (up w.heap.size) _) (c_LentStepsN l hl (fun s hsm=>by have:=hs s hsm;omega)) fi16 (fun m hm=>xj5 hm) ⟨tG_le,trivial⟩ rfl) rfl ?_
 refine A1 ?_
 refine R1 (xg2 (ts:=[_]) (r:=tG (up w.heap.size) _) (c_LentFracN f (by omega) (by omega)) fi32 (fun m hm=>xj5 hm) ⟨tG_le,trivial⟩ rfl) rfl (RE (x9 (k:=10) (n:=4) (agg:=true) zr30.1 zr30.2 rfl) trivial trivial ⟨rfl,trivial⟩ ?_)
 refine A5 ?_
 refine C_lentK (W:=tStW l) (U:=tFrW f) (agg:=true) 99 42 9 10 30 4 (g':=fun v=>upd (upd (upd (upd (upd (upd (upd (fun _=>none) 0 (some (.val (tL 8 true tTs l)))) 1 (some (.val (tI a)))) 2 (some (.val (tI b)))) 7 (some (.own (.ptr 7 0)))) 8 (some (.val (tB false)))) 9 (some (.val (tE v)))) 10 (some (.own (.ptr 10 0)))) (h':=fun u=>upd (upd (fun _=>none) 7 (some ⟨30,4,true,[.val (tFr f)]⟩)) 10 (some ⟨30,4,true,[.val (tE u)]⟩)) rfl rfl rfl (fun _ L hL=>SlC.cons rfl .own (SlC.cons rfl .cst (SlC.cons rfl (.val tG_E) (SlC.cons rfl .own (SlC.cons rfl (.val tG_E) (SlC.cons rfl (.val tG_E) (SlC.cons rfl (.val (tG_old hL)) (SlC.nil)))))))) (fun _ _ _ hL=>KyC.cons rfl .cst (KyC.cons rfl (.val (tG_old hL)) KyC.nil)) ?_
 intro L w1 v u hv hu hL1 hL2
 refine A4 ?_
 refine RE (d_callH (us':=[tE v,tI a,tI b]) (r:=tT [tFr (if askB l a b=true then sumF (yq l a b) else fr0),tI (if askB l a b=true then sumE (yq l a b) else 2)]) OvC.mk' (c_YearsN l a b (by omega) hD) fi27 hrT ⟨.inr ⟨_,rfl,stW_le _ _ _ hv⟩,.inl Le.refl,.inl Le.refl,trivial⟩ rfl) ⟨rfl,rfl,rfl,trivial⟩ ⟨rfl,trivial⟩ trivial ?_
 refine A3 ?_
 refine RE (x9 (k:=11) (n:=4) (agg:=true) zr30.1 zr30.2 rfl) trivial trivial ⟨rfl,trivial⟩ ?_
 refine A9 ?_
 refine R3 (x3 (c_R8Years l (by omega) a b hD (fun s hsm=>by have:=hs s hsm;omega)) fi33 rfl) rfl rfl rfl ?_
 refine A3 ?_
 refine RE (x9 (k:=13) (n:=4) (agg:=true) zr30.1 zr30.2 rfl) trivial trivial ⟨rfl,trivial⟩ ?_
 refine A10 ?_
 refine RE (d_callH (us':=[tE v,tI a,tI b,tE u]) (r:=tT [tFr (if capC l a b f then sumF (capO l a b f) else fr0),tI (if capC l a b f then sumE (capO l a b f) else 2)]) OvC.mk' (c_CappedN l a b f (by omega) hD hF) fi28 hrT ⟨.inr ⟨_,rfl,stW_le _ _ _ hv⟩,.inl Le.refl,.inl Le.refl,.inr ⟨_,rfl,frK_le _ _ _ (frWK _ _ _ hu)⟩,trivial⟩ rfl) ⟨rfl,rfl,rfl,rfl,trivial⟩ ⟨rfl,trivial⟩ trivial ?_
 refine A3 ?_
 refine RE (x9 (k:=15) (n:=4) (agg:=true) zr30.1 zr30.2 rfl) trivial trivial ⟨rfl,trivial⟩ ?_
 refine A10 ?_
 refine RE (x3 (c_R8Capped l (by omega) a b hD (fun s hsm=>by have:=hs s hsm;omega) f hF) fi34 rfl) ⟨rfl,rfl,rfl,rfl,trivial⟩ trivial trivial ?_
 refine A3 ?_
 refine RE (x9 (k:=17) (n:=4) (agg:=true) zr30.1 zr30.2 rfl) trivial trivial ⟨rfl,trivial⟩ ?_
 refine A11 ?_
 refine RGon (decide_eq_false (by simp)) rfl x5 rfl ⟨rfl,trivial⟩ trivial trivial (RGon (decide_eq_false (by simp)) rfl x5 rfl ⟨rfl,trivial⟩ trivial trivial (RGon (decide_eq_false (by simp)) rfl d_neq rfl ⟨rfl,rfl,trivial⟩ trivial trivial (R2 (xc7 (decide_eq_false (by simp))) rfl rfl ?_)))
 refine A1 ?_
 refine RGon (decide_eq_false (by simp)) rfl x5 rfl ⟨rfl,trivial⟩ trivial trivial (RGon (decide_eq_false (by simp)) rfl (d_callH (us':=[tE v]) (r:=tB (sRight l)) (rr:=fun _=>tB (sRight l)) OvC.mk' (c_SvRight l hD) fi35 (hrE fun _=>rfl) ⟨.inr ⟨_,rfl,stW_le _ _ _ hv⟩,trivial⟩ rfl) rfl ⟨rfl,trivial⟩ ⟨rfl,trivial⟩ trivial (RGon (decide_eq_false (by simp)) rfl x5 rfl ⟨rfl,trivial⟩ trivial trivial (RGon (decide_eq_false (by simp)) rfl (x3 (c_R8Right l (by omega) hD (fun s hsm=>by have:=hs s hsm;omega)) fi36 rfl) rfl ⟨rfl,trivial⟩ trivial trivial (RGon (decide_eq_false (by simp)) rfl (d_neqB Tryz.underlying4) rfl ⟨rfl,rfl,trivial⟩ trivial trivial (R2 (xc7 (decide_eq_false (by simp))) rfl rfl ?_)))))
 refine A1 ?_
 refine RGon (by simp) rfl x5 rfl ⟨rfl,trivial⟩ trivial trivial (RGon (by simp) rfl x5 rfl ⟨rfl,trivial⟩ trivial trivial (RGon (by simp) rfl (d_callH (us':=[tE v,tL 8 true tTs l]) (r:=tB true) (rr:=fun _=>tB true) OvC.mk' (c_KeptSteps l hl (fun s hsm=>by have:=hs s hsm;omega)) fi23 (hrE fun _=>rfl) ⟨.inr ⟨_,rfl,hv⟩,.inl Le.refl,trivial⟩ rfl) rfl ⟨rfl,rfl,trivial⟩ ⟨rfl,trivial⟩ trivial (RGon (by simp) rfl xi1 rfl ⟨rfl,trivial⟩ trivial trivial (R2 (xc7 (by simp)) rfl rfl ?_))))
 refine A3 ?_
 refine RGon rfl rfl (d_callH (us':=[tE u,tFr f]) (r:=tB true) (rr:=fun _=>tB true) OvC.mk' (c_KeptFrac f (by omega) (by omega)) fi37 (hrE fun _=>rfl) ⟨.inr ⟨_,rfl,frWK _ _ _ hu⟩,.inl Le.refl,trivial⟩ rfl) rfl ⟨rfl,rfl,trivial⟩ ⟨rfl,trivial⟩ trivial ?_
 refine A10 ?_
 refine RE (xt0 (us:=[tE v]) OvC.mk' (v_OverStepsL L w1 l hl (fun s hsm=>by have:=hs s hsm;omega) v hv) fi38 ⟨Free.E,trivial⟩ rfl) ⟨rfl,trivial⟩ ⟨rfl,trivial⟩ trivial ?_
 refine A5 ?_
 refine RE (xt0 (us:=[tE u]) OvC.mk' (v_OverFracL L w1 f (by omega) (by omega) u hu) fi39 ⟨Free.E,trivial⟩ rfl) ⟨rfl,trivial⟩ ⟨rfl,trivial⟩ trivial ?_
 refine A6 ?_
 refine R2 (x3 (c_SameFracT _) fi30 rfl) rfl rfl ?_
 refine A3 ?_
 refine RGon rfl rfl (x3 (c_SameFracT _) fi30 rfl) rfl ⟨rfl,rfl,trivial⟩ trivial trivial ?_
 refine A5 ?_
 exact E_retB (RBase.ov hL2) trivial rfl rfl
end An.S
namespace An
open Go
theorem St'.more {c:Base} {g:Slots} {h:Keys} {al al':Names} {a:Act} {w:World} {η:Env} (s:St' c g h al a w η) (hal: ∀k,al k=true→al' k=true):St' c g h al' a w η:=
  ⟨s.tn,s.df,fun t e he=>⟨(s.slot t e he).1,fun k hk=>hal k ((s.slot t e he).2.1 k hk),(s.slot t e he).2.2⟩,fun k x hx=>⟨hal k (s.key k x hx).1,fun j hj=>hal j ((s.key k x hx).2.1 j hj),(s.key k x hx).2.2⟩,
   s.inj,s.fr,fun k hk=>⟨hal k (s.lk k hk).1,(s.lk k hk).2⟩,s.pin,s.vol,fun k hk=>hal k (s.yal k hk),s.jj,s.lbl⟩
section
variable {P:Program} {c:Base} {g:Slots} {h:Keys} {al:Names} {d ty:Nat} {pos:String} {af:Array Edge} {Q:Exit→Act→World→Prop}
theorem wl_app2 {A:Array Oper} {rest:List Oper} {T E es by_ k k' n:Nat} {agg:Bool} {z:Value} {α:Type} {f:α→Ty} {ys:List α} {x y:Operand} {ts:List Ent} {T0:Nat} (sl:P.underlying T=some (.slice E)) (el:ElI P E es by_ agg z) (hz:Flat es agg z) (hT:T0=E) (h0:Nat.blt 0 es=true)
  (hf: ∀y,Shape (f y) es agg) (hx:look g x=some (.own (.sl k es 0 n))) (hy:look g y=some (.val (tL es agg f ys))) (hk:h k=some ⟨T0,es,agg,ts⟩) (hk':al k'=false) (hn:ts.length=n) (hb:(n+ys.length)*by_≤140737488355328) (h63:n+ys.length≤9223372036854775807) (hpos:0 < ys.length) (hdN:Nat.blt d c.N=true)
  (H: ∀b:Bool,wl P c A Q rest (upd g d (some (.own (.sl (cond b k k') es 0 (n+ys.length))))) (upd h (cond b k k') (some ⟨T0,es,agg,ts++ys.map (fun y=> .val (f y))⟩)) (fun j=>Nat.beq j k' || al j)):
  wl P c A Q (⟨some d,.call {callee:= .builtin .append,args:= #[x,y],argTypes:= #[T,T]},ty,pos,af,none⟩::rest) g h al:=by
 intro a w ⟨η,s⟩
 unfold wpListIn
 rw [if_pos (by rfl)]
 subst hT hn
 have h0':0 < es:=by simpa using h0
 have hdN':d < c.N:=by simpa using hdN
 obtain ⟨hxv,hxs⟩:=xa6 s hx
 obtain ⟨AA,hA,hcap,hadr⟩:=hxv
 simp only [Nat.sub_zero,Nat.zero_add,Nat.zero_mul] at hA hcap hadr
 obtain ⟨A2,c2,news,hyv,hns,hsrc,hone,hnp,_⟩:=src_cells (P:=P) hf h0' (xa6 s hy).1
 have hA:a.eval x= .slice AA ts.length (η.c k):=hA
 have hyv:a.eval y= .slice A2 ys.length c2:=hyv
 obtain ⟨i,hi,hsz,hby,hz'⟩:=el.parts
 obtain ⟨k1,k2,⟨k3,k4,k5,k6,k7⟩,k8⟩:=s.key k _ hk
 simp only at k3 k4 k5 k6 k7
 have hexec: ∀v w',(Builtin.append_ #[T,T] ty #[.slice AA ts.length (η.c k),.slice A2 ys.length c2]).run P w= .ok v w'→
   (execOp a.eval ⟨some d,.call {callee:= .builtin .append,args:= #[x,y],argTypes:= #[T,T]},ty,pos,af,none⟩).run P w= .ok (.value v) w':=fun v w' hr=>by
  simp only [execOp,resolve,invoke,builtin,List.map_toArray,List.map_cons,List.map_nil,hA,hyv,Sem.run_bind,Sem.run_pure,Result.andThen_ok,hr]
 have hsupp: ∀j∈HEnt.supp ⟨T0,es,agg,ts++ys.map fun y=> .val (f y)⟩,al j=true:=fun j hj=>by
  simp only [HEnt.supp,List.mem_flatMap] at hj
  obtain ⟨e,he,hj⟩:=hj
  rcases List.mem_append.1 he with he | he
  ·exact k2 j (List.mem_flatMap.2 ⟨e,he,hj⟩)
  ·obtain ⟨y,_,rfl⟩:=List.mem_map.1 he
   cases hj
 have hlk: ∀(i:Nat) (e:Ent),(ts++ys.map fun y=>Ent.val (f y))[i]? =some e→(ts[i]? =some e∧i < ts.length)∨(∃y,ys[i - ts.length]? =some y∧e= .val (f y)∧ts.length≤i):=fun i e he=>by
  rcases Nat.lt_or_ge i ts.length with hlt | hge
  ·rw [List.getElem?_append_left hlt] at he;exact .inl ⟨he,hlt⟩
  ·rw [List.getElem?_append_right hge,List.getElem?_map] at he
   obtain ⟨y,hy,rfl⟩:=Option.map_eq_some_iff.1 he
   exact .inr ⟨y,hy,rfl,hge⟩
 have hcs: ∃cs:Array Value,(0 < η.c k→AA=some ⟨η.b k,0,none⟩∧w.heap[η.b k]? =some (.cells cs T0 (0,0))∧cs.size=η.c k*es)∧(0 < η.c k→ ∀(i:Nat) (e:Ent),ts[i]? =some e→e.sat (c.dom h η) w η (pick agg es cs (i*es))):=by
  rcases Nat.eq_zero_or_pos (η.c k) with hc | hc
  ·exact ⟨#[],fun h=>by omega,fun h=>by omega⟩
  ·obtain ⟨cs,m1,m2,m3⟩:=k7 hc
   exact ⟨cs,fun _=>⟨hadr hc,m1,m2⟩,fun _=>m3⟩
 obtain ⟨cs,hrow,m3⟩:=hcs
 rcases xv6 (P:=P) (ty:=ty) (A:=AA) (n:=ts.length) (cap:=η.c k) (A2:=A2) (c2:=c2) (w:=w) (b:=η.b k) sl hi hsz hby hz' hz.1 h0' k3 cs hrow news hns hsrc hone h63 hb with ⟨hfit,w',hr,hw,_⟩ | ⟨hgt,w',cap',rest',hr,hle,hmax,hrest,hheap,hos,htape,hout,hold⟩
 ·have hc:0 < η.c k:=by omega
  obtain ⟨hAv,m1,m2⟩:=hrow hc
  obtain ⟨q1,q2,q3,q4,q5,q6⟩:=hw hc
  refine xf5 (hexec _ _ hr) ?_
  have hsz2:ts.length*es+ys.length*es≤cs.size:=by rw [m2,←Nat.add_mul];exact Nat.mul_le_mul_right _ hfit
  have hnl:news.toList.length=ys.length*es:=by simpa using hns
  have s1:=s.write (w':=w') k hk ⟨T0,es,agg,ts++ys.map fun y=> .val (f y)⟩ (putAt cs (ts.length*es) news.toList) (by rw [xe9];exact m2) (by simpa using hfit) h0' k5 hsupp
   (fun j e hj=>by
    rcases hlk j e hj with ⟨he,hjl⟩ | ⟨y,hy',rfl,hge⟩
    ·have hle':j*es+es≤ts.length*es:=by rw [←Nat.succ_mul];exact Nat.mul_le_mul_right _ hjl
     simp only []
     rw [xh4 (by omega) k5 (.inl hle')]
     exact m3 hc j e he
    ·have hjl:j - ts.length < ys.length:=(List.getElem?_eq_some_iff.1 hy').1
     have hle':(j - ts.length)*es+es≤ys.length*es:=by rw [←Nat.succ_mul];exact Nat.mul_le_mul_right _ hjl
     have e1:j*es=ts.length*es+(j - ts.length)*es:=by rw [←Nat.add_mul];congr 1;omega
     have hpk:pick agg es (putAt cs (ts.length*es) news.toList) (j*es)=pick agg es news ((j - ts.length)*es):=by
      have hg: ∀q,q < es→(putAt cs (ts.length*es) news.toList)[j*es+q]? =news[(j - ts.length)*es+q]? :=fun q hq=>by
       rw [xk3 _ _ _ _ (by omega),if_pos (by omega),Array.getElem?_toList]
       congr 1;omega
      cases agg with
      | true=>
       simp only [pick,cond_true,Value.agg.injEq]
       apply Array.ext_getElem?
       intro q
       rw [Array.getElem?_extract,Array.getElem?_extract,xe9]
       by_cases hq:q < es
       ·rw [if_pos (by omega),if_pos (by omega),hg q hq]
       ·rw [if_neg (by omega),if_neg (by omega)]
      | false=>
       simp only [pick,cond_false]
       have:=hg 0 h0'
       rw [Array.getD_eq_getD_getElem?,Array.getD_eq_getD_getElem?]
       simp only [Nat.add_zero] at this
       rw [this]
     simp only []
     rw [hpk]
     exact hnp _ y hy')
   hc q1 q2 q3 q4 q5 q6 rfl
  refine H true _ _ ⟨_,(s1.put hdN' (e:= .own (.sl k es 0 (ts.length+ys.length))) ⟨AA,rfl,?_,?_⟩ ?_).more ?_⟩
  ·simpa using hfit
  ·intro _;rw [hAv];simp
  ·intro j hj
   simp only [Ent.supp,VP.supp,List.mem_singleton] at hj
   subst hj;exact k1
  ·intro j hj;simp [hj]
 ·refine xf5 (hexec _ _ hr) ?_
  have hext:Ext w w':=⟨hos,htape,hout,by rw [hheap];simp,fun b hb=>by rw [hheap,Array.getElem?_push,if_neg (by omega)]⟩
  have hpos': ∀j e,ts[j]? =some e→0 < η.c k:=fun j e he=>by
   have:=(List.getElem?_eq_some_iff.1 he).1;omega
  have s2:=s.new' k' hk' ⟨T0,es,agg,ts++ys.map fun y=> .val (f y)⟩ cap' w.heap.size (by simpa using hle) h0' k5 hmax hsupp hext (fun _=>⟨Nat.le_refl _,cs.extract 0 (ts.length*es)++news++rest',by rw [hheap];simp,by
    simp only [Array.size_append,hns,hrest,hold]
    rw [←Nat.add_mul,←Nat.add_mul];congr 1;omega,fun j e hj=>by
    rcases hlk j e hj with ⟨he,hjl⟩ | ⟨y,hy',rfl,hge⟩
    ·have hle':j*es+es≤ts.length*es:=by rw [←Nat.succ_mul];exact Nat.mul_le_mul_right _ hjl
     simp only []
     rw [Array.append_assoc,xi3 (by rw [hold];exact hle') k5,xw5 hle' (by simp at hold;omega) k5]
     exact m3 (hpos' j e he) j e he
    ·have hjl:j - ts.length < ys.length:=(List.getElem?_eq_some_iff.1 hy').1
     have hle':(j - ts.length)*es+es≤ys.length*es:=by rw [←Nat.succ_mul];exact Nat.mul_le_mul_right _ hjl
     have e1:j*es=(cs.extract 0 (ts.length*es)).size+(j - ts.length)*es:=by rw [hold,←Nat.add_mul];congr 1;omega
     simp only []
     rw [Array.append_assoc,e1,xr7 (by simp only [Array.size_append,hns];omega) k5,xi3 (by rw [hns];exact hle') k5]
     exact hnp _ y hy'⟩)
  refine H false _ _ ⟨_,s2.put hdN' (e:= .own (.sl k' es 0 (ts.length+ys.length))) ⟨some ⟨w.heap.size,0,none⟩,?_,?_,?_⟩ ?_⟩
  ·simp [Env.set_c]
  ·simpa [Env.set_c] using hle
  ·intro _;simp [Env.set_b]
  ·intro j hj
   simp only [Ent.supp,VP.supp,List.mem_singleton] at hj
   subst hj;simp
theorem xa7 {x:Code} (round:wc P c x (Exit.then (fun _ _=>False) Q) g h al):wc P c (.loop x) Q g h al:=by
 intro a w hs b k cs hro hb hr
 obtain ⟨e,a₁,w₁,hq,harr⟩:=round a w hs b (.inLoop x::k) cs hro hb hr
 refine ⟨e,a₁,w₁,?_⟩
 cases e with
 | normal=>exact hq.elim
 | exit id=>exact ⟨hq,.of_steps (.one (fenced_calm hb hr rfl) stepR_loop) (.pass (x:= .inLoop x) rfl (fun _ _=> .inl (by simp)) harr)⟩
 | goto l=>exact ⟨hq,.of_steps (.one (fenced_calm hb hr rfl) stepR_loop) (.pass (x:= .inLoop x) rfl (fun _ _=> .inl (by simp)) harr)⟩
 | ret=>exact ⟨hq,.of_steps (.one (fenced_calm hb hr rfl) stepR_loop) (.pass (x:= .inLoop x) rfl (fun _ _=> .inl (by simp)) harr)⟩
 | panic ch=>exact ⟨hq,.of_steps (.one (fenced_calm hb hr rfl) stepR_loop) (.pass (x:= .inLoop x) rfl (fun _ _=> .inl (by simp)) harr)⟩
 | outgrown=>exact ⟨hq,.of_steps (.one (fenced_calm hb hr rfl) stepR_loop) (.pass (x:= .inLoop x) rfl (fun _ _=> .inl (by simp)) harr)⟩
theorem C_loopA {ι:Type} (I:ι→Prop) (G:ι→Slots) (H:ι→Keys) (al':ι→Names) (μ:ι→Nat) {x:Code} (i:ι) (hi:I i) (hg:Sub (G i) g) (hh:SubK (H i) h) (sg:SupG (G i) (al' i)) (sh:SupH (H i) (al' i)) (hlk:LkOk c (al' i))
  (round: ∀i,I i→wc P c x (Exit.then (fun a w=> ∃j,(I j∧μ j < μ i)∧St c (G j) (H j) (al' j) a w) Q) (G i) (H i) (al' i)):wc P c (.loop x) Q g h al:=by
 intro a w hs b k cs hro hb hr
 have key: ∀n i,μ i=n→I i→ ∀a w,St c (G i) (H i) (al' i) a w→
   ∃e a' w',Q e a' w'∧ArrivesIn (Machine.fenced P (fc c.ro)) P (lone (b.atR a (.code x:: .inLoop x::k)) cs w) b k cs e a' w':=by
  intro n
  induction n using Nat.strongRecOn with
  | _ n ih=>
   intro i hn hi a w hs
   obtain ⟨e,a₁,w₁,hq,harr⟩:=round i hi a w hs b (.inLoop x::k) cs hro hb hr
   cases e with
   | normal=>
    obtain ⟨j,⟨hj,hlt⟩,hs'⟩:=hq
    obtain ⟨e₂,a₂,w₂,hq₂,harr₂⟩:=ih (μ j) (hn▸hlt) j rfl hj a₁ w₁ hs'
    exact ⟨e₂,a₂,w₂,hq₂,.of_steps (StepsIn.trans harr (.one (fenced_calm hb hr rfl) stepR_inLoop)) harr₂⟩
   | exit id=>exact ⟨_,a₁,w₁,hq,.pass (x:= .inLoop x) rfl (fun _ _=> .inl (by simp)) harr⟩
   | goto l=>exact ⟨_,a₁,w₁,hq,.pass (x:= .inLoop x) rfl (fun _ _=> .inl (by simp)) harr⟩
   | ret=>exact ⟨_,a₁,w₁,hq,.pass (x:= .inLoop x) rfl (fun _ _=> .inl (by simp)) harr⟩
   | panic ch=>exact ⟨_,a₁,w₁,hq,.pass (x:= .inLoop x) rfl (fun _ _=> .inl (by simp)) harr⟩
   | outgrown=>exact ⟨_,a₁,w₁,hq,.pass (x:= .inLoop x) rfl (fun _ _=> .inl (by simp)) harr⟩
 obtain ⟨e,a',w',hq,harr⟩:=key _ i rfl hi a w (hs.weaken hg hh sg sh hlk)
 exact ⟨e,a',w',hq,.of_steps (.one (fenced_calm hb hr rfl) stepR_loop) harr⟩
theorem K_famA {ι:Type} {I:ι→Prop} {G:ι→Slots} {H:ι→Keys} {al':ι→Names} (i:ι) (hi:I i) (hg:Sub (G i) g) (hh:SubK (H i) h) (sg:SupG (G i) (al' i)) (sh:SupH (H i) (al' i)) (hlk:LkOk c (al' i)) {a:Act} {w:World} (hs:St c g h al a w): ∃j,I j∧St c (G j) (H j) (al' j) a w:=
 ⟨i,hi,hs.weaken hg hh sg sh hlk⟩
end
end An
namespace An.S
open Go Go.Proofs An
instance ti40:TyI Tryz.prog 40 1 false:=⟨by kernel_rfl,by kernel_rfl⟩
instance ti45:TyI Tryz.prog 45 1 false:=⟨by kernel_rfl,by kernel_rfl⟩
instance ti183:TyI Tryz.prog 183 1 false:=⟨by kernel_rfl,by kernel_rfl⟩
instance ti185:TyI Tryz.prog 185 1 false:=⟨by kernel_rfl,by kernel_rfl⟩
instance ti187:TyI Tryz.prog 187 1 false:=⟨by kernel_rfl,by kernel_rfl⟩
instance ti189:TyI Tryz.prog 189 1 false:=⟨by kernel_rfl,by kernel_rfl⟩
instance ti190:TyI Tryz.prog 190 1 false:=⟨by kernel_rfl,by kernel_rfl⟩
instance ti191:TyI Tryz.prog 191 1 false:=⟨by kernel_rfl,by kernel_rfl⟩
instance ti196:TyI Tryz.prog 196 1 false:=⟨by kernel_rfl,by kernel_rfl⟩
instance ti201:TyI Tryz.prog 201 1 false:=⟨by kernel_rfl,by kernel_rfl⟩
instance ti206:TyI Tryz.prog 206 1 false:=⟨by kernel_rfl,by kernel_rfl⟩
instance ti211:TyI Tryz.prog 211 1 false:=⟨by kernel_rfl,by kernel_rfl⟩
instance ti216:TyI Tryz.prog 216 1 false:=⟨by kernel_rfl,by kernel_rfl⟩
instance ti220:TyI Tryz.prog 220 1 false:=⟨by kernel_rfl,by kernel_rfl⟩
instance ti225:TyI Tryz.prog 225 1 false:=⟨by kernel_rfl,by kernel_rfl⟩
instance ti229:TyI Tryz.prog 229 1 false:=⟨by kernel_rfl,by kernel_rfl⟩
instance ti233:TyI Tryz.prog 233 1 false:=⟨by kernel_rfl,by kernel_rfl⟩
instance ti238:TyI Tryz.prog 238 1 false:=⟨by kernel_rfl,by kernel_rfl⟩
instance ti242:TyI Tryz.prog 242 1 false:=⟨by kernel_rfl,by kernel_rfl⟩
instance ti247:TyI Tryz.prog 247 1 false:=⟨by kernel_rfl,by kernel_rfl⟩
instance ti252:TyI Tryz.prog 252 1 false:=⟨by kernel_rfl,by kernel_rfl⟩
theorem el22:ElI Tryz.prog 22 1 24 false (.slice none 0 0):=⟨ti22,by kernel_rfl,by kernel_rfl⟩
theorem el26:ElI Tryz.prog 26 1 24 false (.slice none 0 0):=⟨ti26,by kernel_rfl,by kernel_rfl⟩
theorem el40:ElI Tryz.prog 40 1 24 false (.slice none 0 0):=⟨ti40,by kernel_rfl,by kernel_rfl⟩
theorem el45:ElI Tryz.prog 45 1 24 false (.slice none 0 0):=⟨ti45,by kernel_rfl,by kernel_rfl⟩
theorem el183:ElI Tryz.prog 183 1 24 false (.slice none 0 0):=⟨ti183,by kernel_rfl,by kernel_rfl⟩
theorem el185:ElI Tryz.prog 185 1 24 false (.slice none 0 0):=⟨ti185,by kernel_rfl,by kernel_rfl⟩
theorem el187:ElI Tryz.prog 187 1 24 false (.slice none 0 0):=⟨ti187,by kernel_rfl,by kernel_rfl⟩
theorem el189:ElI Tryz.prog 189 1 24 false (.slice none 0 0):=⟨ti189,by kernel_rfl,by kernel_rfl⟩
theorem el190:ElI Tryz.prog 190 1 24 false (.slice none 0 0):=⟨ti190,by kernel_rfl,by kernel_rfl⟩
theorem el191:ElI Tryz.prog 191 1 24 false (.slice none 0 0):=⟨ti191,by kernel_rfl,by kernel_rfl⟩
theorem el196:ElI Tryz.prog 196 1 24 false (.slice none 0 0):=⟨ti196,by kernel_rfl,by kernel_rfl⟩
theorem el201:ElI Tryz.prog 201 1 24 false (.slice none 0 0):=⟨ti201,by kernel_rfl,by kernel_rfl⟩
theorem el206:ElI Tryz.prog 206 1 24 false (.slice none 0 0):=⟨ti206,by kernel_rfl,by kernel_rfl⟩
theorem el211:ElI Tryz.prog 211 1 24 false (.slice none 0 0):=⟨ti211,by kernel_rfl,by kernel_rfl⟩
theorem el216:ElI Tryz.prog 216 1 24 false (.slice none 0 0):=⟨ti216,by kernel_rfl,by kernel_rfl⟩
theorem el220:ElI Tryz.prog 220 1 24 false (.slice none 0 0):=⟨ti220,by kernel_rfl,by kernel_rfl⟩
theorem el225:ElI Tryz.prog 225 1 24 false (.slice none 0 0):=⟨ti225,by kernel_rfl,by kernel_rfl⟩
theorem el229:ElI Tryz.prog 229 1 24 false (.slice none 0 0):=⟨ti229,by kernel_rfl,by kernel_rfl⟩
theorem el233:ElI Tryz.prog 233 1 24 false (.slice none 0 0):=⟨ti233,by kernel_rfl,by kernel_rfl⟩
theorem el238:ElI Tryz.prog 238 1 24 false (.slice none 0 0):=⟨ti238,by kernel_rfl,by kernel_rfl⟩
theorem el242:ElI Tryz.prog 242 1 24 false (.slice none 0 0):=⟨ti242,by kernel_rfl,by kernel_rfl⟩
theorem el247:ElI Tryz.prog 247 1 24 false (.slice none 0 0):=⟨ti247,by kernel_rfl,by kernel_rfl⟩
theorem el252:ElI Tryz.prog 252 1 24 false (.slice none 0 0):=⟨ti252,by kernel_rfl,by kernel_rfl⟩
instance un53:UnI Tryz.prog 53 (.slice 45):=⟨Tryz.underlying53⟩
instance un83:UnI Tryz.prog 83 (.slice 26):=⟨Tryz.underlying83⟩
instance un84:UnI Tryz.prog 84 (.slice 40):=⟨Tryz.underlying84⟩
instance un85:UnI Tryz.prog 85 (.slice 183):=⟨Tryz.underlying85⟩
instance un86:UnI Tryz.prog 86 (.slice 185):=⟨Tryz.underlying86⟩
instance un87:UnI Tryz.prog 87 (.slice 187):=⟨Tryz.underlying87⟩
instance un88:UnI Tryz.prog 88 (.slice 189):=⟨Tryz.underlying88⟩
instance un89:UnI Tryz.prog 89 (.slice 190):=⟨Tryz.underlying89⟩
instance un90:UnI Tryz.prog 90 (.slice 22):=⟨Tryz.underlying90⟩
instance un91:UnI Tryz.prog 91 (.slice 191):=⟨Tryz.underlying91⟩
instance un92:UnI Tryz.prog 92 (.slice 196):=⟨Tryz.underlying92⟩
instance un93:UnI Tryz.prog 93 (.slice 201):=⟨Tryz.underlying93⟩
instance un94:UnI Tryz.prog 94 (.slice 206):=⟨Tryz.underlying94⟩
instance un95:UnI Tryz.prog 95 (.slice 211):=⟨Tryz.underlying95⟩
instance un96:UnI Tryz.prog 96 (.slice 216):=⟨Tryz.underlying96⟩
instance un97:UnI Tryz.prog 97 (.slice 220):=⟨Tryz.underlying97⟩
instance un98:UnI Tryz.prog 98 (.slice 225):=⟨Tryz.underlying98⟩
instance un99:UnI Tryz.prog 99 (.slice 229):=⟨Tryz.underlying99⟩
instance un100:UnI Tryz.prog 100 (.slice 233):=⟨Tryz.underlying100⟩
instance un101:UnI Tryz.prog 101 (.slice 238):=⟨Tryz.underlying101⟩
instance un102:UnI Tryz.prog 102 (.slice 242):=⟨Tryz.underlying102⟩
instance un103:UnI Tryz.prog 103 (.slice 247):=⟨Tryz.underlying103⟩
instance un104:UnI Tryz.prog 104 (.slice 252):=⟨Tryz.underlying104⟩
theorem c_flat0Limbs:
  Ct Tryz.prog 92 [(tL 1 false (fun _:Nat=>tI 0) [])] (tB true):=by
 refine Ct.intro Tryz.func92 rfl Tryz.ntmps92 rfl ?_
 intro w F
 refine A12 ?_
 refine xa7 ?_
 refine A9 ?_
 refine xb2 rfl (decide_eq_false (by decide)) ?_
 refine A9 ?_
 refine R2 (xg1 (f:=fun _:Nat=>tL 1 false (fun _:Nat=>tI 0) []) (y0:=0) 0 0 Tryz.underlying83 el26 (fun _ _=>⟨none,0,rfl,Nat.le_refl _,by decide,.inl rfl⟩) inferInstance rfl rfl rfl (Nat.le_refl _) (by decide) (by decide) rfl) rfl rfl ?_
 refine A10 ?_
 refine xa7 ?_
 refine A9 ?_
 refine xb2 rfl (decide_eq_false (by decide)) ?_
 refine A12 ?_
 refine xa7 ?_
 refine A9 ?_
 refine xb2 rfl (decide_eq_false (by decide)) ?_
 refine A12 ?_
 refine xa7 ?_
 refine A9 ?_
 refine xb2 rfl (decide_eq_false (by decide)) ?_
 refine A12 ?_
 refine xa7 ?_
 refine A9 ?_
 refine xb2 rfl (decide_eq_false (by decide)) ?_
 refine A11 ?_
 exact x4 Plain.mk' rfl rfl Le.refl
theorem c_flat0Ints:
  Ct Tryz.prog 93 [(tL 1 false (fun _:Nat=>tI 0) [])] (tB true):=by
 refine Ct.intro Tryz.func93 rfl Tryz.ntmps93 rfl ?_
 intro w F
 refine A12 ?_
 refine xa7 ?_
 refine A9 ?_
 refine xb2 rfl (decide_eq_false (by decide)) ?_
 refine A9 ?_
 refine R2 (xg1 (f:=fun _:Nat=>tL 1 false (fun _:Nat=>tI 0) []) (y0:=0) 0 0 Tryz.underlying84 el40 (fun _ _=>⟨none,0,rfl,Nat.le_refl _,by decide,.inl rfl⟩) inferInstance rfl rfl rfl (Nat.le_refl _) (by decide) (by decide) rfl) rfl rfl ?_
 refine A10 ?_
 refine xa7 ?_
 refine A9 ?_
 refine xb2 rfl (decide_eq_false (by decide)) ?_
 refine A12 ?_
 refine xa7 ?_
 refine A9 ?_
 refine xb2 rfl (decide_eq_false (by decide)) ?_
 refine A12 ?_
 refine xa7 ?_
 refine A9 ?_
 refine xb2 rfl (decide_eq_false (by decide)) ?_
 refine A12 ?_
 refine xa7 ?_
 refine A9 ?_
 refine xb2 rfl (decide_eq_false (by decide)) ?_
 refine A11 ?_
 exact x4 Plain.mk' rfl rfl Le.refl
theorem c_flat0Texts:
  Ct Tryz.prog 94 [(tL 1 false (fun _:Nat=>tI 0) [])] (tB true):=by
 refine Ct.intro Tryz.func94 rfl Tryz.ntmps94 rfl ?_
 intro w F
 refine A12 ?_
 refine xa7 ?_
 refine A9 ?_
 refine xb2 rfl (decide_eq_false (by decide)) ?_
 refine A9 ?_
 refine R2 (xg1 (f:=fun _:Nat=>tL 1 false (fun _:Nat=>tI 0) []) (y0:=0) 0 0 Tryz.underlying85 el183 (fun _ _=>⟨none,0,rfl,Nat.le_refl _,by decide,.inl rfl⟩) inferInstance rfl rfl rfl (Nat.le_refl _) (by decide) (by decide) rfl) rfl rfl ?_
 refine A10 ?_
 refine xa7 ?_
 refine A9 ?_
 refine xb2 rfl (decide_eq_false (by decide)) ?_
 refine A12 ?_
 refine xa7 ?_
 refine A9 ?_
 refine xb2 rfl (decide_eq_false (by decide)) ?_
 refine A12 ?_
 refine xa7 ?_
 refine A9 ?_
 refine xb2 rfl (decide_eq_false (by decide)) ?_
 refine A12 ?_
 refine xa7 ?_
 refine A9 ?_
 refine xb2 rfl (decide_eq_false (by decide)) ?_
 refine A11 ?_
 exact x4 Plain.mk' rfl rfl Le.refl
theorem c_flat0Bytes:
  Ct Tryz.prog 95 [(tL 1 false (fun _:Nat=>tI 0) [])] (tB true):=by
 refine Ct.intro Tryz.func95 rfl Tryz.ntmps95 rfl ?_
 intro w F
 refine A12 ?_
 refine xa7 ?_
 refine A9 ?_
 refine xb2 rfl (decide_eq_false (by decide)) ?_
 refine A9 ?_
 refine R2 (xg1 (f:=fun _:Nat=>tL 1 false (fun _:Nat=>tI 0) []) (y0:=0) 0 0 Tryz.underlying86 el185 (fun _ _=>⟨none,0,rfl,Nat.le_refl _,by decide,.inl rfl⟩) inferInstance rfl rfl rfl (Nat.le_refl _) (by decide) (by decide) rfl) rfl rfl ?_
 refine A10 ?_
 refine xa7 ?_
 refine A9 ?_
 refine xb2 rfl (decide_eq_false (by decide)) ?_
 refine A12 ?_
 refine xa7 ?_
 refine A9 ?_
 refine xb2 rfl (decide_eq_false (by decide)) ?_
 refine A12 ?_
 refine xa7 ?_
 refine A9 ?_
 refine xb2 rfl (decide_eq_false (by decide)) ?_
 refine A12 ?_
 refine xa7 ?_
 refine A9 ?_
 refine xb2 rfl (decide_eq_false (by decide)) ?_
 refine A11 ?_
 exact x4 Plain.mk' rfl rfl Le.refl
theorem c_flat0Wholes:
  Ct Tryz.prog 96 [(tL 1 false (fun _:Nat=>tI 0) [])] (tB true):=by
 refine Ct.intro Tryz.func96 rfl Tryz.ntmps96 rfl ?_
 intro w F
 refine A12 ?_
 refine xa7 ?_
 refine A9 ?_
 refine xb2 rfl (decide_eq_false (by decide)) ?_
 refine A9 ?_
 refine R2 (xg1 (f:=fun _:Nat=>tL 1 false (fun _:Nat=>tI 0) []) (y0:=0) 0 0 Tryz.underlying87 el187 (fun _ _=>⟨none,0,rfl,Nat.le_refl _,by decide,.inl rfl⟩) inferInstance rfl rfl rfl (Nat.le_refl _) (by decide) (by decide) rfl) rfl rfl ?_
 refine A10 ?_
 refine xa7 ?_
 refine A9 ?_
 refine xb2 rfl (decide_eq_false (by decide)) ?_
 refine A12 ?_
 refine xa7 ?_
 refine A9 ?_
 refine xb2 rfl (decide_eq_false (by decide)) ?_
 refine A12 ?_
 refine xa7 ?_
 refine A9 ?_
 refine xb2 rfl (decide_eq_false (by decide)) ?_
 refine A12 ?_
 refine xa7 ?_
 refine A9 ?_
 refine xb2 rfl (decide_eq_false (by decide)) ?_
 refine A11 ?_
 exact x4 Plain.mk' rfl rfl Le.refl
theorem c_flat0Fracs:
  Ct Tryz.prog 97 [(tL 1 false (fun _:Nat=>tI 0) [])] (tB true):=by
 refine Ct.intro Tryz.func97 rfl Tryz.ntmps97 rfl ?_
 intro w F
 refine A12 ?_
 refine xa7 ?_
 refine A9 ?_
 refine xb2 rfl (decide_eq_false (by decide)) ?_
 refine A9 ?_
 refine R2 (xg1 (f:=fun _:Nat=>tL 1 false (fun _:Nat=>tI 0) []) (y0:=0) 0 0 Tryz.underlying88 el189 (fun _ _=>⟨none,0,rfl,Nat.le_refl _,by decide,.inl rfl⟩) inferInstance rfl rfl rfl (Nat.le_refl _) (by decide) (by decide) rfl) rfl rfl ?_
 refine A10 ?_
 refine xa7 ?_
 refine A9 ?_
 refine xb2 rfl (decide_eq_false (by decide)) ?_
 refine A12 ?_
 refine xa7 ?_
 refine A9 ?_
 refine xb2 rfl (decide_eq_false (by decide)) ?_
 refine A12 ?_
 refine xa7 ?_
 refine A9 ?_
 refine xb2 rfl (decide_eq_false (by decide)) ?_
 refine A12 ?_
 refine xa7 ?_
 refine A9 ?_
 refine xb2 rfl (decide_eq_false (by decide)) ?_
 refine A11 ?_
 exact x4 Plain.mk' rfl rfl Le.refl
theorem c_flat0Values:
  Ct Tryz.prog 98 [(tL 1 false (fun _:Nat=>tI 0) [])] (tB true):=by
 refine Ct.intro Tryz.func98 rfl Tryz.ntmps98 rfl ?_
 intro w F
 refine A12 ?_
 refine xa7 ?_
 refine A9 ?_
 refine xb2 rfl (decide_eq_false (by decide)) ?_
 refine A9 ?_
 refine R2 (xg1 (f:=fun _:Nat=>tL 1 false (fun _:Nat=>tI 0) []) (y0:=0) 0 0 Tryz.underlying89 el190 (fun _ _=>⟨none,0,rfl,Nat.le_refl _,by decide,.inl rfl⟩) inferInstance rfl rfl rfl (Nat.le_refl _) (by decide) (by decide) rfl) rfl rfl ?_
 refine A10 ?_
 refine xa7 ?_
 refine A9 ?_
 refine xb2 rfl (decide_eq_false (by decide)) ?_
 refine A12 ?_
 refine xa7 ?_
 refine A9 ?_
 refine xb2 rfl (decide_eq_false (by decide)) ?_
 refine A12 ?_
 refine xa7 ?_
 refine A9 ?_
 refine xb2 rfl (decide_eq_false (by decide)) ?_
 refine A12 ?_
 refine xa7 ?_
 refine A9 ?_
 refine xb2 rfl (decide_eq_false (by decide)) ?_
 refine A11 ?_
 exact x4 Plain.mk' rfl rfl Le.refl
theorem c_flat0Steps:
  Ct Tryz.prog 100 [(tL 1 false (fun _:Nat=>tI 0) [])] (tB true):=by
 refine Ct.intro Tryz.func100 rfl Tryz.ntmps100 rfl ?_
 intro w F
 refine A12 ?_
 refine xa7 ?_
 refine A9 ?_
 refine xb2 rfl (decide_eq_false (by decide)) ?_
 refine A9 ?_
 refine R2 (xg1 (f:=fun _:Nat=>tL 1 false (fun _:Nat=>tI 0) []) (y0:=0) 0 0 Tryz.underlying90 el22 (fun _ _=>⟨none,0,rfl,Nat.le_refl _,by decide,.inl rfl⟩) inferInstance rfl rfl rfl (Nat.le_refl _) (by decide) (by decide) rfl) rfl rfl ?_
 refine A10 ?_
 refine xa7 ?_
 refine A9 ?_
 refine xb2 rfl (decide_eq_false (by decide)) ?_
 refine A12 ?_
 refine xa7 ?_
 refine A9 ?_
 refine xb2 rfl (decide_eq_false (by decide)) ?_
 refine A12 ?_
 refine xa7 ?_
 refine A9 ?_
 refine xb2 rfl (decide_eq_false (by decide)) ?_
 refine A12 ?_
 refine xa7 ?_
 refine A9 ?_
 refine xb2 rfl (decide_eq_false (by decide)) ?_
 refine A11 ?_
 exact x4 Plain.mk' rfl rfl Le.refl
theorem c_flat0Facts:
  Ct Tryz.prog 101 [(tL 1 false (fun _:Nat=>tI 0) [])] (tB true):=by
 refine Ct.intro Tryz.func101 rfl Tryz.ntmps101 rfl ?_
 intro w F
 refine A12 ?_
 refine xa7 ?_
 refine A9 ?_
 refine xb2 rfl (decide_eq_false (by decide)) ?_
 refine A9 ?_
 refine R2 (xg1 (f:=fun _:Nat=>tL 1 false (fun _:Nat=>tI 0) []) (y0:=0) 0 0 Tryz.underlying91 el191 (fun _ _=>⟨none,0,rfl,Nat.le_refl _,by decide,.inl rfl⟩) inferInstance rfl rfl rfl (Nat.le_refl _) (by decide) (by decide) rfl) rfl rfl ?_
 refine A10 ?_
 refine xa7 ?_
 refine A9 ?_
 refine xb2 rfl (decide_eq_false (by decide)) ?_
 refine A12 ?_
 refine xa7 ?_
 refine A9 ?_
 refine xb2 rfl (decide_eq_false (by decide)) ?_
 refine A12 ?_
 refine xa7 ?_
 refine A9 ?_
 refine xb2 rfl (decide_eq_false (by decide)) ?_
 refine A12 ?_
 refine xa7 ?_
 refine A9 ?_
 refine xb2 rfl (decide_eq_false (by decide)) ?_
 refine A11 ?_
 exact x4 Plain.mk' rfl rfl Le.refl
theorem c_flat0Rows:
  Ct Tryz.prog 102 [(tL 1 false (fun _:Nat=>tI 0) [])] (tB true):=by
 refine Ct.intro Tryz.func102 rfl Tryz.ntmps102 rfl ?_
 intro w F
 refine A12 ?_
 refine xa7 ?_
 refine A9 ?_
 refine xb2 rfl (decide_eq_false (by decide)) ?_
 refine A9 ?_
 refine R2 (xg1 (f:=fun _:Nat=>tL 1 false (fun _:Nat=>tI 0) []) (y0:=0) 0 0 Tryz.underlying92 el196 (fun _ _=>⟨none,0,rfl,Nat.le_refl _,by decide,.inl rfl⟩) inferInstance rfl rfl rfl (Nat.le_refl _) (by decide) (by decide) rfl) rfl rfl ?_
 refine A10 ?_
 refine xa7 ?_
 refine A9 ?_
 refine xb2 rfl (decide_eq_false (by decide)) ?_
 refine A12 ?_
 refine xa7 ?_
 refine A9 ?_
 refine xb2 rfl (decide_eq_false (by decide)) ?_
 refine A12 ?_
 refine xa7 ?_
 refine A9 ?_
 refine xb2 rfl (decide_eq_false (by decide)) ?_
 refine A12 ?_
 refine xa7 ?_
 refine A9 ?_
 refine xb2 rfl (decide_eq_false (by decide)) ?_
 refine A11 ?_
 exact x4 Plain.mk' rfl rfl Le.refl
theorem c_flat0Tables:
  Ct Tryz.prog 103 [(tL 1 false (fun _:Nat=>tI 0) [])] (tB true):=by
 refine Ct.intro Tryz.func103 rfl Tryz.ntmps103 rfl ?_
 intro w F
 refine A12 ?_
 refine xa7 ?_
 refine A9 ?_
 refine xb2 rfl (decide_eq_false (by decide)) ?_
 refine A9 ?_
 refine R2 (xg1 (f:=fun _:Nat=>tL 1 false (fun _:Nat=>tI 0) []) (y0:=0) 0 0 Tryz.underlying93 el201 (fun _ _=>⟨none,0,rfl,Nat.le_refl _,by decide,.inl rfl⟩) inferInstance rfl rfl rfl (Nat.le_refl _) (by decide) (by decide) rfl) rfl rfl ?_
 refine A10 ?_
 refine xa7 ?_
 refine A9 ?_
 refine xb2 rfl (decide_eq_false (by decide)) ?_
 refine A12 ?_
 refine xa7 ?_
 refine A9 ?_
 refine xb2 rfl (decide_eq_false (by decide)) ?_
 refine A12 ?_
 refine xa7 ?_
 refine A9 ?_
 refine xb2 rfl (decide_eq_false (by decide)) ?_
 refine A12 ?_
 refine xa7 ?_
 refine A9 ?_
 refine xb2 rfl (decide_eq_false (by decide)) ?_
 refine A11 ?_
 exact x4 Plain.mk' rfl rfl Le.refl
theorem c_flat0Exprs:
  Ct Tryz.prog 104 [(tL 1 false (fun _:Nat=>tI 0) [])] (tB true):=by
 refine Ct.intro Tryz.func104 rfl Tryz.ntmps104 rfl ?_
 intro w F
 refine A12 ?_
 refine xa7 ?_
 refine A9 ?_
 refine xb2 rfl (decide_eq_false (by decide)) ?_
 refine A9 ?_
 refine R2 (xg1 (f:=fun _:Nat=>tL 1 false (fun _:Nat=>tI 0) []) (y0:=0) 0 0 Tryz.underlying94 el206 (fun _ _=>⟨none,0,rfl,Nat.le_refl _,by decide,.inl rfl⟩) inferInstance rfl rfl rfl (Nat.le_refl _) (by decide) (by decide) rfl) rfl rfl ?_
 refine A10 ?_
 refine xa7 ?_
 refine A9 ?_
 refine xb2 rfl (decide_eq_false (by decide)) ?_
 refine A12 ?_
 refine xa7 ?_
 refine A9 ?_
 refine xb2 rfl (decide_eq_false (by decide)) ?_
 refine A12 ?_
 refine xa7 ?_
 refine A9 ?_
 refine xb2 rfl (decide_eq_false (by decide)) ?_
 refine A12 ?_
 refine xa7 ?_
 refine A9 ?_
 refine xb2 rfl (decide_eq_false (by decide)) ?_
 refine A11 ?_
 exact x4 Plain.mk' rfl rfl Le.refl
theorem c_flat0Clauses:
  Ct Tryz.prog 105 [(tL 1 false (fun _:Nat=>tI 0) [])] (tB true):=by
 refine Ct.intro Tryz.func105 rfl Tryz.ntmps105 rfl ?_
 intro w F
 refine A12 ?_
 refine xa7 ?_
 refine A9 ?_
 refine xb2 rfl (decide_eq_false (by decide)) ?_
 refine A9 ?_
 refine R2 (xg1 (f:=fun _:Nat=>tL 1 false (fun _:Nat=>tI 0) []) (y0:=0) 0 0 Tryz.underlying95 el211 (fun _ _=>⟨none,0,rfl,Nat.le_refl _,by decide,.inl rfl⟩) inferInstance rfl rfl rfl (Nat.le_refl _) (by decide) (by decide) rfl) rfl rfl ?_
 refine A10 ?_
 refine xa7 ?_
 refine A9 ?_
 refine xb2 rfl (decide_eq_false (by decide)) ?_
 refine A12 ?_
 refine xa7 ?_
 refine A9 ?_
 refine xb2 rfl (decide_eq_false (by decide)) ?_
 refine A12 ?_
 refine xa7 ?_
 refine A9 ?_
 refine xb2 rfl (decide_eq_false (by decide)) ?_
 refine A12 ?_
 refine xa7 ?_
 refine A9 ?_
 refine xb2 rfl (decide_eq_false (by decide)) ?_
 refine A11 ?_
 exact x4 Plain.mk' rfl rfl Le.refl
theorem c_flat0Defs:
  Ct Tryz.prog 106 [(tL 1 false (fun _:Nat=>tI 0) [])] (tB true):=by
 refine Ct.intro Tryz.func106 rfl Tryz.ntmps106 rfl ?_
 intro w F
 refine A12 ?_
 refine xa7 ?_
 refine A9 ?_
 refine xb2 rfl (decide_eq_false (by decide)) ?_
 refine A9 ?_
 refine R2 (xg1 (f:=fun _:Nat=>tL 1 false (fun _:Nat=>tI 0) []) (y0:=0) 0 0 Tryz.underlying96 el216 (fun _ _=>⟨none,0,rfl,Nat.le_refl _,by decide,.inl rfl⟩) inferInstance rfl rfl rfl (Nat.le_refl _) (by decide) (by decide) rfl) rfl rfl ?_
 refine A10 ?_
 refine xa7 ?_
 refine A9 ?_
 refine xb2 rfl (decide_eq_false (by decide)) ?_
 refine A12 ?_
 refine xa7 ?_
 refine A9 ?_
 refine xb2 rfl (decide_eq_false (by decide)) ?_
 refine A12 ?_
 refine xa7 ?_
 refine A9 ?_
 refine xb2 rfl (decide_eq_false (by decide)) ?_
 refine A12 ?_
 refine xa7 ?_
 refine A9 ?_
 refine xb2 rfl (decide_eq_false (by decide)) ?_
 refine A11 ?_
 exact x4 Plain.mk' rfl rfl Le.refl
theorem c_flat0Plans:
  Ct Tryz.prog 107 [(tL 1 false (fun _:Nat=>tI 0) [])] (tB true):=by
 refine Ct.intro Tryz.func107 rfl Tryz.ntmps107 rfl ?_
 intro w F
 refine A12 ?_
 refine xa7 ?_
 refine A9 ?_
 refine xb2 rfl (decide_eq_false (by decide)) ?_
 refine A9 ?_
 refine R2 (xg1 (f:=fun _:Nat=>tL 1 false (fun _:Nat=>tI 0) []) (y0:=0) 0 0 Tryz.underlying97 el220 (fun _ _=>⟨none,0,rfl,Nat.le_refl _,by decide,.inl rfl⟩) inferInstance rfl rfl rfl (Nat.le_refl _) (by decide) (by decide) rfl) rfl rfl ?_
 refine A10 ?_
 refine xa7 ?_
 refine A9 ?_
 refine xb2 rfl (decide_eq_false (by decide)) ?_
 refine A12 ?_
 refine xa7 ?_
 refine A9 ?_
 refine xb2 rfl (decide_eq_false (by decide)) ?_
 refine A12 ?_
 refine xa7 ?_
 refine A9 ?_
 refine xb2 rfl (decide_eq_false (by decide)) ?_
 refine A12 ?_
 refine xa7 ?_
 refine A9 ?_
 refine xb2 rfl (decide_eq_false (by decide)) ?_
 refine A11 ?_
 exact x4 Plain.mk' rfl rfl Le.refl
theorem c_flat0Postings:
  Ct Tryz.prog 108 [(tL 1 false (fun _:Nat=>tI 0) [])] (tB true):=by
 refine Ct.intro Tryz.func108 rfl Tryz.ntmps108 rfl ?_
 intro w F
 refine A12 ?_
 refine xa7 ?_
 refine A9 ?_
 refine xb2 rfl (decide_eq_false (by decide)) ?_
 refine A9 ?_
 refine R2 (xg1 (f:=fun _:Nat=>tL 1 false (fun _:Nat=>tI 0) []) (y0:=0) 0 0 Tryz.underlying98 el225 (fun _ _=>⟨none,0,rfl,Nat.le_refl _,by decide,.inl rfl⟩) inferInstance rfl rfl rfl (Nat.le_refl _) (by decide) (by decide) rfl) rfl rfl ?_
 refine A10 ?_
 refine xa7 ?_
 refine A9 ?_
 refine xb2 rfl (decide_eq_false (by decide)) ?_
 refine A12 ?_
 refine xa7 ?_
 refine A9 ?_
 refine xb2 rfl (decide_eq_false (by decide)) ?_
 refine A12 ?_
 refine xa7 ?_
 refine A9 ?_
 refine xb2 rfl (decide_eq_false (by decide)) ?_
 refine A12 ?_
 refine xa7 ?_
 refine A9 ?_
 refine xb2 rfl (decide_eq_false (by decide)) ?_
 refine A11 ?_
 exact x4 Plain.mk' rfl rfl Le.refl
theorem c_flat0Orders:
  Ct Tryz.prog 109 [(tL 1 false (fun _:Nat=>tI 0) [])] (tB true):=by
 refine Ct.intro Tryz.func109 rfl Tryz.ntmps109 rfl ?_
 intro w F
 refine A12 ?_
 refine xa7 ?_
 refine A9 ?_
 refine xb2 rfl (decide_eq_false (by decide)) ?_
 refine A9 ?_
 refine R2 (xg1 (f:=fun _:Nat=>tL 1 false (fun _:Nat=>tI 0) []) (y0:=0) 0 0 Tryz.underlying99 el229 (fun _ _=>⟨none,0,rfl,Nat.le_refl _,by decide,.inl rfl⟩) inferInstance rfl rfl rfl (Nat.le_refl _) (by decide) (by decide) rfl) rfl rfl ?_
 refine A10 ?_
 refine xa7 ?_
 refine A9 ?_
 refine xb2 rfl (decide_eq_false (by decide)) ?_
 refine A12 ?_
 refine xa7 ?_
 refine A9 ?_
 refine xb2 rfl (decide_eq_false (by decide)) ?_
 refine A12 ?_
 refine xa7 ?_
 refine A9 ?_
 refine xb2 rfl (decide_eq_false (by decide)) ?_
 refine A12 ?_
 refine xa7 ?_
 refine A9 ?_
 refine xb2 rfl (decide_eq_false (by decide)) ?_
 refine A11 ?_
 exact x4 Plain.mk' rfl rfl Le.refl
theorem c_flat0Events:
  Ct Tryz.prog 110 [(tL 1 false (fun _:Nat=>tI 0) [])] (tB true):=by
 refine Ct.intro Tryz.func110 rfl Tryz.ntmps110 rfl ?_
 intro w F
 refine A12 ?_
 refine xa7 ?_
 refine A9 ?_
 refine xb2 rfl (decide_eq_false (by decide)) ?_
 refine A9 ?_
 refine R2 (xg1 (f:=fun _:Nat=>tL 1 false (fun _:Nat=>tI 0) []) (y0:=0) 0 0 Tryz.underlying100 el233 (fun _ _=>⟨none,0,rfl,Nat.le_refl _,by decide,.inl rfl⟩) inferInstance rfl rfl rfl (Nat.le_refl _) (by decide) (by decide) rfl) rfl rfl ?_
 refine A10 ?_
 refine xa7 ?_
 refine A9 ?_
 refine xb2 rfl (decide_eq_false (by decide)) ?_
 refine A12 ?_
 refine xa7 ?_
 refine A9 ?_
 refine xb2 rfl (decide_eq_false (by decide)) ?_
 refine A12 ?_
 refine xa7 ?_
 refine A9 ?_
 refine xb2 rfl (decide_eq_false (by decide)) ?_
 refine A12 ?_
 refine xa7 ?_
 refine A9 ?_
 refine xb2 rfl (decide_eq_false (by decide)) ?_
 refine A11 ?_
 exact x4 Plain.mk' rfl rfl Le.refl
theorem c_flat0Filings:
  Ct Tryz.prog 111 [(tL 1 false (fun _:Nat=>tI 0) [])] (tB true):=by
 refine Ct.intro Tryz.func111 rfl Tryz.ntmps111 rfl ?_
 intro w F
 refine A12 ?_
 refine xa7 ?_
 refine A9 ?_
 refine xb2 rfl (decide_eq_false (by decide)) ?_
 refine A9 ?_
 refine R2 (xg1 (f:=fun _:Nat=>tL 1 false (fun _:Nat=>tI 0) []) (y0:=0) 0 0 Tryz.underlying101 el238 (fun _ _=>⟨none,0,rfl,Nat.le_refl _,by decide,.inl rfl⟩) inferInstance rfl rfl rfl (Nat.le_refl _) (by decide) (by decide) rfl) rfl rfl ?_
 refine A10 ?_
 refine xa7 ?_
 refine A9 ?_
 refine xb2 rfl (decide_eq_false (by decide)) ?_
 refine A12 ?_
 refine xa7 ?_
 refine A9 ?_
 refine xb2 rfl (decide_eq_false (by decide)) ?_
 refine A12 ?_
 refine xa7 ?_
 refine A9 ?_
 refine xb2 rfl (decide_eq_false (by decide)) ?_
 refine A12 ?_
 refine xa7 ?_
 refine A9 ?_
 refine xb2 rfl (decide_eq_false (by decide)) ?_
 refine A11 ?_
 exact x4 Plain.mk' rfl rfl Le.refl
theorem c_flat0Cases:
  Ct Tryz.prog 112 [(tL 1 false (fun _:Nat=>tI 0) [])] (tB true):=by
 refine Ct.intro Tryz.func112 rfl Tryz.ntmps112 rfl ?_
 intro w F
 refine A12 ?_
 refine xa7 ?_
 refine A9 ?_
 refine xb2 rfl (decide_eq_false (by decide)) ?_
 refine A9 ?_
 refine R2 (xg1 (f:=fun _:Nat=>tL 1 false (fun _:Nat=>tI 0) []) (y0:=0) 0 0 Tryz.underlying102 el242 (fun _ _=>⟨none,0,rfl,Nat.le_refl _,by decide,.inl rfl⟩) inferInstance rfl rfl rfl (Nat.le_refl _) (by decide) (by decide) rfl) rfl rfl ?_
 refine A10 ?_
 refine xa7 ?_
 refine A9 ?_
 refine xb2 rfl (decide_eq_false (by decide)) ?_
 refine A12 ?_
 refine xa7 ?_
 refine A9 ?_
 refine xb2 rfl (decide_eq_false (by decide)) ?_
 refine A12 ?_
 refine xa7 ?_
 refine A9 ?_
 refine xb2 rfl (decide_eq_false (by decide)) ?_
 refine A12 ?_
 refine xa7 ?_
 refine A9 ?_
 refine xb2 rfl (decide_eq_false (by decide)) ?_
 refine A11 ?_
 exact x4 Plain.mk' rfl rfl Le.refl
theorem c_flat0Changes:
  Ct Tryz.prog 113 [(tL 1 false (fun _:Nat=>tI 0) [])] (tB true):=by
 refine Ct.intro Tryz.func113 rfl Tryz.ntmps113 rfl ?_
 intro w F
 refine A12 ?_
 refine xa7 ?_
 refine A9 ?_
 refine xb2 rfl (decide_eq_false (by decide)) ?_
 refine A9 ?_
 refine R2 (xg1 (f:=fun _:Nat=>tL 1 false (fun _:Nat=>tI 0) []) (y0:=0) 0 0 Tryz.underlying103 el247 (fun _ _=>⟨none,0,rfl,Nat.le_refl _,by decide,.inl rfl⟩) inferInstance rfl rfl rfl (Nat.le_refl _) (by decide) (by decide) rfl) rfl rfl ?_
 refine A10 ?_
 refine xa7 ?_
 refine A9 ?_
 refine xb2 rfl (decide_eq_false (by decide)) ?_
 refine A12 ?_
 refine xa7 ?_
 refine A9 ?_
 refine xb2 rfl (decide_eq_false (by decide)) ?_
 refine A12 ?_
 refine xa7 ?_
 refine A9 ?_
 refine xb2 rfl (decide_eq_false (by decide)) ?_
 refine A12 ?_
 refine xa7 ?_
 refine A9 ?_
 refine xb2 rfl (decide_eq_false (by decide)) ?_
 refine A11 ?_
 exact x4 Plain.mk' rfl rfl Le.refl
theorem c_flat0Deltas:
  Ct Tryz.prog 114 [(tL 1 false (fun _:Nat=>tI 0) [])] (tB true):=by
 refine Ct.intro Tryz.func114 rfl Tryz.ntmps114 rfl ?_
 intro w F
 refine A12 ?_
 refine xa7 ?_
 refine A9 ?_
 refine xb2 rfl (decide_eq_false (by decide)) ?_
 refine A9 ?_
 refine R2 (xg1 (f:=fun _:Nat=>tL 1 false (fun _:Nat=>tI 0) []) (y0:=0) 0 0 Tryz.underlying104 el252 (fun _ _=>⟨none,0,rfl,Nat.le_refl _,by decide,.inl rfl⟩) inferInstance rfl rfl rfl (Nat.le_refl _) (by decide) (by decide) rfl) rfl rfl ?_
 refine A10 ?_
 refine xa7 ?_
 refine A9 ?_
 refine xb2 rfl (decide_eq_false (by decide)) ?_
 refine A12 ?_
 refine xa7 ?_
 refine A9 ?_
 refine xb2 rfl (decide_eq_false (by decide)) ?_
 refine A12 ?_
 refine xa7 ?_
 refine A9 ?_
 refine xb2 rfl (decide_eq_false (by decide)) ?_
 refine A12 ?_
 refine xa7 ?_
 refine A9 ?_
 refine xb2 rfl (decide_eq_false (by decide)) ?_
 refine A11 ?_
 exact x4 Plain.mk' rfl rfl Le.refl
end An.S
namespace An
open Go
def poolK (n:Nat) (R:Nat→HEnt):Keys:=fun q=>cond (Nat.ble 100 q && Nat.blt q (100+n)) (some (R (q - 100))) none
def poolL (n:Nat) (R:Nat→HEnt):List (Nat×HEnt):=(List.range n).map fun j=>(j+100,R j)
def owns (n es:Nat) (len:Nat→Nat):List Ent:=(List.range n).map fun j=> .own (.sl (j+100) es 0 (len j))
theorem poolK_get {n k:Nat} {R:Nat→HEnt} (h:k < n):poolK n R (k+100)=some (R k):=by
 have h1:Nat.ble 100 (k+100)=true:=Nat.ble_eq_true_of_le (by omega)
 have h2:Nat.blt (k+100) (100+n)=true:=by simp [Nat.blt];omega
 simp [poolK,h1,h2]
theorem xs4 {n q:Nat} {R:Nat→HEnt} {x:HEnt} (h:poolK n R q=some x): ∃k,k < n∧q=k+100∧x=R k:=by
 simp only [poolK] at h
 cases hc:(Nat.ble 100 q && Nat.blt q (100+n)) with
 | false=>rw [hc] at h;cases h
 | true=>
  rw [hc] at h
  cases h
  simp only [Bool.and_eq_true,Nat.ble_eq,Nat.blt_eq] at hc
  exact ⟨q - 100,by omega,by omega,rfl⟩
theorem poolK_no {n q:Nat} {R:Nat→HEnt} (h: ∀k,k < n→q≠k+100):poolK n R q=none:=by
 cases hc:poolK n R q with
 | none=>rfl
 | some x=>obtain ⟨k,h1,h2,_⟩:=xs4 hc;exact absurd h2 (h k h1)
theorem xp0 {n es k:Nat} {len:Nat→Nat} (h:k < n):(owns n es len)[k]? =some (.own (.sl (k+100) es 0 (len k))):=by
 simp [owns,List.getElem?_map,List.getElem?_range h]
theorem owns_supp {n es k:Nat} {len:Nat→Nat} (h:k∈(owns n es len).flatMap Ent.supp): ∃j,j < n∧k=j+100:=by
 simp only [owns,List.mem_flatMap,List.mem_map,List.mem_range] at h
 obtain ⟨e,⟨j,hj,rfl⟩,hk⟩:=h
 simp only [Ent.supp,VP.supp,List.mem_singleton] at hk
 exact ⟨j,hj,hk⟩
theorem rV_supp {α:Type} {f:α→Ty} {xs:List α} {k:Nat} (h:k∈(rV f xs).flatMap Ent.supp):False:=by
 simp only [rV,List.mem_flatMap,List.mem_map] at h
 obtain ⟨e,⟨x,_,rfl⟩,hk⟩:=h
 cases hk
theorem keysOf_get {H:List (Nat×HEnt)} {k:Nat} {x:HEnt} (hx:(k,x)∈H) (hu: ∀y,(k,y)∈H→y=x):keysOf H k=some x:=by
 have key: ∀(l:List (Nat×HEnt)) (h:Keys),(∀y,h k=some y→y=x)→(∀y,(k,y)∈l→y=x)→((k,x)∈l∨h k=some x)→updK h (l.map fun x=>(x.1,some x.2)) k=some x:=by
  intro l
  induction l with
  | nil=>intro h _ _ h2;rcases h2 with h2 | h2;cases h2;exact h2
  | cons y r ih=>
   intro h h0 h1 h2
   refine ih _ (fun z hz=> ?_) (fun z hz=>h1 z (List.mem_cons_of_mem _ hz)) ?_
   ·by_cases hk:k=y.1
    ·rw [hk,xa9] at hz;cases hz;exact h1 _ (by rw [hk];simp)
    ·rw [x7 _ _ _ hk] at hz;exact h0 z hz
   ·rcases h2 with h2 | h2
    ·rcases List.mem_cons.1 h2 with rfl | h2
     ·exact .inr (xa9 _ _ _)
     ·exact .inl h2
    ·by_cases hk:k=y.1
     ·have:y.2=x:=h1 _ (by rw [hk];simp)
      exact .inr (by show upd h y.1 (some y.2) k=some x;rw [hk,xa9,this])
     ·exact .inr (by show upd h y.1 (some y.2) k=some x;rw [x7 _ _ _ hk];exact h2)
 exact key H _ (fun _ h=>by cases h) hu (.inl hx)
theorem poolL_mem {n k:Nat} {R:Nat→HEnt} {x:HEnt} (h:(k,x)∈poolL n R): ∃j,j < n∧k=j+100∧x=R j:=by
 simp only [poolL,List.mem_map,List.mem_range,Prod.mk.injEq] at h
 obtain ⟨j,hj,h1,h2⟩:=h
 exact ⟨j,hj,h1.symm,h2.symm⟩
theorem keysOf_pool {n:Nat} {R:Nat→HEnt} {X:HEnt}:SubK (upd (poolK n R) 20 (some X)) (keysOf ((20,X)::poolL n R)):=fun q x hx=>by
 by_cases hq:q=20
 ·subst hq
  rw [xa9] at hx
  cases hx
  exact ⟨_,keysOf_get (by simp) (fun y hy=>by
   rcases List.mem_cons.1 hy with hy | hy
   ·cases hy;rfl
   ·obtain ⟨j,_,h2,_⟩:=poolL_mem hy;omega),rfl,.refl⟩
 ·rw [x7 _ _ _ hq] at hx
  obtain ⟨k,h1,rfl,rfl⟩:=xs4 hx
  refine ⟨_,keysOf_get (x:=R k) (List.mem_cons_of_mem _ ?_) (fun y hy=> ?_),rfl,.refl⟩
  ·simp only [poolL,List.mem_map,List.mem_range];exact ⟨k,h1,rfl⟩
  ·rcases List.mem_cons.1 hy with hy | hy
   ·exact absurd (Prod.ext_iff.1 hy).1 hq
   ·obtain ⟨j,_,h2,rfl⟩:=poolL_mem hy
    have:j=k:=by omega
    rw [this]
def poolN (n:Nat):List Nat:=20::(List.range n).map (· +100)
theorem poolN_mem {n k:Nat} (h:k∈poolN n):k=20∨ ∃j,j < n∧k=j+100:=by
 simp only [poolN,List.mem_cons,List.mem_map,List.mem_range] at h
 rcases h with h | ⟨j,hj,h⟩
 ·exact .inl h
 ·exact .inr ⟨j,hj,h.symm⟩
def alP (b:Bool) (m:Nat):Names:=fun q=>Nat.beq q 20 || (b && Nat.beq q 21) || (Nat.ble 100 q && Nat.blt q m)
theorem alP_in {b:Bool} {m q:Nat} (h1:100≤q) (h2:q < m):alP b m q=true:=by
 simp [alP,Nat.ble_eq_true_of_le h1,Nat.blt]
 right;omega
theorem alP_out {b:Bool} {m:Nat} (h:100≤m):alP b m m=false:=by
 have nb: ∀k,m≠k→Nat.beq m k=false:=fun k hk=>by
  cases hb:Nat.beq m k with
  | false=>rfl
  | true=>exact absurd (Nat.eq_of_beq_eq_true hb) hk
 have h3:Nat.blt m m=false:=by
  cases hb:Nat.blt m m with
  | false=>rfl
  | true=>exact absurd (Nat.le_of_ble_eq_true hb) (Nat.lt_irrefl m)
 simp [alP,nb 20 (by omega),nb 21 (by omega),h3]
theorem lkP {b:Bool} {N n m:Nat} {w:World} {F:Dom} {η:Env} {H:List (Nat×HEnt)} (h:n+100≤m):LkOk (Base.lent N w F η (poolN n) H) (alP b m):=
 ⟨fun k hk=>by
  rcases poolN_mem hk with rfl | ⟨j,hj,rfl⟩
  ·rfl
  ·exact alP_in (by omega) (by omega),fun k hk=>by cases hk⟩
theorem supP {b:Bool} {n m:Nat} {R:Nat→HEnt} {T es:Nat} {len:Nat→Nat} (h:n+100≤m) (hR: ∀k,k < n→(R k).supp=[]):SupH (upd (poolK n R) 20 (some ⟨T,1,false,owns n es len⟩)) (alP b m):=fun q x hx=>by
 by_cases hq:q=20
 ·subst hq
  rw [xa9] at hx
  cases hx
  exact ⟨rfl,fun j hj=>by obtain ⟨i,hi,rfl⟩:=owns_supp hj;exact alP_in (by omega) (by omega)⟩
 ·rw [x7 _ _ _ hq] at hx
  obtain ⟨k,h1,rfl,rfl⟩:=xs4 hx
  exact ⟨alP_in (by omega) (by omega),fun j hj=>by rw [hR k h1] at hj;cases hj⟩
section
variable {α:Type} (L:Nat→List α) (m:Nat→Nat→α) (d:α)
def cM (k i j:Nat):List α:=(List.range (L j).length).map fun t=>if j < k∨(j=k∧t < i) then m j t else (L j).getD t d
def mkL (j n:Nat):List α:=(List.range n).map (m j)
variable {L m d}
theorem cM_len {k i j:Nat}:(cM L m d k i j).length=(L j).length:=by simp [cM]
theorem mkL_len {j n:Nat}:(mkL m j n).length=n:=by simp [mkL]
theorem cM_0 {j:Nat}:cM L m d 0 0 j=L j:=by
 apply List.ext_getElem?
 intro t
 rw [cM,List.getElem?_map]
 rcases Nat.lt_or_ge t (L j).length with h | h
 ·rw [List.getElem?_range h]
  simp [List.getD_eq_getElem?_getD,List.getElem?_eq_getElem h]
 ·rw [List.getElem?_eq_none (by simpa using h),List.getElem?_eq_none h];rfl
theorem cM_set {k i:Nat} (hi:i < (L k).length):(cM L m d k i k).set i (m k i)=cM L m d k (i+1) k:=by
 apply List.ext_getElem?
 intro t
 rw [List.getElem?_set]
 rcases Nat.lt_or_ge t (L k).length with h | h
 ·simp only [cM,List.getElem?_map,List.getElem?_range h,List.length_map,List.length_range,Option.map_some]
  by_cases hit:i=t
  ·subst hit;simp [h]
  ·rw [if_neg hit]
   by_cases h1:t < i
   ·simp [h1,show t < i+1 by omega]
   ·simp [h1,show ¬t < i+1 by omega]
 ·rw [if_neg (by omega),List.getElem?_eq_none (by rw [cM_len];exact h),List.getElem?_eq_none (by rw [cM_len];exact h)]
theorem cM_oth {k i j:Nat} (h:j≠k):cM L m d k (i+1) j=cM L m d k i j:=by
 simp only [cM]
 congr 1;funext t
 by_cases h1:j < k
 ·rw [if_pos (.inl h1),if_pos (.inl h1)]
 ·rw [if_neg (by omega),if_neg (by omega)]
theorem cM_next {k j:Nat}:cM L m d (k+1) 0 j=cM L m d k (L k).length j:=by
 apply List.map_congr_left
 intro t ht
 rw [List.mem_range] at ht
 by_cases h1:j < k
 ·rw [if_pos (.inl (by omega)),if_pos (.inl h1)]
 ·by_cases h2:j=k
  ·subst h2;rw [if_pos (.inl (by omega)),if_pos (.inr ⟨rfl,ht⟩)]
  ·rw [if_neg (by omega),if_neg (by omega)]
theorem cM_end {k j:Nat} (h:j < k):cM L m d k 0 j=mkL m j (L j).length:=by
 simp only [cM,mkL]
 congr 1;funext t
 rw [if_pos (.inl h)]
theorem mkL_succ {j n:Nat}:mkL m j n++[m j n]=mkL m j (n+1):=by simp [mkL,List.range_succ]
theorem mkL_get {j n t:Nat} (h:t < n):(mkL m j n)[t]? =some (m j t):=by simp [mkL,List.getElem?_map,List.getElem?_range h]
theorem mkL_pre {j n k:Nat} (h:k≤n): ∀(t:Nat) (x:α),(mkL m j k)[t]? =some x→(mkL m j n)[t]? =some x:=fun t x hx=>by
 have ht:t < k:=by have:=(List.getElem?_eq_some_iff.1 hx).1;rwa [mkL_len] at this
 rw [mkL_get ht] at hx
 rw [mkL_get (by omega),hx]
end
def pileK (κ:Nat→Nat) (R:Nat→HEnt):Nat→Keys→Keys
 | 0,h=>h
 | k+1,h=>upd (pileK κ R k h) (κ k) (some (R k))
theorem xj9 {κ:Nat→Nat} {R:Nat→HEnt} {h:Keys} {q:Nat}: ∀{k:Nat},(∀j,j < k→q≠κ j)→pileK κ R k h q=h q
 | 0,_=>rfl
 | k+1,H=>by rw [pileK,x7 _ _ _ (H k (by omega)),xj9 fun j hj=>H j (by omega)]
theorem pile_get {κ:Nat→Nat} {R:Nat→HEnt} {h:Keys} {j:Nat}: ∀{k:Nat},(∀i,i < k→i≠j→κ j≠κ i)→j < k→pileK κ R k h (κ j)=some (R j)
 | k+1,H,hj=>by
  by_cases hjk:j=k
  ·subst hjk;exact xa9 _ _ _
  ·rw [pileK,x7 _ _ _ (H k (by omega) (by omega))]
   exact pile_get (fun i hi=>H i (by omega)) (by omega)
theorem pile_lt {κ:Nat→Nat} {R:Nat→HEnt} {h:Keys} {q:Nat} {x:HEnt}: ∀{k:Nat},pileK κ R k h q=some x→(∃j,j < k∧q=κ j∧x=R j)∨h q=some x
 | 0,H=> .inr H
 | k+1,H=>by
  by_cases hq:q=κ k
  ·subst hq;rw [pileK,xa9] at H;cases H;exact .inl ⟨k,by omega,rfl,rfl⟩
  ·rw [pileK,x7 _ _ _ hq] at H
   rcases pile_lt H with ⟨j,h1,h2⟩ | h1
   ·exact .inl ⟨j,by omega,h2⟩
   ·exact .inr h1
theorem pile_congr {κ κ':Nat→Nat} {R:Nat→HEnt} {h:Keys}: ∀{k:Nat},(∀j,j < k→κ' j=κ j)→pileK κ' R k h=pileK κ R k h
 | 0,_=>rfl
 | k+1,H=>by rw [pileK,pileK,pile_congr fun j hj=>H j (by omega),H k (by omega)]
theorem pile_base {κ:Nat→Nat} {R:Nat→HEnt} {h h':Keys} {q:Nat} (H:h' q=h q): ∀{k:Nat},pileK κ R k h' q=pileK κ R k h q
 | 0=>H
 | k+1=>by
  by_cases hq:q=κ k
  ·subst hq;rw [pileK,pileK,xa9,xa9]
  ·rw [pileK,pileK,x7 _ _ _ hq,x7 _ _ _ hq,pile_base H]
theorem SubK.eq {h h':Keys} (H: ∀q x,h' q=some x→h q=some x):SubK h' h:=fun q x hx=>⟨x,H q x hx,rfl,.refl⟩
def setN (κ:Nat→Nat) (k v:Nat):Nat→Nat:=fun j=>if j=k then v else κ j
theorem setN_same {κ:Nat→Nat} {k v:Nat}:setN κ k v k=v:=if_pos rfl
theorem xt6 {κ:Nat→Nat} {k v j:Nat} (h:j≠k):setN κ k v j=κ j:=if_neg h
def okN (k x:Nat):Prop:=x=k+100∨(2000+64*k≤x∧x < 2064+64*k)
theorem okN.lt {k x m:Nat} (h:okN k x) (hk:k≤900) (hm:2064+64*k≤m):100≤x∧x < m:=by rcases h with h | h <;> omega
theorem okN.ne {k j x y:Nat} (h:okN k x) (h':okN j y) (hk:k≤900) (hj:j≤900) (hne:k≠j):x≠y:=by rcases h with h | h <;> rcases h' with h' | h' <;> omega
theorem SubK.over {h:Keys} {v q:Nat} {r r':HEnt} (H: ∀y,h q=some y→r.T=y.T∧ImpK r y):SubK (upd h v (some r')) (upd (upd h q (some r)) v (some r')):=fun t x hx=>by
 by_cases htv:t=v
 ·subst htv;rw [xa9] at hx ⊢;exact ⟨_,rfl,by cases hx;rfl,by cases hx;exact .refl⟩
 ·rw [x7 _ _ _ htv] at hx ⊢
  by_cases htq:t=q
  ·subst htq;rw [xa9];exact ⟨r,rfl,H x hx⟩
  ·rw [x7 _ _ _ htq];exact ⟨x,hx,rfl,.refl⟩
def gsR (n es:Nat) (κ len:Nat→Nat) (t0:Nat→Ent) (k:Nat):List Ent:=(List.range n).map fun j=>if j < k then .own (.sl (κ j) es 0 (len j)) else t0 j
section
variable {n es k:Nat} {κ len:Nat→Nat} {t0:Nat→Ent}
theorem gsR_len:(gsR n es κ len t0 k).length=n:=by simp [gsR]
theorem gsR_get {j:Nat} (hj:j < n) (hk:j < k):(gsR n es κ len t0 k)[j]? =some (.own (.sl (κ j) es 0 (len j))):=by
 simp [gsR,List.getElem?_map,List.getElem?_range hj,hk]
theorem gsR_rep {e:Ent}:List.replicate n e=gsR n es κ len (fun _=>e) 0:=by
 apply List.ext_getElem?
 intro t
 rw [gsR,List.getElem?_map]
 rcases Nat.lt_or_ge t n with h | h
 ·rw [List.getElem?_range h,List.getElem?_replicate,if_pos h];simp
 ·rw [List.getElem?_eq_none (by simpa using h),List.getElem?_eq_none (by simpa using h)];rfl
theorem gsR_set {v:Nat} (hk:k < n):(gsR n es κ len t0 k).set k (.own (.sl v es 0 (len k)))=gsR n es (setN κ k v) len t0 (k+1):=by
 apply List.ext_getElem?
 intro t
 rw [List.getElem?_set]
 rcases Nat.lt_or_ge t n with h | h
 ·simp only [gsR,List.getElem?_map,List.getElem?_range h,List.length_map,List.length_range,Option.map_some]
  by_cases hit:k=t
  ·subst hit;simp [h,setN]
  ·rw [if_neg hit]
   by_cases h1:t < k
   ·simp [h1,show t < k+1 by omega,xt6 (κ:=κ) (v:=v) (show t≠k by omega)]
   ·simp [h1,show ¬t < k+1 by omega]
 ·rw [if_neg (by omega),List.getElem?_eq_none (by rw [gsR_len];exact h),List.getElem?_eq_none (by rw [gsR_len];exact h)]
theorem gsR_supp {q:Nat} (h:q∈(gsR n es κ len t0 k).flatMap Ent.supp):(∃j,j < n∧j < k∧q=κ j)∨ ∃j,j < n∧q∈(t0 j).supp:=by
 simp only [gsR,List.mem_flatMap,List.mem_map,List.mem_range] at h
 obtain ⟨e,⟨j,hj,rfl⟩,hk⟩:=h
 by_cases hjk:j < k
 ·rw [if_pos hjk] at hk
  simp only [Ent.supp,VP.supp,List.mem_singleton] at hk
  exact .inl ⟨j,hj,hjk,hk⟩
 ·rw [if_neg hjk] at hk
  exact .inr ⟨j,hj,hk⟩
end
section
variable {P:Program} {c:Base} {g:Slots} {h:Keys} {al:Names} {a:Act} {w:World} {η:Env}
theorem St'.giveL (s:St' c g h al a w η) {k:Nat} {T es off len:Nat} {agg:Bool} {ts:List Ent} {α:Type} {f:α→Ty} {xs:List α} (hk:h k=some ⟨T,es,agg,ts⟩) (hlb:0 < η.c k→ ¬c.lb (η.b k))
  (hts:(ts.drop off).take len=xs.map fun x=> .val (f x)) (hl:xs.length=len) {v:Value} (hv:(Ent.own (.sl k es off len)).sat (c.dom h η) w η v):(tL es agg f xs).p (c.dom (upd h k none) η) w v:=by
 subst hl
 obtain ⟨A,h1,h2,h3⟩:=hv
 obtain ⟨h4,h5,⟨h6,h7,h8,h9,h10⟩,h11⟩:=s.key k _ hk
 simp only at h7 h8 h9 h10
 refine ⟨A,_,h1,by omega,by omega,?_⟩
 rcases Nat.eq_zero_or_pos xs.length with h0 | h0
 ·exact .inl (List.eq_nil_of_length_eq_zero h0)
 ·have hc:0 < η.c k:=by omega
  obtain ⟨cs,e1,e2,e3⟩:=h10 hc
  obtain ⟨d1,d2,d3⟩:=h11 hc
  have d1:c.w0.heap.size≤η.b k:=d1.resolve_right (hlb hc)
  refine .inr ⟨η.b k,off*es,h3 (by omega),⟨.inl d1,?_,d2,d3⟩,fun i x hi=> ?_⟩
  ·rintro ⟨j,y,hj,hcj,e⟩
   by_cases hjk:j=k
   ·subst hjk;rw [xa9] at hj;cases hj
   ·rw [x7 _ _ _ hjk] at hj
    exact s.inj j k y _ hj hk hjk hcj hc e.symm
  ·have hil:i < xs.length:=(List.getElem?_eq_some_iff.1 hi).1
   have he:=e3 (off+i) _ (map_get hts i x hi)
   have hle:off*es+i*es+es≤cs.size:=by
    rw [e2,←Nat.add_mul,←Nat.succ_mul];exact Nat.mul_le_mul_right _ (by omega)
   refine ⟨_,⟨cs,_,_,e1,hle,h7,h8,rfl⟩,?_⟩
   rw [←Nat.add_mul]
   exact (f x).mono he (Keep.drop k)
theorem C_giveL {Q:Exit→Act→World→Prop} {x:Code} {t k T es off len:Nat} {agg:Bool} {ts:List Ent} {α:Type} {f:α→Ty} {xs:List α} (hg:g t=some (.own (.sl k es off len))) (hk:h k=some ⟨T,es,agg,ts⟩)
  (hlb: ∀b,c.lb b→ ∃j y,j∈c.ln∧j≠k∧h j=some y∧0 < c.lη.c j∧b=c.lη.b j)
  (hts:(ts.drop off).take len=xs.map fun x=> .val (f x)) (hl:xs.length=len) (H:wc P c x Q (upd g t (some (.val (tL es agg f xs)))) (upd h k none) al):wc P c x Q g h al:=fun a w ⟨η,s⟩=>by
 have h2:=s.giveL hk (fun hc hb=>by
  obtain ⟨j,y,h1,h2,h3,h4,h5⟩:=hlb _ hb
  obtain ⟨_,e1,e2⟩:=s.lk j h1
  exact s.inj j k y _ h3 hk h2 (by rw [e2];exact h4) hc (by rw [e1,←h5])) hts hl (s.slot t _ hg).2.2
 have s2:=(s.drop k).put (s.slot t _ hg).1 (e:= .val (tL es agg f xs)) h2 fun j hj=>by cases hj
 refine H a w ⟨η,?_⟩
 have e:a.put (some t) (a.tmps.getD t undef)=a:=by
  have hlt:t < a.tmps.size:=by rw [s.tn];exact (s.slot t _ hg).1
  have:a.tmps.setIfInBounds t (a.tmps.getD t undef)=a.tmps:=by
   apply Array.ext_getElem?
   intro i
   rw [Array.getElem?_setIfInBounds]
   by_cases hi:t=i
   ·subst hi;simp [hlt]
   ·simp [hi]
  simp only [Act.put,this]
 rwa [e] at s2
end
end An
namespace An.S
open Go Go.Proofs An
instance sl53:SlI Tryz.prog 53 45 1 false:=⟨Tryz.underlying53,ti45⟩
instance fi162:FnI Tryz.prog 162:=⟨_,Tryz.func162,by kernel_rfl,rfl⟩
def mSn (k i:Nat):Sn:=⟨1000003*((k:Int)+7)+(i:Int),0⟩
theorem c_markK2 (k i:Nat) (hk:k < 2000) (hi:i < 10000000):
  Ct Tryz.prog 84 [tI k,tI i] (tI (1000003*((k:Int)+7)+(i:Int))):=by
 refine Ct.intro Tryz.func84 rfl Tryz.ntmps84 rfl ?_
 intro w F
 refine A9 ?_
 refine R2 (xk0 (wr64 (by omega) (by omega))) rfl rfl ?_
 refine A6 ?_
 exact x4 Plain.mk' rfl rfl Le.refl
theorem xp7 (k i:Nat) (hk:k < 2000) (hi:i < 10000000):
  Ct Tryz.prog 162 [tI k,tI i] (tSn (mSn k i)):=by
 refine Ct.intro Tryz.func162 rfl Tryz.ntmps162 rfl ?_
 intro w F
 refine A2 ?_
 refine RE (x9 (k:=4) (n:=2) (agg:=true) zr62.1 zr62.2 rfl) trivial trivial ⟨rfl,trivial⟩ ?_
 refine A6 ?_
 refine R2 (x3 (c_markK2 k i hk hi) fi84 rfl) rfl rfl (R1 (xb8 (r:=tS [⟨1,false,tI (1000003*((k:Int)+7)+(i:Int))⟩,⟨1,false,(tE (.int .i64 0))⟩]) (ts:=[(0,tI (1000003*((k:Int)+7)+(i:Int)))]) bu62 zr62.2 (Bc 0 rfl rfl rfl Le.refl)) rfl ?_)
 refine A4 ?_
 exact xd6 Plain.mk' rfl ⟨_,_,_,_,_,rfl,rfl,ti62,Le.refl⟩
theorem supHs_of {l:List Nat}: ∀{H:List (Nat×HEnt)},(∀x∈H,memN x.1 l=true∧SupX x.2.ts l)→SupHs H l
 | [],_=>trivial
 | x::r,h=>⟨h x (by simp),supHs_of fun y hy=>h y (List.mem_cons_of_mem _ hy)⟩
theorem supHs_pool {n T es:Nat} {len:Nat→Nat} {R:Nat→HEnt} (hR: ∀k,k < n→(R k).supp=[]):SupHs ((20,⟨T,1,false,owns n es len⟩)::poolL n R) (poolN n):=supHs_of fun x hx=>by
 rcases List.mem_cons.1 hx with rfl | hx
 ·exact ⟨rfl,fun k hk=>by obtain ⟨j,hj,rfl⟩:=owns_supp hk;simp only [poolN,List.mem_cons,List.mem_map,List.mem_range];exact .inr ⟨j,hj,rfl⟩⟩
 ·obtain ⟨j,hj,h1,h2⟩:=poolL_mem (k:=x.1) (x:=x.2) hx
  refine ⟨xd1.2 ?_,fun k hk=> ?_⟩
  ·rw [h1];simp only [poolN,List.mem_cons,List.mem_map,List.mem_range];exact .inr ⟨j,hj,rfl⟩
  ·have:=hR j hj;rw [h2] at hk;rw [HEnt.supp] at this;rw [this] at hk;cases hk
abbrev rS (xs:List Sn):HEnt:=⟨62,2,true,rV tSn xs⟩
abbrev hP (n:Nat) (L M:Nat→List Sn):Keys:=upd (poolK n fun j=>rS (M j)) 20 (some ⟨45,1,false,owns n 2 fun j=>(L j).length⟩)
theorem rS_supp {xs:List Sn}:(rS xs).supp=[]:=List.eq_nil_iff_forall_not_mem.2 fun _ hk=>rV_supp hk
theorem hP_get {n k:Nat} {L M:Nat→List Sn} (h:k < n):hP n L M (k+100)=some (rS (M k)):=by
 rw [hP,x7 _ _ _ (by omega)];exact poolK_get h
theorem hP_upd {n k:Nat} {L M M':Nat→List Sn} (h1: ∀j,j≠k→M' j=M j):SubK (hP n L M') (upd (hP n L M) (k+100) (some (rS (M' k)))):=fun q x hx=>by
 by_cases hq:q=k+100
 ·subst hq
  rw [hP,x7 _ _ _ (by omega)] at hx
  obtain ⟨j,_,h2,rfl⟩:=xs4 hx
  have:j=k:=by omega
  subst this
  exact ⟨_,xa9 _ _ _,rfl,.refl⟩
 ·rw [x7 _ _ _ hq]
  by_cases hq2:q=20
  ·subst hq2;rw [hP,xa9] at hx ⊢;exact ⟨_,rfl,by cases hx;rfl,by cases hx;exact .refl⟩
  ·rw [hP,x7 _ _ _ hq2] at hx ⊢
   obtain ⟨j,h1',rfl,rfl⟩:=xs4 hx
   refine ⟨_,poolK_get h1',rfl,?_⟩
   rw [h1 j (by omega)];exact .refl
theorem hP_eq {n:Nat} {L M M':Nat→List Sn} (h: ∀j,j < n→M' j=M j):SubK (hP n L M') (hP n L M):=fun q x hx=>by
 by_cases hq2:q=20
 ·subst hq2;rw [hP,xa9] at hx ⊢;exact ⟨_,rfl,by cases hx;rfl,by cases hx;exact .refl⟩
 ·rw [hP,x7 _ _ _ hq2] at hx ⊢
  obtain ⟨j,h1',rfl,rfl⟩:=xs4 hx
  exact ⟨_,poolK_get h1',rfl,by rw [h j h1'];exact .refl⟩
theorem hP_sup {b:Bool} {n m:Nat} {L M:Nat→List Sn} (h:n+100≤m):SupH (hP n L M) (alP b m):=supP h fun _ _=>rS_supp
theorem d_eqlSn {P:Program} {c:Base} {d ty:Nat} {pos:String} {af:Array Edge} {gd:Option (Nat×Bool)} {T yT:TypeId} {x y:Operand} {s t:Sn} {b:Bool} (h:EqS2 P T) (hb:decide (s=t)=b):
  Does P c ⟨some d,.binOp .eql T x y yT,ty,pos,af,gd⟩ ⟨[(x,.val (tSn s)),(y,.val (tSn t))],[],some (d,some (.val (tB b))),[],[]⟩:=
 Does.value rfl fun g hh al a w η hrd _ st=>by
  subst hb
  have h1:=tSn_val (xa6 st hrd.1).1
  have h2:=tSn_val (xa6 st hrd.2.1).1
  have hg:(eqGuard .eql T x y (.agg #[.int .i64 s.lo,.int .i64 s.hi]) (.agg #[.int .i64 t.lo,.int .i64 t.hi])).run P w= .ok () w:=by
   simp [eqGuard,go_sem,h.guard]
  have hb:(binOp .eql T (.agg #[.int .i64 s.lo,.int .i64 s.hi]) (.agg #[.int .i64 t.lo,.int .i64 t.hi])).run P w= .ok (.bool (s.lo==t.lo && s.hi==t.hi)) w:=by
   simp only [binOp,Sem.run_bind,h.eq,Result.andThen_ok,Sem.run_pure]
  refine ⟨.bool (s.lo==t.lo && s.hi==t.hi),w,?_,Ext.refl w,?_,fun k hk=>by cases hk⟩
  ·simp only [execOp,h1,h2,Sem.run_bind,hg,hb,Result.andThen_ok,Sem.run_pure]
  ·show _=Value.bool (decide (s=t))
   congr 1
   obtain ⟨a,b⟩:=s;obtain ⟨a',b'⟩:=t
   by_cases e1:a=a' <;> by_cases e2:b=b' <;> simp [e1,e2]
abbrev tN0:Nat→Ent:=fun _=> .val (tL 2 true tSn ([]:List Sn))
abbrev hB (n:Nat) (L:Nat→List Sn) (κ:Nat→Nat) (k:Nat):Keys:=upd (hP n L (cM L mSn sn0 n 0)) 21 (some ⟨45,1,false,gsR n 2 κ (fun j=>(L j).length+64) tN0 k⟩)
abbrev hQ (n:Nat) (L:Nat→List Sn) (κ:Nat→Nat) (k:Nat):Keys:=pileK κ (fun j=>rS (mkL mSn j ((L j).length+64))) k (hB n L κ k)
section
variable {n k:Nat} {L:Nat→List Sn} {κ:Nat→Nat}
theorem hQ_20 (hκ: ∀j,j < k→okN j (κ j)):hQ n L κ k 20=some ⟨45,1,false,owns n 2 fun j=>(L j).length⟩:=by
 rw [hQ,xj9 fun j hj=>by rcases hκ j hj with h | h <;> omega];rfl
theorem hQ_21 (hκ: ∀j,j < k→okN j (κ j)):hQ n L κ k 21=some ⟨45,1,false,gsR n 2 κ (fun j=>(L j).length+64) tN0 k⟩:=by
 rw [hQ,xj9 fun j hj=>by rcases hκ j hj with h | h <;> omega];exact xa9 _ _ _
theorem hQ_own (hn:n≤900) (hκ: ∀j,j < k→okN j (κ j)) (hk:k < n):hQ n L κ k (k+100)=some (rS (mkL mSn k (L k).length)):=by
 rw [hQ,xj9 fun j hj=>okN.ne (.inl rfl) (hκ j hj) (by omega) (by omega) (by omega),hB,x7 _ _ _ (by omega),hP_get hk,cM_end hk]
theorem hQ_new (hκ: ∀j,j < k→okN j (κ j)) (hn:n≤900) {q:Nat} (h:2000+64*k≤q):hQ n L κ k q=none:=by
 rw [hQ,xj9 fun j hj=>by rcases hκ j hj with h | h <;> omega,hB,x7 _ _ _ (by omega),hP,x7 _ _ _ (by omega)]
 exact poolK_no fun j hj=>by omega
theorem hQ_sup {m:Nat} (hκ: ∀j,j < k→okN j (κ j)) (hn:n≤900) (hk:k≤n) (hm:2000+64*k≤m):SupH (hQ n L κ k) (alP true m):=fun q x hx=>by
 have hin: ∀j,j < k→alP true m (κ j)=true:=fun j hj=>alP_in ((hκ j hj).lt (m:=m) (by omega) (by omega)).1 ((hκ j hj).lt (by omega) (by omega)).2
 rcases pile_lt hx with ⟨j,hj,rfl,rfl⟩ | hx
 ·exact ⟨hin j hj,fun i hi=>by rw [rS_supp] at hi;cases hi⟩
 ·by_cases hq:q=21
  ·subst hq
   rw [hB,xa9] at hx
   cases hx
   refine ⟨rfl,fun i hi=> ?_⟩
   rcases gsR_supp hi with ⟨j,_,hj,rfl⟩ | ⟨j,_,hj⟩
   ·exact hin j hj
   ·cases hj
  ·rw [hB,x7 _ _ _ hq] at hx
   exact hP_sup (by omega) q x hx
theorem hI_sup {m v:Nat} {r:List Sn} (hκ: ∀j,j < k→okN j (κ j)) (hn:n≤900) (hk:k≤n) (hm:2000+64*k≤m) (hv:100≤v∧v < m):SupH (upd (hQ n L κ k) v (some (rS r))) (alP true m):=fun q x hx=>by
 by_cases hq:q=v
 ·subst hq;rw [xa9] at hx;cases hx;exact ⟨alP_in hv.1 hv.2,fun i hi=>by rw [rS_supp] at hi;cases hi⟩
 ·rw [x7 _ _ _ hq] at hx;exact hQ_sup hκ hn hk hm q x hx
theorem okN_set {v:Nat} (hκ: ∀j,j < k→okN j (κ j)) (hv:v=k+100∨2000+64*k≤v∧v < 2000+64*k+64): ∀j,j < k+1→okN j (setN κ k v j):=fun j hj=>by
 by_cases h:j=k
 ·subst h;rw [setN_same];rcases hv with h | h;exact .inl h;exact .inr ⟨h.1,by omega⟩
 ·rw [xt6 h];exact hκ j (by omega)
theorem hQ_next {v:Nat} (hκ: ∀j,j < k→okN j (κ j)) (hv:100≤v):SubK (hQ n L (setN κ k v) (k+1)) (upd (upd (hQ n L κ k) v (some (rS (mkL mSn k ((L k).length+64))))) 21 (some ⟨45,1,false,gsR n 2 (setN κ k v) (fun j=>(L j).length+64) tN0 (k+1)⟩)):= .eq fun t x hx=>by
 rw [hQ,pileK,setN_same,pile_congr (κ:=κ) fun j hj=>xt6 (by omega)] at hx
 by_cases ht:t=21
 ·subst ht
  rw [x7 _ _ _ (by omega),xj9 fun j hj=>by rcases hκ j hj with h | h <;> omega,hB,xa9] at hx
  rw [xa9];exact hx
 ·rw [x7 _ _ _ ht]
  by_cases htv:t=v
  ·subst htv;rw [xa9] at hx ⊢;exact hx
  ·rw [x7 _ _ _ htv] at hx ⊢
   rw [pile_base (h:=hB n L κ k) (by rw [hB,hB,x7 _ _ _ ht,x7 _ _ _ ht])] at hx
   exact hx
theorem hQ_at {j:Nat} (hn:n≤900) (hk:k≤n) (hκ: ∀j,j < k→okN j (κ j)) (hj:j < k):hQ n L κ k (κ j)=some (rS (mkL mSn j ((L j).length+64))):=
 pile_get (fun i hi hij=>okN.ne (hκ j hj) (hκ i hi) (by omega) (by omega) (Ne.symm hij)) hj
theorem hQ_ls {j:Nat} (hn:n≤900) (hk:k≤n) (hκ: ∀j,j < k→okN j (κ j)) (hj:j < k): ∃m,(L j).length≤m∧hQ n L κ k (j+100)=some (rS (mkL mSn j m)):=by
 rcases hκ j hj with h | h
 ·exact ⟨(L j).length+64,by omega,by rw [←h];exact hQ_at hn hk hκ hj⟩
 ·refine ⟨(L j).length,Nat.le_refl _,?_⟩
  rw [hQ,xj9 fun i hi=>by
   by_cases hij:i=j
   ·subst hij;omega
   ·exact okN.ne (.inl rfl) (hκ i hi) (by omega) (by omega) (Ne.symm hij),hB,x7 _ _ _ (by omega),hP_get (by omega),cM_end (by omega)]
theorem rS_get {i m j:Nat} (h:i < m):(rV tSn (mkL mSn j m))[i]? =some (.val (tSn (mSn j i))):=by
 rw [rV,List.getElem?_map,mkL_get h];rfl
theorem rS_pre {j i i':Nat} (h:i'≤i):ImpK (rS (mkL mSn j i)) (rS (mkL mSn j i')):= .ts (by rw [xe5,xe5,mkL_len,mkL_len];exact h) fun t e he=>⟨e,by
 simp only [rV,List.getElem?_map] at he ⊢
 obtain ⟨x,hx,rfl⟩:=Option.map_eq_some_iff.1 he
 rw [mkL_pre h t x hx];rfl,.refl⟩
def okM (n k x:Nat):Prop:=x=k+100∨x=2000+64*n+k
theorem okM.ne {k j x y:Nat} (h:okM n k x) (h':okM n j y) (hk:k≤900) (hj:j≤900) (hne:k≠j):x≠y:=by rcases h with h | h <;> rcases h' with h' | h' <;> omega
abbrev tK (L:Nat→List Sn) (κ:Nat→Nat):Nat→Ent:=fun j=> .own (.sl (κ j) 2 0 ((L j).length+64))
abbrev rM (n:Nat) (L:Nat→List Sn) (j:Nat):HEnt:=rS (mkL mSn j (L j).length++mkL mSn (j+n) 64)
abbrev hC (n:Nat) (L:Nat→List Sn) (κ κ2:Nat→Nat) (k:Nat):Keys:=upd (hP n L (fun j=>mkL mSn j (L j).length)) 21 (some ⟨45,1,false,gsR n 2 κ2 (fun j=>(L j).length+64) (tK L κ) k⟩)
abbrev hR (n:Nat) (L:Nat→List Sn) (κ κ2:Nat→Nat) (k:Nat):Keys:=pileK κ2 (rM n L) k (hC n L κ κ2 k)
variable {κ2:Nat→Nat}
theorem hR_20 (hκ: ∀j,j < k→okM n j (κ2 j)):hR n L κ κ2 k 20=some ⟨45,1,false,owns n 2 fun j=>(L j).length⟩:=by
 rw [hR,xj9 fun j hj=>by rcases hκ j hj with h | h <;> omega];rfl
theorem hR_21 (hκ: ∀j,j < k→okM n j (κ2 j)):hR n L κ κ2 k 21=some ⟨45,1,false,gsR n 2 κ2 (fun j=>(L j).length+64) (tK L κ) k⟩:=by
 rw [hR,xj9 fun j hj=>by rcases hκ j hj with h | h <;> omega];exact xa9 _ _ _
theorem hR_own (hn:n≤900) (hκ: ∀j,j < k→okM n j (κ2 j)) (hk:k < n):hR n L κ κ2 k (k+100)=some (rS (mkL mSn k (L k).length)):=by
 rw [hR,xj9 fun j hj=>okM.ne (.inl rfl) (hκ j hj) (by omega) (by omega) (by omega),hC,x7 _ _ _ (by omega),hP_get hk]
theorem hR_sup {m:Nat} (hκ0: ∀j,j < n→okN j (κ j)) (hκ: ∀j,j < k→okM n j (κ2 j)) (hn:n≤900) (hk:k≤n) (hm:2000+64*n+k≤m):SupH (hR n L κ κ2 k) (alP true m):=fun q x hx=>by
 have hin: ∀j,j < k→alP true m (κ2 j)=true:=fun j hj=>by rcases hκ j hj with h | h <;> exact alP_in (by omega) (by omega)
 rcases pile_lt hx with ⟨j,hj,rfl,rfl⟩ | hx
 ·exact ⟨hin j hj,fun i hi=>by rw [rS_supp] at hi;cases hi⟩
 ·by_cases hq:q=21
  ·subst hq
   rw [hC,xa9] at hx
   cases hx
   refine ⟨rfl,fun i hi=> ?_⟩
   rcases gsR_supp hi with ⟨j,_,hj,rfl⟩ | ⟨j,hjn,hj⟩
   ·exact hin j hj
   ·simp only [Ent.supp,VP.supp,List.mem_singleton] at hj
    subst hj
    exact alP_in ((hκ0 j hjn).lt (m:=m) (by omega) (by omega)).1 ((hκ0 j hjn).lt (by omega) (by omega)).2
  ·rw [hC,x7 _ _ _ hq] at hx
   exact hP_sup (by omega) q x hx
theorem hR_0 {κ3:Nat→Nat} (hn:n≤900) (hκ: ∀j,j < n→okN j (κ j)):SubK (hR n L κ κ3 0) (hQ n L κ n):=fun q x hx=>by
 by_cases hq:q=21
 ·subst hq
  have hx:hC n L κ κ3 0 21=some x:=hx
  rw [hC,xa9] at hx
  cases hx
  refine ⟨_,hQ_21 hκ,rfl,?_⟩
  rw [show gsR n 2 κ (fun j=>(L j).length+64) tN0 n=gsR n 2 κ3 (fun j=>(L j).length+64) (tK L κ) 0 from by
   apply List.map_congr_left;intro j hj;rw [List.mem_range] at hj;simp [hj]]
  exact .refl
 ·have hx:hC n L κ κ3 0 q=some x:=hx
  rw [hC,x7 _ _ _ hq] at hx
  by_cases hq2:q=20
  ·subst hq2
   rw [hP,xa9] at hx
   cases hx
   exact ⟨_,hQ_20 hκ,rfl,.refl⟩
  ·rw [hP,x7 _ _ _ hq2] at hx
   obtain ⟨j,hj,rfl,rfl⟩:=xs4 hx
   obtain ⟨m,hm,e⟩:=hQ_ls (L:=L) hn (Nat.le_refl n) hκ hj
   exact ⟨_,e,rfl,rS_pre hm⟩
def fS (j i:Nat):List Sn:=(List.range 64).map fun t=>if t < i then mSn j t else sn0
theorem fS_len {j i:Nat}:(fS j i).length=64:=by simp [fS]
theorem fS_0 {j:Nat}:List.replicate 64 (Ent.val (tSn sn0))=rV tSn (fS j 0):=by
 rw [rV_rep 64 sn0 rfl];congr 1
theorem fS_set {j i:Nat} (hi:i < 64):(fS j i).set i (mSn j i)=fS j (i+1):=by
 apply List.ext_getElem?
 intro t
 rw [List.getElem?_set]
 rcases Nat.lt_or_ge t 64 with h | h
 ·simp only [fS,List.getElem?_map,List.getElem?_range h,List.length_map,List.length_range,Option.map_some]
  by_cases hit:i=t
  ·subst hit;simp [h]
  ·rw [if_neg hit]
   by_cases h1:t < i
   ·simp [h1,show t < i+1 by omega]
   ·simp [h1,show ¬t < i+1 by omega]
 ·rw [if_neg (by omega),List.getElem?_eq_none (by rw [fS_len];exact h),List.getElem?_eq_none (by rw [fS_len];exact h)]
theorem fS_64 {j:Nat}:fS j 64=mkL mSn j 64:=List.map_congr_left fun t ht=>if_pos (List.mem_range.1 ht)
def alM (m:Nat):Names:=fun q=>Nat.beq q 22 || alP true m q
theorem alM_no {m:Nat}:alP true m 22=false:=rfl
theorem alM_out {m:Nat} (h:100≤m):alM m m=false:=by
 have:Nat.beq m 22=false:=by
  cases hb:Nat.beq m 22 with
  | false=>rfl
  | true=>have:=Nat.eq_of_beq_eq_true hb;omega
 simp [alM,this,alP_out h]
theorem alM_of {m q:Nat} (h:alP true m q=true):alM m q=true:=by simp [alM,h]
theorem alM_sup {m:Nat} {h:Keys} {r:List Sn} (hs:SupH h (alP true m)):SupH (upd h 22 (some (rS r))) (alM m):=fun q x hx=>by
 by_cases hq:q=22
 ·subst hq;rw [xa9] at hx;cases hx;exact ⟨rfl,fun i hi=>by rw [rS_supp] at hi;cases hi⟩
 ·rw [x7 _ _ _ hq] at hx;exact ⟨alM_of (hs q x hx).1,fun i hi=>alM_of ((hs q x hx).2 i hi)⟩
theorem alM_lk {m:Nat} {c:Base} (h:LkOk c (alP true m)):LkOk c (alM m):=⟨fun k hk=>alM_of (h.ln k hk),fun k hk=>alM_of (h.yk k hk)⟩
theorem SubK.twice {h:Keys} {v:Nat} {r:Option HEnt} {r':HEnt}:SubK (upd h v (some r')) (upd (upd h v r) v (some r')):= .eq fun t x hx=>by
 by_cases ht:t=v
 ·subst ht;rw [xa9] at hx ⊢;exact hx
 ·rw [x7 _ _ _ ht] at hx ⊢;rw [x7 _ _ _ ht];exact hx
theorem okM_set {v:Nat} (hκ: ∀j,j < k→okM n j (κ2 j)) (hv:okM n k v): ∀j,j < k+1→okM n j (setN κ2 k v j):=fun j hj=>by
 by_cases h:j=k
 ·subst h;rw [setN_same];exact hv
 ·rw [xt6 h];exact hκ j (by omega)
theorem rM_eq {j:Nat}:(⟨62,2,true,rV tSn (mkL mSn j (L j).length)++(fS (j+n) 64).map (fun y=>Ent.val (tSn y))⟩:HEnt)=rM n L j:=by
 rw [rM,rS,←fS_64];simp [rV]
theorem hR_next {v:Nat} {r:HEnt} (hκ: ∀j,j < k→okM n j (κ2 j)) (hv:100≤v):SubK (hR n L κ (setN κ2 k v) (k+1)) (upd (upd (upd (upd (hR n L κ κ2 k) 22 (some r)) 22 none) v (some ⟨62,2,true,rV tSn (mkL mSn k (L k).length)++(fS (k+n) 64).map (fun y=>Ent.val (tSn y))⟩)) 21 (some ⟨45,1,false,gsR n 2 (setN κ2 k v) (fun j=>(L j).length+64) (tK L κ) (k+1)⟩)):= .eq fun t x hx=>by
 rw [rM_eq]
 rw [hR,pileK,setN_same,pile_congr (κ:=κ2) fun j hj=>xt6 (by omega)] at hx
 by_cases ht:t=21
 ·subst ht
  rw [x7 _ _ _ (by omega),xj9 fun j hj=>by rcases hκ j hj with h | h <;> omega,hC,xa9] at hx
  rw [xa9];exact hx
 ·rw [x7 _ _ _ ht]
  by_cases htv:t=v
  ·subst htv;rw [xa9] at hx ⊢;exact hx
  ·rw [x7 _ _ _ htv] at hx ⊢
   rw [pile_base (h:=hC n L κ κ2 k) (by rw [hC,hC,x7 _ _ _ ht,x7 _ _ _ ht])] at hx
   by_cases h22:t=22
   ·subst h22
    rw [xj9 fun j hj=>by rcases hκ j hj with h | h <;> omega,hC,x7 _ _ _ (by omega),hP,x7 _ _ _ (by omega),poolK_no fun j _=>by omega] at hx
    cases hx
   ·rw [x7 _ _ _ h22,x7 _ _ _ h22];exact hx
theorem hR_some {j:Nat} (hκ: ∀j,j < k→okM n j (κ2 j)) (hj:j < n): ∃y,hR n L κ κ2 k (j+100)=some y:=by
 have key: ∀i,∃y,pileK κ2 (rM n L) i (hC n L κ κ2 k) (j+100)=some y:=fun i=>by
  induction i with
  | zero=>exact ⟨_,by show hC n L κ κ2 k (j+100)=_;rw [hC,x7 _ _ _ (by omega)];exact hP_get hj⟩
  | succ i ih=>
   by_cases h:j+100=κ2 i
   ·exact ⟨_,by rw [pileK,h];exact xa9 _ _ _⟩
   ·obtain ⟨y,hy⟩:=ih;exact ⟨y,by rw [pileK,x7 _ _ _ h];exact hy⟩
 exact key k
theorem hR_lent {N:Nat} {w:World} {F:Dom} {η:Env} {R:Nat→HEnt} {X:HEnt} {r:Option HEnt} {b:Nat} (hκ: ∀j,j < k→okM n j (κ2 j)) (hk:k≤n) (hb:(Base.lent N w F η (poolN n) ((20,X)::poolL n R)).lb b):
  ∃j y,j∈poolN n∧j≠22∧upd (hR n L κ κ2 k) 22 r j=some y∧0 < η.c j∧b=η.b j:=by
 obtain ⟨x,hx,hc,e⟩:=hb
 rcases List.mem_cons.1 hx with rfl | hx
 ·exact ⟨20,_,by simp [poolN],by omega,(x7 _ _ _ (by omega)).trans (hR_20 hκ),hc,e⟩
 ·obtain ⟨j,hj,h1,_⟩:=poolL_mem (k:=x.1) (x:=x.2) hx
  obtain ⟨y,hy⟩:=hR_some (L:=L) (κ:=κ) hκ hj
  refine ⟨j+100,y,by simp only [poolN,List.mem_cons,List.mem_map,List.mem_range];exact .inr ⟨j,hj,rfl⟩,by omega,(x7 _ _ _ (by omega)).trans hy,by rw [←h1];exact hc,by rw [←h1];exact e⟩
theorem hR_at {j:Nat} (hn:n≤900) (hκ: ∀j,j < n→okM n j (κ2 j)) (hj:j < n):hR n L κ κ2 n (κ2 j)=some (rM n L j):=
 pile_get (fun i hi hij=>okM.ne (hκ j hj) (hκ i hi) (by omega) (by omega) (Ne.symm hij)) hj
theorem xr8 {i j:Nat} (h:i < (L j).length):(rV tSn (mkL mSn j (L j).length++mkL mSn (j+n) 64))[i]? =some (.val (tSn (mSn j i))):=by
 rw [rV,List.getElem?_map,List.getElem?_append_left (by rw [mkL_len];exact h),mkL_get h];rfl
theorem hR_ls {j:Nat} (hn:n≤900) (hκ: ∀j,j < n→okM n j (κ2 j)) (hj:j < n): ∃xs,hR n L κ κ2 n (j+100)=some (rS xs)∧ ∀i,i < (L j).length→(rV tSn xs)[i]? =some (.val (tSn (mSn j i))):=by
 rcases hκ j hj with h | h
 ·exact ⟨_,(congrArg (hR n L κ κ2 n) h.symm).trans (hR_at hn hκ hj),fun i hi=>xr8 hi⟩
 ·refine ⟨mkL mSn j (L j).length,?_,fun i hi=>rS_get hi⟩
  rw [hR,xj9 fun i hi=>by
   by_cases hij:i=j
   ·subst hij;omega
   ·exact okM.ne (.inl rfl) (hκ i hi) (by omega) (by omega) (Ne.symm hij),hC,x7 _ _ _ (by omega),hP_get hj]
theorem rS_app {i:Nat} {j:Nat}:(⟨62,2,true,rV tSn (mkL mSn j i)++[mSn j i].map (fun y=>Ent.val (tSn y))⟩:HEnt)=rS (mkL mSn j (i+1)):=by
 rw [rS,←mkL_succ];simp [rV]
end
theorem c_flatSpans (n:Nat) (L:Nat→List Sn) (hn:n≤900) (hL: ∀j,(L j).length≤1000000):
  CtG Tryz.prog 99 ((20,⟨45,1,false,owns n 2 fun j=>(L j).length⟩)::poolL n fun j=>rS (L j)) [.own (.sl 20 1 0 n)] (.val (tB true)) [] []:=by
 refine CtG.intro (poolN n) Tryz.func99 rfl Tryz.ntmps99 rfl rfl (supHs_pool fun _ _=>rS_supp) ?_
 intro w F η
 refine A12 ?_
 refine C_loop (fun k:Nat=>k≤n) (fun k=>upd (upd (fun _=>none) 0 (some (.own (.sl 20 1 0 n)))) 3 (some (.val (tI k)))) (fun k=>hP n L (cM L mSn sn0 k 0)) (alP false (100+n)) (fun k=>n - k) 0 (Nat.zero_le _) (Sub.int rfl rfl (Sub.cons rfl Sub.nil)) (by show SubK (hP n L (cM L mSn sn0 0 0)) _;rw [show cM L mSn sn0 0 0=L from funext fun j=>cM_0];exact keysOf_pool) (SupG.val (SupG.own rfl SupG.nil)) (hP_sup (by omega)) (lkP (by omega)) ?_
 intro k hk
 refine A9 ?_
 refine x8 rfl (fun h1=> ?_) (fun h1=> ?_)
 ·
  have hk':k < n:=by omega
  refine A9 ?_
  refine xf7 ?_
  refine C_loop (fun i:Nat=>i≤(L k).length) (fun i=>upd (upd (upd (fun _=>none) 0 (some (.own (.sl 20 1 0 n)))) 3 (some (.val (tI k)))) 4 (some (.val (tI i)))) (fun i=>hP n L (cM L mSn sn0 k i)) (alP false (100+n)) (fun i=>(L k).length - i) 0 (Nat.zero_le _) (Sub.int rfl rfl (Sub.cons rfl (Sub.cons rfl Sub.nil))) SubK.refl (SupG.val (SupG.val (SupG.own rfl SupG.nil))) (hP_sup (by omega)) (lkP (by omega)) ?_
  intro i hi
  have hLk:=hL k
  refine A6 ?_
  refine R2 (xa4 sl53 (by omega) (by omega) rfl) rfl rfl (RE (xb7 (k) ti45 (xp0 hk') (by omega)) ⟨rfl,trivial⟩ ⟨rfl,trivial⟩ trivial ?_)
  refine A3 ?_
  refine x8 rfl (fun h2=> ?_) (fun h2=> ?_)
  ·
   refine A7 ?_
   refine R2 (xa4 sl53 (by omega) (by omega) rfl) rfl rfl (RE (xb7 (k) ti45 (xp0 hk') (by omega)) ⟨rfl,trivial⟩ ⟨rfl,trivial⟩ trivial ?_)
   refine A3 ?_
   refine R2 (x3 (xp7 k i (by omega) (by omega)) fi162 rfl) rfl rfl (R2 (xa4 sl45 (by omega) (by omega) rfl) rfl rfl (RE (xc9 (e:= .val (tSn (mSn k i))) (i) ti62 (rV_lt (f:=tSn) (xs:=cM L mSn sn0 k i k) (by rw [cM_len];omega)) (by omega) (xk5 (f:=tSn) (m:=mSn k i) rfl)) ⟨rfl,rfl,trivial⟩ ⟨hP_get (L:=L) hk',trivial⟩ trivial ?_))
   refine A8 ?_
   exact K_fam (i+1) ⟨by omega,by omega⟩ (Sub.int rfl (by omega) (Sub.cons rfl (Sub.cons rfl Sub.nil))) (by rw [cM_set (by omega)];exact hP_upd fun j hj=>cM_oth hj) (SupG.val (SupG.val (SupG.own rfl SupG.nil))) (hP_sup (by omega)) (lkP (by omega))
  ·
   refine A11 ?_
   have hil:i=(L k).length:=by omega
   subst hil
   exact K_fam (k+1) ⟨by omega,by omega⟩ (Sub.int rfl (by omega) (Sub.cons rfl Sub.nil)) (hP_eq fun j _=>cM_next) (SupG.val (SupG.own rfl SupG.nil)) (hP_sup (by omega)) (lkP (by omega))
 ·
  have hkn:k=n:=by omega
  subst hkn
  refine A9 ?_
  refine RE (xg6 (k:=21) (t:=tL 2 true tSn ([]:List Sn)) (ts:=gsR k 2 (fun _=>0) (fun j=>(L j).length+64) tN0 0) k k Tryz.underlying53 el45 (fun _ _=>⟨none,0,rfl,Nat.le_refl _,by decide,.inl rfl⟩) rfl (by omega) (by omega) (Nat.le_refl _) (by omega) (by omega) gsR_rep) ⟨rfl,rfl,trivial⟩ trivial ⟨rfl,trivial⟩ ?_
  refine A10 ?_
  refine C_loopA (ι:=Nat×(Nat→Nat)) (fun x=>x.1≤k∧ ∀j,j < x.1→okN j (x.2 j)) (fun x=>upd (upd (upd (fun _=>none) 0 (some (.own (.sl 20 1 0 k)))) 5 (some (.own (.sl 21 1 0 k)))) 6 (some (.val (tI x.1)))) (fun x=>hQ k L x.2 x.1) (fun x=>alP true (2000+64*x.1)) (fun x=>k - x.1) (0,fun _=>0) ⟨Nat.zero_le _,fun j h=>by cases h⟩ (Sub.int rfl rfl (Sub.cons rfl (Sub.cons rfl Sub.nil))) SubK.refl (SupG.val (SupG.own rfl (SupG.own rfl SupG.nil))) (hQ_sup (fun j h=>by cases h) hn (Nat.zero_le _) (by omega)) (lkP (by omega)) ?_
  rintro ⟨q,κ⟩ ⟨hq,hκ⟩
  replace hq:q≤k:=hq
  replace hκ: ∀j,j < q→okN j (κ j):=hκ
  show wc _ _ _ _ (upd (upd (upd (fun _=>none) 0 (some (.own (.sl 20 1 0 k)))) 5 (some (.own (.sl 21 1 0 k)))) 6 (some (.val (tI q)))) (hQ k L κ q) (alP true (2000+64*q))
  refine A9 ?_
  refine x8 rfl (fun h3=> ?_) (fun h3=> ?_)
  ·
   have hq':q < k:=by omega
   have hLk:=hL q
   refine A8 ?_
   refine R2 (xa4 sl53 (by omega) (by omega) rfl) rfl rfl (RE (xb7 (q) ti45 (xp0 hq') (by omega)) ⟨rfl,trivial⟩ ⟨hQ_20 hκ,trivial⟩ trivial ?_)
   refine A10 ?_
   refine C_loopA (ι:=Nat×Nat) (fun x=>x.1≤64∧(x.2=q+100∨2000+64*q≤x.2∧x.2 < 2000+64*q+x.1)) (fun x=>upd (upd (upd (upd (upd (fun _=>none) 0 (some (.own (.sl 20 1 0 k)))) 5 (some (.own (.sl 21 1 0 k)))) 6 (some (.val (tI q)))) 7 (some (.own (.sl x.2 2 0 ((L q).length+x.1))))) 8 (some (.val (tI x.1)))) (fun x=>upd (hQ k L κ q) x.2 (some (rS (mkL mSn q ((L q).length+x.1))))) (fun x=>alP true (2000+64*q+x.1)) (fun x=>64 - x.1) (0,q+100) ⟨Nat.zero_le _,.inl rfl⟩ (Sub.int rfl rfl (Sub.cons rfl (Sub.cons rfl (Sub.cons rfl (Sub.cons rfl Sub.nil))))) (SubK.consI (hQ_own hn hκ hq') .refl SubK.refl) (SupG.val (SupG.own (by show (alP true (2000+64*q+0) (q+100) && true)=true;rw [alP_in (by omega) (by omega)];rfl) (SupG.val (SupG.own rfl (SupG.own rfl SupG.nil))))) (hI_sup hκ hn (by omega) (by omega) (by omega)) (lkP (by omega)) ?_
   rintro ⟨i,v⟩ ⟨hi,hv⟩
   replace hi:i≤64:=hi
   replace hv:v=q+100∨2000+64*q≤v∧v < 2000+64*q+i:=hv
   have h20:upd (hQ k L κ q) v (some (rS (mkL mSn q ((L q).length+i)))) 20=some ⟨45,1,false,owns k 2 fun j=>(L j).length⟩:=by
    rw [x7 _ _ _ (by omega)];exact hQ_20 hκ
   show wc _ _ _ _ (upd (upd (upd (upd (upd (fun _=>none) 0 (some (.own (.sl 20 1 0 k)))) 5 (some (.own (.sl 21 1 0 k)))) 6 (some (.val (tI q)))) 7 (some (.own (.sl v 2 0 ((L q).length+i))))) 8 (some (.val (tI i)))) (upd (hQ k L κ q) v (some (rS (mkL mSn q ((L q).length+i))))) (alP true (2000+64*q+i))
   refine A6 ?_
   refine x8 rfl (fun h4=> ?_) (fun h4=> ?_)
   ·
    have hi':i < 64:=by omega
    refine A3 ?_
    refine xf7 ?_
    refine C_regY ?_
    refine wl_cut [_,_,_,_,_,_,_,_,_,_,_] ?_
    refine A4 ?_
    refine R2 (xa4 sl53 (by omega) (by omega) rfl) rfl rfl (RE (xb7 (q) ti45 (xp0 hq') (by omega)) ⟨rfl,trivial⟩ ⟨h20,trivial⟩ trivial ?_)
    refine A3 ?_
    refine R2 (x3 (xp7 q ((L q).length+i) (by omega) (by omega)) fi162 rfl) rfl rfl (R1 (xd2 (n:=1) (f:=tSn) [mSn q ((L q).length+i)] Tryz.underlying45 el62 zf62 rfl (fun _=>inferInstance) rfl rfl rfl) rfl (R_cut (by kernel_rfl) ?_))
    refine wl_app2 (k':=2000+64*q+i) (f:=tSn) (ys:=[mSn q ((L q).length+i)]) Tryz.underlying45 el62 zf62 rfl rfl (fun _=>inferInstance) rfl rfl (xa9 _ _ _) (alP_out (by omega)) (xe5.trans mkL_len) (by simp;omega) (by simp;omega) (by simp) rfl (fun b=> ?_)
    refine xk8 xa8 ⟨rfl,trivial⟩ trivial trivial rfl (wl_nil ?_)
    refine A7 ?_
    have hv':cond b v (2000+64*q+i)=v∨cond b v (2000+64*q+i)=2000+64*q+i:=by cases b;exact .inr rfl;exact .inl rfl
    generalize cond b v (2000+64*q+i)=v' at hv' ⊢
    exact fun _ _ hs=>K_famA (i+1,v') ⟨⟨by show i+1≤64;omega,by show v'=q+100∨2000+64*q≤v'∧v' < 2000+64*q+(i+1);omega⟩,by show 64 - (i+1) < 64 - i;omega⟩ (Sub.int rfl rfl (Sub.cons rfl (Sub.cons rfl (Sub.cons rfl (Sub.cons rfl Sub.nil))))) (by
     show SubK (upd (hQ k L κ q) v' (some (rS (mkL mSn q ((L q).length+i+1))))) _
     rw [←rS_app]
     exact SubK.over fun y hy=>by
      rcases hv with rfl | hv
      ·rw [hQ_own hn hκ hq'] at hy;cases hy;exact ⟨rfl,rS_pre (by omega)⟩
      ·rw [hQ_new hκ hn hv.1] at hy;cases hy) (SupG.val (SupG.own (by show (alP true (2000+64*q+(i+1)) v' && true)=true;rw [alP_in (by omega) (by omega)];rfl) (SupG.val (SupG.own rfl (SupG.own rfl SupG.nil))))) (hI_sup hκ hn (by omega) (by show 2000+64*q≤2000+64*q+(i+1);omega) (by show 100≤v'∧v' < 2000+64*q+(i+1);omega)) (lkP (by omega)) hs
   ·
    have hi64:i=64:=by omega
    subst hi64
    have h21:upd (hQ k L κ q) v (some (rS (mkL mSn q ((L q).length+64)))) 21=some ⟨45,1,false,gsR k 2 κ (fun j=>(L j).length+64) tN0 q⟩:=by
     rw [x7 _ _ _ (by omega)];exact hQ_21 hκ
    refine A9 ?_
    refine R2 (xa4 sl53 (by omega) (by omega) rfl) rfl rfl (RE (xc9 (e:= .own (.sl v 2 0 ((L q).length+64))) (q) ti45 (by rw [gsR_len];simpa using hq') (by omega) (gsR_set (len:=fun j=>(L j).length+64) (v:=v) hq')) ⟨rfl,rfl,trivial⟩ ⟨h21,trivial⟩ trivial ?_)
    refine A8 ?_
    exact fun _ _ hs=>K_famA (q+1,setN κ q v) ⟨⟨by show q+1≤k;omega,okN_set hκ hv⟩,by show k - (q+1) < k - q;omega⟩ (Sub.int rfl rfl (Sub.cons rfl (Sub.cons rfl Sub.nil))) (by exact hQ_next hκ (by omega)) (SupG.val (SupG.own rfl (SupG.own rfl SupG.nil))) (by exact hQ_sup (okN_set hκ hv) hn (by omega) (by omega)) (lkP (by omega)) hs
  ·
   have hqk:q=k:=by omega
   subst hqk
   refine A12 ?_
   refine C_loop (fun j:Nat=>j≤q) (fun j=>upd (upd (upd (fun _=>none) 0 (some (.own (.sl 20 1 0 q)))) 5 (some (.own (.sl 21 1 0 q)))) 9 (some (.val (tI j)))) (fun _=>hQ q L κ q) (alP true (2000+64*q)) (fun j=>q - j) 0 (Nat.zero_le _) (Sub.int rfl rfl (Sub.cons rfl (Sub.cons rfl Sub.nil))) SubK.refl (SupG.val (SupG.own rfl (SupG.own rfl SupG.nil))) (hQ_sup hκ hn (by omega) (by omega)) (lkP (by omega)) ?_
   intro j hj
   refine A9 ?_
   refine x8 rfl (fun h5=> ?_) (fun h5=> ?_)
   ·
    have hj':j < q:=by omega
    have hLj:=hL j
    refine A9 ?_
    refine xf7 ?_
    refine C_loop (fun i:Nat=>i≤(L j).length+64) (fun i=>upd (upd (upd (upd (fun _=>none) 0 (some (.own (.sl 20 1 0 q)))) 5 (some (.own (.sl 21 1 0 q)))) 9 (some (.val (tI j)))) 10 (some (.val (tI i)))) (fun _=>hQ q L κ q) (alP true (2000+64*q)) (fun i=>(L j).length+64 - i) 0 (Nat.zero_le _) (Sub.int rfl rfl (Sub.cons rfl (Sub.cons rfl (Sub.cons rfl Sub.nil)))) SubK.refl (SupG.val (SupG.val (SupG.own rfl (SupG.own rfl SupG.nil)))) (hQ_sup hκ hn (by omega) (by omega)) (lkP (by omega)) ?_
    intro i hi
    obtain ⟨m,hm,hls⟩:=hQ_ls (L:=L) hn (Nat.le_refl q) hκ hj'
    refine A6 ?_
    refine R2 (xa4 sl53 (by omega) (by omega) rfl) rfl rfl (RE (xb7 (j) ti45 (gsR_get hj' hj') (by omega)) ⟨rfl,trivial⟩ ⟨hQ_21 hκ,trivial⟩ trivial ?_)
    refine A3 ?_
    refine x8 rfl (fun h6=> ?_) (fun h6=> ?_)
    ·
     refine A8 ?_
     refine R2 (xa4 sl53 (by omega) (by omega) rfl) rfl rfl (RE (xb7 (j) ti45 (gsR_get hj' hj') (by omega)) ⟨rfl,trivial⟩ ⟨hQ_21 hκ,trivial⟩ trivial ?_)
     refine A1 ?_
     refine R2 (xa4 sl45 (by omega) (by omega) rfl) rfl rfl (RE (xb7 (i) ti62 (rS_get (by omega)) (by omega)) ⟨rfl,trivial⟩ ⟨hQ_at hn (Nat.le_refl q) hκ hj',trivial⟩ trivial ?_)
     refine A2 ?_
     refine R2 (x3 (xp7 j i (by omega) (by omega)) fi162 rfl) rfl rfl (R2 (d_eqlSn eq_Sn (decide_eq_true rfl)) rfl rfl ?_)
     refine A5 ?_
     refine RGon rfl rfl (xa4 sl53 (by omega) (by omega) rfl) rfl ⟨rfl,rfl,trivial⟩ trivial trivial (RGon rfl rfl (xb7 (j) ti45 (xp0 hj') (by omega)) rfl ⟨rfl,trivial⟩ ⟨hQ_20 hκ,trivial⟩ trivial (RGon rfl rfl b_lenO rfl ⟨rfl,trivial⟩ trivial trivial ?_))
     refine A2 ?_
     refine RGcaseD (t:=108) rfl (fun h7=> ?_) (fun h7=> ?_)
     ·
      refine A2 ?_
      refine RGon (decide_eq_true h7) rfl (xa4 sl53 (by omega) (by omega) rfl) rfl ⟨rfl,rfl,trivial⟩ trivial trivial (RGon (decide_eq_true h7) rfl (xb7 (j) ti45 (xp0 hj') (by omega)) rfl ⟨rfl,trivial⟩ ⟨hQ_20 hκ,trivial⟩ trivial ?_)
      refine A1 ?_
      refine RGon (decide_eq_true h7) rfl (xa4 sl45 (by omega) (by omega) rfl) rfl ⟨rfl,rfl,trivial⟩ trivial trivial (RGon (decide_eq_true h7) rfl (xb7 (i) ti62 (rS_get (by omega)) (by omega)) rfl ⟨rfl,trivial⟩ ⟨hls,trivial⟩ trivial ?_)
      refine A2 ?_
      refine RGon (decide_eq_true h7) rfl (x3 (xp7 j i (by omega) (by omega)) fi162 rfl) rfl ⟨rfl,rfl,trivial⟩ trivial trivial (RGon (decide_eq_true h7) rfl (d_eqlSn eq_Sn (decide_eq_true rfl)) rfl ⟨rfl,rfl,trivial⟩ trivial trivial ?_)
      refine A1 ?_
      refine RGon rfl rfl (xe3 (decide_eq_true h7)) rfl ⟨rfl,rfl,trivial⟩ trivial trivial (R2 (xc7 rfl) rfl rfl ?_)
      refine A1 ?_
      refine xb2 rfl rfl ?_
      refine A8 ?_
      exact K_fam (i+1) ⟨by omega,by omega⟩ (Sub.int rfl (by omega) (Sub.cons rfl (Sub.cons rfl (Sub.cons rfl Sub.nil)))) SubK.refl (SupG.val (SupG.val (SupG.own rfl (SupG.own rfl SupG.nil)))) (hQ_sup hκ hn (by omega) (by omega)) (lkP (by omega))
     ·
      refine RGoff (decide_eq_false h7) rfl rfl (RGoff (decide_eq_false h7) rfl rfl (RGoff (decide_eq_false h7) rfl rfl (RGoff (decide_eq_false h7) rfl rfl (RGoff (decide_eq_false h7) rfl rfl (RGoff (decide_eq_false h7) rfl rfl (RGoff (decide_eq_false h7) rfl rfl (RGoff (decide_eq_false h7) rfl rfl ?_)))))))
      refine RGoff (decide_eq_false h7) rfl rfl (RGoff (decide_eq_false h7) rfl rfl (RGoff (decide_eq_false h7) rfl rfl (RGoff (decide_eq_false h7) rfl rfl (RGon rfl rfl (xc7 (decide_eq_false h7)) rfl ⟨rfl,rfl,trivial⟩ trivial trivial (R2 (xc7 rfl) rfl rfl ?_)))))
      refine A1 ?_
      refine xb2 rfl rfl ?_
      refine A8 ?_
      exact K_fam (i+1) ⟨by omega,by omega⟩ (Sub.int rfl (by omega) (Sub.cons rfl (Sub.cons rfl (Sub.cons rfl Sub.nil)))) SubK.refl (SupG.val (SupG.val (SupG.own rfl (SupG.own rfl SupG.nil)))) (hQ_sup hκ hn (by omega) (by omega)) (lkP (by omega))
    ·
     refine A11 ?_
     exact K_fam (j+1) ⟨by omega,by omega⟩ (Sub.int rfl (by omega) (Sub.cons rfl (Sub.cons rfl Sub.nil))) SubK.refl (SupG.val (SupG.own rfl (SupG.own rfl SupG.nil))) (hQ_sup hκ hn (by omega) (by omega)) (lkP (by omega))
   ·
    clear h5 hj
    refine A12 ?_
    refine C_loopA (ι:=Nat×(Nat→Nat)) (fun x=>x.1≤q∧ ∀j,j < x.1→okM q j (x.2 j)) (fun x=>upd (upd (upd (fun _=>none) 0 (some (.own (.sl 20 1 0 q)))) 5 (some (.own (.sl 21 1 0 q)))) 11 (some (.val (tI x.1)))) (fun x=>hR q L κ x.2 x.1) (fun x=>alP true (2000+64*q+x.1)) (fun x=>q - x.1) (0,fun _=>0) ⟨Nat.zero_le _,fun j h=>by cases h⟩ (Sub.int rfl rfl (Sub.cons rfl (Sub.cons rfl Sub.nil))) (hR_0 hn hκ) (SupG.val (SupG.own rfl (SupG.own rfl SupG.nil))) (hR_sup hκ (fun j h=>by cases h) hn (Nat.zero_le _) (by omega)) (lkP (by omega)) ?_
    rintro ⟨j,κ2⟩ ⟨hj,hκ2⟩
    replace hj:j≤q:=hj
    replace hκ2: ∀i,i < j→okM q i (κ2 i):=hκ2
    show wc _ _ _ _ (upd (upd (upd (fun _=>none) 0 (some (.own (.sl 20 1 0 q)))) 5 (some (.own (.sl 21 1 0 q)))) 11 (some (.val (tI j)))) (hR q L κ κ2 j) (alP true (2000+64*q+j))
    refine A9 ?_
    refine x8 rfl (fun h5=> ?_) (fun h5=> ?_)
    ·
     have hj':j < q:=by omega
     have hLj:=hL j
     refine A6 ?_
     refine RE (xg6 (k:=22) (t:=tSn sn0) (ts:=rV tSn (fS (j+q) 0)) 64 64 Tryz.underlying45 el62 (fun F w=>tSn_mk) rfl rfl rfl (Nat.le_refl _) (by decide) (by decide) fS_0) ⟨rfl,rfl,trivial⟩ trivial ⟨alM_no,trivial⟩ ?_
     refine A10 ?_
     refine C_loop (fun i:Nat=>i≤64) (fun i=>upd (upd (upd (upd (upd (fun _=>none) 0 (some (.own (.sl 20 1 0 q)))) 5 (some (.own (.sl 21 1 0 q)))) 11 (some (.val (tI j)))) 12 (some (.own (.sl 22 2 0 64)))) 13 (some (.val (tI i)))) (fun i=>upd (hR q L κ κ2 j) 22 (some (rS (fS (j+q) i)))) (alM (2000+64*q+j)) (fun i=>64 - i) 0 (Nat.zero_le _) (Sub.int rfl rfl (Sub.cons rfl (Sub.cons rfl (Sub.cons rfl (Sub.cons rfl Sub.nil))))) SubK.refl (SupG.val (SupG.own rfl (SupG.val (SupG.own rfl (SupG.own rfl SupG.nil))))) (alM_sup (hR_sup hκ hκ2 hn (by omega) (by omega))) (alM_lk (lkP (by omega))) ?_
     intro i hi
     refine A6 ?_
     refine x8 rfl (fun h6=> ?_) (fun h6=> ?_)
     ·
      refine A12 ?_
      refine R2 (x3 (xp7 (j+q) i (by omega) (by omega)) fi162 rfl) rfl rfl (R2 (xa4 sl45 (by omega) (by omega) rfl) rfl rfl (RE (xc9 (e:= .val (tSn (mSn (j+q) i))) (i) ti62 (rV_lt (f:=tSn) (xs:=fS (j+q) i) (by rw [fS_len];omega)) (by omega) (xk5 (f:=tSn) (m:=mSn (j+q) i) rfl)) ⟨rfl,rfl,trivial⟩ ⟨xa9 _ _ _,trivial⟩ trivial ?_))
      refine A8 ?_
      exact K_fam (i+1) ⟨by omega,by omega⟩ (Sub.int rfl (by omega) (Sub.cons rfl (Sub.cons rfl (Sub.cons rfl (Sub.cons rfl Sub.nil))))) (by rw [←fS_set (by omega)];exact SubK.twice) (SupG.val (SupG.own rfl (SupG.val (SupG.own rfl (SupG.own rfl SupG.nil))))) (alM_sup (hR_sup hκ hκ2 hn (by omega) (by omega))) (alM_lk (lkP (by omega)))
     ·
      have hi64:i=64:=by omega
      subst hi64
      refine A5 ?_
      have hown: ∀r,upd (upd (hR q L κ κ2 j) 22 r) 22 none (j+100)=some (rS (mkL mSn j (L j).length)):=fun r=>by
       rw [x7 _ _ _ (by omega),x7 _ _ _ (by omega)];exact hR_own hn hκ2 hj'
      have hgs: ∀r v r',100≤v→upd (upd (upd (hR q L κ κ2 j) 22 r) 22 none) v r' 21=some ⟨45,1,false,gsR q 2 κ2 (fun j=>(L j).length+64) (tK L κ) j⟩:=fun r v r' hv=>by
       rw [x7 _ _ _ (by omega),x7 _ _ _ (by omega),x7 _ _ _ (by omega)];exact hR_21 hκ2
      refine C_giveL (t:=12) (k:=22) (f:=tSn) (xs:=fS (j+q) 64) rfl (xa9 _ _ _) (fun b hb=>hR_lent hκ2 hj hb) (xi4 fS_len) fS_len ?_
      refine C_regY ?_
      refine wl_cut [_,_,_,_,_,_,_] ?_
      refine A4 ?_
      refine R2 (xa4 sl53 (by omega) (by omega) rfl) rfl rfl (RE (xb7 (j) ti45 (xp0 hj') (by omega)) ⟨rfl,trivial⟩ ⟨(x7 _ _ _ (by omega)).trans ((x7 _ _ _ (by omega)).trans (hR_20 hκ2)),trivial⟩ trivial ?_)
      refine A1 ?_
      refine R_cut (by kernel_rfl) ?_
      refine wl_app2 (k':=2000+64*q+j) (f:=tSn) (ys:=fS (j+q) 64) Tryz.underlying45 el62 zf62 rfl rfl (fun _=>inferInstance) rfl rfl (hown _) (alM_out (by omega)) (xe5.trans mkL_len) (by rw [fS_len];omega) (by rw [fS_len];omega) (by rw [fS_len];omega) rfl (fun b=> ?_)
      have hv':okM q j (cond b (j+100) (2000+64*q+j)):=by cases b;exact .inr rfl;exact .inl rfl
      generalize cond b (j+100) (2000+64*q+j)=v' at hv' ⊢
      rw [fS_len]
      have hvb:100≤v'∧v'≤2000+64*q+j:=by rcases hv' with h | h <;> omega
      refine xk8 (xa4 sl53 (by omega) (by omega) rfl) ⟨rfl,rfl,trivial⟩ trivial trivial rfl (xk8 (xc9 (e:= .own (.sl v' 2 0 ((L j).length+64))) (j) ti45 (by rw [gsR_len];simpa using hj') (by omega) (gsR_set (len:=fun j=>(L j).length+64) (v:=v') hj')) ⟨rfl,rfl,trivial⟩ ⟨hgs _ _ _ hvb.1,trivial⟩ trivial rfl (wl_nil ?_))
      refine A7 ?_
      exact fun _ _ hs=>K_famA (j+1,setN κ2 j v') ⟨⟨by show j+1≤q;omega,okM_set hκ2 hv'⟩,by show q - (j+1) < q - j;omega⟩ (Sub.int rfl rfl (Sub.cons rfl (Sub.cons rfl Sub.nil))) (by exact hR_next hκ2 hvb.1) (SupG.val (SupG.own rfl (SupG.own rfl SupG.nil))) (by exact hR_sup hκ (okM_set hκ2 hv') hn (by omega) (by omega)) (lkP (by omega)) hs
    ·
     have hjq:j=q:=by omega
     subst hjq
     clear h5 hj
     refine A12 ?_
     refine C_loop (fun t:Nat=>t≤j) (fun t=>upd (upd (upd (fun _=>none) 0 (some (.own (.sl 20 1 0 j)))) 5 (some (.own (.sl 21 1 0 j)))) 14 (some (.val (tI t)))) (fun _=>hR j L κ κ2 j) (alP true (2000+64*j+j)) (fun t=>j - t) 0 (Nat.zero_le _) (Sub.int rfl rfl (Sub.cons rfl (Sub.cons rfl Sub.nil))) SubK.refl (SupG.val (SupG.own rfl (SupG.own rfl SupG.nil))) (hR_sup hκ hκ2 hn (by omega) (by omega)) (lkP (by omega)) ?_
     intro t ht
     refine A9 ?_
     refine x8 rfl (fun h5=> ?_) (fun h5=> ?_)
     ·
      have ht':t < j:=by omega
      have hLt:=hL t
      obtain ⟨xs,hls,hxs⟩:=hR_ls (L:=L) (κ:=κ) hn hκ2 ht'
      refine A9 ?_
      refine xf7 ?_
      refine C_loop (fun i:Nat=>i≤(L t).length) (fun i=>upd (upd (upd (upd (fun _=>none) 0 (some (.own (.sl 20 1 0 j)))) 5 (some (.own (.sl 21 1 0 j)))) 14 (some (.val (tI t)))) 15 (some (.val (tI i)))) (fun _=>hR j L κ κ2 j) (alP true (2000+64*j+j)) (fun i=>(L t).length - i) 0 (Nat.zero_le _) (Sub.int rfl rfl (Sub.cons rfl (Sub.cons rfl (Sub.cons rfl Sub.nil)))) SubK.refl (SupG.val (SupG.val (SupG.own rfl (SupG.own rfl SupG.nil)))) (hR_sup hκ hκ2 hn (by omega) (by omega)) (lkP (by omega)) ?_
      intro i hi
      refine A6 ?_
      refine R2 (xa4 sl53 (by omega) (by omega) rfl) rfl rfl (RE (xb7 (t) ti45 (xp0 ht') (by omega)) ⟨rfl,trivial⟩ ⟨hR_20 hκ2,trivial⟩ trivial ?_)
      refine A3 ?_
      refine x8 rfl (fun h6=> ?_) (fun h6=> ?_)
      ·
       have hi':i < (L t).length:=by omega
       refine A8 ?_
       refine R2 (xa4 sl53 (by omega) (by omega) rfl) rfl rfl (RE (xb7 (t) ti45 (xp0 ht') (by omega)) ⟨rfl,trivial⟩ ⟨hR_20 hκ2,trivial⟩ trivial ?_)
       refine A1 ?_
       refine R2 (xa4 sl45 (by omega) (by omega) rfl) rfl rfl (RE (xb7 (i) ti62 (hxs i hi') (by omega)) ⟨rfl,trivial⟩ ⟨hls,trivial⟩ trivial ?_)
       refine A2 ?_
       refine R2 (x3 (xp7 t i (by omega) (by omega)) fi162 rfl) rfl rfl (R2 (d_eqlSn eq_Sn (decide_eq_true rfl)) rfl rfl ?_)
       refine A4 ?_
       refine RGon rfl rfl (xa4 sl53 (by omega) (by omega) rfl) rfl ⟨rfl,rfl,trivial⟩ trivial trivial (RGon rfl rfl (xb7 (t) ti45 (gsR_get ht' ht') (by omega)) rfl ⟨rfl,trivial⟩ ⟨hR_21 hκ2,trivial⟩ trivial ?_)
       refine A1 ?_
       refine RGon rfl rfl (xa4 sl45 (by omega) (by omega) rfl) rfl ⟨rfl,rfl,trivial⟩ trivial trivial (RGon rfl rfl (xb7 (i) ti62 (xr8 hi') (by omega)) rfl ⟨rfl,trivial⟩ ⟨hR_at hn hκ2 ht',trivial⟩ trivial ?_)
       refine A2 ?_
       refine RGon rfl rfl (x3 (xp7 t i (by omega) (by omega)) fi162 rfl) rfl ⟨rfl,rfl,trivial⟩ trivial trivial (RGon rfl rfl (d_eqlSn eq_Sn (decide_eq_true rfl)) rfl ⟨rfl,rfl,trivial⟩ trivial trivial ?_)
       refine A1 ?_
       refine R2 (xc7 rfl) rfl rfl ?_
       refine A1 ?_
       refine xb2 rfl rfl ?_
       refine A8 ?_
       exact K_fam (i+1) ⟨by omega,by omega⟩ (Sub.int rfl (by omega) (Sub.cons rfl (Sub.cons rfl (Sub.cons rfl Sub.nil)))) SubK.refl (SupG.val (SupG.val (SupG.own rfl (SupG.own rfl SupG.nil)))) (hR_sup hκ hκ2 hn (by omega) (by omega)) (lkP (by omega))
      ·
       refine A11 ?_
       exact K_fam (t+1) ⟨by omega,by omega⟩ (Sub.int rfl (by omega) (Sub.cons rfl (Sub.cons rfl Sub.nil))) SubK.refl (SupG.val (SupG.own rfl (SupG.own rfl SupG.nil))) (hR_sup hκ hκ2 hn (by omega) (by omega)) (lkP (by omega))
     ·
      refine A11 ?_
      exact xe8 LentC.mk' rfl rfl Imp.refl trivial rfl trivial rfl
def sel3 {α:Type} (a b c:α):Nat→α
 | 0=>a
 | 1=>b
 | _=>c
theorem c_flatSpans3 (a b c:List Sn) (ha:a.length≤1000000) (hb:b.length≤1000000) (hc:c.length≤1000000):
  CtG Tryz.prog 99 [(20,⟨45,1,false,[.own (.sl 100 2 0 a.length),.own (.sl 101 2 0 b.length),.own (.sl 102 2 0 c.length)]⟩),(100,rS a),(101,rS b),(102,rS c)] [.own (.sl 20 1 0 3)] (.val (tB true)) [] []:=
 c_flatSpans 3 (sel3 a b c) (by decide) fun j=>match j with
  | 0=>ha
  | 1=>hb
  | _+2=>hc
end An.S
namespace An
open Go
section
variable {P:Program} {c:Base} {d ty:Nat} {pos:String} {af:Array Edge} {gd:Option (Nat×Bool)}
theorem d_appendOO {T E by_ k k2 k' n:Nat} {z:Value} {x y:Operand} {ts ts':List Ent} {e:Ent} {T0 T2:Nat} [he:ShapeE e 1 false] (sl:P.underlying T=some (.slice E)) (el:ElI P E 1 by_ false z) (hz:Flat 1 false z) (hT:T0=E)
  (hne:Nat.beq k k2=false) (hn:ts.length=n) (hb:(n+1)*by_≤140737488355328) (h63:n+1≤9223372036854775807) (hts:ts++[e]=ts'):
  Does P c ⟨some d,.call {callee:= .builtin .append,args:= #[x,y],argTypes:= #[T,T]},ty,pos,af,gd⟩ ⟨[(x,.own (.sl k 1 0 n)),(y,.own (.sl k2 1 0 1))],[(k,⟨T0,1,false,ts⟩),(k2,⟨T2,1,false,[e]⟩)],some (d,some (.own (.sl k' 1 0 (n+1)))),[(k,none),(k',some ⟨T0,1,false,ts'⟩)],[k']⟩:=by
 intro g h al a w hp ⟨η,s⟩
 subst hts hT hn
 obtain ⟨hx,hxs⟩:=xa6 s hp.rd.1
 obtain ⟨A,hA,hcap,hadr⟩:=hx
 simp only [Nat.sub_zero,Nat.zero_add,Nat.zero_mul] at hA hcap hadr
 obtain ⟨hy,hys⟩:=xa6 s hp.rd.2.1
 obtain ⟨A2,hA2,hcap2,hadr2⟩:=hy
 simp only [Nat.sub_zero,Nat.zero_add,Nat.zero_mul] at hA2 hcap2 hadr2
 have hA:a.eval x= .slice A ts.length (η.c k):=hA
 have hy:a.eval y= .slice A2 1 (η.c k2):=hA2
 obtain ⟨i,hi,hsz,hby,hz'⟩:=el.parts
 obtain ⟨k1,k2',⟨k3,k4,k5,k6,k7⟩,k8⟩:=s.key k _ hp.kr.1
 obtain ⟨j1,j2,⟨j3,j4,j5,j6,j7⟩,j8⟩:=s.key k2 _ hp.kr.2.1
 simp only at k3 k4 k5 k6 k7 j3 j4 j5 j6 j7
 obtain ⟨cs2,n1,n2,n3⟩:=j7 (by omega)
 have hev:=n3 0 e rfl
 have hone1:one (cs2.getD 0 undef)=true:=by
  have:=he.flat hev
  have h2:=(this.2.2.2 rfl).1
  simpa [pick] using h2
 have hcs2:0 < cs2.size:=by rw [n2];omega
 have hns:(cs2.extract 0 (0+1*1)).size=1*1:=by simp;omega
 have hsrc: ∀w':World,w'.heap=w.heap→(Builtin.firstCells 1 1 (.slice A2 1 (η.c k2))).run P w'= .ok (cs2.extract 0 (0+1*1)) w':=fun w' hw'=>by
  rw [hadr2 (by omega)]
  exact xw3 (by rw [hw'];exact n1) (by omega)
 have hone: ∀v∈(cs2.extract 0 (0+1*1)).toList,one v=true:=fun v hv=>by
  obtain ⟨j,hj⟩:=List.getElem?_of_mem hv
  rw [Array.getElem?_toList,Array.getElem?_extract] at hj
  split at hj
  ·have hj0:j=0:=by omega
   subst hj0
   rw [Nat.zero_add] at hj
   simpa [Array.getD_eq_getD_getElem?,hj] using hone1
  ·cases hj
 have hnp:pick false 1 (cs2.extract 0 (0+1*1)) 0=pick false 1 cs2 0:=by
  simp [pick,Array.getD_eq_getD_getElem?,Array.getElem?_extract,hcs2]
  rw [if_pos (by omega)];rfl
 have hexec: ∀v w',(Builtin.append_ #[T,T] ty #[.slice A ts.length (η.c k),.slice A2 1 (η.c k2)]).run P w= .ok v w'→
   (execOp a.eval ⟨some d,.call {callee:= .builtin .append,args:= #[x,y],argTypes:= #[T,T]},ty,pos,af,gd⟩).run P w= .ok (.value v) w':=fun v w' hr=>by
  simp only [execOp,resolve,invoke,builtin,List.map_toArray,List.map_cons,List.map_nil,hA,hy,Sem.run_bind,Sem.run_pure,Result.andThen_ok,hr]
 have hsupp: ∀j∈HEnt.supp ⟨T0,1,false,ts++[e]⟩,al j=true:=fun j hj=>by
  simp only [HEnt.supp,List.flatMap_append,List.mem_append] at hj
  rcases hj with hj | hj
  ·exact k2' j hj
  ·exact j2 j hj
 have hlk: ∀(i:Nat) (e':Ent),(ts++[e])[i]? =some e'→(ts[i]? =some e'∧i < ts.length)∨(i=ts.length∧e'=e):=fun i e' he'=>by
  rcases Nat.lt_or_ge i ts.length with hlt | hge
  ·rw [List.getElem?_append_left hlt] at he';exact .inl ⟨he',hlt⟩
  ·rw [List.getElem?_append_right hge] at he'
   have:=(List.getElem?_eq_some_iff.1 he').1
   simp at this
   have h0:i - ts.length=0:=by omega
   rw [h0] at he'
   cases he';exact .inr ⟨by omega,rfl⟩
 have hcs: ∃cs:Array Value,(0 < η.c k→A=some ⟨η.b k,0,none⟩∧w.heap[η.b k]? =some (.cells cs T0 (0,0))∧cs.size=η.c k*1)∧(0 < η.c k→ ∀(i:Nat) (e:Ent),ts[i]? =some e→e.sat (c.dom h η) w η (pick false 1 cs (i*1))):=by
  rcases Nat.eq_zero_or_pos (η.c k) with hc | hc
  ·exact ⟨#[],fun h=>by omega,fun h=>by omega⟩
  ·obtain ⟨cs,m1,m2,m3⟩:=k7 hc
   exact ⟨cs,fun _=>⟨hadr hc,m1,m2⟩,fun _=>m3⟩
 obtain ⟨cs,hrow,m3⟩:=hcs
 rcases xv6 (P:=P) (ty:=ty) (A:=A) (n:=ts.length) (cap:=η.c k) (A2:=A2) (c2:=η.c k2) (w:=w) (b:=η.b k) sl hi hsz hby hz' hz.1 (by decide) k3 cs hrow (cs2.extract 0 (0+1*1)) hns hsrc hone h63 hb with ⟨hfit,w',hr,hw,_⟩ | ⟨hgt,w',cap',rest',hr,hle,hmax,hrest,hheap,hos,htape,hout,hold⟩
 ·have hc:0 < η.c k:=by omega
  obtain ⟨hAv,m1,m2⟩:=hrow hc
  obtain ⟨q1,q2,q3,q4,q5,q6⟩:=hw hc
  refine xf5 (hexec _ _ hr) ?_
  have hnl:(cs2.extract 0 (0+1*1)).toList.length=1:=by simpa using hns
  have s1:=s.write (w':=w') k hp.kr.1 ⟨T0,1,false,ts++[e]⟩ (putAt cs (ts.length*1) (cs2.extract 0 (0+1*1)).toList) (by rw [xe9];exact m2) (by simpa using hfit) Nat.one_pos (fun _=>rfl) hsupp
   (fun j e' hj=>by
    rcases hlk j e' hj with ⟨he',hjl⟩ | ⟨hjt,he'⟩
    ·simp only []
     rw [xh4 (by omega) (fun _=>rfl) (.inl (by omega))]
     exact m3 hc j e' he'
    ·subst hjt he'
     have hpk:pick false 1 (putAt cs (ts.length*1) (cs2.extract 0 (0+1*1)).toList) (ts.length*1)=pick false 1 cs2 0:=by
      rw [←hnp]
      simp only [pick,cond_false]
      rw [Array.getD_eq_getD_getElem?,Array.getD_eq_getD_getElem?,xk3 _ _ _ _ (by omega),if_pos (by omega),Array.getElem?_toList,Nat.sub_self]
     simp only []
     rw [hpk]
     exact hev)
   hc q1 q2 q3 q4 q5 q6 rfl
  have s2:=s1.rename (xa9 _ _ _) hp.nk.1
  have hcomm:upd (upd (upd h k (some ⟨T0,1,false,ts++[e]⟩)) k none) k' (some ⟨T0,1,false,ts++[e]⟩)=upd (upd h k none) k' (some ⟨T0,1,false,ts++[e]⟩):=by
   funext j
   by_cases hj:j=k'
   ·subst hj;simp [xa9]
   ·rw [x7 _ _ _ hj,x7 _ _ _ hj]
    by_cases hj2:j=k
    ·subst hj2;simp [xa9]
    ·rw [x7 _ _ _ hj2,x7 _ _ _ hj2,x7 _ _ _ hj2]
  rw [hcomm] at s2
  refine ⟨_,s2.put (hp.d _ rfl) (e:= .own (.sl k' 1 0 (ts.length+1))) ⟨A,?_,?_,?_⟩ ?_⟩
  ·simp [Env.set_c]
  ·simpa [Env.set_c] using hfit
  ·intro _;rw [hAv];simp [Env.set_b]
  ·intro j hj
   simp only [Ent.supp,VP.supp,List.mem_singleton] at hj
   subst hj;simp
 ·refine xf5 (hexec _ _ hr) ?_
  have hext:Ext w w':=⟨hos,htape,hout,by rw [hheap];simp,fun b hb=>by rw [hheap,Array.getElem?_push,if_neg (by omega)]⟩
  have hpos': ∀(j:Nat) (e:Ent),ts[j]? =some e→0 < η.c k:=fun j e he=>by
   have:=(List.getElem?_eq_some_iff.1 he).1;omega
  have hdk:Keep (c.dom h η) (c.dom (upd h k none) η) w w:=Keep.drop k
  have s2:=(s.drop k).new' k' hp.nk.1 ⟨T0,1,false,ts++[e]⟩ cap' w.heap.size (by simpa using hle) Nat.one_pos (fun _=>rfl) hmax hsupp hext (fun _=>⟨Nat.le_refl _,cs.extract 0 (ts.length*1)++cs2.extract 0 (0+1*1)++rest',by rw [hheap];simp,by
    simp only [Array.size_append,hns,hrest,hold];omega,fun j e' hj=>by
    rcases hlk j e' hj with ⟨he',hjl⟩ | ⟨hjt,he'⟩
    ·simp only []
     rw [Array.append_assoc,xi3 (by rw [hold];omega) (fun _=>rfl),xw5 (by omega) (by simp at hold;omega) (fun _=>rfl)]
     exact Ent.sat_go (m3 (hpos' j e' he') j e' he') hdk fun _ _=>⟨rfl,rfl⟩
    ·subst hjt he'
     have e2: ∀(A0 B0 C0:Array Value),A0.size=ts.length*1→B0.size=1→pick false 1 (A0++(B0++C0)) (ts.length*1)=pick false 1 B0 0:=fun A0 B0 C0 h1 h2=>by
      rw [←h1,show A0.size=A0.size+0 from rfl,xr7 (by simp only [Array.size_append];omega) (fun _=>rfl),xi3 (by omega) (fun _=>rfl)]
     simp only []
     rw [Array.append_assoc,e2 _ _ _ hold hns,hnp]
     exact Ent.sat_go hev hdk fun _ _=>⟨rfl,rfl⟩⟩)
  refine ⟨_,s2.put (hp.d _ rfl) (e:= .own (.sl k' 1 0 (ts.length+1))) ⟨some ⟨w.heap.size,0,none⟩,?_,?_,?_⟩ ?_⟩
  ·simp [Env.set_c]
  ·simpa [Env.set_c] using hle
  ·intro _;simp [Env.set_b]
  ·intro j hj
   simp only [Ent.supp,VP.supp,List.mem_singleton] at hj
   subst hj;simp
end
def selS {α:Type}:List α→α→Nat→α
 | [],z,_=>z
 | x::_,_,0=>x
 | _::r,z,k+1=>selS r z k
theorem CtG.le1 {P:Program} {f:FuncId} {H H':List (Nat×HEnt)} {t u:Ty} {ps:List Ent} {re:Ent} {nn:List Nat} (hu:Le u t) (h:CtG P f H (.val t::ps) re H' nn):CtG P f H (.val u::ps) re H' nn:=
 fun F w η vs hs hK hI hF=>match vs,hs with
  | [],hs=>hs.elim
  | v::r,hs=>h F w η (v::r) ⟨hu _ _ _ hs.1,hs.2⟩ hK hI hF
section
variable {P:Program} {c:Base} {d ty:Nat} {pos:String} {af:Array Edge} {gd:Option (Nat×Bool)}
theorem d_boxC {T n k:Nat} {x:Operand} {cs:Array Value} (zs:List Value) (hc:cs.toList=zs) (hn:zs.length=n) (h63:Nat.ble n 9223372036854775807=true) {ts:List Ent} (hts:zs.map (fun v=>Ent.val (tE v))=ts):
  Does P c ⟨some d,.box T x,ty,pos,af,gd⟩ ⟨[(x,.val (tE (.agg cs)))],[],some (d,some (.own (.ptr k 0))),[(k,some ⟨T,1,false,ts⟩)],[k]⟩:=by
 intro g h al a w hp ⟨η,s⟩
 subst hts hc
 have hx:a.eval x= .agg cs:=(xa6 s hp.rd.1).1
 have hnew:=s.new k hp.nk.1 ⟨T,1,false,cs.toList.map (fun v=>Ent.val (tE v))⟩ cs n (by rw [←hn];simp) (by simp [←hn]) Nat.one_pos (fun _=>rfl) (Nat.le_of_ble_eq_true h63)
  (fun j hj=>by
   simp only [HEnt.supp,List.mem_flatMap,List.mem_map] at hj
   obtain ⟨e,⟨v,_,rfl⟩,hj⟩:=hj
   cases hj) (fun i e' hi=>by
   simp only [List.getElem?_map,Option.map_eq_some_iff] at hi
   obtain ⟨v,hv,rfl⟩:=hi
   show pick false 1 cs (i*1)=v
   have hv':cs[i]? =some v:=by simpa using hv
   simp [pick,hv'])
 have hcc:(a.eval x).cells=cs:=by rw [hx];rfl
 have hr:(execOp a.eval ⟨some d,.box T x,ty,pos,af,gd⟩).run P w= .ok (.value (.pointer (some ⟨w.heap.size,0,none⟩))) {w with heap:=w.heap.push (.cells (a.eval x).cells T)}:=by
  simp [execOp,Instr.box,newVar,newRow,newObj,Sem.run,go_sem]
 rw [hcc] at hr
 refine xf5 hr ?_
 refine ⟨_,hnew.put (hp.d _ rfl) ?_ ?_⟩
 ·show _=_
  simp [Env.set_b]
 ·intro j hj
  simp only [Ent.supp,VP.supp,List.mem_singleton] at hj
  subst hj;simp
end
section
variable {P:Program} {c:Base} {g:Slots} {h:Keys} {al:Names} {Q:Exit→Act→World→Prop}
theorem wl_imp {A:Array Oper} {rest:List Oper} {t:Nat} {e e':Ent} (hg:g t=some e) (hi:Imp e e') (hs: ∀k∈e'.supp,k∈e.supp) (H:wl P c A Q rest (upd g t (some e')) h al):wl P c A Q rest g h al:=fun a w ⟨η,s⟩=>
 H a w ⟨η,⟨s.tn,s.df,fun q y hy=>by
  by_cases hq:q=t
  ·subst hq
   rw [xa9] at hy
   cases hy
   obtain ⟨h1,h2,h3⟩:=s.slot q e hg
   exact ⟨h1,fun k hk=>h2 k (hs k hk),hi _ _ _ _ h3⟩
  ·rw [x7 _ _ _ hq] at hy
   exact s.slot q y hy,s.key,s.inj,s.fr,s.lk,s.pin,s.vol,s.yal,s.jj,s.lbl⟩⟩
end
end An
namespace An.S
open Go Go.Proofs An
theorem c_SnMakeO (l:List Sn) (hl:l.length≤1000000) (hall0:l.all Sn.ok=true):
  CtG Tryz.prog 86 [] [.val (tL 2 true tSn l)] (.own (.tup [.sl 7 2 0 (mkS l).length,.ty (tI 0)])) [(7,⟨62,2,true,rV tSn (mkS l)⟩)] [7]:=by
 refine CtG.intro [] Tryz.func86 rfl Tryz.ntmps86 rfl rfl trivial ?_
 intro w F η
 refine A8 ?_
 refine RE (xd8 (k:=4) 62 2 true rfl (fun h=>by cases h)) trivial trivial ⟨rfl,trivial⟩ ?_
 refine A11 ?_
 refine cL (fun (fm:(Nat)×(List Sn))=>(fun (i:Nat) (xs:List Sn)=>i≤l.length∧(l.take i).all Sn.ok=true∧xs=(l.take i).filter pos) fm.1 fm.2) (fun (fm:(Nat)×(List Sn))=>(fun (i:Nat) (xs:List Sn)=>upd (upd (upd (upd (upd (fun _=>none) 0 (some (.val (tL 2 true tSn l)))) 4 (some (.own (.sl 4 2 0 xs.length)))) 11 (some (.val (tL 2 true tSn l)))) 12 (some (.val (tI l.length)))) 13 (some (.val (tI i)))) fm.1 fm.2) (fun (fm:(Nat)×(List Sn))=>(fun (i:Nat) (xs:List Sn)=>upd (fun _=>none) 4 (some (⟨62,2,true,rV tSn xs⟩))) fm.1 fm.2) [4] (fun (fm:(Nat)×(List Sn))=>(fun (i:Nat) (xs:List Sn)=>l.length - i) fm.1 fm.2) ((0,[])) (by dsimp only;exact ⟨Nat.zero_le _,rfl,rfl⟩) (hh:=((SubK.consI rfl ImpK.refl) SubK.nil)) ?_
 intro fm hI
 obtain ⟨i,xs⟩:=fm
 replace hI:i≤l.length∧(l.take i).all Sn.ok=true∧xs=(l.take i).filter pos:=hI
 show wc _ _ _ _ (upd (upd (upd (upd (upd (fun _=>none) 0 (some (.val (tL 2 true tSn l)))) 4 (some (.own (.sl 4 2 0 xs.length)))) 11 (some (.val (tL 2 true tSn l)))) 12 (some (.val (tI l.length)))) 13 (some (.val (tI i)))) (upd (fun _=>none) 4 (some (⟨62,2,true,rV tSn xs⟩))) _
 obtain ⟨hi,ha,hx⟩:=hI
 have hxl:xs.length≤i:=hx▸filter_le
 refine A6 ?_
 refine x8 rfl (fun h31=> ?_) (fun h31=> ?_)
 ·
  refine A6 ?_
  refine R2 (x6 sl45 (i) (by omega) (gD (l:=l) (n:=i) (d:=sn0) (by omega))) rfl rfl ?_
  refine A1 ?_
  refine RE (x9 (k:=6) (n:=2) (agg:=true) zr62.1 zr62.2 rfl) trivial trivial ⟨rfl,trivial⟩ ?_
  refine A7 ?_
  refine R1 (x3 (c_isSpan _) fi152 rfl) rfl ?_
  refine A3 ?_
  refine xd4 rfl (fun h32=> ?_) (fun h32=> ?_)
  ·
   have hbad:l.all Sn.ok=false:=allS_stop (i:=i) (by omega) (by rw [Bool.not_eq_true'] at h32;exact h32)
   rw [hall0] at hbad;cases hbad
  ·
   rw [Bool.not_eq_false'] at h32
   refine A11 ?_
   refine x8 rfl (fun h35=> ?_) (fun h35=> ?_)
   ·
    refine A3 ?_
    refine R1 (xd2 (n:=1) (f:=tSn) [(l.getD i sn0)] Tryz.underlying45 el62 zf62 rfl (fun _=>inferInstance) rfl rfl rfl) rfl (RE (xc5 (k:=4) (k':=28) (f:=tSn) (ys:=[(l.getD i sn0)]) (ts':=rV tSn (xs++[(l.getD i sn0)])) Tryz.underlying45 el62 zf62 rfl rfl (fun _=>inferInstance) xe5 (by simp;omega) (by simp;omega) (by simp [rV]) (n':=xs.length+1) rfl) ⟨rfl,rfl,trivial⟩ ⟨rfl,trivial⟩ ⟨rfl,trivial⟩ ?_)
    refine A8 ?_
    exact xe4 (l:=[4]) (fun j=>cond (Nat.beq j 4) 28 (j)) ((i+1,xs++[(l.getD i sn0)])) ⟨(by dsimp only;exact ⟨by omega,by rw [allS_next (by omega),ha,h32];rfl,by rw [xv4 (by omega),←hx,if_pos (show pos _=true from decide_eq_true h35)]⟩),(by dsimp only;omega)⟩ (SubR.int rfl (by first | omega | rfl | (dsimp only;omega)) (SubR.int rfl (by first | omega | rfl | (dsimp only;omega)) (SubR.cons rfl ((SubR.consI rfl (Imp.of (by dsimp only;rw [List.length_append];rfl))) (SubR.cons rfl SubR.nil))))) ((SubKR.consI rfl (ImpK.of xc2.symm)) SubKR.nil) (SupG.val (SupG.val (SupG.val (SupG.own rfl (SupG.val SupG.nil))))) (SupH.cons rfl (supJ xb0) SupH.nil) (lkOk rfl) rfl rfl (fun _ h=>by cases h)
   ·
    refine A7 ?_
    exact kF ((i+1,xs)) ⟨(by dsimp only;exact ⟨by omega,by rw [allS_next (by omega),ha,h32];rfl,by rw [xv4 (by omega),←hx,if_neg (by rw [pos,decide_eq_false h35];exact Bool.false_ne_true),List.append_nil]⟩),(by dsimp only;omega)⟩ (hh:=((SubK.consI rfl ImpK.refl) SubK.nil))
 ·
  refine A6 ?_
  have hil:i=l.length:=by omega
  subst hil
  rw [List.take_length] at ha hx
  have hall:=ha
  have hmk:mkS l=mrg (srt cfSn xs):=by rw [mkS,hx]
  refine A2 ?_
  refine RE (xe2 (fun _=>4) (c_sortSn xs (by omega)) fi153 rfl (krC (ρ:=fun _=>4) (k:=1) xc2 (krN (ρ:=fun _=>4))) (krC (ρ:=fun _=>4) (k:=1) xc2 (krN (ρ:=fun _=>4))) ⟨⟨rfl,xb0⟩,trivial⟩ rfl) ⟨rfl,rfl,trivial⟩ ⟨rfl,trivial⟩ trivial ?_
  refine A4 ?_
  refine RE (xd8 (k:=7) 62 2 true rfl (fun h=>by cases h)) trivial trivial ⟨rfl,trivial⟩ ?_
  refine A11 ?_
  refine cL (fun (fm:(Nat)×(List Sn))=>(fun (i:Nat) (zs:List Sn)=>i≤xs.length∧zs=mrg ((srt cfSn xs).take i)) fm.1 fm.2) (fun (fm:(Nat)×(List Sn))=>(fun (i:Nat) (zs:List Sn)=>upd (upd (upd (upd (upd (fun _=>none) 4 (some (.own (.sl 4 2 0 xs.length)))) 7 (some (.own (.sl 7 2 0 zs.length)))) 32 (some (.own (.sl 4 2 0 xs.length)))) 33 (some (.val (tI xs.length)))) 34 (some (.val (tI i)))) fm.1 fm.2) (fun (fm:(Nat)×(List Sn))=>(fun (i:Nat) (zs:List Sn)=>upd (upd (fun _=>none) 4 (some (⟨62,2,true,rV tSn (srt cfSn xs)⟩))) 7 (some (⟨62,2,true,rV tSn zs⟩))) fm.1 fm.2) [4,7] (fun (fm:(Nat)×(List Sn))=>(fun (i:Nat) (zs:List Sn)=>xs.length - i) fm.1 fm.2) ((0,[])) (by dsimp only;exact ⟨Nat.zero_le _,rfl⟩) (hh:=((SubK.consI rfl ImpK.refl) ((SubK.consI rfl ImpK.refl) SubK.nil))) ?_
  intro fm hI
  obtain ⟨i,zs⟩:=fm
  replace hI:i≤xs.length∧zs=mrg ((srt cfSn xs).take i):=hI
  show wc _ _ _ _ (upd (upd (upd (upd (upd (fun _=>none) 4 (some (.own (.sl 4 2 0 xs.length)))) 7 (some (.own (.sl 7 2 0 zs.length)))) 32 (some (.own (.sl 4 2 0 xs.length)))) 33 (some (.val (tI xs.length)))) 34 (some (.val (tI i)))) (upd (upd (fun _=>none) 4 (some (⟨62,2,true,rV tSn (srt cfSn xs)⟩))) 7 (some (⟨62,2,true,rV tSn zs⟩))) _
  obtain ⟨hi',hz⟩:=hI
  have hsl:=srtSn_len (xs:=xs)
  have hzl:zs.length≤i:=by
   have h:=mrg_len ((srt cfSn xs).take i) []
   rw [List.length_take] at h
   have h2:zs.length≤([]:List Sn).length+min i (srt cfSn xs).length:=by rw [hz];exact h
   simp at h2;omega
  refine A6 ?_
  refine x8 rfl (fun h41=> ?_) (fun h41=> ?_)
  ·
   refine A6 ?_
   refine R2 (xa4 sl45 (by omega) (by omega) rfl) rfl rfl (RE (xb7 (i) ti62 (xg8 (d:=sn0) (by omega)) (by omega)) ⟨rfl,trivial⟩ ⟨rfl,trivial⟩ trivial (RE (x9 (k:=9) (n:=2) (agg:=true) zr62.1 zr62.2 rfl) trivial trivial ⟨rfl,trivial⟩ ?_))
   refine A15 ?_
   refine RGcaseD (t:=42) rfl (fun h42=> ?_) (fun h42=> ?_)
   ·
    refine A2 ?_
    refine RGon (decide_eq_true h42) rfl (xe6 (wr64 (by omega) (by omega))) rfl ⟨rfl,rfl,trivial⟩ trivial trivial (RGon (decide_eq_true h42) rfl (xa4 sl45 (by omega) (by omega) rfl) rfl ⟨rfl,rfl,trivial⟩ trivial trivial ?_)
    refine A1 ?_
    refine RGon (decide_eq_true h42) rfl (xm6 (es:=2) (o:=1) (zs.length - 1) ti3 (xg8 (d:=sn0) (by omega)) (At.g 1 rfl rfl) (by omega)) rfl ⟨rfl,trivial⟩ ⟨rfl,trivial⟩ trivial ?_
    refine A6 ?_
    refine x8 rfl (fun h42_2=> ?_) (fun h42_2=> ?_)
    ·
     refine A7 ?_
     refine R2 (xa4 sl45 (by omega) (by omega) rfl) rfl rfl ?_
     refine A1 ?_
     refine RE (xm6 (es:=2) (o:=1) (zs.length - 1) ti3 (xg8 (d:=sn0) (by omega)) (At.g 1 rfl rfl) (by omega)) ⟨rfl,trivial⟩ ⟨rfl,trivial⟩ trivial ?_
     refine A2 ?_
     refine R2 d_max2 rfl rfl (R2 (xa4 sl45 (by omega) (by omega) rfl) rfl rfl ?_)
     refine A1 ?_
     refine RE (xn7 (es:=2) (o:=1) (t2:=tSn ⟨(zs.getD (zs.length - 1) sn0).lo,max (zs.getD (zs.length - 1) sn0).hi ((srt cfSn xs).getD i sn0).hi⟩) (zs.length - 1) ti3 (xg8 (d:=sn0) (by omega)) (Up.f (f:=⟨1,false,tI (zs.getD (zs.length - 1) sn0).hi⟩) 1 rfl rfl rfl) (by omega) (xk5 rfl)) ⟨rfl,rfl,trivial⟩ ⟨rfl,trivial⟩ trivial ?_
     refine A7 ?_
     exact kF ((i+1,(zs.set (zs.length - 1) ⟨(zs.getD (zs.length - 1) sn0).lo,max (zs.getD (zs.length - 1) sn0).hi ((srt cfSn xs).getD i sn0).hi⟩))) ⟨(by dsimp only;exact ⟨by omega,by rw [xu0 (by omega),←hz,mrg1,if_pos ⟨by omega,by omega⟩]⟩),(by dsimp only;omega)⟩ (hg:=(sI (sI (sC ((Sub.consI rfl (Imp.of (by dsimp only;rw [List.length_set]))) (sC Sub.nil)))))) (hh:=((SubK.consI rfl ImpK.refl) ((SubK.consI rfl ImpK.refl) SubK.nil)))
    ·
     refine A3 ?_
     refine R1 (xd2 (n:=1) (f:=tSn) [((srt cfSn xs).getD i sn0)] Tryz.underlying45 el62 zf62 rfl (fun _=>inferInstance) rfl rfl rfl) rfl (RE (xc5 (k:=7) (k':=70) (f:=tSn) (ys:=[((srt cfSn xs).getD i sn0)]) (ts':=rV tSn (zs++[((srt cfSn xs).getD i sn0)])) Tryz.underlying45 el62 zf62 rfl rfl (fun _=>inferInstance) xe5 (by simp;omega) (by simp;omega) (by simp [rV]) (n':=zs.length+1) rfl) ⟨rfl,rfl,trivial⟩ ⟨rfl,trivial⟩ ⟨rfl,trivial⟩ ?_)
     refine A8 ?_
     exact xe4 (l:=[4,7]) (fun j=>cond (Nat.beq j 7) 70 (j)) ((i+1,zs++[((srt cfSn xs).getD i sn0)])) ⟨(by dsimp only;exact ⟨by omega,by rw [xu0 (by omega),←hz,mrg1,if_neg (by omega)]⟩),(by dsimp only;omega)⟩ (SubR.int rfl (by first | omega | rfl | (dsimp only;omega)) (SubR.int rfl (by first | omega | rfl | (dsimp only;omega)) (SubR.cons rfl ((SubR.consI rfl (Imp.of (by dsimp only;rw [List.length_append];rfl))) (SubR.cons rfl SubR.nil))))) ((SubKR.consI rfl (ImpK.of xc2.symm)) ((SubKR.consI rfl (ImpK.of xc2.symm)) SubKR.nil)) (SupG.val (SupG.val (SupG.own rfl (SupG.own rfl (SupG.own rfl SupG.nil))))) (SupH.cons rfl (supJ xb0) (SupH.cons rfl (supJ xb0) SupH.nil)) (lkOk rfl) rfl rfl (fun _ h=>by cases h)
   ·
    refine A16 ?_
    refine R1 (xd2 (n:=1) (f:=tSn) [((srt cfSn xs).getD i sn0)] Tryz.underlying45 el62 zf62 rfl (fun _=>inferInstance) rfl rfl rfl) rfl (RE (xc5 (k:=7) (k':=70) (f:=tSn) (ys:=[((srt cfSn xs).getD i sn0)]) (ts':=rV tSn (zs++[((srt cfSn xs).getD i sn0)])) Tryz.underlying45 el62 zf62 rfl rfl (fun _=>inferInstance) xe5 (by simp;omega) (by simp;omega) (by simp [rV]) (n':=zs.length+1) rfl) ⟨rfl,rfl,trivial⟩ ⟨rfl,trivial⟩ ⟨rfl,trivial⟩ ?_)
    refine A8 ?_
    exact xe4 (l:=[4,7]) (fun j=>cond (Nat.beq j 7) 70 (j)) ((i+1,zs++[((srt cfSn xs).getD i sn0)])) ⟨(by dsimp only;exact ⟨by omega,by rw [xu0 (by omega),←hz,mrg1,if_neg (by omega)]⟩),(by dsimp only;omega)⟩ (SubR.int rfl (by first | omega | rfl | (dsimp only;omega)) (SubR.int rfl (by first | omega | rfl | (dsimp only;omega)) (SubR.cons rfl ((SubR.consI rfl (Imp.of (by dsimp only;rw [List.length_append];rfl))) (SubR.cons rfl SubR.nil))))) ((SubKR.consI rfl (ImpK.of xc2.symm)) ((SubKR.consI rfl (ImpK.of xc2.symm)) SubKR.nil)) (SupG.val (SupG.val (SupG.own rfl (SupG.own rfl (SupG.own rfl SupG.nil))))) (SupH.cons rfl (supJ xb0) (SupH.cons rfl (supJ xb0) SupH.nil)) (lkOk rfl) rfl rfl (fun _ h=>by cases h)
  ·
   refine A6 ?_
   have hzm:zs=mkS l:=by rw [hmk,hz,show i=(srt cfSn xs).length by omega,List.take_length]
   subst hzm
   refine A7 ?_
   exact xo7 (r1:= .own (.sl 7 2 0 (mkS l).length)) (r2:= .val (tI 0)) LentC.mk' rfl rfl rfl Imp.refl Imp.refl ⟨rfl,trivial⟩ rfl ⟨⟨rfl,xb0⟩,trivial⟩ rfl
theorem c_workedO (l:List Tst) (a b:Int) (hl:l.length≤1000000) (hall: ¬b≤a→(wkS l a b).all Sn.ok=true) (ys:List Sn) (hy:ys=wkd l a b):
  CtG Tryz.prog 45 [] [.val (tRec l a b)] (.own (.sl 42 2 0 ys.length)) [(42,⟨62,2,true,rV tSn ys⟩)] [42]:=by
 refine CtG.intro [] Tryz.func45 rfl Tryz.ntmps45 rfl rfl trivial ?_
 intro w F η
 refine A10 ?_
 refine R1 (x3 (c_none l a b) fi55 rfl) rfl ?_
 refine A2 ?_
 refine x8 rfl (fun h36=> ?_) (fun h36=> ?_)
 ·
  refine A2 ?_
  refine RE (xd8 (k:=42) 62 2 true rfl (fun h=>by cases h)) trivial trivial ⟨rfl,trivial⟩ ?_
  refine A4 ?_
  rw [wkd,if_pos h36] at hy
  subst hy
  exact xe8 LentC.mk' rfl rfl Imp.refl ⟨rfl,trivial⟩ rfl ⟨⟨rfl,xb0⟩,trivial⟩ rfl
 ·
  refine A4 ?_
  refine R1 (xp5 (ps:=[.ptr 1 0]) rfl) rfl ?_
  refine A5 ?_
  refine RE (xd8 (k:=4) 62 2 true rfl (fun h=>by cases h)) trivial trivial ⟨rfl,trivial⟩ ?_
  refine A12 ?_
  refine cL (fun (fm:(Nat)×(List Sn))=>(fun (i:Nat) (xs:List Sn)=>i≤l.length∧xs=wkS (l.take i) a b) fm.1 fm.2) (fun (fm:(Nat)×(List Sn))=>(fun (i:Nat) (xs:List Sn)=>upd (upd (upd (upd (upd (upd (fun _=>none) 1 (some (.own (.ptr 1 0)))) 3 (some (.own (.fn 85 [.ptr 1 0])))) 4 (some (.own (.sl 4 2 0 xs.length)))) 13 (some (.val (tL 8 true tTs l)))) 14 (some (.val (tI l.length)))) 15 (some (.val (tI i)))) fm.1 fm.2) (fun (fm:(Nat)×(List Sn))=>(fun (i:Nat) (xs:List Sn)=>upd (upd (fun _=>none) 1 (some (⟨72,3,true,[.val (tRec l a b)]⟩))) 4 (some (⟨62,2,true,rV tSn xs⟩))) fm.1 fm.2) [1,4] (fun (fm:(Nat)×(List Sn))=>(fun (i:Nat) (xs:List Sn)=>l.length - i) fm.1 fm.2) ((0,[])) (by dsimp only;exact ⟨Nat.zero_le _,rfl⟩) (hh:=((SubK.consI rfl ImpK.refl) ((SubK.consI rfl ImpK.refl) SubK.nil))) ?_
  intro fm hI
  obtain ⟨i,xs⟩:=fm
  replace hI:i≤l.length∧xs=wkS (l.take i) a b:=hI
  show wc _ _ _ _ (upd (upd (upd (upd (upd (upd (fun _=>none) 1 (some (.own (.ptr 1 0)))) 3 (some (.own (.fn 85 [.ptr 1 0])))) 4 (some (.own (.sl 4 2 0 xs.length)))) 13 (some (.val (tL 8 true tTs l)))) 14 (some (.val (tI l.length)))) 15 (some (.val (tI i)))) (upd (upd (fun _=>none) 1 (some (⟨72,3,true,[.val (tRec l a b)]⟩))) 4 (some (⟨62,2,true,rV tSn xs⟩))) _
  obtain ⟨hi,hx⟩:=hI
  have hxl:xs.length≤i:=by
   have h:=wkS_len (l:=l.take i) (a:=a) (b:=b)
   rw [←hx,List.length_take] at h;omega
  refine A6 ?_
  refine x8 rfl (fun h43=> ?_) (fun h43=> ?_)
  ·
   refine A6 ?_
   refine R2 (x6 sl22 (i) (by omega) (gD (l:=l) (n:=i) (d:=tst0) (by omega))) rfl rfl ?_
   refine A1 ?_
   refine RE (x9 (k:=6) (n:=8) (agg:=true) zr34.1 zr34.2 rfl) trivial trivial ⟨rfl,trivial⟩ ?_
   refine A7 ?_
   refine RE (xp3 (ps:=[.val (tTs _)]) (caps:=[.ptr 1 0]) (fun _=>1) (c_idle l a b (l.getD i tst0)) fi85 rfl (krC (ρ:=fun _=>1) (k:=1) rfl (krN (ρ:=fun _=>1))) (krC (ρ:=fun _=>1) (k:=1) rfl (krN (ρ:=fun _=>1))) ⟨⟨rfl,(SupX.lit rfl)⟩,trivial⟩ rfl) ⟨rfl,rfl,trivial⟩ ⟨rfl,trivial⟩ trivial ?_
   refine A3 ?_
   refine xd4 rfl (fun h44=> ?_) (fun h44=> ?_)
   ·
    refine A6 ?_
    refine xh1 (0) ti3 rfl rfl rfl (At.t (At.g 0 rfl rfl) (At.g 0 rfl rfl)) rfl (R2 d_max2 rfl rfl ?_)
    refine A4 ?_
    refine xh1 (0) ti3 rfl rfl rfl (At.t (At.g 0 rfl rfl) (At.g 1 rfl rfl)) rfl (R2 d_min2 rfl rfl (R2 (xb8 (r:=tS [⟨1,false,tI (max (l.getD i tst0).lo a)⟩,⟨1,false,tI (min (l.getD i tst0).hi b)⟩]) (ts:=[(0,tI (max (l.getD i tst0).lo a)),(1,tI (min (l.getD i tst0).hi b))]) bu62 zr62.2 (Bc 0 rfl rfl rfl (Bc 1 rfl rfl rfl Le.refl))) rfl rfl (R1 (xd2 (n:=1) (f:=tSn) [(clipS a b (l.getD i tst0))] Tryz.underlying45 el62 zf62 rfl (fun _=>inferInstance) rfl rfl rfl) rfl (RE (xc5 (k:=4) (k':=38) (f:=tSn) (ys:=[(clipS a b (l.getD i tst0))]) (ts':=rV tSn (xs++[(clipS a b (l.getD i tst0))])) Tryz.underlying45 el62 zf62 rfl rfl (fun _=>inferInstance) xe5 (by simp;omega) (by simp;omega) (by simp [rV]) (n':=xs.length+1) rfl) ⟨rfl,rfl,trivial⟩ ⟨rfl,trivial⟩ ⟨rfl,trivial⟩ ?_))))
    refine A8 ?_
    exact xe4 (l:=[1,4]) (fun j=>cond (Nat.beq j 4) 38 (j)) ((i+1,xs++[(clipS a b (l.getD i tst0))])) ⟨(by dsimp only;exact ⟨by omega,by rw [wkS_next (by omega),←hx,if_neg (by simpa using h44)]⟩),(by dsimp only;omega)⟩ (SubR.int rfl (by first | omega | rfl | (dsimp only;omega)) (SubR.int rfl (by first | omega | rfl | (dsimp only;omega)) (SubR.cons rfl ((SubR.consI rfl (Imp.of (by dsimp only;rw [List.length_append];rfl))) (SubR.cons rfl (SubR.cons rfl SubR.nil)))))) ((SubKR.consI rfl (ImpK.of xc2.symm)) ((SubKR.consI rfl ImpK.refl) SubKR.nil)) (SupG.val (SupG.val (SupG.val (SupG.own rfl (SupG.own rfl (SupG.own rfl SupG.nil)))))) (SupH.cons rfl (supJ xb0) (SupH.cons rfl (supJL rfl) SupH.nil)) (lkOk rfl) rfl rfl (fun _ h=>by cases h)
   ·
    refine A7 ?_
    exact kF ((i+1,xs)) ⟨(by dsimp only;exact ⟨by omega,by rw [wkS_next (by omega),←hx,if_pos (by simpa using h44),List.append_nil]⟩),(by dsimp only;omega)⟩ (hh:=((SubK.consI rfl ImpK.refl) ((SubK.consI rfl ImpK.refl) SubK.nil)))
  ·
   refine A6 ?_
   have hxw:xs=wkS l a b:=by rw [hx,show i=l.length by omega,List.take_length]
   have hallx:xs.all Sn.ok=true:=by rw [hxw];exact hall h36
   have hys:ys=mkS xs:=by rw [hy,wkd,if_neg h36,if_pos (hall h36),hxw]
   subst hys
   refine A1 ?_
   refine RE (xg3 (f:=tSn) (xs:=xs) (fun _ h=>by obtain ⟨y,hy,_⟩:=h;cases hy) (xi4 rfl) rfl) ⟨rfl,trivial⟩ ⟨rfl,trivial⟩ trivial (RE (xe2 (fun _=>42) (c_SnMakeO xs (by omega) hallx) fi86 rfl (krN (ρ:=fun _=>42)) (krC (ρ:=fun _=>42) (k:=7) xc2 (krN (ρ:=fun _=>42))) ⟨⟨rfl,xb0⟩,trivial⟩ rfl) ⟨rfl,trivial⟩ trivial ⟨rfl,trivial⟩ ?_)
   refine A1 ?_
   refine R1 (xk1 rfl) rfl (R1 (xk1 rfl) rfl ?_)
   refine A11 ?_
   exact xe8 LentC.mk' rfl rfl Imp.refl ⟨rfl,trivial⟩ rfl ⟨⟨rfl,xb0⟩,trivial⟩ rfl
theorem wkS_ok {l:List Tst} {a b:Int} (h:askB l a b=true) (hab: ¬b≤a):(wkS l a b).all Sn.ok=true:=by
 obtain ⟨h1,h2,h3,h4,h5⟩:=askB_iff.1 h
 simp only [sRight,Bool.and_eq_true] at h1
 rw [List.all_eq_true]
 intro x hx
 obtain ⟨s,hs,rfl⟩:=List.mem_map.1 hx
 obtain ⟨hm,hi⟩:=List.mem_filter.1 hs
 obtain ⟨i,hi2,rfl⟩:=xn8 hm
 have h6:=xm4 h1.1 hi2
 have h7: ¬_:=fun h'=>by rw [idle_iff.2 h'] at hi;cases hi
 simp only [clipS,Sn.ok,Bool.and_eq_true]
 exact ⟨⟨decide_eq_true (by omega),decide_eq_true (by omega)⟩,decide_eq_true (by omega)⟩
theorem c_WorkedO (l:List Tst) (a b:Int) (hl:l.length≤500000) (hD: ∀s∈l,s.v.f.dig) (ys:List Sn) (er:Int) (hy:ys=if askB l a b=true then wkd l a b else []) (he:er=if askB l a b=true then 0 else 2):
  CtG Tryz.prog 17 [] [.val (tL 8 true tTs l),.val (tI a),.val (tI b)] (.own (.tup [.sl 20 2 0 ys.length,.ty (tI er)])) [(20,⟨62,2,true,rV tSn ys⟩)] [20]:=by
 refine CtG.intro [] Tryz.func17 rfl Tryz.ntmps17 rfl rfl trivial ?_
 intro w F η
 refine A11 ?_
 refine R3 (x3 (xs9 l a b hD) fi44 rfl) rfl rfl rfl ?_
 refine A3 ?_
 refine RE (x9 (k:=8) (n:=3) (agg:=true) zr72.1 zr72.2 rfl) trivial trivial ⟨rfl,trivial⟩ ?_
 refine A11 ?_
 refine xd4 rfl (fun h113=> ?_) (fun h113=> ?_)
 ·
  have hk: ¬askB l a b=true:=by simpa using h113
  refine A2 ?_
  refine RE (xd8 (k:=20) 62 2 true rfl (fun h=>by cases h)) trivial trivial ⟨rfl,trivial⟩ ?_
  refine A5 ?_
  rw [if_neg (hk)] at hy he
  subst hy he
  exact xo7 (r1:= .own (.sl 20 2 0 ([]:List Sn).length)) (r2:= .val (tI 2)) LentC.mk' rfl rfl rfl Imp.refl Imp.refl ⟨rfl,trivial⟩ rfl ⟨⟨rfl,xb0⟩,trivial⟩ rfl
 ·
  have hk:askB l a b=true:=by simpa using h113
  refine A3 ?_
  rw [if_pos hk] at hy he
  subst hy he
  refine A2 ?_
  refine RE (xe2 (fun _=>20) (c_workedO l a b (by omega) (wkS_ok hk) _ rfl) fi45 rfl (krN (ρ:=fun _=>20)) (krC (ρ:=fun _=>20) (k:=42) xc2 (krN (ρ:=fun _=>20))) ⟨⟨rfl,xb0⟩,trivial⟩ rfl) ⟨rfl,trivial⟩ trivial ⟨rfl,trivial⟩ ?_
  refine A5 ?_
  exact xo7 (r1:= .own (.sl 20 2 0 (wkd l a b).length)) (r2:= .val (tI 0)) LentC.mk' rfl rfl rfl Imp.refl Imp.refl ⟨rfl,trivial⟩ rfl ⟨⟨rfl,xb0⟩,trivial⟩ rfl
theorem c_BreaksO (l:List Tst) (a b:Int) (hl:l.length≤500000) (hD: ∀s∈l,s.v.f.dig) (ys:List Sn) (er:Int) (hy:ys=if askB l a b=true then brk (wkd l a b) else []) (he:er=if askB l a b=true then 0 else 2):
  CtG Tryz.prog 18 [] [.val (tL 8 true tTs l),.val (tI a),.val (tI b)] (.own (.tup [.sl 10 2 0 ys.length,.ty (tI er)])) [(10,⟨62,2,true,rV tSn ys⟩)] [10]:=by
 have hwl:=wkd_len (l:=l) (a:=a) (b:=b)
 refine CtG.intro [] Tryz.func18 rfl Tryz.ntmps18 rfl rfl trivial ?_
 intro w F η
 refine A11 ?_
 refine R3 (x3 (xs9 l a b hD) fi44 rfl) rfl rfl rfl ?_
 refine A3 ?_
 refine RE (x9 (k:=8) (n:=3) (agg:=true) zr72.1 zr72.2 rfl) trivial trivial ⟨rfl,trivial⟩ ?_
 refine A11 ?_
 refine xd4 rfl (fun h122=> ?_) (fun h122=> ?_)
 ·
  have hk: ¬askB l a b=true:=by simpa using h122
  refine A2 ?_
  refine RE (xd8 (k:=10) 62 2 true rfl (fun h=>by cases h)) trivial trivial ⟨rfl,trivial⟩ ?_
  refine A5 ?_
  rw [if_neg (hk)] at hy he
  subst hy he
  exact xo7 (r1:= .own (.sl 10 2 0 ([]:List Sn).length)) (r2:= .val (tI 2)) LentC.mk' rfl rfl rfl Imp.refl Imp.refl ⟨rfl,trivial⟩ rfl ⟨⟨rfl,xb0⟩,trivial⟩ rfl
 ·
  have hk:askB l a b=true:=by simpa using h122
  refine A4 ?_
  refine RE (xd8 (k:=10) 62 2 true rfl (fun h=>by cases h)) trivial trivial ⟨rfl,trivial⟩ ?_
  refine A5 ?_
  refine R1 (x3 (c_worked l a b (by omega)) fi45 rfl) rfl ?_
  refine A10 ?_
  refine cL (fun (fm:(Nat)×(List Sn))=>(fun (i:Nat) (xs:List Sn)=>(i=0∨i+1≤(wkd l a b).length)∧xs=(List.range i).map (fun i=>(⟨((wkd l a b).getD i sn0).hi,((wkd l a b).getD (i+1) sn0).lo⟩:Sn))) fm.1 fm.2) (fun (fm:(Nat)×(List Sn))=>(fun (i:Nat) (xs:List Sn)=>upd (upd (upd (fun _=>none) 10 (some (.own (.sl 10 2 0 xs.length)))) 11 (some (.val (tL 2 true tSn (wkd l a b))))) 12 (some (.val (tI ((i:Int)+1))))) fm.1 fm.2) (fun (fm:(Nat)×(List Sn))=>(fun (i:Nat) (xs:List Sn)=>upd (fun _=>none) 10 (some (⟨62,2,true,rV tSn xs⟩))) fm.1 fm.2) [10] (fun (fm:(Nat)×(List Sn))=>(fun (i:Nat) (xs:List Sn)=>(wkd l a b).length - i) fm.1 fm.2) ((0,[])) (by dsimp only;exact ⟨.inl rfl,rfl⟩) (hh:=((SubK.consI rfl ImpK.refl) SubK.nil)) ?_
  intro fm hI
  obtain ⟨i,xs⟩:=fm
  replace hI:(i=0∨i+1≤(wkd l a b).length)∧xs=(List.range i).map (fun i=>(⟨((wkd l a b).getD i sn0).hi,((wkd l a b).getD (i+1) sn0).lo⟩:Sn)):=hI
  show wc _ _ _ _ (upd (upd (upd (fun _=>none) 10 (some (.own (.sl 10 2 0 xs.length)))) 11 (some (.val (tL 2 true tSn (wkd l a b))))) 12 (some (.val (tI ((i:Int)+1))))) (upd (fun _=>none) 10 (some (⟨62,2,true,rV tSn xs⟩))) _
  obtain ⟨hi,hx⟩:=hI
  have hxl:xs.length=i:=by rw [hx];simp
  refine A9 ?_
  refine x8 rfl (fun h127=> ?_) (fun h127=> ?_)
  ·
   refine A9 ?_
   refine R2 (x6 sl45 (i) (by omega) (gD (l:=wkd l a b) (n:=i) (d:=sn0) (by omega))) rfl rfl (R1 (xb5 fo62_1.h (At.f 1 rfl rfl) rfl) rfl ?_)
   refine A3 ?_
   refine R2 (x6 sl45 (i+1) (by omega) (gD (l:=wkd l a b) (n:=i+1) (d:=sn0) (by omega))) rfl rfl (R1 (xb5 fo62_0.h (At.f 0 rfl rfl) rfl) rfl ?_)
   refine A1 ?_
   refine R2 (xb8 (r:=tS [⟨1,false,tI ((wkd l a b).getD i sn0).hi⟩,⟨1,false,tI ((wkd l a b).getD (i+1) sn0).lo⟩]) (ts:=[(0,tI ((wkd l a b).getD i sn0).hi),(1,tI ((wkd l a b).getD (i+1) sn0).lo)]) bu62 zr62.2 (Bc 0 rfl rfl rfl (Bc 1 rfl rfl rfl Le.refl))) rfl rfl (R1 (xd2 (n:=1) (f:=tSn) [⟨((wkd l a b).getD i sn0).hi,((wkd l a b).getD (i+1) sn0).lo⟩] Tryz.underlying45 el62 zf62 rfl (fun _=>inferInstance) rfl rfl rfl) rfl (RE (xc5 (k:=10) (k':=44) (f:=tSn) (ys:=[⟨((wkd l a b).getD i sn0).hi,((wkd l a b).getD (i+1) sn0).lo⟩]) (ts':=rV tSn (xs++[⟨((wkd l a b).getD i sn0).hi,((wkd l a b).getD (i+1) sn0).lo⟩])) Tryz.underlying45 el62 zf62 rfl rfl (fun _=>inferInstance) xe5 (by simp;omega) (by simp;omega) (by simp [rV]) (n':=xs.length+1) rfl) ⟨rfl,rfl,trivial⟩ ⟨rfl,trivial⟩ ⟨rfl,trivial⟩ ?_))
   refine A9 ?_
   exact xe4 (l:=[10]) (fun j=>cond (Nat.beq j 10) 44 (j)) ((i+1,xs++[⟨((wkd l a b).getD i sn0).hi,((wkd l a b).getD (i+1) sn0).lo⟩])) ⟨(by dsimp only;exact ⟨by omega,by rw [brk_snoc,←hx]⟩),(by dsimp only;omega)⟩ (SubR.int rfl (by first | omega | rfl | (dsimp only;omega)) (SubR.cons rfl ((SubR.consI rfl (Imp.of (by dsimp only;rw [List.length_append];rfl))) SubR.nil))) ((SubKR.consI rfl (ImpK.of xc2.symm)) SubKR.nil) (SupG.val (SupG.val (SupG.own rfl SupG.nil))) (SupH.cons rfl (supJ xb0) SupH.nil) (lkOk rfl) rfl rfl (fun _ h=>by cases h)
  ·
   refine A6 ?_
   rw [if_pos hk] at hy he
   have hys:ys=xs:=by rw [hy,hx,brk,show i=(wkd l a b).length - 1 by omega]
   clear hy
   subst hys he
   refine A7 ?_
   exact xo7 (r1:= .own (.sl 10 2 0 ys.length)) (r2:= .val (tI 0)) LentC.mk' rfl rfl rfl Imp.refl Imp.refl ⟨rfl,trivial⟩ rfl ⟨⟨rfl,xb0⟩,trivial⟩ rfl
theorem c_SBridgeO (l:List Sn) (d:Int) (hl:l.length≤1000000) (ys:List Sn) (er:Int) (hy:ys=if sVal l=true∧0≤d then brg d l else []) (he:er=if sVal l=true∧0≤d then 0 else 2):
  CtG Tryz.prog 46 [] [.val (tL 2 true tSn l),.val (tI d)] (.own (.tup [.sl 6 2 0 ys.length,.ty (tI er)])) [(6,⟨62,2,true,rV tSn ys⟩)] [6]:=by
 refine CtG.intro [] Tryz.func46 rfl Tryz.ntmps46 rfl rfl trivial ?_
 intro w F η
 refine A10 ?_
 refine R1 (x3 (c_SValid _) fi87 rfl) rfl ?_
 refine A2 ?_
 refine RGcase (t:=13) rfl (fun h124=> ?_) (fun h124=> ?_)
 ·
  refine A8 ?_
  refine RE (xd8 (k:=6) 62 2 true rfl (fun h=>by cases h)) trivial trivial ⟨rfl,trivial⟩ ?_
  refine A5 ?_
  rw [if_neg (fun h=>by rw [h.1] at h124;cases h124)] at hy he
  subst hy he
  exact xo7 (r1:= .own (.sl 6 2 0 ([]:List Sn).length)) (r2:= .val (tI 2)) LentC.mk' rfl rfl rfl Imp.refl Imp.refl ⟨rfl,trivial⟩ rfl ⟨⟨rfl,xb0⟩,trivial⟩ rfl
 ·
  refine A5 ?_
  refine x8 rfl (fun h124_2=> ?_) (fun h124_2=> ?_)
  ·
   refine A2 ?_
   refine RE (xd8 (k:=6) 62 2 true rfl (fun h=>by cases h)) trivial trivial ⟨rfl,trivial⟩ ?_
   refine A5 ?_
   rw [if_neg (by omega)] at hy he
   subst hy he
   exact xo7 (r1:= .own (.sl 6 2 0 ([]:List Sn).length)) (r2:= .val (tI 2)) LentC.mk' rfl rfl rfl Imp.refl Imp.refl ⟨rfl,trivial⟩ rfl ⟨⟨rfl,xb0⟩,trivial⟩ rfl
  ·
   refine A4 ?_
   refine RE (xd8 (k:=6) 62 2 true rfl (fun h=>by cases h)) trivial trivial ⟨rfl,trivial⟩ ?_
   refine A11 ?_
   have hok:sVal l=true∧0≤d:=⟨by simpa using h124,by omega⟩
   refine cL (fun (fm:(Nat)×(List Sn))=>(fun (i:Nat) (zs:List Sn)=>i≤l.length∧zs=brg d (l.take i)∧zs.length≤i∧(0 < zs.length→0≤(zs.getD (zs.length - 1) sn0).hi∧(zs.getD (zs.length - 1) sn0).hi≤65536)) fm.1 fm.2) (fun (fm:(Nat)×(List Sn))=>(fun (i:Nat) (zs:List Sn)=>upd (upd (upd (upd (upd (fun _=>none) 1 (some (.val (tI d)))) 6 (some (.own (.sl 6 2 0 zs.length)))) 17 (some (.val (tL 2 true tSn l)))) 18 (some (.val (tI l.length)))) 19 (some (.val (tI i)))) fm.1 fm.2) (fun (fm:(Nat)×(List Sn))=>(fun (i:Nat) (zs:List Sn)=>upd (fun _=>none) 6 (some (⟨62,2,true,rV tSn zs⟩))) fm.1 fm.2) [6] (fun (fm:(Nat)×(List Sn))=>(fun (i:Nat) (zs:List Sn)=>l.length - i) fm.1 fm.2) ((0,[])) (by dsimp only;exact ⟨Nat.zero_le _,rfl,Nat.le_refl _,fun h=>absurd h (Nat.lt_irrefl _)⟩) (hh:=((SubK.consI rfl ImpK.refl) SubK.nil)) ?_
   intro fm hI
   obtain ⟨i,zs⟩:=fm
   replace hI:i≤l.length∧zs=brg d (l.take i)∧zs.length≤i∧(0 < zs.length→0≤(zs.getD (zs.length - 1) sn0).hi∧(zs.getD (zs.length - 1) sn0).hi≤65536):=hI
   show wc _ _ _ _ (upd (upd (upd (upd (upd (fun _=>none) 1 (some (.val (tI d)))) 6 (some (.own (.sl 6 2 0 zs.length)))) 17 (some (.val (tL 2 true tSn l)))) 18 (some (.val (tI l.length)))) 19 (some (.val (tI i)))) (upd (fun _=>none) 6 (some (⟨62,2,true,rV tSn zs⟩))) _
   obtain ⟨hi,hz,hzl,hlast⟩:=hI
   refine A6 ?_
   refine x8 rfl (fun h128=> ?_) (fun h128=> ?_)
   ·
    refine A6 ?_
    have hs:=xf0 hok.1 (i:=i) (by omega)
    refine R2 (x6 sl45 (i) (by omega) (gD (l:=l) (n:=i) (d:=sn0) (by omega))) rfl rfl ?_
    refine A1 ?_
    refine RE (x9 (k:=8) (n:=2) (agg:=true) zr62.1 zr62.2 rfl) trivial trivial ⟨rfl,trivial⟩ ?_
    refine A15 ?_
    refine RGcaseD (t:=27) rfl (fun h129=> ?_) (fun h129=> ?_)
    ·
     refine A4 ?_
     refine RGon (decide_eq_true h129) rfl (xe6 (wr64 (by omega) (by omega))) rfl ⟨rfl,rfl,trivial⟩ trivial trivial (RGon (decide_eq_true h129) rfl (xa4 sl45 (by omega) (by omega) rfl) rfl ⟨rfl,rfl,trivial⟩ trivial trivial ?_)
     refine A1 ?_
     refine RGon (decide_eq_true h129) rfl (xm6 (es:=2) (o:=1) (zs.length - 1) ti3 (xg8 (d:=sn0) (by omega)) (At.g 1 rfl rfl) (by omega)) rfl ⟨rfl,trivial⟩ ⟨rfl,trivial⟩ trivial (RGon (decide_eq_true h129) rfl (xe6 (wr64 (by omega) (by omega))) rfl ⟨rfl,rfl,trivial⟩ trivial trivial ?_)
     refine A5 ?_
     refine x8 rfl (fun h129_2=> ?_) (fun h129_2=> ?_)
     ·
      refine A6 ?_
      refine R2 (xa4 sl45 (by omega) (by omega) rfl) rfl rfl ?_
      refine A1 ?_
      refine RE (xn7 (es:=2) (o:=1) (t2:=tSn ⟨(zs.getD (zs.length - 1) sn0).lo,(l.getD i sn0).hi⟩) (zs.length - 1) ti3 (xg8 (d:=sn0) (by omega)) (Up.g 1 rfl rfl rfl) (by omega) (xk5 rfl)) ⟨rfl,rfl,trivial⟩ ⟨rfl,trivial⟩ trivial ?_
      refine A7 ?_
      exact kF ((i+1,(zs.set (zs.length - 1) ⟨(zs.getD (zs.length - 1) sn0).lo,(l.getD i sn0).hi⟩))) ⟨(by dsimp only;exact ⟨by omega,by rw [xu1 (by omega),←hz,brg1,if_pos ⟨by omega,by omega⟩],by rw [List.length_set];omega,fun _=>by rw [set_last (by omega)];dsimp only;omega⟩),(by dsimp only;omega)⟩ (hg:=(sI (sI (sC ((Sub.consI rfl (Imp.of (by dsimp only;rw [List.length_set]))) (sI Sub.nil)))))) (hh:=((SubK.consI rfl ImpK.refl) SubK.nil))
     ·
      refine A3 ?_
      refine R1 (xd2 (n:=1) (f:=tSn) [(l.getD i sn0)] Tryz.underlying45 el62 zf62 rfl (fun _=>inferInstance) rfl rfl rfl) rfl (RE (xc5 (k:=6) (k':=50) (f:=tSn) (ys:=[(l.getD i sn0)]) (ts':=rV tSn (zs++[(l.getD i sn0)])) Tryz.underlying45 el62 zf62 rfl rfl (fun _=>inferInstance) xe5 (by simp;omega) (by simp;omega) (by simp [rV]) (n':=zs.length+1) rfl) ⟨rfl,rfl,trivial⟩ ⟨rfl,trivial⟩ ⟨rfl,trivial⟩ ?_)
      refine A8 ?_
      exact xe4 (l:=[6]) (fun j=>cond (Nat.beq j 6) 50 (j)) ((i+1,zs++[(l.getD i sn0)])) ⟨(by dsimp only;exact ⟨by omega,by rw [xu1 (by omega),←hz,brg1,if_neg (by omega)],by rw [List.length_append];simp;omega,fun _=>by rw [snoc_last];omega⟩),(by dsimp only;omega)⟩ (SubR.int rfl (by first | omega | rfl | (dsimp only;omega)) (SubR.int rfl (by first | omega | rfl | (dsimp only;omega)) (SubR.cons rfl ((SubR.consI rfl (Imp.of (by dsimp only;rw [List.length_append];rfl))) (SubR.int rfl (by first | omega | rfl | (dsimp only;omega)) SubR.nil))))) ((SubKR.consI rfl (ImpK.of xc2.symm)) SubKR.nil) (SupG.val (SupG.val (SupG.val (SupG.own rfl (SupG.val SupG.nil))))) (SupH.cons rfl (supJ xb0) SupH.nil) (lkOk rfl) rfl rfl (fun _ h=>by cases h)
    ·
     refine A18 ?_
     refine R1 (xd2 (n:=1) (f:=tSn) [(l.getD i sn0)] Tryz.underlying45 el62 zf62 rfl (fun _=>inferInstance) rfl rfl rfl) rfl (RE (xc5 (k:=6) (k':=50) (f:=tSn) (ys:=[(l.getD i sn0)]) (ts':=rV tSn (zs++[(l.getD i sn0)])) Tryz.underlying45 el62 zf62 rfl rfl (fun _=>inferInstance) xe5 (by simp;omega) (by simp;omega) (by simp [rV]) (n':=zs.length+1) rfl) ⟨rfl,rfl,trivial⟩ ⟨rfl,trivial⟩ ⟨rfl,trivial⟩ ?_)
     refine A8 ?_
     exact xe4 (l:=[6]) (fun j=>cond (Nat.beq j 6) 50 (j)) ((i+1,zs++[(l.getD i sn0)])) ⟨(by dsimp only;exact ⟨by omega,by rw [xu1 (by omega),←hz,brg1,if_neg (by omega)],by rw [List.length_append];simp;omega,fun _=>by rw [snoc_last];omega⟩),(by dsimp only;omega)⟩ (SubR.int rfl (by first | omega | rfl | (dsimp only;omega)) (SubR.int rfl (by first | omega | rfl | (dsimp only;omega)) (SubR.cons rfl ((SubR.consI rfl (Imp.of (by dsimp only;rw [List.length_append];rfl))) (SubR.int rfl (by first | omega | rfl | (dsimp only;omega)) SubR.nil))))) ((SubKR.consI rfl (ImpK.of xc2.symm)) SubKR.nil) (SupG.val (SupG.val (SupG.val (SupG.own rfl (SupG.val SupG.nil))))) (SupH.cons rfl (supJ xb0) SupH.nil) (lkOk rfl) rfl rfl (fun _ h=>by cases h)
   ·
    refine A6 ?_
    rw [if_pos hok] at hy he
    have hys:ys=zs:=by rw [hy,hz,show i=l.length by omega,List.take_length]
    clear hy
    subst hys he
    refine A7 ?_
    exact xo7 (r1:= .own (.sl 6 2 0 ys.length)) (r2:= .val (tI 0)) LentC.mk' rfl rfl rfl Imp.refl Imp.refl ⟨rfl,trivial⟩ rfl ⟨⟨rfl,xb0⟩,trivial⟩ rfl
theorem c_PeriodsO (l:List Tst) (a b:Int) (d:Int) (hl:l.length≤500000) (hD: ∀s∈l,s.v.f.dig) (ys:List Sn) (er:Int) (hy:ys=if askB l a b=true∧sVal (wkd l a b)=true∧0≤d then brg d (wkd l a b) else []) (he:er=if askB l a b=true∧sVal (wkd l a b)=true∧0≤d then 0 else 2):
  CtG Tryz.prog 19 [] [.val (tL 8 true tTs l),.val (tI a),.val (tI b),.val (tI d)] (.own (.tup [.sl 28 2 0 ys.length,.ty (tI er)])) [(28,⟨62,2,true,rV tSn ys⟩)] [28]:=by
 have hwl:=wkd_len (l:=l) (a:=a) (b:=b)
 refine CtG.intro [] Tryz.func19 rfl Tryz.ntmps19 rfl rfl trivial ?_
 intro w F η
 refine A11 ?_
 refine R3 (x3 (xs9 l a b hD) fi44 rfl) rfl rfl rfl ?_
 refine A3 ?_
 refine RE (x9 (k:=10) (n:=3) (agg:=true) zr72.1 zr72.2 rfl) trivial trivial ⟨rfl,trivial⟩ ?_
 refine A10 ?_
 refine RGcase (t:=21) rfl (fun h136=> ?_) (fun h136=> ?_)
 ·
  have hk: ¬(askB l a b=true∧sVal (wkd l a b)=true∧0≤d):=fun h=>by rw [h.1] at h136;cases h136
  refine A8 ?_
  refine RE (xd8 (k:=28) 62 2 true rfl (fun h=>by cases h)) trivial trivial ⟨rfl,trivial⟩ ?_
  refine A5 ?_
  rw [if_neg (hk)] at hy he
  subst hy he
  exact xo7 (r1:= .own (.sl 28 2 0 ([]:List Sn).length)) (r2:= .val (tI 2)) LentC.mk' rfl rfl rfl Imp.refl Imp.refl ⟨rfl,trivial⟩ rfl ⟨⟨rfl,xb0⟩,trivial⟩ rfl
 ·
  have hk0:askB l a b=true:=by simpa using h136
  refine A5 ?_
  refine x8 rfl (fun h136_2=> ?_) (fun h136_2=> ?_)
  ·
   have hk: ¬(askB l a b=true∧sVal (wkd l a b)=true∧0≤d):=by omega
   refine A2 ?_
   refine RE (xd8 (k:=28) 62 2 true rfl (fun h=>by cases h)) trivial trivial ⟨rfl,trivial⟩ ?_
   refine A5 ?_
   rw [if_neg (hk)] at hy he
   subst hy he
   exact xo7 (r1:= .own (.sl 28 2 0 ([]:List Sn).length)) (r2:= .val (tI 2)) LentC.mk' rfl rfl rfl Imp.refl Imp.refl ⟨rfl,trivial⟩ rfl ⟨⟨rfl,xb0⟩,trivial⟩ rfl
  ·
   refine A3 ?_
   have hys:ys=(if sVal (wkd l a b)=true∧0≤d then brg d (wkd l a b) else []):=by rw [hy];by_cases hs:sVal (wkd l a b)=true∧0≤d <;> simp [hk0,hs]
   have hes:er=(if sVal (wkd l a b)=true∧0≤d then 0 else 2):=by rw [he];by_cases hs:sVal (wkd l a b)=true∧0≤d <;> simp [hk0,hs]
   clear hy he
   subst hys hes
   refine A2 ?_
   refine R1 (x3 (c_worked l a b (by omega)) fi45 rfl) rfl ?_
   refine A1 ?_
   refine RE (xe2 (fun _=>28) (c_SBridgeO (wkd l a b) d (by omega) _ _ rfl rfl) fi46 rfl (krN (ρ:=fun _=>28)) (krC (ρ:=fun _=>28) (k:=6) xc2 (krN (ρ:=fun _=>28))) ⟨⟨rfl,xb0⟩,trivial⟩ rfl) ⟨rfl,rfl,trivial⟩ trivial ⟨rfl,trivial⟩ (R1 (xk1 rfl) rfl (R1 (xk1 rfl) rfl ?_))
   refine A5 ?_
   exact xo7 (r1:= .own (.sl 28 2 0 (if sVal (wkd l a b)=true∧0≤d then brg d (wkd l a b) else []).length)) (r2:= .val (tI (if sVal (wkd l a b)=true∧0≤d then 0 else 2))) LentC.mk' rfl rfl rfl Imp.refl Imp.refl ⟨rfl,trivial⟩ rfl ⟨⟨rfl,xb0⟩,trivial⟩ rfl
end An.S
namespace An.S
open Go
@[irreducible] def rowD {α:Type} (f:Nat→α):List α:=(List.range 65536).map f
theorem xg4 {α:Type} {f:Nat→α}:(rowD f).length=65536:=by unfold rowD;rw [List.length_map,List.length_range]
theorem xp8 {α:Type} {f:Nat→α} {d:Nat} (h:d < 65536):(rowD f)[d]? =some (f d):=by
 unfold rowD;rw [List.getElem?_map,List.getElem?_range h];rfl
theorem rowD_set {α:Type} {f g:Nat→α} {d:Nat} {v:α} (hv:g d=v) (hg: ∀e,e≠d→g e=f e):(rowD f).set d v=rowD g:=by
 apply List.ext_getElem?
 intro e
 rw [List.getElem?_set]
 by_cases he:d=e
 ·subst he
  rw [if_pos rfl]
  by_cases h:d < 65536
  ·rw [if_pos (by rw [xg4];exact h),xp8 h,hv]
  ·rw [if_neg (by rw [xg4];exact h),List.getElem?_eq_none (by rw [xg4];omega)]
 ·rw [if_neg he]
  by_cases h:e < 65536
  ·rw [xp8 h,xp8 h,hg e (fun h'=>he h'.symm)]
  ·rw [List.getElem?_eq_none (by rw [xg4];omega),List.getElem?_eq_none (by rw [xg4];omega)]
theorem rowD_rep {α:Type} (x:α):List.replicate 65536 x=rowD fun _=>x:=by
 unfold rowD
 rw [List.map_const',List.length_range]
def tabI (l:List Tst):Nat→Nat→Int
 | 0,_=>0
 | i+1,d=>if (l.getD i tst0).lo≤d∧(d:Int) < (l.getD i tst0).hi then (i:Int)+1 else tabI l i d
def tabF (l:List Tst) (i:Nat) (e:Int) (d:Nat):Int:=if (l.getD i tst0).lo≤d∧(d:Int) < e then (i:Int)+1 else tabI l i d
theorem tabF_0 {l:List Tst} {i:Nat}:tabF l i (l.getD i tst0).lo=tabI l i:=by
 funext d;rw [tabF,if_neg (by omega)]
theorem tabF_1 {l:List Tst} {i:Nat} {e:Int} (h:e=(l.getD i tst0).hi):tabF l i e=tabI l (i+1):=by
 subst h;funext d;rfl
theorem tab_set {l:List Tst} {i d:Nat} {e:Int} (he:e=(d:Int)) (h:(l.getD i tst0).lo≤d):(rowD (tabF l i e)).set d ((i:Int)+1)=rowD (tabF l i (e+1)):=by
 subst he
 refine rowD_set (by rw [tabF,if_pos (by omega)]) fun x hx=> ?_
 rw [tabF,tabF]
 by_cases h1:(l.getD i tst0).lo≤x∧(x:Int) < d
 ·rw [if_pos h1,if_pos (by omega)]
 ·rw [if_neg h1,if_neg (by omega)]
theorem valT_take {l:List Tst} {i:Nat} (hi:i < l.length) (d:Int):valT (l.take (i+1)) d=(valT (l.take i) d).or (if (l.getD i tst0).lo≤d∧d < (l.getD i tst0).hi then some (l.getD i tst0).v else none):=by
 rw [List.take_succ_eq_append_getElem hi,valT_append,valT_cons,List.getD_eq_getElem?_getD,List.getElem?_eq_getElem hi];rfl
theorem tab_val {l:List Tst} (h:tRight l=true) (d:Nat): ∀i,i≤l.length→(tabI l i d=0∧valT (l.take i) d=none)∨ ∃j,j < i∧tabI l i d=(j:Int)+1∧valT (l.take i) d=some (l.getD j tst0).v
 | 0,_=> .inl ⟨rfl,by simp [valT]⟩
 | i+1,hi=>by
  have ih:=tab_val h d i (by omega)
  rw [valT_take (by omega)]
  by_cases hd:(l.getD i tst0).lo≤d∧(d:Int) < (l.getD i tst0).hi
  ·refine .inr ⟨i,by omega,by rw [tabI,if_pos hd],?_⟩
   have hn:valT (l.take i) d=none:=valT_none.2 fun s hs hsd=>by
    obtain ⟨j,hj,e⟩:=List.getElem_of_mem hs
    rw [List.length_take] at hj
    have h1:=xo9 h (i:=j) (j:=i) (by omega) (by omega)
    rw [List.getElem_take] at e
    have e2:l.getD j tst0=s:=by rw [List.getD_eq_getElem?_getD,List.getElem?_eq_getElem (by omega)];exact e
    rw [e2] at h1;omega
   rw [hn,if_pos hd];rfl
  ·rw [tabI,if_neg hd,if_neg hd,Option.or_none]
   rcases ih with ih | ⟨j,hj,h1,h2⟩
   ·exact .inl ih
   ·exact .inr ⟨j,by omega,h1,h2⟩
abbrev tabT (l:List Tst):Nat→Int:=tabI l l.length
theorem tabT_val {l:List Tst} (h:tRight l=true) (d:Nat):(tabT l d=0∧valT l d=none)∨ ∃j,j < l.length∧tabT l d=(j:Int)+1∧valT l d=some (l.getD j tst0).v:=by
 have:=tab_val h d l.length (Nat.le_refl _)
 rwa [List.take_length] at this
def setK (f:Nat→Bool):Nat→List Sn
 | 0=>[]
 | d+1=>if f d then (if 0 < d∧f (d - 1)=true then (setK f d).set ((setK f d).length - 1) ⟨(lastS (setK f d)).lo,(d:Int)+1⟩ else setK f d++[⟨(d:Int),(d:Int)+1⟩]) else setK f d
theorem setK_no {f:Nat→Bool} {d:Nat} (h:f d=false):setK f (d+1)=setK f d:=by rw [setK,h];rfl
theorem setK_long {f:Nat→Bool} {d:Nat} (h:f d=true) (h0:0 < d∧f (d - 1)=true):setK f (d+1)=(setK f d).set ((setK f d).length - 1) ⟨(lastS (setK f d)).lo,(d:Int)+1⟩:=by rw [setK,if_pos h,if_pos h0]
theorem setK_new {f:Nat→Bool} {d:Nat} (h:f d=true) (h0: ¬(0 < d∧f (d - 1)=true)):setK f (d+1)=setK f d++[⟨(d:Int),(d:Int)+1⟩]:=by rw [setK,if_pos h,if_neg h0]
theorem lastS_snoc {l:List Sn} {s:Sn}:lastS (l++[s])=s:=by rw [lastS,xp2,List.length_append];simp
theorem setK_all {f:Nat→Bool}: ∀d,d≤65536→sVal (setK f d)=true∧(∀x:Int,mem (setK f d) x=true↔0≤x∧x < d∧f x.toNat=true)∧(0 < (setK f d).length→(lastS (setK f d)).hi≤d)∧(0 < d∧f (d - 1)=true→0 < (setK f d).length∧(lastS (setK f d)).hi=d)∧(setK f d).length≤d∧(0 < (setK f d).length→ ¬(0 < d∧f (d - 1)=true)→(lastS (setK f d)).hi < d)
 | 0,_=>⟨rfl,fun x=>by simp [setK,mem];omega,fun h=>by simp [setK] at h,fun h=>by omega,by simp [setK],fun h=>by simp [setK] at h⟩
 | d+1,hd=>by
  obtain ⟨h1,h2,h3,h4,h5,h6⟩:=setK_all (f:=f) d (by omega)
  cases hf:f d with
  | false=>
   rw [setK_no hf]
   refine ⟨h1,fun x=> ?_,fun h=>by have:=h3 h;omega,fun h=>(by rw [Nat.add_sub_cancel,hf] at h;cases h.2),by omega,fun h _=>by have:=h3 h;omega⟩
   rw [h2]
   constructor
   ·rintro ⟨q1,q2,q3⟩;exact ⟨q1,by omega,q3⟩
   ·rintro ⟨q1,q2,q3⟩
    refine ⟨q1,?_,q3⟩
    by_cases hx:x.toNat=d
    ·rw [hx,hf] at q3;cases q3
    ·omega
  | true=>
   have hlast:0 < d+1∧f (d+1 - 1)=true:=⟨by omega,hf⟩
   by_cases h0:0 < d∧f (d - 1)=true
   ·obtain ⟨k1,k2⟩:=h4 h0
    rw [setK_long hf h0]
    have hl:lastS ((setK f d).set ((setK f d).length - 1) ⟨(lastS (setK f d)).lo,(d:Int)+1⟩)=⟨(lastS (setK f d)).lo,(d:Int)+1⟩:=by
     rw [xw2 k1];exact lastS_snoc
    refine ⟨sVal_long h1 k1 (by omega) (by omega),fun x=> ?_,fun _=>by rw [hl];dsimp only;omega,fun _=>⟨by rw [List.length_set];exact k1,by rw [hl];dsimp only;omega⟩,by rw [List.length_set];omega,fun _ h=>absurd hlast h⟩
    have e1:=xz5 k1
    have e2: ∀x,mem (setK f d) x=(mem ((setK f d).take ((setK f d).length - 1)) x || (decide ((lastS (setK f d)).lo≤x) && decide (x < (lastS (setK f d)).hi))):=fun x=>by
     conv=>lhs;rw [e1]
     exact xm8
    have hok:=xf0 h1 (i:=(setK f d).length - 1) (by omega)
    have hlo:(lastS (setK f d)).lo < (lastS (setK f d)).hi:=hok.2.1
    rw [xw2 k1,xm8]
    have h2x:=h2 x
    rw [e2,Bool.or_eq_true,Bool.and_eq_true,decide_eq_true_eq,decide_eq_true_eq] at h2x
    rw [Bool.or_eq_true,Bool.and_eq_true,decide_eq_true_eq,decide_eq_true_eq]
    by_cases hx:x=d
    ·subst hx
     refine ⟨fun _=>⟨by omega,by omega,by simpa using hf⟩,fun _=> .inr ⟨by dsimp only;omega,by dsimp only;omega⟩⟩
    ·constructor
     ·intro hq
      have:=h2x.1 (hq.imp id fun h=>⟨h.1,by dsimp only at h;omega⟩)
      exact ⟨this.1,by omega,this.2.2⟩
     ·intro hq
      exact (h2x.2 ⟨hq.1,by omega,hq.2.2⟩).imp id fun h=>⟨h.1,by dsimp only;omega⟩
   ·rw [setK_new hf h0]
    refine ⟨xs8 h1 ⟨by dsimp only;omega,by dsimp only;omega,by dsimp only;omega⟩ (fun h=>by have:=h6 h h0;dsimp only;omega),fun x=> ?_,fun _=>by rw [lastS_snoc];dsimp only;omega,fun _=>⟨by rw [List.length_append];simp,by rw [lastS_snoc];dsimp only;omega⟩,by rw [List.length_append];simp;omega,fun _ h=>absurd hlast h⟩
    rw [xm8,Bool.or_eq_true,Bool.and_eq_true,decide_eq_true_eq,decide_eq_true_eq,h2]
    by_cases hx:x=d
    ·subst hx
     exact ⟨fun _=>⟨by omega,by omega,by simpa using hf⟩,fun _=> .inr ⟨by dsimp only;omega,by dsimp only;omega⟩⟩
    ·constructor
     ·rintro (q | q)
      ·exact ⟨q.1,by omega,q.2.2⟩
      ·dsimp only at q;omega
     ·rintro ⟨q1,q2,q3⟩;exact .inl ⟨q1,by omega,q3⟩
abbrev setD (f:Nat→Bool):List Sn:=setK f 65536
theorem set_is {f:Nat→Bool} {S:List Sn} (h:sVal S=true) (hm: ∀d:Nat,d < 65536→f d=mem S d):setD f=S:=by
 obtain ⟨h1,h2,_⟩:=setK_all (f:=f) 65536 (Nat.le_refl _)
 refine set_same h1 h fun x=> ?_
 have h2x:=h2 x
 by_cases hx:0≤x∧x < 65536
 ·have e:((x.toNat:Nat):Int)=x:=by omega
  have:=hm x.toNat (by omega)
  rw [e] at this
  rw [←this]
  cases hfx:f x.toNat with
  | true=>exact h2x.2 ⟨hx.1,by omega,hfx⟩
  | false=>exact Bool.eq_false_iff.2 fun h=>by have:=(h2x.1 h).2.2;rw [hfx] at this;cases this
 ·rw [Bool.eq_false_iff.2 fun h=>hx ⟨(h2x.1 h).1,by have:=(h2x.1 h).2.1;omega⟩]
  refine (mem_no.2 fun s hs hsd=> ?_).symm
  obtain ⟨i,hi,rfl⟩:=xi7 hs
  have:=xf0 h hi
  omega
theorem tab0 {l:List Tst}:tabI l 0=fun _=>0:=rfl
theorem tabT_bd {l:List Tst} (h:tRight l=true) (d:Nat):0≤tabT l d∧tabT l d≤l.length:=by
 rcases tabT_val h d with ⟨e,_⟩ | ⟨j,hj,e,_⟩ <;> rw [e] <;> omega
attribute [irreducible] setK tabI
end An.S
namespace An.S
open Go Go.Proofs An
instance sl40:SlI Tryz.prog 40 3 1 false:=⟨Tryz.underlying40,ti3⟩
instance sl79:SlI Tryz.prog 79 4 1 false:=⟨Tryz.underlying79,ti4⟩
theorem el3:ElI Tryz.prog 3 1 8 false (.int .i64 0):=⟨ti3,by kernel_rfl,by kernel_rfl⟩
theorem c_R5Table (l:List Tst) (hl:l.length≤500000) (hok:tRight l=true):
  Ct Tryz.prog 88 [tL 8 true tTs l] (tL 1 false tI (rowD (tabT l))):=by
 obtain ⟨n,hn⟩: ∃n:Nat,n=65536:=⟨_,rfl⟩
 refine Ct.intro Tryz.func88 rfl Tryz.ntmps88 rfl ?_
 intro w F
 refine A7 ?_
 refine RE (xg6 (k:=6) (t:=tI 0) (ts:=rV tI (List.replicate n 0)) n n Tryz.underlying40 el3 (fun _ _=>rfl) rfl (by omega) (by omega) (Nat.le_refl _) (by omega) (by omega) (rV_rep _ _ rfl)) ⟨rfl,rfl,trivial⟩ trivial ⟨rfl,trivial⟩ ?_
 refine A10 ?_
 refine cL (fun (i:Nat)=>i≤l.length) (fun (i:Nat)=>upd (upd (upd (fun _=>none) 0 (some (.val (tL 8 true tTs l)))) 3 (some (.own (.sl 6 1 0 n)))) 4 (some (.val (tI i)))) (fun (i:Nat)=>upd (fun _=>none) 6 (some (⟨3,1,false,rV tI (rowD (tabI l i))⟩))) [6] (fun (i:Nat)=>l.length - i) (0) (Nat.zero_le _) (hh:=((SubK.consI rfl (ImpK.of (by rw [hn,rowD_rep,tab0]))) SubK.nil)) ?_
 intro i hI
 refine A9 ?_
 refine x8 rfl (fun h65=> ?_) (fun h65=> ?_)
 ·
  refine A8 ?_
  refine R2 (x6 sl22 (i) (by omega) (gD (l:=l) (n:=i) (d:=tst0) (by omega))) rfl rfl (R1 (xb5 fo34_0.h (At.f 0 rfl rfl) rfl) rfl ?_)
  refine A5 ?_
  have hat:=xm4 hok (i:=i) (by omega)
  refine cL (fun (e:Int)=>(l.getD i tst0).lo≤e∧e≤(l.getD i tst0).hi) (fun (e:Int)=>upd (upd (upd (upd (fun _=>none) 0 (some (.val (tL 8 true tTs l)))) 3 (some (.own (.sl 6 1 0 n)))) 4 (some (.val (tI i)))) 5 (some (.val (tI e)))) (fun (e:Int)=>upd (fun _=>none) 6 (some (⟨3,1,false,rV tI (rowD (tabF l i e))⟩))) [6] (fun (e:Int)=>((l.getD i tst0).hi - e).toNat) ((l.getD i tst0).lo) ⟨by omega,by omega⟩ (hh:=((SubK.consI rfl (ImpK.of (by rw [tabF_0]))) SubK.nil)) ?_
  intro e hI2
  obtain ⟨he1,he2⟩:=hI2
  refine A6 ?_
  refine R2 (x6 sl22 (i) (by omega) (gD (l:=l) (n:=i) (d:=tst0) (by omega))) rfl rfl (R1 (xb5 fo34_1.h (At.f 1 rfl rfl) rfl) rfl ?_)
  refine A4 ?_
  refine x8 rfl (fun h66=> ?_) (fun h66=> ?_)
  ·
   refine A9 ?_
   refine R2 (xa4 sl40 (by omega) (by omega) rfl) rfl rfl (RE (xc9 (e.toNat) ti3 (rV_lt (by rw [xg4];omega)) (by omega) (xk5 (f:=tI) (m:=(i:Int)+1) rfl)) ⟨rfl,rfl,trivial⟩ ⟨rfl,trivial⟩ trivial ?_)
   refine A8 ?_
   exact kF (e+1) ⟨⟨by omega,by omega⟩,(by omega)⟩ (hh:=((SubK.consI rfl (ImpK.of (by rw [tab_set (by omega) (by omega)]))) SubK.nil))
  ·
   refine A11 ?_
   exact kF (i+1) ⟨(by omega),(by omega)⟩ (hh:=((SubK.consI rfl (ImpK.of (by rw [tabF_1 (by omega)]))) SubK.nil))
 ·
  refine A7 ?_
  refine RE (xg3 (f:=tI) (xs:=rowD (tabI l i)) (fun _ h=>h) (xi4 (by rw [xg4];omega)) (by rw [xg4];omega)) ⟨rfl,trivial⟩ ⟨rfl,trivial⟩ trivial ?_
  refine A4 ?_
  exact x4 Plain.mk' rfl rfl (Le.of (by rw [show i=l.length by omega]))
theorem c_R4Set (f:Nat→Bool):
  Ct Tryz.prog 48 [tL 1 false tB (rowD f)] (tL 2 true tSn (setD f)):=by
 refine Ct.intro Tryz.func48 rfl Tryz.ntmps48 rfl ?_
 intro w F
 refine xb3 ?_
 refine xb6 ?_
 refine R1 xa8 rfl (xb4 (by kernel_rfl) (xa5 (xb3 ?_)))
 refine xb6 ?_
 refine RE (xd8 (k:=3) 62 2 true rfl (fun h=>by cases h)) trivial trivial ⟨rfl,trivial⟩ (xb4 (by kernel_rfl) (xa5 (xb3 (xb3 ?_))))
 refine xb6 ?_
 refine R1 xa8 rfl (xb4 (by kernel_rfl) (xa5 (xf7 ?_)))
 refine cL (fun (fm:(Nat)×(List Sn))=>(fun (d:Nat) (xs:List Sn)=>d≤65536∧xs=setK f d) fm.1 fm.2) (fun (fm:(Nat)×(List Sn))=>(fun (d:Nat) (xs:List Sn)=>upd (upd (upd (fun _=>none) 0 (some (.val (tL 1 false tB (rowD f))))) 3 (some (.own (.sl 3 2 0 xs.length)))) 4 (some (.val (tI d)))) fm.1 fm.2) (fun (fm:(Nat)×(List Sn))=>(fun (d:Nat) (xs:List Sn)=>upd (fun _=>none) 3 (some (⟨62,2,true,rV tSn xs⟩))) fm.1 fm.2) [3] (fun (fm:(Nat)×(List Sn))=>(fun (d:Nat) (xs:List Sn)=>65536 - d) fm.1 fm.2) ((0,[])) (by dsimp only;exact ⟨Nat.zero_le _,by rw [setK]⟩) (hh:=((SubK.consI rfl ImpK.refl) SubK.nil)) ?_
 intro fm hI
 obtain ⟨d,xs⟩:=fm
 replace hI:d≤65536∧xs=setK f d:=hI
 show wc _ _ _ _ (upd (upd (upd (fun _=>none) 0 (some (.val (tL 1 false tB (rowD f))))) 3 (some (.own (.sl 3 2 0 xs.length)))) 4 (some (.val (tI d)))) (upd (fun _=>none) 3 (some (⟨62,2,true,rV tSn xs⟩))) _
 obtain ⟨hd,hx⟩:=hI
 have hxl:xs.length≤d:=by rw [hx];exact (setK_all d hd).2.2.2.2.1
 refine xb3 (xb3 ?_)
 refine xb6 ?_
 refine R1 x5 rfl (R2 d_lss rfl rfl (xb4 (by kernel_rfl) (xa5 ?_)))
 refine x8 rfl (fun h35=> ?_) (fun h35=> ?_)
 ·
  refine xh2 (xa5 (xb3 (xf7 (xb3 (xb3 ?_)))))
  refine xb6 ?_
  refine R1 x5 rfl (R1 x5 rfl (R2 (x6 sl79 (d) (by omega) (xp8 (by omega))) rfl rfl (R1 (xh5 ti4) rfl (R1 xi1 rfl (xb4 (by kernel_rfl) (xa5 ?_))))))
  refine xd4 rfl (fun h36=> ?_) (fun h36=> ?_)
  ·
   have hf:f d=false:=by simpa using h36
   refine xn6 (xi6 (K_exB (xa5 ?_)))
   refine xb6 ?_
   refine R1 x5 rfl (R2 (xc8 (wr64 (by omega) (by omega))) rfl rfl (R1 xa8 rfl (xb4 (by kernel_rfl) ?_)))
   exact kF ((d+1,xs)) ⟨(by dsimp only;exact ⟨by omega,by rw [setK_no hf,←hx]⟩),(by dsimp only;omega)⟩ (hh:=((SubK.consI rfl ImpK.refl) SubK.nil))
  ·
   have hf:f d=true:=by simpa using h36
   refine xh2 (xa5 (xb3 ?_))
   refine xb6 ?_
   refine R1 x5 rfl (R2 d_gtr rfl rfl (R1 x5 rfl ?_))
   refine RGcaseD (t:=16) rfl (fun h39=> ?_) (fun h39=> ?_)
   ·
    refine RGon (decide_eq_true h39) rfl x5 rfl ⟨rfl,trivial⟩ trivial trivial (RGon (decide_eq_true h39) rfl x5 rfl ⟨rfl,trivial⟩ trivial trivial (RGon (decide_eq_true h39) rfl (xe6 (wr64 (by omega) (by omega))) rfl ⟨rfl,rfl,trivial⟩ trivial trivial (RGon (decide_eq_true h39) rfl (x6 sl79 (d - 1) (by omega) (xp8 (by omega))) rfl ⟨rfl,rfl,trivial⟩ trivial trivial (RGon (decide_eq_true h39) rfl (xh5 ti4) rfl ⟨rfl,trivial⟩ trivial trivial (R2 (xe3 (decide_eq_true h39)) rfl rfl (xb4 (by kernel_rfl) (xa5 ?_)))))))
    refine xd4 rfl (fun h39_2=> ?_) (fun h39_2=> ?_)
    ·
     have hk:=(setK_all (f:=f) d (by omega)).2.2.2.1 ⟨by omega,h39_2⟩
     rw [←hx] at hk
     refine xb6 ?_
     refine R1 x5 rfl (R1 x5 rfl (R1 (d_lenO Tryz.underlying45) rfl (R2 (xe6 (wr64 (by omega) (by omega))) rfl rfl (R1 x5 rfl (R2 (xc8 (wr64 (by omega) (by omega))) rfl rfl (R2 (xa4 sl45 (by omega) (by omega) rfl) rfl rfl (R1 (xf2 fo62_1.h rfl) rfl ?_)))))))
     refine RE (xn7 (es:=2) (o:=1) (t2:=tSn ⟨(xs.getD (xs.length - 1) sn0).lo,(d:Int)+1⟩) (xs.length - 1) ti3 (xg8 (d:=sn0) (by omega)) (Up.g 1 rfl rfl rfl) (by omega) (xk5 rfl)) ⟨rfl,rfl,trivial⟩ ⟨rfl,trivial⟩ trivial (xb4 (by kernel_rfl) (xj7 (xa5 ?_)))
     refine xb6 ?_
     refine R1 x5 rfl (R2 (xc8 (wr64 (by omega) (by omega))) rfl rfl (R1 xa8 rfl (xb4 (by kernel_rfl) ?_)))
     exact kF ((d+1,(xs.set (xs.length - 1) ⟨(xs.getD (xs.length - 1) sn0).lo,(d:Int)+1⟩))) ⟨(by dsimp only;exact ⟨by omega,by rw [setK_long hf ⟨by omega,h39_2⟩,←hx];rfl⟩),(by dsimp only;omega)⟩ (hg:=(sI ((Sub.consI rfl (Imp.of (by dsimp only;rw [List.length_set]))) (sC Sub.nil)))) (hh:=((SubK.consI rfl ImpK.refl) SubK.nil))
    ·
     refine xb6 ?_
     refine R1 x5 rfl (R1 x5 rfl (R1 x5 rfl (R2 (xc8 (wr64 (by omega) (by omega))) rfl rfl (R2 (xb8 (r:=tS [⟨1,false,tI (d:Int)⟩,⟨1,false,tI ((d:Int)+1)⟩]) (ts:=[(0,tI (d:Int)),(1,tI ((d:Int)+1))]) bu62 zr62.2 (Bc 0 rfl rfl rfl (Bc 1 rfl rfl rfl Le.refl))) rfl rfl (R1 (xd2 (n:=1) (f:=tSn) [(⟨(d:Int),(d:Int)+1⟩:Sn)] Tryz.underlying45 el62 zf62 rfl (fun _=>inferInstance) rfl rfl rfl) rfl (RE (xc5 (k:=3) (k':=37) (f:=tSn) (ys:=[(⟨(d:Int),(d:Int)+1⟩:Sn)]) (ts':=rV tSn (xs++[(⟨(d:Int),(d:Int)+1⟩:Sn)])) Tryz.underlying45 el62 zf62 rfl rfl (fun _=>inferInstance) xe5 (by simp;omega) (by simp;omega) (by simp [rV]) (n':=xs.length+1) rfl) ⟨rfl,rfl,trivial⟩ ⟨rfl,trivial⟩ ⟨rfl,trivial⟩ (R1 xa8 rfl ?_)))))))
     refine xb4 (by kernel_rfl) (xj7 (xa5 ?_))
     refine xb6 ?_
     refine R1 x5 rfl (R2 (xc8 (wr64 (by omega) (by omega))) rfl rfl (R1 xa8 rfl (xb4 (by kernel_rfl) ?_)))
     exact xe4 (l:=[3]) (fun j=>cond (Nat.beq j 3) 37 (j)) ((d+1,xs++[(⟨(d:Int),(d:Int)+1⟩:Sn)])) ⟨(by dsimp only;exact ⟨by omega,by rw [setK_new hf (fun h=>by rw [h39_2] at h;cases h.2),←hx]⟩),(by dsimp only;omega)⟩ (SubR.int rfl (by first | omega | rfl | (dsimp only;omega)) ((SubR.consI rfl (Imp.of (by dsimp only;rw [List.length_append];rfl))) (SubR.cons rfl SubR.nil))) ((SubKR.consI rfl (ImpK.of xc2.symm)) SubKR.nil) (SupG.val (SupG.own rfl (SupG.val SupG.nil))) (SupH.cons rfl (supJ xb0) SupH.nil) (lkOk rfl) rfl rfl (fun _ h=>by cases h)
   ·
    refine RGoff (decide_eq_false h39) rfl rfl (RGoff (decide_eq_false h39) rfl rfl (RGoff (decide_eq_false h39) rfl rfl (RGoff (decide_eq_false h39) rfl rfl (RGoff (decide_eq_false h39) rfl rfl (R2 (xc7 (decide_eq_false h39)) rfl rfl (xb4 (by kernel_rfl) (xa5 ?_)))))))
    refine xb2 rfl rfl ?_
    refine xb6 ?_
    refine R1 x5 rfl (R1 x5 rfl (R1 x5 rfl (R2 (xc8 (wr64 (by omega) (by omega))) rfl rfl (R2 (xb8 (r:=tS [⟨1,false,tI (d:Int)⟩,⟨1,false,tI ((d:Int)+1)⟩]) (ts:=[(0,tI (d:Int)),(1,tI ((d:Int)+1))]) bu62 zr62.2 (Bc 0 rfl rfl rfl (Bc 1 rfl rfl rfl Le.refl))) rfl rfl (R1 (xd2 (n:=1) (f:=tSn) [(⟨(d:Int),(d:Int)+1⟩:Sn)] Tryz.underlying45 el62 zf62 rfl (fun _=>inferInstance) rfl rfl rfl) rfl (RE (xc5 (k:=3) (k':=37) (f:=tSn) (ys:=[(⟨(d:Int),(d:Int)+1⟩:Sn)]) (ts':=rV tSn (xs++[(⟨(d:Int),(d:Int)+1⟩:Sn)])) Tryz.underlying45 el62 zf62 rfl rfl (fun _=>inferInstance) xe5 (by simp;omega) (by simp;omega) (by simp [rV]) (n':=xs.length+1) rfl) ⟨rfl,rfl,trivial⟩ ⟨rfl,trivial⟩ ⟨rfl,trivial⟩ (R1 xa8 rfl ?_)))))))
    refine xb4 (by kernel_rfl) (xj7 (xa5 ?_))
    refine xb6 ?_
    refine R1 x5 rfl (R2 (xc8 (wr64 (by omega) (by omega))) rfl rfl (R1 xa8 rfl (xb4 (by kernel_rfl) ?_)))
    exact xe4 (l:=[3]) (fun j=>cond (Nat.beq j 3) 37 (j)) ((d+1,xs++[(⟨(d:Int),(d:Int)+1⟩:Sn)])) ⟨(by dsimp only;exact ⟨by omega,by rw [setK_new hf (fun h=>by omega),←hx]⟩),(by dsimp only;omega)⟩ (SubR.int rfl (by first | omega | rfl | (dsimp only;omega)) ((SubR.consI rfl (Imp.of (by dsimp only;rw [List.length_append];rfl))) (SubR.cons rfl SubR.nil))) ((SubKR.consI rfl (ImpK.of xc2.symm)) SubKR.nil) (SupG.val (SupG.own rfl (SupG.val SupG.nil))) (SupH.cons rfl (supJ xb0) SupH.nil) (lkOk rfl) rfl rfl (fun _ h=>by cases h)
 ·
  refine xn6 (xi6 (xi6 (K_exB (xa5 (xb3 ?_)))))
  refine xb6 ?_
  refine RE (xg3 (f:=tSn) (xs:=xs) (fun _ h=>h) (xi4 rfl) rfl) ⟨rfl,trivial⟩ ⟨rfl,trivial⟩ trivial (R1 xa8 rfl (xb4 (by kernel_rfl) (xa5 (C_ret ?_))))
  exact x4 Plain.mk' rfl rfl (Le.of (by rw [hx,show d=65536 by omega]))
def fnd (l:List Sn) (d:Int):Nat:=(l.takeWhile fun s=>decide (s.hi≤d)).length
theorem hi_mono {l:List Sn} (h:sVal l=true) {i j:Nat} (hij:i≤j) (hj:j < l.length):(l.getD i sn0).hi≤(l.getD j sn0).hi:=by
 rcases Nat.lt_or_ge i j with h1 | h1
 ·have:=sVal_lt h h1 hj
  have:=xf0 h hj;omega
 ·rw [show i=j by omega];exact Int.le_refl _
end An.S
namespace An.S
open Go
theorem short_divInt {n d:Int} (hd:0 < d) (h1: -9223372036854775808≤n) (h2:n≤9223372036854775807) (h3:d≤9223372036854775807):short (Rat.divInt n d):=by
 have e:=lowest_eq (n:=n) hd
 have e1:(wh (Rat.divInt n d).num).l.length=(wh (n / (Int.gcd n d:Int))).l.length:=congrArg (fun f:Fr=>f.n.l.length) e
 have e2:(wh ((Rat.divInt n d).den:Int)).l.length=(wh (d / (Int.gcd n d:Int))).l.length:=congrArg (fun f:Fr=>f.d.l.length) e
 refine ⟨?_,?_⟩
 ·show (wh (Rat.divInt n d).num).l.length≤256
  rw [e1];exact len16_div (len16_small h1 h2)
 ·show (wh ((Rat.divInt n d).den:Int)).l.length≤256
  rw [e2];exact len16_div (len16_small (by omega) h3)
end An.S
namespace An.S
open Go Go.Proofs An
theorem short_kfr {x d:Int} (hd:0 < d) (h1: -9223372036854775808≤x) (h2:x≤9223372036854775807) (h3:d≤9223372036854775807):short (kfr x d):=by
 rw [kfr_big (by omega)];exact short_divInt hd h1 h2 h3
end An.S
namespace An.S
open Go
def unionS (u v:List Sn):List Sn:=(ckRun (fun x y=>x || y) u v).xs
theorem unionS_spec {u v:List Sn} (hu:sVal u=true) (hv:sVal v=true):sVal (unionS u v)=true∧ ∀d,mem (unionS u v) d=(mem u d || mem v d):=ck_all (kp:=fun x y=>x || y) hu hv rfl
theorem fnd_spec {d:Int}: ∀l:List Sn,(∀i,i < fnd l d→(l.getD i sn0).hi≤d)∧(fnd l d < l.length→d < (l.getD (fnd l d) sn0).hi)
 | []=>⟨fun i hi=>by simp [fnd] at hi,fun h=>by simp at h⟩
 | s::r=>by
  have ih:=fnd_spec (d:=d) r
  by_cases h:s.hi≤d
  ·have e:fnd (s::r) d=fnd r d+1:=by rw [fnd,List.takeWhile_cons,if_pos (by simpa using h)];rfl
   rw [e]
   refine ⟨fun i hi=> ?_,fun hl=> ?_⟩
   ·cases i with
    | zero=>exact h
    | succ i=>have:=ih.1 i (by omega);simpa using this
   ·have:=ih.2 (by simpa using hl);simpa using this
  ·have e:fnd (s::r) d=0:=by rw [fnd,List.takeWhile_cons,if_neg (by simpa using h)];rfl
   rw [e]
   exact ⟨fun i hi=>by omega,fun _=>by show d < s.hi;omega⟩
theorem lo_mono {l:List Sn} (h:sVal l=true) {i j:Nat} (hij:i≤j) (hj:j < l.length):(l.getD i sn0).lo≤(l.getD j sn0).lo:=by
 rcases Nat.lt_or_ge i j with h1 | h1
 ·have:=sVal_lt h h1 hj
  have:=xf0 h (i:=i) (by omega);omega
 ·rw [show i=j by omega];exact Int.le_refl _
theorem mem_at {l:List Sn} {d:Int} (h:mem l d=true): ∃i,i < l.length∧(l.getD i sn0).lo≤d∧d < (l.getD i sn0).hi:=by
 obtain ⟨s,hs,h1⟩:=mem_iff.1 h
 obtain ⟨i,hi,rfl⟩:=xi7 hs
 exact ⟨i,hi,h1⟩
theorem at_mem {l:List Sn} {d:Int} {i:Nat} (hi:i < l.length) (h1:(l.getD i sn0).lo≤d) (h2:d < (l.getD i sn0).hi):mem l d=true:=mem_iff.2 ⟨_,mem_getS hi,h1,h2⟩
theorem brk_len {w:List Sn}:(brk w).length=w.length - 1:=by simp [brk]
theorem brk_getD {w:List Sn} {i:Nat} (hi:i+1 < w.length):(brk w).getD i sn0=⟨(w.getD i sn0).hi,(w.getD (i+1) sn0).lo⟩:=by
 rw [brk,List.getD_eq_getElem?_getD,List.getElem?_map,List.getElem?_range (by omega)];rfl
theorem brk_mem {w:List Sn} {g:Sn} (h:g∈brk w): ∃i,i+1 < w.length∧g=⟨(w.getD i sn0).hi,(w.getD (i+1) sn0).lo⟩:=by
 obtain ⟨i,hi,rfl⟩:=xi7 h
 rw [brk_len] at hi
 exact ⟨i,by omega,brk_getD (by omega)⟩
theorem brk_set {w:List Sn} (h:sVal w=true):sVal (brk w)=true:=by
 refine xu7.2 fun i hi=>xm0.2 ?_
 rw [brk_len] at hi
 have h1:=sVal_lt h (show i < i+1 by omega) (by omega)
 have h2:=xf0 h (i:=i) (by omega)
 have h3:=xf0 h (i:=i+1) (by omega)
 rw [brk_getD (by omega)]
 refine ⟨by simp only [Sn.ok,Bool.and_eq_true,decide_eq_true_eq];omega,by dsimp only;omega,?_⟩
 by_cases h0:i=0
 ·exact .inl h0
 ·rw [brk_getD (by omega),show i - 1+1=i by omega]
  exact .inr h2.2.1
theorem all_one {w:List Sn} (h:sVal w=true):(unionS w (brk w)).length≤1:=by
 obtain ⟨u1,u2⟩:=unionS_spec h (brk_set h)
 rcases Nat.eq_zero_or_pos w.length with h0 | h0
 ·have e:w=[]:=List.eq_nil_of_length_eq_zero h0
  have:unionS w (brk w)=[]:=set_same u1 rfl fun d=>by rw [u2,e];rfl
  rw [this];decide
 ·have a0:=xf0 h (i:=0) h0
  have an:=xf0 h (i:=w.length - 1) (by omega)
  have ann:=hi_mono h (show 0≤w.length - 1 by omega) (by omega)
  have e:unionS w (brk w)=[⟨(w.getD 0 sn0).lo,(w.getD (w.length - 1) sn0).hi⟩]:=by
   refine set_same u1 (xs8 (l:=[]) rfl ⟨a0.1,by dsimp only;omega,an.2.2⟩ fun h'=>by cases h') fun d=> ?_
   rw [u2,Bool.eq_iff_iff,Bool.or_eq_true,mem_iff (l:=[_])]
   simp only [List.mem_singleton,exists_eq_left]
   constructor
   ·rintro (hm | hm)
    ·obtain ⟨i,hi,h1,h2⟩:=mem_at hm
     have:=lo_mono h (Nat.zero_le i) hi
     have:=hi_mono h (show i≤w.length - 1 by omega) (by omega)
     omega
    ·obtain ⟨g,hg,h1,h2⟩:=mem_iff.1 hm
     obtain ⟨i,hi,rfl⟩:=brk_mem hg
     have:=lo_mono h (Nat.zero_le i) (by omega)
     have:=xf0 h (i:=i) (by omega)
     have:=xf0 h (i:=i+1) (by omega)
     have:=hi_mono h (show i+1≤w.length - 1 by omega) (by omega)
     simp only at h1 h2
     omega
   ·rintro ⟨h1,h2⟩
    have hf:=fnd_spec (d:=d) w
    have hfl:fnd w d < w.length:=by
     rcases Nat.lt_or_ge (w.length - 1) (fnd w d) with h3 | h3
     ·have:=hf.1 _ h3;omega
     ·omega
    have h4:=hf.2 hfl
    rcases Int.lt_or_le d (w.getD (fnd w d) sn0).lo with h5 | h5
    ·right
     have hp:0 < fnd w d:=by
      rcases Nat.eq_zero_or_pos (fnd w d) with h6 | h6
      ·rw [h6] at h5;omega
      ·exact h6
     refine mem_iff.2 ⟨(brk w).getD (fnd w d - 1) sn0,mem_getS (by rw [brk_len];omega),?_⟩
     rw [brk_getD (by omega),show fnd w d - 1+1=fnd w d by omega]
     exact ⟨hf.1 _ (by omega),h5⟩
    ·left;exact at_mem hfl h5 h4
  rw [e];exact Nat.le_refl _
theorem brk_out {w:List Sn} (h:sVal w=true) {i:Nat} (hi:i+1 < w.length) {x:Int} (h1:(w.getD i sn0).hi≤x) (h2:x < (w.getD (i+1) sn0).lo):mem w x=false:=by
 rw [Bool.eq_false_iff]
 intro hm
 obtain ⟨j,hj,h3,h4⟩:=mem_at hm
 rcases Nat.lt_or_ge i j with h5 | h5
 ·have:=lo_mono h (show i+1≤j by omega) hj;omega
 ·have:=hi_mono h h5 (by omega);omega
def brk2 (p:Int):List Sn→List Sn
 | []=>[]
 | s::r=>⟨p,s.lo⟩::brk2 s.hi r
theorem brk_cons: ∀(s:Sn) (r:List Sn),brk (s::r)=brk2 s.hi r
 | s,[]=>rfl
 | s,t::u=>by
  have ih:=brk_cons t u
  rw [brk2,←ih,brk,brk]
  show (List.range ((t::u).length - 1+1)).map _=_
  rw [List.range_succ_eq_map,List.map_cons,List.map_map]
  rfl
theorem brg_fold {d:Int} (hd:0≤d): ∀(xs acc:List Sn),setS xs→sVal acc=true→0 < acc.length→(∀s∈xs,(lastS acc).hi < s.lo)→
  sVal (xs.foldl (brg1 d) acc)=true∧ ∀x,mem (xs.foldl (brg1 d) acc) x=true↔mem acc x=true∨mem xs x=true∨ ∃g∈brk2 (lastS acc).hi xs,g.hi - g.lo≤d∧g.lo≤x∧x < g.hi
 | [],acc,_,hv,_,_=>⟨hv,fun x=>by simp [mem,brk2]⟩
 | s::r,acc,hx,hv,hp,hl=>by
  have hs:=hx.1 s (List.mem_cons_self ..)
  have hpw:=List.pairwise_cons.1 hx.2
  have hr:setS r:=⟨fun t ht=>hx.1 t (List.mem_cons_of_mem _ ht),hpw.2⟩
  have hls:=hl s (List.mem_cons_self ..)
  have key:sVal (brg1 d acc s)=true∧0 < (brg1 d acc s).length∧(lastS (brg1 d acc s)).hi=s.hi∧ ∀x,mem (brg1 d acc s) x=true↔mem acc x=true∨(s.lo≤x∧x < s.hi)∨(s.lo - (lastS acc).hi≤d∧(lastS acc).hi≤x∧x < s.lo):=by
   rw [brg1]
   split
   ·rename_i hm
    have hm2:s.lo - (lastS acc).hi≤d:=hm.2
    have ha:=xf0 hv (i:=acc.length - 1) (by omega)
    have ha:0≤(lastS acc).lo∧(lastS acc).lo < (lastS acc).hi∧(lastS acc).hi≤65536:=ha
    have h2:=hs.2.1
    refine ⟨sVal_long hv hp (by omega) hs.2.2,by rw [List.length_set];exact hp,by rw [lastS,List.length_set,xw1 (by omega),if_pos rfl],fun x=> ?_⟩
    rw [show (acc.getD (acc.length - 1) sn0).lo=(lastS acc).lo from rfl,xw2 hp,xm8]
    have e3:mem acc x=(mem (acc.take (acc.length - 1)) x || (decide ((lastS acc).lo≤x) && decide (x < (lastS acc).hi))):=by rw [←xm8,←xz5 hp]
    rw [e3]
    simp only [Bool.or_eq_true,Bool.and_eq_true,decide_eq_true_eq]
    by_cases hq:mem (acc.take (acc.length - 1)) x=true
    ·simp [hq]
    ·simp only [hq,false_or,Bool.false_eq_true];omega
   ·rename_i hm
    have hm2: ¬s.lo - (lastS acc).hi≤d:=fun h'=>hm ⟨hp,h'⟩
    refine ⟨xs8 hv hs fun _=>hls,by simp,by rw [lastS,xp2,List.length_append,List.length_singleton,if_neg (by omega),if_pos (by omega)],fun x=> ?_⟩
    rw [xm8]
    simp only [Bool.or_eq_true,Bool.and_eq_true,decide_eq_true_eq,hm2,false_and,or_false]
  obtain ⟨k1,k2,k3,k4⟩:=key
  have ih:=brg_fold hd r (brg1 d acc s) hr k1 k2 fun t ht=>by rw [k3];exact hpw.1 t ht
  refine ⟨ih.1,fun x=> ?_⟩
  rw [List.foldl_cons,ih.2 x,k4 x,k3,mem_cons]
  simp only [Bool.or_eq_true,Bool.and_eq_true,decide_eq_true_eq,brk2,List.mem_cons,exists_eq_or_imp]
  constructor
  ·rintro ((h1 | h1 | h1) | h1 | h1)
   ·exact .inl h1
   ·exact .inr (.inl (.inl h1))
   ·exact .inr (.inr (.inl h1))
   ·exact .inr (.inl (.inr h1))
   ·exact .inr (.inr (.inr h1))
  ·rintro (h1 | (h1 | h1) | h1 | h1)
   ·exact .inl (.inl h1)
   ·exact .inl (.inr (.inl h1))
   ·exact .inr (.inl h1)
   ·exact .inl (.inr (.inr h1))
   ·exact .inr (.inr h1)
theorem brg_spec {w:List Sn} {d:Int} (h:sVal w=true) (hd:0≤d):sVal (brg d w)=true∧ ∀x,mem (brg d w) x=true↔mem w x=true∨ ∃g∈brk w,g.hi - g.lo≤d∧g.lo≤x∧x < g.hi:=by
 cases w with
 | nil=>exact ⟨rfl,fun x=>by simp [brg,mem,brk]⟩
 | cons s r=>
  have hset:=sVal_set h
  have hpw:=List.pairwise_cons.1 hset.2
  have h1:brg1 d [] s=[s]:=by rw [brg1,if_neg (by simp)];rfl
  have hs1:sVal [s]=true:=xs8 (l:=[]) rfl (hset.1 s (List.mem_cons_self ..)) fun h'=>by cases h'
  have:=brg_fold hd r [s] ⟨fun t ht=>hset.1 t (List.mem_cons_of_mem _ ht),hpw.2⟩ hs1 (by simp) hpw.1
  rw [brg,List.foldl_cons,h1,brk_cons]
  refine ⟨this.1,fun x=> ?_⟩
  rw [this.2 x,show mem (s::r) x=(mem [s] x || mem r x) by simp [mem],Bool.or_eq_true,or_assoc]
  exact Iff.rfl
theorem mem_wkdR {l:List Tst} {a b d:Int} (h:tRight l=true) (h0:0≤a) (h1:b≤65536):mem (wkd l a b) d=true↔(a≤d∧d < b)∧ ∃s∈l,s.v.f.n.l.length≠0∧s.lo≤d∧d < s.hi:=by
 rw [wkd_eq h h0 h1]
 split
 ·simp [mem];omega
 ·rename_i hab
  have hm:=mem_mrg (d:=d) (wkS l a b) [] (wkS_asc h h0 h1 (by omega)) rfl fun h'=>by cases h'
  rw [mrg,hm]
  simp only [mem,List.any_nil,Bool.false_or]
  rw [show (wkS l a b).any (fun s=>decide (s.lo≤d) && decide (d < s.hi))=mem (wkS l a b) d from rfl,mem_iff]
  constructor
  ·rintro ⟨x,hx,hx2⟩
   obtain ⟨s,hs,rfl⟩:=List.mem_map.1 hx
   obtain ⟨hs1,hs2⟩:=List.mem_filter.1 hs
   have hi: ¬_:=fun h'=>by rw [idle_iff.2 h'] at hs2;cases hs2
   simp only [clipS] at hx2
   exact ⟨by omega,s,hs1,by omega,by omega⟩
  ·rintro ⟨hd,s,hs1,h3,h4⟩
   have hi: ¬idle a b s=true:=fun h'=>by have:=idle_iff.1 h';omega
   refine ⟨clipS a b s,List.mem_map.2 ⟨s,List.mem_filter.2 ⟨hs1,by simpa using hi⟩,rfl⟩,?_⟩
   simp only [clipS];omega
def mkF (g:Nat→Bool) (a e:Int) (d:Nat):Bool:=decide (a≤(d:Int)∧(d:Int) < e) && g d
theorem mkF_0 {g:Nat→Bool} {a e:Int} (h:e≤a):mkF g a e=fun _=>false:=by
 funext d;rw [mkF,decide_eq_false (by omega)];rfl
theorem mkF_set {g:Nat→Bool} {a e:Int} {d:Nat} (he:e=(d:Int)) (h:a≤(d:Int)):(rowD (mkF g a e)).set d (g d)=rowD (mkF g a (e+1)):=by
 subst he
 refine rowD_set (by rw [mkF,decide_eq_true (by omega)];rfl) fun x hx=> ?_
 rw [mkF,mkF]
 congr 1
 exact decide_eq_decide.2 (by omega)
def wkR (l:List Tst) (d:Nat):Bool:=decide (0 < tabT l d) && decide (0 < ((l.getD (tabT l d - 1).toNat tst0).v.f.n.l.length:Int))
theorem wk_mem {l:List Tst} {a b:Int} (h:tRight l=true) (h0:0≤a) (h1:b≤65536) (d:Nat):mkF (wkR l) a b d=mem (wkd l a b) d:=by
 rw [Bool.eq_iff_iff,mem_wkdR h h0 h1,mkF,wkR,Bool.and_eq_true,Bool.and_eq_true,decide_eq_true_eq,decide_eq_true_eq,decide_eq_true_eq]
 refine and_congr Iff.rfl ?_
 rcases tabT_val h d with ⟨e1,e2⟩ | ⟨j,hj,e1,e2⟩
 ·rw [e1]
  refine ⟨fun h=>by omega,fun ⟨s,hs,_,h3⟩=>absurd h3 (valT_none.1 e2 s hs)⟩
 ·rw [e1,show ((j:Int)+1 - 1).toNat=j by omega]
  obtain ⟨s,hs,hsd,hv⟩:=valT_some e2
  constructor
  ·rintro ⟨_,h3⟩
   exact ⟨s,hs,by rw [hv];omega,hsd⟩
  ·rintro ⟨t,ht,h3,h4⟩
   have:s=t:=by
    obtain ⟨i,hi,rfl⟩:=xn8 hs
    obtain ⟨k,hk,rfl⟩:=xn8 ht
    rcases Nat.lt_trichotomy i k with q | q | q
    ·have:=xo9 h q hk;omega
    ·rw [q]
    ·have:=xo9 h q hi;omega
   subst this
   rw [hv] at h3
   exact ⟨by omega,by omega⟩
theorem worked_R {l:List Tst} {a b:Int} (h:tRight l=true) (h0:0≤a) (h1:b≤65536):setD (mkF (wkR l) a b)=wkd l a b:=
 set_is (wkd_set h h0 h1).1 fun d _=>wk_mem h h0 h1 d
def fsM (f:Nat→Bool):Nat→Int×Int
 | 0=>(65536, -1)
 | d+1=>if f d=true then (min (fsM f d).1 d,(d:Int)) else fsM f d
theorem fsM_0 {f:Nat→Bool}:fsM f 0=(65536, -1):=rfl
theorem fsM_yes {f:Nat→Bool} {d:Nat} (h:f d=true):fsM f (d+1)=(min (fsM f d).1 d,(d:Int)):=by rw [fsM,if_pos h]
theorem fsM_no {f:Nat→Bool} {d:Nat} (h:f d=false):fsM f (d+1)=fsM f d:=by rw [fsM,if_neg (by rw [h];decide)]
theorem fsM_all {f:Nat→Bool}: ∀n,n≤65536→(∀d,d < n→f d=true→(fsM f n).1≤d∧(d:Int)≤(fsM f n).2)∧(((fsM f n).1=65536∧(fsM f n).2= -1)∨ ∃x y:Nat,(fsM f n).1=x∧(fsM f n).2=y∧x≤y∧y < n∧f x=true∧f y=true)
 | 0,_=>⟨fun d hd=>by omega,.inl ⟨rfl,rfl⟩⟩
 | n+1,hn=>by
  obtain ⟨h1,h2⟩:=fsM_all (f:=f) n (by omega)
  cases hf:f n with
  | false=>
   have e:fsM f (n+1)=fsM f n:=by rw [fsM,if_neg (by rw [hf];decide)]
   rw [e]
   refine ⟨fun d hd hfd=>h1 d ?_ hfd,h2.imp id fun ⟨x,y,q1,q2,q3,q4,q5⟩=>⟨x,y,q1,q2,q3,by omega,q5⟩⟩
   by_cases hdn:d=n
   ·subst hdn;rw [hf] at hfd;cases hfd
   ·omega
  | true=>
   have e:fsM f (n+1)=(min (fsM f n).1 n,(n:Int)):=by rw [fsM,if_pos hf]
   rw [e]
   dsimp only
   refine ⟨fun d hd hfd=> ?_,.inr ?_⟩
   ·by_cases hdn:d=n
    ·subst hdn;omega
    ·have:=h1 d (by omega) hfd;omega
   ·rcases h2 with ⟨q1,q2⟩ | ⟨x,y,q1,q2,q3,q4,q5,q6⟩
    ·exact ⟨n,n,by omega,rfl,Nat.le_refl _,by omega,hf,hf⟩
    ·exact ⟨x,n,by omega,rfl,by omega,by omega,q5,hf⟩
theorem breaks_R {w:List Sn} {f:Nat→Bool} (hw:sVal w=true) (hf: ∀d:Nat,d < 65536→f d=mem w d):setD (mkF (fun d=> !f d) (fsM f 65536).1 ((fsM f 65536).2+1))=brk w:=by
 obtain ⟨h1,h2⟩:=fsM_all (f:=f) 65536 (Nat.le_refl _)
 refine set_is (brk_set hw) fun d hd=> ?_
 rw [Bool.eq_iff_iff,mkF,Bool.and_eq_true,decide_eq_true_eq,Bool.not_eq_true']
 have hin: ∀i,i < w.length→ ∀x:Int,(w.getD i sn0).lo≤x→x < (w.getD i sn0).hi→f x.toNat=true∧0≤x∧x < 65536:=fun i hi x q1 q2=>by
  have h3:=xf0 hw hi
  have e:((x.toNat:Nat):Int)=x:=by omega
  rw [hf _ (by omega),e]
  exact ⟨mem_iff.2 ⟨_,mem_getS hi,q1,q2⟩,by omega,by omega⟩
 constructor
 ·rintro ⟨⟨h3,h4⟩,h5⟩
  rcases h2 with ⟨q1,q2⟩ | ⟨x,y,q1,q2,q3,q4,q5,q6⟩
  ·omega
  ·obtain ⟨u1,u2⟩:=unionS_spec hw (brk_set hw)
   have hone:=all_one hw
   have mx:mem (unionS w (brk w)) x=true:=by rw [u2,←hf x (by omega),q5];rfl
   have my:mem (unionS w (brk w)) y=true:=by rw [u2,←hf y (by omega),q6];rfl
   obtain ⟨s,hs,sx⟩:=mem_iff.1 mx
   obtain ⟨t,ht,sy⟩:=mem_iff.1 my
   have hst:s=t:=by
    obtain ⟨i,hi,rfl⟩:=xi7 hs
    obtain ⟨j,hj,rfl⟩:=xi7 ht
    rw [show i=j by omega]
   subst hst
   have md:mem (unionS w (brk w)) d=true:=mem_iff.2 ⟨s,hs,by omega,by omega⟩
   rw [u2,←hf d hd,h5,Bool.false_or] at md
   exact md
 ·intro hm
  obtain ⟨g,hg,g1,g2⟩:=mem_iff.1 hm
  obtain ⟨i,hi,rfl⟩:=brk_mem hg
  dsimp only at g1 g2
  have a1:=xf0 hw (i:=i) (by omega)
  have a2:=xf0 hw (i:=i+1) (by omega)
  have b1:=hin i (by omega) _ (Int.le_refl _) a1.2.1
  have b2:=hin (i+1) (by omega) _ (Int.le_refl _) a2.2.1
  have c1:=h1 _ (by omega) b1.1
  have c2:=h1 _ (by omega) b2.1
  exact ⟨⟨by omega,by omega⟩,by rw [hf d hd];exact brk_out hw (by omega) g1 g2⟩
def mkI (l:List Sn):Nat→Nat→Bool
 | 0,_=>false
 | i+1,d=>mkI l i d || decide ((l.getD i sn0).lo≤(d:Int)∧(d:Int) < (l.getD i sn0).hi)
def mkG (f:Nat→Bool) (a e:Int) (d:Nat):Bool:=f d || decide (a≤(d:Int)∧(d:Int) < e)
theorem mkG_0 {f:Nat→Bool} {a e:Int} (h:e≤a):mkG f a e=f:=by
 funext d;rw [mkG,decide_eq_false (by omega),Bool.or_false]
theorem mkG_set {f:Nat→Bool} {a e:Int} {d:Nat} (he:e=(d:Int)) (h:a≤(d:Int)):(rowD (mkG f a e)).set d true=rowD (mkG f a (e+1)):=by
 subst he
 refine rowD_set (by rw [mkG,decide_eq_true (by omega),Bool.or_true]) fun x hx=> ?_
 rw [mkG,mkG]
 congr 1
 exact decide_eq_decide.2 (by omega)
theorem mkI_0 {l:List Sn}:mkI l 0=fun _=>false:=by funext d;rw [mkI]
theorem mkI_next {l:List Sn} {i:Nat} {e:Int} (h:e=(l.getD i sn0).hi):mkG (mkI l i) (l.getD i sn0).lo e=mkI l (i+1):=by
 subst h;funext d;rfl
theorem mkI_all {l:List Sn} {d:Nat}: ∀i,i≤l.length→mkI l i d=mem (l.take i) d
 | 0,_=>by simp [mkI,mem]
 | i+1,hi=>by
  rw [mkI,mkI_all i (by omega),List.take_succ_eq_append_getElem (by omega),xm8,List.getD_eq_getElem?_getD,List.getElem?_eq_getElem (by omega)]
  congr 1
  rw [Bool.eq_iff_iff];simp
theorem marks_R {l:List Sn}:mkI l l.length=fun d:Nat=>mem l d:=by
 funext d;rw [mkI_all _ (Nat.le_refl _),List.take_length]
def bgI (w:List Sn) (m:Int):Nat→Nat→Bool
 | 0,d=>mem w d
 | i+1,d=>bgI w m i d || (decide ((w.getD (i+1) sn0).lo - (w.getD i sn0).hi≤m) && decide ((w.getD i sn0).hi≤(d:Int)∧(d:Int) < (w.getD (i+1) sn0).lo))
theorem bgI_0 {w:List Sn} {m:Int}:bgI w m 0=fun d:Nat=>mem w d:=by funext d;rw [bgI]
theorem bgI_no {w:List Sn} {m:Int} {i:Nat} (h: ¬(w.getD (i+1) sn0).lo - (w.getD i sn0).hi≤m):bgI w m (i+1)=bgI w m i:=by
 funext d;rw [bgI,decide_eq_false h,Bool.false_and,Bool.or_false]
theorem bgI_next {w:List Sn} {m:Int} {i:Nat} {e:Int} (h:(w.getD (i+1) sn0).lo - (w.getD i sn0).hi≤m) (he:e=(w.getD (i+1) sn0).lo):mkG (bgI w m i) (w.getD i sn0).hi e=bgI w m (i+1):=by
 subst he;funext d;rw [bgI,decide_eq_true h,Bool.true_and];rfl
theorem bgI_iff {w:List Sn} {m:Int} {d:Nat}: ∀i,bgI w m i d=true↔mem w d=true∨ ∃j,j < i∧(w.getD (j+1) sn0).lo - (w.getD j sn0).hi≤m∧(w.getD j sn0).hi≤(d:Int)∧(d:Int) < (w.getD (j+1) sn0).lo
 | 0=>by simp [bgI]
 | i+1=>by
  rw [bgI,Bool.or_eq_true,bgI_iff i,Bool.and_eq_true,decide_eq_true_eq,decide_eq_true_eq]
  constructor
  ·rintro ((h | ⟨j,hj,h⟩) | h)
   ·exact .inl h
   ·exact .inr ⟨j,by omega,h⟩
   ·exact .inr ⟨i,by omega,h⟩
  ·rintro (h | ⟨j,hj,h⟩)
   ·exact .inl (.inl h)
   ·by_cases hji:j=i
    ·subst hji;exact .inr h
    ·exact .inl (.inr ⟨j,by omega,h⟩)
theorem bridge_R {w:List Sn} {m:Int} (h:sVal w=true) (hm:0≤m):setD (bgI w m (w.length - 1))=brg m w:=by
 obtain ⟨b1,b2⟩:=brg_spec h hm
 refine set_is b1 fun d hd=> ?_
 rw [Bool.eq_iff_iff,bgI_iff,b2]
 refine or_congr Iff.rfl ⟨?_,?_⟩
 ·rintro ⟨j,hj,h1,h2⟩
  refine ⟨(brk w).getD j sn0,mem_getS (by rw [brk_len];exact hj),?_⟩
  rw [brk_getD (by omega)]
  exact ⟨h1,h2⟩
 ·rintro ⟨g,hg,h1,h2⟩
  obtain ⟨i,hi,rfl⟩:=brk_mem hg
  exact ⟨i,by omega,h1,h2⟩
attribute [irreducible] mkI bgI fsM
end An.S
namespace An.S
open Go Go.Proofs An
instance fi20:FnI Tryz.prog 20:=⟨_,Tryz.func20,by kernel_rfl,rfl⟩
instance fi48:FnI Tryz.prog 48:=⟨_,Tryz.func48,by kernel_rfl,rfl⟩
instance fi49:FnI Tryz.prog 49:=⟨_,Tryz.func49,by kernel_rfl,rfl⟩
instance fi50:FnI Tryz.prog 50:=⟨_,Tryz.func50,by kernel_rfl,rfl⟩
instance fi88:FnI Tryz.prog 88:=⟨_,Tryz.func88,by kernel_rfl,rfl⟩
instance fi89:FnI Tryz.prog 89:=⟨_,Tryz.func89,by kernel_rfl,rfl⟩
instance fi90:FnI Tryz.prog 90:=⟨_,Tryz.func90,by kernel_rfl,rfl⟩
instance fi156:FnI Tryz.prog 156:=⟨_,Tryz.func156,by kernel_rfl,rfl⟩
theorem el4:ElI Tryz.prog 4 1 1 false (.bool false):=⟨ti4,by kernel_rfl,by kernel_rfl⟩
theorem c_R4Right (s:Sn):
  Ct Tryz.prog 156 [tSn s] (tB s.ok):=by
 refine Ct.intro Tryz.func156 rfl Tryz.ntmps156 rfl ?_
 intro w F
 refine A12 ?_
 refine RGcaseD (t:=6) rfl (fun h9=> ?_) (fun h9=> ?_)
 ·
  refine A7 ?_
  refine RGcaseD (t:=13) rfl (fun h9_2=> ?_) (fun h9_2=> ?_)
  ·
   refine A8 ?_
   exact x4 Plain.mk' rfl rfl (Le.bool (by simp [Sn.ok, *]))
  ·
   refine A8 ?_
   exact x4 Plain.mk' rfl rfl (Le.bool (by simp [Sn.ok, *]))
 ·
  refine A15 ?_
  exact x4 Plain.mk' rfl rfl (Le.bool (by simp [Sn.ok, *]))
theorem c_R4Valid (l:List Sn):
  Ct Tryz.prog 89 [tL 2 true tSn l] (tB (sVal l)):=by
 refine Ct.intro Tryz.func89 rfl Tryz.ntmps89 rfl ?_
 intro w F
 refine xj2 (s:=0) rfl (fun hl0=> ?_)
 refine A12 ?_
 refine cL (fun (i:Nat)=>i≤l.length∧(List.range i).all (sOkA l)=true) (fun (i:Nat)=>upd (upd (fun _=>none) 0 (some (.val (tL 2 true tSn l)))) 3 (some (.val (tI i)))) (fun (i:Nat)=>fun _=>none) [] (fun (i:Nat)=>l.length - i) (0) ⟨Nat.zero_le _,rfl⟩ ?_
 intro i hI
 obtain ⟨hi,ha⟩:=hI
 refine A9 ?_
 refine x8 rfl (fun h13=> ?_) (fun h13=> ?_)
 ·
  refine A8 ?_
  refine R2 (x6 sl45 (i) (by omega) (gD (l:=l) (n:=i) (d:=sn0) (by omega))) rfl rfl ?_
  refine A1 ?_
  refine R1 (x3 (c_R4Right _) fi156 rfl) rfl ?_
  refine A2 ?_
  refine RGcase (t:=16) rfl (fun h14=> ?_) (fun h14=> ?_)
  ·
   refine A18 ?_
   refine A18 ?_
   refine A8 ?_
   exact x4 Plain.mk' rfl rfl (Le.bool (xv1 (i:=i) (by omega) fun h=>by rw [h.1] at h14;cases h14))
  ·
   refine A2 ?_
   refine RGon h14 rfl (x6 sl45 (i) (by omega) (gD (l:=l) (n:=i) (d:=sn0) (by omega))) rfl ⟨rfl,rfl,trivial⟩ trivial trivial (RGon h14 rfl (xb5 fo62_0.h (At.f 0 rfl rfl) rfl) rfl ⟨rfl,trivial⟩ trivial trivial ?_)
   refine A3 ?_
   refine RGon h14 rfl (x6 sl45 (i) (by omega) (gD (l:=l) (n:=i) (d:=sn0) (by omega))) rfl ⟨rfl,rfl,trivial⟩ trivial trivial (RGon h14 rfl (xb5 fo62_1.h (At.f 1 rfl rfl) rfl) rfl ⟨rfl,trivial⟩ trivial trivial ?_)
   refine A4 ?_
   refine RGcaseD (t:=29) rfl (fun h14_2=> ?_) (fun h14_2=> ?_)
   ·
    refine A18 ?_
    refine A13 ?_
    exact x4 Plain.mk' rfl rfl (Le.bool (xv1 (i:=i) (by omega) (by omega)))
   ·
    refine A3 ?_
    refine RGcaseD (t:=32) rfl (fun h14_3=> ?_) (fun h14_3=> ?_)
    ·
     refine A2 ?_
     refine RGon (decide_eq_true h14_3) rfl (xe6 (wr64 (by omega) (by omega))) rfl ⟨rfl,rfl,trivial⟩ trivial trivial (RGon (decide_eq_true h14_3) rfl (x6 sl45 (i - 1) (by omega) (gD (l:=l) (n:=i - 1) (d:=sn0) (by omega))) rfl ⟨rfl,rfl,trivial⟩ trivial trivial (RGon (decide_eq_true h14_3) rfl (xb5 fo62_1.h (At.f 1 rfl rfl) rfl) rfl ⟨rfl,trivial⟩ trivial trivial ?_))
     refine A3 ?_
     refine RGon (decide_eq_true h14_3) rfl (x6 sl45 (i) (by omega) (gD (l:=l) (n:=i) (d:=sn0) (by omega))) rfl ⟨rfl,rfl,trivial⟩ trivial trivial (RGon (decide_eq_true h14_3) rfl (xb5 fo62_0.h (At.f 0 rfl rfl) rfl) rfl ⟨rfl,trivial⟩ trivial trivial ?_)
     refine A2 ?_
     refine RGon (decide_eq_false h14_2) rfl (xe3 (decide_eq_true h14_3)) rfl ⟨rfl,rfl,trivial⟩ trivial trivial ?_
     refine A3 ?_
     refine x8 rfl (fun h14_4=> ?_) (fun h14_4=> ?_)
     ·
      refine A11 ?_
      exact x4 Plain.mk' rfl rfl (Le.bool (xv1 (i:=i) (by omega) (by omega)))
     ·
      refine A8 ?_
      have hok:sOkA l i=true:=xm0.2 ⟨by simpa using h14,by omega,by omega⟩
      exact kF (i+1) ⟨⟨by omega,by rw [xo2,ha,Bool.true_and];exact hok⟩,(by omega)⟩
    ·
     refine A12 ?_
     refine RGon (decide_eq_false h14_2) rfl (xc7 (decide_eq_false h14_3)) rfl ⟨rfl,rfl,trivial⟩ trivial trivial ?_
     refine A12 ?_
     have hok:sOkA l i=true:=xm0.2 ⟨by simpa using h14,by omega,by omega⟩
     exact kF (i+1) ⟨⟨by omega,by rw [xo2,ha,Bool.true_and];exact hok⟩,(by omega)⟩
 ·
  refine A11 ?_
  exact x4 Plain.mk' rfl rfl (Le.bool (by rw [sVal,←show i=l.length by omega,ha]))
theorem c_R4Marks (l:List Sn) (hv:sVal l=true) (n:Nat) (hn:n=65536):
  CtG Tryz.prog 90 [] [.val (tL 2 true tSn l)] (.own (.sl 6 1 0 n)) [(6,⟨4,1,false,rV tB (rowD (fun d:Nat=>mem l d))⟩)] [6]:=by
 refine CtG.intro [] Tryz.func90 rfl Tryz.ntmps90 rfl rfl trivial ?_
 intro w F η
 refine xj2 (s:=0) rfl (fun hl0=> ?_)
 refine A7 ?_
 refine RE (xg6 (k:=6) (t:=tB false) (ts:=rV tB (List.replicate n false)) n n Tryz.underlying79 el4 (fun _ _=>rfl) rfl (by omega) (by omega) (Nat.le_refl _) (by omega) (by omega) (rV_rep _ _ rfl)) ⟨rfl,rfl,trivial⟩ trivial ⟨rfl,trivial⟩ ?_
 refine A10 ?_
 refine cL (fun (i:Nat)=>i≤l.length) (fun (i:Nat)=>upd (upd (upd (fun _=>none) 0 (some (.val (tL 2 true tSn l)))) 3 (some (.own (.sl 6 1 0 n)))) 4 (some (.val (tI i)))) (fun (i:Nat)=>upd (fun _=>none) 6 (some (⟨4,1,false,rV tB (rowD (mkI l i))⟩))) [6] (fun (i:Nat)=>l.length - i) (0) (Nat.zero_le _) (hh:=((SubK.consI rfl (ImpK.of (by rw [hn,rowD_rep,mkI_0]))) SubK.nil)) ?_
 intro i hI
 refine A9 ?_
 refine x8 rfl (fun h24=> ?_) (fun h24=> ?_)
 ·
  refine A8 ?_
  refine R2 (x6 sl45 (i) (by omega) (gD (l:=l) (n:=i) (d:=sn0) (by omega))) rfl rfl (R1 (xb5 fo62_0.h (At.f 0 rfl rfl) rfl) rfl ?_)
  refine A5 ?_
  have hat:=xf0 hv (i:=i) (by omega)
  refine cL (fun (e:Int)=>(l.getD i sn0).lo≤e∧e≤(l.getD i sn0).hi) (fun (e:Int)=>upd (upd (upd (upd (fun _=>none) 0 (some (.val (tL 2 true tSn l)))) 3 (some (.own (.sl 6 1 0 n)))) 4 (some (.val (tI i)))) 5 (some (.val (tI e)))) (fun (e:Int)=>upd (fun _=>none) 6 (some (⟨4,1,false,rV tB (rowD (mkG (mkI l i) (l.getD i sn0).lo e))⟩))) [6] (fun (e:Int)=>((l.getD i sn0).hi - e).toNat) ((l.getD i sn0).lo) ⟨by omega,by omega⟩ (hh:=((SubK.consI rfl (ImpK.of (by rw [mkG_0 (Int.le_refl _)]))) SubK.nil)) ?_
  intro e hI2
  obtain ⟨he1,he2⟩:=hI2
  refine A6 ?_
  refine R2 (x6 sl45 (i) (by omega) (gD (l:=l) (n:=i) (d:=sn0) (by omega))) rfl rfl (R1 (xb5 fo62_1.h (At.f 1 rfl rfl) rfl) rfl ?_)
  refine A4 ?_
  refine x8 rfl (fun h25=> ?_) (fun h25=> ?_)
  ·
   refine A7 ?_
   refine R2 (xa4 sl79 (by omega) (by omega) rfl) rfl rfl (RE (xc9 (e.toNat) ti4 (rV_lt (by rw [xg4];omega)) (by omega) (xk5 (f:=tB) (m:=true) rfl)) ⟨rfl,rfl,trivial⟩ ⟨rfl,trivial⟩ trivial ?_)
   refine A8 ?_
   exact kF (e+1) ⟨⟨by omega,by omega⟩,(by omega)⟩ (hh:=((SubK.consI rfl (ImpK.of (by rw [mkG_set (by omega) (by omega)]))) SubK.nil))
  ·
   refine A11 ?_
   exact kF (i+1) ⟨(by omega),(by omega)⟩ (hh:=((SubK.consI rfl (ImpK.of (by rw [mkI_next (by omega)]))) SubK.nil))
 ·
  refine A6 ?_
  refine C_key (k:=6) (e':=⟨4,1,false,rV tB (rowD (fun d:Nat=>mem l d))⟩) rfl (by rw [show i=l.length by omega,marks_R]) ?_
  refine A6 ?_
  exact xe8 LentC.mk' rfl rfl Imp.refl ⟨rfl,trivial⟩ rfl ⟨⟨rfl,xb0⟩,trivial⟩ rfl
theorem c_R4Bridge (l:List Sn) (m:Int):
  Ct Tryz.prog 50 [tL 2 true tSn l,tI m] (tT [tL 2 true tSn (if sVal l=true∧0≤m then brg m l else []),tI (if sVal l=true∧0≤m then 0 else 2)]):=by
 obtain ⟨n,hn⟩: ∃n:Nat,n=65536:=⟨_,rfl⟩
 refine Ct.intro Tryz.func50 rfl Tryz.ntmps50 rfl ?_
 intro w F
 refine xj2 (s:=0) rfl (fun hl0=> ?_)
 refine A10 ?_
 refine R1 (x3 (c_R4Valid l) fi89 rfl) rfl ?_
 refine A2 ?_
 refine RGcase (t:=12) rfl (fun h79=> ?_) (fun h79=> ?_)
 ·
  refine A14 ?_
  exact xc3 Plain.mk' rfl rfl rfl (leNil (by rw [if_neg (fun h=>by rw [h.1] at h79;cases h79)])) (Le.int (by rw [if_neg (fun h=>by rw [h.1] at h79;cases h79)]))
 ·
  refine A5 ?_
  refine x8 rfl (fun h79_2=> ?_) (fun h79_2=> ?_)
  ·
   refine A8 ?_
   exact xc3 Plain.mk' rfl rfl rfl (leNil (by rw [if_neg (by omega)])) (Le.int (by rw [if_neg (by omega)]))
  ·
   refine A3 ?_
   have hok:sVal l=true∧0≤m:=⟨by simpa using h79,by omega⟩
   refine A2 ?_
   refine RE (xe2 (fun _=>17) (c_R4Marks l hok.1 n hn) fi90 rfl (krN (ρ:=fun _=>17)) (krC (ρ:=fun _=>17) (k:=6) xc2 (krN (ρ:=fun _=>17))) ⟨⟨rfl,xb0⟩,trivial⟩ rfl) ⟨rfl,trivial⟩ trivial ⟨rfl,trivial⟩ ?_
   refine A10 ?_
   refine cL (fun (i:Nat)=>i≤l.length - 1) (fun (i:Nat)=>upd (upd (upd (upd (fun _=>none) 0 (some (.val (tL 2 true tSn l)))) 1 (some (.val (tI m)))) 6 (some (.own (.sl 17 1 0 n)))) 7 (some (.val (tI ((i:Int)+1))))) (fun (i:Nat)=>upd (fun _=>none) 17 (some (⟨4,1,false,rV tB (rowD (bgI l m i))⟩))) [17] (fun (i:Nat)=>l.length - i) (0) (Nat.zero_le _) (hh:=((SubK.consI rfl (ImpK.of (by rw [bgI_0]))) SubK.nil)) ?_
   intro i hI
   refine A9 ?_
   refine x8 rfl (fun h83=> ?_) (fun h83=> ?_)
   ·
    refine A8 ?_
    refine R2 (x6 sl45 (i+1) (by omega) (gD (l:=l) (n:=i+1) (d:=sn0) (by omega))) rfl rfl (R1 (xb5 fo62_0.h (At.f 0 rfl rfl) rfl) rfl ?_)
    refine A4 ?_
    have h1:=xf0 hok.1 (i:=i) (by omega)
    have h2:=xf0 hok.1 (i:=i+1) (by omega)
    have h3:=sVal_lt hok.1 (show i < i+1 by omega) (by omega)
    refine R2 (x6 sl45 (i) (by omega) (gD (l:=l) (n:=i) (d:=sn0) (by omega))) rfl rfl (R1 (xb5 fo62_1.h (At.f 1 rfl rfl) rfl) rfl ?_)
    refine A6 ?_
    refine x8 rfl (fun h84=> ?_) (fun h84=> ?_)
    ·
     refine A5 ?_
     refine R2 (x6 sl45 (i) (by omega) (gD (l:=l) (n:=i) (d:=sn0) (by omega))) rfl rfl (R1 (xb5 fo62_1.h (At.f 1 rfl rfl) rfl) rfl ?_)
     refine A5 ?_
     refine cL (fun (e:Int)=>(l.getD i sn0).hi≤e∧e≤(l.getD (i+1) sn0).lo) (fun (e:Int)=>upd (upd (upd (upd (upd (fun _=>none) 0 (some (.val (tL 2 true tSn l)))) 1 (some (.val (tI m)))) 6 (some (.own (.sl 17 1 0 n)))) 7 (some (.val (tI ((i:Int)+1))))) 8 (some (.val (tI e)))) (fun (e:Int)=>upd (fun _=>none) 17 (some (⟨4,1,false,rV tB (rowD (mkG (bgI l m i) (l.getD i sn0).hi e))⟩))) [17] (fun (e:Int)=>((l.getD (i+1) sn0).lo - e).toNat) ((l.getD i sn0).hi) ⟨by omega,by omega⟩ (hh:=((SubK.consI rfl (ImpK.of (by rw [mkG_0 (Int.le_refl _)]))) SubK.nil)) ?_
     intro e hI2
     obtain ⟨he1,he2⟩:=hI2
     refine A6 ?_
     refine R2 (x6 sl45 (i+1) (by omega) (gD (l:=l) (n:=i+1) (d:=sn0) (by omega))) rfl rfl (R1 (xb5 fo62_0.h (At.f 0 rfl rfl) rfl) rfl ?_)
     refine A4 ?_
     refine x8 rfl (fun h85=> ?_) (fun h85=> ?_)
     ·
      refine A7 ?_
      refine R2 (xa4 sl79 (by omega) (by omega) rfl) rfl rfl (RE (xc9 (e.toNat) ti4 (rV_lt (by rw [xg4];omega)) (by omega) (xk5 (f:=tB) (m:=true) rfl)) ⟨rfl,rfl,trivial⟩ ⟨rfl,trivial⟩ trivial ?_)
      refine A8 ?_
      exact kF (e+1) ⟨⟨by omega,by omega⟩,(by omega)⟩ (hh:=((SubK.consI rfl (ImpK.of (by rw [mkG_set (by omega) (by omega)]))) SubK.nil))
     ·
      refine A11 ?_
      exact kF (i+1) ⟨(by omega),(by omega)⟩ (hh:=((SubK.consI rfl (ImpK.of (by rw [bgI_next (by omega) (by omega)]))) SubK.nil))
    ·
     refine A8 ?_
     exact kF (i+1) ⟨(by omega),(by omega)⟩ (hh:=((SubK.consI rfl (ImpK.of (by rw [bgI_no (by omega)]))) SubK.nil))
   ·
    refine A6 ?_
    refine C_key (k:=17) (e':=⟨4,1,false,rV tB (rowD (bgI l m (l.length - 1)))⟩) rfl (by rw [show i=l.length - 1 by omega]) ?_
    refine A1 ?_
    refine RE (xg3 (f:=tB) (xs:=rowD (bgI l m (l.length - 1))) (fun _ h=>h) (xi4 (by rw [xg4];omega)) (by rw [xg4];omega)) ⟨rfl,trivial⟩ ⟨rfl,trivial⟩ trivial (R1 (x3 (c_R4Set (bgI l m (l.length - 1))) fi48 rfl) rfl ?_)
    refine A5 ?_
    exact xc3 Plain.mk' rfl rfl rfl (Le.of (by rw [if_pos hok,bridge_R hok.1 hok.2])) (Le.int (by rw [if_pos hok]))
theorem c_R8marks (l:List Tst) (a b:Int) (hl:l.length≤500000) (hok:tRight l=true) (h0:0≤a) (h1:b≤65536):
  Ct Tryz.prog 49 [tL 8 true tTs l,tI a,tI b] (tL 1 false tB (rowD (mkF (wkR l) a b))):=by
 obtain ⟨n,hn⟩: ∃n:Nat,n=65536:=⟨_,rfl⟩
 refine Ct.intro Tryz.func49 rfl Tryz.ntmps49 rfl ?_
 intro w F
 refine xb3 ?_
 refine xb6 ?_
 refine R1 xa8 rfl (xb4 (by kernel_rfl) (xa5 (xb3 ?_)))
 refine xb6 ?_
 refine R1 x5 rfl (R1 (x3 (c_R5Table l hl hok) fi88 rfl) rfl (R1 xa8 rfl (xb4 (by kernel_rfl) (xa5 (xb3 ?_)))))
 refine xb6 ?_
 refine RE (xg6 (k:=12) (t:=tB false) (ts:=rV tB (List.replicate n false)) n n Tryz.underlying79 el4 (fun _ _=>rfl) rfl (by omega) (by omega) (Nat.le_refl _) (by omega) (by omega) (rV_rep _ _ rfl)) ⟨rfl,rfl,trivial⟩ trivial ⟨rfl,trivial⟩ (R1 xa8 rfl (xb4 (by kernel_rfl) (xa5 (xb3 (xb3 ?_)))))
 refine xb6 ?_
 refine R1 x5 rfl (R1 xa8 rfl (xb4 (by kernel_rfl) (xa5 (xf7 ?_))))
 refine cL (fun (e:Int)=>a≤e∧(e≤b∨e=a)) (fun (e:Int)=>upd (upd (upd (upd (upd (fun _=>none) 0 (some (.val (tL 8 true tTs l)))) 2 (some (.val (tI b)))) 7 (some (.val (tL 1 false tI (rowD (tabT l)))))) 8 (some (.own (.sl 12 1 0 n)))) 9 (some (.val (tI e)))) (fun (e:Int)=>upd (fun _=>none) 12 (some (⟨4,1,false,rV tB (rowD (mkF (wkR l) a e))⟩))) [12] (fun (e:Int)=>(b - e).toNat) (a) ⟨Int.le_refl _,.inr rfl⟩ (hh:=((SubK.consI rfl (ImpK.of (by rw [hn,rowD_rep,mkF_0 (Int.le_refl _)]))) SubK.nil)) ?_
 intro e hI
 obtain ⟨he1,he2⟩:=hI
 have qa:=tabT_bd hok (e.toNat)
 refine xb3 (xb3 ?_)
 refine xb6 ?_
 refine R1 x5 rfl (R1 x5 rfl (R2 d_lss rfl rfl (xb4 (by kernel_rfl) (xa5 ?_))))
 refine x8 rfl (fun h77=> ?_) (fun h77=> ?_)
 ·
  refine xh2 (xa5 (xb3 (xf7 ?_)))
  refine xb6 ?_
  refine R1 x5 rfl (R1 x5 rfl (R1 x5 rfl (R1 x5 rfl (R2 (x6 sl40 ((e.toNat)) (by omega) (xp8 (by omega))) rfl rfl (R1 (xh5 ti3) rfl (R2 d_gtr rfl rfl (R1 x5 rfl ?_)))))))
  refine RGcaseD (t:=26) rfl (fun h78=> ?_) (fun h78=> ?_)
  ·
   refine RGon (decide_eq_true h78) rfl x5 rfl ⟨rfl,trivial⟩ trivial trivial (RGon (decide_eq_true h78) rfl x5 rfl ⟨rfl,trivial⟩ trivial trivial (RGon (decide_eq_true h78) rfl x5 rfl ⟨rfl,trivial⟩ trivial trivial (RGon (decide_eq_true h78) rfl (x6 sl40 ((e.toNat)) (by omega) (xp8 (by omega))) rfl ⟨rfl,rfl,trivial⟩ trivial trivial (RGon (decide_eq_true h78) rfl (xh5 ti3) rfl ⟨rfl,trivial⟩ trivial trivial (RGon (decide_eq_true h78) rfl (xe6 (wr64 (by omega) (by omega))) rfl ⟨rfl,rfl,trivial⟩ trivial trivial (RGon (decide_eq_true h78) rfl (x6 sl22 ((tabT l (e.toNat) - 1).toNat) (by omega) (gD (l:=l) (n:=(tabT l (e.toNat) - 1).toNat) (d:=tst0) (by omega))) rfl ⟨rfl,rfl,trivial⟩ trivial trivial (RGon (decide_eq_true h78) rfl (xb5 fo34_2.h (At.f 2 rfl rfl) rfl) rfl ⟨rfl,trivial⟩ trivial trivial ?_)))))))
   refine RGon (decide_eq_true h78) rfl (xb5 fo32_1.h (At.f 1 rfl rfl) rfl) rfl ⟨rfl,trivial⟩ trivial trivial (RGon (decide_eq_true h78) rfl (xb5 fo30_0.h (At.f 0 rfl rfl) rfl) rfl ⟨rfl,trivial⟩ trivial trivial (RGon (decide_eq_true h78) rfl (xb5 fo28_1.h (At.f 1 rfl rfl) rfl) rfl ⟨rfl,trivial⟩ trivial trivial (RGon (decide_eq_true h78) rfl (xh5 ti26) rfl ⟨rfl,trivial⟩ trivial trivial (RGon (decide_eq_true h78) rfl (d_len Tryz.underlying26) rfl ⟨rfl,trivial⟩ trivial trivial (RGon (decide_eq_true h78) rfl d_gtr rfl ⟨rfl,rfl,trivial⟩ trivial trivial (R2 (xe3 (decide_eq_true h78)) rfl rfl (R2 (xa4 sl79 (by omega) (by omega) rfl) rfl rfl ?_)))))))
   refine RE (xc9 ((e.toNat)) ti4 (rV_lt (by rw [xg4];omega)) (by omega) (xk5 (f:=tB) (m:=wkR l (e.toNat)) (by rw [wkR,decide_eq_true h78,Bool.true_and]))) ⟨rfl,rfl,trivial⟩ ⟨rfl,trivial⟩ trivial (xb4 (by kernel_rfl) (xj7 (xa5 ?_)))
   refine xb6 ?_
   refine R1 x5 rfl (R2 (xc8 (wr64 (by omega) (by omega))) rfl rfl (R1 xa8 rfl (xb4 (by kernel_rfl) ?_)))
   exact kF (e+1) ⟨⟨by omega,by omega⟩,(by omega)⟩ (hh:=((SubK.consI rfl (ImpK.of (by rw [mkF_set (by omega) (by omega)]))) SubK.nil))
  ·
   refine RGoff (decide_eq_false h78) rfl rfl (RGoff (decide_eq_false h78) rfl rfl (RGoff (decide_eq_false h78) rfl rfl (RGoff (decide_eq_false h78) rfl rfl (RGoff (decide_eq_false h78) rfl rfl (RGoff (decide_eq_false h78) rfl rfl (RGoff (decide_eq_false h78) rfl rfl (RGoff (decide_eq_false h78) rfl rfl ?_)))))))
   refine RGoff (decide_eq_false h78) rfl rfl (RGoff (decide_eq_false h78) rfl rfl (RGoff (decide_eq_false h78) rfl rfl (RGoff (decide_eq_false h78) rfl rfl (RGoff (decide_eq_false h78) rfl rfl (RGoff (decide_eq_false h78) rfl rfl (R2 (xc7 (decide_eq_false h78)) rfl rfl (R2 (xa4 sl79 (by omega) (by omega) rfl) rfl rfl ?_)))))))
   refine RE (xc9 ((e.toNat)) ti4 (rV_lt (by rw [xg4];omega)) (by omega) (xk5 (f:=tB) (m:=wkR l (e.toNat)) (by rw [wkR,decide_eq_false h78];rfl))) ⟨rfl,rfl,trivial⟩ ⟨rfl,trivial⟩ trivial (xb4 (by kernel_rfl) (xj7 (xa5 ?_)))
   refine xb6 ?_
   refine R1 x5 rfl (R2 (xc8 (wr64 (by omega) (by omega))) rfl rfl (R1 xa8 rfl (xb4 (by kernel_rfl) ?_)))
   exact kF (e+1) ⟨⟨by omega,by omega⟩,(by omega)⟩ (hh:=((SubK.consI rfl (ImpK.of (by rw [mkF_set (by omega) (by omega)]))) SubK.nil))
 ·
  refine xn6 (xi6 (xi6 (K_exB (xa5 (xb3 ?_)))))
  refine xb6 ?_
  refine RE (xg3 (f:=tB) (xs:=rowD (mkF (wkR l) a e)) (fun _ h=>h) (xi4 (by rw [xg4];omega)) (by rw [xg4];omega)) ⟨rfl,trivial⟩ ⟨rfl,trivial⟩ trivial (R1 xa8 rfl (xb4 (by kernel_rfl) (xa5 (C_ret ?_))))
  exact x4 Plain.mk' rfl rfl (Le.of (by by_cases hab:e=b;rw [hab];rw [mkF_0 (show e≤a by omega),mkF_0 (show b≤a by omega)]))
theorem c_R8Worked (l:List Tst) (hl:l.length≤500000) (a b:Int) (hD: ∀s∈l,s.v.f.dig) (hs: ∀s∈l,s.v.f.n.l.length≤1048576∧s.v.f.d.l.length≤1048576):
  Ct Tryz.prog 20 [tL 8 true tTs l,tI a,tI b] (tT [tL 2 true tSn (if askB l a b=true then wkd l a b else []),tI (if askB l a b=true then 0 else 2)]):=by
 refine Ct.intro Tryz.func20 rfl Tryz.ntmps20 rfl ?_
 intro w F
 refine A12 ?_
 refine R3 (x3 (c_R8may l hl a b hD hs) fi47 rfl) rfl rfl rfl ?_
 refine A3 ?_
 refine xd4 rfl (fun h85=> ?_) (fun h85=> ?_)
 ·
  have hk: ¬askB l a b=true:=by simpa using h85
  refine A8 ?_
  exact xc3 Plain.mk' rfl rfl rfl (leNil (by rw [if_neg hk])) (Le.int (by rw [if_neg hk]))
 ·
  have hk:askB l a b=true:=by simpa using h85
  obtain ⟨hk1,hk2⟩:=askB_iff.1 hk
  simp only [sRight,Bool.and_eq_true] at hk1
  refine A7 ?_
  refine R3 (x3 (c_R8marks l a b hl hk1.1 (by omega) (by omega)) fi49 rfl) rfl rfl rfl (R1 (x3 (c_R4Set (mkF (wkR l) a b)) fi48 rfl) rfl ?_)
  refine A5 ?_
  exact xc3 Plain.mk' rfl rfl rfl (Le.of (by rw [if_pos hk,worked_R hk1.1 (by omega) (by omega)])) (Le.int (by rw [if_pos hk]))
theorem c_R8Breaks (l:List Tst) (hl:l.length≤500000) (a b:Int) (hD: ∀s∈l,s.v.f.dig) (hs: ∀s∈l,s.v.f.n.l.length≤1048576∧s.v.f.d.l.length≤1048576):
  Ct Tryz.prog 21 [tL 8 true tTs l,tI a,tI b] (tT [tL 2 true tSn (if askB l a b=true then brk (wkd l a b) else []),tI (if askB l a b=true then 0 else 2)]):=by
 obtain ⟨n,hn⟩: ∃n:Nat,n=65536:=⟨_,rfl⟩
 refine Ct.intro Tryz.func21 rfl Tryz.ntmps21 rfl ?_
 intro w F
 refine xb3 ?_
 refine xb6 ?_
 refine R1 xa8 rfl (R1 xa8 rfl (xb4 (by kernel_rfl) (xa5 (xb3 (xb3 ?_)))))
 refine xb6 ?_
 refine R1 x5 rfl (R1 x5 rfl (R1 x5 rfl (R3 (x3 (c_R8may l hl a b hD hs) fi47 rfl) rfl rfl rfl (R1 xi1 rfl (xb4 (by kernel_rfl) (xa5 ?_))))))
 refine xd4 rfl (fun h93=> ?_) (fun h93=> ?_)
 ·
  have hk: ¬askB l a b=true:=by simpa using h93
  refine xb3 ?_
  refine xb6 ?_
  refine R1 xa8 rfl (R1 xa8 rfl (xb4 (by kernel_rfl) (xa5 (C_ret (K_retT ?_)))))
  exact xc3 Plain.mk' rfl rfl rfl (leNil (by rw [if_neg hk])) (Le.int (by rw [if_neg hk]))
 ·
  have hk:askB l a b=true:=by simpa using h93
  obtain ⟨hk1,hk2⟩:=askB_iff.1 hk
  simp only [sRight,Bool.and_eq_true] at hk1
  refine xh2 (xa5 (xb3 ?_))
  refine xb6 ?_
  refine R1 x5 rfl (R1 x5 rfl (R1 x5 rfl (R3 (x3 (c_R8marks l a b hl hk1.1 (by omega) (by omega)) fi49 rfl) rfl rfl rfl (R1 xa8 rfl (xb4 (by kernel_rfl) (xa5 (xb3 ?_)))))))
  refine xb6 ?_
  refine RE (xg6 (k:=23) (t:=tB false) (ts:=rV tB (List.replicate n false)) n n Tryz.underlying79 el4 (fun _ _=>rfl) rfl (by omega) (by omega) (Nat.le_refl _) (by omega) (by omega) (rV_rep _ _ rfl)) ⟨rfl,rfl,trivial⟩ trivial ⟨rfl,trivial⟩ (R1 xa8 rfl (xb4 (by kernel_rfl) (xa5 (xb3 ?_))))
  refine xb6 ?_
  refine R1 xa8 rfl (R1 xa8 rfl (xb4 (by kernel_rfl) (xa5 (xb3 (xb3 ?_)))))
  refine xb6 ?_
  refine R1 xa8 rfl (xb4 (by kernel_rfl) (xa5 (xf7 ?_)))
  refine cL (fun (d:Nat)=>d≤65536) (fun (d:Nat)=>upd (upd (upd (upd (upd (fun _=>none) 8 (some (.val (tL 1 false tB (rowD (mkF (wkR l) a b)))))) 9 (some (.own (.sl 23 1 0 n)))) 10 (some (.val (tI (fsM (mkF (wkR l) a b) d).1)))) 11 (some (.val (tI (fsM (mkF (wkR l) a b) d).2)))) 12 (some (.val (tI d)))) (fun (d:Nat)=>upd (fun _=>none) 23 (some (⟨4,1,false,rV tB (rowD (fun _=>false))⟩))) [23] (fun (d:Nat)=>65536 - d) (0) (Nat.zero_le _) (hg:=(sI ((Sub.consI rfl (Imp.int (by rw [fsM_0]))) ((Sub.consI rfl (Imp.int (by rw [fsM_0]))) (sC (sC Sub.nil)))))) (hh:=((SubK.consI rfl (ImpK.of (by rw [hn,rowD_rep]))) SubK.nil)) ?_
  intro d hI
  refine xb3 (xb3 ?_)
  refine xb6 ?_
  refine R1 x5 rfl (R2 d_lss rfl rfl (xb4 (by kernel_rfl) (xa5 ?_)))
  refine x8 rfl (fun h99=> ?_) (fun h99=> ?_)
  ·
   refine xh2 (xa5 (xb3 (xf7 (xb3 ?_))))
   refine xb6 ?_
   refine R1 x5 rfl (R1 x5 rfl (R2 (x6 sl79 (d) (by omega) (xp8 (by omega))) rfl rfl (R1 (xh5 ti4) rfl (xb4 (by kernel_rfl) (xa5 ?_)))))
   refine xd4 rfl (fun h100=> ?_) (fun h100=> ?_)
   ·
    refine xb6 ?_
    refine R1 x5 rfl (R1 x5 rfl (R2 d_min2 rfl rfl (R1 x5 rfl (R1 xa8 rfl (R1 xa8 rfl (xb4 (by kernel_rfl) (xj7 ?_)))))))
    refine xa5 ?_
    refine xb6 ?_
    refine R1 x5 rfl (R2 (xc8 (wr64 (by omega) (by omega))) rfl rfl (R1 xa8 rfl (xb4 (by kernel_rfl) ?_)))
    exact kF (d+1) ⟨(by omega),(by omega)⟩ (hg:=(sI ((Sub.consI rfl (Imp.int (by rw [fsM_yes h100]))) ((Sub.consI rfl (Imp.int (by rw [fsM_yes h100]))) (sC (sC Sub.nil)))))) (hh:=((SubK.consI rfl ImpK.refl) SubK.nil))
   ·
    refine xh2 (xj7 (xa5 ?_))
    refine xb6 ?_
    refine R1 x5 rfl (R2 (xc8 (wr64 (by omega) (by omega))) rfl rfl (R1 xa8 rfl (xb4 (by kernel_rfl) ?_)))
    exact kF (d+1) ⟨(by omega),(by omega)⟩ (hg:=(sI ((Sub.consI rfl (Imp.int (by rw [fsM_no h100]))) ((Sub.consI rfl (Imp.int (by rw [fsM_no h100]))) (sC (sC Sub.nil)))))) (hh:=((SubK.consI rfl ImpK.refl) SubK.nil))
  ·
   refine xn6 (xi6 (xi6 (K_exB (xa5 (xb3 (xb3 ?_))))))
   have hd6:d=65536:=by omega
   subst hd6
   have hfs:=(fsM_all (f:=(mkF (wkR l) a b)) 65536 (Nat.le_refl _)).2
   have hfb:0≤(fsM (mkF (wkR l) a b) 65536).1∧(fsM (mkF (wkR l) a b) 65536).2≤65535:=by
    rcases hfs with ⟨q1,q2⟩ | ⟨x,y,q1,q2,q3,q4,_⟩ <;> omega
   refine xb6 ?_
   refine R1 x5 rfl (R1 xa8 rfl (xb4 (by kernel_rfl) (xa5 (xf7 ?_))))
   refine cL (fun (e:Int)=>(fsM (mkF (wkR l) a b) 65536).1≤e∧(e≤(fsM (mkF (wkR l) a b) 65536).2+1∨e=(fsM (mkF (wkR l) a b) 65536).1)) (fun (e:Int)=>upd (upd (upd (upd (fun _=>none) 8 (some (.val (tL 1 false tB (rowD (mkF (wkR l) a b)))))) 9 (some (.own (.sl 23 1 0 n)))) 11 (some (.val (tI (fsM (mkF (wkR l) a b) 65536).2)))) 13 (some (.val (tI e)))) (fun (e:Int)=>upd (fun _=>none) 23 (some (⟨4,1,false,rV tB (rowD (mkF (fun d=> !(mkF (wkR l) a b) d) (fsM (mkF (wkR l) a b) 65536).1 e))⟩))) [23] (fun (e:Int)=>((fsM (mkF (wkR l) a b) 65536).2+1 - e).toNat) ((fsM (mkF (wkR l) a b) 65536).1) ⟨Int.le_refl _,.inr rfl⟩ (hh:=((SubK.consI rfl (ImpK.of (by rw [mkF_0 (Int.le_refl _)]))) SubK.nil)) ?_
   intro e hI2
   obtain ⟨he1,he2⟩:=hI2
   refine xb3 (xb3 ?_)
   refine xb6 ?_
   refine R1 x5 rfl (R1 x5 rfl (R2 d_leq rfl rfl (xb4 (by kernel_rfl) (xa5 ?_))))
   refine x8 rfl (fun h104=> ?_) (fun h104=> ?_)
   ·
    refine xh2 (xa5 (xb3 (xf7 ?_)))
    refine xb6 ?_
    refine R1 x5 rfl (R1 x5 rfl (R1 x5 rfl (R1 x5 rfl (R2 (x6 sl79 ((e.toNat)) (by omega) (xp8 (by omega))) rfl rfl (R1 (xh5 ti4) rfl (R1 xi1 rfl (R2 (xa4 sl79 (by omega) (by omega) rfl) rfl rfl ?_)))))))
    refine RE (xc9 ((e.toNat)) ti4 (rV_lt (by rw [xg4];omega)) (by omega) (xk5 (f:=tB) (m:= !(mkF (wkR l) a b) (e.toNat)) rfl)) ⟨rfl,rfl,trivial⟩ ⟨rfl,trivial⟩ trivial (xb4 (by kernel_rfl) (xj7 (xa5 ?_)))
    refine xb6 ?_
    refine R1 x5 rfl (R2 (xc8 (wr64 (by omega) (by omega))) rfl rfl (R1 xa8 rfl (xb4 (by kernel_rfl) ?_)))
    exact kF (e+1) ⟨⟨by omega,by omega⟩,(by omega)⟩ (hh:=((SubK.consI rfl (ImpK.of (by rw [←mkF_set (d:=e.toNat) (by omega) (by omega)]))) SubK.nil))
   ·
    refine xn6 (xi6 (xi6 (K_exB (xa5 (xb3 ?_)))))
    have hee:(mkF (fun d=> !(mkF (wkR l) a b) d) (fsM (mkF (wkR l) a b) 65536).1 e)=(mkF (fun d=> !(mkF (wkR l) a b) d) (fsM (mkF (wkR l) a b) 65536).1 ((fsM (mkF (wkR l) a b) 65536).2+1)):=by
     by_cases hab:e=(fsM (mkF (wkR l) a b) 65536).2+1
     ·rw [hab]
     ·rw [mkF_0 (show e≤(fsM (mkF (wkR l) a b) 65536).1 by omega),mkF_0 (show (fsM (mkF (wkR l) a b) 65536).2+1≤(fsM (mkF (wkR l) a b) 65536).1 by omega)]
    refine C_key (k:=23) (e':=⟨4,1,false,rV tB (rowD (mkF (fun d=> !(mkF (wkR l) a b) d) (fsM (mkF (wkR l) a b) 65536).1 ((fsM (mkF (wkR l) a b) 65536).2+1)))⟩) rfl (by rw [hee]) ?_
    refine xb6 ?_
    refine RE (xg3 (f:=tB) (xs:=rowD (mkF (fun d=> !(mkF (wkR l) a b) d) (fsM (mkF (wkR l) a b) 65536).1 ((fsM (mkF (wkR l) a b) 65536).2+1))) (fun _ h=>h) (xi4 (by rw [xg4];omega)) (by rw [xg4];omega)) ⟨rfl,trivial⟩ ⟨rfl,trivial⟩ trivial (R1 (x3 (c_R4Set (mkF (fun d=> !(mkF (wkR l) a b) d) (fsM (mkF (wkR l) a b) 65536).1 ((fsM (mkF (wkR l) a b) 65536).2+1))) fi48 rfl) rfl (R1 xa8 rfl (R1 xa8 rfl (xb4 (by kernel_rfl) (xa5 (C_ret ?_))))))
    exact xc3 Plain.mk' rfl rfl rfl (Le.of (by rw [if_pos hk,breaks_R (wkd_set hk1.1 (by omega) (by omega)).1 (fun d _=>wk_mem hk1.1 (by omega) (by omega) d)])) (Le.int (by rw [if_pos hk]))
theorem c_R8Periods (l:List Tst) (hl:l.length≤500000) (a b d:Int) (hD: ∀s∈l,s.v.f.dig) (hs: ∀s∈l,s.v.f.n.l.length≤1048576∧s.v.f.d.l.length≤1048576):
  Ct Tryz.prog 22 [tL 8 true tTs l,tI a,tI b,tI d] (tT [tL 2 true tSn (if askB l a b=true∧sVal (wkd l a b)=true∧0≤d then brg d (wkd l a b) else []),tI (if askB l a b=true∧sVal (wkd l a b)=true∧0≤d then 0 else 2)]):=by
 refine Ct.intro Tryz.func22 rfl Tryz.ntmps22 rfl ?_
 intro w F
 refine A11 ?_
 refine R3 (x3 (c_R8Worked l hl a b hD hs) fi20 rfl) rfl rfl rfl ?_
 refine A14 ?_
 refine x8 rfl (fun h113=> ?_) (fun h113=> ?_)
 ·
  have hk: ¬askB l a b=true:=fun h=>by rw [if_pos h] at h113;exact h113 rfl
  refine A9 ?_
  exact xc3 Plain.mk' rfl rfl rfl (leNil (by rw [if_neg (fun h=>hk h.1)])) (Le.int (by rw [if_neg hk,if_neg (fun h=>hk h.1)]))
 ·
  have hk0:askB l a b=true:=by
   by_cases h:askB l a b=true
   ·exact h
   ·rw [if_neg h] at h113;exact absurd (by decide) h113
  refine A6 ?_
  refine R2 (x3 (c_R4Bridge (if askB l a b=true then wkd l a b else []) d) fi50 rfl) rfl rfl ?_
  refine A7 ?_
  exact xc3 Plain.mk' rfl rfl rfl (Le.of (by rw [if_pos hk0];by_cases hs:sVal (wkd l a b)=true∧0≤d <;> simp [hk0,hs])) (Le.int (by rw [if_pos hk0];by_cases hs:sVal (wkd l a b)=true∧0≤d <;> simp [hk0,hs]))
end An.S
