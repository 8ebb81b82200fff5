/- Part 4 of a proof: S7, Tl3, S8, Sv, Tv, Tv2, Tv3, LibZe, LibZd, Tw, LibZf, P1, Gs, Tx, Chg, Chg2a, Ty, LibZc, P2, LibZg, P3, P4, Stab, Stab2, Stab3, Fa, F1, F2, LibKn, Cal, Sal, Fv, LibSt, F3, LibMa, LibMb, LibMs, Fv2, LibAp, LibAq, LibAr, LibAs, F4, F5, Ft, LibLx, LibN2, LibAt, LibAw, LibRn, F6, Fl, F7, Fx, Me, E1, Me2, LibGv. -/
import Derived.Shelf.Sort.Plain
import Derived.Shelf.Slices.In.SortNone
import Derived.Shelf.Slices.CompactI
import Derived.Laws.Strings2
import Derived.Laws.IdiomStrings
import Derived.Maps.RangeRun
import Derived.MapKept
import Derived.Carry
import Derived.Test.YtolafhboabhenaaGreatA3
set_option maxHeartbeats 4000000
set_option maxRecDepth 100000
namespace An.S
open Go Go.Proofs An
instance fi16:FnI Tryz.prog 16:=⟨_,Tryz.func16,by kernel_rfl,rfl⟩
instance fi135:FnI Tryz.prog 135:=⟨_,Tryz.func135,by kernel_rfl,rfl⟩
instance fi136:FnI Tryz.prog 136:=⟨_,Tryz.func136,by kernel_rfl,rfl⟩
instance fi173:FnI Tryz.prog 173:=⟨_,Tryz.func173,by kernel_rfl,rfl⟩
theorem el69:ElI Tryz.prog 69 8 96 true (.agg #[.int .i64 0,.int .i64 0,.int .u8 0,.bool false,.slice none 0 0,.bool false,.slice none 0 0,.int .i64 0]):=⟨ti69,by kernel_rfl,by kernel_rfl⟩
theorem bu69:BuI Tryz.prog 69 (fun i=>[(0,1),(1,1),(2,6)][i]?) (.agg #[.int .i64 0,.int .i64 0,.int .u8 0,.bool false,.slice none 0 0,.bool false,.slice none 0 0,.int .i64 0]):=BuI.struct Tryz.underlying69 (by kernel_rfl) (by kernel_rfl)
theorem zf69:Flat 8 true (.agg #[.int .i64 0,.int .i64 0,.int .u8 0,.bool false,.slice none 0 0,.bool false,.slice none 0 0,.int .i64 0]):=xo1 (by intro u hu;simp at hu;rcases hu with rfl | rfl | rfl | rfl | rfl | rfl | rfl | rfl <;> rfl)
def sOkA (l:List Sn) (i:Nat):Bool:=(l.getD i sn0).ok && decide ((l.getD i sn0).lo≠(l.getD i sn0).hi) && (decide (i=0) || decide ((l.getD (i - 1) sn0).hi < (l.getD i sn0).lo))
def sVal (l:List Sn):Bool:=(List.range l.length).all (sOkA l)
theorem xr4 {l:List Sn} {i:Nat}:sOkA l i=true↔(l.getD i sn0).ok=true/\(l.getD i sn0).lo≠(l.getD i sn0).hi/\(i=0∨(l.getD (i - 1) sn0).hi < (l.getD i sn0).lo):=by
 simp only [sOkA,Bool.and_eq_true,Bool.or_eq_true,decide_eq_true_eq,and_assoc]
theorem sVal_at {l:List Sn} {i:Nat} (h:sVal l=true) (hi:i < l.length):0<=(l.getD i sn0).lo/\(l.getD i sn0).lo < (l.getD i sn0).hi/\(l.getD i sn0).hi<=65536:=by
 have h1:=xr4.1 (List.all_eq_true.1 h i (List.mem_range.2 hi))
 simp only [Sn.ok,Bool.and_eq_true,decide_eq_true_eq] at h1
 omega
theorem c_paste (zs ps:List Tst) (hz:zs.length<=1000000) (hp:ps.length<=1000000) (hD: ∀s∈ps,s.v.f.n.l.length<=1000000/\s.v.f.d.l.length<=1000000):
  CtG Tryz.prog 136 [(1,⟨69,8,true,rV tTs zs⟩)] [.own (.sl 1 8 0 zs.length),.val (tL 8 true tTs ps)] (.own (.sl 90 8 0 (pst zs ps).length)) [(90,⟨69,8,true,rV tTs (pst zs ps)⟩)] [90]:=by
 refine CtG.intro [1] Tryz.func136 rfl Tryz.ntmps136 rfl rfl ⟨⟨rfl,xa5⟩,trivial⟩ ?_
 intro w F η
 refine C_renS (t:=0) (k:=1) 90 rfl rfl rfl ?_
 refine A14 ?_
 refine cL (fun (fm:(Nat)×(List Tst))=>(fun (i:Nat) (xs:List Tst)=>i<=ps.length/\xs=pst zs (ps.take i)) fm.1 fm.2) (wB fun (i:Nat) (xs:List Tst)=>uV (uV (uV (uO uN 0 (.sl 90 8 0 xs.length)) 8 (tL 8 true tTs ps)) 9 (tI ps.length)) 10 (tI i)) (wB fun (i:Nat) (xs:List Tst)=>uK uN 90 69 8 true (rV tTs xs)) [90,1] (fun (fm:(Nat)×(List Tst))=>(fun (i:Nat) (xs:List Tst)=>ps.length - i) fm.1 fm.2) ((0,zs)) (by dsimp only;exact ⟨Nat.zero_le _,rfl⟩) ?_
 intro fm hI
 obtain ⟨i,xs⟩:=fm
 replace hI:i<=ps.length/\xs=pst zs (ps.take i):=hI
 show wc _ _ _ _ (uV (uV (uV (uO uN 0 (.sl 90 8 0 xs.length)) 8 (tL 8 true tTs ps)) 9 (tI ps.length)) 10 (tI i)) (uK uN 90 69 8 true (rV tTs xs)) _
 obtain ⟨hi,hx⟩:=hI
 have hxl:xs.length<=zs.length+i:=by
  have h:=pst_len (ps.take i) zs
  rw [<-hx,List.length_take] at h;omega
 refine A6 ?_
 refine x6 rfl (fun h68=> ?_) (fun h68=> ?_)
 ·
  refine A6 ?_
  refine R2 (x4 sl44 (i) (by omega) (gD (l:=ps) (n:=i) (d:=tst0) (by omega))) rfl rfl ?_
  refine A1 ?_
  refine RE (x7 (k:=6) (n:=8) (agg:=true) zr69.1 zr69.2 rfl) trivial trivial qA ?_
  refine A13 ?_
  refine x6 rfl (fun h69=> ?_) (fun h69=> ?_)
  ·
   refine A8 ?_
   exact kF ((i+1,xs)) ⟨(by dsimp only;exact ⟨by omega,by rw [xs1 _ (by omega),<-hx,pst1,if_pos (by omega)]⟩),(by dsimp only;omega)⟩
  ·
   refine A14 ?_
   refine RGcaseD (t:=23) rfl (fun h72=> ?_) (fun h72=> ?_)
   ·
    refine A2 ?_
    refine Rg (decide_eq_true h72) rfl (xd6 (wr64 (by omega) (by omega))) rfl qB (Rg (decide_eq_true h72) rfl (xa2 sl44 (by omega) (by omega) rfl) rfl qB ?_)
    refine A1 ?_
    refine RGon (decide_eq_true h72) rfl (xj6 (es:=8) (o:=1) (xs.length - 1) ti3 (xc4 (d:=tst0) (by omega)) (At.g 1 rfl rfl) (by omega)) rfl qA qA trivial ?_
    refine A5 ?_
    refine RGcaseD (t:=34) rfl (fun h72_2=> ?_) (fun h72_2=> ?_)
    ·
     refine A2 ?_
     refine Rg (decide_eq_true h72_2) rfl (xd6 (wr64 (by omega) (by omega))) rfl qB (Rg (decide_eq_true h72_2) rfl (xa2 sl44 (by omega) (by omega) rfl) rfl qB ?_)
     refine A1 ?_
     refine RGon (decide_eq_true h72_2) rfl (xj6 (es:=8) (o:=2) (xs.length - 1) ti51 (xc4 (d:=tst0) (by omega)) (At.g 2 rfl rfl) (by omega)) rfl qA qA trivial ?_
     refine A2 ?_
     refine Rg (decide_eq_true h72_2) rfl (x3 (c_TSame _ _) fi56 rfl) rfl qB ?_
     refine A3 ?_
     refine x6 rfl (fun h72_3=> ?_) (fun h72_3=> ?_)
     ·
      refine A6 ?_
      refine R2 (xa2 sl44 (by omega) (by omega) rfl) rfl rfl ?_
      refine A1 ?_
      refine RE (xj2 (es:=8) (o:=1) (t2:=tTs ⟨(xs.getD (xs.length - 1) tst0).lo,(ps.getD i tst0).hi,(xs.getD (xs.length - 1) tst0).v⟩) (xs.length - 1) ti3 (xc4 (d:=tst0) (by omega)) (Up.g 1 rfl rfl rfl) (by omega) (xi3 rfl)) qB qA trivial ?_
      refine A7 ?_
      exact kF ((i+1,(xs.set (xs.length - 1) ⟨(xs.getD (xs.length - 1) tst0).lo,(ps.getD i tst0).hi,(xs.getD (xs.length - 1) tst0).v⟩))) ⟨(by dsimp only;exact ⟨by omega,by rw [xs1 _ (by omega),<-hx,pst1,if_neg (by omega),if_pos ⟨by omega,by omega,h72_3⟩]⟩),(by dsimp only;omega)⟩ (hg:=(sI (sI (sC ((Sub.consI rfl (Imp.of (by dsimp only;rw [List.length_set]))) Sub.nil)))))
     ·
      refine A8 ?_
      refine R1 (x3 (c_copied _ (hD _ (xi0 (l:=ps) (by omega))).1 (hD _ (xi0 (l:=ps) (by omega))).2) fi173 rfl) rfl (R3 (xb0 (r:=tS [⟨1,false,tI (ps.getD i tst0).lo⟩,⟨1,false,tI (ps.getD i tst0).hi⟩,⟨6,true,tVa (ps.getD i tst0).v⟩]) (ts:=[(0,tI (ps.getD i tst0).lo),(1,tI (ps.getD i tst0).hi),(2,tVa (ps.getD i tst0).v)]) bu69 zr69.2 (Bc 0 rfl rfl rfl (Bc 1 rfl rfl rfl (Bc 2 rfl rfl rfl Le.refl)))) rfl rfl rfl (R1 (xb5 (n:=1) (f:=tTs) [(ps.getD i tst0)] Tryz.underlying44 el69 zf69 rfl (fun _=>inferInstance) rfl rfl rfl) rfl (RE (xb3 (k:=90) (k':=62) (f:=tTs) (ys:=[(ps.getD i tst0)]) (ts':=rV tTs (xs++[(ps.getD i tst0)])) Tryz.underlying44 el69 zf69 rfl rfl (fun _=>inferInstance) xd2 (by simp;omega) (by simp;omega) (by simp [rV]) (n':=xs.length+1) rfl) qB qA qA ?_)))
      refine A8 ?_
      exact xc6 (l:=[90,1]) (fun j=>cond (Nat.beq j 90) 62 (j)) ((i+1,xs++[(ps.getD i tst0)])) ⟨(by dsimp only;exact ⟨by omega,by rw [xs1 _ (by omega),<-hx,pst1,if_neg (by omega),if_neg fun h=>h72_3 h.2.2]⟩),(by dsimp only;omega)⟩ (SubR.int rfl (by first | omega | rfl | (dsimp only;omega)) (SubR.int rfl (by first | omega | rfl | (dsimp only;omega)) (SubR.cons rfl ((SubR.consI rfl (Imp.of (by dsimp only;rw [List.length_append];rfl))) SubR.nil)))) ((SubKR.consI rfl (ImpK.of xa6.symm)) SubKR.nil) (SupG.val (SupG.val (SupG.val (SupG.own rfl SupG.nil)))) (SupH.cons rfl (supJ xa5) SupH.nil) (lkOk rfl) rfl rfl (fun _ h=>by cases h)
    ·
     refine A18 ?_
     refine A3 ?_
     refine R1 (x3 (c_copied _ (hD _ (xi0 (l:=ps) (by omega))).1 (hD _ (xi0 (l:=ps) (by omega))).2) fi173 rfl) rfl (R3 (xb0 (r:=tS [⟨1,false,tI (ps.getD i tst0).lo⟩,⟨1,false,tI (ps.getD i tst0).hi⟩,⟨6,true,tVa (ps.getD i tst0).v⟩]) (ts:=[(0,tI (ps.getD i tst0).lo),(1,tI (ps.getD i tst0).hi),(2,tVa (ps.getD i tst0).v)]) bu69 zr69.2 (Bc 0 rfl rfl rfl (Bc 1 rfl rfl rfl (Bc 2 rfl rfl rfl Le.refl)))) rfl rfl rfl (R1 (xb5 (n:=1) (f:=tTs) [(ps.getD i tst0)] Tryz.underlying44 el69 zf69 rfl (fun _=>inferInstance) rfl rfl rfl) rfl (RE (xb3 (k:=90) (k':=62) (f:=tTs) (ys:=[(ps.getD i tst0)]) (ts':=rV tTs (xs++[(ps.getD i tst0)])) Tryz.underlying44 el69 zf69 rfl rfl (fun _=>inferInstance) xd2 (by simp;omega) (by simp;omega) (by simp [rV]) (n':=xs.length+1) rfl) qB qA qA ?_)))
     refine A8 ?_
     exact xc6 (l:=[90,1]) (fun j=>cond (Nat.beq j 90) 62 (j)) ((i+1,xs++[(ps.getD i tst0)])) ⟨(by dsimp only;exact ⟨by omega,by rw [xs1 _ (by omega),<-hx,pst1,if_neg (by omega),if_neg (by omega)]⟩),(by dsimp only;omega)⟩ (SubR.int rfl (by first | omega | rfl | (dsimp only;omega)) (SubR.int rfl (by first | omega | rfl | (dsimp only;omega)) (SubR.cons rfl ((SubR.consI rfl (Imp.of (by dsimp only;rw [List.length_append];rfl))) SubR.nil)))) ((SubKR.consI rfl (ImpK.of xa6.symm)) SubKR.nil) (SupG.val (SupG.val (SupG.val (SupG.own rfl SupG.nil)))) (SupH.cons rfl (supJ xa5) SupH.nil) (lkOk rfl) rfl rfl (fun _ h=>by cases h)
   ·
    refine A18 ?_
    refine A14 ?_
    refine R1 (x3 (c_copied _ (hD _ (xi0 (l:=ps) (by omega))).1 (hD _ (xi0 (l:=ps) (by omega))).2) fi173 rfl) rfl (R3 (xb0 (r:=tS [⟨1,false,tI (ps.getD i tst0).lo⟩,⟨1,false,tI (ps.getD i tst0).hi⟩,⟨6,true,tVa (ps.getD i tst0).v⟩]) (ts:=[(0,tI (ps.getD i tst0).lo),(1,tI (ps.getD i tst0).hi),(2,tVa (ps.getD i tst0).v)]) bu69 zr69.2 (Bc 0 rfl rfl rfl (Bc 1 rfl rfl rfl (Bc 2 rfl rfl rfl Le.refl)))) rfl rfl rfl (R1 (xb5 (n:=1) (f:=tTs) [(ps.getD i tst0)] Tryz.underlying44 el69 zf69 rfl (fun _=>inferInstance) rfl rfl rfl) rfl (RE (xb3 (k:=90) (k':=62) (f:=tTs) (ys:=[(ps.getD i tst0)]) (ts':=rV tTs (xs++[(ps.getD i tst0)])) Tryz.underlying44 el69 zf69 rfl rfl (fun _=>inferInstance) xd2 (by simp;omega) (by simp;omega) (by simp [rV]) (n':=xs.length+1) rfl) qB qA qA ?_)))
    refine A8 ?_
    exact xc6 (l:=[90,1]) (fun j=>cond (Nat.beq j 90) 62 (j)) ((i+1,xs++[(ps.getD i tst0)])) ⟨(by dsimp only;exact ⟨by omega,by rw [xs1 _ (by omega),<-hx,pst1,if_neg (by omega),if_neg (by omega)]⟩),(by dsimp only;omega)⟩ (SubR.int rfl (by first | omega | rfl | (dsimp only;omega)) (SubR.int rfl (by first | omega | rfl | (dsimp only;omega)) (SubR.cons rfl ((SubR.consI rfl (Imp.of (by dsimp only;rw [List.length_append];rfl))) SubR.nil)))) ((SubKR.consI rfl (ImpK.of xa6.symm)) SubKR.nil) (SupG.val (SupG.val (SupG.val (SupG.own rfl SupG.nil)))) (SupH.cons rfl (supJ xa5) SupH.nil) (lkOk rfl) rfl rfl (fun _ h=>by cases h)
 ·
  refine A6 ?_
  have hil:i=ps.length:=by omega
  subst hil
  rw [List.take_length] at hx
  subst hx
  refine A6 ?_
  exact xc5 LentC.mk' rfl rfl Imp.refl qA rfl ⟨⟨rfl,xa5⟩,trivial⟩ rfl
theorem getD_map {f:Tst->Tst} {l:List Tst} {i:Nat} (hi:i < l.length):(l.map f).getD i tst0=f (l.getD i tst0):=by
 rw [List.getD_eq_getElem?_getD,List.getD_eq_getElem?_getD,List.getElem?_map,List.getElem?_eq_getElem hi];rfl
theorem cut_next {a b:Int} {l:List Tst} {i:Nat} (hi:i < l.length):pst [] ((l.map (clip a b)).take (i+1))=pst (pst [] ((l.map (clip a b)).take i)) [clip a b (l.getD i tst0)]:=by
 rw [xs1 _ (by simpa using hi),getD_map hi];rfl
theorem c_Cut (l:List Tst) (a b:Int) (hl:l.length<=500000) (hD: ∀s∈l,s.v.f.dig):
  Ct Tryz.prog 79 [tL 8 true tTs l,tI a,tI b] (tT [tL 8 true tTs (if tRight l=true/\Sn.ok ⟨a,b⟩=true then cutT l a b else []),tI (if tRight l=true/\Sn.ok ⟨a,b⟩=true then 0 else 2)]):=by
 refine Ct.intro Tryz.func79 rfl Tryz.ntmps79 rfl ?_
 intro w F
 refine A10 ?_
 refine R1 (x3 (c_TRight l hD) fi16 rfl) rfl ?_
 refine A2 ?_
 refine RGcase (t:=14) rfl (fun h95=> ?_) (fun h95=> ?_)
 ·
  refine A16 ?_
  exact E2 rfl rfl rfl (leNil (by rw [if_neg fun h=>by rw [h.1] at h95;cases h95])) (Le.int (by rw [if_neg fun h=>by rw [h.1] at h95;cases h95]))
 ·
  refine A2 ?_
  refine Rg h95 rfl (x3 (c_isPart _ _) fi135 rfl) rfl qB ?_
  refine A4 ?_
  refine xc2 rfl (fun h95_2=> ?_) (fun h95_2=> ?_)
  ·
   refine A8 ?_
   exact E2 rfl rfl rfl (leNil (by rw [if_neg fun h=>by rw [h.2] at h95_2;cases h95_2])) (Le.int (by rw [if_neg fun h=>by rw [h.2] at h95_2;cases h95_2]))
  ·
   refine A4 ?_
   refine RE (xe3 (k:=8) 69 8 true rfl (fun h=>by cases h)) trivial trivial qA ?_
   refine A11 ?_
   have hok:tRight l=true/\Sn.ok ⟨a,b⟩=true:=⟨by simpa using h95,by simpa using h95_2⟩
   have hlen:=fun s hs=>va_len (tRight_valid hok.1 s hs)
   refine cL (fun (fm:(Nat)×(List Tst))=>(fun (i:Nat) (zs:List Tst)=>i<=l.length/\zs=pst [] ((l.map (clip a b)).take i)) fm.1 fm.2) (wB fun (i:Nat) (zs:List Tst)=>uV (uV (uV (uO (uV (uV uN 1 (tI a)) 2 (tI b)) 8 (.sl 8 8 0 zs.length)) 20 (tL 8 true tTs l)) 21 (tI l.length)) 22 (tI i)) (wB fun (i:Nat) (zs:List Tst)=>uK uN 8 69 8 true (rV tTs zs)) [8] (fun (fm:(Nat)×(List Tst))=>(fun (i:Nat) (zs:List Tst)=>l.length - i) fm.1 fm.2) ((0,[])) (by dsimp only;exact ⟨Nat.zero_le _,rfl⟩) ?_
   intro fm hI
   obtain ⟨i,zs⟩:=fm
   replace hI:i<=l.length/\zs=pst [] ((l.map (clip a b)).take i):=hI
   show wc _ _ _ _ (uV (uV (uV (uO (uV (uV uN 1 (tI a)) 2 (tI b)) 8 (.sl 8 8 0 zs.length)) 20 (tL 8 true tTs l)) 21 (tI l.length)) 22 (tI i)) (uK uN 8 69 8 true (rV tTs zs)) _
   obtain ⟨hi,hz⟩:=hI
   have hzl:zs.length<=i:=by
    have h:=pst_len ((l.map (clip a b)).take i) []
    rw [<-hz,List.length_take] at h;simp at h;omega
   refine A6 ?_
   refine x6 rfl (fun h99=> ?_) (fun h99=> ?_)
   ·
    refine A6 ?_
    refine R2 (x4 sl44 (i) (by omega) (gD (l:=l) (n:=i) (d:=tst0) (by omega))) rfl rfl ?_
    refine A1 ?_
    refine RE (x7 (k:=10) (n:=8) (agg:=true) zr69.1 zr69.2 rfl) trivial trivial qA ?_
    refine A8 ?_
    refine R2 d_max2 rfl rfl ?_
    refine A3 ?_
    refine R2 d_min2 rfl rfl ?_
    refine A2 ?_
    refine R3 (xb0 (r:=tS [⟨1,false,tI (max (l.getD i tst0).lo a)⟩,⟨1,false,tI (min (l.getD i tst0).hi b)⟩,⟨6,true,tVa (l.getD i tst0).v⟩]) (ts:=[(0,tI (max (l.getD i tst0).lo a)),(1,tI (min (l.getD i tst0).hi b)),(2,tVa (l.getD i tst0).v)]) bu69 zr69.2 (Bc 0 rfl rfl rfl (Bc 1 rfl rfl rfl (Bc 2 rfl rfl rfl Le.refl)))) rfl rfl rfl (R1 (xb5 (n:=1) (f:=tTs) [(clip a b (l.getD i tst0))] Tryz.underlying44 el69 zf69 rfl (fun _=>inferInstance) rfl rfl rfl) rfl ?_)
    have hcl: ∀s∈[(clip a b (l.getD i tst0))],s.v.f.n.l.length<=1000000/\s.v.f.d.l.length<=1000000:=by
     intro s hs
     rw [List.mem_singleton.1 hs]
     have h:=hlen _ (xi0 (l:=l) (i:=i) (by omega))
     exact ⟨by show (l.getD i tst0).v.f.n.l.length<=_;omega,by show (l.getD i tst0).v.f.d.l.length<=_;omega⟩
    refine RE (xb7 (fun j=>cond (Nat.beq j 1) 8 (39)) (c_paste zs [(clip a b (l.getD i tst0))] (by omega) (by simp) hcl) fi136 rfl (krC (ρ:=fun j=>cond (Nat.beq j 1) 8 (39)) (k:=1) xa6 (krN (ρ:=fun j=>cond (Nat.beq j 1) 8 (39)))) (krC (ρ:=fun j=>cond (Nat.beq j 1) 8 (39)) (k:=90) xa6 (krN (ρ:=fun j=>cond (Nat.beq j 1) 8 (39)))) ⟨⟨rfl,xa5⟩,trivial⟩ rfl) qB qA qA ?_
    refine A8 ?_
    exact xc6 (l:=[8]) (fun j=>cond (Nat.beq j 8) 39 (j)) ((i+1,pst zs [(clip a b (l.getD i tst0))])) ⟨(by dsimp only;exact ⟨by omega,by rw [cut_next (by omega),<-hz]⟩),(by dsimp only;omega)⟩ (SubR.int rfl (by first | omega | rfl | (dsimp only;omega)) (SubR.int rfl (by first | omega | rfl | (dsimp only;omega)) (SubR.cons rfl (SubR.cons rfl (SubR.int rfl (by first | omega | rfl | (dsimp only;omega)) (SubR.int rfl (by first | omega | rfl | (dsimp only;omega)) SubR.nil)))))) ((SubKR.consI rfl (ImpK.of xa6.symm)) SubKR.nil) (SupG.val (SupG.val (SupG.val (SupG.own rfl (SupG.val (SupG.val SupG.nil)))))) (SupH.cons rfl (supJ xa5) SupH.nil) (lkOk rfl) rfl rfl (fun _ h=>by cases h)
   ·
    refine A8 ?_
    refine RE (xk0 (f:=tTs) (xs:=zs) (fun _ h=>h) (xg2 rfl) rfl) qA qA trivial ?_
    refine A4 ?_
    exact E2 rfl rfl rfl (Le.of (by rw [if_pos hok,hz,cutT,show i=(l.map (clip a b)).length by simp;omega,List.take_length])) (Le.int (by rw [if_pos hok]))
end An.S
namespace An
open Go
theorem pst_all {P:Tst->Prop} (hset: ∀a s,P a->P s->a.hi=s.lo->P ⟨a.lo,s.hi,a.v⟩): ∀(ps acc:List Tst),(∀s∈acc,P s)->(∀s∈ps,s.lo < s.hi->P s)-> ∀s∈pst acc ps,P s
 | [],acc,ha,_=>ha
 | s::r,acc,ha,hp=>by
  refine pst_all hset r (pst1 acc s) ?_ fun x hx=>hp x (List.mem_cons_of_mem _ hx)
  intro x hx
  rw [pst1] at hx
  split at hx
  ·exact ha x hx
  ·rename_i h1
   split at hx
   ·rename_i h2
    rcases List.mem_or_eq_of_mem_set hx with h | h
    ·exact ha x h
    ·subst h
     exact hset _ s (ha _ (xi0 (by omega))) (hp s (List.mem_cons_self ..) (by omega)) h2.2.1
   ·rcases List.mem_append.1 hx with h | h
    ·exact ha x h
    ·rw [List.mem_singleton.1 h];exact hp s (List.mem_cons_self ..) (by omega)
theorem xt7 {l:List Tst} (h:tRight l=true) {i:Nat} (hi:i < l.length):0<=(l.getD i tst0).lo/\(l.getD i tst0).lo < (l.getD i tst0).hi/\(l.getD i tst0).hi<=65536/\(i=0∨(l.getD (i - 1) tst0).hi<=(l.getD i tst0).lo/\(l.getD (i - 1) tst0).v.kind=(l.getD i tst0).v.kind/\ ¬((l.getD (i - 1) tst0).hi=(l.getD i tst0).lo/\(l.getD (i - 1) tst0).v=(l.getD i tst0).v)):=by
 simp only [tRight,Bool.and_eq_true,List.all_eq_true] at h
 exact tOk_iff.1 (h.1 i (List.mem_range.2 hi))
theorem xv0 {l:List Tst} {s:Tst} (hs:s∈l): ∃i,i < l.length/\s=l.getD i tst0:=by
 obtain ⟨i,hi,e⟩:=List.getElem_of_mem hs
 exact ⟨i,hi,by rw [List.getD_eq_getElem?_getD,List.getElem?_eq_getElem hi];exact e.symm⟩
def numK (l:List Tst):Prop:=l.length=0∨(l.getD 0 tst0).v.kind=2∨(l.getD 0 tst0).v.kind=3
instance (l:List Tst):Decidable (numK l):=inferInstanceAs (Decidable (_∨_))
def sumC (l:List Tst) (a b:Int):Prop:=(tRight l=true/\Sn.ok ⟨a,b⟩=true)/\numK l
instance (l:List Tst) (a b:Int):Decidable (sumC l a b):=inferInstanceAs (Decidable (_/\_))
end An
namespace An.S
open Go Go.Proofs An
end An.S
namespace An.S
open Go
theorem tRight_iff {l:List Tst}:tRight l=true↔(∀i,i < l.length->tOk l i=true)/\ ∀s∈l,s.v.valid=true:=by
 simp only [tRight,Bool.and_eq_true,List.all_eq_true,List.mem_range]
theorem tRight_lt {l:List Tst} (h:tRight l=true): ∀{j i:Nat},i < j->j < l.length->(l.getD i tst0).hi<=(l.getD j tst0).lo
 | j+1,i,hij,hj=>by
  have h1:=(xt7 h hj).2.2.2.resolve_left (by omega)
  have h1:(l.getD j tst0).hi<=(l.getD (j+1) tst0).lo:=h1.1
  rcases Nat.lt_or_ge i j with h2 | h2
  ·have h3:=tRight_lt h h2 (by omega)
   have h4:=(xt7 h (i:=j) (by omega)).2.1
   omega
  ·have:i=j:=by omega
   subst this;exact h1
theorem tRight_pair {l:List Tst} (h:tRight l=true):l.Pairwise fun s t=>s.hi<=t.lo:=by
 refine List.pairwise_iff_getElem.2 fun i j hi hj hij=> ?_
 have:=tRight_lt h hij hj
 rwa [List.getD_eq_getElem?_getD,List.getD_eq_getElem?_getD,List.getElem?_eq_getElem hi,List.getElem?_eq_getElem hj] at this
def okS (s:Sn):Prop:=0<=s.lo/\s.lo < s.hi/\s.hi<=65536
def ascS (l:List Sn):Prop:=(∀s∈l,okS s)/\l.Pairwise fun s t=>s.hi<=t.lo
theorem ascS_pos {l:List Sn} (h:ascS l):l.filter pos=l:=List.filter_eq_self.2 fun s hs=>by
 have:=h.1 s hs
 simp only [pos,decide_eq_true_eq];exact this.2.1
theorem ascS_srt {l:List Sn} (h:ascS l):srt cfSn l=l:=by
 refine srt_asc swoSn ?_
 refine List.pairwise_iff_forall_sublist.2 fun {s t} hst=> ?_
 have h1:=List.pairwise_iff_forall_sublist.1 h.2 hst
 have h2:=(h.1 s (hst.subset (List.mem_cons_self ..))).2.1
 rw [ltSn];simp;omega
theorem ascS_ok {l:List Sn} (h:ascS l):l.all Sn.ok=true:=List.all_eq_true.2 fun s hs=>by
 have:=h.1 s hs
 simp only [Sn.ok,Bool.and_eq_true,decide_eq_true_eq];simp only [okS] at this;omega
def lastS (l:List Sn):Sn:=l.getD (l.length - 1) sn0
theorem sVal_iff {l:List Sn}:sVal l=true↔ ∀i,i < l.length->sOkA l i=true:=by
 simp only [sVal,List.all_eq_true,List.mem_range]
theorem xu4 {l:List Sn} {s:Sn} {i:Nat}:(l++[s]).getD i sn0=if i < l.length then l.getD i sn0 else if i=l.length then s else sn0:=by
 simp only [List.getD_eq_getElem?_getD,List.getElem?_append]
 by_cases h:i < l.length
 ·simp [h]
 ·by_cases h2:i=l.length
  ·simp [h2]
  ·have:i - l.length≠0:=by omega
   simp only [h,h2,if_false]
   rw [List.getElem?_eq_none (by simp;omega)];rfl
theorem getD_setS {l:List Sn} {s:Sn} {i j:Nat} (hj:j < l.length):(l.set j s).getD i sn0=if i=j then s else l.getD i sn0:=by
 simp only [List.getD_eq_getElem?_getD]
 by_cases h:i=j
 ·subst h;rw [List.getElem?_set_self hj];simp
 ·rw [List.getElem?_set_ne (Ne.symm h)];simp [h]
theorem sVal_snoc {l:List Sn} {s:Sn} (h:sVal l=true) (hs:okS s) (hl:0 < l.length->(lastS l).hi < s.lo):sVal (l++[s])=true:=by
 refine sVal_iff.2 fun i hi=>xr4.2 ?_
 rw [List.length_append,List.length_singleton] at hi
 rw [xu4,xu4]
 by_cases e:i < l.length
 ·have ho:=xr4.1 (sVal_iff.1 h i e)
  rw [if_pos e,if_pos (by omega)];exact ho
 ·have e2:i=l.length:=by omega
  subst e2
  rw [if_neg (by omega),if_pos rfl]
  obtain ⟨h1,h2,h3⟩:=hs
  refine ⟨by simp [Sn.ok];omega,by omega,?_⟩
  by_cases e0:l.length=0
  ·exact .inl e0
  ·rw [if_pos (by omega)];exact .inr (hl (by omega))
theorem sVal_long {l:List Sn} {e:Int} (h:sVal l=true) (hl:0 < l.length) (h1:(lastS l).hi<=e) (h2:e<=65536):sVal (l.set (l.length - 1) ⟨(lastS l).lo,e⟩)=true:=by
 refine sVal_iff.2 fun i hi=>xr4.2 ?_
 rw [List.length_set] at hi
 have ho:=xr4.1 (sVal_iff.1 h i hi)
 rw [getD_setS (by omega),getD_setS (by omega)]
 by_cases e1:i=l.length - 1
 ·subst e1
  have ho1:(lastS l).ok=true/\(lastS l).lo≠(lastS l).hi/\(l.length - 1=0∨(l.getD (l.length - 1 - 1) sn0).hi < (lastS l).lo):=ho
  rw [if_pos rfl]
  have h3:=ho1.1
  simp only [Sn.ok,Bool.and_eq_true,decide_eq_true_eq] at h3
  refine ⟨by simp [Sn.ok];omega,by have:=ho1.2.1;dsimp only;omega,?_⟩
  by_cases e0:l.length - 1=0
  ·exact .inl e0
  ·rw [if_neg (by omega)];exact .inr (ho1.2.2.resolve_left e0)
 ·rw [if_neg e1]
  by_cases e0:i=0
  ·exact ⟨ho.1,ho.2.1,.inl e0⟩
  ·rw [if_neg (by omega)];exact ho
def dayS (l:List Sn):Int:=(l.map fun s=>s.hi - s.lo).sum
theorem dayS_snoc {l:List Sn} {s:Sn}:dayS (l++[s])=dayS l+(s.hi - s.lo):=by simp [dayS]
theorem split_last {l:List Sn} (h:0 < l.length):l=l.take (l.length - 1)++[lastS l]:=by
 have e:l.take (l.length - 1+1)=l.take (l.length - 1)++[l[l.length - 1]]:=List.take_succ_eq_append_getElem (by omega)
 rw [show l.length - 1+1=l.length by omega,List.take_length] at e
 rw [lastS,List.getD_eq_getElem?_getD,List.getElem?_eq_getElem (by omega)];exact e
theorem set_lastE {l:List Sn} {x:Sn} (h:0 < l.length):l.set (l.length - 1) x=l.take (l.length - 1)++[x]:=by
 have e:=List.set_eq_take_append_cons_drop (l:=l) (i:=l.length - 1) (a:=x)
 rw [if_pos (by omega),show l.length - 1+1=l.length by omega,List.drop_length] at e
 exact e
theorem dayS_long {l:List Sn} {e:Int} (h:0 < l.length):dayS (l.set (l.length - 1) ⟨(lastS l).lo,e⟩)=dayS l+(e - (lastS l).hi):=by
 have h1:dayS l=dayS (l.take (l.length - 1))+((lastS l).hi - (lastS l).lo):=by rw [<-dayS_snoc,<-split_last h]
 rw [h1,set_lastE h,dayS_snoc];dsimp only;omega
theorem mrg_asc: ∀(xs acc:List Sn),ascS xs->sVal acc=true->(0 < acc.length-> ∀s∈xs,(lastS acc).hi<=s.lo)->sVal (xs.foldl mrg1 acc)=true/\dayS (xs.foldl mrg1 acc)=dayS acc+dayS xs
 | [],acc,_,hv,_=>⟨hv,by simp [dayS]⟩
 | s::r,acc,hx,hv,hl=>by
  have hs:=hx.1 s (List.mem_cons_self ..)
  have hp:=List.pairwise_cons.1 hx.2
  have hr:ascS r:=⟨fun t ht=>hx.1 t (List.mem_cons_of_mem _ ht),hp.2⟩
  have key:sVal (mrg1 acc s)=true/\dayS (mrg1 acc s)=dayS acc+(s.hi - s.lo)/\0 < (mrg1 acc s).length/\(lastS (mrg1 acc s)).hi=s.hi:=by
   rw [mrg1]
   split
   ·rename_i hm
    have h1:(lastS acc).hi=s.lo:=by have:=hl hm.1 s (List.mem_cons_self ..);have h2:s.lo<=(lastS acc).hi:=hm.2;omega
    have hmax:max (acc.getD (acc.length - 1) sn0).hi s.hi=s.hi:=by
     have h2:(acc.getD (acc.length - 1) sn0).hi=s.lo:=h1
     have:=hs.2.1;omega
    rw [hmax]
    refine ⟨sVal_long hv hm.1 (by have:=hs.2.1;omega) hs.2.2,by rw [show (acc.getD (acc.length - 1) sn0).lo=(lastS acc).lo from rfl,dayS_long hm.1];omega,by rw [List.length_set];exact hm.1,?_⟩
    rw [lastS,List.length_set,getD_setS (by omega),if_pos rfl]
   ·rename_i hm
    refine ⟨sVal_snoc hv hs fun h0=> ?_,by rw [dayS_snoc],by simp,?_⟩
    ·have:=hl h0 s (List.mem_cons_self ..)
     have h2: ¬s.lo<=(lastS acc).hi:=fun h'=>hm ⟨h0,h'⟩
     omega
    ·rw [lastS,xu4,List.length_append,List.length_singleton,if_neg (by omega),if_pos (by omega)]
  have ih:=mrg_asc r (mrg1 acc s) hr key.1 fun _ t ht=>by rw [key.2.2.2];exact hp.1 t ht
  refine ⟨ih.1,?_⟩
  rw [List.foldl_cons,ih.2,key.2.1]
  have:dayS (s::r)=(s.hi - s.lo)+dayS r:=by simp [dayS]
  omega
def hasD (d:Int) (s:Tst):Bool:=decide (s.lo<=d) && decide (d < s.hi)
theorem hasD_iff {d:Int} {s:Tst}:hasD d s=true↔s.lo<=d/\d < s.hi:=by simp [hasD]
def valT (l:List Tst) (d:Int):Option Va:=(l.find? (hasD d)).map (·.v)
theorem xg1 {s:Tst} {r:List Tst} {d:Int}:valT (s::r) d=if s.lo<=d/\d < s.hi then some s.v else valT r d:=by
 by_cases h:s.lo<=d/\d < s.hi
 ·rw [if_pos h,valT,List.find?_cons_of_pos (hasD_iff.2 h)];rfl
 ·rw [if_neg h,valT,List.find?_cons_of_neg (fun h'=>h (hasD_iff.1 h'))];rfl
theorem valT_none {l:List Tst} {d:Int}:valT l d=none↔ ∀s∈l,¬(s.lo<=d/\d < s.hi):=by
 rw [valT,Option.map_eq_none_iff,List.find?_eq_none]
 simp only [hasD_iff]
theorem xs7 {a b:List Tst} {d:Int}:valT (a++b) d=(valT a d).or (valT b d):=by
 rw [valT,List.find?_append,valT,valT]
 cases a.find? (hasD d) <;> rfl
theorem valT_some {l:List Tst} {d:Int} {v:Va} (h:valT l d=some v): ∃s∈l,(s.lo<=d/\d < s.hi)/\s.v=v:=by
 obtain ⟨s,h1,h2⟩:=Option.map_eq_some_iff.1 h
 exact ⟨s,List.mem_of_find?_eq_some h1,hasD_iff.1 (List.find?_some h1),h2⟩
def ascT (l:List Tst):Prop:=(∀s∈l,s.lo < s.hi)/\l.Pairwise fun s t=>s.hi<=t.lo
def nbT:List Tst->Prop
 | []=>True
 | [_]=>True
 | s::t::r=> ¬(s.hi=t.lo/\s.v=t.v)/\nbT (t::r)
theorem nb_snoc {s:Tst}: ∀{l:List Tst} {x:Tst},nbT (l++[x])-> ¬(x.hi=s.lo/\x.v=s.v)->nbT (l++[x]++[s])
 | [],_,_,h=>⟨h,trivial⟩
 | [_],_,h1,h=>⟨h1.1,h,trivial⟩
 | _::z::r,_,h1,h=>⟨h1.1,nb_snoc (l:=z::r) h1.2 h⟩
theorem nb_set {x':Tst}: ∀{l:List Tst} {x:Tst},nbT (l++[x])->x'.lo=x.lo->x'.v=x.v->nbT (l++[x'])
 | [],_,_,_,_=>trivial
 | [_],_,h1,e1,e2=>⟨by rw [e1,e2];exact h1.1,trivial⟩
 | _::z::r,_,h1,e1,e2=>⟨h1.1,nb_set (l:=z::r) h1.2 e1 e2⟩
theorem asc_snoc {l:List Tst} {s:Tst} (h:ascT l) (hs:s.lo < s.hi) (hl: ∀x∈l,x.hi<=s.lo):ascT (l++[s]):=by
 refine ⟨fun x hx=> ?_,List.pairwise_append.2 ⟨h.2,List.pairwise_singleton ..,fun x hx y hy=>by rw [List.mem_singleton.1 hy];exact hl x hx⟩⟩
 rcases List.mem_append.1 hx with hx | hx
 ·exact h.1 x hx
 ·rw [List.mem_singleton.1 hx];exact hs
theorem split_lastT {l:List Tst} (h:0 < l.length):l=l.take (l.length - 1)++[l.getD (l.length - 1) tst0]:=by
 have e:l.take (l.length - 1+1)=l.take (l.length - 1)++[l[l.length - 1]]:=List.take_succ_eq_append_getElem (by omega)
 rw [show l.length - 1+1=l.length by omega,List.take_length] at e
 rw [List.getD_eq_getElem?_getD,List.getElem?_eq_getElem (by omega)];exact e
theorem set_lastT {l:List Tst} {x:Tst} (h:0 < l.length):l.set (l.length - 1) x=l.take (l.length - 1)++[x]:=by
 have e:=List.set_eq_take_append_cons_drop (l:=l) (i:=l.length - 1) (a:=x)
 rw [if_pos (by omega),show l.length - 1+1=l.length by omega,List.drop_length] at e
 exact e
theorem pst1_val {acc:List Tst} {s:Tst} (h:ascT acc) (hn:nbT acc) (hs:s.lo < s.hi) (hl: ∀x∈acc,x.hi<=s.lo):ascT (pst1 acc s)/\nbT (pst1 acc s)/\(∀x∈pst1 acc s,x.hi<=s.hi)/\ ∀d,valT (pst1 acc s) d=(valT acc d).or (if s.lo<=d/\d < s.hi then some s.v else none):=by
 have e1: ∀d,valT [s] d=if s.lo<=d/\d < s.hi then some s.v else none:=fun d=>by rw [xg1];rfl
 rw [pst1,if_neg (by omega)]
 split
 ·rename_i hm
  have ea:=split_lastT hm.1
  rw [set_lastT hm.1]
  generalize acc.getD (acc.length - 1) tst0=x at*
  generalize acc.take (acc.length - 1)=q at*
  subst ea
  have hp:=List.pairwise_append.1 h.2
  have hx:=h.1 x (List.mem_append_right _ (List.mem_singleton.2 rfl))
  have hq:ascT q:=⟨fun y hy=>h.1 y (List.mem_append_left _ hy),hp.1⟩
  have hqx: ∀y∈q,y.hi<=x.lo:=fun y hy=>hp.2.2 y hy x (List.mem_singleton.2 rfl)
  refine ⟨asc_snoc hq (by dsimp only;omega) hqx,nb_set hn rfl rfl,fun y hy=> ?_,fun d=> ?_⟩
  ·rcases List.mem_append.1 hy with hy | hy
   ·have:=hqx y hy;omega
   ·rw [List.mem_singleton.1 hy];exact Int.le_refl _
  ·rw [xs7,xs7,xg1,xg1]
   cases hv:valT q d with
   | some v=>rfl
   | none=>
    simp only [Option.none_or]
    have h1:=hm.2.1
    by_cases c1:x.lo<=d/\d < x.hi
    ·rw [if_pos (by omega),if_pos c1];rfl
    ·by_cases c2:s.lo<=d/\d < s.hi
     ·rw [if_pos (by omega),if_neg c1,if_pos c2,hm.2.2];rfl
     ·rw [if_neg (by omega),if_neg c1,if_neg c2];rfl
 ·rename_i hm
  refine ⟨asc_snoc h hs hl,?_,fun y hy=> ?_,fun d=>by rw [xs7,e1]⟩
  ·rcases Nat.eq_zero_or_pos acc.length with h0 | h0
   ·rw [List.eq_nil_of_length_eq_zero h0];trivial
   ·have ea:=split_lastT h0
    have h2: ¬((acc.getD (acc.length - 1) tst0).hi=s.lo/\(acc.getD (acc.length - 1) tst0).v=s.v):=fun h'=>hm ⟨h0,h'.1,h'.2⟩
    rw [ea] at hn ⊢
    exact nb_snoc hn h2
  ·rcases List.mem_append.1 hy with hy | hy
   ·have:=hl y hy;omega
   ·rw [List.mem_singleton.1 hy];exact Int.le_refl _
theorem pst_val: ∀(ps acc:List Tst),ascT acc->nbT acc->(ps.Pairwise fun s t=>s.lo < s.hi->s.hi<=t.lo)->(∀x∈acc,∀s∈ps,s.lo < s.hi->x.hi<=s.lo)->ascT (pst acc ps)/\nbT (pst acc ps)/\ ∀d,valT (pst acc ps) d=(valT acc d).or (valT ps d)
 | [],acc,h,hn,_,_=>⟨h,hn,fun d=>by show valT acc d=_;cases valT acc d <;> rfl⟩
 | s::r,acc,h,hn,hp,hl=>by
  have hp1:=List.pairwise_cons.1 hp
  have e:pst acc (s::r)=pst (pst1 acc s) r:=rfl
  rw [e]
  by_cases hs:s.lo < s.hi
  ·obtain ⟨k1,k2,k3,k4⟩:=pst1_val h hn hs fun x hx=>hl x hx s (List.mem_cons_self ..) hs
   have ih:=pst_val r (pst1 acc s) k1 k2 hp1.2 fun x hx t ht htl=>by
    have:=k3 x hx
    have:=hp1.1 t ht hs;omega
   refine ⟨ih.1,ih.2.1,fun d=> ?_⟩
   rw [ih.2.2,k4,xg1,Option.or_assoc]
   congr 1
   split <;> rfl
  ·have e1:pst1 acc s=acc:=by rw [pst1,if_pos (by omega)]
   rw [e1]
   have ih:=pst_val r acc h hn hp1.2 fun x hx t ht=>hl x hx t (List.mem_cons_of_mem _ ht)
   refine ⟨ih.1,ih.2.1,fun d=> ?_⟩
   rw [ih.2.2,xg1,if_neg (by omega)]
def segL (g:Int->Option Va):List Int->List Tst
 | x::y::r=>(match g x with | some v=>[⟨x,y,v⟩] | none=>[])++segL g (y::r)
 | _=>[]
def cOn (g:Int->Option Va):List Int->Prop
 | x::y::r=>(∀d,x<=d->d < y->g d=g x)/\cOn g (y::r)
 | _=>True
theorem segL_lo {g:Int->Option Va}: ∀{ds:List Int} {x:Int} {s:Tst},(x::ds).Pairwise (· < ·)->s∈segL g (x::ds)->x<=s.lo
 | [],x,s,_,h=>by cases h
 | y::r,x,s,hp,h=>by
  have hp1:=List.pairwise_cons.1 hp
  rw [segL] at h
  rcases List.mem_append.1 h with h | h
  ·cases hg:g x with
   | none=>rw [hg] at h;cases h
   | some v=>rw [hg] at h;rw [List.mem_singleton.1 h];exact Int.le_refl _
  ·have:=segL_lo hp1.2 h
   have:=hp1.1 y (List.mem_cons_self ..);omega
theorem segL_pw {g:Int->Option Va}: ∀{ds:List Int},ds.Pairwise (· < ·)->(∀s∈segL g ds,s.lo < s.hi)/\(segL g ds).Pairwise fun s t=>s.hi<=t.lo
 | [],_=>⟨fun s h=>(by cases h),.nil⟩
 | [x],_=>⟨fun s h=>(by cases h),.nil⟩
 | x::y::r,hp=>by
  have hp1:=List.pairwise_cons.1 hp
  have hxy:=hp1.1 y (List.mem_cons_self ..)
  have ih:=segL_pw (g:=g) hp1.2
  rw [segL]
  cases hg:g x with
  | none=>exact ih
  | some v=>
   refine ⟨fun s h=> ?_,List.pairwise_cons.2 ⟨fun t ht=>segL_lo hp1.2 ht,ih.2⟩⟩
   rcases List.mem_cons.1 h with rfl | h
   ·exact hxy
   ·exact ih.1 s h
theorem segL_val {g:Int->Option Va}: ∀{ds:List Int},ds.Pairwise (· < ·)->cOn g ds->(∀d,(∃x∈ds,x<=d)->(∃y∈ds,d < y)->valT (segL g ds) d=g d)/\ ∀d,((∀x∈ds,d < x)∨ ∀y∈ds,y<=d)->valT (segL g ds) d=none
 | [],_,_=>⟨fun d ⟨x,hx,_⟩=>(by cases hx),fun d _=>rfl⟩
 | [x],_,_=>⟨fun d ⟨a,ha,ha2⟩ ⟨b,hb,hb2⟩=>by rw [List.mem_singleton.1 ha] at ha2;rw [List.mem_singleton.1 hb] at hb2;omega,fun d _=>rfl⟩
 | x::y::r,hp,hc=>by
  have hp1:=List.pairwise_cons.1 hp
  have hp2:=List.pairwise_cons.1 hp1.2
  have hxy:=hp1.1 y (List.mem_cons_self ..)
  have ih:=segL_val (g:=g) hp1.2 hc.2
  have e: ∀d,valT (segL g (x::y::r)) d=if x<=d/\d < y then g x else valT (segL g (y::r)) d:=fun d=>by
   rw [segL]
   cases hg:g x with
   | none=>
    show valT (segL g (y::r)) d=_
    split
    ·rename_i h
     exact valT_none.2 fun s hs h'=>by have:=segL_lo hp1.2 hs;omega
    ·rfl
   | some v=>
    show valT (⟨x,y,v⟩::segL g (y::r)) d=_
    rw [xg1]
  refine ⟨fun d h1 h2=> ?_,fun d h=> ?_⟩
  ·rw [e]
   split
   ·rename_i h;exact (hc.1 d h.1 h.2).symm
   ·rename_i h
    have hxd:x<=d:=by
     obtain ⟨z,hz,hz2⟩:=h1
     rcases List.mem_cons.1 hz with rfl | hz
     ·exact hz2
     ·have:=hp1.1 z hz;omega
    refine ih.1 d ⟨y,List.mem_cons_self ..,by omega⟩ ?_
    obtain ⟨z,hz,hz2⟩:=h2
    rcases List.mem_cons.1 hz with rfl | hz
    ·omega
    ·exact ⟨z,hz,hz2⟩
  ·rw [e,if_neg]
   ·rcases h with h | h
    ·exact ih.2 d (.inl fun z hz=>h z (List.mem_cons_of_mem _ hz))
    ·exact ih.2 d (.inr fun z hz=>h z (List.mem_cons_of_mem _ hz))
   ·rcases h with h | h
    ·have:=h x (List.mem_cons_self ..);omega
    ·have:=h y (List.mem_cons_of_mem _ (List.mem_cons_self ..));omega
theorem valT_const: ∀{l:List Tst} {x d:Int},(∀s∈l,¬(x < s.lo/\s.lo<=d)/\ ¬(x < s.hi/\s.hi<=d))->x<=d->valT l d=valT l x
 | [],_,_,_,_=>rfl
 | s::r,x,d,h,hxd=>by
  have h1:=h s (List.mem_cons_self ..)
  rw [xg1,xg1,valT_const (l:=r) (fun t ht=>h t (List.mem_cons_of_mem _ ht)) hxd]
  by_cases c:s.lo<=x/\x < s.hi
  ·rw [if_pos c,if_pos (by omega)]
  ·rw [if_neg c,if_neg (by omega)]
theorem xr7 {l:List Tst} {d:Int} (h:(∀s∈l,d < s.lo)∨ ∀s∈l,s.hi<=d):valT l d=none:=valT_none.2 fun s hs h'=>by
 rcases h with h | h
 ·have:=h s hs;omega
 ·have:=h s hs;omega
def ends (ds:List Int) (l:List Tst):Prop:= ∀s∈l,s.lo∈ds/\s.hi∈ds
theorem cOn_ends {g:Int->Option Va} {a b:List Tst} (hg: ∀d x,valT a d=valT a x->valT b d=valT b x->g d=g x): ∀{pre ds:List Int},(pre++ds).Pairwise (· < ·)->ends (pre++ds) a->ends (pre++ds) b->cOn g ds
 | _,[],_,_,_=>trivial
 | _,[x],_,_,_=>trivial
 | pre,x::y::r,hp,ha,hb=>by
  have h1:=List.pairwise_append.1 hp
  have hq:=List.pairwise_cons.1 h1.2.1
  have hq2:=List.pairwise_cons.1 hq.2
  have key: ∀z∈pre++x::y::r,z<=x∨y<=z:=fun z hz=>by
   rcases List.mem_append.1 hz with hz | hz
   ·have:=h1.2.2 z hz x (List.mem_cons_self ..);omega
   ·rcases List.mem_cons.1 hz with rfl | hz
    ·omega
    ·rcases List.mem_cons.1 hz with rfl | hz
     ·omega
     ·have:=hq2.1 z hz;omega
  have hcon: ∀{l:List Tst},ends (pre++x::y::r) l-> ∀d,x<=d->d < y->valT l d=valT l x:=fun {l} hl d hx hy=>valT_const (fun s hs=>by
   have k1:=key _ (hl s hs).1
   have k2:=key _ (hl s hs).2
   omega) hx
  refine ⟨fun d hx hy=>hg d x (hcon ha d hx hy) (hcon hb d hx hy),?_⟩
  have e:pre++x::y::r=(pre++[x])++(y::r):=by simp
  rw [e] at hp ha hb
  exact cOn_ends hg hp ha hb
theorem seg_all {g:Int->Option Va} {a b:List Tst} {ds:List Int} (hg: ∀d x,valT a d=valT a x->valT b d=valT b x->g d=g x) (h0: ∀d,valT a d=none->valT b d=none->g d=none) (hp:ds.Pairwise (· < ·)) (ha:ends ds a) (hb:ends ds b): ∀d,valT (segL g ds) d=g d:=fun d=>by
 have hv:=segL_val hp (cOn_ends (pre:=[]) hg hp ha hb)
 by_cases h1: ∃x∈ds,x<=d
 ·by_cases h2: ∃y∈ds,d < y
  ·exact hv.1 d h1 h2
  ·have h3: ∀y∈ds,y<=d:=fun y hy=>Int.not_lt.1 fun h'=>h2 ⟨y,hy,h'⟩
   rw [hv.2 d (.inr h3),h0 d (xr7 (.inr fun s hs=>h3 _ (ha s hs).2)) (xr7 (.inr fun s hs=>h3 _ (hb s hs).2))]
 ·have h3: ∀x∈ds,d < x:=fun x hx=>Int.not_le.1 fun h'=>h1 ⟨x,hx,h'⟩
  rw [hv.2 d (.inl h3),h0 d (xr7 (.inl fun s hs=>h3 _ (ha s hs).1)) (xr7 (.inl fun s hs=>h3 _ (hb s hs).1))]
theorem cut_val {l:List Tst} {a b:Int} (h:ascT l):ascT (cutT l a b)/\nbT (cutT l a b)/\ ∀d,valT (cutT l a b) d=if a<=d/\d < b then valT l d else none:=by
 have hp:(l.map (clip a b)).Pairwise fun s t=>s.lo < s.hi->s.hi<=t.lo:=h.2.map (clip a b) fun s t hst _=>by simp only [clip];omega
 have:=pst_val (l.map (clip a b)) [] ⟨fun s hs=>(by cases hs),.nil⟩ trivial hp fun x hx=>by cases hx
 refine ⟨this.1,this.2.1,fun d=> ?_⟩
 rw [cutT,this.2.2]
 show valT (l.map (clip a b)) d=_
 clear this hp h
 induction l with
 | nil=>simp [valT]
 | cons s r ih=>
  rw [List.map_cons,xg1,xg1,ih]
  show (if max s.lo a<=d/\d < min s.hi b then some s.v else if a<=d/\d < b then valT r d else none)=if a<=d/\d < b then (if s.lo<=d/\d < s.hi then some s.v else valT r d) else none
  by_cases c1:a<=d/\d < b
  ·rw [if_pos c1,if_pos c1]
   by_cases c2:s.lo<=d/\d < s.hi
   ·rw [if_pos c2,if_pos ⟨by omega,by omega⟩]
   ·rw [if_neg c2,if_neg (fun h=>c2 ⟨by omega,by omega⟩)]
  ·rw [if_neg c1,if_neg c1,if_neg (fun h=>c1 ⟨by omega,by omega⟩)]
theorem nb_at: ∀{l:List Tst} {i:Nat},nbT l->i+1 < l.length-> ¬((l.getD i tst0).hi=(l.getD (i+1) tst0).lo/\(l.getD i tst0).v=(l.getD (i+1) tst0).v)
 | [],_,_,hi=>by simp at hi
 | [_],_,_,hi=>by simp at hi
 | s::t::r,0,h,_=>h.1
 | s::t::r,i+1,h,hi=>nb_at (l:=t::r) h.2 (by simpa using hi)
theorem tRight_asc {l:List Tst} (h:tRight l=true):ascT l:=⟨fun s hs=>by
 obtain ⟨i,hi,rfl⟩:=xv0 hs
 exact (xt7 h hi).2.1,tRight_pair h⟩
theorem asc_lt {l:List Tst} (h:ascT l) {i j:Nat} (hij:i < j) (hj:j < l.length):(l.getD i tst0).hi<=(l.getD j tst0).lo:=by
 have:=List.pairwise_iff_getElem.1 h.2 i j (by omega) hj hij
 rwa [List.getD_eq_getElem?_getD,List.getD_eq_getElem?_getD,List.getElem?_eq_getElem (show i < l.length by omega),List.getElem?_eq_getElem hj]
theorem right_of {l:List Tst} {K:Nat} (h:ascT l) (hn:nbT l) (hv: ∀s∈l,0<=s.lo/\s.hi<=65536/\s.v.valid=true/\s.v.kind=K):tRight l=true:=by
 refine tRight_iff.2 ⟨fun i hi=>tOk_iff.2 ?_,fun s hs=>(hv s hs).2.2.1⟩
 have h1:=hv _ (xi0 (l:=l) hi)
 refine ⟨h1.1,h.1 _ (xi0 hi),h1.2.1,?_⟩
 by_cases h0:i=0
 ·exact .inl h0
 ·have h2:=hv _ (xi0 (l:=l) (i:=i - 1) (by omega))
  have h3:=nb_at hn (i:=i - 1) (by omega)
  rw [show i - 1+1=i by omega] at h3
  exact .inr ⟨asc_lt h (by omega) hi,by rw [h2.2.2.2,h1.2.2.2],h3⟩
end An.S
namespace An
open Go
def tO {α:Type} (n:Nat) (agg:Bool) (f:α->Ty):Option α->Ty
 | none=>tE (.pointer none)
 | some x=>tP n agg (f x)
instance {α:Type} {n:Nat} {agg:Bool} {f:α->Ty} {o:Option α}:Shape (tO n agg f o) 1 false:=⟨fun h=>by
 cases o with
 | none=>have h:_=_:=h;rw [h];exact xd3 rfl
 | some x=>obtain ⟨_,_,_,h,_⟩:=h;rw [h];exact xd3 rfl⟩
section
variable {P:Program} {c:Base} {d ty:Nat} {pos:String} {af:Array Edge} {gd:Option (Nat×Bool)} {α:Type} {n:Nat} {agg:Bool} {f:α->Ty}
theorem run_equalP {T E:TypeId} (hT:P.underlying T=some (.pointer E)) (A:Option Addr) (w:World):(Op.equal T (.pointer A) (.pointer none)).run P w= .ok A.isNone w:=by
 have key: ∀d,(Op.equalIn (d+1) T (.pointer A) (.pointer none)).run P w= .ok A.isNone w:=fun d=>by
  cases A <;> simp only [Op.equalIn,Sem.run_bind,run_underlying hT,Result.andThen_ok,Sem.run_pure] <;> rfl
 exact key 9999
theorem tO_nil {F:Dom} {w:World} {o:Option α} {v:Value} (h:(tO n agg f o).p F w v): ∃A:Option Addr,v= .pointer A/\A.isNone=o.isNone:=by
 cases o with
 | none=>exact ⟨none,h,rfl⟩
 | some x=>obtain ⟨b,q,u,h1,_⟩:=h;exact ⟨_,h1,rfl⟩
theorem d_eqlNil {T E yT:TypeId} {x:Operand} {o:Option α} (hT:P.underlying T=some (.pointer E)):
  Does P c ⟨some d,.binOp .eql T x (.const (.pointer none)) yT,ty,pos,af,gd⟩ ⟨[(x,.val (tO n agg f o))],[],some (d,some (.val (tB o.isNone))),[],[]⟩:=
 Does.value rfl fun g h al a w η hrd _ s=>by
  obtain ⟨A,h1,h4⟩:=tO_nil (xa0 s hrd.1).1
  have h1:a.eval x= .pointer A:=h1
  have h2:a.eval (.const (.pointer none))= .pointer none:=rfl
  refine ⟨.bool A.isNone,w,?_,Ext.refl w,congrArg Value.bool h4,fun j hj=>by cases hj⟩
  have hg:(eqGuard .eql T x (.const (.pointer none)) (.pointer A) (.pointer none)).run P w= .ok () w:=by
   simp [eqGuard,go_sem]
  simp only [execOp,h1,h2,Sem.run_bind,hg,Result.andThen_ok,binOp,run_equalP hT,Sem.run_pure]
theorem d_neqNil {T E yT:TypeId} {x:Operand} {o:Option α} (hT:P.underlying T=some (.pointer E)):
  Does P c ⟨some d,.binOp .neq T x (.const (.pointer none)) yT,ty,pos,af,gd⟩ ⟨[(x,.val (tO n agg f o))],[],some (d,some (.val (tB (!o.isNone)))),[],[]⟩:=
 Does.value rfl fun g h al a w η hrd _ s=>by
  obtain ⟨A,h1,h4⟩:=tO_nil (xa0 s hrd.1).1
  have h1:a.eval x= .pointer A:=h1
  have h2:a.eval (.const (.pointer none))= .pointer none:=rfl
  refine ⟨.bool (!A.isNone),w,?_,Ext.refl w,congrArg (fun b=>Value.bool (!b)) h4,fun j hj=>by cases hj⟩
  have hg:(eqGuard .neq T x (.const (.pointer none)) (.pointer A) (.pointer none)).run P w= .ok () w:=by
   simp [eqGuard,go_sem]
  simp only [execOp,h1,h2,Sem.run_bind,hg,Result.andThen_ok,binOp,run_equalP hT,Sem.run_pure]
theorem d_checkO {x:Operand} {o:Option α} {y:α} (ho:o=some y):
  Does P c ⟨some d,.nilCheck x,ty,pos,af,gd⟩ ⟨[(x,.val (tO n agg f o))],[],some (d,some (.val (tP n agg (f y)))),[],[]⟩:=by
 subst ho;exact d_nilCheckP
theorem leO {o:Option α} {y:α} (ho:o=some y):Le (tP n agg (f y)) (tO n agg f o):=by subst ho;exact Le.refl
theorem leO0 {o:Option α} (ho:o=none):Le (tE (.pointer none)) (tO n agg f o):=by subst ho;exact Le.refl
end
end An
namespace An
open Go Go.Proofs Go.Shelf Go.Sort
theorem row_hold {w:World} {b T:Nat} {cs:Array Value} {xs:List Int} (c1:w.heap[b]? =some (.cells cs T (0,0))) (c3: ∀(i:Nat) (h:i < xs.length),cs[i]? =some (.int .i64 xs[i])):Holds (Value.int .i64) w b 0 xs.toArray:=by
 intro j hj
 have hj:j < xs.length:=by simpa using hj
 have e:xs.toArray[j]! =xs[j]:=by rw [getElem!_pos _ _ (by simpa using hj)];simp
 refine ⟨?_,by simp [World.frozen?,c1]⟩
 rw [e]
 simp only [World.cell?,c1,Nat.zero_add]
 exact c3 j hj
theorem row_out {F:Dom} {w w':World} {η:Env} {T:Nat} {xs ys:List Int} {zs:Array Int} {re:Ent} {v:Value} {cs:Array Value} (hc0:0 < η.c 1) (k4:η.c 1<=9223372036854775807) (c1:w.heap[η.b 1]? =some (.cells cs T (0,0))) (c2:cs.size=η.c 1) (_hz:zs.size<=η.c 1) (_hI:InjK η [(1,⟨T,1,false,rV tI xs⟩)])
  (ho:w'.os=w.os) (ht:w'.tape=w.tape) (hp:w'.output=w.output) (hsz:w.heap.size<=w'.heap.size) (hheap: ∀b',b' < w.heap.size->w'.heap[b']? =if b'=η.b 1 then some (.cells (putCells (Value.int .i64) 0 zs cs) T (0,0)) else w.heap[b']?)
  (hy:ys.length<=zs.size) (hyz: ∀(i:Nat) (h:i < ys.length),zs[i]! =ys[i]) (hre: ∀F,re.sat F w' η v):Out F w η [(1,⟨T,1,false,rV tI xs⟩)] re [(1,⟨T,1,false,rV tI ys⟩)] [] v w' η:=by
 have hblk:η.b 1 < w.heap.size:=xa7 c1
 refine ⟨⟨ho,ht,hp,hsz,fun b' hb' hn'=> ?_⟩,fun _ _=>⟨rfl,rfl⟩,hre _,fun x hx=> ?_,fun x hx y hy hne=> ?_,fun b' hb'=> .inl ?_⟩
 ·rw [hheap b' hb',if_neg]
  intro hb;exact hn' ⟨(1,⟨T,1,false,rV tI xs⟩),by simp,hc0,hb⟩
 ·simp only [List.mem_singleton] at hx
  subst hx
  refine ⟨by show (rV tI ys).length<=η.c 1;rw [xd2];omega,Nat.one_pos,fun _=>rfl,k4,fun _=>⟨putCells (Value.int .i64) 0 zs cs,?_,?_,fun i e hi=> ?_⟩⟩
  ·rw [hheap _ hblk,if_pos rfl]
  ·simp only [putCells,Array.size_mapIdx];rw [c2];simp
  ·have hil:i < ys.length:=by
    have:=(List.getElem?_eq_some_iff.1 hi).1;rwa [xd2] at this
   have hi:(rV tI ys)[i]? =some e:=hi
   rw [rV,List.getElem?_map,List.getElem?_eq_getElem hil] at hi
   simp only [Option.map_some,Option.some.injEq] at hi
   subst hi
   show pick false 1 (putCells (Value.int .i64) 0 zs cs) (i*1)= .int .i64 ys[i]
   rw [Nat.mul_one,pick,cond_false,Array.getD_eq_getD_getElem?]
   simp only [putCells,Array.getElem?_mapIdx]
   rw [Array.getElem?_eq_getElem (show i < cs.size by omega)]
   simp only [Option.map_some,Option.getD_some]
   rw [if_pos ⟨Nat.zero_le _,by omega⟩,Nat.sub_zero,hyz i hil]
 ·simp only [List.mem_singleton] at hx hy
  subst hx;subst hy
  exact absurd rfl hne
 ·obtain ⟨x,hx,hc,rfl⟩:=hb'
  simp only [List.mem_singleton] at hx
  subst hx
  exact ⟨(1,⟨T,1,false,rV tI xs⟩),by simp,hc,rfl⟩
theorem put_heap {w:World} {b:Nat} {T m:Nat} {cs:Array Value} {zs:Array Int} (c1:w.heap[b]? =some (.cells cs T (0,0))) (b':Nat):(putRow (Value.int .i64) (Sort.ahead w m) b 0 zs).heap[b']? =if b'=b then some (.cells (putCells (Value.int .i64) 0 zs cs) T (0,0)) else w.heap[b']? :=by
 simp only [putRow,mapBlock,Array.getElem?_modify]
 by_cases hb:b'=b
 ·subst hb
  rw [if_pos rfl,if_pos rfl]
  show Option.map _ (w.heap[b']?)=_
  rw [c1];rfl
 ·rw [if_neg (fun h=>hb h.symm),if_neg hb];rfl
def srtI (xs:List Int):List Int:=xs.mergeSort fun x y=>decide (x<=y)
theorem sortI {P:Program} {ρ:Ren} (L:Lays.n189 P ρ) (T:Nat) (xs:List Int) (hn:xs.length < 4611686018427387904):
  CtG P (ρ.f 189) [(1,⟨T,1,false,rV tI xs⟩)] [.own (.sl 1 1 0 xs.length)] (.val (tE (.tuple #[]))) [(1,⟨T,1,false,rV tI (srtI xs)⟩)] []:=by
 intro F w η vs hS hA hI hF
 match vs,hS with
 | [v0],hS=>
 obtain ⟨⟨A,rfl,hle,hadr⟩,_⟩:=hS
 obtain ⟨k1,k2,k3,k4,k5⟩:=hA (1,⟨T,1,false,rV tI xs⟩) (by simp)
 have k1:(rV tI xs).length<=η.c 1:=k1
 have k4:η.c 1<=9223372036854775807:=k4
 rw [xd2] at k1
 have hlen:(srtI xs).length=xs.length:=List.length_mergeSort ..
 by_cases h0:xs.length=0
 ·have hx:xs=[]:=List.length_eq_zero_iff.1 h0
  subst hx
  have e0:srtI ([]:List Int)=[]:=List.length_eq_zero_iff.1 hlen
  rw [e0]
  refine (Any.slices_Sort_int_none L A (η.c 1 - 0) w).mono ?_
  rintro e w' ⟨rfl,rfl⟩
  refine ⟨_,η,rfl,⟨Stp.refl _ _,fun _ _=>⟨rfl,rfl⟩,rfl,fun x hx=> ?_,hI,fun b hb=> .inl hb⟩⟩
  simp only [List.mem_singleton] at hx
  subst hx
  refine ⟨by simp [rV],k2,k3,k4,fun hc=> ?_⟩
  obtain ⟨cs,c1,c2,_⟩:=k5 hc
  exact ⟨cs,c1,c2,fun i e hi=>by simp [rV] at hi⟩
 ·have hc0:0 < η.c 1:=by omega
  obtain ⟨cs,c1,c2,c3⟩:=k5 hc0
  have c1:w.heap[η.b 1]? =some (.cells cs T (0,0)):=c1
  have c2:cs.size=η.c 1*1:=c2
  rw [Nat.mul_one] at c2
  have hA':=hadr hc0
  rw [Nat.zero_mul] at hA'
  subst hA'
  have hblk:η.b 1 < w.heap.size:=xa7 c1
  have c3': ∀(i:Nat) (h:i < xs.length),cs[i]? =some (.int .i64 xs[i]):=fun i hi=>by
   have h3:=c3 i (.val (tI xs[i])) (by show (rV tI xs)[i]? =_;rw [rV,List.getElem?_map,List.getElem?_eq_getElem hi];rfl)
   have h3:cs.getD (i*1) undef= .int .i64 xs[i]:=h3
   rw [Nat.mul_one,Array.getD_eq_getD_getElem?,Array.getElem?_eq_getElem (show i < cs.size by omega)] at h3
   rw [Array.getElem?_eq_getElem (show i < cs.size by omega)]
   exact congrArg some h3
  refine (Any.slices_Sort_int L (η.b 1) 0 (η.c 1 - 0) xs w (row_hold c1 c3') hblk hn).mono ?_
  rintro e w' ⟨rfl,m,os,rfl⟩
  refine ⟨_,η,rfl,?_⟩
  refine row_out (zs:=(srtI xs).toArray) hc0 k4 c1 c2 (by simp [hlen];omega) hI rfl rfl rfl ?_ (fun b' hb'=> ?_) (by simp) (fun i hi=> ?_) (fun F=>rfl)
  ·show w.heap.size<=(grow (putRow (Value.int .i64) (Sort.ahead w m) (η.b 1) 0 (srtI xs).toArray) os).heap.size
   simp [grow,putRow,mapBlock,Sort.ahead]
  ·show (grow (putRow (Value.int .i64) (Sort.ahead w m) (η.b 1) 0 (srtI xs).toArray) os).heap[b']? =_
   rw [heap_grow_old _ _ (by simp [putRow,mapBlock,Sort.ahead];exact hb')]
   exact put_heap c1 b'
  ·rw [getElem!_pos _ _ (by simpa using hi)];simp
theorem compUp_len (d:Array Int): ∀m,(Lib.compactUpTo d m).length<=m
 | 0=>Nat.le_refl _
 | m+1=>by
  rw [Lib.compactUpTo_succ,List.length_append]
  have:=compUp_len d m
  split <;> simp <;> omega
theorem comp_len (xs:List Int):(Lib.compact xs).length<=xs.length:=compUp_len _ _
theorem compactI {P:Program} {ρ:Ren} (L:Lays2.n20 P ρ) (T:Nat) (xs:List Int):
  CtG P (ρ.f 20) [(1,⟨T,1,false,rV tI xs⟩)] [.own (.sl 1 1 0 xs.length)] (.own (.sl 1 1 0 (Lib.compact xs).length)) [(1,⟨T,1,false,rV tI (Lib.compact xs)⟩)] []:=by
 intro F w η vs hS hA hI hF
 match vs,hS with
 | [v0],hS=>
 obtain ⟨⟨A,rfl,hle,hadr⟩,_⟩:=hS
 obtain ⟨k1,k2,k3,k4,k5⟩:=hA (1,⟨T,1,false,rV tI xs⟩) (by simp)
 have k1:(rV tI xs).length<=η.c 1:=k1
 have k4:η.c 1<=9223372036854775807:=k4
 rw [xd2] at k1
 have hlen:(Lib.compact xs).length<=xs.length:=comp_len xs
 by_cases h0:xs.length=0
 ·have hx:xs=[]:=List.length_eq_zero_iff.1 h0
  subst hx
  have e0:Lib.compact ([]:List Int)=[]:=rfl
  rw [e0]
  refine (Any.slices_Compact_int_empty L A (η.c 1 - 0) w).mono ?_
  rintro e w' ⟨rfl,rfl⟩
  refine ⟨_,η,rfl,⟨Stp.refl _ _,fun _ _=>⟨rfl,rfl⟩,⟨A,rfl,hle,hadr⟩,fun x hx=> ?_,hI,fun b hb=> .inl hb⟩⟩
  simp only [List.mem_singleton] at hx
  subst hx
  refine ⟨by simp [rV],k2,k3,k4,fun hc=> ?_⟩
  obtain ⟨cs,c1,c2,_⟩:=k5 hc
  exact ⟨cs,c1,c2,fun i e hi=>by simp [rV] at hi⟩
 ·have hc0:0 < η.c 1:=by omega
  obtain ⟨cs,c1,c2,c3⟩:=k5 hc0
  have c1:w.heap[η.b 1]? =some (.cells cs T (0,0)):=c1
  have c2:cs.size=η.c 1*1:=c2
  rw [Nat.mul_one] at c2
  have hA':=hadr hc0
  rw [Nat.zero_mul] at hA'
  subst hA'
  have c3': ∀(i:Nat) (h:i < xs.length),cs[i]? =some (.int .i64 xs[i]):=fun i hi=>by
   have h3:=c3 i (.val (tI xs[i])) (by show (rV tI xs)[i]? =_;rw [rV,List.getElem?_map,List.getElem?_eq_getElem hi];rfl)
   have h3:cs.getD (i*1) undef= .int .i64 xs[i]:=h3
   rw [Nat.mul_one,Array.getD_eq_getD_getElem?,Array.getElem?_eq_getElem (show i < cs.size by omega)] at h3
   rw [Array.getElem?_eq_getElem (show i < cs.size by omega)]
   exact congrArg some h3
  refine (Any.slices_Compact_int L (η.b 1) 0 (η.c 1 - 0) xs w (row_hold c1 c3') (by omega) (by omega)).mono ?_
  rintro e w' ⟨rfl,q,rfl⟩
  refine ⟨_,η,rfl,?_⟩
  refine row_out (zs:=(Lib.compact xs++List.replicate (xs.length - (Lib.compact xs).length) 0).toArray) hc0 k4 c1 c2 (by simp;omega) hI rfl rfl rfl ?_ (fun b' hb'=>put_heap c1 b') (by simp) (fun i hi=> ?_) (fun F=>⟨_,rfl,by omega,fun _=>by rw [Nat.zero_mul]⟩)
  ·simp [putRow,mapBlock,Sort.ahead]
  ·rw [getElem!_pos _ _ (by simp;omega)];simp [List.getElem_append_left hi]
def brd (xs:List Int):List Int:=Lib.compact (srtI xs)
theorem brd_aux {d:Array Int} (hd: ∀i j,i < j->j < d.size->d[i]! <=d[j]!): ∀m,m<=d.size->(Lib.compactUpTo d m).Pairwise (· < ·)/\ ∀x,x∈Lib.compactUpTo d m↔ ∃i,i < m/\d[i]! =x
 | 0,_=>⟨List.Pairwise.nil,fun x=>⟨fun h=>(List.not_mem_nil h).elim,fun ⟨i,hi,_⟩=>absurd hi (Nat.not_lt_zero _)⟩⟩
 | m+1,hm=>by
  obtain ⟨h1,h2⟩:=brd_aux hd m (by omega)
  rw [Lib.compactUpTo_succ]
  by_cases hk:Lib.keeps d m=true
  ·rw [if_pos hk]
   have hk':m=0∨d[m]! ≠d[m - 1]! :=of_decide_eq_true hk
   refine ⟨List.pairwise_append.2 ⟨h1,List.pairwise_singleton _ _,fun x hx y hy=> ?_⟩,fun x=> ?_⟩
   ·rw [List.mem_singleton.1 hy]
    obtain ⟨i,hi,rfl⟩:=(h2 x).1 hx
    have hm0:m≠0:=by omega
    have h3:=hk'.resolve_left hm0
    have h4:=hd (m - 1) m (by omega) (by omega)
    have h5:d[i]! <=d[m - 1]! :=by
     rcases Nat.lt_or_ge i (m - 1) with h | h
     ·exact hd i (m - 1) h (by omega)
     ·rw [show i=m - 1 by omega];exact Int.le_refl _
    omega
   ·rw [List.mem_append,List.mem_singleton,h2]
    constructor
    ·rintro (⟨i,hi,e⟩ | rfl)
     ·exact ⟨i,by omega,e⟩
     ·exact ⟨m,by omega,rfl⟩
    ·rintro ⟨i,hi,e⟩
     rcases Nat.lt_or_ge i m with h | h
     ·exact .inl ⟨i,h,e⟩
     ·exact .inr (by rw [<-e,show i=m by omega])
  ·rw [if_neg hk,List.append_nil]
   have hk': ¬(m=0∨d[m]! ≠d[m - 1]!):=fun h=>hk (decide_eq_true h)
   refine ⟨h1,fun x=> ?_⟩
   rw [h2]
   constructor
   ·rintro ⟨i,hi,e⟩;exact ⟨i,by omega,e⟩
   ·rintro ⟨i,hi,e⟩
    rcases Nat.lt_or_ge i m with h | h
    ·exact ⟨i,h,e⟩
    ·have hm0:m≠0:=fun h=>hk' (.inl h)
     have he:d[m]! =d[m - 1]! :=Decidable.byContradiction fun h=>hk' (.inr h)
     exact ⟨m - 1,by omega,by rw [<-he,<-e,show i=m by omega]⟩
theorem xh2 (xs:List Int):(brd xs).Pairwise (· < ·)/\ ∀x,x∈brd xs↔x∈xs:=by
 have hs:(srtI xs).Pairwise fun x y=>decide (x<=y)=true:=List.pairwise_mergeSort (fun a b c h1 h2=>by simp at*;omega) (fun a b=>by simp;omega) xs
 have hp:(srtI xs).Perm xs:=List.mergeSort_perm ..
 have h:=brd_aux (d:=(srtI xs).toArray) (fun i j hij hj=>by
  have hj:j < (srtI xs).length:=by simpa using hj
  have:=List.pairwise_iff_getElem.1 hs i j (by omega) hj hij
  rw [getElem!_pos _ _ (by simp;omega),getElem!_pos _ _ (by simpa using hj)]
  simpa using this) (srtI xs).length (by simp)
 refine ⟨h.1,fun x=>(h.2 x).trans ⟨fun ⟨i,hi,e⟩=> ?_,fun hx=> ?_⟩⟩
 ·rw [getElem!_pos _ _ (by simpa using hi)] at e
  rw [<-hp.mem_iff,<-e];simp
 ·obtain ⟨i,hi,e⟩:=List.getElem_of_mem (hp.mem_iff.2 hx)
  exact ⟨i,hi,by rw [getElem!_pos _ _ (by simpa using hi)];simpa using e⟩
theorem brd_len (xs:List Int):(brd xs).length<=xs.length:=by
 have:=comp_len (srtI xs)
 rw [srtI,List.length_mergeSort] at this
 exact this
end An
namespace An.S
open Go
def onL (l:List Tst) (d:Int):List Tst:=l.dropWhile fun s=>decide (s.hi<=d)
def onV (l:List Tst) (d:Int):Option Va:=if 0 < (onL l d).length/\((onL l d).getD 0 tst0).lo<=d then some ((onL l d).getD 0 tst0).v else none
theorem on_next {xs:List Tst} {d:Int} (h:0 < xs.length) (h1:(xs.getD 0 tst0).hi<=d):onL (xs.drop 1) d=onL xs d:=by
 cases xs with
 | nil=>simp at h
 | cons s r=>
  have h1:s.hi<=d:=h1
  rw [onL,onL,List.dropWhile_cons_of_pos (by simpa using h1)];rfl
theorem on_stop {xs:List Tst} {d:Int} (h: ¬(0 < xs.length/\(xs.getD 0 tst0).hi<=d)):onL xs d=xs:=by
 cases xs with
 | nil=>rfl
 | cons s r=>
  have h1: ¬s.hi<=d:=fun h'=>h ⟨by simp,h'⟩
  rw [onL,List.dropWhile_cons_of_neg (by simpa using h1)]
theorem onL_len {l:List Tst} {d:Int}:(onL l d).length<=l.length:=(List.dropWhile_sublist _).length_le
theorem onL_asc {l:List Tst} {d:Int} (h:ascT l):ascT (onL l d):=⟨fun s hs=>h.1 s ((List.dropWhile_sublist _).subset hs),h.2.sublist (List.dropWhile_sublist _)⟩
theorem onL_val {d:Int}: ∀{l:List Tst},∀e,d<=e->valT (onL l d) e=valT l e
 | [],_,_=>rfl
 | s::r,e,h=>by
  by_cases h1:s.hi<=d
  ·have:onL (s::r) d=onL r d:=by rw [onL,List.dropWhile_cons_of_pos (by simpa using h1)];rfl
   rw [this,onL_val e h,xg1,if_neg (by omega)]
  ·have:onL (s::r) d=s::r:=by rw [onL,List.dropWhile_cons_of_neg (by simpa using h1)]
   rw [this]
theorem onV_val {l:List Tst} {d:Int} (h:ascT l):onV l d=valT l d:=by
 rw [<-onL_val d (Int.le_refl _),onV]
 have hd:0 < (onL l d).length->d < ((onL l d).getD 0 tst0).hi:=fun h0=>by
  clear h
  induction l with
  | nil=>simp [onL] at h0
  | cons s r ih=>
   by_cases h1:s.hi<=d
   ·have:onL (s::r) d=onL r d:=by rw [onL,List.dropWhile_cons_of_pos (by simpa using h1)];rfl
    rw [this] at h0 ⊢;exact ih h0
   ·have:onL (s::r) d=s::r:=by rw [onL,List.dropWhile_cons_of_neg (by simpa using h1)]
    rw [this];show d < s.hi;omega
 have ha:=onL_asc (d:=d) h
 generalize onL l d=xs at*
 cases xs with
 | nil=>rfl
 | cons s r=>
  have h1:d < s.hi:=hd (by simp)
  rw [xg1]
  by_cases h2:s.lo<=d
  ·rw [if_pos ⟨by simp,h2⟩,if_pos ⟨h2,h1⟩];rfl
  ·rw [if_neg (fun h=>h2 h.2),if_neg (fun h=>h2 h.1)]
   symm
   refine valT_none.2 fun t ht h=> ?_
   have:=(List.pairwise_cons.1 ha.2).1 t ht
   omega
def eds (l:List Tst):List Int:=l.flatMap fun s=>[s.lo,s.hi]
def bds (ls:List (List Tst)):List Int:=brd (ls.flatMap eds)
theorem eds_mem {l:List Tst} {x:Int}:x∈eds l↔ ∃s∈l,x=s.lo∨x=s.hi:=by
 simp [eds,List.mem_flatMap]
theorem eds_len {l:List Tst}:(eds l).length=2*l.length:=by
 induction l with
 | nil=>rfl
 | cons s r ih=>rw [eds,List.flatMap_cons,List.length_append,<-eds,ih];simp;omega
theorem eds_snoc {l:List Tst} {i:Nat} (hi:i < l.length):eds (l.take (i+1))=eds (l.take i)++[(l.getD i tst0).lo,(l.getD i tst0).hi]:=by
 rw [List.take_succ_eq_append_getElem hi,eds,List.flatMap_append,List.getD_eq_getElem?_getD,List.getElem?_eq_getElem hi];simp [eds]
theorem flat_snoc {ls:List (List Tst)} {i:Nat} (hi:i < ls.length):(ls.take (i+1)).flatMap eds=(ls.take i).flatMap eds++eds (ls.getD i []):=by
 rw [List.take_succ_eq_append_getElem hi,List.flatMap_append,List.getD_eq_getElem?_getD,List.getElem?_eq_getElem hi];simp
def tlen (ls:List (List Tst)):Nat:=(ls.map List.length).sum
theorem flat_len: ∀{ls:List (List Tst)},(ls.flatMap eds).length=2*tlen ls
 | []=>rfl
 | l::r=>by rw [List.flatMap_cons,List.length_append,eds_len,flat_len (ls:=r)];simp [tlen];omega
theorem bds_len {ls:List (List Tst)}:(bds ls).length<=2*tlen ls:=by rw [<-flat_len];exact brd_len _
theorem bds_pw {ls:List (List Tst)}:(bds ls).Pairwise (· < ·):=(xh2 _).1
theorem bds_mem {ls:List (List Tst)} {x:Int}:x∈bds ls↔ ∃l∈ls,∃s∈l,x=s.lo∨x=s.hi:=by
 rw [bds,(xh2 _).2,List.mem_flatMap]
 simp only [eds_mem]
theorem bds_ends {ls:List (List Tst)} {l:List Tst} (h:l∈ls):ends (bds ls) l:=fun s hs=>⟨bds_mem.2 ⟨l,h,s,hs,.inl rfl⟩,bds_mem.2 ⟨l,h,s,hs,.inr rfl⟩⟩
theorem pw_lt {ds:List Int} (h:ds.Pairwise (· < ·)) {i j:Nat} (hij:i < j) (hj:j < ds.length):ds.getD i 0 < ds.getD j 0:=by
 have:=List.pairwise_iff_getElem.1 h i j (by omega) hj hij
 rwa [List.getD_eq_getElem?_getD,List.getD_eq_getElem?_getD,List.getElem?_eq_getElem (show i < ds.length by omega),List.getElem?_eq_getElem hj]
theorem getD_memI {ds:List Int} {i:Nat} (h:i < ds.length):ds.getD i 0∈ds:=by
 rw [List.getD_eq_getElem?_getD,List.getElem?_eq_getElem h];exact List.getElem_mem h
def segI (g:Int->Option Va) (ds:List Int) (i:Nat):List Tst:=match g (ds.getD i 0) with
 | some v=>[⟨ds.getD i 0,ds.getD (i+1) 0,v⟩]
 | none=>[]
def segN (g:Int->Option Va) (ds:List Int) (k:Nat):List Tst:=(List.range k).flatMap (segI g ds)
theorem segN_next {g:Int->Option Va} {ds:List Int} {k:Nat}:segN g ds (k+1)=segN g ds k++segI g ds k:=by
 rw [segN,List.range_succ,List.flatMap_append];simp [segN]
theorem segL_N {g:Int->Option Va}: ∀ds:List Int,segL g ds=segN g ds (ds.length - 1)
 | []=>rfl
 | [x]=>rfl
 | x::y::r=>by
  have e: ∀i,segI g (x::y::r) (i+1)=segI g (y::r) i:=fun i=>rfl
  have e0:segI g (x::y::r) 0=(match g x with | some v=>[⟨x,y,v⟩] | none=>[]):=rfl
  have h:(x::y::r).length - 1=r.length+1:=by simp
  have e1:segN g (x::y::r) (r.length+1)=segI g (x::y::r) 0++segN g (y::r) r.length:=by
   rw [segN,List.range_succ_eq_map,List.flatMap_cons,List.flatMap_map];rfl
  rw [segL,segL_N (y::r),h,e1,e0];rfl
theorem pst_app (acc xs ys:List Tst):pst acc (xs++ys)=pst (pst acc xs) ys:=by rw [pst,pst,pst,List.foldl_append]
theorem segN_len {g:Int->Option Va} {ds:List Int}: ∀k,(segN g ds k).length<=k
 | 0=>Nat.le_refl _
 | k+1=>by
  rw [segN_next,List.length_append]
  have:=segN_len (g:=g) (ds:=ds) k
  have h:(segI g ds k).length<=1:=by rw [segI];split <;> simp
  omega
def dfB (a b:List Tst) (d:Int):Bool:=decide (valT a d≠valT b d)
def dfI (a b:List Tst) (i:Nat):List Sn:=if dfB a b ((bds [a,b]).getD i 0) then [⟨(bds [a,b]).getD i 0,(bds [a,b]).getD (i+1) 0⟩] else []
def dfK (a b:List Tst) (k:Nat):List Sn:=(List.range k).flatMap (dfI a b)
theorem dfK_next {a b:List Tst} {k:Nat}:dfK a b (k+1)=dfK a b k++dfI a b k:=by
 rw [dfK,List.range_succ,List.flatMap_append];simp [dfK]
def dfT (a b:List Tst):List Sn:=dfK a b ((bds [a,b]).length - 1)
def ogI (a b:List Tst) (xa xb:List Tst) (d:Int):Prop:=(ascT xa/\xa.length<=a.length/\ ∀e,d<=e->valT xa e=valT a e)/\ascT xb/\xb.length<=b.length/\ ∀e,d<=e->valT xb e=valT b e
theorem ogI.next {a b xa xb:List Tst} {d e:Int} (h:ogI a b xa xb d) (hde:d<=e):onV xa e=valT a e/\onV xb e=valT b e/\ogI a b (onL xa e) (onL xb e) e:=by
 obtain ⟨⟨h1,h2,h3⟩,h4,h5,h6⟩:=h
 refine ⟨(onV_val h1).trans (h3 e hde),(onV_val h4).trans (h6 e hde),⟨onL_asc h1,Nat.le_trans onL_len h2,fun x hx=>(onL_val x hx).trans (h3 x (Int.le_trans hde hx))⟩,onL_asc h4,Nat.le_trans onL_len h5,fun x hx=>(onL_val x hx).trans (h6 x (Int.le_trans hde hx))⟩
theorem ogI.zero {a b:List Tst} (ha:ascT a) (hb:ascT b) (d:Int):ogI a b a b d:=⟨⟨ha,Nat.le_refl _,fun _ _=>rfl⟩,hb,Nat.le_refl _,fun _ _=>rfl⟩
end An.S
namespace An
open Go
section
variable {P:Program} {c:Base}
theorem left_ge {D:Nat->Bool} {n:Nat} (h: ∀j,n<=j->D j=false): ∀m,m - n<=left D m
 | 0=>by simp [left]
 | m+1=>by
  have ih:=left_ge h m
  simp only [left]
  rcases Nat.lt_or_ge m n with h1 | h1
  ·omega
  ·rw [h m h1];simp only [cond_false];omega
theorem any_pre {ops:List Oper} {Es:List Eff} {n:Nat} {g0:Slots} {h0:Keys} {al0:Nat->Bool} {Q:Exit->Act->World->Prop} (hn:n<=ops.length) (hlen:n=Es.length)
  (hD: ∀(i:Nat) (o:Oper) (E:Eff),ops[i]? =some o->Es[i]? =some E->DoesR P c ops.toArray o E)
  (hpre: ∀(i:Nat) (E:Eff),Es[i]? =some E->E.PreL (runC (fun j=>decide (j < i)) 0 (Es.map Eff.cg) g0) (runC (fun j=>decide (j < i)) 0 (Es.map Eff.ch) h0) (runC (fun j=>decide (j < i)) 0 (Es.map Eff.ca) al0))
  (hgo:goAll (masks ops #[]) [] (Es.map Eff.sm)=true) (hd:dOk c.N (Es.map Eff.sm)=true) (hnk:nkOk (Es.map Eff.sm) []=true) (hed:edgesOk 0 ops=true)
  (hrest: ∀i,n<=i->i < ops.length-> ∀j,j < i->((masks ops #[]).getD i 0).testBit j=true)
  (hQ: ∀(fuel:Nat) (listed:Array Bool) (a:Act) (w:World),listed.size=ops.length->Closed ops (fun i=>listed.getD i false)->(∀j,listed.getD j false=decide (j < n))->ops.length - n<=fuel->
   St c (runC (fun _=>true) 0 (Es.map Eff.cg) g0) (runC (fun _=>true) 0 (Es.map Eff.ch) h0) (runC (fun _=>true) 0 (Es.map Eff.ca) al0) a w->wpAnyIn (fc c.ro) 0 P .any ops.toArray Q fuel listed a w):
  ∀(fuel:Nat) (listed:Array Bool) (a:Act) (w:World),listed.size=ops.length->Closed ops (fun i=>listed.getD i false)->(∀j,n<=j->listed.getD j false=false)->
   left (fun i=>listed.getD i false) ops.length<=fuel->
   St c (runC (fun i=>listed.getD i false) 0 (Es.map Eff.cg) g0) (runC (fun i=>listed.getD i false) 0 (Es.map Eff.ch) h0) (runC (fun i=>listed.getD i false) 0 (Es.map Eff.ca) al0) a w->
   wpAnyIn (fc c.ro) 0 P .any ops.toArray Q fuel listed a w:=by
 have hsm: ∀(i:Nat) (E:Eff),Es[i]? =some E->(Es.map Eff.sm)[i]? =some E.sm:=fun i E h=>by rw [List.getElem?_map,h];rfl
 have hpair: ∀(i j:Nat) (E E':Eff),i < j->Es[i]? =some E->Es[j]? =some E'->((masks ops #[]).getD j 0).testBit i=true∨Indep E.sm E'.sm:=fun i j E E' hij hi hj=>
  goAll_spec (Es.map Eff.sm) [] hgo i j _ _ hij (Nat.zero_le _) (by simpa using hsm i E hi) (by simpa using hsm j E' hj)
 have hmask: ∀D,Closed ops D-> ∀i j,((masks ops #[]).getD i 0).testBit j=true->(∀o,ops[i]? =some o-> ∀e∈o.after.toList,Region.binds .any e=true->D e.on=true)->D j=true:=by
  intro D hcl i j hj hi
  rw [Array.getD_eq_getD_getElem?] at hj
  cases hm:(masks ops #[])[i]? with
  | none=>rw [hm] at hj;simp at hj
  | some m=>rw [hm] at hj;exact xu2 (ops:=ops) ops #[] (by simp) (by simp) D hcl i m hm hi j hj
 have hmaskD: ∀D,Closed ops D-> ∀i j,((masks ops #[]).getD i 0).testBit j=true->D i=true->D j=true:=fun D hcl i j hj hi=>hmask D hcl i j hj fun o ho=>hcl i o ho hi
 have hall: ∀(fuel:Nat) (listed:Array Bool) (a:Act) (w:World),listed.size=ops.length->Closed ops (fun i=>listed.getD i false)->(∀j,n<=j->listed.getD j false=false)->left (fun i=>listed.getD i false) ops.length<=fuel->
   St c (runC (fun i=>listed.getD i false) 0 (Es.map Eff.cg) g0) (runC (fun i=>listed.getD i false) 0 (Es.map Eff.ch) h0) (runC (fun i=>listed.getD i false) 0 (Es.map Eff.ca) al0) a w->
   (∀j,j < n->listed.getD j false=true)->wpAnyIn (fc c.ro) 0 P .any ops.toArray Q fuel listed a w:=by
  intro fuel listed a w hsz hcl hno hleft hs hall
  have hcong: ∀{β:Type} (l:List (Chg β)) (f:Nat->β),l.length=n->runC (fun i=>listed.getD i false) 0 l f=runC (fun _=>true) 0 l f:=fun l f hl=>by
   funext s
   refine xg6 l 0 f f rfl fun j C hj _=> ?_
   rw [Nat.zero_add]
   exact hall j (by have:=(List.getElem?_eq_some_iff.1 hj).1;omega)
  rw [hcong _ _ (by simp [hlen]),hcong _ _ (by simp [hlen]),hcong _ _ (by simp [hlen])] at hs
  have hge:=left_ge (D:=fun i=>listed.getD i false) hno ops.length
  refine hQ fuel listed a w hsz hcl (fun j=> ?_) (by omega) hs
  rcases Nat.lt_or_ge j n with h1 | h1
  ·rw [hall j h1,decide_eq_true h1]
  ·rw [hno j h1,decide_eq_false (by omega)]
 have hsome: ∀(listed:Array Bool),listed.size=ops.length-> ¬(∀j,j < n->listed.getD j false=true)->Region.ready .any ops.toArray listed≠[]:=by
  intro listed hsz hnall hr
  refine hnall fun i=> ?_
  induction i using Nat.strongRecOn with
  | _ i ih=>
   intro hi
   cases hl:listed.getD i false with
   | true=>rfl
   | false=>
    exfalso
    have:i∈Region.ready .any ops.toArray listed:=by
     rw [mem_ready]
     refine ⟨?_,ops[i],by simp [show i < ops.length by omega],fun e he hb=> ?_⟩
     ·rw [Array.getD_eq_getD_getElem?] at hl ⊢
      rw [Array.getElem?_eq_getElem (by omega)] at hl ⊢
      simpa using hl
     ·have hon:=xr0 ops 0 hed i ops[i] (List.getElem?_eq_getElem (by omega)) e (by simpa using he) hb
      exact ih e.on (by omega) (by omega)
    rw [hr] at this
    cases this
 intro fuel
 induction fuel with
 | zero=>
  intro listed a w hsz hcl hno hleft hs
  refine hall 0 listed a w hsz hcl hno hleft hs fun j hj=> ?_
  exact left_zero (D:=fun i=>listed.getD i false) ops.length (by omega) j (by omega)
 | succ fuel ih=>
  intro listed a w hsz hcl hno hleft hs
  by_cases hal: ∀j,j < n->listed.getD j false=true
  ·exact hall _ listed a w hsz hcl hno hleft hs hal
  refine ⟨fun hr=>absurd hr (hsome listed hsz hal),fun i hi=> ?_⟩
  have hin:i < n:=by
   rw [mem_ready] at hi
   obtain ⟨h1,o,ho,hedge⟩:=hi
   have hlt:i < ops.length:=by
    have:=(Array.getElem?_eq_some_iff.1 ho).1
    simpa using this
   refine Decidable.byContradiction fun hge=>hal fun j hj=> ?_
   exact hmask _ hcl i j (hrest i (by omega) hlt j (by omega)) fun o' ho'' e he hbd=>by
    have ho3:ops[i]? =some o:=by simpa using ho
    rw [ho3] at ho''
    cases ho''
    exact hedge e (by simpa using he) hbd
  rw [mem_ready] at hi
  obtain ⟨h1,o,ho,hedge⟩:=hi
  have hlt:i < ops.length:=by
   have:=(Array.getElem?_eq_some_iff.1 ho).1
   simpa using this
  have ho':ops[i]? =some o:=by simpa using ho
  have hEi:Es[i]? =some (Es[i]'(by omega)):=List.getElem?_eq_getElem (by omega)
  generalize hE:Es[i]'(by omega)=E at hEi
  have hDi:listed.getD i false=false:=by
   rw [Array.getD_eq_getD_getElem?,Array.getElem?_eq_getElem (by omega)] at h1 ⊢
   simpa using h1
  have hahead: ∀j E',Es[j]? =some E'->j≠i-> ¬Indep E'.sm E.sm-> ¬Indep E.sm E'.sm->listed.getD j false=decide (j < i):=by
   intro j E' hj hji hn1 hn2
   rcases Nat.lt_or_ge j i with hlt' | hge
   ·rw [decide_eq_true hlt']
    rcases hpair j i E' E hlt' hj hEi with hb | hb
    ·exact hmask _ hcl i j hb fun o' ho'' e he hbd=>by
      rw [ho'] at ho''
      cases ho''
      exact hedge e (by simpa using he) hbd
    ·exact absurd hb hn1
   ·rw [decide_eq_false (by omega)]
    rcases hpair i j E E' (by omega) hEi hj with hb | hb
    ·cases hd':listed.getD j false with
     | false=>rfl
     | true=>
      have this:listed.getD i false=true:=hmaskD _ hcl j i hb hd'
      rw [hDi] at this
      cases this
    ·exact absurd hb hn2
  have hp0:=hpre i E hEi
  have hpD:E.Pre c (runC (fun i=>listed.getD i false) 0 (Es.map Eff.cg) g0) (runC (fun i=>listed.getD i false) 0 (Es.map Eff.ch) h0) (runC (fun i=>listed.getD i false) 0 (Es.map Eff.ca) al0):=by
   refine ⟨Rd.congr (fun s hs=> ?_) hp0.rd,Kr.congr (fun s hs=> ?_) hp0.kr,Nk.congr (fun s hs=> ?_) hp0.nk,fun x hx=> ?_⟩
   ·refine xg6 _ 0 _ _ rfl fun j C hj hsome=> ?_
    rw [List.getElem?_map] at hj
    cases hj':Es[j]? with
    | none=>rw [hj'] at hj;cases hj
    | some E'=>
     rw [hj'] at hj
     cases hj
     have hw:=Eff.cg_some.1 hsome
     rw [Nat.zero_add]
     by_cases hji:j=i
     ·subst hji;rw [decide_eq_false (by omega)];exact hDi.symm
     ·exact (hahead j E' hj' hji (fun hI=>hI.h1 s hw hs) (fun hI=>hI.h3 s hw hs)).symm
   ·refine xg6 _ 0 _ _ rfl fun j C hj hsome=> ?_
    rw [List.getElem?_map] at hj
    cases hj':Es[j]? with
    | none=>rw [hj'] at hj;cases hj
    | some E'=>
     rw [hj'] at hj
     cases hj
     have hw:=Eff.ch_some.1 hsome
     rw [Nat.zero_add]
     by_cases hji:j=i
     ·subst hji;rw [decide_eq_false (by omega)];exact hDi.symm
     ·exact (hahead j E' hj' hji (fun hI=>hI.h4 s hw hs) (fun hI=>hI.h6 s hw hs)).symm
   ·refine xg6 _ 0 _ _ rfl fun j C hj hsome=> ?_
    rw [List.getElem?_map] at hj
    cases hj':Es[j]? with
    | none=>rw [hj'] at hj;cases hj
    | some E'=>
     rw [hj'] at hj
     cases hj
     rw [Nat.zero_add]
     by_cases hji:j=i
     ·subst hji;rw [decide_eq_false (by omega)];exact hDi.symm
     ·exfalso
      have hm:s∈E'.nk:=Eff.ca_mem hsome
      have hs':s∈E.sm.nk:=hs
      rcases Nat.lt_or_ge j i with hlt' | hge
      ·exact (xn6 hnk).2 j i _ _ hlt' (hsm j E' hj') (hsm i E hEi) s hm hs'
      ·exact (xn6 hnk).2 i j _ _ (by omega) (hsm i E hEi) (hsm j E' hj') s hs' hm
   ·exact dOk_spec hd i _ (hsm i E hEi) x.1 (by simp [Eff.sm,hx])
  have hD': ∀j,j≠i->(listed.setIfInBounds i true).getD j false=listed.getD j false:=fun j hj=>Go.getD_set_ne false (fun h=>hj h.symm)
  have hi':(listed.setIfInBounds i true).getD i false=true:=by
   rw [Array.getD_eq_getD_getElem?];simp [hsz,hlt]
  have hg':E.g (runC (fun i=>listed.getD i false) 0 (Es.map Eff.cg) g0)=runC (fun j=>(listed.setIfInBounds i true).getD j false) 0 (Es.map Eff.cg) g0:=by
   rw [<-Eff.cg_run]
   refine xr5 (D':=fun j=>(listed.setIfInBounds i true).getD j false) (i:=i) (by rw [List.getElem?_map,hEi];rfl) hD' hi' (fun j C' hj hij s h1 h2=> ?_) _
   rw [List.getElem?_map] at hj
   cases hj':Es[j]? with
   | none=>rw [hj'] at hj;cases hj
   | some E'=>
    rw [hj'] at hj
    cases hj
    have:=hahead j E' hj' (by omega) (fun hI=>hI.h2 s (Eff.cg_some.1 h2) (Eff.cg_some.1 h1)) (fun hI=>hI.h2 s (Eff.cg_some.1 h1) (Eff.cg_some.1 h2))
    rw [this,decide_eq_false (by omega)]
  have hh':E.h (runC (fun i=>listed.getD i false) 0 (Es.map Eff.ch) h0)=runC (fun j=>(listed.setIfInBounds i true).getD j false) 0 (Es.map Eff.ch) h0:=by
   rw [<-Eff.ch_run]
   refine xr5 (D':=fun j=>(listed.setIfInBounds i true).getD j false) (i:=i) (by rw [List.getElem?_map,hEi];rfl) hD' hi' (fun j C' hj hij s h1 h2=> ?_) _
   rw [List.getElem?_map] at hj
   cases hj':Es[j]? with
   | none=>rw [hj'] at hj;cases hj
   | some E'=>
    rw [hj'] at hj
    cases hj
    have:=hahead j E' hj' (by omega) (fun hI=>hI.h5 s (Eff.ch_some.1 h2) (Eff.ch_some.1 h1)) (fun hI=>hI.h5 s (Eff.ch_some.1 h1) (Eff.ch_some.1 h2))
    rw [this,decide_eq_false (by omega)]
  have ha':E.al (runC (fun i=>listed.getD i false) 0 (Es.map Eff.ca) al0)=runC (fun j=>(listed.setIfInBounds i true).getD j false) 0 (Es.map Eff.ca) al0:=by
   rw [<-Eff.ca_run]
   refine xr5 (D':=fun j=>(listed.setIfInBounds i true).getD j false) (i:=i) (by rw [List.getElem?_map,hEi];rfl) hD' hi' (fun j C' hj hij s h1 h2=> ?_) _
   rw [List.getElem?_map] at hj
   cases hj':Es[j]? with
   | none=>rw [hj'] at hj;cases hj
   | some E'=>
    rw [hj'] at hj
    cases hj
    exfalso
    exact (xn6 hnk).2 i j _ _ hij (hsm i E hEi) (hsm j E' hj') s (Eff.ca_mem h1) (Eff.ca_mem h2)
  have hcl':Closed ops (fun j=>(listed.setIfInBounds i true).getD j false):=by
   intro j o' hj hDj e he hb
   by_cases hji:j=i
   ·subst hji
    rw [ho'] at hj
    cases hj
    exact getD_set_true (hedge e (by simpa using he) hb)
   ·simp only [hD' j hji] at hDj
    exact getD_set_true (hcl j o' hj hDj e he hb)
  have hleft':left (fun j=>(listed.setIfInBounds i true).getD j false) ops.length<=fuel:=by
   have:=left_set (D:=fun j=>listed.getD j false) (D':=fun j=>(listed.setIfInBounds i true).getD j false) (i:=i) hD' hi' hDi ops.length hlt
   omega
  have hdo:=hD i o E ho' hEi _ _ _ a w hpD hs
  have hgo': ∀a' w',St c (E.g (runC (fun i=>listed.getD i false) 0 (Es.map Eff.cg) g0)) (E.h (runC (fun i=>listed.getD i false) 0 (Es.map Eff.ch) h0)) (E.al (runC (fun i=>listed.getD i false) 0 (Es.map Eff.ca) al0)) a' w'->
    wpAnyIn (fc c.ro) 0 P .any ops.toArray Q fuel (listed.setIfInBounds i true) a' w':=fun a' w' hs'=>by
   rw [hg',hh',ha'] at hs'
   exact ih _ a' w' (by simp [hsz]) hcl' (fun j hj=>by rw [hD' j (by omega)];exact hno j hj) hleft' hs'
  unfold wpOpIn
  rw [ho]
  simp only
  split
  ·rename_i hw
   rw [if_pos hw] at hdo
   exact Oper.wpIn_mono hgo' (noQ_imp hdo)
  ·rename_i hw
   rw [if_neg hw] at hdo
   exact ⟨fun _ _=>trivial,hgo' _ _ hdo⟩
theorem any_tail {ops:List Oper} {Q:Exit->Act->World->Prop} {n:Nat} (hed:edgesOk 0 ops=true) (hrest: ∀i,n<=i->i < ops.length-> ∀j,j < i->((masks ops #[]).getD i 0).testBit j=true):
  ∀(k m:Nat) (fuel:Nat) (listed:Array Bool) (a:Act) (w:World),n<=m->m+k=ops.length->listed.size=ops.length->Closed ops (fun i=>listed.getD i false)->(∀j,listed.getD j false=decide (j < m))->k<=fuel->
   wpListIn (fc c.ro) 0 P ops.toArray Q (ops.drop m) a w->wpAnyIn (fc c.ro) 0 P .any ops.toArray Q fuel listed a w:=by
 have hmask: ∀D,Closed ops D-> ∀i j,((masks ops #[]).getD i 0).testBit j=true->(∀o,ops[i]? =some o-> ∀e∈o.after.toList,Region.binds .any e=true->D e.on=true)->D j=true:=by
  intro D hcl i j hj hi
  rw [Array.getD_eq_getD_getElem?] at hj
  cases hm:(masks ops #[])[i]? with
  | none=>rw [hm] at hj;simp at hj
  | some m=>rw [hm] at hj;exact xu2 (ops:=ops) ops #[] (by simp) (by simp) D hcl i m hm hi j hj
 intro k
 induction k with
 | zero=>
  intro m fuel listed a w hnm hmk hsz hcl hli hfu hw
  have hnil:Region.ready .any ops.toArray listed=[]:=by
   cases hr:Region.ready .any ops.toArray listed with
   | nil=>rfl
   | cons i rs=>
    have hi:i∈Region.ready .any ops.toArray listed:=by rw [hr];simp
    rw [mem_ready] at hi
    obtain ⟨h1,o,ho,_⟩:=hi
    have hlt:i < ops.length:=by
     have:=(Array.getElem?_eq_some_iff.1 ho).1
     simpa using this
    have this:=hli i
    rw [decide_eq_true (by omega)] at this
    rw [Array.getD_eq_getD_getElem?,Array.getElem?_eq_getElem (by omega)] at h1 this
    simp at h1 this
    rw [h1] at this
    cases this
  rw [List.drop_of_length_le (by omega)] at hw
  cases fuel with
  | zero=>exact ⟨hnil,hw⟩
  | succ f=>
   refine ⟨fun _=>hw,fun i hi=> ?_⟩
   rw [hnil] at hi;cases hi
 | succ k ih=>
  intro m fuel listed a w hnm hmk hsz hcl hli hfu hw
  have hlt:m < ops.length:=by omega
  have hmr:m∈Region.ready .any ops.toArray listed:=by
   rw [mem_ready]
   have hl:=hli m
   rw [decide_eq_false (by omega)] at hl
   refine ⟨?_,ops[m],by simp [hlt],fun e he hb=> ?_⟩
   ·rw [Array.getD_eq_getD_getElem?] at hl ⊢
    rw [Array.getElem?_eq_getElem (by omega)] at hl ⊢
    simpa using hl
   ·have hon:=xr0 ops 0 hed m ops[m] (List.getElem?_eq_getElem (by omega)) e (by simpa using he) hb
    rw [hli,decide_eq_true (by omega)]
  cases fuel with
  | zero=>omega
  | succ f=>
   refine ⟨fun hr=>(by rw [hr] at hmr;cases hmr),fun i hi=> ?_⟩
   rw [mem_ready] at hi
   obtain ⟨h1,o,ho,hedge⟩:=hi
   have hlt2:i < ops.length:=by
    have:=(Array.getElem?_eq_some_iff.1 ho).1
    simpa using this
   have ho3:ops[i]? =some o:=by simpa using ho
   have him:i=m:=by
    have hge:m<=i:=Decidable.byContradiction fun hge=>by
     have this:=hli i
     rw [decide_eq_true (by omega)] at this
     rw [Array.getD_eq_getD_getElem?,Array.getElem?_eq_getElem (by omega)] at h1 this
     simp at h1 this
     rw [h1] at this
     cases this
    refine Decidable.byContradiction fun hne=> ?_
    have hb:=hrest i (by omega) hlt2 m (by omega)
    have:=hmask _ hcl i m hb fun o' ho'' e he hbd=>by
     rw [ho3] at ho''
     cases ho''
     exact hedge e (by simpa using he) hbd
    rw [hli,decide_eq_false (by omega)] at this
    cases this
   subst him
   have edr:ops.drop i=o::ops.drop (i+1):=by
    rw [List.drop_eq_getElem_cons hlt]
    rw [List.getElem?_eq_getElem hlt] at ho3
    cases ho3;rfl
   rw [edr] at hw
   unfold wpListIn at hw
   have hcl':Closed ops (fun j=>(listed.setIfInBounds i true).getD j false):=by
    intro j o' hj hDj e he hb
    by_cases hji:j=i
    ·subst hji
     rw [ho3] at hj
     cases hj
     exact getD_set_true (hedge e (by simpa using he) hb)
    ·simp only [Go.getD_set_ne false (fun h=>hji h.symm)] at hDj
     exact getD_set_true (hcl j o' hj hDj e he hb)
   have hli': ∀j,(listed.setIfInBounds i true).getD j false=decide (j < i+1):=fun j=>by
    by_cases hji:j=i
    ·subst hji
     rw [Array.getD_eq_getD_getElem?];simp [hsz,hlt]
    ·rw [Go.getD_set_ne false (fun h=>hji h.symm),hli]
     by_cases h2:j < i
     ·rw [decide_eq_true h2,decide_eq_true (by omega)]
     ·rw [decide_eq_false h2,decide_eq_false (by omega)]
   have key:=fun a w (hw2:wpListIn (fc c.ro) 0 P ops.toArray Q (ops.drop (i+1)) a w)=>ih (i+1) f (listed.setIfInBounds i true) a w (by omega) (by omega) (by simp [hsz]) hcl' hli' (by omega) hw2
   unfold wpOpIn
   rw [ho]
   simp only
   split
   ·rename_i hwa
    rw [if_pos hwa] at hw
    exact Oper.wpIn_mono key hw
   ·rename_i hwa
    rw [if_neg hwa] at hw
    exact ⟨hw.1,key _ _ hw.2⟩
end
def lastB (n:Nat) (ops:List Oper):Bool:=(List.range ops.length).all fun i=>Nat.blt i n || (List.range i).all fun j=>((masks ops #[]).getD i 0).testBit j
theorem lastB_spec {n:Nat} {ops:List Oper} (h:lastB n ops=true): ∀i,n<=i->i < ops.length-> ∀j,j < i->((masks ops #[]).getD i 0).testBit j=true:=fun i h1 h2 j hj=>by
 have h3:=List.all_eq_true.1 h i (List.mem_range.2 h2)
 rw [Bool.or_eq_true] at h3
 rcases h3 with h3 | h3
 ·have:i < n:=by simpa using h3
  omega
 ·exact List.all_eq_true.1 h3 j (List.mem_range.2 hj)
def chkY (ops:List Oper) (sms:List Sm) (n N:Nat):Bool:=goAll (masks ops #[]) [] sms && dOk N sms && nkOk sms [] && edgesOk 0 ops && lastB n ops && Nat.ble n ops.length
section
variable {P:Program} {c:Base} {Q:Exit->Act->World->Prop} {g:Slots} {h:Keys} {al:Names}
theorem C_drawY (hm:P.follows .mixedOrders=true) {id n:Nat} {ops:List Oper}
  (H:RSeq P c ops.toArray (fun sms g h al=>chkY ops sms n c.N=true/\wl P c ops.toArray Q (ops.drop n) g h al) (ops.take n) [] g h al):wc P c (.region id ops.toArray true) Q g h al:=by
 intro a w hs
 obtain ⟨Es,h1,h2,h3,h4⟩:=RSeq.split (g0:=g) (h0:=h) (al0:=al) (ops.take n) [] H
 simp only [chkY,Bool.and_eq_true,List.nil_append] at h3
 obtain ⟨⟨⟨⟨⟨c1,c2⟩,c3⟩,c4⟩,c5⟩,c6⟩:=h3
 have hn:n<=ops.length:=Nat.le_of_ble_eq_true c6
 have hle:n=Es.length:=by rw [h1,List.length_take];omega
 refine wpIn_region_any hm ?_
 have hsz:(Array.replicate ops.toArray.size false).size=ops.length:=by simp
 have hfl: ∀i,(Array.replicate ops.toArray.size false).getD i false=false:=fun i=>by
  rw [Array.getD_eq_getD_getElem?,Array.getElem?_replicate]
  split <;> rfl
 have hfalse:(fun i=>(Array.replicate ops.toArray.size false).getD i false)=fun _=>false:=funext hfl
 have h0: ∀{β:Type} (l:List (Chg β)) (i:Nat) (f:Nat->β),runC (fun _=>false) i l f=f:=by
  intro β l
  induction l with
  | nil=>intro i f;rfl
  | cons C l ih=>intro i f;simp only [runC,cond_false];exact ih _ _
 have htake: ∀(i:Nat) (o:Oper) (E:Eff),ops[i]? =some o->Es[i]? =some E->(ops.take n)[i]? =some o:=fun i o E ho hE=>by
  have hi:i < Es.length:=(List.getElem?_eq_some_iff.1 hE).1
  rw [List.getElem?_take,if_pos (by omega)];exact ho
 refine any_pre (g0:=g) (h0:=h) (al0:=al) hn hle (fun i o E ho hE=>(h2 i o E (htake i o E ho hE) hE).1) (fun i E hE=> ?_) c1 c2 c3 c4 (lastB_spec c5) (fun fuel listed a w hsz hcl hli hfu hs=> ?_) _ _ a _ hsz ?_ (fun j _=>hfl j) ?_ ?_
 ·have hi:i < Es.length:=(List.getElem?_eq_some_iff.1 hE).1
  have:=(h2 i ops[i] E (htake i _ E (List.getElem?_eq_getElem (by omega)) hE) hE).2
  rw [xq4,xq4,xq4]
  simpa [List.map_take] using this
 ·rw [xn5,xn5,xn5] at hs
  exact any_tail c4 (lastB_spec c5) (ops.length - n) n fuel listed a w (Nat.le_refl _) (by omega) hsz hcl hli hfu (h4 a w (by simpa using hs))
 ·rw [hfalse];intro i o _ hD;cases hD
 ·rw [hfalse]
  have: ∀n,left (fun _=>false) n=n:=by
   intro n
   induction n with
   | zero=>rfl
   | succ n ih=>simp only [left,ih];rfl
  rw [this];simp
 ·rw [hfalse,h0,h0,h0]
  obtain ⟨η,s⟩:=hs
  exact ⟨η,s.ext (Ext.drew w)⟩
end
theorem R_endY {P:Program} {c:Base} {Q:Exit->Act->World->Prop} {g:Slots} {h:Keys} {al:Names} {A:Array Oper} {sms:List Sm} {n N:Nat} {ops rest:List Oper} (h1:chkY ops sms n N=true) (h2:wl P c A Q rest g h al):RSeq P c A (fun sms g h al=>chkY ops sms n N=true/\wl P c A Q rest g h al) [] sms g h al:=⟨h1,h2⟩
end An
namespace An.S
open Go Go.Proofs An
instance ti44:TyI Tryz.prog 44 1 false:=⟨by kernel_rfl,by kernel_rfl⟩
instance ti124:TyI Tryz.prog 124 1 false:=⟨by kernel_rfl,by kernel_rfl⟩
instance ti126:TyI Tryz.prog 126 2 true:=⟨by kernel_rfl,by kernel_rfl⟩
instance sl43:SlI Tryz.prog 43 3 1 false:=⟨Tryz.underlying43,ti3⟩
instance sl214:SlI Tryz.prog 214 44 1 false:=⟨Tryz.underlying214,ti44⟩
instance fo126_0:FoI Tryz.prog 126 0 0:=⟨by kernel_rfl⟩
instance fo126_1:FoI Tryz.prog 126 1 1:=⟨by kernel_rfl⟩
instance fi43:FnI Tryz.prog 43:=⟨_,Tryz.func43,by kernel_rfl,rfl⟩
instance fi45:FnI Tryz.prog 45:=⟨_,Tryz.func45,by kernel_rfl,rfl⟩
instance fi129:FnI Tryz.prog 129:=⟨_,Tryz.func129,by kernel_rfl,rfl⟩
instance fi130:FnI Tryz.prog 130:=⟨_,Tryz.func130,by kernel_rfl,rfl⟩
theorem el3:ElI Tryz.prog 3 1 8 false (.int .i64 0):=⟨ti3,by kernel_rfl,by kernel_rfl⟩
theorem el44:ElI Tryz.prog 44 1 24 false (.slice none 0 0):=⟨ti44,by kernel_rfl,by kernel_rfl⟩
theorem zr126:(Tryz.prog.info? 126).bind (·.zero)=some (.agg #[.pointer none,.pointer none])/\ ∀F w,(tS [⟨1,false,(tE (.pointer none))⟩,⟨1,false,(tE (.pointer none))⟩]).p F w (.agg #[.pointer none,.pointer none]):=⟨by kernel_rfl,fun _ _=>⟨_,rfl,rfl,⟨fun _=>rfl,rfl⟩,⟨fun _=>rfl,rfl⟩,trivial⟩⟩
theorem bu94:BuI Tryz.prog 94 (fun i=>[(0,1),(1,1)][i]?) (.agg #[.int .i64 0,.int .i64 0]):=BuI.struct Tryz.underlying94 (by kernel_rfl) (by kernel_rfl)
theorem zf3:Flat 1 false (.int .i64 0):=xd3 rfl
theorem zf44:Flat 1 false (.slice none 0 0):=xd3 rfl
instance un43:UnI Tryz.prog 43 (.slice 3):=⟨Tryz.underlying43⟩
instance un214:UnI Tryz.prog 214 (.slice 44):=⟨Tryz.underlying214⟩
def laySortR:Go.Shelf.Ren:=⟨fun n=>match n with | 125=>73 | 128=>115 | 129=>116 | 189=>43 | 215=>162 | 216=>112 | 257=>72 | 294=>106 | 295=>107 | 296=>108 | 297=>109 | 298=>110 | 299=>111 | 300=>113 | 301=>114 | 328=>157 | 329=>158 | 330=>159 | 331=>160 | 332=>161 | 343=>196 | n=>n,fun n=>match n with | 0=>0 | 3=>3 | 4=>4 | 5=>5 | 9=>9 | 28=>43 | 46=>119 | 51=>168 | 53=>157 | 131=>165 | 182=>159 | 183=>160 | 218=>201 | 222=>205 | 228=>229 | 229=>145 | n=>n,fun n=>n⟩
theorem laySort:Go.Proofs.Lays.n189 Tryz.prog laySortR where
 mixed:=by kernel_rfl
 f125:=by kernel_rfl
 f128:=by kernel_rfl
 f129:=by kernel_rfl
 f189:=by kernel_rfl
 f215:=by kernel_rfl
 f216:=by kernel_rfl
 f257:=by kernel_rfl
 f294:=by kernel_rfl
 f295:=by kernel_rfl
 f296:=by kernel_rfl
 f297:=by kernel_rfl
 f298:=by kernel_rfl
 f299:=by kernel_rfl
 f300:=by kernel_rfl
 f301:=by kernel_rfl
 f328:=by kernel_rfl
 f329:=by kernel_rfl
 f330:=by kernel_rfl
 f331:=by kernel_rfl
 f332:=by kernel_rfl
 f343:=by kernel_rfl
 t0:=by kernel_rfl
 a0:=fun w=>by kernel_rfl
 z0:=fun w=>by kernel_rfl
 v0:=fun w=>by kernel_rfl
 t3:=by kernel_rfl
 a3:=fun w=>by kernel_rfl
 z3:=fun w=>by kernel_rfl
 v3:=fun w=>by kernel_rfl
 t4:=by kernel_rfl
 a4:=fun w=>by kernel_rfl
 z4:=fun w=>by kernel_rfl
 v4:=fun w=>by kernel_rfl
 t5:=by kernel_rfl
 a5:=fun w=>by kernel_rfl
 z5:=fun w=>by kernel_rfl
 v5:=fun w=>by kernel_rfl
 t9:=by kernel_rfl
 a9:=fun w=>by kernel_rfl
 z9:=fun w=>by kernel_rfl
 v9:=fun w=>by kernel_rfl
 t28:=by kernel_rfl
 a28:=fun w=>by kernel_rfl
 z28:=fun w=>by kernel_rfl
 v28:=fun w=>by kernel_rfl
 t46:=by kernel_rfl
 a46:=fun w=>by kernel_rfl
 z46:=fun w=>by kernel_rfl
 v46:=fun w=>by kernel_rfl
 t51:=by kernel_rfl
 a51:=fun w=>by kernel_rfl
 z51:=fun w=>by kernel_rfl
 v51:=fun w=>by kernel_rfl
 t53:=by kernel_rfl
 a53:=fun w=>by kernel_rfl
 z53:=fun w=>by kernel_rfl
 v53:=fun w=>by kernel_rfl
 t131:=by kernel_rfl
 a131:=fun w=>by kernel_rfl
 z131:=fun w=>by kernel_rfl
 v131:=fun w=>by kernel_rfl
 t182:=by kernel_rfl
 a182:=fun w=>by kernel_rfl
 z182:=fun w=>by kernel_rfl
 v182:=fun w=>by kernel_rfl
 t183:=by kernel_rfl
 a183:=fun w=>by kernel_rfl
 z183:=fun w=>by kernel_rfl
 v183:=fun w=>by kernel_rfl
 t218:=by kernel_rfl
 a218:=fun w=>by kernel_rfl
 z218:=fun w=>by kernel_rfl
 v218:=fun w=>by kernel_rfl
 t222:=by kernel_rfl
 a222:=fun w=>by kernel_rfl
 z222:=fun w=>by kernel_rfl
 v222:=fun w=>by kernel_rfl
 t228:=by kernel_rfl
 a228:=fun w=>by kernel_rfl
 z228:=fun w=>by kernel_rfl
 v228:=fun w=>by kernel_rfl
 t229:=by kernel_rfl
 a229:=fun w=>by kernel_rfl
 z229:=fun w=>by kernel_rfl
 v229:=fun w=>by kernel_rfl
def layCompR:Go.Shelf.Ren:=⟨fun n=>match n with | 20=>45 | n=>n,fun n=>match n with | 0=>0 | 3=>3 | 4=>4 | 22=>43 | n=>n,fun n=>n⟩
theorem layComp:Go.Proofs.Lays2.n20 Tryz.prog layCompR where
 mixed:=by kernel_rfl
 f20:=by kernel_rfl
 t0:=by kernel_rfl
 a0:=fun w=>by kernel_rfl
 z0:=fun w=>by kernel_rfl
 v0:=fun w=>by kernel_rfl
 t3:=by kernel_rfl
 a3:=fun w=>by kernel_rfl
 z3:=fun w=>by kernel_rfl
 v3:=fun w=>by kernel_rfl
 t4:=by kernel_rfl
 a4:=fun w=>by kernel_rfl
 z4:=fun w=>by kernel_rfl
 v4:=fun w=>by kernel_rfl
 t22:=by kernel_rfl
 a22:=fun w=>by kernel_rfl
 z22:=fun w=>by kernel_rfl
 v22:=fun w=>by kernel_rfl
 i3:=by kernel_rfl
theorem c_SortI (xs:List Int) (hn:xs.length < 4611686018427387904):CtG Tryz.prog 43 [(1,⟨3,1,false,rV tI xs⟩)] [.own (.sl 1 1 0 xs.length)] (.val (tE (.tuple #[]))) [(1,⟨3,1,false,rV tI (srtI xs)⟩)] []:=sortI laySort 3 xs hn
theorem c_CompactI (xs:List Int):CtG Tryz.prog 45 [(1,⟨3,1,false,rV tI xs⟩)] [.own (.sl 1 1 0 xs.length)] (.own (.sl 1 1 0 (Lib.compact xs).length)) [(1,⟨3,1,false,rV tI (Lib.compact xs)⟩)] []:=compactI layComp 3 xs
theorem srtI_len (xs:List Int):(srtI xs).length=xs.length:=List.length_mergeSort ..
theorem c_CompactS (xs:List Int):CtG Tryz.prog 45 [(1,⟨3,1,false,rV tI (srtI xs)⟩)] [.own (.sl 1 1 0 xs.length)] (.own (.sl 1 1 0 (brd xs).length)) [(1,⟨3,1,false,rV tI (brd xs)⟩)] []:=by
 have h:=c_CompactI (srtI xs)
 rw [srtI_len] at h;exact h
theorem onV_some {l xs:List Tst} {d:Int} (h:onL l d=xs) (h0:0 < xs.length/\(xs.getD 0 tst0).lo<=d):onV l d=some (xs.getD 0 tst0).v:=by rw [onV,h,if_pos h0]
theorem onV_none {l xs:List Tst} {d:Int} (h:onL l d=xs) (h0: ¬(0 < xs.length/\(xs.getD 0 tst0).lo<=d)):onV l d=none:=by rw [onV,h,if_neg h0]
theorem tlen_take {ls:List (List Tst)} {i:Nat} (hi:i < ls.length):tlen (ls.take i)+(ls.getD i []).length<=tlen ls:=by
 have e:tlen (ls.take (i+1))=tlen (ls.take i)+(ls.getD i []).length:=by
  rw [List.take_succ_eq_append_getElem hi,tlen,List.map_append,List.sum_append,List.getD_eq_getElem?_getD,List.getElem?_eq_getElem hi];simp [tlen]
 have e2:tlen ls=tlen (ls.take (i+1))+tlen (ls.drop (i+1)):=by
  rw [tlen,tlen,tlen,<-List.sum_append,<-List.map_append,List.take_append_drop]
 omega
theorem c_borders (ls:List (List Tst)) (hl:ls.length<=1000) (ht:tlen ls<=1000000):
  Ct Tryz.prog 129 [tL 1 false (fun l=>tL 8 true tTs l) ls] (tL 1 false tI (bds ls)):=by
 refine Ct.intro Tryz.func129 rfl Tryz.ntmps129 rfl ?_
 intro w F
 refine A7 ?_
 refine RE (xe3 (k:=3) 3 1 false rfl (fun _=>rfl)) trivial trivial qA ?_
 refine A11 ?_
 refine cL (fun (fm:(Nat)×(List Int))=>(fun (i:Nat) (xs:List Int)=>i<=ls.length/\xs=(ls.take i).flatMap eds) fm.1 fm.2) (wB fun (i:Nat) (xs:List Int)=>uV (uV (uV (uO uN 3 (.sl 3 1 0 xs.length)) 8 (tL 1 false (fun l=>tL 8 true tTs l) ls)) 9 (tI ls.length)) 10 (tI i)) (wB fun (i:Nat) (xs:List Int)=>uK uN 3 3 1 false (rV tI xs)) [3] (fun (fm:(Nat)×(List Int))=>(fun (i:Nat) (xs:List Int)=>ls.length - i) fm.1 fm.2) ((0,[])) (by dsimp only;exact ⟨Nat.zero_le _,rfl⟩) ?_
 intro fm hI
 obtain ⟨i,xs⟩:=fm
 replace hI:i<=ls.length/\xs=(ls.take i).flatMap eds:=hI
 show wc _ _ _ _ (uV (uV (uV (uO uN 3 (.sl 3 1 0 xs.length)) 8 (tL 1 false (fun l=>tL 8 true tTs l) ls)) 9 (tI ls.length)) 10 (tI i)) (uK uN 3 3 1 false (rV tI xs)) _
 obtain ⟨hi,hx⟩:=hI
 refine A6 ?_
 refine x6 rfl (fun h151=> ?_) (fun h151=> ?_)
 ·
  refine A6 ?_
  refine R2 (x4 sl214 (i) (by omega) (gD (l:=ls) (n:=i) (d:=[]) (by omega))) rfl rfl ?_
  refine A12 ?_
  refine xg9 (s:=14) rfl (fun hl0=> ?_)
  have htk:=tlen_take (ls:=ls) (i:=i) (by omega)
  refine cL (fun (fm:(Nat)×(List Int))=>(fun (j:Nat) (xs:List Int)=>j<=(ls.getD i []).length/\xs=(ls.take i).flatMap eds++eds ((ls.getD i []).take j)) fm.1 fm.2) (wB fun (j:Nat) (xs:List Int)=>uV (uV (uV (uV (uV (uV (uO uN 3 (.sl 3 1 0 xs.length)) 8 (tL 1 false (fun l=>tL 8 true tTs l) ls)) 9 (tI ls.length)) 10 (tI i)) 14 (tL 8 true tTs (ls.getD i []))) 15 (tI (ls.getD i []).length)) 16 (tI j)) (wB fun (j:Nat) (xs:List Int)=>uK uN 3 3 1 false (rV tI xs)) [3] (fun (fm:(Nat)×(List Int))=>(fun (j:Nat) (xs:List Int)=>(ls.getD i []).length - j) fm.1 fm.2) ((0,xs)) (by dsimp only;exact ⟨Nat.zero_le _,by rw [List.take_zero,hx];simp [eds]⟩) ?_
  intro fm hI2
  obtain ⟨j,xs⟩:=fm
  replace hI2:j<=(ls.getD i []).length/\xs=(ls.take i).flatMap eds++eds ((ls.getD i []).take j):=hI2
  show wc _ _ _ _ (uV (uV (uV (uV (uV (uV (uO uN 3 (.sl 3 1 0 xs.length)) 8 (tL 1 false (fun l=>tL 8 true tTs l) ls)) 9 (tI ls.length)) 10 (tI i)) 14 (tL 8 true tTs (ls.getD i []))) 15 (tI (ls.getD i []).length)) 16 (tI j)) (uK uN 3 3 1 false (rV tI xs)) _
  obtain ⟨hj,hx2⟩:=hI2
  have hxl:xs.length=2*tlen (ls.take i)+2*j:=by rw [hx2,List.length_append,flat_len,eds_len,List.length_take,Nat.min_eq_left hj]
  refine A6 ?_
  refine x6 rfl (fun h152=> ?_) (fun h152=> ?_)
  ·
   refine A6 ?_
   refine R2 (x4 sl44 (j) (by omega) (gD (l:=(ls.getD i [])) (n:=j) (d:=tst0) (by omega))) rfl rfl ?_
   refine A1 ?_
   refine RE (x7 (k:=7) (n:=8) (agg:=true) zr69.1 zr69.2 rfl) trivial trivial qA ?_
   refine A9 ?_
   refine R2 (xb5 (n:=2) (f:=fun n:Int=>tI n) [((ls.getD i []).getD j tst0).lo,((ls.getD i []).getD j tst0).hi] Tryz.underlying43 el3 zf3 rfl (fun _=>inferInstance) rfl rfl rfl) rfl rfl (RE (xb3 (k:=3) (k':=26) (f:=fun n:Int=>tI n) (ys:=[((ls.getD i []).getD j tst0).lo,((ls.getD i []).getD j tst0).hi]) (ts':=rV tI (xs++[((ls.getD i []).getD j tst0).lo,((ls.getD i []).getD j tst0).hi])) Tryz.underlying43 el3 zf3 rfl rfl (fun _=>inferInstance) xd2 (by simp;omega) (by simp;omega) (by simp [rV]) (n':=xs.length+2) rfl) qB qA qA ?_)
   refine A8 ?_
   exact xc6 (l:=[3]) (fun j=>cond (Nat.beq j 3) 26 (j)) ((j+1,xs++[((ls.getD i []).getD j tst0).lo,((ls.getD i []).getD j tst0).hi])) ⟨(by dsimp only;exact ⟨by omega,by rw [eds_snoc (by omega),<-List.append_assoc,<-hx2]⟩),(by dsimp only;omega)⟩ (SubR.int rfl (by first | omega | rfl | (dsimp only;omega)) (SubR.int rfl (by first | omega | rfl | (dsimp only;omega)) (SubR.cons rfl (SubR.int rfl (by first | omega | rfl | (dsimp only;omega)) (SubR.int rfl (by first | omega | rfl | (dsimp only;omega)) (SubR.cons rfl ((SubR.consI rfl (Imp.of (by dsimp only;rw [List.length_append];rfl))) SubR.nil))))))) ((SubKR.consI rfl (ImpK.of xa6.symm)) SubKR.nil) (SupG.val (SupG.val (SupG.val (SupG.val (SupG.val (SupG.val (SupG.own rfl SupG.nil))))))) (SupH.cons rfl (supJ xa5) SupH.nil) (lkOk rfl) rfl rfl (fun _ h=>by cases h)
  ·
   refine A10 ?_
   have hje:j=(ls.getD i []).length:=by omega
   subst hje
   exact kF ((i+1,xs)) ⟨(by dsimp only;exact ⟨by omega,by rw [flat_snoc (by omega),hx2,List.take_length]⟩),(by dsimp only;omega)⟩
 ·
  refine A6 ?_
  have hie:i=ls.length:=by omega
  subst hie
  rw [List.take_length] at hx
  have hxl:xs.length=2*tlen ls:=by rw [hx,flat_len]
  have hsl:=srtI_len xs
  refine A2 ?_
  refine RE (xb7 (fun _=>3) (c_SortI xs (by omega)) fi43 rfl (krC (ρ:=fun _=>3) (k:=1) xa6 (krN (ρ:=fun _=>3))) (krC (ρ:=fun _=>3) (k:=1) xa6 (krN (ρ:=fun _=>3))) ⟨⟨rfl,xa5⟩,trivial⟩ rfl) qA qA trivial ?_
  refine A5 ?_
  refine RE (xb7 (fun _=>3) (c_CompactS xs) fi45 rfl (krC (ρ:=fun _=>3) (k:=1) xa6 (krN (ρ:=fun _=>3))) (krC (ρ:=fun _=>3) (k:=1) xa6 (krN (ρ:=fun _=>3))) ⟨⟨rfl,xa5⟩,trivial⟩ rfl) qA qA trivial (RE (xk0 (f:=tI) (xs:=brd xs) (fun _ h=>h) (xg2 rfl) rfl) qA qA trivial ?_)
  refine A3 ?_
  exact E1 rfl rfl (Le.of (by rw [hx];rfl))
theorem c_on (l:List Tst) (d:Int):
  Ct Tryz.prog 130 [tL 8 true tTs l,tI d] (tT [tO 6 true tVa (onV l d),tL 8 true tTs (onL l d)]):=by
 refine Ct.intro Tryz.func130 rfl Tryz.ntmps130 rfl ?_
 intro w F
 refine xm6 ?_
 refine C_reg ?_
 refine R1 xe5 rfl (R1 xe5 rfl (xm4 (by kernel_rfl) (xf5 (xm6 (C_block ?_)))))
 refine cL (fun (xs:List Tst)=>onL xs d=onL l d) (fun (xs:List Tst)=>uV (uV uN 0 (tL 8 true tTs xs)) 1 (tI d)) (fun (xs:List Tst)=>fun _=>none) [] (fun (xs:List Tst)=>xs.length) (l) rfl ?_
 intro xs hI
 refine xg9 (s:=0) rfl (fun hl0=> ?_)
 refine xm6 (xm6 ?_)
 refine C_reg ?_
 refine R1 xb9 rfl (R1 (d_len Tryz.underlying44) rfl (R2 d_gtr rfl rfl (R1 xb9 rfl ?_)))
 refine RGcaseD (t:=9) rfl (fun h124=> ?_) (fun h124=> ?_)
 ·
  refine Rg (decide_eq_true h124) rfl xb9 rfl ⟨rfl,trivial⟩ (Rg (decide_eq_true h124) rfl (x4 sl44 (0) (by omega) (gD (l:=xs) (n:=0) (d:=tst0) (by omega))) rfl ⟨rfl,rfl,trivial⟩ (Rg (decide_eq_true h124) rfl (xf3 fo69_1.h (At.f 1 rfl rfl) rfl) rfl ⟨rfl,trivial⟩ (Rg (decide_eq_true h124) rfl (xm1 ti3) rfl ⟨rfl,trivial⟩ (Rg (decide_eq_true h124) rfl xb9 rfl ⟨rfl,trivial⟩ (Rg (decide_eq_true h124) rfl d_leq rfl ⟨rfl,rfl,trivial⟩ (R2 (xc9 (decide_eq_true h124)) rfl rfl (xm4 (by kernel_rfl) (xf5 ?_))))))))
  refine x6 rfl (fun h124_2=> ?_) (fun h124_2=> ?_)
  ·
   refine C_skip (xf5 (C_block ?_))
   refine C_reg ?_
   refine R1 xb9 rfl (R2 (d_sliceFrom sl44 1 rfl (by omega) rfl) rfl rfl (R1 xe5 rfl (xm4 (by kernel_rfl) (K_norB ?_))))
   exact kF (xs.drop 1) ⟨(by rw [on_next (by omega) (by omega)];exact hI),(by rw [List.length_drop];omega)⟩
  ·
   refine C_exit (K_exT (K_exT (K_exB (xf5 (xm6 (xm6 ?_))))))
   have hst:onL l d=xs:=by rw [<-hI];exact on_stop (by omega)
   refine C_reg ?_
   refine R1 xb9 rfl (R1 (d_len Tryz.underlying44) rfl (R2 d_gtr rfl rfl (R1 xb9 rfl ?_)))
   refine RGcaseD (t:=22) rfl (fun h127=> ?_) (fun h127=> ?_)
   ·
    refine Rg (decide_eq_true h127) rfl xb9 rfl ⟨rfl,trivial⟩ (Rg (decide_eq_true h127) rfl (x4 sl44 (0) (by omega) (gD (l:=xs) (n:=0) (d:=tst0) (by omega))) rfl ⟨rfl,rfl,trivial⟩ (Rg (decide_eq_true h127) rfl (xf3 fo69_0.h (At.f 0 rfl rfl) rfl) rfl ⟨rfl,trivial⟩ (Rg (decide_eq_true h127) rfl (xm1 ti3) rfl ⟨rfl,trivial⟩ (Rg (decide_eq_true h127) rfl xb9 rfl ⟨rfl,trivial⟩ (Rg (decide_eq_true h127) rfl d_leq rfl ⟨rfl,rfl,trivial⟩ (R2 (xc9 (decide_eq_true h127)) rfl rfl (xm4 (by kernel_rfl) (xf5 ?_))))))))
    refine x6 rfl (fun h127_2=> ?_) (fun h127_2=> ?_)
    ·
     refine xm6 ?_
     refine C_reg ?_
     refine R1 xb9 rfl (R2 (x4 sl44 (0) (by omega) (gD (l:=xs) (n:=0) (d:=tst0) (by omega))) rfl rfl (R1 (xf3 fo69_2.h (At.f 2 rfl rfl) rfl) rfl (R1 xb9 rfl (R1 xe5 rfl (R1 xe5 rfl (xm4 (by kernel_rfl) (xf5 (C_ret (K_retT ?_)))))))))
     exact E2 rfl rfl rfl (leO (n:=6) (agg:=true) (f:=tVa) (onV_some hst ⟨by omega,by omega⟩)) (Le.of (by rw [hst]))
    ·
     refine C_skip (xf5 (xm6 ?_))
     refine C_reg ?_
     refine R1 xb9 rfl (R1 xe5 rfl (R1 xe5 rfl (xm4 (by kernel_rfl) (xf5 (C_ret ?_)))))
     exact E2 rfl rfl rfl (leO0 (onV_none hst (by omega))) (Le.of (by rw [hst]))
   ·
    refine RGoff (decide_eq_false h127) rfl rfl (RGoff (decide_eq_false h127) rfl rfl (RGoff (decide_eq_false h127) rfl rfl (RGoff (decide_eq_false h127) rfl rfl (RGoff (decide_eq_false h127) rfl rfl (RGoff (decide_eq_false h127) rfl rfl (R2 (xc7 (decide_eq_false h127)) rfl rfl (xm4 (by kernel_rfl) (xf5 (C_bF rfl rfl (C_skip (xf5 (xm6 ?_))))))))))))
    refine C_reg ?_
    refine R1 xb9 rfl (R1 xe5 rfl (R1 xe5 rfl (xm4 (by kernel_rfl) (xf5 (C_ret ?_)))))
    exact E2 rfl rfl rfl (leO0 (onV_none hst (by omega))) (Le.of (by rw [hst]))
 ·
  refine RGoff (decide_eq_false h124) rfl rfl (RGoff (decide_eq_false h124) rfl rfl (RGoff (decide_eq_false h124) rfl rfl (RGoff (decide_eq_false h124) rfl rfl (RGoff (decide_eq_false h124) rfl rfl (RGoff (decide_eq_false h124) rfl rfl (R2 (xc7 (decide_eq_false h124)) rfl rfl (xm4 (by kernel_rfl) (xf5 (C_bF rfl rfl (C_exit (K_exT (K_exT (K_exB (xf5 (xm6 ?_)))))))))))))))
  refine xm6 ?_
  have hst:onL l d=xs:=by rw [<-hI];exact on_stop (by omega)
  refine C_reg ?_
  refine R1 xb9 rfl (R1 (d_len Tryz.underlying44) rfl (R2 d_gtr rfl rfl (R1 xb9 rfl ?_)))
  refine RGcaseD (t:=22) rfl (fun h127=> ?_) (fun h127=> ?_)
  ·
   refine Rg (decide_eq_true h127) rfl xb9 rfl ⟨rfl,trivial⟩ (Rg (decide_eq_true h127) rfl (x4 sl44 (0) (by omega) (gD (l:=xs) (n:=0) (d:=tst0) (by omega))) rfl ⟨rfl,rfl,trivial⟩ (Rg (decide_eq_true h127) rfl (xf3 fo69_0.h (At.f 0 rfl rfl) rfl) rfl ⟨rfl,trivial⟩ (Rg (decide_eq_true h127) rfl (xm1 ti3) rfl ⟨rfl,trivial⟩ (Rg (decide_eq_true h127) rfl xb9 rfl ⟨rfl,trivial⟩ (Rg (decide_eq_true h127) rfl d_leq rfl ⟨rfl,rfl,trivial⟩ (R2 (xc9 (decide_eq_true h127)) rfl rfl (xm4 (by kernel_rfl) (xf5 ?_))))))))
   refine x6 rfl (fun h127_2=> ?_) (fun h127_2=> ?_)
   ·
    refine xm6 ?_
    refine C_reg ?_
    refine R1 xb9 rfl (R2 (x4 sl44 (0) (by omega) (gD (l:=xs) (n:=0) (d:=tst0) (by omega))) rfl rfl (R1 (xf3 fo69_2.h (At.f 2 rfl rfl) rfl) rfl (R1 xb9 rfl (R1 xe5 rfl (R1 xe5 rfl (xm4 (by kernel_rfl) (xf5 (C_ret (K_retT ?_)))))))))
    exact E2 rfl rfl rfl (leO (n:=6) (agg:=true) (f:=tVa) (onV_some hst ⟨by omega,by omega⟩)) (Le.of (by rw [hst]))
   ·
    refine C_skip (xf5 (xm6 ?_))
    refine C_reg ?_
    refine R1 xb9 rfl (R1 xe5 rfl (R1 xe5 rfl (xm4 (by kernel_rfl) (xf5 (C_ret ?_)))))
    exact E2 rfl rfl rfl (leO0 (onV_none hst (by omega))) (Le.of (by rw [hst]))
  ·
   refine RGoff (decide_eq_false h127) rfl rfl (RGoff (decide_eq_false h127) rfl rfl (RGoff (decide_eq_false h127) rfl rfl (RGoff (decide_eq_false h127) rfl rfl (RGoff (decide_eq_false h127) rfl rfl (RGoff (decide_eq_false h127) rfl rfl (R2 (xc7 (decide_eq_false h127)) rfl rfl (xm4 (by kernel_rfl) (xf5 (C_bF rfl rfl (C_skip (xf5 (xm6 ?_))))))))))))
   refine C_reg ?_
   refine R1 xb9 rfl (R1 xe5 rfl (R1 xe5 rfl (xm4 (by kernel_rfl) (xf5 (C_ret ?_)))))
   exact E2 rfl rfl rfl (leO0 (onV_none hst (by omega))) (Le.of (by rw [hst]))
theorem c_together (a b:List Tst):
  CtG Tryz.prog 77 [] [.val (tL 8 true tTs a),.val (tL 8 true tTs b)] (.own (.fn 128 [.ptr 2 0,.ptr 3 0])) [(2,⟨44,1,false,[.val (tL 8 true tTs a)]⟩),(3,⟨44,1,false,[.val (tL 8 true tTs b)]⟩)] [2,3]:=by
 refine CtG.intro [] Tryz.func77 rfl Tryz.ntmps77 rfl rfl trivial ?_
 intro w F η
 refine A9 ?_
 refine R2 (xg8 (ps:=[.ptr 2 0,.ptr 3 0]) rfl) rfl rfl ?_
 refine A4 ?_
 exact xc5 LentC.mk' rfl rfl Imp.refl qB rfl ⟨⟨rfl,(SupX.lit rfl)⟩,⟨rfl,(SupX.lit rfl)⟩,trivial⟩ rfl
abbrev tPr (x y:Option Va):Ty:=tS [⟨1,false,tO 6 true tVa x⟩,⟨1,false,tO 6 true tVa y⟩]
def tgY (a b:List Tst) (k:Nat):List Ty:=[tSn ⟨(bds [a,b]).getD k 0,(bds [a,b]).getD (k+1) 0⟩,tPr (valT a ((bds [a,b]).getD k 0)) (valT b ((bds [a,b]).getD k 0))]
theorem tg_le {a b:List Tst} {k:Nat} {x y:Option Va} (h1:x=valT a ((bds [a,b]).getD k 0)) (h2:y=valT b ((bds [a,b]).getD k 0)):LeL [tSn ⟨(bds [a,b]).getD k 0,(bds [a,b]).getD (k+1) 0⟩,tPr x y] (tgY a b k):=by
 subst h1;subst h2;exact ⟨Le.refl,Le.refl,trivial⟩
theorem i_together (a b:List Tst) (ha:ascT a) (hb:ascT b) (hla:a.length<=200000) (hlb:b.length<=200000):
  ItC Tryz.prog 128 [(1,⟨44,1,false,[.val (tL 8 true tTs a)]⟩),(2,⟨44,1,false,[.val (tL 8 true tTs b)]⟩)] [.ptr 1 0,.ptr 2 0] ((bds [a,b]).length - 1) (tgY a b):=by
 refine ItC.intro (K:=99) [1,2] Tryz.func128 rfl Tryz.ntmps128 rfl rfl ⟨⟨rfl,(SupX.lit rfl)⟩,⟨rfl,(SupX.lit rfl)⟩,trivial⟩ rfl ?_
 intro w F η l V J Jc hB
 refine A1 ?_
 have htl:tlen [a,b]<=400000:=by simp [tlen];omega
 refine A3 ?_
 refine R2 (xb5 (n:=2) (f:=fun l=>tL 8 true tTs l) [a,b] Tryz.underlying214 el44 zf44 rfl (fun _=>inferInstance) rfl rfl rfl) rfl rfl (R1 (x3 (c_borders [a,b] (by simp) (by omega)) fi129 rfl) rfl ?_)
 refine A9 ?_
 have htl:tlen [a,b]<=400000:=by simp [tlen];omega
 have hdl:=bds_len (ls:=[a,b])
 refine cL (fun (fm:(Nat)×(List Tst)×(List Tst))=>(fun (i:Nat) (xa:List Tst) (xb:List Tst)=>(i=0∨i+1<=(bds [a,b]).length)/\ogI a b xa xb ((bds [a,b]).getD (i - 1) 0)) fm.1 fm.2.1 fm.2.2) (wC fun (i:Nat) (xa:List Tst) (xb:List Tst)=>uV (uV (uO (uO (uV uN 0 (tE (.func (.yield l) #[] #[]))) 1 (.ptr 1 0)) 2 (.ptr 2 0)) 4 (tL 1 false tI (bds [a,b]))) 5 (tI ((i:Int)+1))) (wC fun (i:Nat) (xa:List Tst) (xb:List Tst)=>uK (uK (uK uN 1 44 1 false [.val (tL 8 true tTs xa)]) 2 44 1 false [.val (tL 8 true tTs xb)]) 99 (2*i) 1 false []) [1,2,99] (fun (fm:(Nat)×(List Tst)×(List Tst))=>(fun (i:Nat) (xa:List Tst) (xb:List Tst)=>(bds [a,b]).length - i) fm.1 fm.2.1 fm.2.2) ((0,a,b)) (by dsimp only;exact ⟨.inl rfl,ogI.zero ha hb _⟩) ?_
 intro fm hI
 obtain ⟨i,xa,xb⟩:=fm
 replace hI:(i=0∨i+1<=(bds [a,b]).length)/\ogI a b xa xb ((bds [a,b]).getD (i - 1) 0):=hI
 show wc _ _ _ _ (uV (uV (uO (uO (uV uN 0 (tE (.func (.yield l) #[] #[]))) 1 (.ptr 1 0)) 2 (.ptr 2 0)) 4 (tL 1 false tI (bds [a,b]))) 5 (tI ((i:Int)+1))) (uK (uK (uK uN 1 44 1 false [.val (tL 8 true tTs xa)]) 2 44 1 false [.val (tL 8 true tTs xb)]) 99 (2*i) 1 false []) _
 obtain ⟨hi,hog⟩:=hI
 refine A9 ?_
 refine x6 rfl (fun h137=> ?_) (fun h137=> ?_)
 ·
  refine A5 ?_
  have hle:(bds [a,b]).getD (i - 1) 0<=((bds [a,b]).getD i 0):=by
   rcases Nat.eq_zero_or_pos i with h0 | h0
   ·subst h0;exact Int.le_refl _
   ·have:=pw_lt (bds_pw (ls:=[a,b])) (show i - 1 < i by omega) (by omega);omega
  obtain ⟨hv1,hv2,hog2⟩:=hog.next hle
  refine A1 ?_
  refine RE (x7 (k:=6) (n:=2) (agg:=true) zr126.1 zr126.2 rfl) trivial trivial qA ?_
  refine A8 ?_
  refine R2 (x4 sl43 (i) (by omega) (gD (l:=(bds [a,b])) (n:=i) (d:=0) (by omega))) rfl rfl ?_
  refine A1 ?_
  refine R2 (x3 (c_on xa ((bds [a,b]).getD i 0)) fi130 rfl) rfl rfl ?_
  refine A4 ?_
  refine xi8 (0) ti124 rfl rfl rfl rfl (Up.g 0 rfl rfl rfl) rfl rfl ?_
  refine A9 ?_
  refine R2 (x4 sl43 (i) (by omega) (gD (l:=(bds [a,b])) (n:=i) (d:=0) (by omega))) rfl rfl ?_
  refine A1 ?_
  refine R2 (x3 (c_on xb ((bds [a,b]).getD i 0)) fi130 rfl) rfl rfl ?_
  refine A4 ?_
  refine xi8 (0) ti124 rfl rfl rfl rfl (Up.g 1 rfl rfl rfl) rfl rfl ?_
  refine A4 ?_
  refine C_drawY (n:=12) mixed ?_
  refine A4 ?_
  refine R2 (x4 sl43 (i) (by omega) (gD (l:=(bds [a,b])) (n:=i) (d:=0) (by omega))) rfl rfl ?_
  refine A3 ?_
  refine R2 (x4 sl43 (i+1) (by omega) (gD (l:=(bds [a,b])) (n:=i+1) (d:=0) (by omega))) rfl rfl ?_
  refine A1 ?_
  refine R2 (xb0 (r:=tS [⟨1,false,tI ((bds [a,b]).getD i 0)⟩,⟨1,false,tI ((bds [a,b]).getD (i+1) 0)⟩]) (ts:=[(0,tI ((bds [a,b]).getD i 0)),(1,tI ((bds [a,b]).getD (i+1) 0))]) bu94 zr94.2 (Bc 0 rfl rfl rfl (Bc 1 rfl rfl rfl Le.refl))) rfl rfl ?_
  refine A1 ?_
  refine R_endY (by kernel_rfl) ?_
  refine wl_yield (ts:=[tSn ⟨((bds [a,b]).getD i 0),((bds [a,b]).getD (i+1) 0)⟩,tPr (onV xa ((bds [a,b]).getD i 0)) (onV xb ((bds [a,b]).getD i 0))]) hB (xn3 rfl) rfl rfl qB rfl rfl (by omega) (tg_le hv1 hv2) ?_ ?_
  ·
   refine xf4 d_not qA trivial trivial rfl (xp1 ?_)
   refine A10 ?_
   exact kF ((i+1,onL xa ((bds [a,b]).getD i 0),onL xb ((bds [a,b]).getD i 0))) ⟨(by dsimp only;exact ⟨.inr (by omega),hog2⟩),(by dsimp only;omega)⟩
  ·
   refine xf4 d_not qA trivial trivial rfl (xp1 ?_)
   refine A7 ?_
   exact E_it hB rfl trivial rfl (.inl rfl) rfl (.inr ⟨i,by omega,rfl⟩)
 ·
  refine A4 ?_
  exact E_it hB rfl trivial rfl (.inr rfl) rfl (.inl (by omega))
end An.S
namespace An.S
open Go
def wt (D:Int) (v:Va):Int:=(v.f.rat*(D:Rat)).num
theorem int_div (n:Int):(n:Rat)=Rat.divInt n 1:=by
 have:=Rat.num_divInt_den (n:Rat)
 rw [Rat.num_intCast,Rat.den_intCast] at this;exact this.symm
theorem wt_is {D k:Int} (hD:0 < D) {v:Va} (h:v.f.rat=Rat.divInt k D):wt D v=k:=by
 have e:Rat.divInt k D*(D:Rat)=(k:Rat):=by
  rw [int_div D,int_div k,Rat.divInt_mul_divInt]
  exact (Rat.divInt_eq_divInt_iff (by omega) (by decide)).2 (by rw [Int.mul_one,Int.mul_one])
 rw [wt,h,e,Rat.num_intCast]
theorem addG {D:Int} (hD:0 < D) (a b:Int):Rat.divInt a D+Rat.divInt b D=Rat.divInt (a+b) D:=by
 rw [Rat.divInt_add_divInt a b (by omega) (by omega)]
 exact (Rat.divInt_eq_divInt_iff (Int.ne_of_gt (Int.mul_pos hD hD)) (by omega)).2 (by rw [<-Int.add_mul,Int.mul_assoc])
theorem xq1 {n d:Int} (hd:0 < d) (h1: -9223372036854775808<=n) (h2:n<=9223372036854775807) (h3:d<=9223372036854775807):short (Rat.divInt n d):=by
 have l16: ∀{n:Int}, -9223372036854775808<=n->n<=9223372036854775807->len16 n<=256:=fun h1 h2=>Nat.le_trans (len16_64 h1 h2) (by decide)
 have e:=lowest_eq (n:=n) hd
 have e1:(wh (Rat.divInt n d).num).l.length=(wh (n / (Int.gcd n d:Int))).l.length:=congrArg (fun f:Fr=>f.n.l.length) e
 have e2:(wh ((Rat.divInt n d).den:Int)).l.length=(wh (d / (Int.gcd n d:Int))).l.length:=congrArg (fun f:Fr=>f.d.l.length) e
 refine ⟨?_,?_⟩
 ·show (wh (Rat.divInt n d).num).l.length<=256
  rw [e1];exact len16_div (l16 h1 h2)
 ·show (wh ((Rat.divInt n d).den:Int)).l.length<=256
  rw [e2];exact len16_div (l16 (by omega) h3)
theorem splitG {l:List Tst} (h:0 < l.length):l=l.take (l.length - 1)++[l.getD (l.length - 1) tst0]:=by
 have e:l.take (l.length - 1+1)=l.take (l.length - 1)++[l[l.length - 1]]:=List.take_succ_eq_append_getElem (by omega)
 rw [show l.length - 1+1=l.length by omega,List.take_length] at e
 rw [List.getD_eq_getElem?_getD,List.getElem?_eq_getElem (by omega)];exact e
theorem le_dv {x y d e:Int} (hd:0 < d) (he:0 < e):Rat.divInt x d<=Rat.divInt y e↔x*e<=y*d:=by
 rw [Rat.le_iff_sub_nonneg,Rat.divInt_sub_divInt _ _ (by omega) (by omega),Rat.divInt_nonneg_iff_of_pos_right (Int.mul_pos he hd)];omega
theorem dig_frG (q:Rat):(fr q).dig:=⟨xc3 x8 _,xc3 x8 _⟩
def gOk (K:Nat) (D B:Int) (v:Va):Prop:=(v.valid=true/\v.kind=K/\v.i=0/\v.f=fr v.f.rat/\short v.f.rat)/\v.f.rat=Rat.divInt (wt D v) D/\ -B<=wt D v/\wt D v<=B
theorem gOk.dig {K:Nat} {D B:Int} {v:Va} (h:gOk K D B v):v.f.dig:=by rw [h.1.2.2.2.1];exact dig_frG _
theorem gOk.mk {K:Nat} {D B k:Int} (hK:K=2∨K=3) (hD:0 < D) (hDb:D<=9223372036854775807) (h1: -B<=k) (h2:k<=B) (hB:B<=9223372036854775807):gOk K D B ⟨K,fr (Rat.divInt k D),0⟩:=by
 have hs:short (Rat.divInt k D):=xq1 hD (by omega) (by omega) hDb
 have hw:wt D ⟨K,fr (Rat.divInt k D),0⟩=k:=wt_is hD (xp4 _)
 refine ⟨⟨?_,rfl,rfl,by rw [xp4],by rw [xp4];exact hs⟩,?_,?_,?_⟩
 ·rw [Va.valid,if_pos hK]
  simp only [Bool.and_eq_true,decide_eq_true_eq]
  exact ⟨trivial,valid_fr hs⟩
 ·rw [hw];exact xp4 _
 ·rw [hw];exact h1
 ·rw [hw];exact h2
def isG (K:Nat) (D B:Int) (l:List Tst):Prop:=tRight l=true/\ ∀s∈l,gOk K D B s.v
section
variable {K:Nat} {D B:Int} {l a b:List Tst}
theorem isG.dig (h:isG K D B l): ∀s∈l,s.v.f.dig:=fun s hs=>(h.2 s hs).dig
theorem isG.asc (h:isG K D B l):ascT l:=tRight_asc h.1
theorem isG_nil:isG K D B []:=⟨rfl,fun s hs=>by cases hs⟩
theorem isG_of (h:ascT l) (hn:nbT l) (hv: ∀s∈l,(0<=s.lo/\s.hi<=65536)/\gOk K D B s.v):isG K D B l:=
 ⟨right_of (K:=K) h hn fun s hs=>⟨(hv s hs).1.1,(hv s hs).1.2,(hv s hs).2.1.1,(hv s hs).2.1.2.1⟩,fun s hs=>(hv s hs).2⟩
theorem isG_pst {ps:List Tst} (hp:ps.Pairwise fun s t=>s.lo < s.hi->s.hi<=t.lo) (hv: ∀s∈ps,s.lo < s.hi->(0<=s.lo/\s.hi<=65536)/\gOk K D B s.v):isG K D B (pst [] ps):=by
 have h:=pst_val ps [] ⟨fun s hs=>(by cases hs),.nil⟩ trivial hp fun x hx=>by cases hx
 exact isG_of h.1 h.2.1 (pst_all (P:=fun s=>(0<=s.lo/\s.hi<=65536)/\gOk K D B s.v) (fun x s hx hs e=>⟨⟨hx.1.1,hs.1.2⟩,hx.2⟩) _ _ (fun s hs=>by cases hs) hv)
theorem segL_mem {g:Int->Option Va}: ∀{ds:List Int} {s:Tst},s∈segL g ds->s.lo∈ds/\s.hi∈ds/\g s.lo=some s.v
 | [],s,h=>by cases h
 | [x],s,h=>by cases h
 | x::y::r,s,h=>by
  rw [segL] at h
  rcases List.mem_append.1 h with h | h
  ·cases hg:g x with
   | none=>rw [hg] at h;cases h
   | some v=>
    rw [hg] at h
    rw [List.mem_singleton.1 h]
    exact ⟨by simp,by simp,hg⟩
  ·have:=segL_mem h
   exact ⟨List.mem_cons_of_mem _ this.1,List.mem_cons_of_mem _ this.2.1,this.2.2⟩
end
def bd (l:List Sn) (i:Nat):Int:=if i%2=0 then (l.getD (i / 2) sn0).lo else (l.getD (i / 2) sn0).hi
theorem bd_succ {l:List Sn} {i:Nat} (h:sVal l=true) (hi:i+1 < 2*l.length):bd l i < bd l (i+1):=by
 rcases Nat.mod_two_eq_zero_or_one i with h0 | h0
 ·have:=sVal_at h (i:=i / 2) (by omega)
  rw [bd,bd,if_pos h0,if_neg (by omega),show (i+1) / 2=i / 2 by omega];exact this.2.1
 ·have:=(xr4.1 (sVal_iff.1 h ((i+1) / 2) (by omega))).2.2.resolve_left (by omega)
  rw [bd,bd,if_neg (by omega),if_pos (by omega)]
  rw [show (i+1) / 2 - 1=i / 2 by omega] at this;exact this
theorem bd_lt {l:List Sn} (h:sVal l=true): ∀{j i:Nat},i < j->j < 2*l.length->bd l i < bd l j
 | j+1,i,hij,hj=>by
  have h1:=bd_succ h hj
  rcases Nat.lt_or_ge i j with h2 | h2
  ·have:=bd_lt h h2 (by omega);omega
  ·have:i=j:=by omega
   subst this;exact h1
def mem (l:List Sn) (d:Int):Bool:=l.any fun s=>decide (s.lo<=d) && decide (d < s.hi)
theorem mem_iff {l:List Sn} {d:Int}:mem l d=true↔ ∃s∈l,s.lo<=d/\d < s.hi:=by simp [mem]
theorem mem_snoc {l:List Sn} {s:Sn} {d:Int}:mem (l++[s]) d=(mem l d || (decide (s.lo<=d) && decide (d < s.hi))):=by simp [mem]
theorem bd_even (l:List Sn) (p:Nat):bd l (2*p)=(l.getD p sn0).lo:=by rw [bd,if_pos (by omega),show 2*p / 2=p by omega]
theorem bd_odd (l:List Sn) (p:Nat):bd l (2*p+1)=(l.getD p sn0).hi:=by rw [bd,if_neg (by omega),show (2*p+1) / 2=p by omega]
theorem sVal_lt {l:List Sn} (h:sVal l=true) {i j:Nat} (hij:i < j) (hj:j < l.length):(l.getD i sn0).hi < (l.getD j sn0).lo:=by
 have:=bd_lt h (show 2*i+1 < 2*j by omega) (by omega)
 rwa [bd_odd,bd_even] at this
theorem mem_cons {s:Sn} {r:List Sn} {d:Int}:mem (s::r) d=((decide (s.lo<=d) && decide (d < s.hi)) || mem r d):=by simp [mem]
theorem mem_mrg {d:Int}: ∀(xs acc:List Sn),ascS xs->sVal acc=true->(0 < acc.length-> ∀s∈xs,(lastS acc).hi<=s.lo)->mem (xs.foldl mrg1 acc) d=(mem acc d || mem xs d)
 | [],acc,_,_,_=>by simp [mem]
 | s::r,acc,hx,hv,hl=>by
  have hs:=hx.1 s (List.mem_cons_self ..)
  have hp:=List.pairwise_cons.1 hx.2
  have hr:ascS r:=⟨fun t ht=>hx.1 t (List.mem_cons_of_mem _ ht),hp.2⟩
  have h1:=mrg_asc [s] acc ⟨fun t ht=>hx.1 t (by rw [List.mem_singleton.1 ht];exact List.mem_cons_self ..),List.pairwise_singleton ..⟩ hv fun h0 t ht=>hl h0 t (by rw [List.mem_singleton.1 ht];exact List.mem_cons_self ..)
  have key:mem (mrg1 acc s) d=(mem acc d || (decide (s.lo<=d) && decide (d < s.hi)))/\(lastS (mrg1 acc s)).hi=s.hi:=by
   rw [mrg1]
   split
   ·rename_i hm
    have h2:(lastS acc).hi=s.lo:=by have:=hl hm.1 s (List.mem_cons_self ..);have h2:s.lo<=(lastS acc).hi:=hm.2;omega
    have hmax:max (acc.getD (acc.length - 1) sn0).hi s.hi=s.hi:=by
     have h3:(acc.getD (acc.length - 1) sn0).hi=s.lo:=h2
     have:=hs.2.1;omega
    rw [hmax]
    refine ⟨?_,by rw [lastS,List.length_set,getD_setS (by omega),if_pos rfl]⟩
    rw [set_lastE hm.1,mem_snoc]
    have e3:mem acc d=(mem (acc.take (acc.length - 1)) d || (decide ((lastS acc).lo<=d) && decide (d < (lastS acc).hi))):=by rw [<-mem_snoc,<-split_last hm.1]
    rw [e3,h2]
    have h4:=sVal_at hv (i:=acc.length - 1) (by omega)
    have h5:(lastS acc).lo < s.lo:=by rw [<-h2];exact h4.2.1
    have h6:(acc.getD (acc.length - 1) sn0).lo=(lastS acc).lo:=rfl
    have:=hs.2.1
    dsimp only
    rw [h6,Bool.or_assoc]
    congr 1
    rw [Bool.eq_iff_iff];simp;omega
   ·rename_i hm
    exact ⟨mem_snoc,by rw [lastS,xu4,List.length_append,List.length_singleton,if_neg (by omega),if_pos (by omega)]⟩
  have ih:=mem_mrg (d:=d) r (mrg1 acc s) hr h1.1 fun _ t ht=>by rw [key.2];exact hp.1 t ht
  rw [List.foldl_cons,ih,key.1,mem_cons,Bool.or_assoc]
def spT (s:Tst):Sn:=⟨s.lo,s.hi⟩
def cvS (l:List Tst):List Sn:=l.map spT
theorem mkS_asc {l:List Sn} (h:ascS l):mkS l=mrg l:=by rw [mkS,ascS_pos h,ascS_srt h]
theorem mem_cvS {l:List Tst} {d:Int}:mem (cvS l) d=(valT l d).isSome:=by
 rw [Bool.eq_iff_iff,mem_iff]
 constructor
 ·rintro ⟨s,hs,h⟩
  obtain ⟨x,hx,rfl⟩:=List.mem_map.1 hs
  cases hv:valT l d with
  | some v=>rfl
  | none=>exact absurd h (valT_none.1 hv x hx)
 ·intro h
  obtain ⟨v,hv⟩:=Option.isSome_iff_exists.1 h
  obtain ⟨s,hs,h2,_⟩:=valT_some hv
  exact ⟨spT s,List.mem_map_of_mem hs,h2⟩
theorem mk_set {l:List Sn} (h:ascS l):sVal (mkS l)=true/\ ∀d,mem (mkS l) d=mem l d:=by
 rw [mkS_asc h]
 have h1:=mrg_asc l [] h rfl fun h'=>by cases h'
 refine ⟨h1.1,fun d=> ?_⟩
 have:=mem_mrg (d:=d) l [] h rfl fun h'=>by cases h'
 rw [mrg,this];rfl
def jnC (a b:List Tst):Prop:=(tRight a=true/\tRight b=true)/\ ¬(0 < a.length/\0 < b.length/\(a.getD 0 tst0).v.kind≠(b.getD 0 tst0).v.kind)
instance (a b:List Tst):Decidable (jnC a b):=inferInstanceAs (Decidable (_/\_))
def gdf (a b:List Tst) (d:Int):Option Va:=if dfB a b d then some An.va0 else none
theorem dfK_map (a b:List Tst): ∀k,dfK a b k=cvS (segN (gdf a b) (bds [a,b]) k)
 | 0=>rfl
 | k+1=>by
  rw [dfK_next,segN_next,cvS,List.map_append,<-cvS,<-dfK_map a b k]
  congr 1
  rw [dfI,segI,gdf]
  by_cases h:dfB a b ((bds [a,b]).getD k 0)=true
  ·rw [if_pos h,if_pos h];rfl
  ·rw [if_neg h,if_neg h];rfl
theorem dfT_map (a b:List Tst):dfT a b=cvS (segL (gdf a b) (bds [a,b])):=by rw [dfT,dfK_map,segL_N]
def dfS (a b:List Tst):List Sn:=mkS (dfT a b)
theorem bds_in {a b:List Tst} (ha:tRight a=true) (hb:tRight b=true) {x:Int} (hx:x∈bds [a,b]):0<=x/\x<=65536:=by
 obtain ⟨l,hl,s,hs,he⟩:=bds_mem.1 hx
 have:0<=s.lo/\s.lo < s.hi/\s.hi<=65536:=by
  rcases List.mem_cons.1 hl with rfl | hl
  ·obtain ⟨i,hi,rfl⟩:=xv0 hs
   have:=xt7 ha hi;omega
  ·rw [List.mem_singleton.1 hl] at hs
   obtain ⟨i,hi,rfl⟩:=xv0 hs
   have:=xt7 hb hi;omega
 omega
theorem dfT_asc {a b:List Tst} (ha:tRight a=true) (hb:tRight b=true):ascS (dfT a b):=by
 rw [dfT_map]
 have hp:=segL_pw (g:=gdf a b) (bds_pw (ls:=[a,b]))
 refine ⟨fun s hs=> ?_,hp.2.map spT fun s t hst=>hst⟩
 obtain ⟨x,hx,rfl⟩:=List.mem_map.1 hs
 have h1:=segL_mem hx
 have b1:=bds_in ha hb h1.1
 have b2:=bds_in ha hb h1.2.1
 exact ⟨b1.1,hp.1 x hx,b2.2⟩
theorem dfS_set {a b:List Tst} (ha:tRight a=true) (hb:tRight b=true):sVal (dfS a b)=true/\ ∀d,mem (dfS a b) d=dfB a b d:=by
 have:=mk_set (dfT_asc ha hb)
 refine ⟨this.1,fun d=> ?_⟩
 rw [dfS,this.2,dfT_map,mem_cvS,seg_all (a:=a) (b:=b) (fun d x h1 h2=>by rw [gdf,gdf,dfB,dfB,h1,h2]) (fun d h1 h2=>by rw [gdf,dfB,h1,h2];rfl) bds_pw (bds_ends (by simp)) (bds_ends (by simp)),gdf]
 cases dfB a b d <;> rfl
end An.S
namespace An
open Go
theorem BuI.array {P:Program} {T E len n:Nat} {agg:Bool} {z:Value} (hu:P.underlying T=some (.array len E)) (te:TyI P E n agg) (hz:(P.info? T).bind (·.zero)=some z):BuI P T (fun i=>some (i*n,n)) z:=by
 refine ⟨fun parts w cs hf=> ?_⟩
 simp only [Instr.build,Sem.run_bind,run_zero hz,Result.andThen_ok,run_underlying hu,te.size_run w]
 rw [hf]
 simp
section
variable {P:Program} {c:Base} {d ty:Nat} {pos:String} {af:Array Edge} {gd:Option (Nat×Bool)}
theorem d_empty {k:Nat} {T E es by_:Nat} {agg:Bool} {z:Value} (sl:P.underlying T=some (.slice E)) (el:ElI P E es by_ agg z) (hes:Nat.blt 0 es=true) (hagg:agg=false->es=1):
  Does P c ⟨some d,.buildSlice T 0 #[],ty,pos,af,gd⟩ ⟨[],[],some (d,some (.own (.sl k es 0 0))),[(k,some ⟨E,es,agg,[]⟩)],[k]⟩:=by
 intro g h al a w hp ⟨η,s⟩
 have hrun:(execOp a.eval ⟨some d,.buildSlice T 0 #[],ty,pos,af,gd⟩).run P w= .ok (.value (.slice (some ⟨w.heap.size,0,none⟩) 0 0)) {w with heap:=w.heap.push (.cells #[] E)}:=by
  simp [execOp,Instr.buildSlice,Sem.run_bind,run_underlying sl,Result.andThen_ok,el.el.size_run w,Instr.fill,go_sem]
 have hext:Ext w {w with heap:=w.heap.push (.cells #[] E)}:=⟨rfl,rfl,rfl,by simp,fun b hb=>by
  show (w.heap.push _)[b]? =_
  rw [Array.getElem?_push,if_neg (by omega)]⟩
 have s':=s.new' k hp.nk.1 ⟨E,es,agg,[]⟩ 0 0 (Nat.le_refl _) (by simpa using hes) hagg (by decide) (fun j hj=>by cases hj) hext fun h=>absurd h (Nat.lt_irrefl _)
 refine xe6 hrun ?_
 refine ⟨_,s'.put (hp.d _ rfl) (e:= .own (.sl k es 0 0)) ⟨_,by rw [Env.set_c],by omega,fun h=>by rw [Env.set_c] at h;omega⟩ fun j hj=> ?_⟩
 simp only [Ent.supp,VP.supp,List.mem_singleton] at hj
 subst hj;simp
end
end An
namespace An.S
open Go Go.Proofs An
instance ti90:TyI Tryz.prog 90 1 false:=⟨by kernel_rfl,by kernel_rfl⟩
instance fi77:FnI Tryz.prog 77:=⟨_,Tryz.func77,by kernel_rfl,rfl⟩
instance fi78:FnI Tryz.prog 78:=⟨_,Tryz.func78,by kernel_rfl,rfl⟩
instance fi128:FnI Tryz.prog 128:=⟨_,Tryz.func128,by kernel_rfl,rfl⟩
theorem zr90:(Tryz.prog.info? 90).bind (·.zero)=some (.slice none 0 0)/\ ∀F w,(tE (.slice none 0 0)).p F w (.slice none 0 0):=⟨by kernel_rfl,fun _ _=>rfl⟩
theorem not_none {o:Option Va} (h:(!o.isNone)=true): ∃v,o=some v:=by
 cases o with
 | none=>cases h
 | some v=>exact ⟨v,rfl⟩
theorem dfK_eq {a b:List Tst} {k:Nat} (h:valT a ((bds [a,b]).getD k 0)=valT b ((bds [a,b]).getD k 0)):dfK a b (k+1)=dfK a b k:=by
 rw [dfK_next,dfI,if_neg (by rw [dfB,h];simp),List.append_nil]
theorem dfK_ne {a b:List Tst} {k:Nat} (h:valT a ((bds [a,b]).getD k 0)≠valT b ((bds [a,b]).getD k 0)):dfK a b (k+1)=dfK a b k++[⟨(bds [a,b]).getD k 0,(bds [a,b]).getD (k+1) 0⟩]:=by
 rw [dfK_next,dfI,if_pos (by rw [dfB];simpa using h)]
theorem some_of {o:Option Va} (h:o.isNone=false): ∃v,o=some v:=not_none (by rw [h];rfl)
theorem c_TDiff (a b:List Tst) (hla:a.length<=200000) (hlb:b.length<=200000) (hDa: ∀s∈a,s.v.f.dig) (hDb: ∀s∈b,s.v.f.dig):
  Ct Tryz.prog 47 [tL 8 true tTs a,tL 8 true tTs b] (tT [tL 2 true tSn (if tRight a=true/\tRight b=true then dfS a b else []),tI (if tRight a=true/\tRight b=true then 0 else 2)]):=by
 refine Ct.intro Tryz.func47 rfl Tryz.ntmps47 rfl ?_
 intro w F
 refine A10 ?_
 refine R1 (x3 (c_TRight a hDa) fi16 rfl) rfl ?_
 refine A2 ?_
 refine RGcase (t:=12) rfl (fun h223=> ?_) (fun h223=> ?_)
 ·
  refine A15 ?_
  exact E2 rfl rfl rfl (leNil (by rw [if_neg fun h=>by rw [h.1] at h223;cases h223])) (Le.int (by rw [if_neg fun h=>by rw [h.1] at h223;cases h223]))
 ·
  refine A1 ?_
  refine Rg h223 rfl (x3 (c_TRight b hDb) fi16 rfl) rfl qA ?_
  refine A4 ?_
  refine xc2 rfl (fun h223_2=> ?_) (fun h223_2=> ?_)
  ·
   refine A8 ?_
   exact E2 rfl rfl rfl (leNil (by rw [if_neg fun h=>by rw [h.2] at h223_2;cases h223_2])) (Le.int (by rw [if_neg fun h=>by rw [h.2] at h223_2;cases h223_2]))
  ·
   refine A4 ?_
   refine RE (x7 (k:=6) (n:=1) (agg:=false) zr90.1 zr90.2 rfl) trivial trivial qA ?_
   refine A4 ?_
   have hok:tRight a=true/\tRight b=true:=⟨by simpa using h223,by simpa using h223_2⟩
   refine C_nilC (q:=6) 60 94 2 true 0 rfl rfl rfl rfl (fun h=>by cases h) rfl rfl ?_
   refine A3 ?_
   refine RE (xb7 (fun j=>cond (Nat.beq j 2) 19 (1019)) (c_together a b) fi77 rfl (krN (ρ:=fun j=>cond (Nat.beq j 2) 19 (1019))) (krC (ρ:=fun j=>cond (Nat.beq j 2) 19 (1019)) (k:=2) rfl (krC (ρ:=fun j=>cond (Nat.beq j 2) 19 (1019)) (k:=3) rfl (krN (ρ:=fun j=>cond (Nat.beq j 2) 19 (1019))))) ⟨⟨rfl,(SupX.lit rfl)⟩,⟨rfl,(SupX.lit rfl)⟩,trivial⟩ rfl) qB trivial qB ?_
   refine A3 ?_
   refine C_range (caps:=[.ptr 1 0,.ptr 2 0]) (κ:=Empty) (fun j=>cond (Nat.beq j 2) 1019 (cond (Nat.beq j 1) 19 (j))) rfl (fun _ h=>h) trivial (i_together a b (tRight_asc hok.1) (tRight_asc hok.2) hla hlb) fi128 rfl qB rfl rfl (fun _ _=>rfl) (uO uN 6 (.ptr 6 0)) [6,60] [6] (Sub.cons rfl Sub.nil) (SupG.own rfl SupG.nil) rfl (lkOk rfl) (fun (k:Nat) (xs:List Sn)=>xs=dfK a b k/\xs.length<=k) (fun (k:Nat) (xs:List Sn)=>uK (uK uN 6 90 1 false [.own (.sl 60 2 0 xs.length)]) 60 94 2 true (rV tSn xs)) (fun k x=>(SupH.cons rfl (supJ xa5) (SupH.cons rfl (supJL rfl) SupH.nil))) (fun k x y hy=>by simp only [List.mem_cons,List.not_mem_nil,or_false] at hy;rcases hy with rfl | rfl <;> rfl) (fun _ _=>False) (fun i=>i.elim) (fun _ _ h=>h.elim) ([]) ⟨rfl,Nat.le_refl _⟩ (SubK.cons rfl (SubK.cons rfl SubK.nil)) ?_ ?_ ?_
   ·
    intro D lp o1 o2 O W lη lb V0 k xs hk hI
    obtain ⟨hx,hxl⟩:=hI
    have hdl:=bds_len (ls:=[a,b])
    have htl:tlen [a,b]<=400000:=by simp [tlen];omega
    apply rnd_mk
    ·
     refine A2 ?_
     refine RE (x7 (k:=7) (n:=2) (agg:=true) zr94.1 zr94.2 rfl) trivial trivial qA ?_
     refine A4 ?_
     refine RE (x7 (k:=8) (n:=2) (agg:=true) zr126.1 zr126.2 rfl) trivial trivial qA ?_
     refine A2 ?_
     exact K_thenF fun _ _ h=>h
    ·
     refine A6 ?_
     refine R1 (d_eqlNil Tryz.underlying124) rfl ?_
     refine A1 ?_
     refine RGcase (t:=25) rfl (fun h228=> ?_) (fun h228=> ?_)
     ·
      refine A2 ?_
      refine Rg h228 rfl (d_eqlNil Tryz.underlying124) rfl qA ?_
      refine A2 ?_
      refine RGcase (t:=30) rfl (fun h228_2=> ?_) (fun h228_2=> ?_)
      ·
       refine A18 ?_
       refine A8 ?_
       exact K_rnd (xs) ⟨by rw [dfK_eq (by rw [Option.isNone_iff_eq_none.1 h228,Option.isNone_iff_eq_none.1 h228_2])];exact hx,by omega⟩ (SubK.cons rfl (SubK.cons rfl SubK.nil)) (SupH.cons rfl (supJ xa5) (SupH.cons rfl (supJL rfl) SupH.nil)) (lkOk rfl)
      ·
       refine A2 ?_
       refine Rg h228_2 rfl (d_neqNil Tryz.underlying124) rfl qA ?_
       refine A1 ?_
       refine RGoff (by exact congrArg Bool.not h228) rfl rfl (RGoff (by exact congrArg Bool.not h228) rfl rfl (RGoff (by exact congrArg Bool.not h228) rfl rfl (Rg h228_2 rfl (xc7 (by exact congrArg Bool.not h228)) rfl qB ?_)))
       refine A10 ?_
       refine Rg h228_2 rfl (xc7 rfl) rfl qB ?_
       refine A7 ?_
       refine RE (xc1 (ts:=[.own (.sl 60 2 0 xs.length)]) (0) ti90 rfl rfl) qA qA trivial ?_
       refine A1 ?_
       refine R1 (xb5 (n:=1) (f:=tSn) [(⟨((bds [a,b]).getD k 0),((bds [a,b]).getD (k+1) 0)⟩:Sn)] Tryz.underlying90 el94 zf94 rfl (fun _=>inferInstance) rfl rfl rfl) rfl (RE (xb3 (k:=60) (k':=54) (f:=tSn) (ys:=[(⟨((bds [a,b]).getD k 0),((bds [a,b]).getD (k+1) 0)⟩:Sn)]) (ts':=rV tSn (xs++[(⟨((bds [a,b]).getD k 0),((bds [a,b]).getD (k+1) 0)⟩:Sn)])) Tryz.underlying90 el94 zf94 rfl rfl (fun _=>inferInstance) xd2 (by simp;omega) (by simp;omega) (by simp [rV]) (n':=xs.length+1) rfl) qB qA qA (RE (xb8 (es:=1) (agg:=false) (e:= .own (.sl 54 2 0 (xs.length+1))) (0) ti90 rfl rfl rfl) qB qA trivial ?_))
       refine A2 ?_
       exact K_ren (g':=fun _=>none) [6,60] (fun j=>cond (Nat.beq j 60) 54 (j)) SubR.nil ((SubKR.consI rfl (ImpK.of xa6.symm)) ((SubKR.consI rfl (ImpK.of (by rw [List.length_append];rfl))) SubKR.nil)) SupG.nil (SupH.cons rfl (supJ xa5) (SupH.cons rfl (supJL rfl) SupH.nil)) (lkOk rfl) rfl rfl (fun _ h=>by cases h) (K_rnd ((xs++[(⟨((bds [a,b]).getD k 0),((bds [a,b]).getD (k+1) 0)⟩:Sn)])) ⟨by rw [dfK_ne (fun e=>by rw [e,h228_2] at h228;cases h228),<-hx],by rw [List.length_append];simp;omega⟩ SubK.refl (SupH.cons rfl (supJ xa5) (SupH.cons rfl (supJL rfl) SupH.nil)) (lkOk rfl))
     ·
      refine A7 ?_
      refine Rg rfl rfl (d_neqNil Tryz.underlying124) rfl qA ?_
      refine A1 ?_
      refine Rg (by exact congrArg Bool.not h228) rfl (xh0 fo126_1.h rfl) rfl qA (xb2 (by exact congrArg Bool.not h228) rfl rfl (0) ti124 rfl rfl rfl (At.g 1 rfl rfl) rfl (Rg (by exact congrArg Bool.not h228) rfl (d_neqNil Tryz.underlying124) rfl qA (Rg rfl rfl (xc9 (by exact congrArg Bool.not h228)) rfl qB ?_)))
      refine A1 ?_
      refine RGcase (t:=39) rfl (fun h228_3=> ?_) (fun h228_3=> ?_)
      ·
       obtain ⟨u,hu⟩:=some_of h228
       obtain ⟨v,hv⟩:=not_none h228_3
       refine A2 ?_
       refine Rg h228_3 rfl (d_checkO hu) rfl qA ?_
       refine A3 ?_
       refine Rg h228_3 rfl (d_checkO hv) rfl qA ?_
       refine A1 ?_
       refine Rg h228_3 rfl (x3 (c_TSame _ _) fi56 rfl) rfl qB (Rg rfl rfl (xc9 h228_3) rfl qB ?_)
       refine A3 ?_
       refine x6 rfl (fun h228_4=> ?_) (fun h228_4=> ?_)
       ·
        refine A3 ?_
        exact K_rnd (xs) ⟨by rw [dfK_eq (by rw [hu,hv,h228_4])];exact hx,by omega⟩ (SubK.cons rfl (SubK.cons rfl SubK.nil)) (SupH.cons rfl (supJ xa5) (SupH.cons rfl (supJL rfl) SupH.nil)) (lkOk rfl)
       ·
        refine A3 ?_
        refine RE (xc1 (ts:=[.own (.sl 60 2 0 xs.length)]) (0) ti90 rfl rfl) qA qA trivial ?_
        refine A1 ?_
        refine R1 (xb5 (n:=1) (f:=tSn) [(⟨((bds [a,b]).getD k 0),((bds [a,b]).getD (k+1) 0)⟩:Sn)] Tryz.underlying90 el94 zf94 rfl (fun _=>inferInstance) rfl rfl rfl) rfl (RE (xb3 (k:=60) (k':=54) (f:=tSn) (ys:=[(⟨((bds [a,b]).getD k 0),((bds [a,b]).getD (k+1) 0)⟩:Sn)]) (ts':=rV tSn (xs++[(⟨((bds [a,b]).getD k 0),((bds [a,b]).getD (k+1) 0)⟩:Sn)])) Tryz.underlying90 el94 zf94 rfl rfl (fun _=>inferInstance) xd2 (by simp;omega) (by simp;omega) (by simp [rV]) (n':=xs.length+1) rfl) qB qA qA (RE (xb8 (es:=1) (agg:=false) (e:= .own (.sl 54 2 0 (xs.length+1))) (0) ti90 rfl rfl rfl) qB qA trivial ?_))
        refine A2 ?_
        exact K_ren (g':=fun _=>none) [6,60] (fun j=>cond (Nat.beq j 60) 54 (j)) SubR.nil ((SubKR.consI rfl (ImpK.of xa6.symm)) ((SubKR.consI rfl (ImpK.of (by rw [List.length_append];rfl))) SubKR.nil)) SupG.nil (SupH.cons rfl (supJ xa5) (SupH.cons rfl (supJL rfl) SupH.nil)) (lkOk rfl) rfl rfl (fun _ h=>by cases h) (K_rnd ((xs++[(⟨((bds [a,b]).getD k 0),((bds [a,b]).getD (k+1) 0)⟩:Sn)])) ⟨by rw [dfK_ne (fun e=>by rw [hu,hv] at e;exact h228_4 (Option.some.inj e)),<-hx],by rw [List.length_append];simp;omega⟩ SubK.refl (SupH.cons rfl (supJ xa5) (SupH.cons rfl (supJL rfl) SupH.nil)) (lkOk rfl))
      ·
       refine A9 ?_
       refine Rg rfl rfl (xc7 h228_3) rfl qB ?_
       refine A7 ?_
       refine RE (xc1 (ts:=[.own (.sl 60 2 0 xs.length)]) (0) ti90 rfl rfl) qA qA trivial ?_
       refine A1 ?_
       refine R1 (xb5 (n:=1) (f:=tSn) [(⟨((bds [a,b]).getD k 0),((bds [a,b]).getD (k+1) 0)⟩:Sn)] Tryz.underlying90 el94 zf94 rfl (fun _=>inferInstance) rfl rfl rfl) rfl (RE (xb3 (k:=60) (k':=54) (f:=tSn) (ys:=[(⟨((bds [a,b]).getD k 0),((bds [a,b]).getD (k+1) 0)⟩:Sn)]) (ts':=rV tSn (xs++[(⟨((bds [a,b]).getD k 0),((bds [a,b]).getD (k+1) 0)⟩:Sn)])) Tryz.underlying90 el94 zf94 rfl rfl (fun _=>inferInstance) xd2 (by simp;omega) (by simp;omega) (by simp [rV]) (n':=xs.length+1) rfl) qB qA qA (RE (xb8 (es:=1) (agg:=false) (e:= .own (.sl 54 2 0 (xs.length+1))) (0) ti90 rfl rfl rfl) qB qA trivial ?_))
       refine A2 ?_
       exact K_ren (g':=fun _=>none) [6,60] (fun j=>cond (Nat.beq j 60) 54 (j)) SubR.nil ((SubKR.consI rfl (ImpK.of xa6.symm)) ((SubKR.consI rfl (ImpK.of (by rw [List.length_append];rfl))) SubKR.nil)) SupG.nil (SupH.cons rfl (supJ xa5) (SupH.cons rfl (supJL rfl) SupH.nil)) (lkOk rfl) rfl rfl (fun _ h=>by cases h) (K_rnd ((xs++[(⟨((bds [a,b]).getD k 0),((bds [a,b]).getD (k+1) 0)⟩:Sn)])) ⟨by rw [dfK_ne (fun e=>by rw [<-e,h228] at h228_3;cases h228_3),<-hx],by rw [List.length_append];simp;omega⟩ SubK.refl (SupH.cons rfl (supJ xa5) (SupH.cons rfl (supJL rfl) SupH.nil)) (lkOk rfl))
   ·
    intro D hD xs hI
    obtain ⟨hx,hxl⟩:=hI
    have hdl:=bds_len (ls:=[a,b])
    have htl:tlen [a,b]<=400000:=by simp [tlen];omega
    have hx:xs=dfT a b:=hx
    have hall:=ascS_ok (dfT_asc hok.1 hok.2)
    refine A4 ?_
    refine RE (Does.giveL (k:=60) (es:=2) (off:=0) (len:=xs.length) (xs:=xs) (f:=tSn) (ts:=rV tSn xs) (xc1 (ts:=[.own (.sl 60 2 0 xs.length)]) (0) ti90 rfl rfl) (fun _ h=>h) (xg2 rfl) rfl) qA qB trivial (R1 (x3 (c_SnMake xs (by omega)) fi78 rfl) rfl ?_)
    refine A7 ?_
    exact E_ret2 (Plain.loop Plain.mk' hD) rfl rfl rfl (Le.of (by rw [if_pos hok,hx,if_pos hall];rfl)) (Le.int (by rw [if_pos hok,hx,if_pos hall]))
   ·
    intro D hD e i;exact i.elim
end An.S
namespace An
open Go
theorem off_mapV {α:Type} {es:Nat} {agg:Bool} {f:α->Ty}: ∀(l:List α) (i:Nat),i < l.length->Fd.off (l.map fun x=>⟨es,agg,f x⟩) i=i*es
 | [],i,h=>by simp at h
 | _::r,0,_=>by simp [Fd.off]
 | _::r,i+1,h=>by
  rw [List.map_cons,Fd.off,off_mapV r i (by simpa using h),Nat.succ_mul]
  exact Nat.add_comm _ _
theorem At.row {α:Type} {es:Nat} {agg:Bool} {f:α->Ty} {l:List α} {i:Nat} (d:α) (hi:i < l.length):At (tS (l.map fun x=>⟨es,agg,f x⟩)) (i*es) es agg (f (l.getD i d)):=
 At.f i (f:=⟨es,agg,f (l.getD i d)⟩) (by rw [List.getElem?_map,gD (d:=d) hi];rfl) (off_mapV l i hi)
section
variable {P:Program} {c:Base} {d ty:Nat} {pos:String} {af:Array Edge} {gd:Option (Nat×Bool)}
theorem run_part {E es:Nat} {agg:Bool} (t:TyI P E es agg) {cs:Array Value} {o:Nat} (ho:o+es<=cs.size) (h1:agg=false->es=1) (w:World):(part E cs o).run P w= .ok (pick agg es cs o) w:=by
 simp only [part,Sem.run_bind,t.agg_run w,Result.andThen_ok]
 cases agg with
 | true=>simp only [↓reduceIte,Sem.run_bind,t.size_run w,Result.andThen_ok,Sem.run_pure,pick,cond_true]
 | false=>
  have:=h1 rfl
  simp only [Bool.false_eq_true,↓reduceIte,pick,cond_false]
  rw [Array.getD_eq_getD_getElem?,Array.getElem?_eq_getElem (show o < cs.size by omega)]
  rfl
theorem d_indexV {T E es len:Nat} {agg:Bool} {k:IntKind} {x y:Operand} {t t':Ty} {v:Int} (hT:P.underlying T=some (.array len E)) (ti:TyI P E es agg) (i:Nat) (hv:v=(i:Int)) (hi:i < len) (hat:At t (i*es) es agg t'):
  Does P c ⟨some d,.index T x y,ty,pos,af,gd⟩ ⟨[(x,.val t),(y,.val (tE (.int k v)))],[],some (d,some (.val t')),[],[]⟩:=
 Does.value rfl fun g h al a w η hrd _ s=>by
  subst hv
  obtain ⟨cs,h1,h2,h3,h4⟩:=hat _ _ _ (xa0 s hrd.1).1
  have h5:a.eval y= .int k (i:Int):=(xa0 s hrd.2.1).1
  refine ⟨_,w,?_,Ext.refl w,h3,fun j hj=>by cases hj⟩
  simp only [execOp,h1,h5,Instr.index,asIntOf,Sem.run_bind,Sem.run_pure,run_underlying hT,Result.andThen_ok]
  rw [if_pos ⟨by omega,by omega⟩]
  simp only [Sem.run_bind,ti.size_run w,Result.andThen_ok]
  rw [Int.toNat_natCast,run_part ti h2 h4 w];rfl
end
end An
namespace An.S
open Go Go.Proofs An
instance fi60:FnI Tryz.prog 60:=⟨_,Tryz.func60,by kernel_rfl,rfl⟩
instance fi95:FnI Tryz.prog 95:=⟨_,Tryz.func95,by kernel_rfl,rfl⟩
theorem c_SameStep (x y:Tst):
  Ct Tryz.prog 60 [tTs x,tTs y] (tB (decide (x=y))):=by
 refine Ct.intro Tryz.func60 rfl Tryz.ntmps60 rfl ?_
 intro w F
 refine A15 ?_
 refine RGcaseD (t:=10) rfl (fun h196=> ?_) (fun h196=> ?_)
 ·
  refine A7 ?_
  refine RGcaseD (t:=17) rfl (fun h196_2=> ?_) (fun h196_2=> ?_)
  ·
   refine A4 ?_
   refine Rg (decide_eq_true h196_2) rfl (x3 (c_SameValue _ _) fi95 rfl) rfl qB ?_
   refine A5 ?_
   exact E1 rfl rfl (Le.bool (by obtain ⟨a,b,e⟩:=x;obtain ⟨c,d,f⟩:=y;simp only [Tst.mk.injEq] at*;simp_all <;> omega))
  ·
   refine A10 ?_
   exact E1 rfl rfl (Le.bool (by obtain ⟨a,b,e⟩:=x;obtain ⟨c,d,f⟩:=y;simp only [Tst.mk.injEq] at*;simp_all <;> omega))
 ·
  refine A17 ?_
  exact E1 rfl rfl (Le.bool (by obtain ⟨a,b,e⟩:=x;obtain ⟨c,d,f⟩:=y;simp only [Tst.mk.injEq] at*;simp_all <;> omega))
theorem xw0 (l:List Tst) (k:Nat) (hk:k < l.length):l.take (k+1)=l.take k++[l.getD k tst0]:=by
 rw [List.take_succ_eq_append_getElem hk,List.getD_eq_getElem?_getD,List.getElem?_eq_getElem hk];rfl
theorem xw2 (l:List Int) (k:Nat) (hk:k < l.length):l.take (k+1)=l.take k++[l.getD k 0]:=by
 rw [List.take_succ_eq_append_getElem hk,List.getD_eq_getElem?_getD,List.getElem?_eq_getElem hk];rfl
theorem c_SameSteps (xs ys:List Tst):
  Ct Tryz.prog 17 [tL 8 true tTs xs,tL 8 true tTs ys] (tB (decide (xs=ys))):=by
 refine Ct.intro Tryz.func17 rfl Tryz.ntmps17 rfl ?_
 intro w F
 refine xg9 (s:=0) rfl (fun hl0=> ?_)
 refine A15 ?_
 refine x6 rfl (fun h206=> ?_) (fun h206=> ?_)
 ·
  refine A7 ?_
  exact E1 rfl rfl (Le.bool (decide_eq_false (fun h=>by rw [h] at h206;omega)).symm)
 ·
  have hll:xs.length=ys.length:=by omega
  refine A9 ?_
  refine cL (fun (i:Nat)=>i<=xs.length/\xs.take i=ys.take i) (fun (i:Nat)=>uV (uV (uV uN 0 (tL 8 true tTs xs)) 1 (tL 8 true tTs ys)) 5 (tI i)) (fun (i:Nat)=>fun _=>none) [] (fun (i:Nat)=>xs.length - i) (0) ⟨Nat.zero_le _,rfl⟩ ?_
  intro i hI
  obtain ⟨hi,ht⟩:=hI
  refine A9 ?_
  refine x6 rfl (fun h209=> ?_) (fun h209=> ?_)
  ·
   refine A8 ?_
   refine R2 (x4 sl44 i (by omega) (gD (d:=tst0) (by omega))) rfl rfl ?_
   refine A3 ?_
   refine R2 (x4 sl44 i (by omega) (gD (d:=tst0) (by omega))) rfl rfl ?_
   refine A1 ?_
   refine R2 (x3 (c_SameStep _ _) fi60 rfl) rfl rfl ?_
   refine A3 ?_
   refine C_ifn rfl (fun h210=> ?_) (fun h210=> ?_)
   ·
    refine A11 ?_
    exact E1 rfl rfl (Le.bool (decide_eq_false (fun h=>by rw [h] at h210;exact (h210 rfl))).symm)
   ·
    refine A8 ?_
    exact kF (i+1) ⟨⟨by omega,by rw [xw0 xs i (by omega),xw0 ys i (by omega),ht,show xs.getD i tst0=ys.getD i tst0 from h210]⟩,(by omega)⟩
  ·
   refine A11 ?_
   exact E1 rfl rfl (Le.bool (decide_eq_true (by rw [show i=xs.length by omega,List.take_length,hll,List.take_length] at ht;exact ht)).symm)
theorem c_SameInts (xs ys:List Int):
  Ct Tryz.prog 30 [tL 1 false tI xs,tL 1 false tI ys] (tB (decide (xs=ys))):=by
 refine Ct.intro Tryz.func30 rfl Tryz.ntmps30 rfl ?_
 intro w F
 refine xg9 (s:=0) rfl (fun hl0=> ?_)
 refine A15 ?_
 refine x6 rfl (fun h27=> ?_) (fun h27=> ?_)
 ·
  refine A7 ?_
  exact E1 rfl rfl (Le.bool (decide_eq_false (fun h=>by rw [h] at h27;omega)).symm)
 ·
  have hll:xs.length=ys.length:=by omega
  refine A9 ?_
  refine cL (fun (i:Nat)=>i<=xs.length/\xs.take i=ys.take i) (fun (i:Nat)=>uV (uV (uV uN 0 (tL 1 false tI xs)) 1 (tL 1 false tI ys)) 5 (tI i)) (fun (i:Nat)=>fun _=>none) [] (fun (i:Nat)=>xs.length - i) (0) ⟨Nat.zero_le _,rfl⟩ ?_
  intro i hI
  obtain ⟨hi,ht⟩:=hI
  refine A9 ?_
  refine x6 rfl (fun h30=> ?_) (fun h30=> ?_)
  ·
   refine A8 ?_
   refine R2 (x4 sl43 i (by omega) (gD (d:=0) (by omega))) rfl rfl ?_
   refine A3 ?_
   refine R2 (x4 sl43 i (by omega) (gD (d:=0) (by omega))) rfl rfl ?_
   refine A4 ?_
   refine x6 rfl (fun h31=> ?_) (fun h31=> ?_)
   ·
    refine A11 ?_
    exact E1 rfl rfl (Le.bool (decide_eq_false (fun h=>by rw [h] at h31;exact (h31 rfl))).symm)
   ·
    refine A8 ?_
    exact kF (i+1) ⟨⟨by omega,by rw [xw2 xs i (by omega),xw2 ys i (by omega),ht,show xs.getD i 0=ys.getD i 0 from (Decidable.of_not_not h31)]⟩,(by omega)⟩
  ·
   refine A11 ?_
   exact E1 rfl rfl (Le.bool (decide_eq_true (by rw [show i=xs.length by omega,List.take_length,hll,List.take_length] at ht;exact ht)).symm)
end An.S
namespace An
section
variable {α:Type} {k:α->Int}
def Sbl (k:α->Int) (xs ys:List α):Prop:= ∀v,xs.filter (fun x=>decide (k x=v))=ys.filter (fun x=>decide (k x=v))
theorem Sbl.refl (xs:List α):Sbl k xs xs:=fun _=>rfl
theorem Sbl.symm {xs ys:List α} (h:Sbl k xs ys):Sbl k ys xs:=fun v=>(h v).symm
theorem Sbl.trans {xs ys zs:List α} (h:Sbl k xs ys) (g:Sbl k ys zs):Sbl k xs zs:=fun v=>(h v).trans (g v)
theorem Sbl.app {a b c d:List α} (h:Sbl k a b) (g:Sbl k c d):Sbl k (a++c) (b++d):=fun v=>by rw [List.filter_append,List.filter_append,h v,g v]
theorem Sbl.swap {u v:List α} (h: ∀a∈u,∀b∈v,k a≠k b):Sbl k (u++v) (v++u):=fun z=>by
 rw [List.filter_append,List.filter_append]
 by_cases hu:u.filter (fun x=>decide (k x=z))=[]
 ·rw [hu];simp
 ·have hv:v.filter (fun x=>decide (k x=z))=[]:=List.filter_eq_nil_iff.2 fun b hb hbz=>by
   obtain ⟨a,ha⟩:=List.exists_mem_of_ne_nil _ hu
   obtain ⟨h1,h2⟩:=List.mem_filter.1 ha
   exact h a h1 b hb ((of_decide_eq_true h2).trans (of_decide_eq_true hbz).symm)
  rw [hv];simp
theorem Sbl.mem {xs ys:List α} (h:Sbl k xs ys) {x:α}:x∈xs↔x∈ys:=by
 have h1:=h (k x)
 have e: ∀l:List α,x∈l↔x∈l.filter (fun y=>decide (k y=k x)):=fun l=>by simp
 rw [e xs,e ys,h1]
theorem Sbl.tail {x:α} {xs ys:List α} (h:Sbl k (x::xs) (x::ys)):Sbl k xs ys:=fun v=>by
 have:=h v
 rw [List.filter_cons,List.filter_cons] at this
 split at this
 ·exact (List.cons.inj this).2
 ·exact this
abbrev Srt (k:α->Int) (xs:List α):Prop:=xs.Pairwise fun a b=>k a<=k b
theorem sbl_eq: ∀{xs ys:List α},Srt k xs->Srt k ys->Sbl k xs ys->xs=ys
 | [],[],_,_,_=>rfl
 | [],y::s,_,_,h=>by have:=(h.mem (x:=y)).2 (List.mem_cons_self ..);cases this
 | x::r,[],_,_,h=>by have:=(h.mem (x:=x)).1 (List.mem_cons_self ..);cases this
 | x::r,y::s,h1,h2,h=>by
  have g1:=List.pairwise_cons.1 h1
  have g2:=List.pairwise_cons.1 h2
  have a1:k y<=k x:=by
   rcases List.mem_cons.1 ((h.mem (x:=x)).1 (List.mem_cons_self ..)) with e | e
   ·rw [e];exact Int.le_refl _
   ·exact g2.1 x e
  have a2:k x<=k y:=by
   rcases List.mem_cons.1 ((h.mem (x:=y)).2 (List.mem_cons_self ..)) with e | e
   ·rw [e];exact Int.le_refl _
   ·exact g1.1 y e
  have hv:=h (k x)
  rw [List.filter_cons,List.filter_cons,if_pos (by simp),if_pos (by simp;omega)] at hv
  have e:=(List.cons.inj hv).1
  subst e
  rw [sbl_eq g1.2 g2.2 h.tail]
def insS (k:α->Int) (x:α):List α->List α
 | []=>[x]
 | y::r=>if k x<=k y then x::y::r else y::insS k x r
def ssort (k:α->Int):List α->List α
 | []=>[]
 | x::r=>insS k x (ssort k r)
theorem insS_sbl {x:α}: ∀l:List α,Sbl k (x::l) (insS k x l)
 | []=>Sbl.refl _
 | y::r=>by
  rw [insS];split
  ·exact Sbl.refl _
  ·next h=>exact Sbl.trans (Sbl.swap (u:=[x]) (v:=[y]) (fun a ha b hb=>by rw [List.mem_singleton.1 ha,List.mem_singleton.1 hb];omega) |>.app (Sbl.refl r)) (Sbl.app (Sbl.refl [y]) (insS_sbl r))
theorem insS_srt {x:α}: ∀{l:List α},Srt k l->Srt k (insS k x l)
 | [],_=>List.pairwise_singleton ..
 | y::r,h=>by
  rw [insS];split
  ·next hx=>exact List.pairwise_cons.2 ⟨fun b hb=>by
    rcases List.mem_cons.1 hb with e | e
    ·rw [e];exact hx
    ·exact Int.le_trans hx ((List.pairwise_cons.1 h).1 b e),h⟩
  ·next hx=>exact List.pairwise_cons.2 ⟨fun b hb=>by
    rcases List.mem_cons.1 ((insS_sbl r).mem.2 hb) with e | e
    ·rw [e];omega
    ·exact (List.pairwise_cons.1 h).1 b e,insS_srt (List.pairwise_cons.1 h).2⟩
theorem ssort_sbl: ∀l:List α,Sbl k l (ssort k l)
 | []=>Sbl.refl _
 | x::r=>Sbl.trans (Sbl.app (Sbl.refl [x]) (ssort_sbl r)) (insS_sbl _)
theorem xt4: ∀l:List α,Srt k (ssort k l)
 | []=>List.Pairwise.nil
 | _::r=>insS_srt (xt4 r)
theorem ssort_uniq {xs ys:List α} (h1:Srt k ys) (h2:Sbl k xs ys):ys=ssort k xs:=sbl_eq h1 (xt4 xs) (h2.symm.trans (ssort_sbl xs))
theorem ssort_mem {xs:List α} {x:α}:x∈ssort k xs↔x∈xs:=(ssort_sbl xs).mem.symm
theorem insS_len {x:α}: ∀l:List α,(insS k x l).length=l.length+1
 | []=>rfl
 | y::r=>by rw [insS];split <;> simp [insS_len r]
theorem xt0: ∀l:List α,(ssort k l).length=l.length
 | []=>rfl
 | x::r=>by rw [ssort,insS_len,xt0 r];rfl
variable (d:α)
structure Prt (k:α->Int) (d:α) (a b:Nat) (xs ys:List α):Prop where
  len:ys.length=xs.length
  out: ∀i,i < a∨b<=i->ys.getD i d=xs.getD i d
  sb:Sbl k xs ys
variable {d}
theorem Prt.refl (a b:Nat) (xs:List α):Prt k d a b xs xs:=⟨rfl,fun _ _=>rfl,Sbl.refl _⟩
theorem Prt.trans {a b:Nat} {xs ys zs:List α} (h:Prt k d a b xs ys) (g:Prt k d a b ys zs):Prt k d a b xs zs:=⟨g.len.trans h.len,fun i hi=>(g.out i hi).trans (h.out i hi),h.sb.trans g.sb⟩
theorem Prt.mono {a b a' b':Nat} {xs ys:List α} (h:Prt k d a b xs ys) (h1:a'<=a) (h2:b<=b'):Prt k d a' b' xs ys:=⟨h.len,fun i hi=>h.out i (by omega),h.sb⟩
def SrtP (k:α->Int) (d:α) (a b:Nat) (xs:List α):Prop:= ∀i j,a<=i->i < j->j < b->k (xs.getD i d)<=k (xs.getD j d)
theorem xi7 {xs ys:List α} (hl:xs.length=ys.length) (h: ∀i,i < xs.length->xs.getD i d=ys.getD i d):xs=ys:=by
 apply List.ext_getElem hl
 intro i h1 h2
 have:=h i h1
 rwa [List.getD_eq_getElem?_getD,List.getD_eq_getElem?_getD,List.getElem?_eq_getElem h1,List.getElem?_eq_getElem h2] at this
theorem xt5 {xs:List α} {n i:Nat} (h:i < n):(xs.take n).getD i d=xs.getD i d:=by rw [List.getD_eq_getElem?_getD,List.getElem?_take,if_pos h,List.getD_eq_getElem?_getD]
theorem xt6 {xs:List α} {n i:Nat}:(xs.drop n).getD i d=xs.getD (n+i) d:=by rw [List.getD_eq_getElem?_getD,List.getElem?_drop,List.getD_eq_getElem?_getD]
def sgm (a b:Nat) (xs:List α):List α:=(xs.take b).drop a
theorem xg3 {a b:Nat} {xs:List α} (hb:b<=xs.length):(sgm a b xs).length=b - a:=by rw [sgm,List.length_drop,List.length_take];omega
theorem xq6 {a b i:Nat} {xs:List α} (h:a+i < b):(sgm a b xs).getD i d=xs.getD (a+i) d:=by rw [sgm,xt6,xt5 h]
theorem xq7 {a b:Nat} {xs:List α} (hab:a<=b):xs=xs.take a++(sgm a b xs++xs.drop b):=by
 have e1:xs.take a=(xs.take b).take a:=by rw [List.take_take,Nat.min_eq_left hab]
 rw [<-List.append_assoc,sgm,e1,List.take_append_drop,List.take_append_drop]
def srtR (k:α->Int) (a b:Nat) (xs:List α):List α:=xs.take a++(ssort k (sgm a b xs)++xs.drop b)
theorem prt_sg {a b:Nat} {xs ys:List α} (hab:a<=b) (hb:b<=xs.length) (h:Prt k d a b xs ys):ys.take a=xs.take a/\ys.drop b=xs.drop b/\Sbl k (sgm a b xs) (sgm a b ys):=by
 have hl:=h.len
 have e1:ys.take a=xs.take a:=xi7 (d:=d) (by simp [hl]) fun i hi=>by
  rw [List.length_take] at hi
  rw [xt5 (by omega),xt5 (by omega),h.out i (by omega)]
 have e2:ys.drop b=xs.drop b:=xi7 (d:=d) (by simp [hl]) fun i hi=>by
  rw [xt6,xt6,h.out _ (by omega)]
 refine ⟨e1,e2,fun v=> ?_⟩
 have h3:=h.sb v
 have s1:=xq7 (xs:=xs) hab
 have s2:=xq7 (xs:=ys) hab
 rw [e1,e2] at s2
 rw [s1,s2] at h3
 simp only [List.filter_append] at h3
 exact List.append_cancel_right (List.append_cancel_left h3)
theorem srtP_sg {a b:Nat} {xs:List α} (hb:b<=xs.length) (h:SrtP k d a b xs):Srt k (sgm a b xs):=by
 refine List.pairwise_iff_getElem.2 fun i j hi hj hij=> ?_
 rw [xg3 hb] at hi hj
 have:=h (a+i) (a+j) (by omega) (by omega) (by omega)
 rw [<-xq6 (b:=b) (by omega),<-xq6 (b:=b) (by omega),List.getD_eq_getElem?_getD,List.getD_eq_getElem?_getD,List.getElem?_eq_getElem (by rw [xg3 hb];omega),List.getElem?_eq_getElem (by rw [xg3 hb];omega)] at this
 exact this
theorem srtR_of {a b:Nat} {xs ys:List α} (hab:a<=b) (hb:b<=xs.length) (h:Prt k d a b xs ys) (hs:SrtP k d a b ys):ys=srtR k a b xs:=by
 obtain ⟨h1,h2,h3⟩:=prt_sg hab hb h
 have:=ssort_uniq (srtP_sg (by rw [h.len];exact hb) hs) h3
 rw [srtR,<-this,<-h1,<-h2,<-xq7 hab]
theorem srtR_len {a b:Nat} {xs:List α} (hab:a<=b) (hb:b<=xs.length):(srtR k a b xs).length=xs.length:=by
 rw [srtR,List.length_append,List.length_append,xt0,xg3 hb,List.length_take,List.length_drop];omega
theorem xo3 {a b:Nat} {xs:List α} (hab:a<=b) (hb:b<=xs.length):Prt k d a b xs (srtR k a b xs):=by
 refine ⟨srtR_len hab hb,fun i hi=> ?_,?_⟩
 ·rw [srtR]
  rcases hi with hi | hi
  ·rw [List.getD_eq_getElem?_getD,List.getElem?_append_left (by rw [List.length_take];omega),<-List.getD_eq_getElem?_getD,xt5 hi]
  ·have e1:(xs.take a).length=a:=by rw [List.length_take];omega
   have e2:(ssort k (sgm a b xs)).length=b - a:=by rw [xt0,xg3 hb]
   rw [List.getD_eq_getElem?_getD,List.getElem?_append_right (by omega),List.getElem?_append_right (by omega),<-List.getD_eq_getElem?_getD,xt6,e1,e2]
   congr 1;omega
 ·intro v
  rw [srtR]
  conv=>lhs;rw [xq7 (xs:=xs) hab]
  exact ((Sbl.refl _).app ((ssort_sbl _).app (Sbl.refl _))) v
theorem xr3 {a b:Nat} {xs:List α} (hab:a<=b) (hb:b<=xs.length):SrtP k d a b (srtR k a b xs):=by
 intro i j h1 h2 h3
 have e1:(xs.take a).length=a:=by rw [List.length_take];omega
 have e2:(ssort k (sgm a b xs)).length=b - a:=by rw [xt0,xg3 hb]
 have key: ∀t,a<=t->(h:t < b)->(srtR k a b xs).getD t d=(ssort k (sgm a b xs))[t - a]'(by omega):=fun t g1 g2=>by
  rw [srtR,List.getD_eq_getElem?_getD,List.getElem?_append_right (by omega),List.getElem?_append_left (by omega),e1,List.getElem?_eq_getElem (by omega)];rfl
 rw [key i h1 (by omega),key j (by omega) h3]
 exact List.pairwise_iff_getElem.1 (xt4 _) _ _ _ _ (by omega)
theorem srtR_all {xs:List α}:srtR k 0 xs.length xs=ssort k xs:=by rw [srtR,sgm];simp
def rotR (a m b:Nat) (xs:List α):List α:=xs.take a++(sgm m b xs++(sgm a m xs++xs.drop b))
theorem rot_split {a m b:Nat} {xs:List α} (h1:a<=m) (h2:m<=b):xs=xs.take a++(sgm a m xs++(sgm m b xs++xs.drop b)):=by
 conv=>lhs;rw [xq7 (xs:=xs) h1,xq7 (xs:=xs.drop m) (a:=0) (b:=b - m) (by omega)]
 congr 2
 have e:b - m+m=b:=by omega
 rw [List.take_zero,List.nil_append,List.drop_drop,Nat.add_comm m,e]
 congr 1
 rw [sgm,sgm,List.drop_zero,List.take_drop,Nat.add_comm m,e]
theorem xe2 {a m b:Nat} {xs:List α} (h1:a<=m) (h2:m<=b) (h3:b<=xs.length):(rotR a m b xs).length=xs.length:=by
 simp only [rotR,List.length_append,List.length_take,List.length_drop,xg3 h3,xg3 (show m<=xs.length by omega)];omega
theorem xe4 {a m b i:Nat} {xs:List α} (h1:a<=m) (h2:m<=b) (h3:b<=xs.length):(rotR a m b xs).getD i d=if i < a then xs.getD i d else if i < a+(b - m) then xs.getD (m+(i - a)) d else if i < b then xs.getD (a+(i - (a+(b - m)))) d else xs.getD i d:=by
 have e0:(xs.take a).length=a:=by rw [List.length_take];omega
 have e1:=xg3 (a:=m) h3
 have e2:=xg3 (a:=a) (show m<=xs.length by omega)
 rw [rotR,List.getD_eq_getElem?_getD]
 split
 ·rw [List.getElem?_append_left (by omega),<-List.getD_eq_getElem?_getD,xt5 (by omega)]
 ·rw [List.getElem?_append_right (by omega)]
  split
  ·rw [List.getElem?_append_left (by omega),<-List.getD_eq_getElem?_getD,e0,xq6 (by omega)]
  ·rw [List.getElem?_append_right (by omega)]
   split
   ·rw [List.getElem?_append_left (by omega),<-List.getD_eq_getElem?_getD,xq6 (by omega)]
    congr 1;omega
   ·rw [List.getElem?_append_right (by omega),<-List.getD_eq_getElem?_getD,xt6]
    congr 1;omega
theorem rot_prt {a m b:Nat} {xs:List α} (h1:a<=m) (h2:m<=b) (h3:b<=xs.length) (h: ∀i j,a<=i->i < m->m<=j->j < b->k (xs.getD i d)≠k (xs.getD j d)):Prt k d a b xs (rotR a m b xs):=by
 refine ⟨xe2 h1 h2 h3,fun i hi=> ?_,?_⟩
 ·rw [xe4 h1 h2 h3]
  rcases hi with hi | hi
  ·rw [if_pos hi]
  ·split
   ·omega
   ·split
    ·omega
    ·rw [if_neg (by omega)]
 ·intro v
  conv=>lhs;rw [rot_split (xs:=xs) h1 h2]
  rw [rotR,<-List.append_assoc (sgm a m xs),<-List.append_assoc (sgm m b xs)]
  refine ((Sbl.refl _).app ((Sbl.swap fun x hx y hy=> ?_).app (Sbl.refl _))) v
  obtain ⟨i,hi,rfl⟩:=List.mem_iff_getElem.1 hx
  obtain ⟨j,hj,rfl⟩:=List.mem_iff_getElem.1 hy
  rw [xg3 (show m<=xs.length by omega)] at hi
  rw [xg3 h3] at hj
  have:=h (a+i) (m+j) (by omega) (by omega) (by omega) (by omega)
  rw [<-xq6 (b:=m) (by omega),<-xq6 (b:=b) (by omega),List.getD_eq_getElem?_getD,List.getD_eq_getElem?_getD,List.getElem?_eq_getElem (by rw [xg3 (show m<=xs.length by omega)];omega),List.getElem?_eq_getElem (by rw [xg3 h3];omega)] at this
  exact this
def swpR (d:α) (a b n:Nat) (xs:List α):List α:=(List.range xs.length).map fun t=>if a<=t/\t < a+n then xs.getD (b+(t - a)) d else if b<=t/\t < b+n then xs.getD (a+(t - b)) d else xs.getD t d
theorem xh6 {a b n:Nat} {xs:List α}:(swpR d a b n xs).length=xs.length:=by simp [swpR]
theorem xh5 {a b n t:Nat} {xs:List α} (ht:t < xs.length):(swpR d a b n xs).getD t d=if a<=t/\t < a+n then xs.getD (b+(t - a)) d else if b<=t/\t < b+n then xs.getD (a+(t - b)) d else xs.getD t d:=by
 rw [swpR,List.getD_eq_getElem?_getD,List.getElem?_map,List.getElem?_range ht];rfl
theorem swp_zero {a b:Nat} {xs:List α}:swpR d a b 0 xs=xs:=xi7 (d:=d) xh6 fun i hi=>by
 rw [xh6] at hi
 rw [xh5 hi,if_neg (by omega),if_neg (by omega)]
theorem getD_set {xs:List α} {i j:Nat} {x:α} (hi:i < xs.length):(xs.set i x).getD j d=if j=i then x else xs.getD j d:=by
 rw [List.getD_eq_getElem?_getD,List.getElem?_set]
 by_cases h:i=j
 ·subst h;rw [if_pos rfl,if_pos hi,if_pos rfl];rfl
 ·rw [if_neg h,if_neg (Ne.symm h),List.getD_eq_getElem?_getD]
theorem swp_next {a b n:Nat} {xs:List α} (h1:a+n < b) (h2:b+n < xs.length):((swpR d a b n xs).set (a+n) (xs.getD (b+n) d)).set (b+n) (xs.getD (a+n) d)=swpR d a b (n+1) xs:=by
 refine xi7 (d:=d) (by simp [xh6]) fun i hi=> ?_
 simp only [List.length_set,xh6] at hi
 rw [getD_set (by simp [xh6];omega),getD_set (by simp [xh6];omega),xh5 hi,xh5 hi]
 by_cases e1:i=b+n
 ·subst e1
  rw [if_pos rfl,if_neg (by omega),if_pos (by omega)]
  congr 1;omega
 ·rw [if_neg e1]
  by_cases e2:i=a+n
  ·subst e2
   rw [if_pos rfl,if_pos (by omega)]
   congr 1;omega
  ·rw [if_neg e2]
   (repeat' split) <;> first | rfl | omega | (congr 1;omega)
theorem swp_same {a b n:Nat} {xs:List α} (h1:a+n < b) (h2:b+n < xs.length):(swpR d a b n xs).getD (a+n) d=xs.getD (a+n) d/\(swpR d a b n xs).getD (b+n) d=xs.getD (b+n) d:=by
 rw [xh5 (by omega),xh5 (by omega),if_neg (by omega),if_neg (by omega),if_neg (by omega),if_neg (by omega)];exact ⟨rfl,rfl⟩
theorem rot_left {m i j:Nat} {xs:List α} (h1:i<=m) (h2:j < i) (h3:m+j<=xs.length):rotR (m - (i - j)) m (m+j) (swpR d (m - i) m j xs)=rotR (m - i) m (m+j) xs:=by
 have hl:(swpR d (m - i) m j xs).length=xs.length:=xh6
 refine xi7 (d:=d) (by rw [xe2 (by omega) (by omega) (by omega),xe2 (by omega) (by omega) (by omega),hl]) fun t ht=> ?_
 rw [xe2 (by omega) (by omega) (by omega),hl] at ht
 rw [xe4 (by omega) (by omega) (by omega),xe4 (by omega) (by omega) (by omega)]
 by_cases c1:t < m - i
 ·rw [if_pos (by omega),if_pos c1,xh5 ht,if_neg (by omega),if_neg (by omega)]
 ·rw [if_neg c1]
  by_cases c2:t < m - i+(m+j - m)
  ·rw [if_pos (by omega),if_pos c2,xh5 ht,if_pos (by omega)]
  ·rw [if_neg c2]
   by_cases c3:t < m - (i - j)
   ·omega
   ·rw [if_neg c3]
    by_cases c4:t < m - (i - j)+(m+j - m)
    ·rw [if_pos c4,if_pos (by omega),xh5 (by omega),if_neg (by omega),if_pos (by omega)]
     congr 1;omega
    ·rw [if_neg c4]
     by_cases c5:t < m+j
     ·rw [if_pos c5,if_pos c5,xh5 (by omega),if_neg (by omega),if_neg (by omega)]
      congr 1;omega
     ·rw [if_neg c5,if_neg c5,xh5 ht,if_neg (by omega),if_neg (by omega)]
theorem rot_right {m i j:Nat} {xs:List α} (h1:i<=m) (h2:i < j) (h3:m+j<=xs.length):rotR (m - i) m (m+(j - i)) (swpR d (m - i) (m+j - i) i xs)=rotR (m - i) m (m+j) xs:=by
 have hl:(swpR d (m - i) (m+j - i) i xs).length=xs.length:=xh6
 refine xi7 (d:=d) (by rw [xe2 (by omega) (by omega) (by omega),xe2 (by omega) (by omega) (by omega),hl]) fun t ht=> ?_
 rw [xe2 (by omega) (by omega) (by omega),hl] at ht
 rw [xe4 (by omega) (by omega) (by omega),xe4 (by omega) (by omega) (by omega)]
 by_cases c1:t < m - i
 ·rw [if_pos c1,if_pos c1,xh5 ht,if_neg (by omega),if_neg (by omega)]
 ·rw [if_neg c1,if_neg c1]
  by_cases c2:t < m - i+(m+(j - i) - m)
  ·rw [if_pos c2,if_pos (by omega),xh5 (by omega),if_neg (by omega),if_neg (by omega)]
  ·rw [if_neg c2]
   by_cases c3:t < m+(j - i)
   ·rw [if_pos c3,if_pos (by omega),xh5 (by omega),if_pos (by omega)]
    congr 1;omega
   ·rw [if_neg c3]
    by_cases c4:t < m+j
    ·rw [xh5 ht,if_neg (by omega),if_pos (by omega),if_neg (by omega),if_pos c4]
     congr 1;omega
    ·rw [xh5 ht,if_neg (by omega),if_neg (by omega),if_neg (by omega),if_neg c4]
theorem rot_same {m i:Nat} {xs:List α} (h1:i<=m) (h3:m+i<=xs.length):swpR d (m - i) m i xs=rotR (m - i) m (m+i) xs:=by
 refine xi7 (d:=d) (by rw [xe2 (by omega) (by omega) (by omega),xh6]) fun t ht=> ?_
 rw [xh6] at ht
 rw [xe4 (by omega) (by omega) (by omega),xh5 ht]
 (repeat' split) <;> first | rfl | omega | (congr 1;omega)
def swp1 (d:α) (j:Nat) (xs:List α):List α:=(xs.set j (xs.getD (j+1) d)).set (j+1) (xs.getD j d)
theorem swp1_len {j:Nat} {xs:List α}:(swp1 d j xs).length=xs.length:=by simp [swp1]
theorem swp1_get {j t:Nat} {xs:List α} (h:j+1 < xs.length):(swp1 d j xs).getD t d=if t=j+1 then xs.getD j d else if t=j then xs.getD (j+1) d else xs.getD t d:=by
 rw [swp1,getD_set (by simp;omega),getD_set (by omega)]
theorem swp1_rot {j:Nat} {xs:List α} (h:j+1 < xs.length):swp1 d j xs=rotR j (j+1) (j+2) xs:=by
 refine xi7 (d:=d) (by rw [xe2 (by omega) (by omega) (by omega),swp1_len]) fun t ht=> ?_
 rw [swp1_get h,xe4 (by omega) (by omega) (by omega)]
 by_cases c1:t=j+1
 ·subst c1;rw [if_pos rfl,if_neg (by omega),if_neg (by omega),if_pos (by omega)];congr 1;omega
 ·rw [if_neg c1]
  by_cases c2:t=j
  ·subst c2;rw [if_pos rfl,if_neg (by omega),if_pos (by omega)];congr 1;omega
  ·rw [if_neg c2]
   by_cases c3:t < j
   ·rw [if_pos c3]
   ·rw [if_neg c3,if_neg (by omega),if_neg (by omega)]
theorem swp1_prt {a b j:Nat} {xs:List α} (h1:a<=j) (h2:j+1 < b) (h3:b<=xs.length) (h:k (xs.getD (j+1) d) < k (xs.getD j d)):Prt k d a b xs (swp1 d j xs):=by
 rw [swp1_rot (by omega)]
 refine (rot_prt (by omega) (by omega) (by omega) fun i i' g1 g2 g3 g4=> ?_).mono h1 (by omega)
 have e1:i=j:=by omega
 have e2:i'=j+1:=by omega
 subst e1 e2;omega
end
section
variable {α:Type} {k:α->Int} {d:α}
theorem prt_mem {a b i:Nat} {xs ys:List α} (hb:b<=xs.length) (h:Prt k d a b xs ys) (h1:a<=i) (h2:i < b): ∃j,a<=j/\j < b/\ys.getD i d=xs.getD j d:=by
 have h3:=(prt_sg (by omega) hb h).2.2
 have e:ys.getD i d∈sgm a b ys:=by
  have hl:i - a < (sgm a b ys).length:=by rw [xg3 (by rw [h.len];exact hb)];omega
  have:=xq6 (d:=d) (a:=a) (b:=b) (i:=i - a) (xs:=ys) (by omega)
  rw [show a+(i - a)=i by omega] at this
  rw [<-this,List.getD_eq_getElem?_getD,List.getElem?_eq_getElem hl];exact List.getElem_mem hl
 obtain ⟨j,hj,hj2⟩:=List.mem_iff_getElem.1 (h3.mem.2 e)
 rw [xg3 hb] at hj
 refine ⟨a+j,by omega,by omega,?_⟩
 rw [<-xq6 (b:=b) (by omega),List.getD_eq_getElem?_getD (l:=sgm a b xs),List.getElem?_eq_getElem (by rw [xg3 hb];omega)]
 exact hj2.symm
theorem SrtP.sub {a b a' b':Nat} {xs:List α} (h:SrtP k d a b xs) (h1:a<=a') (h2:b'<=b):SrtP k d a' b' xs:=fun i j g1 g2 g3=>h i j (by omega) g2 (by omega)
theorem SrtP.le {a b i j:Nat} {xs:List α} (h:SrtP k d a b xs) (h1:a<=i) (h2:i<=j) (h3:j < b):k (xs.getD i d)<=k (xs.getD j d):=by
 rcases Nat.lt_or_ge i j with h4 | h4
 ·exact h i j h1 h4 h3
 ·rw [show i=j by omega];exact Int.le_refl _
theorem SrtP.out {a b a' b':Nat} {xs ys:List α} (h:SrtP k d a b xs) (hp:Prt k d a' b' xs ys) (hd:b<=a'∨b'<=a):SrtP k d a b ys:=fun i j g1 g2 g3=>by
 rw [hp.out i (by omega),hp.out j (by omega)];exact h i j g1 g2 g3
def InsP (k:α->Int) (d:α) (a i j:Nat) (xs:List α):Prop:= ∀p q,a<=p->p < q->q<=i->q≠j->k (xs.getD p d)<=k (xs.getD q d)
theorem ins_begin {a i:Nat} {xs:List α} (h:SrtP k d a i xs):InsP k d a i i xs:=fun p q h1 h2 h3 h4=>h p q h1 h2 (by omega)
theorem ins_step {a i j:Nat} {xs:List α} (h:InsP k d a i (j+1) xs) (h1:a<=j) (h2:j+1<=i) (h3:i < xs.length) (hlt:k (xs.getD (j+1) d) < k (xs.getD j d)):InsP k d a i j (swp1 d j xs):=by
 intro p q g1 g2 g3 g4
 rw [swp1_get (by omega),swp1_get (by omega)]
 by_cases c1:q=j+1
 ·subst c1
  rw [if_pos rfl]
  by_cases c2:p=j
  ·subst c2;rw [if_neg (by omega),if_pos rfl];omega
  ·rw [if_neg (by omega),if_neg c2];exact h p j g1 (by omega) (by omega) (by omega)
 ·rw [if_neg c1,if_neg g4]
  by_cases c2:p=j+1
  ·subst c2;rw [if_pos rfl];exact h j q h1 (by omega) g3 c1
  ·rw [if_neg c2]
   by_cases c3:p=j
   ·subst c3
    rw [if_pos rfl]
    exact h (p+1) q (by omega) (by omega) g3 c1
   ·rw [if_neg c3];exact h p q g1 g2 g3 c1
theorem ins_end {a i j:Nat} {xs:List α} (h:InsP k d a i j xs) (hj:j<=i) (hs:a < j->k (xs.getD (j - 1) d)<=k (xs.getD j d)):SrtP k d a (i+1) xs:=by
 intro p q g1 g2 g3
 by_cases c:q=j
 ·subst c
  have h1:=hs (by omega)
  rcases Nat.lt_or_ge p (q - 1) with h2 | h2
  ·have:=h p (q - 1) g1 h2 (by omega) (by omega);omega
  ·rw [show p=q - 1 by omega];exact h1
 ·exact h p q g1 g2 (by omega) c
theorem rot_up {a t:Nat} {xs:List α} (h:a+1+t < xs.length):swp1 d (a+t) (rotR a (a+1) (a+1+t) xs)=rotR a (a+1) (a+2+t) xs:=by
 have hl:(rotR a (a+1) (a+1+t) xs).length=xs.length:=xe2 (by omega) (by omega) (by omega)
 refine xi7 (d:=d) (by rw [swp1_len,hl,xe2 (by omega) (by omega) (by omega)]) fun i hi=> ?_
 rw [swp1_len,hl] at hi
 rw [swp1_get (by omega),xe4 (by omega) (by omega) (by omega),xe4 (by omega) (by omega) (by omega),xe4 (by omega) (by omega) (by omega),xe4 (by omega) (by omega) (by omega)]
 (repeat' split) <;> first | rfl | omega | (congr 1;omega)
theorem rot_down {j m:Nat} {xs:List α} (h1:j < m) (h2:m < xs.length):swp1 d j (rotR (j+1) m (m+1) xs)=rotR j m (m+1) xs:=by
 have hl:(rotR (j+1) m (m+1) xs).length=xs.length:=xe2 (by omega) (by omega) (by omega)
 refine xi7 (d:=d) (by rw [swp1_len,hl,xe2 (by omega) (by omega) (by omega)]) fun i hi=> ?_
 rw [swp1_len,hl] at hi
 rw [swp1_get (by omega),xe4 (by omega) (by omega) (by omega),xe4 (by omega) (by omega) (by omega),xe4 (by omega) (by omega) (by omega),xe4 (by omega) (by omega) (by omega)]
 (repeat' split) <;> first | rfl | omega | (congr 1;omega)
theorem rot_none1 (d:α) {a b:Nat} {xs:List α} (h1:a<=b) (h2:b<=xs.length):rotR a a b xs=xs:=xi7 (d:=d) (xe2 (by omega) h1 h2) fun i hi=>by
 rw [xe4 (by omega) h1 h2]
 (repeat' split) <;> first | rfl | omega | (congr 1;omega)
theorem rot_none2 (d:α) {a b:Nat} {xs:List α} (h1:a<=b) (h2:b<=xs.length):rotR a b b xs=xs:=xi7 (d:=d) (xe2 h1 (by omega) h2) fun i hi=>by
 rw [xe4 h1 (by omega) h2]
 (repeat' split) <;> first | rfl | omega | (congr 1;omega)
theorem merge_first {a b i:Nat} {xs:List α} (hs:SrtP k d (a+1) b xs) (hb:b<=xs.length) (h1:a+1<=i) (h2:i<=b) (h3: ∀t,a+1<=t->t < i->k (xs.getD t d) < k (xs.getD a d)) (h4: ∀t,i<=t->t < b->k (xs.getD a d)<=k (xs.getD t d)):rotR a (a+1) i xs=srtR k a b xs:=by
 refine srtR_of (d:=d) (by omega) hb ((rot_prt (by omega) h1 (by omega) fun p q g1 g2 g3 g4=> ?_).mono (Nat.le_refl _) h2) fun p q g1 g2 g3=> ?_
 ·have e:p=a:=by omega
  subst e;have:=h3 q g3 g4;omega
 ·rw [xe4 (by omega) h1 (by omega),xe4 (by omega) h1 (by omega)]
  rw [if_neg (by omega),if_neg (show ¬q < a by omega)]
  by_cases c1:p < a+(i - (a+1))
  ·rw [if_pos c1]
   by_cases c2:q < a+(i - (a+1))
   ·rw [if_pos c2];exact hs _ _ (by omega) (by omega) (by omega)
   ·rw [if_neg c2]
    have:=h3 (a+1+(p - a)) (by omega) (by omega)
    by_cases c3:q < i
    ·rw [if_pos c3,show a+(q - (a+(i - (a+1))))=a by omega];omega
    ·rw [if_neg c3];have:=h4 q (by omega) g3;omega
  ·rw [if_neg c1]
   rw [if_neg (show ¬q < a+(i - (a+1)) by omega),if_neg (show ¬q < i by omega)]
   by_cases c3:p < i
   ·rw [if_pos c3,show a+(p - (a+(i - (a+1))))=a by omega];exact h4 q (by omega) g3
   ·rw [if_neg c3];exact hs p q (by omega) g2 g3
theorem merge_last {a m i:Nat} {xs:List α} (hs:SrtP k d a m xs) (hb:m < xs.length) (h1:a<=i) (h2:i<=m) (h3: ∀t,a<=t->t < i->k (xs.getD t d)<=k (xs.getD m d)) (h4: ∀t,i<=t->t < m->k (xs.getD m d) < k (xs.getD t d)):rotR i m (m+1) xs=srtR k a (m+1) xs:=by
 refine srtR_of (d:=d) (by omega) hb ((rot_prt h2 (by omega) (by omega) fun p q g1 g2 g3 g4=> ?_).mono h1 (Nat.le_refl _)) fun p q g1 g2 g3=> ?_
 ·have e:q=m:=by omega
  subst e;have:=h4 p g1 g2;omega
 ·rw [xe4 h2 (by omega) (by omega),xe4 h2 (by omega) (by omega)]
  by_cases c1:p < i
  ·rw [if_pos c1]
   by_cases c2:q < i
   ·rw [if_pos c2];exact hs p q g1 g2 (by omega)
   ·rw [if_neg c2]
    by_cases c3:q < i+(m+1 - m)
    ·rw [if_pos c3,show m+(q - i)=m by omega];exact h3 p g1 c1
    ·rw [if_neg c3,if_pos (by omega)];exact hs p _ g1 (by omega) (by omega)
  ·rw [if_neg c1,if_neg (show ¬q < i by omega),if_neg (show ¬q < i+(m+1 - m) by omega),if_pos (show q < m+1 by omega)]
   by_cases c3:p < i+(m+1 - m)
   ·rw [if_pos c3,show m+(p - i)=m by omega];have:=h4 (i+(q - (i+(m+1 - m)))) (by omega) (by omega);omega
   ·rw [if_neg c3,if_pos (by omega)];exact hs _ _ (by omega) (by omega) (by omega)
structure CutP (k:α->Int) (d:α) (a m b s e mid:Nat) (xs:List α):Prop where
  la:a<=s
  sm:s<=m
  me:m<=e
  eb:e<=b
  hm:s+(e - m)=mid
  c1: ∀x y,a<=x->x < s->e<=y->y < b->k (xs.getD x d)<=k (xs.getD y d)
  c2: ∀x y,s<=x->x < m->m<=y->y < e->k (xs.getD y d) < k (xs.getD x d)
section
variable {a m b s e mid:Nat} {xs:List α}
theorem CutP.prt (h:CutP k d a m b s e mid xs) (hb:b<=xs.length):Prt k d a b xs (rotR s m e xs):=
 (rot_prt h.sm h.me (by have:=h.eb;omega) fun p q g1 g2 g3 g4=>by have:=h.c2 p q g1 g2 g3 g4;omega).mono h.la h.eb
theorem CutP.get (h:CutP k d a m b s e mid xs) (hb:b<=xs.length) (i:Nat):(rotR s m e xs).getD i d=if i < s then xs.getD i d else if i < mid then xs.getD (m+(i - s)) d else if i < e then xs.getD (s+(i - mid)) d else xs.getD i d:=by
 have h1:=h.sm;have h2:=h.me;have h3:=h.eb;have h4:=h.hm
 rw [xe4 h1 h2 (by omega),h4]
theorem CutP.left1 (h:CutP k d a m b s e mid xs) (hb:b<=xs.length) (hs:SrtP k d a m xs):SrtP k d a s (rotR s m e xs):=fun i j g1 g2 g3=>by
 have h1:=h.sm
 rw [h.get hb,h.get hb,if_pos (by omega),if_pos g3];exact hs i j g1 g2 (by omega)
theorem CutP.left2 (h:CutP k d a m b s e mid xs) (hb:b<=xs.length) (hs:SrtP k d m b xs):SrtP k d s mid (rotR s m e xs):=fun i j g1 g2 g3=>by
 have h1:=h.sm;have h2:=h.me;have h3:=h.eb;have h4:=h.hm
 rw [h.get hb,h.get hb,if_neg (by omega),if_pos (by omega),if_neg (by omega),if_pos g3];exact hs _ _ (by omega) (by omega) (by omega)
theorem CutP.right1 (h:CutP k d a m b s e mid xs) (hb:b<=xs.length) (hs:SrtP k d a m xs):SrtP k d mid e (rotR s m e xs):=fun i j g1 g2 g3=>by
 have h0:=h.la;have h1:=h.sm;have h2:=h.me;have h3:=h.eb;have h4:=h.hm
 rw [h.get hb,h.get hb,if_neg (by omega),if_neg (by omega),if_pos (by omega),if_neg (by omega),if_neg (by omega),if_pos g3];exact hs _ _ (by omega) (by omega) (by omega)
theorem CutP.right2 (h:CutP k d a m b s e mid xs) (hb:b<=xs.length) (hs:SrtP k d m b xs):SrtP k d e b (rotR s m e xs):=fun i j g1 g2 g3=>by
 have h1:=h.sm;have h2:=h.me;have h3:=h.eb;have h4:=h.hm
 rw [h.get hb,h.get hb,if_neg (by omega),if_neg (by omega),if_neg (by omega),if_neg (by omega),if_neg (by omega),if_neg (by omega)];exact hs _ _ (by omega) (by omega) (by omega)
theorem CutP.cross (h:CutP k d a m b s e mid xs) (hb:b<=xs.length) (hs1:SrtP k d a m xs) (hs2:SrtP k d m b xs) {i j:Nat} (g1:a<=i) (g2:i < mid) (g3:mid<=j) (g4:j < b):k ((rotR s m e xs).getD i d)<=k ((rotR s m e xs).getD j d):=by
 have h0:=h.la;have h1:=h.sm;have h2:=h.me;have h3:=h.eb;have h4:=h.hm
 rw [h.get hb,h.get hb,if_neg (show ¬j < s by omega),if_neg (show ¬j < mid by omega)]
 by_cases c1:i < s
 ·rw [if_pos c1]
  by_cases c2:j < e
  ·rw [if_pos c2];exact hs1.le g1 (by omega) (by omega)
  ·rw [if_neg c2];exact h.c1 i j g1 c1 (by omega) g4
 ·rw [if_neg c1,if_pos g2]
  by_cases c2:j < e
  ·rw [if_pos c2];have:=h.c2 (s+(j - mid)) (m+(i - s)) (by omega) (by omega) (by omega) (by omega);omega
  ·rw [if_neg c2];exact hs2.le (by omega) (by omega) g4
theorem CutP.fin (h:CutP k d a m b s e mid xs) (hb:b<=xs.length) (hs1:SrtP k d a m xs) (hs2:SrtP k d m b xs):srtR k mid b (srtR k a mid (rotR s m e xs))=srtR k a b xs:=by
 have h0:=h.la;have h1:=h.sm;have h2:=h.me;have h3:=h.eb;have h4:=h.hm
 have p1:=h.prt hb
 have hb1:b<=(rotR s m e xs).length:=by rw [p1.len];exact hb
 have p2:Prt k d a mid (rotR s m e xs) (srtR k a mid (rotR s m e xs)):=xo3 (by omega) (by omega)
 have hb2:b<=(srtR k a mid (rotR s m e xs)).length:=by rw [p2.len];exact hb1
 have p3:Prt k d mid b (srtR k a mid (rotR s m e xs)) (srtR k mid b (srtR k a mid (rotR s m e xs))):=xo3 (by omega) hb2
 refine srtR_of (d:=d) (by omega) hb ((p1.trans (p2.mono (Nat.le_refl _) (by omega))).trans (p3.mono (by omega) (Nat.le_refl _))) fun i j g1 g2 g3=> ?_
 rcases Nat.lt_or_ge j mid with c | c
 ·rw [p3.out i (by omega),p3.out j (by omega)]
  exact xr3 (by omega) (by omega) i j g1 g2 c
 ·rcases Nat.lt_or_ge i mid with c2 | c2
  ·rw [p3.out i (by omega)]
   obtain ⟨i',q1,q2,q3⟩:=prt_mem (by omega) p2 g1 c2
   obtain ⟨j',r1,r2,r3⟩:=prt_mem hb2 p3 c g3
   rw [q3,r3,p2.out j' (by omega)]
   exact h.cross hb hs1 hs2 q1 q2 r1 r2
  ·exact xr3 (by omega) hb2 i j c2 g2 g3
theorem srtR_idP {a b:Nat} {xs:List α} (hab:a<=b) (hb:b<=xs.length) (h:SrtP k d a b xs):srtR k a b xs=xs:=(srtR_of hab hb (Prt.refl ..) h).symm
theorem CutP.leftId (h:CutP k d a m b s e mid xs) (hb:b<=xs.length) (hs1:SrtP k d a m xs) (hs2:SrtP k d m b xs) (hc: ¬(a < s/\s < mid)):srtR k a mid (rotR s m e xs)=rotR s m e xs:=by
 have h0:=h.la;have h1:=h.sm;have h2:=h.me;have h3:=h.eb;have h4:=h.hm
 have p1:=h.prt hb
 refine srtR_idP (d:=d) (by omega) (by rw [p1.len];omega) ?_
 by_cases c:a < s
 ·have e1:mid=s:=by omega
  rw [e1];exact h.left1 hb hs1
 ·have e1:a=s:=by omega
  rw [e1];exact h.left2 hb hs2
theorem CutP.rightId (h:CutP k d a m b s e mid xs) (hb:b<=xs.length) (hs1:SrtP k d a m xs) (hs2:SrtP k d m b xs) (hc: ¬(mid < e/\e < b)):srtR k mid b (srtR k a mid (rotR s m e xs))=srtR k a mid (rotR s m e xs):=by
 have h0:=h.la;have h1:=h.sm;have h2:=h.me;have h3:=h.eb;have h4:=h.hm
 have p1:=h.prt hb
 have p2:Prt k d a mid (rotR s m e xs) (srtR k a mid (rotR s m e xs)):=xo3 (by omega) (by rw [p1.len];omega)
 refine srtR_idP (d:=d) (by omega) (by rw [p2.len,p1.len];omega) (SrtP.out ?_ p2 (.inr (Nat.le_refl _)))
 by_cases c:mid < e
 ·have e1:b=e:=by omega
  rw [e1];exact h.right1 hb hs1
 ·have e1:mid=e:=by omega
  rw [e1];exact h.right2 hb hs2
end
end
section
variable {α:Type} {k:α->Int} {d:α} {xs ys:List α} {B n c c':Nat}
theorem cut_of {a b m mid s s0 r0:Nat} (h1:a < m) (h2:m < b) (hm:mid=(a+b) / 2) (hs1:SrtP k d a m xs) (hs2:SrtP k d m b xs) (hc:(mid < m/\s0=mid+m - b/\r0=mid)∨(m<=mid/\s0=a/\r0=m)) (h3:s0<=s) (h4:s<=r0)
  (hl: ∀c,s0<=c->c < s->k (xs.getD c d)<=k (xs.getD (mid+m - 1 - c) d)) (hr: ∀c,s<=c->c < r0->k (xs.getD (mid+m - 1 - c) d) < k (xs.getD c d)):CutP k d a m b s (mid+m - s) mid xs:=by
 refine ⟨by omega,by omega,by omega,by omega,by omega,fun x y g1 g2 g3 g4=> ?_,fun x y g1 g2 g3 g4=> ?_⟩
 ·have e:s0 < s:=by omega
  have q:=hl (s - 1) (by omega) (by omega)
  rw [show mid+m - 1 - (s - 1)=mid+m - s by omega] at q
  have q1:=hs1.le (i:=x) (j:=s - 1) (by omega) (by omega) (by omega)
  have q2:=hs2.le (i:=mid+m - s) (j:=y) (by omega) (by omega) (by omega)
  omega
 ·have e:s < r0:=by omega
  have q:=hr s (by omega) e
  have q1:=hs1.le (i:=s) (j:=x) (by omega) (by omega) (by omega)
  have q2:=hs2.le (i:=y) (j:=mid+m - 1 - s) (by omega) (by omega) (by omega)
  omega
def BlkP (k:α->Int) (d:α) (B n:Nat) (xs:List α):Prop:= ∀t,SrtP k d (t*B) (min (t*B+B) n) xs
def BlkA (k:α->Int) (d:α) (B u:Nat) (xs:List α):Prop:= ∀t,t < u->SrtP k d (t*B) (t*B+B) xs
theorem mul_lt1 {t u B:Nat} (h:t < u):t*B+B<=u*B:=by
 have:=Nat.mul_le_mul_right B (show t+1<=u from h)
 rw [Nat.succ_mul] at this;exact this
theorem blkA_zero:BlkA k d B 0 xs:=fun t h=>absurd h (Nat.not_lt_zero t)
theorem blkA_next {u:Nat} (h:BlkA k d B u xs) (hp:Prt k d (u*B) (u*B+B) xs ys) (hs:SrtP k d (u*B) (u*B+B) ys):BlkA k d B (u+1) ys:=fun t ht=>by
 rcases Nat.lt_or_ge t u with h1 | h1
 ·exact (h t h1).out hp (.inl (mul_lt1 h1))
 ·have e:t=u:=by omega
  subst e;exact hs
theorem blkP_of {u:Nat} (h:BlkA k d B u xs) (h1:n < u*B+B) (hp:Prt k d (u*B) n xs ys) (hs:SrtP k d (u*B) n ys):BlkP k d B n ys:=fun t=>by
 rcases Nat.lt_trichotomy t u with h2 | h2 | h2
 ·exact ((h t h2).out hp (.inl (mul_lt1 h2))).sub (Nat.le_refl _) (Nat.min_le_left _ _)
 ·subst h2
  rw [Nat.min_eq_right (by omega)];exact hs
 ·intro i j g1 g2 g3
  have:=mul_lt1 (B:=B) h2
  omega
theorem two_mul_B {u B:Nat}:(2*u)*B=u*(2*B)/\(2*u+1)*B=u*(2*B)+B:=by
 have e:(2*u)*B=u*(2*B):=by rw [Nat.mul_comm 2 u,Nat.mul_assoc]
 exact ⟨e,by rw [Nat.succ_mul,e]⟩
def BlkR (k:α->Int) (d:α) (B n c:Nat) (xs:List α):Prop:= ∀t,c<=t*B->SrtP k d (t*B) (min (t*B+B) n) xs
theorem BlkR.at (h:BlkR k d B n c xs) {u:Nat} (hc:c<=u*(2*B)) (hn:u*(2*B)+B<=n):SrtP k d (u*(2*B)) (u*(2*B)+B) xs/\SrtP k d (u*(2*B)+B) (min (u*(2*B)+2*B) n) xs:=by
 obtain ⟨e1,e2⟩:=two_mul_B (u:=u) (B:=B)
 have h1:=h (2*u) (by rw [e1];exact hc)
 have h2:=h (2*u+1) (by rw [e2];omega)
 rw [e1,Nat.min_eq_left hn] at h1
 rw [e2,show u*(2*B)+B+B=u*(2*B)+2*B by omega] at h2
 exact ⟨h1,h2⟩
theorem BlkR.one (h:BlkR k d B n c xs) {u:Nat} (hc:c<=u*(2*B)) (hn:n<=u*(2*B)+B):SrtP k d (u*(2*B)) n xs:=by
 have h1:=h (2*u) (by rw [two_mul_B.1];exact hc)
 rw [two_mul_B.1,Nat.min_eq_right hn] at h1;exact h1
theorem BlkR.next (h:BlkR k d B n c xs) {a b:Nat} (hp:Prt k d a b xs ys) (hb:b<=c') (hc:c<=c'):BlkR k d B n c' ys:=fun t ht=>(h t (by omega)).out hp (.inr (by omega))
theorem blkP_R (h:BlkP k d B n xs):BlkR k d B n 0 xs:=fun t _=>h t
theorem blkP_all (h:BlkP k d B n xs) (hn:n<=B):SrtP k d 0 n xs:=by
 have:=h 0
 rw [Nat.zero_mul,Nat.min_eq_right (by omega)] at this;exact this
theorem blkP_end {u:Nat} (h:BlkA k d (2*B) u xs) (h1:n < u*(2*B)+2*B) (hs:SrtP k d (u*(2*B)) n xs):BlkP k d (2*B) n xs:=blkP_of h h1 (Prt.refl ..) hs
end
end An
namespace An
open Go
structure Fa where
  key:ByteArray
  lo:Int
  hi:Int
  kn:Int
  gone:Bool
  v:Va
deriving DecidableEq
def fa0:Fa:=⟨⟨#[]⟩,0,0,0,false,va0⟩
abbrev tFa (f:Fa):Ty:=tS [⟨1,false,tE (.string f.key)⟩,⟨1,false,tI f.lo⟩,⟨1,false,tI f.hi⟩,⟨1,false,tI f.kn⟩,⟨1,false,tB f.gone⟩,⟨6,true,tVa f.v⟩]
end An
namespace An.S
open Go Go.Proofs An
instance ti53:TyI Tryz.prog 53 11 true:=⟨by kernel_rfl,by kernel_rfl⟩
instance sl35:SlI Tryz.prog 35 53 11 true:=⟨Tryz.underlying35,ti53⟩
instance fo53_3:FoI Tryz.prog 53 3 3:=⟨by kernel_rfl⟩
instance un35:UnI Tryz.prog 35 (.slice 53):=⟨Tryz.underlying35⟩
end An.S
namespace An
open Go
structure Kw where
  p:Dom->World->Prop
  mono: ∀{F F':Dom} {w w':World},p F w->Keep F F' w w'->p F' w'
def tKG (K:Kw) (t:Ty):Ty:=⟨fun F w v=>t.p F w v/\K.p F w,fun h hk=>⟨t.mono h.1 hk,K.mono h.2 hk⟩⟩
instance {K:Kw} {t:Ty} {n:Nat} {agg:Bool} [h:Shape t n agg]:Shape (tKG K t) n agg:=⟨fun hp=>h.flat hp.1⟩
section
variable {P:Program} {c:Base} {g:Slots} {h:Keys} {al:Names} {d ty:Nat} {pos:String} {af:Array Edge} {gd:Option (Nat×Bool)} {Q:Exit->Act->World->Prop}
end
section
variable {P:Program} {c:Base} {d ty:Nat} {pos:String} {af:Array Edge} {gd:Option (Nat×Bool)}
end
end An
namespace An
end An
namespace An.S
open Go
def onF (d:Int) (f:Fa):Bool:=decide (f.lo<=d) && decide (d < f.hi)
theorem xr9 {d:Int} {f:Fa}:onF d f=true↔f.lo<=d/\d < f.hi:=by simp [onF]
def valF (o:Option Fa):Option Va:=match o with
 | none=>none
 | some f=>if f.gone=true then none else some f.v
end An.S
namespace An
open Go
abbrev tSt (s:ByteArray):Ty:=tE (.string s)
section
variable {P:Program}
end
section
variable {P:Program} {c:Base} {d ty:Nat} {pos:String} {af:Array Edge} {gd:Option (Nat×Bool)}
theorem beqB {p q:ByteArray}:(p.toList==q.toList)=decide (p=q):=by
 rw [ByteArray.toList_eq,ByteArray.toList_eq]
 by_cases h:p=q
 ·subst h;simp
 ·have h2:p.data.toList≠q.data.toList:=fun e=>h (by cases p;cases q;congr 1;exact Array.toList_inj.1 e)
  rw [decide_eq_false h];exact beq_false_of_ne h2
theorem d_eqlS {T yT:TypeId} {x y:Operand} {p q:ByteArray}:Does P c ⟨some d,.binOp .eql T x y yT,ty,pos,af,gd⟩ ⟨[(x,.val (tSt p)),(y,.val (tSt q))],[],some (d,some (.val (tB (decide (p=q))))),[],[]⟩:=
 xk3 fun w=>by simp only [eqGuard_at_string,binOp,Sem.run_bind,Sem.run_pure,Result.andThen_ok,Op.stringOp,beqB]
end
end An
namespace An.S
open Go Go.Proofs An
instance ti9:TyI Tryz.prog 9 1 false:=⟨by kernel_rfl,by kernel_rfl⟩
instance fo53_0:FoI Tryz.prog 53 0 0:=⟨by kernel_rfl⟩
instance fo53_1:FoI Tryz.prog 53 1 1:=⟨by kernel_rfl⟩
instance fo53_2:FoI Tryz.prog 53 2 2:=⟨by kernel_rfl⟩
theorem el53:ElI Tryz.prog 53 11 128 true (.agg #[.string ⟨#[]⟩,.int .i64 0,.int .i64 0,.int .i64 0,.bool false,.int .u8 0,.bool false,.slice none 0 0,.bool false,.slice none 0 0,.int .i64 0]):=⟨ti53,by kernel_rfl,by kernel_rfl⟩
theorem zr53:(Tryz.prog.info? 53).bind (·.zero)=some (.agg #[.string ⟨#[]⟩,.int .i64 0,.int .i64 0,.int .i64 0,.bool false,.int .u8 0,.bool false,.slice none 0 0,.bool false,.slice none 0 0,.int .i64 0])/\ ∀F w,(tS [⟨1,false,(tE (.string ⟨#[]⟩))⟩,⟨1,false,(tE (.int .i64 0))⟩,⟨1,false,(tE (.int .i64 0))⟩,⟨1,false,(tE (.int .i64 0))⟩,⟨1,false,(tE (.bool false))⟩,⟨6,true,(tS [⟨1,false,(tE (.int .u8 0))⟩,⟨4,true,(tS [⟨2,true,(tS [⟨1,false,(tE (.bool false))⟩,⟨1,false,(tLm [])⟩])⟩,⟨2,true,(tS [⟨1,false,(tE (.bool false))⟩,⟨1,false,(tLm [])⟩])⟩])⟩,⟨1,false,(tE (.int .i64 0))⟩])⟩]).p F w (.agg #[.string ⟨#[]⟩,.int .i64 0,.int .i64 0,.int .i64 0,.bool false,.int .u8 0,.bool false,.slice none 0 0,.bool false,.slice none 0 0,.int .i64 0]):=⟨by kernel_rfl,fun _ _=>⟨_,rfl,rfl,⟨fun _=>rfl,rfl⟩,⟨fun _=>rfl,rfl⟩,⟨fun _=>rfl,rfl⟩,⟨fun _=>rfl,rfl⟩,⟨fun _=>rfl,rfl⟩,⟨fun h=>Bool.noConfusion h,⟨_,rfl,rfl,⟨fun _=>rfl,rfl⟩,⟨fun h=>Bool.noConfusion h,⟨_,rfl,rfl,⟨fun h=>Bool.noConfusion h,⟨_,rfl,rfl,⟨fun _=>rfl,rfl⟩,⟨fun _=>rfl,⟨none,0,rfl,Nat.le_refl _,by decide,.inl rfl⟩⟩,trivial⟩⟩,⟨fun h=>Bool.noConfusion h,⟨_,rfl,rfl,⟨fun _=>rfl,rfl⟩,⟨fun _=>rfl,⟨none,0,rfl,Nat.le_refl _,by decide,.inl rfl⟩⟩,trivial⟩⟩,trivial⟩⟩,⟨fun _=>rfl,rfl⟩,trivial⟩⟩,trivial⟩⟩
theorem zf53:Flat 11 true (.agg #[.string ⟨#[]⟩,.int .i64 0,.int .i64 0,.int .i64 0,.bool false,.int .u8 0,.bool false,.slice none 0 0,.bool false,.slice none 0 0,.int .i64 0]):=xo1 (by intro u hu;simp at hu;rcases hu with rfl | rfl | rfl | rfl | rfl | rfl | rfl | rfl | rfl | rfl | rfl <;> rfl)
end An.S
namespace An
open Go
def cP (a b:Nat):Nat:=2 ^ a*(2*b+1)
theorem cP_pos {a b:Nat}:0 < cP a b:=Nat.mul_pos (Nat.pow_pos (by decide)) (by omega)
theorem cP_succ {a b:Nat}:cP (a+1) b=2*cP a b:=by rw [cP,cP,Nat.pow_succ,Nat.mul_comm (2 ^ a) 2,Nat.mul_assoc]
theorem cP_zero {b:Nat}:cP 0 b=2*b+1:=by simp [cP]
theorem cP_inj: ∀{a b a' b':Nat},cP a b=cP a' b'->a=a'/\b=b'
 | 0,b,0,b',h=>by rw [cP_zero,cP_zero] at h;exact ⟨rfl,by omega⟩
 | a+1,b,a'+1,b',h=>by
  rw [cP_succ,cP_succ] at h
  have:=cP_inj (a:=a) (b:=b) (a':=a') (b':=b') (by omega)
  exact ⟨by omega,this.2⟩
 | 0,b,a'+1,b',h=>by rw [cP_zero,cP_succ] at h;omega
 | a+1,b,0,b',h=>by rw [cP_zero,cP_succ] at h;omega
def cLs:List Nat->Nat
 | []=>0
 | x::r=>cP x (cLs r)
theorem cLs_inj: ∀{l m:List Nat},cLs l=cLs m->l=m
 | [],[],_=>rfl
 | [],y::s,h=>by simp only [cLs] at h;have:=cP_pos (a:=y) (b:=cLs s);omega
 | x::r,[],h=>by simp only [cLs] at h;have:=cP_pos (a:=x) (b:=cLs r);omega
 | x::r,y::s,h=>by
  simp only [cLs] at h
  obtain ⟨h1,h2⟩:=cP_inj h
  rw [h1,cLs_inj h2]
theorem map_injL {α β:Type} {f:α->β} (hf: ∀x y,f x=f y->x=y): ∀{l m:List α},l.map f=m.map f->l=m
 | [],[],_=>rfl
 | [],_::_,h=>by cases h
 | _::_,[],h=>by cases h
 | x::r,y::s,h=>by
  simp only [List.map_cons,List.cons.injEq] at h
  rw [hf x y h.1,map_injL hf h.2]
structure MK (α β:Type) where
  fk:α->Value
  fv:β->Value
  ca:α->Nat
  cb:β->Nat
  ja: ∀x y,ca x=ca y->x=y
  jb: ∀x y,cb x=cb y->x=y
structure MS (α β:Type) where
  b:Nat
  l:List (α×β)
  it:Option (Nat×List Nat)
variable {α β:Type}
def MK.ents (M:MK α β):Nat->List (α×β)->List MapEntry
 | _,[]=>[]
 | i,p::r=>⟨M.fk p.1,M.fv p.2,i⟩::M.ents (i+1) r
def MK.obj (M:MK α β) (l:List (α×β)):Obj:= .map (M.ents 0 l).toArray l.length
def MK.c2 (M:MK α β) (p:α×β):Nat:=cP (M.ca p.1) (M.cb p.2)
theorem MK.c2_inj (M:MK α β) (x y:α×β) (h:M.c2 x=M.c2 y):x=y:=by
 obtain ⟨h1,h2⟩:=cP_inj h
 exact Prod.ext (M.ja _ _ h1) (M.jb _ _ h2)
def cIt:Option (Nat×List Nat)->Nat
 | none=>0
 | some (r,q)=>cP r (cLs q)
theorem cIt_inj: ∀{x y:Option (Nat×List Nat)},cIt x=cIt y->x=y
 | none,none,_=>rfl
 | none,some (r,q),h=>by simp only [cIt] at h;have:=cP_pos (a:=r) (b:=cLs q);omega
 | some (r,q),none,h=>by simp only [cIt] at h;have:=cP_pos (a:=r) (b:=cLs q);omega
 | some (r,q),some (r',q'),h=>by
  obtain ⟨h1,h2⟩:=cP_inj h
  rw [h1,cLs_inj h2]
def MK.code (M:MK α β):Option (MS α β)->Nat
 | none=>0
 | some s=>cP s.b (cP (cLs (s.l.map M.c2)) (cIt s.it))
theorem MK.code_inj (M:MK α β): ∀{x y:Option (MS α β)},M.code x=M.code y->x=y
 | none,none,_=>rfl
 | none,some s,h=>by simp only [MK.code] at h;have:=cP_pos (a:=s.b) (b:=cP (cLs (s.l.map M.c2)) (cIt s.it));omega
 | some s,none,h=>by simp only [MK.code] at h;have:=cP_pos (a:=s.b) (b:=cP (cLs (s.l.map M.c2)) (cIt s.it));omega
 | some ⟨b,l,t⟩,some ⟨b',l',t'⟩,h=>by
  obtain ⟨h1,h2⟩:=cP_inj h
  obtain ⟨h3,h4⟩:=cP_inj h2
  have h1:b=b':=h1
  have h3:l=l':=map_injL M.c2_inj (cLs_inj h3)
  have h4:t=t':=cIt_inj h4
  rw [h1,h3,h4]
def MK.at (M:MK α β):Option (MS α β)->Dom->Dom->World->Prop
 | none,_,_,_=>True
 | some s,O,V,w=>(w.heap[s.b]? =some (M.obj s.l)/\V s.b/\ ¬O s.b)/\ ∀r q,s.it=some (r,q)->w.heap[r]? =some (.mapIter (some s.b) s.l.length q.toArray s.l.length)/\V r/\ ¬O r/\r≠s.b
def MK.J (M:MK α β) (n:Nat) (O V:Dom) (w:World):Prop:= ∃s,M.code s=n/\M.at s O V w
theorem MK.J_at (M:MK α β) {s:Option (MS α β)} {O V:Dom} {w:World}:M.J (M.code s) O V w↔M.at s O V w:=by
 constructor
 ·rintro ⟨t,h1,h2⟩
  rw [<-M.code_inj h1];exact h2
 ·exact fun h=>⟨s,rfl,h⟩
theorem MK.Jc (M:MK α β):JcOf M.J:=by
 rintro n O O' V w w' ⟨s,h1,h2⟩ hs hO
 refine ⟨s,h1,?_⟩
 cases s with
 | none=>trivial
 | some s=>
  obtain ⟨⟨h3,h4,h5⟩,h6⟩:=h2
  have key: ∀b,b < w.heap.size-> ¬O b-> ¬O' b:=fun b hb h h'=>by
   rcases (hO b h').2 with h7 | h7
   ·exact h h7
   ·omega
  refine ⟨⟨(hs.block _ (xa7 h3) h5).trans h3,h4,key _ (xa7 h3) h5⟩,fun r q hr=> ?_⟩
  obtain ⟨h7,h8,h9,h10⟩:=h6 r q hr
  exact ⟨(hs.block _ (xa7 h7) h9).trans h7,h8,key _ (xa7 h7) h9,h10⟩
structure MB (M:MK α β) (c:Base) (K:Nat):Prop where
  yk:c.yk=some K
  ln:K∈c.ln
  c0:c.lη.c K=0
  ro:c.ro=none
  J:c.J=M.J
def Base.maps (N:Nat) (w:World) (F:Dom) (K:Nat) (M:MK α β):Base:=⟨N,w,F,[K],⟨fun _=>0,fun _=>0,fun _=>False⟩,fun _=>False,none,[],[],fun _=>False,some K,fun _=>False,M.J,M.Jc⟩
theorem MB.mk' {M:MK α β} {N K:Nat} {w:World} {F:Dom}:MB M (Base.maps N w F K M) K:=⟨rfl,by simp [Base.maps],rfl,rfl,rfl⟩
theorem Plain.maps {M:MK α β} {N K:Nat} {w:World} {F:Dom}:Plain (Base.maps N w F K M) w F:=⟨rfl,rfl,fun _ h=>h,fun _ h=>h,trivial⟩
section
variable {P:Program} {c:Base} {g:Slots} {h:Keys} {al:Names} {Q:Exit->Act->World->Prop} {M:MK α β} {K:Nat}
theorem wl_ghost {A:Array Oper} {rest:List Oper} {o:Oper} {d:Nat} {s:Option (MS α β)} {ι:Type} (p:ι->Prop) (t:ι->Ty) (s':ι->Option (MS α β)) (hB:MB M c K) (hdst:o.dst=some d)
  (hw: ∀a w η,St' c g h al a w η->Region.wanted o (yielded A a.tmps)=true) (hdN:Nat.blt d c.N=true) (hK:h K=some ⟨M.code s,1,false,[]⟩)
  (hrun: ∀a w η,St' c g h al a w η->M.at s (c.chg h η) η.vo w-> ∃i v w' V',(execOp a.eval o).run P w= .ok (.value v) w'/\Kept η.vo V' w w'/\M.at (s' i) (c.chg h η) V' w'/\(∀F,(t i).p F w' v)/\p i)
  (H: ∀i,p i->wl P c A Q rest (upd g d (some (.val (t i)))) (upd h K (some ⟨M.code (s' i),1,false,[]⟩)) al):wl P c A Q (o::rest) g h al:=fun a w ⟨η,st⟩=>by
 unfold wpListIn
 rw [if_pos (hw a w η st)]
 have hj:=st.jj K _ hB.yk hK
 rw [hB.J] at hj
 obtain ⟨i,v,w',V',h1,h2,h3,h4,h5⟩:=hrun a w η st (M.J_at.1 hj)
 refine xe6 h1 ?_
 have s2:=st.fed hB.yk hB.ln hB.c0 hK h2 (m:=M.code (s' i)) (by rw [hB.J];exact M.J_at.2 h3)
 rw [hdst]
 exact H i h5 _ _ ⟨_,s2.put (by simpa using hdN) (e:= .val (t i)) (h4 _) fun k hk=>by cases hk⟩
theorem wl_ghost0 {A:Array Oper} {rest:List Oper} {o:Oper} {s:Option (MS α β)} (s':Option (MS α β)) (hB:MB M c K) (hdst:o.dst=none)
  (hw: ∀a w η,St' c g h al a w η->Region.wanted o (yielded A a.tmps)=true) (hK:h K=some ⟨M.code s,1,false,[]⟩)
  (hrun: ∀a w η,St' c g h al a w η->M.at s (c.chg h η) η.vo w-> ∃w' V',(execOp a.eval o).run P w= .ok .skip w'/\Kept η.vo V' w w'/\M.at s' (c.chg h η) V' w')
  (H:wl P c A Q rest g (upd h K (some ⟨M.code s',1,false,[]⟩)) al):wl P c A Q (o::rest) g h al:=fun a w ⟨η,st⟩=>by
 unfold wpListIn
 rw [if_pos (hw a w η st)]
 have hj:=st.jj K _ hB.yk hK
 rw [hB.J] at hj
 obtain ⟨w',V',h1,h2,h3⟩:=hrun a w η st (M.J_at.1 hj)
 refine upon_skip h1 ?_
 have s2:=st.fed hB.yk hB.ln hB.c0 hK h2 (m:=M.code s') (by rw [hB.J];exact M.J_at.2 h3)
 rw [hdst]
 exact H _ _ ⟨_,s2⟩
end
variable {α β:Type} {M:MK α β}
theorem MK.ents_len (M:MK α β): ∀(l:List (α×β)) (i:Nat),(M.ents i l).length=l.length
 | [],_=>rfl
 | _::r,i=>by rw [MK.ents,List.length_cons,M.ents_len r];rfl
theorem MK.ents_get (M:MK α β): ∀(l:List (α×β)) (i j:Nat),(M.ents i l)[j]? =l[j]?.map fun p=>⟨M.fk p.1,M.fv p.2,i+j⟩
 | [],_,_=>by simp [MK.ents]
 | p::r,i,0=>by simp [MK.ents]
 | p::r,i,j+1=>by
  rw [MK.ents,List.getElem?_cons_succ,List.getElem?_cons_succ,M.ents_get r (i+1) j,show i+1+j=i+(j+1) by omega]
section
variable [DecidableEq α]
def getI (a:α):Nat->List (α×β)->Option (Nat×β)
 | _,[]=>none
 | i,p::r=>if a=p.1 then some (i,p.2) else getI a (i+1) r
theorem getI_some {a:α}: ∀{l:List (α×β)} {i j:Nat} {v:β},getI a i l=some (j,v)->i<=j/\l[j - i]? =some (a,v)
 | [],_,_,_,h=>by cases h
 | p::r,i,j,v,h=>by
  rw [getI] at h
  split at h
  ·rename_i e
   cases h
   exact ⟨Nat.le_refl _,by simp [e]⟩
  ·obtain ⟨h1,h2⟩:=getI_some h
   refine ⟨by omega,?_⟩
   rw [show j - i=(j - (i+1))+1 by omega,List.getElem?_cons_succ];exact h2
def getM (l:List (α×β)) (a:α):Option β:=(getI a 0 l).map (·.2)
def entV (z:β) (l:List (α×β)) (a:α):β:=((getI a 0 l).map (·.2)).getD z
def putM (l:List (α×β)) (a:α) (v:β):List (α×β):=match getI a 0 l with
 | some (i,_)=>l.set i (a,v)
 | none=>l++[(a,v)]
theorem find_ents {d:TypeDesc} (hs: ∀x y,Instr.sameNow d (M.fk x) (M.fk y)=some (decide (x=y))) (a:α): ∀(l:List (α×β)) (i:Nat),Instr.findNow d (M.fk a) (M.ents i l) i=some ((getI a i l).map fun x=>(x.1,M.fv x.2))
 | [],_=>rfl
 | p::r,i=>by
  rw [MK.ents,Instr.findNow,getI]
  by_cases h:a=p.1
  ·simp [hs,h]
  ·simp [hs,h,find_ents hs a r (i+1)]
end
structure MapF [DecidableEq α] (P:Program) (t:TypeId) (M:MK α β) (z:β):Prop where
  und: ∃kt e d,P.underlying t=some (.map kt e)/\P.underlying kt=some d/\(∀x y,Instr.sameNow d (M.fk x) (M.fk y)=some (decide (x=y)))/\(∀x,MapKept.IsKey d (M.fk x))/\(∀x,Instr.sameBits 10000 (M.fk x) (M.fk x)=true)/\ ∀w,(zeroValue e).run P w= .ok (M.fv z) w
section
variable {P:Program} {w:World} {b:Nat} {l:List (α×β)} [DecidableEq α] {t:TypeId} {z:β}
theorem run_lookupM (hf:MapF P t M z) (hb:w.heap[b]? =some (M.obj l)) (a:α):(Instr.lookup t (.map (some b)) (M.fk a) false).run P w= .ok (M.fv ((getM l a).getD z)) w:=by
 obtain ⟨kt,e,d,ht,hd,hs,hk,hy,hz⟩:=hf.und
 have h1:=MapKept.run_findKey (w:=w) hd (find_ents hs a l 0)
 have h2:=fun em=>MapKept.run_checkKey (w:=w) hd (hk a) em 9999
 have hb':w.heap[b]? =some (.map (M.ents 0 l).toArray l.length):=hb
 cases hg:getI a 0 l with
 | none=>simp [hg] at h1;simp [Instr.lookup,run_underlying ht,MapKept.run_getObj_map hb',h2,h1,hz,Result.andThen,getM,hg]
 | some x=>simp [hg] at h1;simp [Instr.lookup,run_underlying ht,MapKept.run_getObj_map hb',h2,h1,Result.andThen,getM,hg]
omit [DecidableEq α] in
theorem ents_push {p:α×β}:(M.ents 0 l).toArray.push ⟨M.fk p.1,M.fv p.2,l.length⟩=(M.ents 0 (l++[p])).toArray:=by
 apply Array.ext'
 rw [Array.toList_push]
 apply List.ext_getElem?
 intro i
 rw [M.ents_get]
 rcases Nat.lt_trichotomy i l.length with h | h | h
 ·rw [List.getElem?_append_left (by rw [M.ents_len];exact h),List.getElem?_append_left h,M.ents_get]
 ·subst h
  rw [List.getElem?_append_right (by rw [M.ents_len];exact Nat.le_refl _),List.getElem?_append_right (Nat.le_refl _),M.ents_len];simp
 ·rw [List.getElem?_append_right (by rw [M.ents_len];omega),List.getElem?_append_right (by omega),M.ents_len,List.getElem?_eq_none (by simp;omega),List.getElem?_eq_none (by simp;omega)];rfl
omit [DecidableEq α] in
theorem ents_set {i:Nat} {p:α×β} {f:MapEntry->MapEntry} (hf: ∀q,l[i]? =some q->f ⟨M.fk q.1,M.fv q.2,i⟩=⟨M.fk p.1,M.fv p.2,i⟩):(M.ents 0 l).modify i f=M.ents 0 (l.set i p):=by
 apply List.ext_getElem?
 intro j
 rw [M.ents_get,List.getElem?_modify,List.getElem?_set,M.ents_get]
 by_cases h:i=j
 ·subst h
  cases hq:l[i]? with
  | none=>
   have:l.length<=i:=List.getElem?_eq_none_iff.1 hq
   simp;omega
  | some q=>
   have:=(List.getElem?_eq_some_iff.1 hq).1
   simp [hf q hq,this]
 ·simp [h]
end
section
variable {P:Program} {w:World} {b:Nat} {l:List (α×β)} {t:TypeId}
end
section
variable {P:Program} {w:World} {b:Nat} {l:List (α×β)} [DecidableEq α] {t:TypeId} {z:β}
theorem run_updateM (hf:MapF P t M z) (hb:w.heap[b]? =some (M.obj l)) (a:α) (v:β):(Instr.mapUpdate t (.map (some b)) (M.fk a) (M.fv v)).run P w= .ok () (ChangeMaps.setBlock w b (M.obj (putM l a v))):=by
 obtain ⟨kt,e,d,ht,hd,hs,hk,hy,hz⟩:=hf.und
 have h1:=MapKept.run_findKey (w:=w) hd (find_ents hs a l 0)
 have h2:=fun em=>MapKept.run_checkKey (w:=w) hd (hk a) em 9999
 have hb':w.heap[b]? =some (.map (M.ents 0 l).toArray l.length):=hb
 have hset:=fun o=>MapKept.run_setObj_map (P:=P) o hb'
 cases hg:getI a 0 l with
 | none=>
  simp [hg] at h1
  have hp:=ents_push (M:=M) (l:=l) (p:=(a,v))
  simp [Instr.mapUpdate,run_underlying ht,MapKept.run_getObj_map hb',h2,h1,hset,Result.andThen,putM,hg,ChangeMaps.setBlock,MK.obj]
  rw [<-hp];simp
 | some x=>
  obtain ⟨i,u⟩:=x
  have hi:=(getI_some hg).2
  simp only [Nat.sub_zero] at hi
  simp [hg] at h1
  have he:(M.ents 0 l)[i]? =some ⟨M.fk a,M.fv u,i⟩:=by rw [M.ents_get,hi];simp
  have hm:=ents_set (M:=M) (l:=l) (i:=i) (p:=(a,v)) (f:=fun e=>{e with key:=M.fk a,val:=M.fv v}) (fun q hq=>by rfl)
  simp [Instr.mapUpdate,run_underlying ht,MapKept.run_getObj_map hb',h2,h1,he,Instr.keyThatStays,hy,hset,Result.andThen,putM,hg,ChangeMaps.setBlock,MK.obj,hm]
end
theorem stp_set {V:Dom} {w:World} {b:Nat} {o:Obj} (hV:V b):Stp V w (ChangeMaps.setBlock w b o):=⟨rfl,rfl,rfl,by simp [ChangeMaps.setBlock],fun x _ hx=>by
 show (w.heap.setIfInBounds b o)[x]? =_
 rw [Array.getElem?_setIfInBounds,if_neg (fun e=>hx (by rw [<-e];exact hV))]⟩
theorem set_same {w:World} {b:Nat} {o o':Obj} (hb:w.heap[b]? =some o):(ChangeMaps.setBlock w b o').heap[b]? =some o':=(MapKept.heap_set hb).1
section
variable {P:Program} {c:Base} {g:Slots} {h:Keys} {al:Names} {Q:Exit->Act->World->Prop} {K:Nat} {A:Array Oper} {rest:List Oper} {d ty:Nat} {pos:String} {af:Array Edge} {gd:Option (Nat×Bool)} {t:TypeId} {b:Nat} {l:List (α×β)}
theorem kept_same {a:Act} {w w':World} {η:Env} (st:St' c g h al a w η) (hs:Stp η.vo w w'):Kept η.vo η.vo w w':=
 ⟨hs,fun _ h=>h,fun b hb=>⟨Nat.lt_of_lt_of_le (st.fr.vnew b hb).1 hs.size,.inl hb⟩⟩
theorem kept_new {a:Act} {w:World} {η:Env} (o:Obj) (st:St' c g h al a w η):Kept η.vo (fun x=>η.vo x∨x=w.heap.size) w (w.alloc o):=
 ⟨⟨rfl,rfl,rfl,by simp,fun b hb _=>(MapKept.heap_alloc w o).2 b hb⟩,fun _ h=> .inl h,fun b hb=>by
  rcases hb with hb | rfl
  ·exact ⟨by have:=(st.fr.vnew b hb).1;simp;omega,.inl hb⟩
  ·exact ⟨by simp,.inr (Nat.le_refl _)⟩⟩
theorem wl_makeM (hB:MB M c K) (hw: ∀a w η,St' c g h al a w η->Region.wanted ⟨some d,.makeMap t none,ty,pos,af,gd⟩ (yielded A a.tmps)=true) (hdN:Nat.blt d c.N=true) (hK:h K=some ⟨0,1,false,[]⟩)
  (H: ∀b,wl P c A Q rest (upd g d (some (.val (tE (.map (some b)))))) (upd h K (some ⟨M.code (some ⟨b,[],none⟩),1,false,[]⟩)) al):wl P c A Q (⟨some d,.makeMap t none,ty,pos,af,gd⟩::rest) g h al:=
 wl_ghost (s:=none) (fun _=>True) (fun b=>tE (.map (some b))) (fun b=>some ⟨b,[],none⟩) hB rfl hw hdN hK (fun a w η st _=>⟨w.heap.size,_,_,_,rfl,kept_new _ st,⟨⟨(MapKept.heap_alloc w _).1,.inr rfl,fun hO=>absurd (st.chg_lt hO) (Nat.lt_irrefl _)⟩,fun r q hr=>by cases hr⟩,fun _=>rfl,trivial⟩) fun b _=>H b
end
theorem Ct.introM {P:Program} {f:FuncId} {fn:Func} {x:Code} {N:Nat} {ts:List Ty} {r:Ty} (M:MK α β) (K:Nat) (hf:P.funcs[f]? =some fn) (hb:fn.body=some x) (hN:fn.ntmps=N) (hlb:Nat.ble ts.length N=true)
  (H: ∀w F,MB M (Base.maps N w F K M) K->wc P (Base.maps N w F K M) x (Post P w F fn r) (args 0 ts) (upd (fun _=>none) K (some ⟨0,1,false,[]⟩)) (nm [K])):Ct P f ts r:=by
 intro F w vs hvs
 have hl:ts.length<=N:=Nat.le_of_ble_eq_true hlb
 have hlen:vs.length=ts.length:=by
  clear H hlb hl
  induction ts generalizing vs with
  | nil=>cases vs with
   | nil=>rfl
   | cons=>exact hvs.elim
  | cons t r ih=>cases vs with
   | nil=>exact hvs.elim
   | cons v s=>simp [ih s hvs.2]
 have hkey: ∀k y,upd (fun _=>none) K (some (⟨0,1,false,[]⟩:HEnt)) k=some y->k=K/\y=⟨0,1,false,[]⟩:=fun k y hy=>by
  by_cases hk:k=K
  ·subst hk;rw [xa9] at hy;cases hy;exact ⟨rfl,rfl⟩
  ·rw [xa4 _ _ _ hk] at hy;cases hy
 have hK:memN K [K]=true:=xb6.2 (by simp)
 have hown: ∀b,¬Own (upd (fun _=>none) K (some (⟨0,1,false,[]⟩:HEnt))) ⟨fun _=>0,fun _=>0,fun _=>False⟩ b:=by
  rintro b ⟨k,y,_,hc,_⟩
  exact absurd hc (Nat.lt_irrefl 0)
 refine xj7 hf hb (H w F MB.mk' _ w ⟨⟨fun _=>0,fun _=>0,fun _=>False⟩,?_⟩)
 refine ⟨?_,rfl,fun s e hs=> ?_,fun k x hx=> ?_,fun k k' x x' hx _ _ hc=>absurd hc (Nat.lt_irrefl 0),⟨rfl,rfl,rfl,Nat.le_refl _,fun _ _ _ _=>rfl,fun _ hb=>hb,fun _ hb=>hb.elim⟩,fun k hk=> ?_,fun x hx=>(by cases hx),fun b hb=>hb.elim,fun k hk=> ?_,fun k x hk hx=> ?_,fun b hb=>hb.elim⟩
 ·simp [hlen,hN,Base.maps];omega
 ·obtain ⟨j,t,h1,h2,h3⟩:=args_spec ts 0 s e hs
  subst h3
  have hj:j < ts.length:=(List.getElem?_eq_some_iff.1 h2).1
  obtain ⟨v,hv,hp⟩:=Tup.get ts vs j t hvs h2
  refine ⟨by show s < N;omega,fun k hk=>(by cases hk),?_⟩
  have e1:(vs.toArray++Array.replicate (fn.ntmps - vs.toArray.size) undef).getD s undef=v:=by
   rw [Array.getD_eq_getD_getElem?,Array.getElem?_append,if_pos (by simp;omega)]
   rw [h1,Nat.zero_add,List.getElem?_toArray,hv];rfl
  show t.p _ w _
  simp only [e1]
  exact t.mono hp fun b o hb hl _=>⟨⟨.inr ⟨hb,fun hv=>hv⟩,hown b,fun hv=>hv,fun hv=>hv⟩,hl⟩
 ·obtain ⟨rfl,rfl⟩:=hkey k x hx
  exact ⟨hK,fun j hj=>(by cases hj),⟨by simp,by simp,fun _=>rfl,by simp,fun hc=>absurd hc (Nat.lt_irrefl 0)⟩,fun hc=>absurd hc (Nat.lt_irrefl 0)⟩
 ·have hk:k∈[K]:=hk
  rw [List.mem_singleton.1 hk]
  exact ⟨hK,rfl,rfl⟩
 ·have hk:some K=some k:=hk
  cases hk
  exact hK
 ·have hk:some K=some k:=hk
  cases hk
  rw [xa9] at hx
  cases hx
  exact (M.J_at (s:=none)).2 trivial
variable {α β:Type}
def tMp (M:MK α β):Option (List (α×β))->Ty
 | none=>tE (.map none)
 | some l=>⟨fun F w v=> ∃b,v= .map (some b)/\F b/\w.heap[b]? =some (M.obj l),fun ⟨b,h1,h2,h3⟩ hk=>let h4:=hk b _ h2 h3 rfl;⟨b,h1,h4.1,h4.2⟩⟩
section
variable {P:Program} {c:Base} {d ty:Nat} {pos:String} {af:Array Edge} {gd:Option (Nat×Bool)} {M:MK α β} {g:Slots} {h:Keys} {al:Names}
theorem d_lookupG [DecidableEq α] {t:TypeId} {z:β} {x y:Operand} (hf:MapF P t M z) (l:List (α×β)) (a:α):
  Does P c ⟨some d,.lookup t x y false,ty,pos,af,gd⟩ ⟨[(x,.val (tMp M (some l))),(y,.val (tE (M.fk a)))],[],some (d,some (.val (tE (M.fv (entV z l a))))),[],[]⟩:=
 Does.value rfl fun g h al a' w η hrd hkr st=>by
  obtain ⟨b,e1,_,h1⟩:=(xa0 st hrd.1).1
  have e1:a'.eval x= .map (some b):=e1
  have e2:a'.eval y=M.fk a:=(xa0 st hrd.2.1).1
  refine ⟨_,w,?_,Ext.refl w,rfl,fun k hk=>by cases hk⟩
  simp only [execOp,e1,e2,Sem.run_bind,run_lookupM hf h1,Result.andThen];rfl
end
theorem beqBA (a b:ByteArray):(a==b)=decide (a=b):=by
 by_cases h:a=b
 ·subst h;rw [decide_eq_true rfl];rcases a with ⟨d⟩;show (d==d)=true;simp
 ·rw [decide_eq_false h];rcases a with ⟨d⟩;rcases b with ⟨e⟩;show (d==e)=false;exact beq_false_of_ne fun h2=>h (by rw [h2])
def caS (s:ByteArray):Nat:=cLs (s.data.toList.map UInt8.toNat)
theorem caS_inj (x y:ByteArray) (h:caS x=caS y):x=y:=by
 have h1:=map_injL (f:=UInt8.toNat) (fun a b e=>UInt8.toNat_inj.1 e) (cLs_inj h)
 rcases x with ⟨a⟩;rcases y with ⟨b⟩
 exact congrArg ByteArray.mk (Array.toList_inj.1 h1)
end An
namespace An.S
open Go
def fRight (f:Fa):Bool:=decide (1<=f.key.size) && decide (f.key.size<=24) && decide (0<=f.lo) && decide (f.lo < f.hi) && decide (f.hi<=65536) && decide (0<=f.kn) && decide (f.kn < 65536) && if f.gone=true then decide (f.v=An.va0) else f.v.valid
def kGet (m:List (ByteArray×Nat)) (k:ByteArray):Nat:=entV 0 m k
def kAdd (m:List (ByteArray×Nat)) (f:Fa):List (ByteArray×Nat):=putM m f.key (max (kGet m f.key) f.v.kind)
def kM (a:List Fa):List (ByteArray×Nat):=a.foldl kAdd []
def kBad (m:List (ByteArray×Nat)) (f:Fa):Bool:=decide (kGet m f.key≠0) && !f.gone && decide (kGet m f.key≠f.v.kind)
def kOk (a:List Fa):Bool:=(List.range a.length).all fun i=> !kBad (kM (a.take i)) (a.getD i fa0)
theorem kBad_iff {m:List (ByteArray×Nat)} {f:Fa}:kBad m f=true↔kGet m f.key≠0/\f.gone=false/\kGet m f.key≠f.v.kind:=by
 simp only [kBad,Bool.and_eq_true,decide_eq_true_eq,Bool.not_eq_true',and_assoc]
def recOk (a:List Fa):Bool:=decide (a.length<=2000) && a.all fRight && kOk a
theorem mem_getDF {l:List Fa} {i:Nat} (hi:i < l.length):l.getD i fa0∈l:=by
 rw [List.getD_eq_getElem?_getD,List.getElem?_eq_getElem hi];exact List.getElem_mem hi
end An.S
namespace An
open Go
section
variable {P:Program} {c:Base} {g:Slots} {h:Keys} {al:Names} {d ty:Nat} {pos:String} {af:Array Edge} {Q:Exit->Act->World->Prop}
end
section
variable {α:Type} (L:Nat->List α) (m:Nat->Nat->α) (d:α)
variable {L m d}
end
section
variable {n es k:Nat} {κ len:Nat->Nat} {t0:Nat->Ent}
end
section
variable {P:Program} {c:Base} {g:Slots} {h:Keys} {al:Names} {a:Act} {w:World} {η:Env}
theorem St'.giveL (s:St' c g h al a w η) {k:Nat} {T es off len:Nat} {agg:Bool} {ts:List Ent} {α:Type} {f:α->Ty} {xs:List α} (hk:h k=some ⟨T,es,agg,ts⟩) (hlb:0 < η.c k-> ¬c.lb (η.b k))
  (hts:(ts.drop off).take len=xs.map fun x=> .val (f x)) (hl:xs.length=len) {v:Value} (hv:(Ent.own (.sl k es off len)).sat (c.dom h η) w η v):(tL es agg f xs).p (c.dom (upd h k none) η) w v:=by
 subst hl
 obtain ⟨A,h1,h2,h3⟩:=hv
 obtain ⟨h4,h5,⟨h6,h7,h8,h9,h10⟩,h11⟩:=s.key k _ hk
 simp only at h7 h8 h9 h10
 refine ⟨A,_,h1,by omega,by omega,?_⟩
 rcases Nat.eq_zero_or_pos xs.length with h0 | h0
 ·exact .inl (List.eq_nil_of_length_eq_zero h0)
 ·have hc:0 < η.c k:=by omega
  obtain ⟨cs,e1,e2,e3⟩:=h10 hc
  obtain ⟨d1,d2,d3⟩:=h11 hc
  have d1:c.w0.heap.size<=η.b k:=d1.resolve_right (hlb hc)
  refine .inr ⟨η.b k,off*es,h3 (by omega),⟨.inl d1,?_,d2,d3⟩,fun i x hi=> ?_⟩
  ·rintro ⟨j,y,hj,hcj,e⟩
   by_cases hjk:j=k
   ·subst hjk;rw [xa9] at hj;cases hj
   ·rw [xa4 _ _ _ hjk] at hj
    exact s.inj j k y _ hj hk hjk hcj hc e.symm
  ·have hil:i < xs.length:=(List.getElem?_eq_some_iff.1 hi).1
   have he:=e3 (off+i) _ (map_get hts i x hi)
   have hle:off*es+i*es+es<=cs.size:=by
    rw [e2,<-Nat.add_mul,<-Nat.succ_mul];exact Nat.mul_le_mul_right _ (by omega)
   refine ⟨_,⟨cs,_,_,e1,hle,h7,h8,rfl⟩,?_⟩
   rw [<-Nat.add_mul]
   exact (f x).mono he (Keep.drop k)
theorem C_giveL {Q:Exit->Act->World->Prop} {x:Code} {t k T es off len:Nat} {agg:Bool} {ts:List Ent} {α:Type} {f:α->Ty} {xs:List α} (hg:g t=some (.own (.sl k es off len))) (hk:h k=some ⟨T,es,agg,ts⟩)
  (hlb: ∀b,c.lb b-> ∃j y,j∈c.ln/\j≠k/\h j=some y/\0 < c.lη.c j/\b=c.lη.b j)
  (hts:(ts.drop off).take len=xs.map fun x=> .val (f x)) (hl:xs.length=len) (H:wc P c x Q (upd g t (some (.val (tL es agg f xs)))) (upd h k none) al):wc P c x Q g h al:=fun a w ⟨η,s⟩=>by
 have h2:=s.giveL hk (fun hc hb=>by
  obtain ⟨j,y,h1,h2,h3,h4,h5⟩:=hlb _ hb
  obtain ⟨_,e1,e2⟩:=s.lk j h1
  exact s.inj j k y _ h3 hk h2 (by rw [e2];exact h4) hc (by rw [e1,<-h5])) hts hl (s.slot t _ hg).2.2
 have s2:=(s.drop k).put (s.slot t _ hg).1 (e:= .val (tL es agg f xs)) h2 fun j hj=>by cases hj
 refine H a w ⟨η,?_⟩
 have e:a.put (some t) (a.tmps.getD t undef)=a:=by
  have hlt:t < a.tmps.size:=by rw [s.tn];exact (s.slot t _ hg).1
  have:a.tmps.setIfInBounds t (a.tmps.getD t undef)=a.tmps:=by
   apply Array.ext_getElem?
   intro i
   rw [Array.getElem?_setIfInBounds]
   by_cases hi:t=i
   ·subst hi;simp [hlt]
   ·simp [hi]
  simp only [Act.put,this]
 rwa [e] at s2
end
section
variable {P:Program} {c:Base} {d ty:Nat} {pos:String} {af:Array Edge} {gd:Option (Nat×Bool)}
end
section
variable {P:Program} {c:Base} {d ty:Nat} {pos:String} {af:Array Edge} {gd:Option (Nat×Bool)}
end
section
variable {P:Program} {c:Base} {g:Slots} {h:Keys} {al:Names} {Q:Exit->Act->World->Prop}
end
end An
namespace An.S
open Go Go.Proofs An
instance fo53_4:FoI Tryz.prog 53 4 4:=⟨by kernel_rfl⟩
instance fo53_5:FoI Tryz.prog 53 5 5:=⟨by kernel_rfl⟩
end An.S
namespace An.S
open Go
end An.S
namespace An
open Go
section
variable {P:Program} {g:Slots} {h:Keys} {al:Names} {Q:Exit->Act->World->Prop}
abbrev ovb (N:Nat) (w0:World) (F:Dom) (K:Nat) (X:OvJ):Base:=Base.over N w0 F ⟨fun _=>0,fun _=>0,fun _=>False⟩ [] [] K X
theorem RBase.ov {N:Nat} {w0:World} {F:Dom} {K:Nat} {X:OvJ} (h: ∀b,X.D b->w0.heap.size<=b):RBase (ovb N w0 F K X) w0:=⟨Ext.refl w0,fun _ ⟨_,hx,_⟩=>(by cases hx),h⟩
theorem C_lentK {N:Nat} {w0:World} {F:Dom} {x:Code} (K T s k TK es:Nat) {W U:Ty} {agg:Bool} {g':Value->Slots} {h':Value->Keys} (hs:g s=some (.val (tG (up w0.heap.size) W))) (hk:h k=some ⟨TK,es,agg,[.val (tG (up w0.heap.size) U)]⟩) (hK:al K=false)
  (hg: ∀(a:Act) (L:Dom),(∀b,L b->w0.heap.size<=b)->SlC (fun b=> ¬L b) a g (g' (a.tmps.getD s undef)))
  (hh: ∀(w:World) (η:Env) (L:Dom),(∀b,L b->w0.heap.size<=b)->KyC (fun b=> ¬L b) w η h (h' (kval w η k ⟨TK,es,agg,[.val (tG (up w0.heap.size) U)]⟩ 0)))
  (H: ∀(L:Dom) (w1:World) (v u:Value),W.p L w1 v->U.p L w1 u->(∀b,L b->b < w1.heap.size)->(∀b,L b->w0.heap.size<=b)->wc P (ovb N w0 F K (XL T L w1)) x Q (g' v) (upd (h' u) K (some ⟨0,1,false,[]⟩)) (fun j=>al j || Nat.beq j K)):
  wc P (Base.plain N w0 F) x Q g h al:=by
 refine C_at fun a w hs'=> ?_
 obtain ⟨η,st⟩:=hs'
 have hv:=st.slotv hs
 have hu:=st.keyv hk
 exact ⟨ovb N w0 F K (XL T (fun b=>(b < w.heap.size/\ ¬Own h η b)/\up w0.heap.size b) w),g' (a.tmps.getD s undef),_,_,rfl,st.over K (XL T (fun b=>(b < w.heap.size/\ ¬Own h η b)/\up w0.heap.size b) w) (fun b hb=>⟨hb.2,hb.1.1,hb.1.2⟩) ⟨fun _ b _=>rfl,fun h=>(by cases h),fun b hb=>hb.1.1⟩ hK (hg a _ fun b hb=>hb.2) (hh w η _ fun b hb=>hb.2),H _ w _ _ hv hu (fun b hb=>hb.1.1) fun b hb=>hb.2⟩
end
theorem tG_old {n:Nat} {L:Dom} {t:Ty} (h: ∀b,L b->n<=b):Le (tG (fun b=>b < n) t) (tG (fun b=> ¬L b) t):=tG_sub fun b hb hl=>by have:=h b hl;omega
theorem XL_hand {T:Nat} {L F:Dom} {w1 w:World} {W:Ty} {v:Value} (hW:W.p L w1 v) (hJ:(XL T L w1).J 0 w):W.p (fun b=>F b∨L b) w v:=W.mono hW fun b _ hb hl _=>⟨.inr hb,(hJ.1 rfl b hb).trans hl⟩
def HandL (T:Nat) (L:Dom) (w1:World):List Ty->List Ty->Prop
 | [],[]=>True
 | t::r,u::s=>(Le t u∨ ∃v,t=tE v/\u.p L w1 v)/\HandL T L w1 r s
 | _,_=>False
theorem HandL.all {T:Nat} {L F:Dom} {w1 w:World} (hJ:(XL T L w1).J 0 w): ∀{ts us:List Ty} {vs:List Value},HandL T L w1 ts us->Tup.all F w ts vs->Tup.all (fun b=>F b∨L b) w us vs
 | [],[],[],_,_=>trivial
 | t::r,u::s,v::vs,h,hv=>by
  refine ⟨?_,HandL.all hJ h.2 hv.2⟩
  rcases h.1 with h1 | ⟨v',rfl,h2⟩
  ·exact u.mono (h1 _ _ _ hv.1) fun b _ hb hl _=>⟨.inl hb,hl⟩
  ·have e:v=v':=hv.1
   subst e;exact XL_hand h2 hJ
 | [],[],_::_,_,hv=>hv.elim
 | _::_,_::_,[],_,hv=>hv.elim
 | [],_::_,_,h,_=>h.elim
 | _::_,[],_,h,_=>h.elim
section
variable {P:Program} {c:Base} {d ty:Nat} {pos:String} {af:Array Edge} {gd:Option (Nat×Bool)}
theorem d_callH {T K:Nat} {L:Dom} {w1:World} {f:FuncId} {xs:List Operand} {aT:Array TypeId} {us us':List Ty} {rr:Nat->Ty} {r:Ty} {w0:World} {η0:Env} {H:List (Nat×HEnt)} (hp:OvC c w0 η0 H K (XL T L w1)) (hc:CtN P f us rr) (hf:FnI P f) (hr: ∀m F w v,(rr m).p F w v->r.p (fun b=>F b/\m<=b) w v)
  (ha:HandL T L w1 us' us) (hl:xs.length=us'.length):
  Does P c ⟨some d,.call {callee:= .value (.func f),args:=xs.toArray,argTypes:=aT},ty,pos,af,gd⟩ ⟨xs.zip (us'.map Ent.val),[(K,⟨0,1,false,[]⟩)],some (d,some (.val r)),[],[]⟩:=
 d_callX hp hc hf hr (fun _ _ _ hJ hv=>HandL.all hJ ha hv) hl
end
theorem hrE {rr:Nat->Ty} {u:Value} (h: ∀m,rr m=tE u) (m:Nat) (F:Dom) (w:World) (v:Value) (hp:(rr m).p F w v):(tE u).p (fun b=>F b/\m<=b) w v:=by rw [h m] at hp;exact hp
theorem hrT {t:Ty} {u:Value} (m:Nat) (F:Dom) (w:World) (v:Value) (hp:(tT [tG (up m) t,tE u]).p F w v):(tT [t,tE u]).p (fun b=>F b/\m<=b) w v:=by
 obtain ⟨vs,h1,h2⟩:=hp
 refine ⟨vs,h1,?_⟩
 match vs,h2 with
 | [a,b],h2=>exact ⟨h2.1,h2.2.1,trivial⟩
 | [],h2=>exact h2.elim
 | [_],h2=>exact h2.2.elim
 | _::_::_::_,h2=>exact h2.2.2.elim
section
variable {P:Program} {c:Base} {d ty:Nat} {pos:String} {af:Array Edge} {gd:Option (Nat×Bool)}
end
theorem CtN.ofG {P:Program} {f:FuncId} {t:Ty} {k es T n:Nat} {agg:Bool} {α:Type} {fx:α->Ty} {xs:List α} (h:CtG P f [] [.val t] (.own (.sl k es 0 n)) [(k,⟨T,es,agg,xs.map fun x=> .val (fx x)⟩)] [k]) (hl:xs.length=n) (hfr: ∀x,Free (fx x)):CtN P f [t] (fun nw=>tG (up nw) (tL es agg fx xs)):=by
 intro F w vs hvs
 cases vs with
 | nil=>exact hvs.elim
 | cons v r=>
  cases r with
  | cons _ _=>exact hvs.2.elim
  | nil=>
   refine Calls.mono (h F w ⟨fun _=>0,fun _=>0,fun _=>False⟩ [v] ⟨hvs.1,trivial⟩ (fun x hx=>by cases hx) (fun x hx=>by cases hx) (fun b _ hb=>by obtain ⟨x,hx,_⟩:=hb;cases hx)) ?_
   rintro e w' ⟨u,η',he,ho⟩
   refine ⟨u,he,⟨ho.stp.os,ho.stp.tape,ho.stp.output,ho.stp.size,fun b hb=>ho.stp.block b hb fun hk=>by obtain ⟨x,hx,_⟩:=hk;cases hx⟩,?_⟩
   obtain ⟨A,h1,h2,h3⟩:=ho.res
   have hk:=ho.keys _ (List.mem_singleton.2 rfl)
   obtain ⟨k1,k2,k3,k4,k5⟩:=hk
   have k1:xs.length<=η'.c k:=by simpa using k1
   refine ⟨A,η'.c k - 0,by rw [h1,hl],by omega,by omega,?_⟩
   cases xs with
   | nil=>exact .inl rfl
   | cons x0 xr=>
    have hc:0 < η'.c k:=by simp at k1;omega
    obtain ⟨cs,m1,m2,m3⟩:=k5 hc
    have hA:=h3 (by omega)
    have hnew:w.heap.size<=η'.b k:=by
     rcases ho.new (η'.b k) ⟨_,List.mem_singleton.2 rfl,hc,rfl⟩ with hh | hh
     ·obtain ⟨x,hx,_⟩:=hh;cases hx
     ·exact hh
    refine .inr ⟨η'.b k,0*es,hA,⟨.inl hnew,hnew⟩,?_⟩
    intro i x hi
    have hm:=m3 i (.val (fx x)) (by rw [List.getElem?_map,hi];rfl)
    have hlt:i < (x0::xr).length:=(List.getElem?_eq_some_iff.1 hi).1
    refine ⟨_,⟨cs,T,(0,0),m1,?_,k2,k3,rfl⟩,?_⟩
    ·have h5:(i+1)*es<=η'.c k*es:=Nat.mul_le_mul_right _ (by omega)
     rw [Nat.add_mul,Nat.one_mul] at h5
     rw [m2,Nat.zero_mul,Nat.zero_add];exact h5
    ·rw [Nat.zero_mul,Nat.zero_add];exact hfr x _ _ _ _ _ hm
theorem leNilG {α:Type} {G:Dom} {es:Nat} {agg:Bool} {f:α->Ty} {xs:List α} (h:xs=[]):Le (tE (.slice none 0 0)) (tG G (tL es agg f xs)):=fun _ _ _ hv=>leNil h _ _ _ hv
section
variable {P:Program} {c:Base} {g:Slots} {h:Keys} {al:Names} {Q:Exit->Act->World->Prop}
end
section
variable {P:Program} {c:Base} {d ty:Nat} {pos:String} {af:Array Edge} {gd:Option (Nat×Bool)}
end
section
variable {P:Program} {c:Base} {g:Slots} {h:Keys} {al:Names} {Q:Exit->Act->World->Prop}
end
section
variable {P:Program} {c:Base} {d ty:Nat} {pos:String} {af:Array Edge} {gd:Option (Nat×Bool)}
end
section
variable {P:Program} {c:Base} {g:Slots} {h:Keys} {al:Names} {Q:Exit->Act->World->Prop}
end
section
variable {P:Program} {c:Base} {d ty:Nat} {pos:String} {af:Array Edge} {gd:Option (Nat×Bool)}
end
end An
namespace An.S
open Go Go.Proofs An
end An.S
namespace An.S
open Go
end An.S
namespace An.S
open Go Go.Proofs An
end An.S
namespace An.S
open Go
theorem segL_len {g:Int->Option Va} (ds:List Int):(segL g ds).length<=ds.length:=by
 rw [segL_N]
 have:=segN_len (g:=g) (ds:=ds) (ds.length - 1)
 omega
section
variable {α:Type} {k:α->Int}
end
end An.S
namespace An
open Go
structure Ev where
  knd:Nat
  kn:Int
  job:Int
  day:Int
  hi:Int
  part:Fr
  pay:Fr
  nr:Int
deriving DecidableEq
def ev0:Ev:=⟨0,0,0,0,0,fr0,fr0,0⟩
abbrev tEv (e:Ev):Ty:=tS [⟨1,false,tE (.int .u8 (e.knd:Int))⟩,⟨1,false,tI e.kn⟩,⟨1,false,tI e.job⟩,⟨1,false,tI e.day⟩,⟨1,false,tI e.hi⟩,⟨4,true,tFr e.part⟩,⟨4,true,tFr e.pay⟩,⟨1,false,tI e.nr⟩]
def uJob (k:Nat):Bool:=decide (1<=k) && decide (k<=5)
def uDay (k:Nat):Bool:=decide (1<=k) && decide (k<=6)
def uTo (k:Nat):Bool:=decide (k=3) || decide (k=5)
def uPart (k:Nat):Bool:=decide (k=1) || decide (k=3) || decide (k=6)
def uPay (k:Nat):Bool:=decide (k=1) || decide (k=4)
def uOf (k:Nat):Bool:=decide (k=7)
def eBlank (f:Fr):Bool:=(!f.n.neg && decide (f.n.l.length=0)) && (!f.d.neg && decide (f.d.l.length=0))
def eExact (f:Fr):Bool:=f.valid && !f.n.neg && decide (f.n.l.length<=2) && decide (f.d.l.length<=2)
def eNum (u:Bool) (n lo hi:Int):Bool:=if u=true then decide (lo<=n) && decide (n<=hi) else decide (n=0)
def eFrc (u:Bool) (f:Fr):Bool:=if u=true then eExact f else eBlank f
def xOk (x:Ev) (i:Nat):Bool:=
 (decide (1<=x.knd) && decide (x.knd<=7)) && decide (0<=x.kn) && decide (x.kn < 65536) && eNum (uJob x.knd) x.job 1 8 && eNum (uDay x.knd) x.day 0 65535 &&
 eNum (uTo x.knd) x.hi (x.day+1) 65536 && eNum (uOf x.knd) x.nr 1 i && eFrc (uPart x.knd) x.part && eFrc (uPay x.knd) x.pay &&
 !(uPart x.knd && decide (x.knd≠6) && decide (1 < x.part.rat))
def eRight (l:List Ev) (i:Nat):Bool:=xOk (l.getD i ev0) i && (!uOf (l.getD i ev0).knd || decide ((l.getD ((l.getD i ev0).nr - 1).toNat ev0).kn<=(l.getD i ev0).kn))
def eVal (l:List Ev):Bool:=decide (l.length<=100) && (List.range l.length).all (eRight l)
def liveS (l:List Ev) (kn:Int):Nat->List Bool×List Bool
 | 0=>(List.replicate l.length false,List.replicate l.length false)
 | k+1=>
  if kn < (l.getD (l.length - 1 - k) ev0).kn∨(liveS l kn k).2.getD (l.length - 1 - k) false=true then liveS l kn k
  else ((liveS l kn k).1.set (l.length - 1 - k) true,if (l.getD (l.length - 1 - k) ev0).knd=7 then (liveS l kn k).2.set ((l.getD (l.length - 1 - k) ev0).nr - 1).toNat true else (liveS l kn k).2)
def live (l:List Ev) (kn:Int):List Bool:=(liveS l kn l.length).1
def frc (l:List Ev) (kn:Int) (i:Nat):Bool:=(live l kn).getD i false
def infI (l:List Ev) (kn:Int):List Nat:=(List.range l.length).filter (frc l kn)
def inf (l:List Ev) (kn:Int):List Ev:=(infI l kn).map fun i=>l.getD i ev0
theorem liveS_len {l:List Ev} {kn:Int}: ∀k,(liveS l kn k).1.length=l.length/\(liveS l kn k).2.length=l.length
 | 0=>by simp [liveS]
 | k+1=>by
  have ih:=liveS_len (l:=l) (kn:=kn) k
  rw [liveS]
  split
  ·exact ih
  ·refine ⟨by rw [List.length_set];exact ih.1,?_⟩
   show (if _ then _ else _:List Bool).length=_
   split
   ·rw [List.length_set];exact ih.2
   ·exact ih.2
theorem live_len {l:List Ev} {kn:Int}:(live l kn).length=l.length:=(liveS_len _).1
theorem xe8 {l:List Ev} {i:Nat} (hi:i < l.length):l.getD i ev0∈l:=by
 rw [List.getD_eq_getElem?_getD,List.getElem?_eq_getElem hi];exact List.getElem_mem hi
theorem eVal_at {l:List Ev} (h:eVal l=true) {i:Nat} (hi:i < l.length):eRight l i=true:=by
 rw [eVal,Bool.and_eq_true] at h
 exact List.all_eq_true.1 h.2 i (List.mem_range.2 hi)
theorem eVal_len {l:List Ev} (h:eVal l=true):l.length<=100:=by
 rw [eVal,Bool.and_eq_true] at h
 exact of_decide_eq_true h.1
structure EOk (l:List Ev) (i:Nat):Prop where
  k1:1<=(l.getD i ev0).knd
  k2:(l.getD i ev0).knd<=7
  n1:0<=(l.getD i ev0).kn
  n2:(l.getD i ev0).kn < 65536
  jb:eNum (uJob (l.getD i ev0).knd) (l.getD i ev0).job 1 8=true
  dy:eNum (uDay (l.getD i ev0).knd) (l.getD i ev0).day 0 65535=true
  up:eNum (uTo (l.getD i ev0).knd) (l.getD i ev0).hi ((l.getD i ev0).day+1) 65536=true
  nm:eNum (uOf (l.getD i ev0).knd) (l.getD i ev0).nr 1 i=true
  pt:eFrc (uPart (l.getD i ev0).knd) (l.getD i ev0).part=true
  py:eFrc (uPay (l.getD i ev0).knd) (l.getD i ev0).pay=true
  p1:uPart (l.getD i ev0).knd=true->(l.getD i ev0).knd≠6-> ¬1 < (l.getD i ev0).part.rat
  vo:(l.getD i ev0).knd=7->(l.getD ((l.getD i ev0).nr - 1).toNat ev0).kn<=(l.getD i ev0).kn
theorem xf2 {l:List Ev} {i:Nat}:eRight l i=true↔EOk l i:=by
 simp only [eRight,xOk,Bool.and_eq_true,decide_eq_true_eq,Bool.not_eq_true',Bool.and_eq_false_iff,decide_eq_false_iff_not,Bool.or_eq_true,uOf]
 constructor
 ·rintro ⟨⟨⟨⟨⟨⟨⟨⟨⟨⟨⟨h1,h2⟩,h3⟩,h4⟩,h5⟩,h6⟩,h7⟩,h8⟩,h9⟩,h10⟩,h11⟩,h12⟩
  refine ⟨h1,h2,h3,h4,h5,h6,h7,h8,h9,h10,fun a b c=> ?_,fun a=> ?_⟩
  ·rcases h11 with (h | h) | h
   ·rw [a] at h;cases h
   ·exact h b
   ·exact h c
  ·rcases h12 with h | h
   ·exact absurd a h
   ·exact h
 ·rintro ⟨h1,h2,h3,h4,h5,h6,h7,h8,h9,h10,h11,h12⟩
  refine ⟨⟨⟨⟨⟨⟨⟨⟨⟨⟨⟨h1,h2⟩,h3⟩,h4⟩,h5⟩,h6⟩,h7⟩,h8⟩,h9⟩,h10⟩,?_⟩,?_⟩
  ·by_cases a:uPart (l.getD i ev0).knd=true
   ·by_cases b:(l.getD i ev0).knd=6
    ·exact .inl (.inr fun hh=>hh b)
    ·exact .inr (h11 a b)
   ·exact .inl (.inl (by simpa using a))
  ·by_cases a:(l.getD i ev0).knd=7
   ·exact .inr (h12 a)
   ·exact .inl a
theorem xp9 {u:Bool} {n lo hi:Int} (h:eNum u n lo hi=true) (hu:u=true):lo<=n/\n<=hi:=by
 rw [eNum,if_pos hu,Bool.and_eq_true,decide_eq_true_eq,decide_eq_true_eq] at h;exact h
theorem eNum_no {u:Bool} {n lo hi:Int} (h:eNum u n lo hi=true) (hu:u=false):n=0:=by
 rw [eNum,if_neg (by rw [hu];decide),decide_eq_true_eq] at h;exact h
theorem EOk.of_ {l:List Ev} {i:Nat} (h:EOk l i) (hk:(l.getD i ev0).knd=7):1<=(l.getD i ev0).nr/\(l.getD i ev0).nr<=i:=xp9 h.nm (by rw [hk];rfl)
theorem EOk.days {l:List Ev} {i:Nat} (h:EOk l i):0<=(l.getD i ev0).day/\(l.getD i ev0).day<=65535:=by
 cases hu:uDay (l.getD i ev0).knd with
 | true=>exact xp9 h.dy hu
 | false=>have:=eNum_no h.dy hu;omega
theorem EOk.his {l:List Ev} {i:Nat} (h:EOk l i):0<=(l.getD i ev0).hi/\(l.getD i ev0).hi<=65536:=by
 have:=h.days
 cases hu:uTo (l.getD i ev0).knd with
 | true=>have:=xp9 h.up hu;omega
 | false=>have:=eNum_no h.up hu;omega
theorem inf_mem {l:List Ev} {kn:Int} {e:Ev} (h:e∈inf l kn): ∃i,i < l.length/\frc l kn i=true/\e=l.getD i ev0:=by
 obtain ⟨i,hi,rfl⟩:=List.mem_map.1 h
 obtain ⟨h1,h2⟩:=List.mem_filter.1 hi
 exact ⟨i,List.mem_range.1 h1,h2,rfl⟩
theorem infI_len {l:List Ev} {kn:Int}:(infI l kn).length<=l.length:=by
 have:=List.length_filter_le (frc l kn) (List.range l.length)
 rw [List.length_range] at this;exact this
theorem inf_len {l:List Ev} {kn:Int}:(inf l kn).length<=l.length:=by rw [inf,List.length_map];exact infI_len
def last1 (p:Ev->Bool) (o:Option Ev) (e:Ev):Option Ev:=if p e=true/\(o.isSome=true->(o.getD ev0).day<=e.day) then some e else o
def lastE (p:Ev->Bool) (F:List Ev):Option Ev:=F.foldl (last1 p) none
theorem lastE_app {p:Ev->Bool} {F:List Ev} {e:Ev}:lastE p (F++[e])=last1 p (lastE p F) e:=by rw [lastE,List.foldl_append];rfl
theorem xd9 {p:Ev->Bool} {F:List Ev} {i:Nat} (hi:i < F.length):lastE p (F.take (i+1))=last1 p (lastE p (F.take i)) (F.getD i ev0):=by
 rw [List.take_succ_eq_append_getElem hi,lastE_app,List.getD_eq_getElem?_getD,List.getElem?_eq_getElem hi];rfl
theorem xs4 {α:Type} {C:List α->Prop} (h0:C []) (h1: ∀l x,C l->C (l++[x])): ∀n (l:List α),l.length=n->C l
 | 0,l,h=>by rw [List.eq_nil_of_length_eq_zero h];exact h0
 | n+1,l,h=>by
  have e:l=l.take n++[l[n]]:=by rw [<-List.take_succ_eq_append_getElem (by omega),List.take_of_length_le (by omega)]
  rw [e]
  exact h1 _ _ (xs4 h0 h1 n _ (by rw [List.length_take];omega))
theorem xu5 (p:Ev->Bool) (F:List Ev):(lastE p F=none↔ ∀e∈F,p e=false)/\ ∀b,lastE p F=some b->(b∈F/\p b=true)/\ ∀e∈F,p e=true->e.day<=b.day:=
 xs4 (C:=fun F=>(lastE p F=none↔ ∀e∈F,p e=false)/\ ∀b,lastE p F=some b->(b∈F/\p b=true)/\ ∀e∈F,p e=true->e.day<=b.day)
  ⟨⟨fun _ _ h=>absurd h List.not_mem_nil,fun _=>rfl⟩,fun b h=>by cases h⟩
  (fun F x ⟨ih1,ih2⟩=>by
   rw [lastE_app]
   by_cases hp:p x=true
   ·cases ho:lastE p F with
    | none=>
     have h0:=ih1.1 ho
     rw [last1,if_pos ⟨hp,fun h=>by cases h⟩]
     refine ⟨⟨fun h=>(by cases h),fun h=> ?_⟩,fun b h=> ?_⟩
     ·have:=h x (by simp);rw [hp] at this;cases this
     ·obtain rfl:=Option.some.inj h
      refine ⟨⟨by simp,hp⟩,fun e he hpe=> ?_⟩
      rcases List.mem_append.1 he with h1 | h1
      ·rw [h0 e h1] at hpe;cases hpe
      ·rw [List.mem_singleton.1 h1];exact Int.le_refl _
    | some c=>
     have h0:=ih2 c ho
     rw [last1]
     by_cases hd:c.day<=x.day
     ·rw [if_pos ⟨hp,fun _=>hd⟩]
      refine ⟨⟨fun h=>(by cases h),fun h=> ?_⟩,fun b h=> ?_⟩
      ·have:=h x (by simp);rw [hp] at this;cases this
      ·obtain rfl:=Option.some.inj h
       refine ⟨⟨by simp,hp⟩,fun e he hpe=> ?_⟩
       rcases List.mem_append.1 he with h1 | h1
       ·have:=h0.2 e h1 hpe;omega
       ·rw [List.mem_singleton.1 h1];exact Int.le_refl _
     ·rw [if_neg (fun h=>hd (h.2 rfl))]
      refine ⟨⟨fun h=>(by cases h),fun h=> ?_⟩,fun b h=> ?_⟩
      ·have:=h x (by simp);rw [hp] at this;cases this
      ·obtain rfl:=Option.some.inj h
       refine ⟨⟨by simp [h0.1.1],h0.1.2⟩,fun e he hpe=> ?_⟩
       rcases List.mem_append.1 he with h1 | h1
       ·exact h0.2 e h1 hpe
       ·rw [List.mem_singleton.1 h1];omega
   ·rw [last1,if_neg (fun h=>hp h.1)]
    have hx:p x=false:=by simpa using hp
    refine ⟨ih1.trans ⟨fun h e he=> ?_,fun h e he=>h e (by simp [he])⟩,fun b h=> ?_⟩
    ·rcases List.mem_append.1 he with h1 | h1
     ·exact h e h1
     ·rw [List.mem_singleton.1 h1];exact hx
    ·have h0:=ih2 b h
     refine ⟨⟨by simp [h0.1.1],h0.1.2⟩,fun e he hpe=> ?_⟩
     rcases List.mem_append.1 he with h1 | h1
     ·exact h0.2 e h1 hpe
     ·rw [List.mem_singleton.1 h1,hx] at hpe;cases hpe) F.length F rfl
abbrev EvC:={e:Ev // 0<=e.day/\e.day<=65536}
def evc0:EvC:=⟨ev0,by decide⟩
abbrev tEvC (e:EvC):Ty:=tEv e.1
def kfD (e:EvC):Int:=e.1.day
end An
namespace An.S
open Go Go.Proofs An
instance ti29:TyI Tryz.prog 29 14 true:=⟨by kernel_rfl,by kernel_rfl⟩
instance ti132:TyI Tryz.prog 132 6 true:=⟨by kernel_rfl,by kernel_rfl⟩
instance sl22:SlI Tryz.prog 22 29 14 true:=⟨Tryz.underlying22,ti29⟩
instance fo29_0:FoI Tryz.prog 29 0 0:=⟨by kernel_rfl⟩
instance fo29_1:FoI Tryz.prog 29 1 1:=⟨by kernel_rfl⟩
instance fo29_2:FoI Tryz.prog 29 2 2:=⟨by kernel_rfl⟩
instance fo29_3:FoI Tryz.prog 29 3 3:=⟨by kernel_rfl⟩
instance fo29_4:FoI Tryz.prog 29 4 4:=⟨by kernel_rfl⟩
instance fo29_5:FoI Tryz.prog 29 5 5:=⟨by kernel_rfl⟩
instance fo29_6:FoI Tryz.prog 29 6 9:=⟨by kernel_rfl⟩
instance fo29_7:FoI Tryz.prog 29 7 13:=⟨by kernel_rfl⟩
instance fo132_0:FoI Tryz.prog 132 0 0:=⟨by kernel_rfl⟩
instance fo132_1:FoI Tryz.prog 132 1 1:=⟨by kernel_rfl⟩
instance fo132_2:FoI Tryz.prog 132 2 2:=⟨by kernel_rfl⟩
instance fo132_3:FoI Tryz.prog 132 3 3:=⟨by kernel_rfl⟩
instance fo132_4:FoI Tryz.prog 132 4 4:=⟨by kernel_rfl⟩
instance fo132_5:FoI Tryz.prog 132 5 5:=⟨by kernel_rfl⟩
instance fi53:FnI Tryz.prog 53:=⟨_,Tryz.func53,by kernel_rfl,rfl⟩
instance fi82:FnI Tryz.prog 82:=⟨_,Tryz.func82,by kernel_rfl,rfl⟩
instance fi83:FnI Tryz.prog 83:=⟨_,Tryz.func83,by kernel_rfl,rfl⟩
instance fi84:FnI Tryz.prog 84:=⟨_,Tryz.func84,by kernel_rfl,rfl⟩
instance fi85:FnI Tryz.prog 85:=⟨_,Tryz.func85,by kernel_rfl,rfl⟩
instance fi86:FnI Tryz.prog 86:=⟨_,Tryz.func86,by kernel_rfl,rfl⟩
instance fi137:FnI Tryz.prog 137:=⟨_,Tryz.func137,by kernel_rfl,rfl⟩
instance fi138:FnI Tryz.prog 138:=⟨_,Tryz.func138,by kernel_rfl,rfl⟩
theorem zr29:(Tryz.prog.info? 29).bind (·.zero)=some (.agg #[.int .u8 0,.int .i64 0,.int .i64 0,.int .i64 0,.int .i64 0,.bool false,.slice none 0 0,.bool false,.slice none 0 0,.bool false,.slice none 0 0,.bool false,.slice none 0 0,.int .i64 0])/\ ∀F w,(tS [⟨1,false,(tE (.int .u8 0))⟩,⟨1,false,(tE (.int .i64 0))⟩,⟨1,false,(tE (.int .i64 0))⟩,⟨1,false,(tE (.int .i64 0))⟩,⟨1,false,(tE (.int .i64 0))⟩,⟨4,true,(tS [⟨2,true,(tS [⟨1,false,(tE (.bool false))⟩,⟨1,false,(tLm [])⟩])⟩,⟨2,true,(tS [⟨1,false,(tE (.bool false))⟩,⟨1,false,(tLm [])⟩])⟩])⟩,⟨4,true,(tS [⟨2,true,(tS [⟨1,false,(tE (.bool false))⟩,⟨1,false,(tLm [])⟩])⟩,⟨2,true,(tS [⟨1,false,(tE (.bool false))⟩,⟨1,false,(tLm [])⟩])⟩])⟩,⟨1,false,(tE (.int .i64 0))⟩]).p F w (.agg #[.int .u8 0,.int .i64 0,.int .i64 0,.int .i64 0,.int .i64 0,.bool false,.slice none 0 0,.bool false,.slice none 0 0,.bool false,.slice none 0 0,.bool false,.slice none 0 0,.int .i64 0]):=⟨by kernel_rfl,fun _ _=>⟨_,rfl,rfl,⟨fun _=>rfl,rfl⟩,⟨fun _=>rfl,rfl⟩,⟨fun _=>rfl,rfl⟩,⟨fun _=>rfl,rfl⟩,⟨fun _=>rfl,rfl⟩,⟨fun h=>Bool.noConfusion h,⟨_,rfl,rfl,⟨fun h=>Bool.noConfusion h,⟨_,rfl,rfl,⟨fun _=>rfl,rfl⟩,⟨fun _=>rfl,⟨none,0,rfl,Nat.le_refl _,by decide,.inl rfl⟩⟩,trivial⟩⟩,⟨fun h=>Bool.noConfusion h,⟨_,rfl,rfl,⟨fun _=>rfl,rfl⟩,⟨fun _=>rfl,⟨none,0,rfl,Nat.le_refl _,by decide,.inl rfl⟩⟩,trivial⟩⟩,trivial⟩⟩,⟨fun h=>Bool.noConfusion h,⟨_,rfl,rfl,⟨fun h=>Bool.noConfusion h,⟨_,rfl,rfl,⟨fun _=>rfl,rfl⟩,⟨fun _=>rfl,⟨none,0,rfl,Nat.le_refl _,by decide,.inl rfl⟩⟩,trivial⟩⟩,⟨fun h=>Bool.noConfusion h,⟨_,rfl,rfl,⟨fun _=>rfl,rfl⟩,⟨fun _=>rfl,⟨none,0,rfl,Nat.le_refl _,by decide,.inl rfl⟩⟩,trivial⟩⟩,trivial⟩⟩,⟨fun _=>rfl,rfl⟩,trivial⟩⟩
theorem zr132:(Tryz.prog.info? 132).bind (·.zero)=some (.agg #[.bool false,.bool false,.bool false,.bool false,.bool false,.bool false])/\ ∀F w,(tS [⟨1,false,(tE (.bool false))⟩,⟨1,false,(tE (.bool false))⟩,⟨1,false,(tE (.bool false))⟩,⟨1,false,(tE (.bool false))⟩,⟨1,false,(tE (.bool false))⟩,⟨1,false,(tE (.bool false))⟩]).p F w (.agg #[.bool false,.bool false,.bool false,.bool false,.bool false,.bool false]):=⟨by kernel_rfl,fun _ _=>⟨_,rfl,rfl,⟨fun _=>rfl,rfl⟩,⟨fun _=>rfl,rfl⟩,⟨fun _=>rfl,rfl⟩,⟨fun _=>rfl,rfl⟩,⟨fun _=>rfl,rfl⟩,⟨fun _=>rfl,rfl⟩,trivial⟩⟩
theorem bu132:BuI Tryz.prog 132 (fun i=>[(0,1),(1,1),(2,1),(3,1),(4,1),(5,1)][i]?) (.agg #[.bool false,.bool false,.bool false,.bool false,.bool false,.bool false]):=BuI.struct Tryz.underlying132 (by kernel_rfl) (by kernel_rfl)
instance un22:UnI Tryz.prog 22 (.slice 29):=⟨Tryz.underlying22⟩
theorem short_1:short ((1:Int):Rat):=by decide+kernel
theorem cmpP {a b:Rat}:0 < cmpQ a b↔b < a:=by
 rw [cmpQ]
 split
 ·rename_i h
  exact ⟨fun hh=>absurd hh (by decide),fun hh=>absurd (Rat.le_of_lt hh) (Rat.not_le.2 h)⟩
 ·rename_i h
  split
  ·rename_i h2
   subst h2
   exact ⟨fun hh=>absurd hh (by decide),fun hh=>absurd hh Rat.lt_irrefl⟩
  ·rename_i h2
   refine ⟨fun _=> ?_,fun _=>by decide⟩
   rcases Rat.le_iff_lt_or_eq.1 (Rat.not_lt.1 h) with h3 | h3
   ·exact h3
   ·exact absurd h3.symm h2
theorem c_FCmpP (f:Fr) (hf:f.dig) (hv:f.valid=true):Ct Tryz.prog 85 [tFr f,tFr (fr ((1:Int):Rat))] (tI (cmpQ f.rat ((1:Int):Rat))):=by
 obtain ⟨e,s⟩:=Fr.of_valid' hf hv
 have h:=c_FCmp f.rat ((1:Int):Rat) s short_1
 rw [<-e] at h;exact h
theorem xOk_mk {x:Ev} {i:Nat} (h1:(decide (1<=x.knd) && decide (x.knd<=7))=true) (ha:0<=x.kn) (hb:x.kn < 65536) (h2:eNum (uJob x.knd) x.job 1 8=true) (h3:eNum (uDay x.knd) x.day 0 65535=true) (h4:eNum (uTo x.knd) x.hi (x.day+1) 65536=true) (h5:eNum (uOf x.knd) x.nr 1 i=true) (h6:eFrc (uPart x.knd) x.part=true) (h7:eFrc (uPay x.knd) x.pay=true)
  (hp:uPart x.knd=false∨x.knd=6∨ ¬1 < x.part.rat):xOk x i=true:=by
 have hq:(uPart x.knd && decide (x.knd≠6) && decide (1 < x.part.rat))=false:=by
  rcases hp with h | h | h
  ·rw [h];rfl
  ·rw [decide_eq_false (fun hh=>hh h),Bool.and_false];rfl
  ·rw [decide_eq_false h,Bool.and_false]
 rw [xOk,h1,h2,h3,h4,h5,h6,h7,hq,decide_eq_true ha,decide_eq_true hb];rfl
theorem eFrc_valid {u:Bool} {f:Fr} (h:eFrc u f=true) (hu:u=true):f.valid=true:=by
 rw [eFrc,if_pos hu,eExact,Bool.and_eq_true,Bool.and_eq_true,Bool.and_eq_true] at h
 exact h.1.1.1
abbrev tUs (k:Nat):Ty:=tS [⟨1,false,tB (uJob k)⟩,⟨1,false,tB (uDay k)⟩,⟨1,false,tB (uTo k)⟩,⟨1,false,tB (uPart k)⟩,⟨1,false,tB (uPay k)⟩,⟨1,false,tB (uOf k)⟩]
theorem c_fields (k:Nat):
  Ct Tryz.prog 82 [tE (.int .u8 (k:Int))] (tT [tUs k,tB (decide (1<=k) && decide (k<=7))]):=by
 refine Ct.intro Tryz.func82 rfl Tryz.ntmps82 rfl ?_
 intro w F
 refine A2 ?_
 refine RE (x7 (k:=2) (n:=6) (agg:=true) zr132.1 zr132.2 rfl) trivial trivial qA ?_
 refine A16 ?_
 refine x6 rfl (fun h18=> ?_) (fun h18=> ?_)
 ·
  refine A2 ?_
  refine Rt (xb0 (r:=tS [⟨1,false,tB true⟩,⟨1,false,tB true⟩,⟨1,false,(tE (.bool false))⟩,⟨1,false,tB true⟩,⟨1,false,tB true⟩,⟨1,false,(tE (.bool false))⟩]) (ts:=[(0,tB true),(1,tB true),(3,tB true),(4,tB true)]) bu132 zr132.2 (Bc 0 rfl rfl rfl (Bc 1 rfl rfl rfl (Bc 3 rfl rfl rfl (Bc 4 rfl rfl rfl Le.refl))))) qD ?_
  refine A7 ?_
  exact EN (rs:=[.cell 2 132,.tmp 3]) rfl rfl ⟨⟨_,_,_,_,_,rfl,rfl,ti132,(Le.of (by rw [show k=1 by omega];rfl))⟩,⟨_,rfl,(Le.bool (by rw [show k=1 by omega];rfl))⟩,trivial⟩
 ·
  refine A6 ?_
  refine x6 rfl (fun h20=> ?_) (fun h20=> ?_)
  ·
   refine A2 ?_
   refine R2 (xb0 (r:=tS [⟨1,false,tB true⟩,⟨1,false,tB true⟩,⟨1,false,(tE (.bool false))⟩,⟨1,false,(tE (.bool false))⟩,⟨1,false,(tE (.bool false))⟩,⟨1,false,(tE (.bool false))⟩]) (ts:=[(0,tB true),(1,tB true)]) bu132 zr132.2 (Bc 0 rfl rfl rfl (Bc 1 rfl rfl rfl Le.refl))) rfl rfl ?_
   refine A7 ?_
   exact EN (rs:=[.cell 2 132,.tmp 3]) rfl rfl ⟨⟨_,_,_,_,_,rfl,rfl,ti132,(Le.of (by rw [show k=2 by omega];rfl))⟩,⟨_,rfl,(Le.bool (by rw [show k=2 by omega];rfl))⟩,trivial⟩
  ·
   refine A6 ?_
   refine x6 rfl (fun h22=> ?_) (fun h22=> ?_)
   ·
    refine A2 ?_
    refine Rt (xb0 (r:=tS [⟨1,false,tB true⟩,⟨1,false,tB true⟩,⟨1,false,tB true⟩,⟨1,false,tB true⟩,⟨1,false,(tE (.bool false))⟩,⟨1,false,(tE (.bool false))⟩]) (ts:=[(0,tB true),(1,tB true),(2,tB true),(3,tB true)]) bu132 zr132.2 (Bc 0 rfl rfl rfl (Bc 1 rfl rfl rfl (Bc 2 rfl rfl rfl (Bc 3 rfl rfl rfl Le.refl))))) qD ?_
    refine A7 ?_
    exact EN (rs:=[.cell 2 132,.tmp 3]) rfl rfl ⟨⟨_,_,_,_,_,rfl,rfl,ti132,(Le.of (by rw [show k=3 by omega];rfl))⟩,⟨_,rfl,(Le.bool (by rw [show k=3 by omega];rfl))⟩,trivial⟩
   ·
    refine A6 ?_
    refine x6 rfl (fun h24=> ?_) (fun h24=> ?_)
    ·
     refine A2 ?_
     refine R3 (xb0 (r:=tS [⟨1,false,tB true⟩,⟨1,false,tB true⟩,⟨1,false,(tE (.bool false))⟩,⟨1,false,(tE (.bool false))⟩,⟨1,false,tB true⟩,⟨1,false,(tE (.bool false))⟩]) (ts:=[(0,tB true),(1,tB true),(4,tB true)]) bu132 zr132.2 (Bc 0 rfl rfl rfl (Bc 1 rfl rfl rfl (Bc 4 rfl rfl rfl Le.refl)))) rfl rfl rfl ?_
     refine A7 ?_
     exact EN (rs:=[.cell 2 132,.tmp 3]) rfl rfl ⟨⟨_,_,_,_,_,rfl,rfl,ti132,(Le.of (by rw [show k=4 by omega];rfl))⟩,⟨_,rfl,(Le.bool (by rw [show k=4 by omega];rfl))⟩,trivial⟩
    ·
     refine A6 ?_
     refine x6 rfl (fun h26=> ?_) (fun h26=> ?_)
     ·
      refine A2 ?_
      refine R3 (xb0 (r:=tS [⟨1,false,tB true⟩,⟨1,false,tB true⟩,⟨1,false,tB true⟩,⟨1,false,(tE (.bool false))⟩,⟨1,false,(tE (.bool false))⟩,⟨1,false,(tE (.bool false))⟩]) (ts:=[(0,tB true),(1,tB true),(2,tB true)]) bu132 zr132.2 (Bc 0 rfl rfl rfl (Bc 1 rfl rfl rfl (Bc 2 rfl rfl rfl Le.refl)))) rfl rfl rfl ?_
      refine A7 ?_
      exact EN (rs:=[.cell 2 132,.tmp 3]) rfl rfl ⟨⟨_,_,_,_,_,rfl,rfl,ti132,(Le.of (by rw [show k=5 by omega];rfl))⟩,⟨_,rfl,(Le.bool (by rw [show k=5 by omega];rfl))⟩,trivial⟩
     ·
      refine A6 ?_
      refine x6 rfl (fun h28=> ?_) (fun h28=> ?_)
      ·
       refine A2 ?_
       refine R2 (xb0 (r:=tS [⟨1,false,(tE (.bool false))⟩,⟨1,false,tB true⟩,⟨1,false,(tE (.bool false))⟩,⟨1,false,tB true⟩,⟨1,false,(tE (.bool false))⟩,⟨1,false,(tE (.bool false))⟩]) (ts:=[(1,tB true),(3,tB true)]) bu132 zr132.2 (Bc 1 rfl rfl rfl (Bc 3 rfl rfl rfl Le.refl))) rfl rfl ?_
       refine A7 ?_
       exact EN (rs:=[.cell 2 132,.tmp 3]) rfl rfl ⟨⟨_,_,_,_,_,rfl,rfl,ti132,(Le.of (by rw [show k=6 by omega];rfl))⟩,⟨_,rfl,(Le.bool (by rw [show k=6 by omega];rfl))⟩,trivial⟩
      ·
       refine A6 ?_
       refine x6 rfl (fun h30=> ?_) (fun h30=> ?_)
       ·
        refine A2 ?_
        refine R1 (xb0 (r:=tS [⟨1,false,(tE (.bool false))⟩,⟨1,false,(tE (.bool false))⟩,⟨1,false,(tE (.bool false))⟩,⟨1,false,(tE (.bool false))⟩,⟨1,false,(tE (.bool false))⟩,⟨1,false,tB true⟩]) (ts:=[(5,tB true)]) bu132 zr132.2 (Bc 5 rfl rfl rfl Le.refl)) rfl ?_
        refine A7 ?_
        exact EN (rs:=[.cell 2 132,.tmp 3]) rfl rfl ⟨⟨_,_,_,_,_,rfl,rfl,ti132,(Le.of (by rw [show k=7 by omega];rfl))⟩,⟨_,rfl,(Le.bool (by rw [show k=7 by omega];rfl))⟩,trivial⟩
       ·
        refine A5 ?_
        refine R0 (xb0 (r:=tS [⟨1,false,(tE (.bool false))⟩,⟨1,false,(tE (.bool false))⟩,⟨1,false,(tE (.bool false))⟩,⟨1,false,(tE (.bool false))⟩,⟨1,false,(tE (.bool false))⟩,⟨1,false,(tE (.bool false))⟩]) (ts:=[]) bu132 zr132.2 Le.refl) ?_
        refine A5 ?_
        exact EN (rs:=[.cell 2 132,.tmp 3]) rfl rfl ⟨⟨_,_,_,_,_,rfl,rfl,ti132,(Le.of (by simp only [tUs,uJob,uDay,uTo,uPart,uPay,uOf];congr <;> simp <;> omega))⟩,⟨_,rfl,(Le.bool (by simp;omega))⟩,trivial⟩
theorem c_blank (w:Wh):
  Ct Tryz.prog 137 [tWh w] (tB (!w.neg && decide (w.l.length=0))):=by
 refine Ct.intro Tryz.func137 rfl Tryz.ntmps137 rfl ?_
 intro w F
 refine A12 ?_
 refine RGcase (t:=6) rfl (fun h38=> ?_) (fun h38=> ?_)
 ·
  refine A9 ?_
  exact E1 rfl rfl (Le.bool (by simp [*]))
 ·
  refine A9 ?_
  exact E1 rfl rfl (Le.bool (by simp [*]))
theorem c_exact (f:Fr) (hD:f.dig):
  Ct Tryz.prog 138 [tFr f] (tB (eExact f)):=by
 refine Ct.intro Tryz.func138 rfl Tryz.ntmps138 rfl ?_
 intro w F
 refine A9 ?_
 refine R1 (x3 (c_FValid f hD.1 hD.2) fi94 rfl) rfl ?_
 refine A1 ?_
 refine RGcase (t:=5) rfl (fun h43=> ?_) (fun h43=> ?_)
 ·
  refine A2 ?_
  refine xb2 h43 rfl rfl (0) ti4 rfl rfl rfl (At.t (At.g 0 rfl rfl) (At.g 0 rfl rfl)) rfl ?_
  refine A3 ?_
  refine RGcase (t:=11) rfl (fun h43_2=> ?_) (fun h43_2=> ?_)
  ·
   refine A2 ?_
   refine xb2 h43_2 rfl rfl (0) ti23 rfl rfl rfl (At.t (At.g 0 rfl rfl) (At.g 1 rfl rfl)) rfl ?_
   refine A4 ?_
   refine RGcaseD (t:=18) rfl (fun h43_3=> ?_) (fun h43_3=> ?_)
   ·
    refine A2 ?_
    refine xb2 (decide_eq_true h43_3) rfl rfl (0) ti23 rfl rfl rfl (At.t (At.g 1 rfl rfl) (At.g 1 rfl rfl)) rfl ?_
    refine A7 ?_
    exact E1 rfl rfl (Le.bool (by rw [eExact];first | (rw [decide_eq_true (show f.n.l.length<=2 by omega)];simp [*];done) | (rw [decide_eq_true (show f.n.l.length<=2 by omega)];simp [*];omega) | (rw [decide_eq_false (show ¬f.n.l.length<=2 by omega)];simp [*];done) | (simp [*];done)))
   ·
    refine A10 ?_
    exact E1 rfl rfl (Le.bool (by rw [eExact];first | (rw [decide_eq_true (show f.n.l.length<=2 by omega)];simp [*];done) | (rw [decide_eq_true (show f.n.l.length<=2 by omega)];simp [*];omega) | (rw [decide_eq_false (show ¬f.n.l.length<=2 by omega)];simp [*];done) | (simp [*];done)))
  ·
   refine A17 ?_
   exact E1 rfl rfl (Le.bool (by rw [eExact];first | (rw [decide_eq_true (show f.n.l.length<=2 by omega)];simp [*];done) | (rw [decide_eq_true (show f.n.l.length<=2 by omega)];simp [*];omega) | (rw [decide_eq_false (show ¬f.n.l.length<=2 by omega)];simp [*];done) | (simp [*];done)))
 ·
  refine A18 ?_
  refine A5 ?_
  exact E1 rfl rfl (Le.bool (by rw [eExact];first | (rw [decide_eq_true (show f.n.l.length<=2 by omega)];simp [*];done) | (rw [decide_eq_true (show f.n.l.length<=2 by omega)];simp [*];omega) | (rw [decide_eq_false (show ¬f.n.l.length<=2 by omega)];simp [*];done) | (simp [*];done)))
theorem c_number (u:Bool) (n lo hi:Int):
  Ct Tryz.prog 83 [tB u,tI n,tI lo,tI hi] (tB (eNum u n lo hi)):=by
 refine Ct.intro Tryz.func83 rfl Tryz.ntmps83 rfl ?_
 intro w F
 refine A12 ?_
 refine xc2 rfl (fun h48=> ?_) (fun h48=> ?_)
 ·
  refine A9 ?_
  exact E1 rfl rfl (Le.bool (by rw [eNum,if_neg (by simpa using h48)]))
 ·
  refine A8 ?_
  refine RGcaseD (t:=16) rfl (fun h51=> ?_) (fun h51=> ?_)
  ·
   refine A8 ?_
   exact E1 rfl rfl (Le.bool (by rw [eNum,if_pos (by simpa using h48)];simp [*]))
  ·
   refine A8 ?_
   exact E1 rfl rfl (Le.bool (by rw [eNum,if_pos (by simpa using h48)];simp [*]))
theorem c_fraction (u:Bool) (f:Fr) (hD:f.dig):
  Ct Tryz.prog 84 [tB u,tFr f] (tB (eFrc u f)):=by
 refine Ct.intro Tryz.func84 rfl Tryz.ntmps84 rfl ?_
 intro w F
 refine A13 ?_
 refine xc2 rfl (fun h56=> ?_) (fun h56=> ?_)
 ·
  refine A4 ?_
  refine R1 (x3 (c_blank f.n) fi137 rfl) rfl ?_
  refine A1 ?_
  refine RGcase (t:=10) rfl (fun h57=> ?_) (fun h57=> ?_)
  ·
   refine A2 ?_
   refine Rg h57 rfl (x3 (c_blank f.d) fi137 rfl) rfl qA ?_
   refine A6 ?_
   exact E1 rfl rfl (Le.bool (by rw [eFrc,if_neg (by simpa using h56),eBlank,h57,Bool.true_and]))
  ·
   refine A9 ?_
   exact E1 rfl rfl (Le.bool (by rw [eFrc,if_neg (by simpa using h56),eBlank,h57,Bool.false_and]))
 ·
  refine A5 ?_
  refine R1 (x3 (c_exact f hD) fi138 rfl) rfl ?_
  refine A4 ?_
  exact E1 rfl rfl (Le.bool (by rw [eFrc,if_pos (by simpa using h56)]))
theorem c_eRight (l:List Ev) (i:Nat) (hi:i < l.length) (hl:l.length<=100) (hD: ∀e∈l,e.part.dig/\e.pay.dig):
  Ct Tryz.prog 53 [tL 14 true tEv l,tI i] (tB (eRight l i)):=by
 have hd:=hD _ (xe8 hi)
 refine Ct.intro Tryz.func53 rfl Tryz.ntmps53 rfl ?_
 intro w F
 refine A9 ?_
 refine R2 (x4 sl22 (i) (by omega) (gD (l:=l) (n:=i) (d:=ev0) (by omega))) rfl rfl ?_
 refine A1 ?_
 refine RE (x7 (k:=5) (n:=14) (agg:=true) zr29.1 zr29.2 rfl) trivial trivial qA ?_
 refine A7 ?_
 refine R1 (x3 (c_fields (l.getD i ev0).knd) fi82 rfl) rfl ?_
 refine A3 ?_
 refine RE (x7 (k:=6) (n:=6) (agg:=true) zr132.1 zr132.2 rfl) trivial trivial qA ?_
 refine A10 ?_
 refine RGcase (t:=20) rfl (fun h66=> ?_) (fun h66=> ?_)
 ·
  refine A18 ?_
  refine A1 ?_
  exact E1 rfl rfl (Le.bool (Bool.eq_false_iff.2 fun hr=>by have ho:=xf2.1 hr;have:=ho.k1;have:=ho.k2;have:=ho.n1;have:=ho.n2;first | omega | (rw [decide_eq_true ho.k1,decide_eq_true ho.k2] at h66;cases h66)).symm)
 ·
  refine A5 ?_
  refine RGcaseD (t:=25) rfl (fun h66_2=> ?_) (fun h66_2=> ?_)
  ·
   refine A14 ?_
   exact E1 rfl rfl (Le.bool (Bool.eq_false_iff.2 fun hr=>by have ho:=xf2.1 hr;have:=ho.k1;have:=ho.k2;have:=ho.n1;have:=ho.n2;first | omega | (rw [decide_eq_true ho.k1,decide_eq_true ho.k2] at h66;cases h66)).symm)
  ·
   refine A6 ?_
   refine x6 rfl (fun h66_3=> ?_) (fun h66_3=> ?_)
   ·
    refine A7 ?_
    exact E1 rfl rfl (Le.bool (Bool.eq_false_iff.2 fun hr=>by have ho:=xf2.1 hr;have:=ho.k1;have:=ho.k2;have:=ho.n1;have:=ho.n2;first | omega | (rw [decide_eq_true ho.k1,decide_eq_true ho.k2] at h66;cases h66)).symm)
   ·
    refine A9 ?_
    refine Rt (x3 (c_number (uJob (l.getD i ev0).knd) (l.getD i ev0).job 1 8) fi83 rfl) qD ?_
    refine A2 ?_
    refine RGcase (t:=36) rfl (fun h69=> ?_) (fun h69=> ?_)
    ·
     refine A17 ?_
     exact E1 rfl rfl (Le.bool (Bool.eq_false_iff.2 fun hr=>by have ho:=xf2.1 hr;rw [ho.jb] at h69;cases h69).symm)
    ·
     refine A4 ?_
     refine Rg h69 rfl (x3 (c_number (uDay (l.getD i ev0).knd) (l.getD i ev0).day 0 65535) fi83 rfl) rfl qD ?_
     refine A4 ?_
     refine xc2 rfl (fun h69_2=> ?_) (fun h69_2=> ?_)
     ·
      refine A7 ?_
      exact E1 rfl rfl (Le.bool (Bool.eq_false_iff.2 fun hr=>by have ho:=xf2.1 hr;rw [ho.dy] at h69_2;cases h69_2).symm)
     ·
      refine A4 ?_
      have hdy:0<=(l.getD i ev0).day/\(l.getD i ev0).day<=65535:=by
       cases hu:uDay (l.getD i ev0).knd with
       | true=>exact xp9 (lo:=0) (hi:=65535) (by simpa using h69_2) hu
       | false=>
        have h0:(l.getD i ev0).day=0:=eNum_no (lo:=0) (hi:=65535) (by simpa using h69_2) hu
        omega
      refine A8 ?_
      refine Rt (x3 (c_number (uTo (l.getD i ev0).knd) (l.getD i ev0).hi ((l.getD i ev0).day+1) 65536) fi83 rfl) qD ?_
      refine A2 ?_
      refine RGcase (t:=53) rfl (fun h72=> ?_) (fun h72=> ?_)
      ·
       refine A18 ?_
       exact E1 rfl rfl (Le.bool (Bool.eq_false_iff.2 fun hr=>by have ho:=xf2.1 hr;rw [ho.up] at h72;cases h72).symm)
      ·
       refine A3 ?_
       refine xb2 h72 rfl rfl (0) ti3 rfl rfl rfl (At.g 7 rfl rfl) rfl ?_
       refine A1 ?_
       refine Rg h72 rfl (x3 (c_number (uOf (l.getD i ev0).knd) (l.getD i ev0).nr 1 i) fi83 rfl) rfl qD ?_
       refine A4 ?_
       refine xc2 rfl (fun h72_2=> ?_) (fun h72_2=> ?_)
       ·
        refine A7 ?_
        exact E1 rfl rfl (Le.bool (Bool.eq_false_iff.2 fun hr=>by have ho:=xf2.1 hr;rw [ho.nm] at h72_2;cases h72_2).symm)
       ·
        refine A9 ?_
        refine R2 (x3 (c_fraction (uPart (l.getD i ev0).knd) (l.getD i ev0).part hd.1) fi84 rfl) rfl rfl ?_
        refine A2 ?_
        refine RGcase (t:=68) rfl (fun h75=> ?_) (fun h75=> ?_)
        ·
         refine A17 ?_
         exact E1 rfl rfl (Le.bool (Bool.eq_false_iff.2 fun hr=>by have ho:=xf2.1 hr;rw [ho.pt] at h75;cases h75).symm)
        ·
         refine A4 ?_
         refine Rg h75 rfl (x3 (c_fraction (uPay (l.getD i ev0).knd) (l.getD i ev0).pay hd.2) fi84 rfl) rfl qB ?_
         refine A4 ?_
         refine xc2 rfl (fun h75_2=> ?_) (fun h75_2=> ?_)
         ·
          refine A7 ?_
          exact E1 rfl rfl (Le.bool (Bool.eq_false_iff.2 fun hr=>by have ho:=xf2.1 hr;rw [ho.py] at h75_2;cases h75_2).symm)
         ·
          refine A8 ?_
          refine RGcase (t:=78) rfl (fun h78=> ?_) (fun h78=> ?_)
          ·
           refine A5 ?_
           refine RGcaseD (t:=83) rfl (fun h78_2=> ?_) (fun h78_2=> ?_)
           ·
            refine A2 ?_
            refine Rg (decide_eq_true h78_2) rfl (x3 (xm5 1 (by decide) (by decide)) fi86 rfl) rfl qA (Rg (decide_eq_true h78_2) rfl (x3 (c_FCmpP (l.getD i ev0).part hd.1 (eFrc_valid (by simpa using h75) h78)) fi85 rfl) rfl qB ?_)
            refine A4 ?_
            refine x6 rfl (fun h78_3=> ?_) (fun h78_3=> ?_)
            ·
             refine A7 ?_
             exact E1 rfl rfl (Le.bool (Bool.eq_false_iff.2 fun hr=>by have ho:=xf2.1 hr;exact ho.p1 h78 (by omega) (cmpP.1 (by omega))).symm)
            ·
             refine A3 ?_
             have hx:xOk (l.getD i ev0) i=true:=xOk_mk (by simpa using h66) (by omega) (by omega) (by simpa using h69) (by simpa using h69_2) (by simpa using h72) (by simpa using h72_2) (by simpa using h75) (by simpa using h75_2) (by first | (exact .inl (by simpa using h78)) | (exact .inr (.inl (by omega))) | (exact .inr (.inr fun hh=>absurd (cmpP.2 hh) (by assumption))))
             refine A5 ?_
             refine RGcase (t:=93) rfl (fun h81=> ?_) (fun h81=> ?_)
             ·
              refine A15 ?_
              exact E1 rfl rfl (Le.bool (by rw [eRight,hx];first | (rw [show uOf (l.getD i ev0).knd=false by simpa using h81];rfl) | (rw [show uOf (l.getD i ev0).knd=true by simpa using h81];rfl)))
             ·
              refine A2 ?_
              refine xb2 h81 rfl rfl (0) ti3 rfl rfl rfl (At.g 7 rfl rfl) rfl ?_
              have hnr:=xp9 (lo:=1) (hi:=(i:Int)) (n:=(l.getD i ev0).nr) (by simpa using h72_2) (by simpa using h81)
              refine Rg h81 rfl (xd6 (wr64 (by omega) (by omega))) rfl ⟨rfl,rfl,trivial⟩ (Rg h81 rfl (x4 sl22 (((l.getD i ev0).nr - 1).toNat) (by omega) (gD (l:=l) (n:=((l.getD i ev0).nr - 1).toNat) (d:=ev0) (by omega))) rfl ⟨rfl,rfl,trivial⟩ (Rg h81 rfl (xf3 fo29_1.h (At.f 1 rfl rfl) rfl) rfl ⟨rfl,trivial⟩ ?_))
              refine A9 ?_
              exact E1 rfl rfl (Le.bool (by rw [eRight,hx];first | (rw [show uOf (l.getD i ev0).knd=false by simpa using h81];rfl) | (rw [show uOf (l.getD i ev0).knd=true by simpa using h81];rfl)))
           ·
            refine A12 ?_
            have hx:xOk (l.getD i ev0) i=true:=xOk_mk (by simpa using h66) (by omega) (by omega) (by simpa using h69) (by simpa using h69_2) (by simpa using h72) (by simpa using h72_2) (by simpa using h75) (by simpa using h75_2) (by first | (exact .inl (by simpa using h78)) | (exact .inr (.inl (by omega))) | (exact .inr (.inr fun hh=>absurd (cmpP.2 hh) (by assumption))))
            refine A5 ?_
            refine RGcase (t:=93) rfl (fun h81=> ?_) (fun h81=> ?_)
            ·
             refine A15 ?_
             exact E1 rfl rfl (Le.bool (by rw [eRight,hx];first | (rw [show uOf (l.getD i ev0).knd=false by simpa using h81];rfl) | (rw [show uOf (l.getD i ev0).knd=true by simpa using h81];rfl)))
            ·
             refine A2 ?_
             refine xb2 h81 rfl rfl (0) ti3 rfl rfl rfl (At.g 7 rfl rfl) rfl ?_
             have hnr:=xp9 (lo:=1) (hi:=(i:Int)) (n:=(l.getD i ev0).nr) (by simpa using h72_2) (by simpa using h81)
             refine Rg h81 rfl (xd6 (wr64 (by omega) (by omega))) rfl ⟨rfl,rfl,trivial⟩ (Rg h81 rfl (x4 sl22 (((l.getD i ev0).nr - 1).toNat) (by omega) (gD (l:=l) (n:=((l.getD i ev0).nr - 1).toNat) (d:=ev0) (by omega))) rfl ⟨rfl,rfl,trivial⟩ (Rg h81 rfl (xf3 fo29_1.h (At.f 1 rfl rfl) rfl) rfl ⟨rfl,trivial⟩ ?_))
             refine A9 ?_
             exact E1 rfl rfl (Le.bool (by rw [eRight,hx];first | (rw [show uOf (l.getD i ev0).knd=false by simpa using h81];rfl) | (rw [show uOf (l.getD i ev0).knd=true by simpa using h81];rfl)))
          ·
           refine A17 ?_
           have hx:xOk (l.getD i ev0) i=true:=xOk_mk (by simpa using h66) (by omega) (by omega) (by simpa using h69) (by simpa using h69_2) (by simpa using h72) (by simpa using h72_2) (by simpa using h75) (by simpa using h75_2) (by first | (exact .inl (by simpa using h78)) | (exact .inr (.inl (by omega))) | (exact .inr (.inr fun hh=>absurd (cmpP.2 hh) (by assumption))))
           refine A5 ?_
           refine RGcase (t:=93) rfl (fun h81=> ?_) (fun h81=> ?_)
           ·
            refine A15 ?_
            exact E1 rfl rfl (Le.bool (by rw [eRight,hx];first | (rw [show uOf (l.getD i ev0).knd=false by simpa using h81];rfl) | (rw [show uOf (l.getD i ev0).knd=true by simpa using h81];rfl)))
           ·
            refine A2 ?_
            refine xb2 h81 rfl rfl (0) ti3 rfl rfl rfl (At.g 7 rfl rfl) rfl ?_
            have hnr:=xp9 (lo:=1) (hi:=(i:Int)) (n:=(l.getD i ev0).nr) (by simpa using h72_2) (by simpa using h81)
            refine Rg h81 rfl (xd6 (wr64 (by omega) (by omega))) rfl ⟨rfl,rfl,trivial⟩ (Rg h81 rfl (x4 sl22 (((l.getD i ev0).nr - 1).toNat) (by omega) (gD (l:=l) (n:=((l.getD i ev0).nr - 1).toNat) (d:=ev0) (by omega))) rfl ⟨rfl,rfl,trivial⟩ (Rg h81 rfl (xf3 fo29_1.h (At.f 1 rfl rfl) rfl) rfl ⟨rfl,trivial⟩ ?_))
            refine A9 ?_
            exact E1 rfl rfl (Le.bool (by rw [eRight,hx];first | (rw [show uOf (l.getD i ev0).knd=false by simpa using h81];rfl) | (rw [show uOf (l.getD i ev0).knd=true by simpa using h81];rfl)))
theorem c_EValid (l:List Ev) (hD: ∀e∈l,e.part.dig/\e.pay.dig):
  Ct Tryz.prog 11 [tL 14 true tEv l] (tB (eVal l)):=by
 refine Ct.intro Tryz.func11 rfl Tryz.ntmps11 rfl ?_
 intro w F
 refine xg9 (s:=0) rfl (fun hl0=> ?_)
 refine A13 ?_
 refine x6 rfl (fun h86=> ?_) (fun h86=> ?_)
 ·
  refine A7 ?_
  exact E1 rfl rfl (Le.bool (by rw [eVal,decide_eq_false (by omega)];rfl))
 ·
  refine A11 ?_
  refine cL (fun (i:Nat)=>i<=l.length/\(List.range i).all (eRight l)=true) (fun (i:Nat)=>uV (uV (uV uN 0 (tL 14 true tEv l)) 8 (tI l.length)) 9 (tI i)) (fun (i:Nat)=>fun _=>none) [] (fun (i:Nat)=>l.length - i) (0) ⟨Nat.zero_le _,rfl⟩ ?_
  intro i hI
  obtain ⟨hi,ha⟩:=hI
  refine A6 ?_
  refine x6 rfl (fun h89=> ?_) (fun h89=> ?_)
  ·
   refine A14 ?_
   refine R2 (x3 (c_eRight l i (by omega) (by omega) hD) fi53 rfl) rfl rfl ?_
   refine A3 ?_
   refine xc2 rfl (fun h90=> ?_) (fun h90=> ?_)
   ·
    refine A11 ?_
    exact E1 rfl rfl (Le.bool (by rw [eVal,xv4 (i:=i) (by omega) (by simpa using h90),Bool.and_false]))
   ·
    refine A7 ?_
    exact kF (i+1) ⟨⟨by omega,by rw [xp6,ha,show eRight l i=true by simpa using h90];rfl⟩,(by omega)⟩
  ·
   refine A11 ?_
   exact E1 rfl rfl (Le.bool (by rw [eVal,decide_eq_true (by omega),show l.length=i by omega,ha];rfl))
end An.S
namespace An
open Go An.S
def pHire (job d:Int) (e:Ev):Bool:=decide (e.job=job) && decide (e.day<=d) && (decide (e.knd=1) || decide (e.knd=2))
def pIdle (job d:Int) (e:Ev):Bool:=decide (e.knd=5) && decide (e.job=job) && decide (e.day<=d) && decide (d < e.hi)
def pHours (h:Ev) (d:Int) (e:Ev):Bool:=decide (e.knd=3) && decide (e.job=h.job) && decide (h.day<=e.day) && decide (e.day<=d) && decide (d < e.hi)
def pPay (h:Ev) (d:Int) (e:Ev):Bool:=decide (e.knd=4) && decide (e.job=h.job) && decide (h.day<=e.day) && decide (e.day<=d)
def hireE (F:List Ev) (job d:Int):Option Ev:=match lastE (pHire job d) F with
 | some e=>if e.knd=1 then some e else none
 | none=>none
def idleE (F:List Ev) (job d:Int):Bool:=(lastE (pIdle job d) F).isSome
def partE (F:List Ev) (h:Ev) (d:Int):Fr:=if idleE F h.job d=true then fr ((0:Int):Rat) else match lastE (pHours h d) F with
 | some e=>e.part
 | none=>h.part
def payE (F:List Ev) (h:Ev) (d:Int):Fr:=if idleE F h.job d=true then fr ((0:Int):Rat) else match lastE (pPay h d) F with
 | some e=>e.pay
 | none=>h.pay
def addJ (f:List Ev->Ev->Int->Fr) (F:List Ev) (d:Int) (job:Nat):Rat:=match hireE F (job:Int) d with
 | some h=>(f F h d).rat
 | none=>((0:Int):Rat)
def sumQ (f:List Ev->Ev->Int->Fr) (F:List Ev) (d:Int):Nat->Rat
 | 0=>((0:Int):Rat)
 | j+1=>sumQ f F d j+addJ f F d (j+1)
def heldQ (F:List Ev) (d:Int):Nat->Bool
 | 0=>false
 | j+1=>heldQ F d j || (hireE F ((j+1:Nat):Int) d).isSome
def oneQ (q:Rat):Rat:=if ((1:Int):Rat) < q then ((1:Int):Rat) else q
def fteQ (F:List Ev) (d:Int):Option Rat:=if heldQ F d 8=true then some (oneQ (sumQ partE F d 8)) else none
def payQ (F:List Ev) (d:Int):Option Rat:=if heldQ F d 8=true then some (sumQ payE F d 8) else none
def crdL (F:List Ev) (d:Int):List Ev:=F.filter fun e=>decide (e.knd=6) && decide (e.day<=d)
def crdQ (F:List Ev) (d:Int):Option Rat:=if (crdL F d).isEmpty=true then none else some ((crdL F d).foldl (fun q e=>q+e.part.rat) ((0:Int):Rat))
def kQ (K:Nat) (F:List Ev) (d:Int):Option Rat:=match K with
 | 0=>crdQ F d
 | 1=>fteQ F d
 | _=>payQ F d
def kK (K:Nat):Nat:=if K=2 then 3 else 2
def kG (K:Nat) (F:List Ev) (d:Int):Option Va:=(kQ K F d).map fun q=>⟨kK K,fr q,0⟩
def dyE (e:Ev):List Int:=if e.knd=7 then [] else e.day::if 0 < e.hi/\e.hi < 65536 then [e.hi] else []
def dyF (F:List Ev):List Int:=brd (F.flatMap dyE)
def dyC (F:List Ev):List Int:=brd ((F.filter fun e=>decide (e.knd=6)).map (·.day))
def kD (K:Nat) (F:List Ev):List Int:=if K=0 then dyC F else dyF F
def mT (K:Nat) (F:List Ev):List Tst:=pst [] (segL (kG K F) (kD K F++[65536]))
theorem kD_pw {K:Nat} {F:List Ev}:(kD K F).Pairwise (· < ·):=by rw [kD];split <;> exact (xh2 _).1
theorem dyE_mem {e:Ev} {x:Int}:x∈dyE e↔e.knd≠7/\(x=e.day∨(x=e.hi/\0 < e.hi/\e.hi < 65536)):=by
 rw [dyE]
 split
 ·rename_i h;exact ⟨fun h'=>absurd h' List.not_mem_nil,fun h'=>absurd h h'.1⟩
 ·rename_i h
  split
  ·rename_i g
   simp only [List.mem_cons,List.not_mem_nil,or_false]
   constructor
   ·rintro (a | a)
    ·exact ⟨h,.inl a⟩
    ·exact ⟨h,.inr ⟨a,g⟩⟩
   ·rintro ⟨_,a | a⟩
    ·exact .inl a
    ·exact .inr a.1
  ·rename_i g
   simp only [List.mem_cons,List.not_mem_nil,or_false]
   exact ⟨fun a=>⟨h,.inl a⟩,fun a=>a.2.elim id fun b=>absurd b.2 g⟩
theorem dyF_mem {F:List Ev} {x:Int}:x∈dyF F↔ ∃e∈F,e.knd≠7/\(x=e.day∨(x=e.hi/\0 < e.hi/\e.hi < 65536)):=by
 rw [dyF,(xh2 _).2,List.mem_flatMap]
 exact exists_congr fun e=>and_congr_right fun _=>dyE_mem
theorem dyC_mem {F:List Ev} {x:Int}:x∈dyC F↔ ∃e∈F,e.knd=6/\x=e.day:=by
 rw [dyC,(xh2 _).2,List.mem_map]
 constructor
 ·rintro ⟨e,he,rfl⟩
  obtain ⟨h1,h2⟩:=List.mem_filter.1 he
  exact ⟨e,h1,of_decide_eq_true h2,rfl⟩
 ·rintro ⟨e,he,hk,rfl⟩
  exact ⟨e,List.mem_filter.2 ⟨he,decide_eq_true hk⟩,rfl⟩
def calE (F:List Ev):Prop:= ∀e∈F,(0<=e.day/\e.day<=65535)/\0<=e.hi/\e.hi<=65536
theorem kD_bd {K:Nat} {F:List Ev} (h:calE F): ∀x∈kD K F,0<=x/\x < 65536:=fun x hx=>by
 rw [kD] at hx
 split at hx
 ·obtain ⟨e,he,_,rfl⟩:=dyC_mem.1 hx
  have:=(h e he).1;omega
 ·obtain ⟨e,he,_,hh⟩:=dyF_mem.1 hx
  have:=(h e he).1;omega
theorem kD_pw2 {K:Nat} {F:List Ev} (h:calE F):(kD K F++[65536]).Pairwise (· < ·):=
 List.pairwise_append.2 ⟨kD_pw,List.pairwise_singleton ..,fun a ha b hb=>by rw [List.mem_singleton.1 hb];exact (kD_bd h a ha).2⟩
def stG (b:Int->Bool) (v:Int->Rat) (kk:Nat) (d:Int):Option Va:=if b d=true then some ⟨kk,fr (v d),0⟩ else none
def stK (b:Int->Bool) (v:Int->Rat) (kk:Nat) (ds:List Int) (k:Nat):List Tst:=pst [] (segN (stG b v kk) (ds++[65536]) k)
section
variable {b:Int->Bool} {v:Int->Rat} {kk:Nat} {ds:List Int} {k:Nat}
theorem endD_at (hk:k < ds.length):(ds++[65536]).getD k 0=ds.getD k 0:=by
 rw [List.getD_eq_getElem?_getD,List.getElem?_append_left hk,List.getD_eq_getElem?_getD]
theorem endD_end (hk:k=ds.length):(ds++[65536]).getD k 0=65536:=by
 subst hk
 rw [List.getD_eq_getElem?_getD,List.getElem?_append_right (Nat.le_refl _)];simp
theorem stK_none (hk:k < ds.length) (h:b (ds.getD k 0)=false):stK b v kk ds (k+1)=stK b v kk ds k:=by
 rw [stK,stK,segN_next,segI,endD_at hk,stG,if_neg (by rw [h];decide)];simp
theorem xo2 (hk:k < ds.length) (h:b (ds.getD k 0)=true):stK b v kk ds (k+1)=pst1 (stK b v kk ds k) ⟨ds.getD k 0,(ds++[65536]).getD (k+1) 0,⟨kk,fr (v (ds.getD k 0)),0⟩⟩:=by
 rw [stK,stK,segN_next,segI,endD_at hk,stG,if_pos h,pst_app];rfl
theorem stK_len:(stK b v kk ds k).length<=k:=by
 have h1:=pst_len (segN (stG b v kk) (ds++[65536]) k) []
 have h2:=segN_len (g:=stG b v kk) (ds:=ds++[65536]) k
 rw [stK];simp only [List.length_nil] at h1;omega
theorem stK_val: ∀s∈stK b v kk ds k,s.v.kind=kk/\s.v.i=0:=by
 rw [stK]
 refine pst_all (P:=fun s=>s.v.kind=kk/\s.v.i=0) (fun a s ha _ _=>ha) _ _ (fun s hs=>by cases hs) fun s hs _=> ?_
 obtain ⟨i,_,hs⟩:=List.mem_flatMap.1 hs
 rw [segI] at hs
 cases hg:stG b v kk ((ds++[65536]).getD i 0) with
 | none=>rw [hg] at hs;cases hs
 | some w=>
  rw [hg] at hs
  rw [List.mem_singleton.1 hs]
  rw [stG] at hg
  split at hg
  ·obtain rfl:=Option.some.inj hg;exact ⟨rfl,rfl⟩
  ·cases hg
theorem stK_last (h:0 < (stK b v kk ds k).length) {f:Fr} (e:((stK b v kk ds k).getD ((stK b v kk ds k).length - 1) tst0).v.f=f):((stK b v kk ds k).getD ((stK b v kk ds k).length - 1) tst0).v=⟨kk,f,0⟩:=by
 have hm:=stK_val _ (xi0 (l:=stK b v kk ds k) (i:=(stK b v kk ds k).length - 1) (by omega))
 generalize (stK b v kk ds k).getD ((stK b v kk ds k).length - 1) tst0=s at*
 obtain ⟨_,_,⟨a,c,d⟩⟩:=s
 simp only at hm e
 rw [hm.1,hm.2,e]
theorem stK_all:stK b v kk ds ds.length=pst [] (segL (stG b v kk) (ds++[65536])):=by
 rw [stK,segL_N,List.length_append];rfl
theorem stG_mT {K:Nat} {F:List Ev} (h: ∀d,stG b v kk d=kG K F d) (hd:ds=kD K F):pst [] (segL (stG b v kk) (ds++[65536]))=mT K F:=by
 rw [mT,hd,show stG b v kk=kG K F from funext h]
end
end An
namespace An
open Go
theorem lent_lb {N:Nat} {w:World} {F:Dom} {η:Env} {l0:List Nat} {H:List (Nat×HEnt)} {h:Keys} {k:Nat} (hx:(H.all fun x=>l0.contains x.1 && !(Nat.beq x.1 k) && (h x.1).isSome)=true):
  ∀b,(Base.lent N w F η l0 H).lb b-> ∃j y,j∈(Base.lent N w F η l0 H).ln/\j≠k/\h j=some y/\0 < (Base.lent N w F η l0 H).lη.c j/\b=(Base.lent N w F η l0 H).lη.b j:=fun b ⟨x,hm,hc,e⟩=>by
 have h1:=List.all_eq_true.1 hx x hm
 simp only [Bool.and_eq_true,Bool.not_eq_true'] at h1
 obtain ⟨⟨h1,h2⟩,h3⟩:=h1
 obtain ⟨y,hy⟩:=Option.isSome_iff_exists.1 h3
 refine ⟨x.1,y,(show x.1∈l0 by simpa using h1),fun e2=> ?_,hy,hc,e⟩
 rw [e2,Nat.beq_refl] at h2;cases h2
theorem wl_give {P:Program} {c:Base} {g:Slots} {h:Keys} {al:Names} {Q:Exit->Act->World->Prop} {A:Array Oper} {rest:List Oper} {t k T es off len:Nat} {agg:Bool} {ts:List Ent} {α:Type} {f:α->Ty} {xs:List α} (hg:g t=some (.own (.sl k es off len))) (hk:h k=some ⟨T,es,agg,ts⟩) (hlb:NoLb c)
  (hts:(ts.drop off).take len=xs.map fun x=> .val (f x)) (hl:xs.length=len) (H:wl P c A Q rest (upd g t (some (.val (tL es agg f xs)))) (upd h k none) al):wl P c A Q rest g h al:=fun a w ⟨η,s⟩=>by
 have h2:=s.give hk hlb hts hl (s.slot t _ hg).2.2
 have s2:=(s.drop k).put (s.slot t _ hg).1 (e:= .val (tL es agg f xs)) h2 fun j hj=>by cases hj
 refine H a w ⟨η,?_⟩
 have e:a.put (some t) (a.tmps.getD t undef)=a:=by
  have hlt:t < a.tmps.size:=by rw [s.tn];exact (s.slot t _ hg).1
  have:a.tmps.setIfInBounds t (a.tmps.getD t undef)=a.tmps:=by
   apply Array.ext_getElem?
   intro i
   rw [Array.getElem?_setIfInBounds]
   by_cases hi:t=i
   ·subst hi;simp [hlt]
   ·simp [hi]
  simp only [Act.put,this]
 rwa [e] at s2
theorem ImpK.three {T es:Nat} {agg:Bool} {a b c a' b' c':Ty} (h1:Le a a') (h2:Le b b') (h3:Le c c'):ImpK ⟨T,es,agg,[.val a,.val b,.val c]⟩ ⟨T,es,agg,[.val a',.val b',.val c']⟩:=
 .ts (Nat.le_refl _) fun i e hi=>by
  match i,hi with
  | 0,hi=>obtain rfl:=Option.some.inj hi;exact ⟨_,rfl,Imp.le h1⟩
  | 1,hi=>obtain rfl:=Option.some.inj hi;exact ⟨_,rfl,Imp.le h2⟩
  | 2,hi=>obtain rfl:=Option.some.inj hi;exact ⟨_,rfl,Imp.le h3⟩
theorem xk5 {P:Program} {c:Base} {d ty:Nat} {pos:String} {af:Array Edge} {gd:Option (Nat×Bool)} {T E es by_ k k' n n':Nat} {agg:Bool} {z:Value} {α:Type} {f:α->Ty} (xs:List α) (e:α) {x y:Operand} {T0:Nat} (sl:P.underlying T=some (.slice E)) (el:ElI P E es by_ agg z) (hz:Flat es agg z) (hT:T0=E) (h0:Nat.blt 0 es=true)
  (hf: ∀y,Shape (f y) es agg) (hn:xs.length=n) (hb:(n+1)*by_<=140737488355328/\n+1<=9223372036854775807) (hn':n+1=n'):
  Does P c ⟨some d,.call {callee:= .builtin .append,args:= #[x,y],argTypes:= #[T,T]},ty,pos,af,gd⟩ ⟨[(x,.own (.sl k es 0 n)),(y,.val (tL es agg f [e]))],[(k,⟨T0,es,agg,rV f xs⟩)],some (d,some (.own (.sl k' es 0 n'))),[(k,none),(k',some ⟨T0,es,agg,rV f (xs++[e])⟩)],[k']⟩:=
 xb3 (ys:=[e]) sl el hz hT h0 hf (xd2.trans hn) hb.1 hb.2 (by simp [rV]) hn'
end An
