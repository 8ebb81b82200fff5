/- Part 5 of a proof: E2, Me3, E3, Fy, Fw, Me11, E4, Me4, Me5, S17, S18, Sv2, Fz, Mk, Me6, E5, LibMf, Me7, Me8, E6, E7, Me9, Me10, E8, E9. -/
import Derived.Test.YtolafhboabhenaaGreatA4
set_option maxHeartbeats 4000000
set_option maxRecDepth 100000
namespace An.S
open Go Go.Proofs An
instance ti22:TyI Tryz.prog 22 1 false:=⟨by kernel_rfl,by kernel_rfl⟩
instance ti87:TyI Tryz.prog 87 1 true:=⟨by kernel_rfl,by kernel_rfl⟩
instance sl113:SlI Tryz.prog 113 4 1 false:=⟨Tryz.underlying113,ti4⟩
instance fo87_0:FoI Tryz.prog 87 0 0:=⟨by kernel_rfl⟩
instance fi11:FnI Tryz.prog 11:=⟨_,Tryz.func11,by kernel_rfl,rfl⟩
instance fi68:FnI Tryz.prog 68:=⟨_,Tryz.func68,by kernel_rfl,rfl⟩
instance fi121:FnI Tryz.prog 121:=⟨_,Tryz.func121,by kernel_rfl,rfl⟩
instance fi123:FnI Tryz.prog 123:=⟨_,Tryz.func123,by kernel_rfl,rfl⟩
instance fi127:FnI Tryz.prog 127:=⟨_,Tryz.func127,by kernel_rfl,rfl⟩
instance fi163:FnI Tryz.prog 163:=⟨_,Tryz.func163,by kernel_rfl,rfl⟩
instance fi164:FnI Tryz.prog 164:=⟨_,Tryz.func164,by kernel_rfl,rfl⟩
instance fi165:FnI Tryz.prog 165:=⟨_,Tryz.func165,by kernel_rfl,rfl⟩
instance fi166:FnI Tryz.prog 166:=⟨_,Tryz.func166,by kernel_rfl,rfl⟩
instance fi167:FnI Tryz.prog 167:=⟨_,Tryz.func167,by kernel_rfl,rfl⟩
instance fi197:FnI Tryz.prog 197:=⟨_,Tryz.func197,by kernel_rfl,rfl⟩
instance fi198:FnI Tryz.prog 198:=⟨_,Tryz.func198,by kernel_rfl,rfl⟩
theorem el4:ElI Tryz.prog 4 1 1 false (.bool false):=⟨ti4,by kernel_rfl,by kernel_rfl⟩
theorem el29:ElI Tryz.prog 29 14 176 true (.agg #[.int .u8 0,.int .i64 0,.int .i64 0,.int .i64 0,.int .i64 0,.bool false,.slice none 0 0,.bool false,.slice none 0 0,.bool false,.slice none 0 0,.bool false,.slice none 0 0,.int .i64 0]):=⟨ti29,by kernel_rfl,by kernel_rfl⟩
theorem zr87:(Tryz.prog.info? 87).bind (·.zero)=some (.agg #[.slice none 0 0])/\ ∀F w,(tS [⟨1,false,(tE (.slice none 0 0))⟩]).p F w (.agg #[.slice none 0 0]):=⟨by kernel_rfl,fun _ _=>⟨_,rfl,rfl,⟨fun _=>rfl,rfl⟩,trivial⟩⟩
theorem bu29:BuI Tryz.prog 29 (fun i=>[(0,1),(1,1),(2,1),(3,1),(4,1),(5,4),(9,4),(13,1)][i]?) (.agg #[.int .u8 0,.int .i64 0,.int .i64 0,.int .i64 0,.int .i64 0,.bool false,.slice none 0 0,.bool false,.slice none 0 0,.bool false,.slice none 0 0,.bool false,.slice none 0 0,.int .i64 0]):=BuI.struct Tryz.underlying29 (by kernel_rfl) (by kernel_rfl)
theorem zf29:Flat 14 true (.agg #[.int .u8 0,.int .i64 0,.int .i64 0,.int .i64 0,.int .i64 0,.bool false,.slice none 0 0,.bool false,.slice none 0 0,.bool false,.slice none 0 0,.bool false,.slice none 0 0,.int .i64 0]):=xo1 (by intro u hu;simp at hu;rcases hu with rfl | rfl | rfl | rfl | rfl | rfl | rfl | rfl | rfl | rfl | rfl | rfl | rfl | rfl <;> rfl)
instance un113:UnI Tryz.prog 113 (.slice 4):=⟨Tryz.underlying113⟩
abbrev tVw (fs:List Ev):Ty:=tS [⟨1,false,tL 14 true tEv fs⟩]
def inK (l:List Ev) (kn:Int) (k:Nat):List Ev:=((List.range k).filter (frc l kn)).map fun i=>l.getD i ev0
theorem inK_next {l:List Ev} {kn:Int} {k:Nat}:inK l kn (k+1)=inK l kn k++if frc l kn k=true then [l.getD k ev0] else []:=by
 rw [inK,List.range_succ,List.filter_append,List.map_append,List.filter_cons]
 split <;> simp [inK]
theorem inK_len {l:List Ev} {kn:Int} {k:Nat}:(inK l kn k).length<=k:=by
 have:=List.length_filter_le (frc l kn) (List.range k)
 rw [List.length_range] at this;rw [inK,List.length_map];exact this
def inN (l:List Ev) (kn:Int) (k:Nat):List Int:=((List.range k).filter (frc l kn)).map fun i:Nat=>(i:Int)+1
theorem inN_next {l:List Ev} {kn:Int} {k:Nat}:inN l kn (k+1)=inN l kn k++if frc l kn k=true then [(k:Int)+1] else []:=by
 rw [inN,List.range_succ,List.filter_append,List.map_append,List.filter_cons]
 split <;> simp [inN]
theorem inN_len {l:List Ev} {kn:Int} {k:Nat}:(inN l kn k).length<=k:=by
 have:=List.length_filter_le (frc l kn) (List.range k)
 rw [List.length_range] at this;rw [inN,List.length_map];exact this
def infN (l:List Ev) (kn:Int):List Int:=(infI l kn).map fun i:Nat=>(i:Int)+1
theorem c_live (l:List Ev) (kn:Int) (hv: ∀i,i < l.length->EOk l i) (hl:l.length<=100):
  Ct Tryz.prog 68 [tL 14 true tEv l,tI kn] (tL 1 false (fun b:Bool=>tB b) (live l kn)):=by
 refine Ct.intro Tryz.func68 rfl Tryz.ntmps68 rfl ?_
 intro w F
 refine A9 ?_
 refine RE (xg0 (k:=10) (t:=tB false) (ts:=rV (fun b:Bool=>tB b) (List.replicate l.length false)) l.length l.length Tryz.underlying113 el4 (fun _ _=>rfl) rfl (by omega) (by omega) (Nat.le_refl _) (by omega) (by omega) (rV_rep (f:=fun b:Bool=>tB b) _ _ rfl)) qB trivial qA ?_
 refine A7 ?_
 refine RE (xg0 (k:=13) (t:=tB false) (ts:=rV (fun b:Bool=>tB b) (List.replicate l.length false)) l.length l.length Tryz.underlying113 el4 (fun _ _=>rfl) rfl (by omega) (by omega) (Nat.le_refl _) (by omega) (by omega) (rV_rep (f:=fun b:Bool=>tB b) _ _ rfl)) qB trivial qA ?_
 refine A13 ?_
 refine cL (fun (k:Nat)=>k<=l.length) (fun (k:Nat)=>uV (uO (uO (uV (uV uN 0 (tL 14 true tEv l)) 1 (tI kn)) 5 (.sl 10 1 0 l.length)) 6 (.sl 13 1 0 l.length)) 7 (tI ((l.length:Int) - 1 - (k:Int)))) (fun (k:Nat)=>uK (uK uN 10 4 1 false (rV (fun b:Bool=>tB b) (liveS l kn k).1)) 13 4 1 false (rV (fun b:Bool=>tB b) (liveS l kn k).2)) [10,13] (fun (k:Nat)=>l.length - k) (0) (Nat.zero_le _) ?_
 intro k hI
 have hl1:=(liveS_len (l:=l) (kn:=kn) k).1
 have hl2:=(liveS_len (l:=l) (kn:=kn) k).2
 have hn:=fun (hh:k < l.length)=>hv (l.length - 1 - k) (by omega)
 refine A7 ?_
 refine x6 rfl (fun h128=> ?_) (fun h128=> ?_)
 ·
  refine A9 ?_
  refine R2 (x4 sl22 ((l.length - 1 - k)) (by omega) (gD (l:=l) (n:=(l.length - 1 - k)) (d:=ev0) (by omega))) rfl rfl (R1 (xf3 fo29_1.h (At.f 1 rfl rfl) rfl) rfl ?_)
  refine A4 ?_
  refine RGcaseD (t:=28) rfl (fun h129=> ?_) (fun h129=> ?_)
  ·
   refine A17 ?_
   have hs:liveS l kn (k+1)=liveS l kn k:=by rw [liveS,if_pos (.inl (by omega))]
   exact kF (k+1) ⟨(by omega),(by omega)⟩ (hh:=((SubK.consI rfl (ImpK.of (by rw [hs]))) ((SubK.consI rfl (ImpK.of (by rw [hs]))) SubK.nil)))
  ·
   refine A2 ?_
   refine Rg (decide_eq_false h129) rfl (xa2 sl113 (by omega) (by omega) rfl) rfl qB (RGon (decide_eq_false h129) rfl (xc1 (l.length - 1 - k) ti4 (xc4 (f:=fun b:Bool=>tB b) (xs:=(liveS l kn k).2) (d:=false) (by rw [hl2];omega)) (by omega)) rfl qA qA trivial ?_)
   refine A3 ?_
   refine xc2 rfl (fun h129_2=> ?_) (fun h129_2=> ?_)
   ·
    refine A9 ?_
    have hs:liveS l kn (k+1)=liveS l kn k:=by rw [liveS,if_pos (.inr h129_2)]
    exact kF (k+1) ⟨(by omega),(by omega)⟩ (hh:=((SubK.consI rfl (ImpK.of (by rw [hs]))) ((SubK.consI rfl (ImpK.of (by rw [hs]))) SubK.nil)))
   ·
    refine A6 ?_
    refine R2 (xa2 sl113 (by omega) (by omega) rfl) rfl rfl (RE (xb8 ((l.length - 1 - k)) ti4 (rV_lt (by rw [hl1];omega)) (by omega) (xi3 (m:=true) rfl)) ⟨rfl,rfl,trivial⟩ ⟨rfl,trivial⟩ trivial ?_)
    refine A6 ?_
    refine R2 (x4 sl22 ((l.length - 1 - k)) (by omega) (gD (l:=l) (n:=(l.length - 1 - k)) (d:=ev0) (by omega))) rfl rfl (R1 (xf3 fo29_0.h (At.f 0 rfl rfl) rfl) rfl ?_)
    refine A4 ?_
    refine x6 rfl (fun h133=> ?_) (fun h133=> ?_)
    ·
     refine A4 ?_
     have ho:=(hn (by omega)).of_ (by omega)
     refine R2 (x4 sl22 ((l.length - 1 - k)) (by omega) (gD (l:=l) (n:=(l.length - 1 - k)) (d:=ev0) (by omega))) rfl rfl (R1 (xf3 fo29_7.h (At.f 7 rfl rfl) rfl) rfl ?_)
     refine A2 ?_
     refine R2 (xa2 sl113 (by omega) (by omega) rfl) rfl rfl (RE (xb8 (((l.getD (l.length - 1 - k) ev0).nr - 1).toNat) ti4 (rV_lt (by rw [hl2];omega)) (by omega) (xi3 (m:=true) rfl)) ⟨rfl,rfl,trivial⟩ ⟨rfl,trivial⟩ trivial ?_)
     refine A8 ?_
     have hs:liveS l kn (k+1)=((liveS l kn k).1.set (l.length - 1 - k) true,(liveS l kn k).2.set ((l.getD (l.length - 1 - k) ev0).nr - 1).toNat true):=by rw [liveS,if_neg (fun hh=>hh.elim (fun h1=>by omega) (fun h1=>by rw [h1] at h129_2;cases h129_2)),if_pos (by omega)]
     exact kF (k+1) ⟨(by omega),(by omega)⟩ (hh:=((SubK.consI rfl (ImpK.of (by rw [hs]))) ((SubK.consI rfl (ImpK.of (by rw [hs]))) SubK.nil)))
    ·
     refine A8 ?_
     have hs:liveS l kn (k+1)=((liveS l kn k).1.set (l.length - 1 - k) true,(liveS l kn k).2):=by rw [liveS,if_neg (fun hh=>hh.elim (fun h1=>by omega) (fun h1=>by rw [h1] at h129_2;cases h129_2)),if_neg (by omega)]
     exact kF (k+1) ⟨(by omega),(by omega)⟩ (hh:=((SubK.consI rfl (ImpK.of (by rw [hs]))) ((SubK.consI rfl (ImpK.of (by rw [hs]))) SubK.nil)))
 ·
  refine A8 ?_
  refine RE (xk0 (f:=fun b:Bool=>tB b) (xs:=(liveS l kn k).1) (fun _ h=>h) (xg2 hl1) hl1) qA qA trivial ?_
  refine A3 ?_
  exact E1 rfl rfl (Le.of (by rw [live,show k=l.length by omega]))
theorem c_viewOf (l:List Ev) (kn:Int) (hv: ∀i,i < l.length->EOk l i) (hl:l.length<=100):
  Ct Tryz.prog 46 [tL 14 true tEv l,tI kn] (tVw (inf l kn)):=by
 refine Ct.intro Tryz.func46 rfl Tryz.ntmps46 rfl ?_
 intro w F
 refine A2 ?_
 refine RE (x7 (k:=4) (n:=1) (agg:=true) zr87.1 zr87.2 rfl) trivial trivial qA ?_
 refine A4 ?_
 refine RE (d_allocC (k:=5) (n:=1) [.slice none 0 0] zr87.1 rfl rfl rfl rfl) trivial trivial qA ?_
 refine A4 ?_
 refine C_nilC (q:=5) 50 29 14 true 0 rfl rfl rfl rfl (fun h=>by cases h) rfl rfl ?_
 refine A3 ?_
 refine R2 (x3 (c_live l kn hv hl) fi68 rfl) rfl rfl ?_
 refine A5 ?_
 refine cL (fun (i:Nat)=>i<=l.length) (fun (i:Nat)=>uO (uO (uV (uV (uV (uV uN 0 (tL 14 true tEv l)) 10 (tL 1 false (fun b:Bool=>tB b) (live l kn))) 11 (tI l.length)) 12 (tI i)) 4 (.ptr 4 0)) 5 (.ptr 5 0)) (fun (i:Nat)=>uK (uK (uK uN 4 87 1 true [.val (tS [⟨1,false,tE (.slice none 0 0)⟩])]) 5 87 1 false [.own (.sl 50 14 0 (inK l kn i).length)]) 50 29 14 true (rV tEv (inK l kn i))) [4,5,50] (fun (i:Nat)=>l.length - i) (0) (Nat.zero_le _) (hg:=(sC (sC (sI ((Sub.consI rfl (Imp.int (by rw [live_len]))) (sC (sC Sub.nil))))))) ?_
 intro i hI
 have hnx:=inK_next (l:=l) (kn:=kn) (k:=i)
 have hxl:=inK_len (l:=l) (kn:=kn) (k:=i)
 refine A6 ?_
 refine x6 rfl (fun h16=> ?_) (fun h16=> ?_)
 ·
  refine A7 ?_
  refine R2 (x4 sl113 (i) (by omega) (gD (l:=live l kn) (n:=i) (d:=false) (by rw [live_len];omega))) rfl rfl (R1 (xm1 ti4) rfl ?_)
  refine A9 ?_
  refine xc2 rfl (fun h17=> ?_) (fun h17=> ?_)
  ·
   refine A5 ?_
   refine R2 (x4 sl22 (i) (by omega) (gD (l:=l) (n:=i) (d:=ev0) (by omega))) rfl rfl ?_
   refine A1 ?_
   refine R1 (xb5 (n:=1) (f:=tEv) [(l.getD i ev0)] Tryz.underlying22 el29 zf29 rfl (fun _=>inferInstance) rfl rfl rfl) rfl (RE (xk5 (k:=50) (k':=25) (f:=tEv) (inK l kn i) (l.getD i ev0) Tryz.underlying22 el29 zf29 rfl rfl (fun _=>inferInstance) rfl ⟨by omega,by omega⟩ rfl) qB qA qA ?_)
   refine A9 ?_
   rw [if_pos (show frc l kn i=true from h17)] at hnx
   exact xc6 (l:=[4,5,50]) (fun j=>cond (Nat.beq j 50) 25 (j)) (i+1) ⟨(by omega),(by omega)⟩ (SubR.cons rfl (SubR.cons rfl (SubR.int rfl (by first | omega | rfl | (dsimp only;omega)) (SubR.int rfl (by first | omega | rfl | (dsimp only;omega)) (SubR.cons rfl (SubR.cons rfl SubR.nil)))))) ((SubKR.consI rfl (ImpK.of (by rw [hnx];exact xa6.symm))) ((SubKR.consI rfl (ImpK.of (by rw [hnx,List.length_append];rfl))) (SubKR.cons rfl SubKR.nil))) (SupG.own rfl (SupG.own rfl (SupG.val (SupG.val (SupG.val (SupG.val SupG.nil)))))) (SupH.cons rfl (supJ xa5) (SupH.cons rfl (supJL rfl) (SupH.cons rfl (supJL rfl) SupH.nil))) (lkOk rfl) rfl rfl (fun _ h=>by cases h)
  ·
   refine A7 ?_
   rw [show frc l kn i=false from h17,if_neg (by decide),List.append_nil] at hnx
   exact kF (i+1) ⟨(by omega),(by omega)⟩ (hh:=((SubK.consI rfl (ImpK.of (by rw [hnx]))) ((SubK.consI rfl (ImpK.of (by rw [hnx]))) (SubK.cons rfl SubK.nil))))
 ·
  refine A6 ?_
  refine C_giveC (q:=5) (j:=50) (f:=tEv) (xs:=(inK l kn i)) 0 rfl rfl rfl rfl (NoLbK.of fun _ h=>h) (xg2 rfl) rfl rfl ?_
  refine A1 ?_
  refine RE (d_loadM (us:=[tL 14 true tEv (inK l kn i)]) (t:=tVw (inK l kn i)) ti87 rfl rfl rfl rfl) qA qA trivial ?_
  refine A4 ?_
  exact EC rfl ⟨_,_,_,_,_,rfl,rfl,ti87,(Le.of (by rw [show i=l.length by omega];rfl))⟩
theorem c_InForce (l:List Ev) (kn:Int) (hD: ∀e∈l,e.part.dig/\e.pay.dig):
  Ct Tryz.prog 31 [tL 14 true tEv l,tI kn] (tL 1 false tI (if eVal l=true then infN l kn else [])):=by
 refine Ct.intro Tryz.func31 rfl Tryz.ntmps31 rfl ?_
 intro w F
 refine A9 ?_
 refine R1 (x3 (c_EValid l hD) fi11 rfl) rfl ?_
 refine A3 ?_
 refine xc2 rfl (fun h142=> ?_) (fun h142=> ?_)
 ·
  refine A7 ?_
  exact E1 rfl rfl (by rw [if_neg (by simpa using h142)];exact leNil rfl)
 ·
  refine A4 ?_
  refine RE (xe3 (k:=5) 3 1 false rfl (fun _=>rfl)) trivial trivial qA ?_
  refine A7 ?_
  refine R2 (x3 (c_live l kn (fun i hi=>xf2.1 (eVal_at (by simpa using h142) hi)) (eVal_len (by simpa using h142))) fi68 rfl) rfl rfl ?_
  refine A5 ?_
  have hvl:=eVal_len (l:=l) (by simpa using h142)
  refine cL (fun (i:Nat)=>i<=l.length) (fun (i:Nat)=>uV (uV (uV (uO uN 5 (.sl 5 1 0 (inN l kn i).length)) 13 (tL 1 false (fun b:Bool=>tB b) (live l kn))) 14 (tI l.length)) 15 (tI i)) (fun (i:Nat)=>uK uN 5 3 1 false (rV tI (inN l kn i))) [5] (fun (i:Nat)=>l.length - i) (0) (Nat.zero_le _) (hg:=(sI ((Sub.consI rfl (Imp.int (by rw [live_len]))) (sC (sC Sub.nil))))) ?_
  intro i hI
  have hnx:=inN_next (l:=l) (kn:=kn) (k:=i)
  have hxl:=inN_len (l:=l) (kn:=kn) (k:=i)
  refine A6 ?_
  refine x6 rfl (fun h146=> ?_) (fun h146=> ?_)
  ·
   refine A7 ?_
   refine R2 (x4 sl113 (i) (by omega) (gD (l:=live l kn) (n:=i) (d:=false) (by rw [live_len];omega))) rfl rfl (R1 (xm1 ti4) rfl ?_)
   refine A9 ?_
   refine xc2 rfl (fun h147=> ?_) (fun h147=> ?_)
   ·
    refine A4 ?_
    refine R1 (xb5 (n:=1) (f:=fun n:Int=>tI n) [((i:Int)+1)] Tryz.underlying43 el3 zf3 rfl (fun _=>inferInstance) rfl rfl rfl) rfl (RE (xk5 (k:=5) (k':=25) (f:=fun n:Int=>tI n) (inN l kn i) ((i:Int)+1) Tryz.underlying43 el3 zf3 rfl rfl (fun _=>inferInstance) rfl ⟨by omega,by omega⟩ rfl) qB qA qA ?_)
    refine A8 ?_
    rw [if_pos (show frc l kn i=true from h147)] at hnx
    exact xc6 (l:=[5]) (fun j=>cond (Nat.beq j 5) 25 (j)) (i+1) ⟨(by omega),(by omega)⟩ (SubR.int rfl (by first | omega | rfl | (dsimp only;omega)) (SubR.int rfl (by first | omega | rfl | (dsimp only;omega)) (SubR.cons rfl ((SubR.consI rfl (Imp.of (by rw [hnx,List.length_append];rfl))) SubR.nil)))) ((SubKR.consI rfl (ImpK.of (by rw [hnx];exact xa6.symm))) SubKR.nil) (SupG.val (SupG.val (SupG.val (SupG.own rfl SupG.nil)))) (SupH.cons rfl (supJ xa5) SupH.nil) (lkOk rfl) rfl rfl (fun _ h=>by cases h)
   ·
    refine A7 ?_
    rw [show frc l kn i=false from h147,if_neg (by decide),List.append_nil] at hnx
    exact kF (i+1) ⟨(by omega),(by omega)⟩ (hg:=(sI (sI (sC ((Sub.consI rfl (Imp.of (by rw [hnx]))) Sub.nil))))) (hh:=((SubK.consI rfl (ImpK.of (by rw [hnx]))) SubK.nil))
  ·
   refine A8 ?_
   refine RE (xk0 (f:=tI) (xs:=inN l kn i) (fun _ h=>h) (xg2 rfl) rfl) qA qA trivial ?_
   refine A3 ?_
   exact E1 rfl rfl (Le.of (by rw [if_pos (by simpa using h142),show i=l.length by omega];rfl))
theorem c_hire1 (job d:Int) (e:Ev):
  CtG Tryz.prog 197 [(1,⟨3,1,false,[.val (tI job)]⟩),(2,⟨3,1,false,[.val (tI d)]⟩)] [.val (tEv e),.own (.ptr 1 0),.own (.ptr 2 0)] (.val (tB ((pHire job d) e))) [(1,⟨3,1,false,[.val (tI job)]⟩),(2,⟨3,1,false,[.val (tI d)]⟩)] []:=by
 refine CtG.intro [1,2] Tryz.func197 rfl Tryz.ntmps197 rfl rfl ⟨⟨rfl,(SupX.lit rfl)⟩,⟨rfl,(SupX.lit rfl)⟩,trivial⟩ ?_
 intro w F η
 refine A13 ?_
 refine RGcaseD (t:=9) rfl (fun h48=> ?_) (fun h48=> ?_)
 ·
  refine A6 ?_
  refine RGcaseD (t:=15) rfl (fun h48_2=> ?_) (fun h48_2=> ?_)
  ·
   refine A4 ?_
   refine RGcaseD (t:=19) rfl (fun h48_3=> ?_) (fun h48_3=> ?_)
   ·
    refine A3 ?_
    refine Rg (decide_eq_true h48_2) rfl (xc9 (decide_eq_true h48_3)) rfl qB ?_
    refine A5 ?_
    exact xc5 LentC.mk' rfl rfl (Imp.of (congrArg (fun b=>Ent.val (tB b)) (by rw [Bool.eq_iff_iff];simp [pHire] <;> first | omega | (constructor <;> intro hh <;> omega)))) qB rfl ⟨⟨rfl,(SupX.lit rfl)⟩,⟨rfl,(SupX.lit rfl)⟩,trivial⟩ rfl
   ·
    refine A3 ?_
    refine Rg (decide_eq_true h48_2) rfl (xc7 (decide_eq_false h48_3)) rfl qB ?_
    refine A5 ?_
    exact xc5 LentC.mk' rfl rfl (Imp.of (congrArg (fun b=>Ent.val (tB b)) (by rw [Bool.eq_iff_iff];simp [pHire] <;> first | omega | (constructor <;> intro hh <;> omega)))) qB rfl ⟨⟨rfl,(SupX.lit rfl)⟩,⟨rfl,(SupX.lit rfl)⟩,trivial⟩ rfl
  ·
   refine A13 ?_
   exact xc5 LentC.mk' rfl rfl (Imp.of (congrArg (fun b=>Ent.val (tB b)) (by rw [Bool.eq_iff_iff];simp [pHire] <;> first | omega | (constructor <;> intro hh <;> omega)))) qB rfl ⟨⟨rfl,(SupX.lit rfl)⟩,⟨rfl,(SupX.lit rfl)⟩,trivial⟩ rfl
 ·
  refine A18 ?_
  refine A1 ?_
  exact xc5 LentC.mk' rfl rfl (Imp.of (congrArg (fun b=>Ent.val (tB b)) (by rw [Bool.eq_iff_iff];simp [pHire] <;> first | omega | (constructor <;> intro hh <;> omega)))) qB rfl ⟨⟨rfl,(SupX.lit rfl)⟩,⟨rfl,(SupX.lit rfl)⟩,trivial⟩ rfl
theorem c_lastHire (fs:List Ev) (hF:fs.length<=100) (job d:Int):
  CtG Tryz.prog 165 [(101,⟨3,1,false,[.val (tI job)]⟩),(102,⟨3,1,false,[.val (tI d)]⟩)] [.val (tVw fs),.own (.fn 197 [.ptr 101 0,.ptr 102 0])] (.val (tT [tEv ((lastE (pHire job d) fs).getD ev0),tB (lastE (pHire job d) fs).isSome])) [(101,⟨3,1,false,[.val (tI job)]⟩),(102,⟨3,1,false,[.val (tI d)]⟩)] []:=by
 refine CtG.intro [101,102] Tryz.func165 rfl Tryz.ntmps165 rfl rfl ⟨⟨rfl,(SupX.lit rfl)⟩,⟨rfl,(SupX.lit rfl)⟩,trivial⟩ ?_
 intro w F η
 refine A3 ?_
 refine RE (x7 (k:=4) (n:=14) (agg:=true) zr29.1 zr29.2 rfl) trivial trivial qA ?_
 refine A5 ?_
 refine RE (x7 (k:=6) (n:=14) (agg:=true) zr29.1 zr29.2 rfl) trivial trivial qA ?_
 refine A11 ?_
 refine xe1 (0) ti22 rfl rfl rfl (At.g 0 rfl (rfl)) rfl ?_
 refine A5 ?_
 refine cL (fun (i:Nat)=>i<=fs.length) (fun (i:Nat)=>uV (uV (uV (uV (uO (uO (uO uN 1 (.fn 197 [.ptr 101 0,.ptr 102 0])) 4 (.ptr 4 0)) 6 (.ptr 6 0)) 7 (tB (lastE (pHire job d) (fs.take i)).isSome)) 11 (tL 14 true tEv fs)) 12 (tI fs.length)) 13 (tI i)) (fun (i:Nat)=>uK (uK (uK (uK uN 4 29 14 true [.val (tEv ev0)]) 6 29 14 true [.val (tEv ((lastE (pHire job d) (fs.take i)).getD ev0))]) 101 3 1 false [.val (tI job)]) 102 3 1 false [.val (tI d)]) [4,6,101,102] (fun (i:Nat)=>fs.length - i) (0) (Nat.zero_le _) (hh:=(SubK.cons rfl (SubK.cons rfl ((SubK.consI rfl (ImpK.of rfl)) ((SubK.consI rfl (ImpK.of rfl)) SubK.nil))))) ?_
 intro i hI
 refine A6 ?_
 refine x6 rfl (fun h37=> ?_) (fun h37=> ?_)
 ·
  refine A6 ?_
  refine R2 (x4 sl22 (i) (by omega) (gD (l:=fs) (n:=i) (d:=ev0) (by omega))) rfl rfl ?_
  refine A1 ?_
  refine RE (x7 (k:=9) (n:=14) (agg:=true) zr29.1 zr29.2 rfl) trivial trivial qA ?_
  refine A7 ?_
  refine RE (xi9 (ps:=[.val (tEv _)]) (caps:=[.ptr 1 0,.ptr 2 0]) (fun j=>cond (Nat.beq j 1) 101 (102)) (c_hire1 job d (fs.getD i ev0)) fi197 rfl (krC (ρ:=fun j=>cond (Nat.beq j 1) 101 (102)) (k:=1) rfl (krC (ρ:=fun j=>cond (Nat.beq j 1) 101 (102)) (k:=2) rfl (krN (ρ:=fun j=>cond (Nat.beq j 1) 101 (102))))) (krC (ρ:=fun j=>cond (Nat.beq j 1) 101 (102)) (k:=1) rfl (krC (ρ:=fun j=>cond (Nat.beq j 1) 101 (102)) (k:=2) rfl (krN (ρ:=fun j=>cond (Nat.beq j 1) 101 (102))))) ⟨⟨rfl,(SupX.lit rfl)⟩,⟨rfl,(SupX.lit rfl)⟩,trivial⟩ rfl) qB qB trivial ?_
  refine A1 ?_
  refine RGcase (t:=20) rfl (fun h38=> ?_) (fun h38=> ?_)
  ·
   refine A3 ?_
   refine RGcase (t:=23) rfl (fun h38_2=> ?_) (fun h38_2=> ?_)
   ·
    refine A5 ?_
    refine Rg h38 rfl (xc9 h38_2) rfl qB ?_
    refine A15 ?_
    have hn:lastE (pHire job d) (fs.take (i+1))=some (fs.getD i ev0):=by rw [xd9 (by omega),last1,if_pos ⟨h38,fun hh=>by rw [hh] at h38_2;cases h38_2⟩]
    exact kF (i+1) ⟨(by omega),(by omega)⟩ (hg:=(sI (sI (sC ((Sub.consI rfl (Imp.of (by rw [hn];try rfl))) (sC (sC (sC Sub.nil)))))))) (hh:=(SubK.cons rfl (SubK.cons rfl ((SubK.consI rfl (ImpK.of (by rw [hn];try rfl))) (SubK.cons rfl SubK.nil)))))
   ·
    refine A5 ?_
    refine Rg h38 rfl (xc7 h38_2) rfl qB ?_
    refine A3 ?_
    refine x6 rfl (fun h38_3=> ?_) (fun h38_3=> ?_)
    ·
     refine A11 ?_
     have hn:lastE (pHire job d) (fs.take (i+1))=some (fs.getD i ev0):=by rw [xd9 (by omega),last1,if_pos ⟨h38,fun hh=>by omega⟩]
     exact kF (i+1) ⟨(by omega),(by omega)⟩ (hg:=(sI (sI (sC ((Sub.consI rfl (Imp.of (by rw [hn];try rfl))) (sC (sC (sC Sub.nil)))))))) (hh:=(SubK.cons rfl (SubK.cons rfl ((SubK.consI rfl (ImpK.of (by rw [hn];try rfl))) (SubK.cons rfl SubK.nil)))))
    ·
     refine A7 ?_
     have hn:lastE (pHire job d) (fs.take (i+1))=lastE (pHire job d) (fs.take i):=by rw [xd9 (by omega),last1,if_neg (fun hh=>h38_3 (by have:=hh.2 (by simpa using h38_2);omega))]
     exact kF (i+1) ⟨(by omega),(by omega)⟩ (hg:=(sI (sI (sC ((Sub.consI rfl (Imp.of (by rw [hn];try rfl))) (sC (sC (sC Sub.nil)))))))) (hh:=(SubK.cons rfl (SubK.cons rfl ((SubK.consI rfl (ImpK.of (by rw [hn];try rfl))) (SubK.cons rfl SubK.nil)))))
  ·
   refine A18 ?_
   refine A2 ?_
   have hn:lastE (pHire job d) (fs.take (i+1))=lastE (pHire job d) (fs.take i):=by rw [xd9 (by omega),last1,if_neg (fun hh=>by rw [hh.1] at h38;cases h38)]
   exact kF (i+1) ⟨(by omega),(by omega)⟩ (hg:=(sI (sI (sC ((Sub.consI rfl (Imp.of (by rw [hn];try rfl))) (sC (sC (sC Sub.nil)))))))) (hh:=(SubK.cons rfl (SubK.cons rfl ((SubK.consI rfl (ImpK.of (by rw [hn];try rfl))) (SubK.cons rfl SubK.nil)))))
 ·
  refine A14 ?_
  exact xn2 LentC.mk' (rs:=[.cell 4 29,.tmp 5]) rfl rfl ⟨⟨_,_,_,_,_,rfl,rfl,ti29,(Le.of (by rw [show i=fs.length by omega,List.take_length]))⟩,⟨_,rfl,(Le.bool (by rw [show i=fs.length by omega,List.take_length]))⟩,trivial⟩ qB ⟨⟨rfl,(SupX.lit rfl)⟩,⟨rfl,(SupX.lit rfl)⟩,trivial⟩ rfl
theorem c_idle1 (job d:Int) (e:Ev):
  CtG Tryz.prog 198 [(1,⟨3,1,false,[.val (tI job)]⟩),(2,⟨3,1,false,[.val (tI d)]⟩)] [.val (tEv e),.own (.ptr 1 0),.own (.ptr 2 0)] (.val (tB ((pIdle job d) e))) [(1,⟨3,1,false,[.val (tI job)]⟩),(2,⟨3,1,false,[.val (tI d)]⟩)] []:=by
 refine CtG.intro [1,2] Tryz.func198 rfl Tryz.ntmps198 rfl rfl ⟨⟨rfl,(SupX.lit rfl)⟩,⟨rfl,(SupX.lit rfl)⟩,trivial⟩ ?_
 intro w F η
 refine A12 ?_
 refine RGcaseD (t:=8) rfl (fun h59=> ?_) (fun h59=> ?_)
 ·
  refine A6 ?_
  refine RGcaseD (t:=14) rfl (fun h59_2=> ?_) (fun h59_2=> ?_)
  ·
   refine A6 ?_
   refine RGcaseD (t:=20) rfl (fun h59_3=> ?_) (fun h59_3=> ?_)
   ·
    refine A9 ?_
    exact xc5 LentC.mk' rfl rfl (Imp.of (congrArg (fun b=>Ent.val (tB b)) (by rw [Bool.eq_iff_iff];simp [pIdle] <;> first | omega | (constructor <;> intro hh <;> omega)))) qB rfl ⟨⟨rfl,(SupX.lit rfl)⟩,⟨rfl,(SupX.lit rfl)⟩,trivial⟩ rfl
   ·
    refine A9 ?_
    exact xc5 LentC.mk' rfl rfl (Imp.of (congrArg (fun b=>Ent.val (tB b)) (by rw [Bool.eq_iff_iff];simp [pIdle] <;> first | omega | (constructor <;> intro hh <;> omega)))) qB rfl ⟨⟨rfl,(SupX.lit rfl)⟩,⟨rfl,(SupX.lit rfl)⟩,trivial⟩ rfl
  ·
   refine A15 ?_
   exact xc5 LentC.mk' rfl rfl (Imp.of (congrArg (fun b=>Ent.val (tB b)) (by rw [Bool.eq_iff_iff];simp [pIdle] <;> first | omega | (constructor <;> intro hh <;> omega)))) qB rfl ⟨⟨rfl,(SupX.lit rfl)⟩,⟨rfl,(SupX.lit rfl)⟩,trivial⟩ rfl
 ·
  refine A18 ?_
  refine A3 ?_
  exact xc5 LentC.mk' rfl rfl (Imp.of (congrArg (fun b=>Ent.val (tB b)) (by rw [Bool.eq_iff_iff];simp [pIdle] <;> first | omega | (constructor <;> intro hh <;> omega)))) qB rfl ⟨⟨rfl,(SupX.lit rfl)⟩,⟨rfl,(SupX.lit rfl)⟩,trivial⟩ rfl
theorem c_lastIdle (fs:List Ev) (hF:fs.length<=100) (job d:Int):
  CtG Tryz.prog 165 [(101,⟨3,1,false,[.val (tI job)]⟩),(102,⟨3,1,false,[.val (tI d)]⟩)] [.val (tVw fs),.own (.fn 198 [.ptr 101 0,.ptr 102 0])] (.val (tT [tEv ((lastE (pIdle job d) fs).getD ev0),tB (lastE (pIdle job d) fs).isSome])) [(101,⟨3,1,false,[.val (tI job)]⟩),(102,⟨3,1,false,[.val (tI d)]⟩)] []:=by
 refine CtG.intro [101,102] Tryz.func165 rfl Tryz.ntmps165 rfl rfl ⟨⟨rfl,(SupX.lit rfl)⟩,⟨rfl,(SupX.lit rfl)⟩,trivial⟩ ?_
 intro w F η
 refine A3 ?_
 refine RE (x7 (k:=4) (n:=14) (agg:=true) zr29.1 zr29.2 rfl) trivial trivial qA ?_
 refine A5 ?_
 refine RE (x7 (k:=6) (n:=14) (agg:=true) zr29.1 zr29.2 rfl) trivial trivial qA ?_
 refine A11 ?_
 refine xe1 (0) ti22 rfl rfl rfl (At.g 0 rfl (rfl)) rfl ?_
 refine A5 ?_
 refine cL (fun (i:Nat)=>i<=fs.length) (fun (i:Nat)=>uV (uV (uV (uV (uO (uO (uO uN 1 (.fn 198 [.ptr 101 0,.ptr 102 0])) 4 (.ptr 4 0)) 6 (.ptr 6 0)) 7 (tB (lastE (pIdle job d) (fs.take i)).isSome)) 11 (tL 14 true tEv fs)) 12 (tI fs.length)) 13 (tI i)) (fun (i:Nat)=>uK (uK (uK (uK uN 4 29 14 true [.val (tEv ev0)]) 6 29 14 true [.val (tEv ((lastE (pIdle job d) (fs.take i)).getD ev0))]) 101 3 1 false [.val (tI job)]) 102 3 1 false [.val (tI d)]) [4,6,101,102] (fun (i:Nat)=>fs.length - i) (0) (Nat.zero_le _) (hh:=(SubK.cons rfl (SubK.cons rfl ((SubK.consI rfl (ImpK.of rfl)) ((SubK.consI rfl (ImpK.of rfl)) SubK.nil))))) ?_
 intro i hI
 refine A6 ?_
 refine x6 rfl (fun h37=> ?_) (fun h37=> ?_)
 ·
  refine A6 ?_
  refine R2 (x4 sl22 (i) (by omega) (gD (l:=fs) (n:=i) (d:=ev0) (by omega))) rfl rfl ?_
  refine A1 ?_
  refine RE (x7 (k:=9) (n:=14) (agg:=true) zr29.1 zr29.2 rfl) trivial trivial qA ?_
  refine A7 ?_
  refine RE (xi9 (ps:=[.val (tEv _)]) (caps:=[.ptr 1 0,.ptr 2 0]) (fun j=>cond (Nat.beq j 1) 101 (102)) (c_idle1 job d (fs.getD i ev0)) fi198 rfl (krC (ρ:=fun j=>cond (Nat.beq j 1) 101 (102)) (k:=1) rfl (krC (ρ:=fun j=>cond (Nat.beq j 1) 101 (102)) (k:=2) rfl (krN (ρ:=fun j=>cond (Nat.beq j 1) 101 (102))))) (krC (ρ:=fun j=>cond (Nat.beq j 1) 101 (102)) (k:=1) rfl (krC (ρ:=fun j=>cond (Nat.beq j 1) 101 (102)) (k:=2) rfl (krN (ρ:=fun j=>cond (Nat.beq j 1) 101 (102))))) ⟨⟨rfl,(SupX.lit rfl)⟩,⟨rfl,(SupX.lit rfl)⟩,trivial⟩ rfl) qB qB trivial ?_
  refine A1 ?_
  refine RGcase (t:=20) rfl (fun h38=> ?_) (fun h38=> ?_)
  ·
   refine A3 ?_
   refine RGcase (t:=23) rfl (fun h38_2=> ?_) (fun h38_2=> ?_)
   ·
    refine A5 ?_
    refine Rg h38 rfl (xc9 h38_2) rfl qB ?_
    refine A15 ?_
    have hn:lastE (pIdle job d) (fs.take (i+1))=some (fs.getD i ev0):=by rw [xd9 (by omega),last1,if_pos ⟨h38,fun hh=>by rw [hh] at h38_2;cases h38_2⟩]
    exact kF (i+1) ⟨(by omega),(by omega)⟩ (hg:=(sI (sI (sC ((Sub.consI rfl (Imp.of (by rw [hn];try rfl))) (sC (sC (sC Sub.nil)))))))) (hh:=(SubK.cons rfl (SubK.cons rfl ((SubK.consI rfl (ImpK.of (by rw [hn];try rfl))) (SubK.cons rfl SubK.nil)))))
   ·
    refine A5 ?_
    refine Rg h38 rfl (xc7 h38_2) rfl qB ?_
    refine A3 ?_
    refine x6 rfl (fun h38_3=> ?_) (fun h38_3=> ?_)
    ·
     refine A11 ?_
     have hn:lastE (pIdle job d) (fs.take (i+1))=some (fs.getD i ev0):=by rw [xd9 (by omega),last1,if_pos ⟨h38,fun hh=>by omega⟩]
     exact kF (i+1) ⟨(by omega),(by omega)⟩ (hg:=(sI (sI (sC ((Sub.consI rfl (Imp.of (by rw [hn];try rfl))) (sC (sC (sC Sub.nil)))))))) (hh:=(SubK.cons rfl (SubK.cons rfl ((SubK.consI rfl (ImpK.of (by rw [hn];try rfl))) (SubK.cons rfl SubK.nil)))))
    ·
     refine A7 ?_
     have hn:lastE (pIdle job d) (fs.take (i+1))=lastE (pIdle job d) (fs.take i):=by rw [xd9 (by omega),last1,if_neg (fun hh=>h38_3 (by have:=hh.2 (by simpa using h38_2);omega))]
     exact kF (i+1) ⟨(by omega),(by omega)⟩ (hg:=(sI (sI (sC ((Sub.consI rfl (Imp.of (by rw [hn];try rfl))) (sC (sC (sC Sub.nil)))))))) (hh:=(SubK.cons rfl (SubK.cons rfl ((SubK.consI rfl (ImpK.of (by rw [hn];try rfl))) (SubK.cons rfl SubK.nil)))))
  ·
   refine A18 ?_
   refine A2 ?_
   have hn:lastE (pIdle job d) (fs.take (i+1))=lastE (pIdle job d) (fs.take i):=by rw [xd9 (by omega),last1,if_neg (fun hh=>by rw [hh.1] at h38;cases h38)]
   exact kF (i+1) ⟨(by omega),(by omega)⟩ (hg:=(sI (sI (sC ((Sub.consI rfl (Imp.of (by rw [hn];try rfl))) (sC (sC (sC Sub.nil)))))))) (hh:=(SubK.cons rfl (SubK.cons rfl ((SubK.consI rfl (ImpK.of (by rw [hn];try rfl))) (SubK.cons rfl SubK.nil)))))
 ·
  refine A14 ?_
  exact xn2 LentC.mk' (rs:=[.cell 4 29,.tmp 5]) rfl rfl ⟨⟨_,_,_,_,_,rfl,rfl,ti29,(Le.of (by rw [show i=fs.length by omega,List.take_length]))⟩,⟨_,rfl,(Le.bool (by rw [show i=fs.length by omega,List.take_length]))⟩,trivial⟩ qB ⟨⟨rfl,(SupX.lit rfl)⟩,⟨rfl,(SupX.lit rfl)⟩,trivial⟩ rfl
theorem c_partOf1 (h:Ev) (d:Int) (e:Ev):
  CtG Tryz.prog 166 [(1,⟨29,14,true,[.val (tEv h)]⟩),(2,⟨3,1,false,[.val (tI d)]⟩)] [.val (tEv e),.own (.ptr 1 0),.own (.ptr 2 0)] (.val (tB ((pHours h d) e))) [(1,⟨29,14,true,[.val (tEv h)]⟩),(2,⟨3,1,false,[.val (tI d)]⟩)] []:=by
 refine CtG.intro [1,2] Tryz.func166 rfl Tryz.ntmps166 rfl rfl ⟨⟨rfl,(SupX.lit rfl)⟩,⟨rfl,(SupX.lit rfl)⟩,trivial⟩ ?_
 intro w F η
 refine A12 ?_
 refine RGcaseD (t:=8) rfl (fun h70=> ?_) (fun h70=> ?_)
 ·
  refine A7 ?_
  refine RGcaseD (t:=15) rfl (fun h70_2=> ?_) (fun h70_2=> ?_)
  ·
   refine A7 ?_
   refine RGcaseD (t:=22) rfl (fun h70_3=> ?_) (fun h70_3=> ?_)
   ·
    refine A6 ?_
    refine RGcaseD (t:=28) rfl (fun h70_4=> ?_) (fun h70_4=> ?_)
    ·
     refine A9 ?_
     exact xc5 LentC.mk' rfl rfl (Imp.of (congrArg (fun b=>Ent.val (tB b)) (by rw [Bool.eq_iff_iff];simp [pHours] <;> first | omega | (constructor <;> intro hh <;> omega)))) qB rfl ⟨⟨rfl,(SupX.lit rfl)⟩,⟨rfl,(SupX.lit rfl)⟩,trivial⟩ rfl
    ·
     refine A9 ?_
     exact xc5 LentC.mk' rfl rfl (Imp.of (congrArg (fun b=>Ent.val (tB b)) (by rw [Bool.eq_iff_iff];simp [pHours] <;> first | omega | (constructor <;> intro hh <;> omega)))) qB rfl ⟨⟨rfl,(SupX.lit rfl)⟩,⟨rfl,(SupX.lit rfl)⟩,trivial⟩ rfl
   ·
    refine A15 ?_
    exact xc5 LentC.mk' rfl rfl (Imp.of (congrArg (fun b=>Ent.val (tB b)) (by rw [Bool.eq_iff_iff];simp [pHours] <;> first | omega | (constructor <;> intro hh <;> omega)))) qB rfl ⟨⟨rfl,(SupX.lit rfl)⟩,⟨rfl,(SupX.lit rfl)⟩,trivial⟩ rfl
  ·
   refine A18 ?_
   refine A4 ?_
   exact xc5 LentC.mk' rfl rfl (Imp.of (congrArg (fun b=>Ent.val (tB b)) (by rw [Bool.eq_iff_iff];simp [pHours] <;> first | omega | (constructor <;> intro hh <;> omega)))) qB rfl ⟨⟨rfl,(SupX.lit rfl)⟩,⟨rfl,(SupX.lit rfl)⟩,trivial⟩ rfl
 ·
  refine A18 ?_
  refine A11 ?_
  exact xc5 LentC.mk' rfl rfl (Imp.of (congrArg (fun b=>Ent.val (tB b)) (by rw [Bool.eq_iff_iff];simp [pHours] <;> first | omega | (constructor <;> intro hh <;> omega)))) qB rfl ⟨⟨rfl,(SupX.lit rfl)⟩,⟨rfl,(SupX.lit rfl)⟩,trivial⟩ rfl
theorem c_lastPartof (fs:List Ev) (hF:fs.length<=100) (h:Ev) (d:Int):
  CtG Tryz.prog 165 [(101,⟨29,14,true,[.val (tEv h)]⟩),(102,⟨3,1,false,[.val (tI d)]⟩)] [.val (tVw fs),.own (.fn 166 [.ptr 101 0,.ptr 102 0])] (.val (tT [tEv ((lastE (pHours h d) fs).getD ev0),tB (lastE (pHours h d) fs).isSome])) [(101,⟨29,14,true,[.val (tEv h)]⟩),(102,⟨3,1,false,[.val (tI d)]⟩)] []:=by
 refine CtG.intro [101,102] Tryz.func165 rfl Tryz.ntmps165 rfl rfl ⟨⟨rfl,(SupX.lit rfl)⟩,⟨rfl,(SupX.lit rfl)⟩,trivial⟩ ?_
 intro w F η
 refine A3 ?_
 refine RE (x7 (k:=4) (n:=14) (agg:=true) zr29.1 zr29.2 rfl) trivial trivial qA ?_
 refine A5 ?_
 refine RE (x7 (k:=6) (n:=14) (agg:=true) zr29.1 zr29.2 rfl) trivial trivial qA ?_
 refine A11 ?_
 refine xe1 (0) ti22 rfl rfl rfl (At.g 0 rfl (rfl)) rfl ?_
 refine A5 ?_
 refine cL (fun (i:Nat)=>i<=fs.length) (fun (i:Nat)=>uV (uV (uV (uV (uO (uO (uO uN 1 (.fn 166 [.ptr 101 0,.ptr 102 0])) 4 (.ptr 4 0)) 6 (.ptr 6 0)) 7 (tB (lastE (pHours h d) (fs.take i)).isSome)) 11 (tL 14 true tEv fs)) 12 (tI fs.length)) 13 (tI i)) (fun (i:Nat)=>uK (uK (uK (uK uN 4 29 14 true [.val (tEv ev0)]) 6 29 14 true [.val (tEv ((lastE (pHours h d) (fs.take i)).getD ev0))]) 101 29 14 true [.val (tEv h)]) 102 3 1 false [.val (tI d)]) [4,6,101,102] (fun (i:Nat)=>fs.length - i) (0) (Nat.zero_le _) (hh:=(SubK.cons rfl (SubK.cons rfl ((SubK.consI rfl (ImpK.of rfl)) ((SubK.consI rfl (ImpK.of rfl)) SubK.nil))))) ?_
 intro i hI
 refine A6 ?_
 refine x6 rfl (fun h37=> ?_) (fun h37=> ?_)
 ·
  refine A6 ?_
  refine R2 (x4 sl22 (i) (by omega) (gD (l:=fs) (n:=i) (d:=ev0) (by omega))) rfl rfl ?_
  refine A1 ?_
  refine RE (x7 (k:=9) (n:=14) (agg:=true) zr29.1 zr29.2 rfl) trivial trivial qA ?_
  refine A7 ?_
  refine RE (xi9 (ps:=[.val (tEv _)]) (caps:=[.ptr 1 0,.ptr 2 0]) (fun j=>cond (Nat.beq j 1) 101 (102)) (c_partOf1 h d (fs.getD i ev0)) fi166 rfl (krC (ρ:=fun j=>cond (Nat.beq j 1) 101 (102)) (k:=1) rfl (krC (ρ:=fun j=>cond (Nat.beq j 1) 101 (102)) (k:=2) rfl (krN (ρ:=fun j=>cond (Nat.beq j 1) 101 (102))))) (krC (ρ:=fun j=>cond (Nat.beq j 1) 101 (102)) (k:=1) rfl (krC (ρ:=fun j=>cond (Nat.beq j 1) 101 (102)) (k:=2) rfl (krN (ρ:=fun j=>cond (Nat.beq j 1) 101 (102))))) ⟨⟨rfl,(SupX.lit rfl)⟩,⟨rfl,(SupX.lit rfl)⟩,trivial⟩ rfl) qB qB trivial ?_
  refine A1 ?_
  refine RGcase (t:=20) rfl (fun h38=> ?_) (fun h38=> ?_)
  ·
   refine A3 ?_
   refine RGcase (t:=23) rfl (fun h38_2=> ?_) (fun h38_2=> ?_)
   ·
    refine A5 ?_
    refine Rg h38 rfl (xc9 h38_2) rfl qB ?_
    refine A15 ?_
    have hn:lastE (pHours h d) (fs.take (i+1))=some (fs.getD i ev0):=by rw [xd9 (by omega),last1,if_pos ⟨h38,fun hh=>by rw [hh] at h38_2;cases h38_2⟩]
    exact kF (i+1) ⟨(by omega),(by omega)⟩ (hg:=(sI (sI (sC ((Sub.consI rfl (Imp.of (by rw [hn];try rfl))) (sC (sC (sC Sub.nil)))))))) (hh:=(SubK.cons rfl (SubK.cons rfl ((SubK.consI rfl (ImpK.of (by rw [hn];try rfl))) (SubK.cons rfl SubK.nil)))))
   ·
    refine A5 ?_
    refine Rg h38 rfl (xc7 h38_2) rfl qB ?_
    refine A3 ?_
    refine x6 rfl (fun h38_3=> ?_) (fun h38_3=> ?_)
    ·
     refine A11 ?_
     have hn:lastE (pHours h d) (fs.take (i+1))=some (fs.getD i ev0):=by rw [xd9 (by omega),last1,if_pos ⟨h38,fun hh=>by omega⟩]
     exact kF (i+1) ⟨(by omega),(by omega)⟩ (hg:=(sI (sI (sC ((Sub.consI rfl (Imp.of (by rw [hn];try rfl))) (sC (sC (sC Sub.nil)))))))) (hh:=(SubK.cons rfl (SubK.cons rfl ((SubK.consI rfl (ImpK.of (by rw [hn];try rfl))) (SubK.cons rfl SubK.nil)))))
    ·
     refine A7 ?_
     have hn:lastE (pHours h d) (fs.take (i+1))=lastE (pHours h d) (fs.take i):=by rw [xd9 (by omega),last1,if_neg (fun hh=>h38_3 (by have:=hh.2 (by simpa using h38_2);omega))]
     exact kF (i+1) ⟨(by omega),(by omega)⟩ (hg:=(sI (sI (sC ((Sub.consI rfl (Imp.of (by rw [hn];try rfl))) (sC (sC (sC Sub.nil)))))))) (hh:=(SubK.cons rfl (SubK.cons rfl ((SubK.consI rfl (ImpK.of (by rw [hn];try rfl))) (SubK.cons rfl SubK.nil)))))
  ·
   refine A18 ?_
   refine A2 ?_
   have hn:lastE (pHours h d) (fs.take (i+1))=lastE (pHours h d) (fs.take i):=by rw [xd9 (by omega),last1,if_neg (fun hh=>by rw [hh.1] at h38;cases h38)]
   exact kF (i+1) ⟨(by omega),(by omega)⟩ (hg:=(sI (sI (sC ((Sub.consI rfl (Imp.of (by rw [hn];try rfl))) (sC (sC (sC Sub.nil)))))))) (hh:=(SubK.cons rfl (SubK.cons rfl ((SubK.consI rfl (ImpK.of (by rw [hn];try rfl))) (SubK.cons rfl SubK.nil)))))
 ·
  refine A14 ?_
  exact xn2 LentC.mk' (rs:=[.cell 4 29,.tmp 5]) rfl rfl ⟨⟨_,_,_,_,_,rfl,rfl,ti29,(Le.of (by rw [show i=fs.length by omega,List.take_length]))⟩,⟨_,rfl,(Le.bool (by rw [show i=fs.length by omega,List.take_length]))⟩,trivial⟩ qB ⟨⟨rfl,(SupX.lit rfl)⟩,⟨rfl,(SupX.lit rfl)⟩,trivial⟩ rfl
theorem c_payOf1 (h:Ev) (d:Int) (e:Ev):
  CtG Tryz.prog 167 [(1,⟨29,14,true,[.val (tEv h)]⟩),(2,⟨3,1,false,[.val (tI d)]⟩)] [.val (tEv e),.own (.ptr 1 0),.own (.ptr 2 0)] (.val (tB ((pPay h d) e))) [(1,⟨29,14,true,[.val (tEv h)]⟩),(2,⟨3,1,false,[.val (tI d)]⟩)] []:=by
 refine CtG.intro [1,2] Tryz.func167 rfl Tryz.ntmps167 rfl rfl ⟨⟨rfl,(SupX.lit rfl)⟩,⟨rfl,(SupX.lit rfl)⟩,trivial⟩ ?_
 intro w F η
 refine A12 ?_
 refine RGcaseD (t:=8) rfl (fun h84=> ?_) (fun h84=> ?_)
 ·
  refine A7 ?_
  refine RGcaseD (t:=15) rfl (fun h84_2=> ?_) (fun h84_2=> ?_)
  ·
   refine A7 ?_
   refine RGcaseD (t:=22) rfl (fun h84_3=> ?_) (fun h84_3=> ?_)
   ·
    refine A9 ?_
    exact xc5 LentC.mk' rfl rfl (Imp.of (congrArg (fun b=>Ent.val (tB b)) (by rw [Bool.eq_iff_iff];simp [pPay] <;> first | omega | (constructor <;> intro hh <;> omega)))) qB rfl ⟨⟨rfl,(SupX.lit rfl)⟩,⟨rfl,(SupX.lit rfl)⟩,trivial⟩ rfl
   ·
    refine A9 ?_
    exact xc5 LentC.mk' rfl rfl (Imp.of (congrArg (fun b=>Ent.val (tB b)) (by rw [Bool.eq_iff_iff];simp [pPay] <;> first | omega | (constructor <;> intro hh <;> omega)))) qB rfl ⟨⟨rfl,(SupX.lit rfl)⟩,⟨rfl,(SupX.lit rfl)⟩,trivial⟩ rfl
  ·
   refine A16 ?_
   exact xc5 LentC.mk' rfl rfl (Imp.of (congrArg (fun b=>Ent.val (tB b)) (by rw [Bool.eq_iff_iff];simp [pPay] <;> first | omega | (constructor <;> intro hh <;> omega)))) qB rfl ⟨⟨rfl,(SupX.lit rfl)⟩,⟨rfl,(SupX.lit rfl)⟩,trivial⟩ rfl
 ·
  refine A18 ?_
  refine A5 ?_
  exact xc5 LentC.mk' rfl rfl (Imp.of (congrArg (fun b=>Ent.val (tB b)) (by rw [Bool.eq_iff_iff];simp [pPay] <;> first | omega | (constructor <;> intro hh <;> omega)))) qB rfl ⟨⟨rfl,(SupX.lit rfl)⟩,⟨rfl,(SupX.lit rfl)⟩,trivial⟩ rfl
theorem c_lastPayof (fs:List Ev) (hF:fs.length<=100) (h:Ev) (d:Int):
  CtG Tryz.prog 165 [(101,⟨29,14,true,[.val (tEv h)]⟩),(102,⟨3,1,false,[.val (tI d)]⟩)] [.val (tVw fs),.own (.fn 167 [.ptr 101 0,.ptr 102 0])] (.val (tT [tEv ((lastE (pPay h d) fs).getD ev0),tB (lastE (pPay h d) fs).isSome])) [(101,⟨29,14,true,[.val (tEv h)]⟩),(102,⟨3,1,false,[.val (tI d)]⟩)] []:=by
 refine CtG.intro [101,102] Tryz.func165 rfl Tryz.ntmps165 rfl rfl ⟨⟨rfl,(SupX.lit rfl)⟩,⟨rfl,(SupX.lit rfl)⟩,trivial⟩ ?_
 intro w F η
 refine A3 ?_
 refine RE (x7 (k:=4) (n:=14) (agg:=true) zr29.1 zr29.2 rfl) trivial trivial qA ?_
 refine A5 ?_
 refine RE (x7 (k:=6) (n:=14) (agg:=true) zr29.1 zr29.2 rfl) trivial trivial qA ?_
 refine A11 ?_
 refine xe1 (0) ti22 rfl rfl rfl (At.g 0 rfl (rfl)) rfl ?_
 refine A5 ?_
 refine cL (fun (i:Nat)=>i<=fs.length) (fun (i:Nat)=>uV (uV (uV (uV (uO (uO (uO uN 1 (.fn 167 [.ptr 101 0,.ptr 102 0])) 4 (.ptr 4 0)) 6 (.ptr 6 0)) 7 (tB (lastE (pPay h d) (fs.take i)).isSome)) 11 (tL 14 true tEv fs)) 12 (tI fs.length)) 13 (tI i)) (fun (i:Nat)=>uK (uK (uK (uK uN 4 29 14 true [.val (tEv ev0)]) 6 29 14 true [.val (tEv ((lastE (pPay h d) (fs.take i)).getD ev0))]) 101 29 14 true [.val (tEv h)]) 102 3 1 false [.val (tI d)]) [4,6,101,102] (fun (i:Nat)=>fs.length - i) (0) (Nat.zero_le _) (hh:=(SubK.cons rfl (SubK.cons rfl ((SubK.consI rfl (ImpK.of rfl)) ((SubK.consI rfl (ImpK.of rfl)) SubK.nil))))) ?_
 intro i hI
 refine A6 ?_
 refine x6 rfl (fun h37=> ?_) (fun h37=> ?_)
 ·
  refine A6 ?_
  refine R2 (x4 sl22 (i) (by omega) (gD (l:=fs) (n:=i) (d:=ev0) (by omega))) rfl rfl ?_
  refine A1 ?_
  refine RE (x7 (k:=9) (n:=14) (agg:=true) zr29.1 zr29.2 rfl) trivial trivial qA ?_
  refine A7 ?_
  refine RE (xi9 (ps:=[.val (tEv _)]) (caps:=[.ptr 1 0,.ptr 2 0]) (fun j=>cond (Nat.beq j 1) 101 (102)) (c_payOf1 h d (fs.getD i ev0)) fi167 rfl (krC (ρ:=fun j=>cond (Nat.beq j 1) 101 (102)) (k:=1) rfl (krC (ρ:=fun j=>cond (Nat.beq j 1) 101 (102)) (k:=2) rfl (krN (ρ:=fun j=>cond (Nat.beq j 1) 101 (102))))) (krC (ρ:=fun j=>cond (Nat.beq j 1) 101 (102)) (k:=1) rfl (krC (ρ:=fun j=>cond (Nat.beq j 1) 101 (102)) (k:=2) rfl (krN (ρ:=fun j=>cond (Nat.beq j 1) 101 (102))))) ⟨⟨rfl,(SupX.lit rfl)⟩,⟨rfl,(SupX.lit rfl)⟩,trivial⟩ rfl) qB qB trivial ?_
  refine A1 ?_
  refine RGcase (t:=20) rfl (fun h38=> ?_) (fun h38=> ?_)
  ·
   refine A3 ?_
   refine RGcase (t:=23) rfl (fun h38_2=> ?_) (fun h38_2=> ?_)
   ·
    refine A5 ?_
    refine Rg h38 rfl (xc9 h38_2) rfl qB ?_
    refine A15 ?_
    have hn:lastE (pPay h d) (fs.take (i+1))=some (fs.getD i ev0):=by rw [xd9 (by omega),last1,if_pos ⟨h38,fun hh=>by rw [hh] at h38_2;cases h38_2⟩]
    exact kF (i+1) ⟨(by omega),(by omega)⟩ (hg:=(sI (sI (sC ((Sub.consI rfl (Imp.of (by rw [hn];try rfl))) (sC (sC (sC Sub.nil)))))))) (hh:=(SubK.cons rfl (SubK.cons rfl ((SubK.consI rfl (ImpK.of (by rw [hn];try rfl))) (SubK.cons rfl SubK.nil)))))
   ·
    refine A5 ?_
    refine Rg h38 rfl (xc7 h38_2) rfl qB ?_
    refine A3 ?_
    refine x6 rfl (fun h38_3=> ?_) (fun h38_3=> ?_)
    ·
     refine A11 ?_
     have hn:lastE (pPay h d) (fs.take (i+1))=some (fs.getD i ev0):=by rw [xd9 (by omega),last1,if_pos ⟨h38,fun hh=>by omega⟩]
     exact kF (i+1) ⟨(by omega),(by omega)⟩ (hg:=(sI (sI (sC ((Sub.consI rfl (Imp.of (by rw [hn];try rfl))) (sC (sC (sC Sub.nil)))))))) (hh:=(SubK.cons rfl (SubK.cons rfl ((SubK.consI rfl (ImpK.of (by rw [hn];try rfl))) (SubK.cons rfl SubK.nil)))))
    ·
     refine A7 ?_
     have hn:lastE (pPay h d) (fs.take (i+1))=lastE (pPay h d) (fs.take i):=by rw [xd9 (by omega),last1,if_neg (fun hh=>h38_3 (by have:=hh.2 (by simpa using h38_2);omega))]
     exact kF (i+1) ⟨(by omega),(by omega)⟩ (hg:=(sI (sI (sC ((Sub.consI rfl (Imp.of (by rw [hn];try rfl))) (sC (sC (sC Sub.nil)))))))) (hh:=(SubK.cons rfl (SubK.cons rfl ((SubK.consI rfl (ImpK.of (by rw [hn];try rfl))) (SubK.cons rfl SubK.nil)))))
  ·
   refine A18 ?_
   refine A2 ?_
   have hn:lastE (pPay h d) (fs.take (i+1))=lastE (pPay h d) (fs.take i):=by rw [xd9 (by omega),last1,if_neg (fun hh=>by rw [hh.1] at h38;cases h38)]
   exact kF (i+1) ⟨(by omega),(by omega)⟩ (hg:=(sI (sI (sC ((Sub.consI rfl (Imp.of (by rw [hn];try rfl))) (sC (sC (sC Sub.nil)))))))) (hh:=(SubK.cons rfl (SubK.cons rfl ((SubK.consI rfl (ImpK.of (by rw [hn];try rfl))) (SubK.cons rfl SubK.nil)))))
 ·
  refine A14 ?_
  exact xn2 LentC.mk' (rs:=[.cell 4 29,.tmp 5]) rfl rfl ⟨⟨_,_,_,_,_,rfl,rfl,ti29,(Le.of (by rw [show i=fs.length by omega,List.take_length]))⟩,⟨_,rfl,(Le.bool (by rw [show i=fs.length by omega,List.take_length]))⟩,trivial⟩ qB ⟨⟨rfl,(SupX.lit rfl)⟩,⟨rfl,(SupX.lit rfl)⟩,trivial⟩ rfl
theorem hireE_no {fs:List Ev} {job d:Int} (h:(lastE (pHire job d) fs).isSome=false):hireE fs job d=none:=by
 rw [hireE]
 cases hl:lastE (pHire job d) fs with
 | none=>rfl
 | some e=>rw [hl] at h;cases h
theorem hireE_left {fs:List Ev} {job d:Int} (h: ¬(((lastE (pHire job d) fs).getD ev0).knd:Int)=1):hireE fs job d=none:=by
 rw [hireE]
 cases hl:lastE (pHire job d) fs with
 | none=>rfl
 | some e=>
  rw [hl] at h
  exact if_neg fun hk=>h (by show ((e.knd:Nat):Int)=1;omega)
theorem hireE_yes {fs:List Ev} {job d:Int} (h1:(lastE (pHire job d) fs).isSome=true) (h:(((lastE (pHire job d) fs).getD ev0).knd:Int)=1):hireE fs job d=some ((lastE (pHire job d) fs).getD ev0):=by
 rw [hireE]
 cases hl:lastE (pHire job d) fs with
 | none=>rw [hl] at h1;cases h1
 | some e=>
  rw [hl] at h
  exact if_pos (by have:((e.knd:Nat):Int)=1:=h;omega)
theorem c_hire (fs:List Ev) (hF:fs.length<=100) (job d:Int):
  Ct Tryz.prog 163 [tVw fs,tI job,tI d] (tT [tEv ((hireE fs job d).getD ev0),tB (hireE fs job d).isSome]):=by
 refine Ct.intro Tryz.func163 rfl Tryz.ntmps163 rfl ?_
 intro w F
 refine A5 ?_
 refine RE (x7 (k:=6) (n:=14) (agg:=true) zr29.1 zr29.2 rfl) trivial trivial qA ?_
 refine A6 ?_
 refine R2 (xg8 (ps:=[.ptr 4 0,.ptr 5 0]) rfl) rfl rfl (RE (xb7 (fun j=>cond (Nat.beq j 101) 4 (5)) (c_lastHire fs hF job d) fi165 rfl (krC (ρ:=fun j=>cond (Nat.beq j 101) 4 (5)) (k:=101) rfl (krC (ρ:=fun j=>cond (Nat.beq j 101) 4 (5)) (k:=102) rfl (krN (ρ:=fun j=>cond (Nat.beq j 101) 4 (5))))) (krC (ρ:=fun j=>cond (Nat.beq j 101) 4 (5)) (k:=101) rfl (krC (ρ:=fun j=>cond (Nat.beq j 101) 4 (5)) (k:=102) rfl (krN (ρ:=fun j=>cond (Nat.beq j 101) 4 (5))))) ⟨⟨rfl,(SupX.lit rfl)⟩,⟨rfl,(SupX.lit rfl)⟩,trivial⟩ rfl) qB qB trivial ?_)
 refine A3 ?_
 refine RE (x7 (k:=8) (n:=14) (agg:=true) zr29.1 zr29.2 rfl) trivial trivial qA ?_
 refine A10 ?_
 refine RGcase (t:=18) rfl (fun h50=> ?_) (fun h50=> ?_)
 ·
  refine A9 ?_
  refine R0 (xb0 (r:=tS [⟨1,false,(tE (.int .u8 0))⟩,⟨1,false,(tE (.int .i64 0))⟩,⟨1,false,(tE (.int .i64 0))⟩,⟨1,false,(tE (.int .i64 0))⟩,⟨1,false,(tE (.int .i64 0))⟩,⟨4,true,(tS [⟨2,true,(tS [⟨1,false,(tE (.bool false))⟩,⟨1,false,(tLm [])⟩])⟩,⟨2,true,(tS [⟨1,false,(tE (.bool false))⟩,⟨1,false,(tLm [])⟩])⟩])⟩,⟨4,true,(tS [⟨2,true,(tS [⟨1,false,(tE (.bool false))⟩,⟨1,false,(tLm [])⟩])⟩,⟨2,true,(tS [⟨1,false,(tE (.bool false))⟩,⟨1,false,(tLm [])⟩])⟩])⟩,⟨1,false,(tE (.int .i64 0))⟩]) (ts:=[]) bu29 zr29.2 Le.refl) ?_
  refine A6 ?_
  exact EN (rs:=[.cell 6 29,.tmp 7]) rfl rfl ⟨⟨_,_,_,_,_,rfl,rfl,ti29,(Le.of (by rw [hireE_no (by simpa using h50)];rfl))⟩,⟨_,rfl,(Le.bool (by rw [hireE_no (by simpa using h50)];rfl))⟩,trivial⟩
 ·
  refine A6 ?_
  refine x6 rfl (fun h50_2=> ?_) (fun h50_2=> ?_)
  ·
   refine A2 ?_
   refine R0 (xb0 (r:=tS [⟨1,false,(tE (.int .u8 0))⟩,⟨1,false,(tE (.int .i64 0))⟩,⟨1,false,(tE (.int .i64 0))⟩,⟨1,false,(tE (.int .i64 0))⟩,⟨1,false,(tE (.int .i64 0))⟩,⟨4,true,(tS [⟨2,true,(tS [⟨1,false,(tE (.bool false))⟩,⟨1,false,(tLm [])⟩])⟩,⟨2,true,(tS [⟨1,false,(tE (.bool false))⟩,⟨1,false,(tLm [])⟩])⟩])⟩,⟨4,true,(tS [⟨2,true,(tS [⟨1,false,(tE (.bool false))⟩,⟨1,false,(tLm [])⟩])⟩,⟨2,true,(tS [⟨1,false,(tE (.bool false))⟩,⟨1,false,(tLm [])⟩])⟩])⟩,⟨1,false,(tE (.int .i64 0))⟩]) (ts:=[]) bu29 zr29.2 Le.refl) ?_
   refine A6 ?_
   exact EN (rs:=[.cell 6 29,.tmp 7]) rfl rfl ⟨⟨_,_,_,_,_,rfl,rfl,ti29,(Le.of (by rw [hireE_left (by assumption)];rfl))⟩,⟨_,rfl,(Le.bool (by rw [hireE_left (by assumption)];rfl))⟩,trivial⟩
  ·
   refine A10 ?_
   exact EN (rs:=[.cell 6 29,.tmp 7]) rfl rfl ⟨⟨_,_,_,_,_,rfl,rfl,ti29,(Le.of (by rw [hireE_yes (by simpa using h50) (by omega)];rfl))⟩,⟨_,rfl,(Le.bool (by rw [hireE_yes (by simpa using h50) (by omega)];rfl))⟩,trivial⟩
theorem c_idle (fs:List Ev) (hF:fs.length<=100) (job d:Int):
  Ct Tryz.prog 164 [tVw fs,tI job,tI d] (tB (idleE fs job d)):=by
 refine Ct.intro Tryz.func164 rfl Tryz.ntmps164 rfl ?_
 intro w F
 refine A11 ?_
 refine R2 (xg8 (ps:=[.ptr 4 0,.ptr 5 0]) rfl) rfl rfl (RE (xb7 (fun j=>cond (Nat.beq j 101) 4 (5)) (c_lastIdle fs hF job d) fi165 rfl (krC (ρ:=fun j=>cond (Nat.beq j 101) 4 (5)) (k:=101) rfl (krC (ρ:=fun j=>cond (Nat.beq j 101) 4 (5)) (k:=102) rfl (krN (ρ:=fun j=>cond (Nat.beq j 101) 4 (5))))) (krC (ρ:=fun j=>cond (Nat.beq j 101) 4 (5)) (k:=101) rfl (krC (ρ:=fun j=>cond (Nat.beq j 101) 4 (5)) (k:=102) rfl (krN (ρ:=fun j=>cond (Nat.beq j 101) 4 (5))))) ⟨⟨rfl,(SupX.lit rfl)⟩,⟨rfl,(SupX.lit rfl)⟩,trivial⟩ rfl) qB qB trivial ?_)
 refine A3 ?_
 refine RE (x7 (k:=7) (n:=14) (agg:=true) zr29.1 zr29.2 rfl) trivial trivial qA ?_
 refine A11 ?_
 exact E1 rfl rfl Le.refl
theorem partE_idle {fs:List Ev} {h:Ev} {d:Int} (hi:idleE fs h.job d=true):partE fs h d=fr ((0:Int):Rat):=by rw [partE,if_pos hi]
theorem partE_some {fs:List Ev} {h:Ev} {d:Int} (hi:idleE fs h.job d=false) (hl:(lastE (pHours h d) fs).isSome=true):partE fs h d=((lastE (pHours h d) fs).getD ev0).part:=by
 rw [partE,if_neg (by rw [hi];decide)]
 cases hl2:lastE (pHours h d) fs with
 | none=>rw [hl2] at hl;cases hl
 | some e=>rfl
theorem partE_none {fs:List Ev} {h:Ev} {d:Int} (hi:idleE fs h.job d=false) (hl:(lastE (pHours h d) fs).isSome=false):partE fs h d=h.part:=by
 rw [partE,if_neg (by rw [hi];decide)]
 cases hl2:lastE (pHours h d) fs with
 | none=>rfl
 | some e=>rw [hl2] at hl;cases hl
theorem c_partOf (fs:List Ev) (hF:fs.length<=100) (h:Ev) (d:Int):
  Ct Tryz.prog 121 [tVw fs,tEv h,tI d] (tFr (partE fs h d)):=by
 refine Ct.intro Tryz.func121 rfl Tryz.ntmps121 rfl ?_
 intro w F
 refine A5 ?_
 refine RE (x7 (k:=6) (n:=4) (agg:=true) zr27.1 zr27.2 rfl) trivial trivial qA ?_
 refine A9 ?_
 refine R3 (x3 (c_idle fs hF h.job d) fi164 rfl) rfl rfl rfl ?_
 refine A2 ?_
 refine xc2 rfl (fun h66=> ?_) (fun h66=> ?_)
 ·
  refine A2 ?_
  refine R1 (x3 (xm5 0 (by decide) (by decide)) fi86 rfl) rfl ?_
  refine A5 ?_
  exact EC rfl ⟨_,_,_,_,_,rfl,rfl,ti27,(Le.of (by rw [partE_idle h66]))⟩
 ·
  refine A5 ?_
  refine R2 (xg8 (ps:=[.ptr 4 0,.ptr 5 0]) rfl) rfl rfl (RE (xb7 (fun j=>cond (Nat.beq j 101) 4 (5)) (c_lastPartof fs hF h d) fi165 rfl (krC (ρ:=fun j=>cond (Nat.beq j 101) 4 (5)) (k:=101) rfl (krC (ρ:=fun j=>cond (Nat.beq j 101) 4 (5)) (k:=102) rfl (krN (ρ:=fun j=>cond (Nat.beq j 101) 4 (5))))) (krC (ρ:=fun j=>cond (Nat.beq j 101) 4 (5)) (k:=101) rfl (krC (ρ:=fun j=>cond (Nat.beq j 101) 4 (5)) (k:=102) rfl (krN (ρ:=fun j=>cond (Nat.beq j 101) 4 (5))))) ⟨⟨rfl,(SupX.lit rfl)⟩,⟨rfl,(SupX.lit rfl)⟩,trivial⟩ rfl) qB qB trivial ?_)
  refine A3 ?_
  refine RE (x7 (k:=7) (n:=14) (agg:=true) zr29.1 zr29.2 rfl) trivial trivial qA ?_
  refine A10 ?_
  refine xc2 rfl (fun h72=> ?_) (fun h72=> ?_)
  ·
   refine A9 ?_
   exact EC rfl ⟨_,_,_,_,_,rfl,rfl,ti27,(Le.of (by rw [partE_some h66 h72]))⟩
  ·
   refine A10 ?_
   exact EC rfl ⟨_,_,_,_,_,rfl,rfl,ti27,(Le.of (by rw [partE_none h66 h72]))⟩
theorem payE_idle {fs:List Ev} {h:Ev} {d:Int} (hi:idleE fs h.job d=true):payE fs h d=fr ((0:Int):Rat):=by rw [payE,if_pos hi]
theorem payE_some {fs:List Ev} {h:Ev} {d:Int} (hi:idleE fs h.job d=false) (hl:(lastE (pPay h d) fs).isSome=true):payE fs h d=((lastE (pPay h d) fs).getD ev0).pay:=by
 rw [payE,if_neg (by rw [hi];decide)]
 cases hl2:lastE (pPay h d) fs with
 | none=>rw [hl2] at hl;cases hl
 | some e=>rfl
theorem payE_none {fs:List Ev} {h:Ev} {d:Int} (hi:idleE fs h.job d=false) (hl:(lastE (pPay h d) fs).isSome=false):payE fs h d=h.pay:=by
 rw [payE,if_neg (by rw [hi];decide)]
 cases hl2:lastE (pPay h d) fs with
 | none=>rfl
 | some e=>rw [hl2] at hl;cases hl
theorem c_payOf (fs:List Ev) (hF:fs.length<=100) (h:Ev) (d:Int):
  Ct Tryz.prog 123 [tVw fs,tEv h,tI d] (tFr (payE fs h d)):=by
 refine Ct.intro Tryz.func123 rfl Tryz.ntmps123 rfl ?_
 intro w F
 refine A5 ?_
 refine RE (x7 (k:=6) (n:=4) (agg:=true) zr27.1 zr27.2 rfl) trivial trivial qA ?_
 refine A9 ?_
 refine R3 (x3 (c_idle fs hF h.job d) fi164 rfl) rfl rfl rfl ?_
 refine A2 ?_
 refine xc2 rfl (fun h80=> ?_) (fun h80=> ?_)
 ·
  refine A2 ?_
  refine R1 (x3 (xm5 0 (by decide) (by decide)) fi86 rfl) rfl ?_
  refine A5 ?_
  exact EC rfl ⟨_,_,_,_,_,rfl,rfl,ti27,(Le.of (by rw [payE_idle h80]))⟩
 ·
  refine A5 ?_
  refine R2 (xg8 (ps:=[.ptr 4 0,.ptr 5 0]) rfl) rfl rfl (RE (xb7 (fun j=>cond (Nat.beq j 101) 4 (5)) (c_lastPayof fs hF h d) fi165 rfl (krC (ρ:=fun j=>cond (Nat.beq j 101) 4 (5)) (k:=101) rfl (krC (ρ:=fun j=>cond (Nat.beq j 101) 4 (5)) (k:=102) rfl (krN (ρ:=fun j=>cond (Nat.beq j 101) 4 (5))))) (krC (ρ:=fun j=>cond (Nat.beq j 101) 4 (5)) (k:=101) rfl (krC (ρ:=fun j=>cond (Nat.beq j 101) 4 (5)) (k:=102) rfl (krN (ρ:=fun j=>cond (Nat.beq j 101) 4 (5))))) ⟨⟨rfl,(SupX.lit rfl)⟩,⟨rfl,(SupX.lit rfl)⟩,trivial⟩ rfl) qB qB trivial ?_)
  refine A3 ?_
  refine RE (x7 (k:=7) (n:=14) (agg:=true) zr29.1 zr29.2 rfl) trivial trivial qA ?_
  refine A10 ?_
  refine xc2 rfl (fun h86=> ?_) (fun h86=> ?_)
  ·
   refine A9 ?_
   exact EC rfl ⟨_,_,_,_,_,rfl,rfl,ti27,(Le.of (by rw [payE_some h80 h86]))⟩
  ·
   refine A10 ?_
   exact EC rfl ⟨_,_,_,_,_,rfl,rfl,ti27,(Le.of (by rw [payE_none h80 h86]))⟩
theorem c_FAddM (a b:Rat) (f:Fr) (hf:f=fr b) (h1:short a) (h2:short b) (h3:short (a+b)):Ct Tryz.prog 127 [tFr (fr a),tFr f] (tT [tFr (fr (a+b)),tI 0]):=by
 have h:=c_FAdd a b h1 h2
 rw [resF,resFE,if_pos h3,if_pos h3] at h
 rw [hf];exact h
structure SumOk (f:List Ev->Ev->Int->Fr) (fs:List Ev) (d:Int):Prop where
  one: ∀h,h∈fs->h.knd=1->f fs h d=fr (f fs h d).rat/\short (f fs h d).rat
  all: ∀n,n<=8->short (sumQ f fs d n)
theorem hire_get {fs:List Ev} {job d:Int} (h:(hireE fs job d).isSome=true):hireE fs job d=some ((hireE fs job d).getD ev0):=by
 cases hh:hireE fs job d with
 | none=>rw [hh] at h;cases h
 | some e=>rfl
theorem hire_in {fs:List Ev} {job d:Int} (h:(hireE fs job d).isSome=true):(hireE fs job d).getD ev0∈fs/\((hireE fs job d).getD ev0).knd=1:=by
 have hg:=hire_get h
 generalize (hireE fs job d).getD ev0=e at*
 rw [hireE] at hg
 cases hl:lastE (pHire job d) fs with
 | none=>rw [hl] at hg;cases hg
 | some x=>
  rw [hl] at hg
  simp only at hg
  split at hg
  ·rename_i hk
   obtain rfl:=Option.some.inj hg
   exact ⟨((xu5 _ _).2 _ hl).1.1,hk⟩
  ·cases hg
theorem sum_yes {f:List Ev->Ev->Int->Fr} {fs:List Ev} {d:Int} {j:Nat} (h:(hireE fs ((j:Int)+1) d).isSome=true):sumQ f fs d (j+1)=sumQ f fs d j+(f fs ((hireE fs ((j:Int)+1) d).getD ev0) d).rat/\heldQ fs d (j+1)=true:=by
 have hg:=hire_get h
 refine ⟨?_,?_⟩
 ·rw [sumQ,addJ,show ((j+1:Nat):Int)=(j:Int)+1 by omega,hg];rfl
 ·rw [heldQ,show ((j+1:Nat):Int)=(j:Int)+1 by omega,h,Bool.or_true]
theorem sum_no {f:List Ev->Ev->Int->Fr} {fs:List Ev} {d:Int} {j:Nat} (h:(hireE fs ((j:Int)+1) d).isSome=false):sumQ f fs d (j+1)=sumQ f fs d j/\heldQ fs d (j+1)=heldQ fs d j:=by
 have hn:hireE fs ((j:Int)+1) d=none:=by
  cases hh:hireE fs ((j:Int)+1) d with
  | none=>rfl
  | some e=>rw [hh] at h;cases h
 refine ⟨?_,?_⟩
 ·rw [sumQ,addJ,show ((j+1:Nat):Int)=(j:Int)+1 by omega,hn];exact Rat.add_zero _
 ·rw [heldQ,show ((j+1:Nat):Int)=(j:Int)+1 by omega,hn,Option.isSome_none,Bool.or_false]
theorem c_sumPartof (fs:List Ev) (hF:fs.length<=100) (d:Int) (hs:SumOk partE fs d):
  Ct Tryz.prog 120 [tVw fs,tI d,tE (.func (.func 121) #[] #[])] (tT [tFr (fr (sumQ partE fs d 8)),tB (heldQ fs d 8)]):=by
 refine Ct.intro Tryz.func120 rfl Tryz.ntmps120 rfl ?_
 intro w F
 refine A3 ?_
 refine RE (x7 (k:=6) (n:=4) (agg:=true) zr27.1 zr27.2 rfl) trivial trivial qA ?_
 refine A5 ?_
 refine R1 (x3 (xm5 0 (by decide) (by decide)) fi86 rfl) rfl (RE (x7 (k:=8) (n:=4) (agg:=true) zr27.1 zr27.2 rfl) trivial trivial qA ?_)
 refine A15 ?_
 refine cL (fun (j:Nat)=>j<=8) (fun (j:Nat)=>uV (uV (uO (uO (uO (uV (uV uN 1 (tI d)) 2 (tE (.func (.func 121) #[] #[]))) 3 (.ptr 3 0)) 6 (.ptr 6 0)) 8 (.ptr 8 0)) 9 (tB (heldQ fs d j))) 10 (tI ((j:Int)+1))) (fun (j:Nat)=>uK (uK (uK uN 3 87 1 true [.val (tVw fs)]) 6 27 4 true [.val (tFr fr0)]) 8 27 4 true [.val (tFr (fr (sumQ partE fs d j)))]) [3,6,8] (fun (j:Nat)=>8 - j) (0) (by omega) (hh:=((SubK.consI rfl (ImpK.of rfl)) ((SubK.consI rfl (ImpK.of rfl)) (SubK.cons rfl SubK.nil)))) ?_
 intro j hI
 refine A7 ?_
 refine x6 rfl (fun h96=> ?_) (fun h96=> ?_)
 ·
  refine A9 ?_
  refine R3 (x3 (c_hire fs hF ((j:Int)+1) d) fi163 rfl) rfl rfl rfl ?_
  refine A3 ?_
  refine RE (x7 (k:=11) (n:=14) (agg:=true) zr29.1 zr29.2 rfl) trivial trivial qA ?_
  refine A9 ?_
  refine xc2 rfl (fun h97=> ?_) (fun h97=> ?_)
  ·
   refine A1 ?_
   have hy:=sum_yes (f:=partE) h97
   have hin:=hire_in h97
   refine A6 ?_
   refine Rt (xh7 (c_partOf fs hF ((hireE fs ((j:Int)+1) d).getD ev0) d) fi121 rfl) qD (R2 (x3 (c_FAddM (sumQ partE fs d j) _ _ (hs.one _ hin.1 hin.2).1 (hs.all j (by omega)) (hs.one _ hin.1 hin.2).2 (by rw [<-hy.1];exact hs.all (j+1) (by omega))) fi127 rfl) rfl rfl ?_)
   refine A16 ?_
   exact kF (j+1) ⟨(by omega),(by omega)⟩ (hg:=(sI ((Sub.consI rfl (Imp.of (by rw [hy.2]))) (sC (sC (sC (sC (sI Sub.nil)))))))) (hh:=((SubK.consI rfl (ImpK.of (by rw [hy.1];try rfl))) (SubK.cons rfl (SubK.cons rfl SubK.nil))))
  ·
   refine A8 ?_
   have hy:=sum_no (f:=partE) h97
   exact kF (j+1) ⟨(by omega),(by omega)⟩ (hg:=(sI ((Sub.consI rfl (Imp.of (by rw [hy.2]))) (sC (sC (sC (sC (sI Sub.nil)))))))) (hh:=((SubK.consI rfl (ImpK.of (by rw [hy.1];try rfl))) (SubK.cons rfl (SubK.cons rfl SubK.nil))))
 ·
  refine A14 ?_
  exact EN (rs:=[.cell 6 27,.tmp 7]) rfl rfl ⟨⟨_,_,_,_,_,rfl,rfl,ti27,(Le.of (by rw [show j=8 by omega]))⟩,⟨_,rfl,(Le.bool (by rw [show j=8 by omega]))⟩,trivial⟩
theorem c_sumPayof (fs:List Ev) (hF:fs.length<=100) (d:Int) (hs:SumOk payE fs d):
  Ct Tryz.prog 120 [tVw fs,tI d,tE (.func (.func 123) #[] #[])] (tT [tFr (fr (sumQ payE fs d 8)),tB (heldQ fs d 8)]):=by
 refine Ct.intro Tryz.func120 rfl Tryz.ntmps120 rfl ?_
 intro w F
 refine A3 ?_
 refine RE (x7 (k:=6) (n:=4) (agg:=true) zr27.1 zr27.2 rfl) trivial trivial qA ?_
 refine A5 ?_
 refine R1 (x3 (xm5 0 (by decide) (by decide)) fi86 rfl) rfl (RE (x7 (k:=8) (n:=4) (agg:=true) zr27.1 zr27.2 rfl) trivial trivial qA ?_)
 refine A15 ?_
 refine cL (fun (j:Nat)=>j<=8) (fun (j:Nat)=>uV (uV (uO (uO (uO (uV (uV uN 1 (tI d)) 2 (tE (.func (.func 123) #[] #[]))) 3 (.ptr 3 0)) 6 (.ptr 6 0)) 8 (.ptr 8 0)) 9 (tB (heldQ fs d j))) 10 (tI ((j:Int)+1))) (fun (j:Nat)=>uK (uK (uK uN 3 87 1 true [.val (tVw fs)]) 6 27 4 true [.val (tFr fr0)]) 8 27 4 true [.val (tFr (fr (sumQ payE fs d j)))]) [3,6,8] (fun (j:Nat)=>8 - j) (0) (by omega) (hh:=((SubK.consI rfl (ImpK.of rfl)) ((SubK.consI rfl (ImpK.of rfl)) (SubK.cons rfl SubK.nil)))) ?_
 intro j hI
 refine A7 ?_
 refine x6 rfl (fun h96=> ?_) (fun h96=> ?_)
 ·
  refine A9 ?_
  refine R3 (x3 (c_hire fs hF ((j:Int)+1) d) fi163 rfl) rfl rfl rfl ?_
  refine A3 ?_
  refine RE (x7 (k:=11) (n:=14) (agg:=true) zr29.1 zr29.2 rfl) trivial trivial qA ?_
  refine A9 ?_
  refine xc2 rfl (fun h97=> ?_) (fun h97=> ?_)
  ·
   refine A1 ?_
   have hy:=sum_yes (f:=payE) h97
   have hin:=hire_in h97
   refine A6 ?_
   refine Rt (xh7 (c_payOf fs hF ((hireE fs ((j:Int)+1) d).getD ev0) d) fi123 rfl) qD (R2 (x3 (c_FAddM (sumQ payE fs d j) _ _ (hs.one _ hin.1 hin.2).1 (hs.all j (by omega)) (hs.one _ hin.1 hin.2).2 (by rw [<-hy.1];exact hs.all (j+1) (by omega))) fi127 rfl) rfl rfl ?_)
   refine A16 ?_
   exact kF (j+1) ⟨(by omega),(by omega)⟩ (hg:=(sI ((Sub.consI rfl (Imp.of (by rw [hy.2]))) (sC (sC (sC (sC (sI Sub.nil)))))))) (hh:=((SubK.consI rfl (ImpK.of (by rw [hy.1];try rfl))) (SubK.cons rfl (SubK.cons rfl SubK.nil))))
  ·
   refine A8 ?_
   have hy:=sum_no (f:=payE) h97
   exact kF (j+1) ⟨(by omega),(by omega)⟩ (hg:=(sI ((Sub.consI rfl (Imp.of (by rw [hy.2]))) (sC (sC (sC (sC (sI Sub.nil)))))))) (hh:=((SubK.consI rfl (ImpK.of (by rw [hy.1];try rfl))) (SubK.cons rfl (SubK.cons rfl SubK.nil))))
 ·
  refine A14 ?_
  exact EN (rs:=[.cell 6 27,.tmp 7]) rfl rfl ⟨⟨_,_,_,_,_,rfl,rfl,ti27,(Le.of (by rw [show j=8 by omega]))⟩,⟨_,rfl,(Le.bool (by rw [show j=8 by omega]))⟩,trivial⟩
theorem dy_next {fs:List Ev} {i:Nat} (hi:i < fs.length):(fs.take (i+1)).flatMap dyE=(fs.take i).flatMap dyE++dyE (fs.getD i ev0):=by
 rw [List.take_succ_eq_append_getElem hi,List.flatMap_append,List.getD_eq_getElem?_getD,List.getElem?_eq_getElem hi];simp
theorem dy_len: ∀fs:List Ev,(fs.flatMap dyE).length<=2*fs.length
 | []=>Nat.le_refl _
 | e::r=>by
  have:=dy_len r
  have:(dyE e).length<=2:=by
   rw [dyE]
   split
   ·exact Nat.zero_le _
   ·split
    ·exact Nat.le_refl _
    ·exact Nat.le_succ _
  rw [List.flatMap_cons,List.length_append,List.length_cons];omega
theorem c_days (fs:List Ev) (hF:fs.length<=100):
  Ct Tryz.prog 118 [tVw fs] (tL 1 false tI (dyF fs)):=by
 refine Ct.intro Tryz.func118 rfl Tryz.ntmps118 rfl ?_
 intro w F
 refine A8 ?_
 refine RE (xe3 (k:=3) 3 1 false rfl (fun _=>rfl)) trivial trivial qA ?_
 refine A6 ?_
 refine xe1 (0) ti22 rfl rfl rfl (At.g 0 rfl (rfl)) rfl ?_
 refine A5 ?_
 refine cL (fun (i:Nat)=>i<=fs.length) (fun (i:Nat)=>uV (uV (uV (uO uN 3 (.sl 3 1 0 ((fs.take i).flatMap dyE).length)) 7 (tL 14 true tEv fs)) 8 (tI fs.length)) 9 (tI i)) (fun (i:Nat)=>uK uN 3 3 1 false (rV tI ((fs.take i).flatMap dyE))) [3] (fun (i:Nat)=>fs.length - i) (0) (Nat.zero_le _) ?_
 intro i hI
 have hxl:((fs.take i).flatMap dyE).length<=2*i:=by have:=dy_len (fs.take i);rw [List.length_take] at this;omega
 refine A6 ?_
 refine x6 rfl (fun h108=> ?_) (fun h108=> ?_)
 ·
  refine A6 ?_
  refine R2 (x4 sl22 (i) (by omega) (gD (l:=fs) (n:=i) (d:=ev0) (by omega))) rfl rfl ?_
  refine A1 ?_
  refine RE (x7 (k:=5) (n:=14) (agg:=true) zr29.1 zr29.2 rfl) trivial trivial qA ?_
  refine A11 ?_
  refine x6 rfl (fun h109=> ?_) (fun h109=> ?_)
  ·
   refine A8 ?_
   have hnx:(fs.take (i+1)).flatMap dyE=((fs.take i).flatMap dyE)++[]:=by rw [dy_next (by omega),dyE,if_pos (by omega)]
   exact kF (i+1) ⟨(by omega),(by omega)⟩ (hg:=(sI (sI (sC ((Sub.consI rfl (Imp.of (by rw [hnx,List.append_nil]))) Sub.nil))))) (hh:=((SubK.consI rfl (ImpK.of (by rw [hnx,List.append_nil]))) SubK.nil))
  ·
   refine A7 ?_
   refine R1 (xb5 (n:=1) (f:=fun n:Int=>tI n) [((fs.getD i ev0).day)] Tryz.underlying43 el3 zf3 rfl (fun _=>inferInstance) rfl rfl rfl) rfl (RE (xk5 (k:=3) (k':=20) (f:=fun n:Int=>tI n) ((fs.take i).flatMap dyE) ((fs.getD i ev0).day) Tryz.underlying43 el3 zf3 rfl rfl (fun _=>inferInstance) rfl ⟨by omega,by omega⟩ rfl) qB qA qA ?_)
   refine A9 ?_
   refine RGcaseD (t:=24) rfl (fun h113=> ?_) (fun h113=> ?_)
   ·
    refine A6 ?_
    refine x6 rfl (fun h113_2=> ?_) (fun h113_2=> ?_)
    ·
     refine A4 ?_
     refine R1 (xb5 (n:=1) (f:=fun n:Int=>tI n) [((fs.getD i ev0).hi)] Tryz.underlying43 el3 zf3 rfl (fun _=>inferInstance) rfl rfl rfl) rfl (RE (xk5 (k:=20) (k':=33) (f:=fun n:Int=>tI n) (((fs.take i).flatMap dyE)++[(fs.getD i ev0).day]) ((fs.getD i ev0).hi) Tryz.underlying43 el3 zf3 rfl rfl (fun _=>inferInstance) (by rw [List.length_append];rfl) ⟨by omega,by omega⟩ rfl) qB qA qA ?_)
     refine A8 ?_
     have hnx:(fs.take (i+1)).flatMap dyE=((fs.take i).flatMap dyE)++[(fs.getD i ev0).day,(fs.getD i ev0).hi]:=by rw [dy_next (by omega),dyE,if_neg (by omega),if_pos (by omega)]
     exact xc6 (l:=[3]) (fun j=>cond (Nat.beq j 3) 33 (j)) (i+1) ⟨(by omega),(by omega)⟩ (SubR.int rfl (by first | omega | rfl | (dsimp only;omega)) (SubR.int rfl (by first | omega | rfl | (dsimp only;omega)) (SubR.cons rfl ((SubR.consI rfl (Imp.of (by rw [hnx,List.length_append];rfl))) SubR.nil)))) ((SubKR.consI rfl (ImpK.of (by rw [hnx,show ((fs.take i).flatMap dyE)++[(fs.getD i ev0).day,(fs.getD i ev0).hi]=((fs.take i).flatMap dyE)++[(fs.getD i ev0).day]++[(fs.getD i ev0).hi] by simp];exact xa6.symm))) SubKR.nil) (SupG.val (SupG.val (SupG.val (SupG.own rfl SupG.nil)))) (SupH.cons rfl (supJ xa5) SupH.nil) (lkOk rfl) rfl rfl (fun _ h=>by cases h)
    ·
     refine A7 ?_
     have hnx:(fs.take (i+1)).flatMap dyE=((fs.take i).flatMap dyE)++[(fs.getD i ev0).day]:=by rw [dy_next (by omega),dyE,if_neg (by omega),if_neg (by omega)]
     exact xc6 (l:=[3]) (fun j=>cond (Nat.beq j 3) 20 (j)) (i+1) ⟨(by omega),(by omega)⟩ (SubR.int rfl (by first | omega | rfl | (dsimp only;omega)) (SubR.int rfl (by first | omega | rfl | (dsimp only;omega)) (SubR.cons rfl ((SubR.consI rfl (Imp.of (by rw [hnx,List.length_append];rfl))) SubR.nil)))) ((SubKR.consI rfl (ImpK.of (by rw [hnx];exact xa6.symm))) SubKR.nil) (SupG.val (SupG.val (SupG.val (SupG.own rfl SupG.nil)))) (SupH.cons rfl (supJ xa5) SupH.nil) (lkOk rfl) rfl rfl (fun _ h=>by cases h)
   ·
    refine A14 ?_
    have hnx:(fs.take (i+1)).flatMap dyE=((fs.take i).flatMap dyE)++[(fs.getD i ev0).day]:=by rw [dy_next (by omega),dyE,if_neg (by omega),if_neg (by omega)]
    exact xc6 (l:=[3]) (fun j=>cond (Nat.beq j 3) 20 (j)) (i+1) ⟨(by omega),(by omega)⟩ (SubR.int rfl (by first | omega | rfl | (dsimp only;omega)) (SubR.int rfl (by first | omega | rfl | (dsimp only;omega)) (SubR.cons rfl ((SubR.consI rfl (Imp.of (by rw [hnx,List.length_append];rfl))) SubR.nil)))) ((SubKR.consI rfl (ImpK.of (by rw [hnx];exact xa6.symm))) SubKR.nil) (SupG.val (SupG.val (SupG.val (SupG.own rfl SupG.nil)))) (SupH.cons rfl (supJ xa5) SupH.nil) (lkOk rfl) rfl rfl (fun _ h=>by cases h)
 ·
  refine A8 ?_
  refine RE (xb7 (fun _=>3) (c_SortI ((fs.take i).flatMap dyE) (by omega)) fi43 rfl (krC (ρ:=fun _=>3) (k:=1) xa6 (krN (ρ:=fun _=>3))) (krC (ρ:=fun _=>3) (k:=1) xa6 (krN (ρ:=fun _=>3))) ⟨⟨rfl,xa5⟩,trivial⟩ rfl) qA qA trivial ?_
  refine A3 ?_
  have hsl:=srtI_len ((fs.take i).flatMap dyE)
  refine A2 ?_
  refine RE (xb7 (fun _=>3) (c_CompactS ((fs.take i).flatMap dyE)) fi45 rfl (krC (ρ:=fun _=>3) (k:=1) xa6 (krN (ρ:=fun _=>3))) (krC (ρ:=fun _=>3) (k:=1) xa6 (krN (ρ:=fun _=>3))) ⟨⟨rfl,xa5⟩,trivial⟩ rfl) qA qA trivial (RE (xk0 (f:=tI) (xs:=brd ((fs.take i).flatMap dyE)) (fun _ h=>h) (xg2 rfl) rfl) qA qA trivial ?_)
  refine A3 ?_
  exact E1 rfl rfl (Le.of (by rw [show i=fs.length by omega,List.take_length];rfl))
end An.S
namespace An
open Go An.S
def frB (D B:Int) (f:Fr):Prop:= ∃k:Int,(0<=k/\k<=B)/\f=fr (Rat.divInt k D)
def gE (D B:Int) (F:List Ev):Prop:= ∀e∈F,(uPart e.knd=true->frB D B e.part)/\(uPay e.knd=true->frB D B e.pay)
section
variable {D B:Int} {F:List Ev}
theorem frB_zero (hB:0<=B):frB D B (fr ((0:Int):Rat)):=⟨0,⟨by omega,hB⟩,by rw [Rat.zero_divInt];rfl⟩
theorem frB.rat {f:Fr} (h:frB D B f): ∃k:Int,(0<=k/\k<=B)/\f.rat=Rat.divInt k D:=by
 obtain ⟨k,hk,rfl⟩:=h
 exact ⟨k,hk,xp4 _⟩
theorem hire_some {job d:Int} {h:Ev} (hh:hireE F job d=some h):h∈F/\h.knd=1/\h.job=job/\h.day<=d:=by
 rw [hireE] at hh
 cases hl:lastE (pHire job d) F with
 | none=>rw [hl] at hh;cases hh
 | some e=>
  rw [hl] at hh
  simp only at hh
  split at hh
  ·rename_i hk
   obtain rfl:=Option.some.inj hh
   obtain ⟨⟨h1,h2⟩,_⟩:=(xu5 _ _).2 _ hl
   simp only [pHire,Bool.and_eq_true,decide_eq_true_eq] at h2
   exact ⟨h1,hk,h2.1.1,h2.1.2⟩
  ·cases hh
theorem part_B (hg:gE D B F) (hB:0<=B) {h:Ev} (hm:h∈F) (hk:h.knd=1) (d:Int):frB D B (partE F h d):=by
 rw [partE]
 split
 ·exact frB_zero hB
 ·cases hl:lastE (pHours h d) F with
  | none=>exact (hg h hm).1 (by rw [hk];rfl)
  | some e=>
   obtain ⟨⟨h1,h2⟩,_⟩:=(xu5 _ _).2 _ hl
   simp only [pHours,Bool.and_eq_true,decide_eq_true_eq] at h2
   exact (hg e h1).1 (by rw [h2.1.1.1.1];rfl)
theorem pay_B (hg:gE D B F) (hB:0<=B) {h:Ev} (hm:h∈F) (hk:h.knd=1) (d:Int):frB D B (payE F h d):=by
 rw [payE]
 split
 ·exact frB_zero hB
 ·cases hl:lastE (pPay h d) F with
  | none=>exact (hg h hm).2 (by rw [hk];rfl)
  | some e=>
   obtain ⟨⟨h1,h2⟩,_⟩:=(xu5 _ _).2 _ hl
   simp only [pPay,Bool.and_eq_true,decide_eq_true_eq] at h2
   exact (hg e h1).2 (by rw [h2.1.1.1];rfl)
theorem addJ_B {f:List Ev->Ev->Int->Fr} (hB:0<=B) {d:Int} (hf: ∀h,h∈F->h.knd=1->frB D B (f F h d)) (job:Nat): ∃k:Int,(0<=k/\k<=B)/\addJ f F d job=Rat.divInt k D:=by
 rw [addJ]
 cases hh:hireE F (job:Int) d with
 | none=>exact ⟨0,⟨by omega,hB⟩,by rw [Rat.zero_divInt];rfl⟩
 | some h=>
  obtain ⟨h1,h2,_⟩:=hire_some hh
  exact (hf h h1 h2).rat
theorem sumQ_B {f:List Ev->Ev->Int->Fr} (hD:0 < D) (hB:0<=B) {d:Int} (hf: ∀h,h∈F->h.knd=1->frB D B (f F h d)): ∀n:Nat,∃k:Int,(0<=k/\k<=(n:Int)*B)/\sumQ f F d n=Rat.divInt k D
 | 0=>⟨0,⟨by omega,by simp⟩,by rw [Rat.zero_divInt];rfl⟩
 | n+1=>by
  obtain ⟨k,⟨h1,h2⟩,h3⟩:=sumQ_B hD hB hf n
  obtain ⟨j,⟨g1,g2⟩,g3⟩:=addJ_B hB hf (n+1)
  refine ⟨k+j,⟨by omega,?_⟩,by rw [sumQ,h3,g3,addG hD]⟩
  rw [show ((n+1:Nat):Int)=(n:Int)+1 by omega,Int.add_mul,Int.one_mul];omega
theorem crd_B (hg:gE D B F) (hD:0 < D): ∀{G:List Ev},(∀e∈G,e∈F/\e.knd=6)-> ∃k:Int,(0<=k/\k<=(G.length:Int)*B)/\G.foldl (fun q e=>q+e.part.rat) ((0:Int):Rat)=Rat.divInt k D:=fun {G} hG=>
 xs4 (C:=fun G=>(∀e∈G,e∈F/\e.knd=6)-> ∃k:Int,(0<=k/\k<=(G.length:Int)*B)/\G.foldl (fun q e=>q+e.part.rat) ((0:Int):Rat)=Rat.divInt k D)
  (fun _=>⟨0,⟨by omega,by simp⟩,by rw [Rat.zero_divInt];rfl⟩)
  (fun G x ih hG=>by
   obtain ⟨k,⟨h1,h2⟩,h3⟩:=ih fun e he=>hG e (List.mem_append_left _ he)
   obtain ⟨hx,hk⟩:=hG x (by simp)
   obtain ⟨j,⟨g1,g2⟩,g3⟩:=((hg x hx).1 (by rw [hk];rfl)).rat
   refine ⟨k+j,⟨by omega,?_⟩,by rw [List.foldl_append,h3];show _+x.part.rat=_;rw [g3,addG hD]⟩
   rw [List.length_append,List.length_singleton,show ((G.length+1:Nat):Int)=(G.length:Int)+1 by omega,Int.add_mul,Int.one_mul];omega) G.length G rfl hG
theorem one_B (hD:0 < D) {k:Int} (h0:0<=k): ∃j:Int,(0<=j/\j<=k/\j<=D)/\oneQ (Rat.divInt k D)=Rat.divInt j D:=by
 rw [oneQ]
 have e1:((1:Int):Rat)=Rat.divInt D D:=by
  rw [int_div 1]
  exact (Rat.divInt_eq_divInt_iff (by decide) (by omega)).2 (by omega)
 split
 ·rename_i h
  refine ⟨D,⟨by omega,?_,Int.le_refl _⟩,e1⟩
  have h': ¬Rat.divInt k D<=((1:Int):Rat):=Rat.not_le.2 h
  rw [int_div 1,le_dv hD (by decide)] at h'
  omega
 ·rename_i h
  have h':=Rat.not_lt.1 h
  rw [int_div 1,le_dv hD (by decide)] at h'
  exact ⟨k,⟨h0,Int.le_refl _,by omega⟩,rfl⟩
theorem kQ_B (K:Nat) (hg:gE D B F) (hD:0 < D) (hB:0<=B) (hl:F.length<=100) {d:Int} {q:Rat} (h:kQ K F d=some q): ∃k:Int,(0<=k/\k<=100*B)/\(K=1->k<=D)/\q=Rat.divInt k D:=by
 match K,h with
 | 0,h=>
  have h:crdQ F d=some q:=h
  rw [crdQ] at h
  split at h
  ·cases h
  ·obtain rfl:=Option.some.inj h
   obtain ⟨k,⟨h1,h2⟩,h3⟩:=crd_B hg hD (G:=crdL F d) fun e he=>by
    obtain ⟨a,b⟩:=List.mem_filter.1 he
    simp only [Bool.and_eq_true,decide_eq_true_eq] at b
    exact ⟨a,b.1⟩
   refine ⟨k,⟨h1,Int.le_trans h2 (Int.mul_le_mul_of_nonneg_right ?_ hB)⟩,fun h=>(by cases h),h3⟩
   have:(crdL F d).length<=F.length:=List.length_filter_le ..
   omega
 | 1,h=>
  have h:fteQ F d=some q:=h
  rw [fteQ] at h
  split at h
  ·obtain rfl:=Option.some.inj h
   obtain ⟨k,⟨h1,h2⟩,h3⟩:=sumQ_B (f:=partE) hD hB (F:=F) (d:=d) (fun g hm hk=>part_B hg hB hm hk d) 8
   obtain ⟨j,⟨g1,g2,g3⟩,g4⟩:=one_B hD h1
   exact ⟨j,⟨g1,by omega⟩,fun _=>g3,by rw [h3,g4]⟩
  ·cases h
 | K+2,h=>
  have h:payQ F d=some q:=h
  rw [payQ] at h
  split at h
  ·obtain rfl:=Option.some.inj h
   obtain ⟨k,⟨h1,h2⟩,h3⟩:=sumQ_B (f:=payE) hD hB (F:=F) (d:=d) (fun g hm hk=>pay_B hg hB hm hk d) 8
   exact ⟨k,⟨h1,by omega⟩,fun h=>(by omega),h3⟩
  ·cases h
theorem kG_ok (K:Nat) (hg:gE D B F) (hD:0 < D) (hDb:D<=9223372036854775807) (hB:0<=B) (hBb:B<=92233720368547758) (hl:F.length<=100) {d:Int} {v:Va} (h:kG K F d=some v):gOk (kK K) D (100*B) v:=by
 obtain ⟨q,hq,rfl⟩:=Option.map_eq_some_iff.1 h
 obtain ⟨k,⟨h1,h2⟩,_,rfl⟩:=kQ_B K hg hD hB hl hq
 exact gOk.mk (by rw [kK];split <;> omega) hD hDb (by omega) (by omega) (by omega)
theorem mT_ok (K:Nat) (hc:calE F) (hg:gE D B F) (hD:0 < D) (hDb:D<=9223372036854775807) (hB:0<=B) (hBb:B<=92233720368547758) (hl:F.length<=100):isG (kK K) D (100*B) (mT K F):=by
 refine isG_pst ((segL_pw (kD_pw2 hc)).2.imp (S:=fun s t:Tst=>s.lo < s.hi->s.hi<=t.lo) fun h' _=>h') fun s hs _=> ?_
 obtain ⟨h1,h2,h3⟩:=segL_mem hs
 have hb: ∀x∈kD K F++[65536],0<=x/\x<=65536:=fun x hx=>by
  rcases List.mem_append.1 hx with h | h
  ·have:=kD_bd hc x h;omega
  ·rw [List.mem_singleton.1 h];decide
 have:=hb _ h1
 have:=hb _ h2
 exact ⟨by omega,kG_ok K hg hD hDb hB hBb hl h3⟩
theorem dyE_len (e:Ev):(dyE e).length<=2:=by
 rw [dyE]
 split
 ·exact Nat.zero_le _
 ·split
  ·exact Nat.le_refl _
  ·exact Nat.le_succ _
theorem flat2: ∀F:List Ev,(F.flatMap dyE).length<=2*F.length
 | []=>Nat.le_refl _
 | e::r=>by rw [List.flatMap_cons,List.length_append,List.length_cons];have:=flat2 r;have:=dyE_len e;omega
theorem kD_len (K:Nat):(kD K F).length<=2*F.length:=by
 rw [kD]
 split
 ·rw [dyC]
  have h1:=brd_len ((F.filter fun e=>decide (e.knd=6)).map (·.day))
  rw [List.length_map] at h1
  have h2:=List.length_filter_le (fun e:Ev=>decide (e.knd=6)) F
  omega
 ·rw [dyF];have h1:=brd_len (F.flatMap dyE);have h2:=flat2 F;omega
theorem mT_len (K:Nat):(mT K F).length<=2*F.length+1:=by
 have h:=pst_len (segL (kG K F) (kD K F++[65536])) []
 have h2:=segL_len (g:=kG K F) (kD K F++[65536])
 have h3:=kD_len (F:=F) K
 rw [mT];simp only [List.length_nil,List.length_append,List.length_singleton] at h h2 ⊢;omega
theorem inf_cal {l:List Ev} {kn:Int} (hv: ∀i,i < l.length->EOk l i):calE (inf l kn):=fun e he=>by
 obtain ⟨i,hi,_,rfl⟩:=inf_mem he
 exact ⟨(hv i hi).days,(hv i hi).his⟩
theorem inf_gE {l:List Ev} {kn:Int} (h:gE D B l):gE D B (inf l kn):=fun e he=>by
 obtain ⟨i,hi,_,rfl⟩:=inf_mem he
 exact h _ (by rw [List.getD_eq_getElem?_getD,List.getElem?_eq_getElem hi];exact List.getElem_mem hi)
end
end An
namespace An.S
open Go Go.Proofs An
instance fi117:FnI Tryz.prog 117:=⟨_,Tryz.func117,by kernel_rfl,rfl⟩
instance fi118:FnI Tryz.prog 118:=⟨_,Tryz.func118,by kernel_rfl,rfl⟩
instance fi119:FnI Tryz.prog 119:=⟨_,Tryz.func119,by kernel_rfl,rfl⟩
instance fi120:FnI Tryz.prog 120:=⟨_,Tryz.func120,by kernel_rfl,rfl⟩
instance fi122:FnI Tryz.prog 122:=⟨_,Tryz.func122,by kernel_rfl,rfl⟩
abbrev eD (ds:List Int):List Int:=ds++[65536]
theorem c_stepsOne (ds:List Int) (hds:(ds++[65536]).Pairwise (· < ·)) (hdl:ds.length<=1000) (fs:List Ev) (kk cf:Nat) (vv:Int->Rat) (hfn:FnI Tryz.prog cf) (hcc: ∀d,CtG Tryz.prog cf [(1,⟨87,1,true,[.val (tVw fs)]⟩)] [.val (tI d),.own (.ptr 1 0)] (.val (tT [tFr (fr (vv d)),tB (heldQ fs d 8)])) [(1,⟨87,1,true,[.val (tVw fs)]⟩)] []):
  CtG Tryz.prog 117 [(101,⟨87,1,true,[.val (tVw fs)]⟩)] [.val (tL 1 false tI ds),.val (tE (.int .u8 (kk:Int))),.own (.fn cf [.ptr 101 0])] (.val (tL 8 true tTs (pst [] (segL (stG (fun d=>heldQ fs d 8) vv kk) (ds++[65536]))))) [(101,⟨87,1,true,[.val (tVw fs)]⟩)] []:=by
 refine CtG.intro [101] Tryz.func117 rfl Tryz.ntmps117 rfl rfl ⟨⟨rfl,(SupX.lit rfl)⟩,trivial⟩ ?_
 intro w F η
 refine A7 ?_
 refine RE (xe3 (k:=7) 69 8 true rfl (fun h=>by cases h)) trivial trivial qA ?_
 refine A11 ?_
 refine cL (fun (fm:(Nat)×(List Tst))=>(fun (k:Nat) (xs:List Tst)=>k<=ds.length/\xs=(stK (fun d=>heldQ fs d 8) vv kk ds k)) fm.1 fm.2) (wB fun (k:Nat) (xs:List Tst)=>uV (uV (uV (uO (uO (uV (uV uN 0 (tL 1 false tI ds)) 1 (tE (.int .u8 (kk:Int)))) 2 (.fn cf [.ptr 101 0])) 7 (.sl 7 8 0 xs.length)) 14 (tL 1 false tI ds)) 15 (tI ds.length)) 16 (tI k)) (wB fun (k:Nat) (xs:List Tst)=>uK (uK uN 7 69 8 true (rV tTs xs)) 101 87 1 true [.val (tVw fs)]) [7,101] (fun (fm:(Nat)×(List Tst))=>(fun (k:Nat) (xs:List Tst)=>ds.length - k) fm.1 fm.2) ((0,[])) (by dsimp only;exact ⟨Nat.zero_le _,rfl⟩) ?_
 intro fm hI
 obtain ⟨k,xs⟩:=fm
 replace hI:k<=ds.length/\xs=(stK (fun d=>heldQ fs d 8) vv kk ds k):=hI
 show wc _ _ _ _ (uV (uV (uV (uO (uO (uV (uV uN 0 (tL 1 false tI ds)) 1 (tE (.int .u8 (kk:Int)))) 2 (.fn cf [.ptr 101 0])) 7 (.sl 7 8 0 xs.length)) 14 (tL 1 false tI ds)) 15 (tI ds.length)) 16 (tI k)) (uK (uK uN 7 69 8 true (rV tTs xs)) 101 87 1 true [.val (tVw fs)]) _
 have hx:xs=(stK (fun d=>heldQ fs d 8) vv kk ds k):=hI.2
 have hk:=hI.1
 have hxl:xs.length<=k:=by rw [hx];exact stK_len
 refine A6 ?_
 refine x6 rfl (fun h124=> ?_) (fun h124=> ?_)
 ·
  refine A7 ?_
  refine R2 (x4 sl43 (k) (by omega) (gD (l:=ds) (n:=k) (d:=0) (by omega))) rfl rfl ?_
  refine A10 ?_
  refine xf0 (fun (_j:Unit)=>True) (fun (_j:Unit)=>uV (uV (uV (uV (uV (uV (uO (uO (uV (uV uN 0 (tL 1 false tI ds)) 1 (tE (.int .u8 (kk:Int)))) 2 (.fn cf [.ptr 101 0])) 7 (.sl 7 8 0 xs.length)) 14 (tL 1 false tI ds)) 15 (tI ds.length)) 16 (tI k)) 8 (tI k)) 9 (tI (ds.getD k 0))) 10 (tI ((eD ds).getD (k+1) 0))) (fun (_j:Unit)=>uK (uK uN 7 69 8 true (rV tTs xs)) 101 87 1 true [.val (tVw fs)]) (nm [7,101]) ?_ ?_
  ·
   refine A9 ?_
   refine x6 rfl (fun h126=> ?_) (fun h126=> ?_)
   ·
    refine A4 ?_
    refine R2 (x4 sl43 (k+1) (by omega) (gD (l:=ds) (n:=k+1) (d:=0) (by omega))) rfl rfl ?_
    refine A3 ?_
    exact kF (()) trivial (hg:=((Sub.consI rfl (Imp.int (endD_at (by omega)).symm)) (sI (sI (sI (sI (sC (sC (sC (sI (sC Sub.nil)))))))))))
   ·
    refine A1 ?_
    exact kF (()) trivial (hg:=((Sub.consI rfl (Imp.int (endD_end (by omega)).symm)) (sI (sI (sI (sI (sC (sC (sC (sI (sC Sub.nil)))))))))))
  ·
   intro _j hj126
   refine A4 ?_
   refine RE (xi9 (ps:=[.val (tI _)]) (caps:=[.ptr 1 0]) (fun _=>101) (hcc (ds.getD k 0)) hfn rfl (krC (ρ:=fun _=>101) (k:=1) rfl (krN (ρ:=fun _=>101))) (krC (ρ:=fun _=>101) (k:=1) rfl (krN (ρ:=fun _=>101))) ⟨⟨rfl,(SupX.lit rfl)⟩,trivial⟩ rfl) qB qA trivial ?_
   refine A3 ?_
   refine RE (x7 (k:=11) (n:=4) (agg:=true) zr27.1 zr27.2 rfl) trivial trivial qA ?_
   refine A11 ?_
   refine xc2 rfl (fun h130=> ?_) (fun h130=> ?_)
   ·
    have hb:(fun d=>heldQ fs d 8) (ds.getD k 0)=false:=by simpa using h130
    refine A8 ?_
    exact kF ((k+1,xs)) ⟨(by dsimp only;exact ⟨by omega,by rw [stK_none (by omega) hb];exact hx⟩),(by dsimp only;omega)⟩
   ·
    have hb:(fun d=>heldQ fs d 8) (ds.getD k 0)=true:=by simpa using h130
    refine A4 ?_
    have hpd:=pw_lt hds (show k < k+1 by omega) (by rw [List.length_append];simp;omega)
    rw [endD_at (by omega)] at hpd
    refine A11 ?_
    refine RGcaseD (t:=43) rfl (fun h133=> ?_) (fun h133=> ?_)
    ·
     refine A2 ?_
     refine Rg (decide_eq_true h133) rfl (xd6 (wr64 (by omega) (by omega))) rfl qB (Rg (decide_eq_true h133) rfl (xa2 sl44 (by omega) (by omega) rfl) rfl qB ?_)
     refine A1 ?_
     refine RGon (decide_eq_true h133) rfl (xj6 (es:=8) (o:=1) (xs.length - 1) ti3 (xc4 (d:=tst0) (by omega)) (At.g 1 rfl rfl) (by omega)) rfl qA qA trivial ?_
     refine A4 ?_
     refine RGcaseD (t:=53) rfl (fun h133_2=> ?_) (fun h133_2=> ?_)
     ·
      refine A2 ?_
      refine Rg (decide_eq_true h133_2) rfl (xd6 (wr64 (by omega) (by omega))) rfl qB (Rg (decide_eq_true h133_2) rfl (xa2 sl44 (by omega) (by omega) rfl) rfl qB ?_)
      refine A2 ?_
      refine RGon (decide_eq_true h133_2) rfl (xj6 (es:=8) (o:=3) (xs.length - 1) ti27 (xc4 (d:=tst0) (by omega)) (At.t (o1:=2) (n1:=6) (t1:=tVa (xs.getD (xs.length - 1) tst0).v) (o2:=1) (At.g 2 rfl rfl) (At.g 1 rfl rfl)) (by omega)) rfl qA qA trivial ?_
      refine A1 ?_
      refine Rg (decide_eq_true h133_2) rfl (x3 (xk8 _ _) fi92 rfl) rfl qB ?_
      refine A3 ?_
      refine x6 rfl (fun h133_3=> ?_) (fun h133_3=> ?_)
      ·
       refine A6 ?_
       refine R2 (xa2 sl44 (by omega) (by omega) rfl) rfl rfl ?_
       refine A1 ?_
       refine RE (xj2 (es:=8) (o:=1) (t2:=tTs ⟨(xs.getD (xs.length - 1) tst0).lo,((eD ds).getD (k+1) 0),(xs.getD (xs.length - 1) tst0).v⟩) (xs.length - 1) ti3 (xc4 (d:=tst0) (by omega)) (Up.g 1 rfl rfl rfl) (by omega) (xi3 rfl)) qB qA trivial ?_
       refine A10 ?_
       exact kF ((k+1,(xs.set (xs.length - 1) ⟨(xs.getD (xs.length - 1) tst0).lo,((eD ds).getD (k+1) 0),(xs.getD (xs.length - 1) tst0).v⟩))) ⟨(by dsimp only;exact ⟨by omega,by rw [xo2 (by omega) hb,<-hx,pst1,if_neg (by dsimp only;omega),if_pos ⟨by omega,by dsimp only;omega,by rw [hx] at h133_3 ⊢;exact stK_last (by rw [<-hx];omega) h133_3⟩]⟩),(by dsimp only;omega)⟩ (hg:=(sI (sI (sC ((Sub.consI rfl (Imp.of (by dsimp only;rw [List.length_set]))) (sC (sI (sC Sub.nil))))))))
      ·
       refine A8 ?_
       refine R2 (xb0 (r:=tS [⟨1,false,tE (.int .u8 (kk:Int))⟩,⟨4,true,tFr (fr (vv (ds.getD k 0)))⟩,⟨1,false,(tE (.int .i64 0))⟩]) (ts:=[(0,tE (.int .u8 (kk:Int))),(1,tFr (fr (vv (ds.getD k 0))))]) bu51 zr51.2 (Bc 0 rfl rfl rfl (Bc 1 rfl rfl rfl Le.refl))) rfl rfl (R3 (xb0 (r:=tS [⟨1,false,tI (ds.getD k 0)⟩,⟨1,false,tI ((eD ds).getD (k+1) 0)⟩,⟨6,true,tVa ⟨kk,fr (vv (ds.getD k 0)),0⟩⟩]) (ts:=[(0,tI (ds.getD k 0)),(1,tI ((eD ds).getD (k+1) 0)),(2,tVa ⟨kk,fr (vv (ds.getD k 0)),0⟩)]) bu69 zr69.2 (Bc 0 rfl rfl rfl (Bc 1 rfl rfl rfl (Bc 2 rfl rfl rfl Le.refl)))) rfl rfl rfl (R1 (xb5 (n:=1) (f:=tTs) [(⟨ds.getD k 0,((eD ds).getD (k+1) 0),⟨kk,fr (vv (ds.getD k 0)),0⟩⟩:Tst)] Tryz.underlying44 el69 zf69 rfl (fun _=>inferInstance) rfl rfl rfl) rfl (RE (xb3 (k:=7) (k':=78) (f:=tTs) (ys:=[(⟨ds.getD k 0,((eD ds).getD (k+1) 0),⟨kk,fr (vv (ds.getD k 0)),0⟩⟩:Tst)]) (ts':=rV tTs (xs++[(⟨ds.getD k 0,((eD ds).getD (k+1) 0),⟨kk,fr (vv (ds.getD k 0)),0⟩⟩:Tst)])) Tryz.underlying44 el69 zf69 rfl rfl (fun _=>inferInstance) xd2 (by simp;omega) (by simp;omega) (by simp [rV]) (n':=xs.length+1) rfl) qB qA qA ?_)))
       refine A8 ?_
       exact xc6 (l:=[7,101]) (fun j=>cond (Nat.beq j 7) 78 (j)) ((k+1,xs++[(⟨ds.getD k 0,((eD ds).getD (k+1) 0),⟨kk,fr (vv (ds.getD k 0)),0⟩⟩:Tst)])) ⟨(by dsimp only;exact ⟨by omega,by rw [xo2 (by omega) hb,<-hx,pst1,if_neg (by dsimp only;omega),if_neg (fun h=>h133_3 (by rw [h.2.2]))]⟩),(by dsimp only;omega)⟩ (SubR.int rfl (by first | omega | rfl | (dsimp only;omega)) (SubR.int rfl (by first | omega | rfl | (dsimp only;omega)) (SubR.cons rfl ((SubR.consI rfl (Imp.of (by dsimp only;rw [List.length_append];rfl))) (SubR.cons rfl (SubR.int rfl (by first | omega | rfl | (dsimp only;omega)) (SubR.cons rfl SubR.nil))))))) ((SubKR.consI rfl ImpK.refl) ((SubKR.consI rfl (ImpK.of xa6.symm)) SubKR.nil)) (SupG.val (SupG.val (SupG.val (SupG.own rfl (SupG.own rfl (SupG.val (SupG.val SupG.nil))))))) (SupH.cons rfl (supJL rfl) (SupH.cons rfl (supJ xa5) SupH.nil)) (lkOk rfl) rfl rfl (fun _ h=>by cases h)
     ·
      refine A18 ?_
      refine A3 ?_
      refine R2 (xb0 (r:=tS [⟨1,false,tE (.int .u8 (kk:Int))⟩,⟨4,true,tFr (fr (vv (ds.getD k 0)))⟩,⟨1,false,(tE (.int .i64 0))⟩]) (ts:=[(0,tE (.int .u8 (kk:Int))),(1,tFr (fr (vv (ds.getD k 0))))]) bu51 zr51.2 (Bc 0 rfl rfl rfl (Bc 1 rfl rfl rfl Le.refl))) rfl rfl (R3 (xb0 (r:=tS [⟨1,false,tI (ds.getD k 0)⟩,⟨1,false,tI ((eD ds).getD (k+1) 0)⟩,⟨6,true,tVa ⟨kk,fr (vv (ds.getD k 0)),0⟩⟩]) (ts:=[(0,tI (ds.getD k 0)),(1,tI ((eD ds).getD (k+1) 0)),(2,tVa ⟨kk,fr (vv (ds.getD k 0)),0⟩)]) bu69 zr69.2 (Bc 0 rfl rfl rfl (Bc 1 rfl rfl rfl (Bc 2 rfl rfl rfl Le.refl)))) rfl rfl rfl (R1 (xb5 (n:=1) (f:=tTs) [(⟨ds.getD k 0,((eD ds).getD (k+1) 0),⟨kk,fr (vv (ds.getD k 0)),0⟩⟩:Tst)] Tryz.underlying44 el69 zf69 rfl (fun _=>inferInstance) rfl rfl rfl) rfl (RE (xb3 (k:=7) (k':=78) (f:=tTs) (ys:=[(⟨ds.getD k 0,((eD ds).getD (k+1) 0),⟨kk,fr (vv (ds.getD k 0)),0⟩⟩:Tst)]) (ts':=rV tTs (xs++[(⟨ds.getD k 0,((eD ds).getD (k+1) 0),⟨kk,fr (vv (ds.getD k 0)),0⟩⟩:Tst)])) Tryz.underlying44 el69 zf69 rfl rfl (fun _=>inferInstance) xd2 (by simp;omega) (by simp;omega) (by simp [rV]) (n':=xs.length+1) rfl) qB qA qA ?_)))
      refine A8 ?_
      exact xc6 (l:=[7,101]) (fun j=>cond (Nat.beq j 7) 78 (j)) ((k+1,xs++[(⟨ds.getD k 0,((eD ds).getD (k+1) 0),⟨kk,fr (vv (ds.getD k 0)),0⟩⟩:Tst)])) ⟨(by dsimp only;exact ⟨by omega,by rw [xo2 (by omega) hb,<-hx,pst1,if_neg (by dsimp only;omega),if_neg (by dsimp only;omega)]⟩),(by dsimp only;omega)⟩ (SubR.int rfl (by first | omega | rfl | (dsimp only;omega)) (SubR.int rfl (by first | omega | rfl | (dsimp only;omega)) (SubR.cons rfl ((SubR.consI rfl (Imp.of (by dsimp only;rw [List.length_append];rfl))) (SubR.cons rfl (SubR.int rfl (by first | omega | rfl | (dsimp only;omega)) (SubR.cons rfl SubR.nil))))))) ((SubKR.consI rfl ImpK.refl) ((SubKR.consI rfl (ImpK.of xa6.symm)) SubKR.nil)) (SupG.val (SupG.val (SupG.val (SupG.own rfl (SupG.own rfl (SupG.val (SupG.val SupG.nil))))))) (SupH.cons rfl (supJL rfl) (SupH.cons rfl (supJ xa5) SupH.nil)) (lkOk rfl) rfl rfl (fun _ h=>by cases h)
    ·
     refine A18 ?_
     refine A13 ?_
     refine R2 (xb0 (r:=tS [⟨1,false,tE (.int .u8 (kk:Int))⟩,⟨4,true,tFr (fr (vv (ds.getD k 0)))⟩,⟨1,false,(tE (.int .i64 0))⟩]) (ts:=[(0,tE (.int .u8 (kk:Int))),(1,tFr (fr (vv (ds.getD k 0))))]) bu51 zr51.2 (Bc 0 rfl rfl rfl (Bc 1 rfl rfl rfl Le.refl))) rfl rfl (R3 (xb0 (r:=tS [⟨1,false,tI (ds.getD k 0)⟩,⟨1,false,tI ((eD ds).getD (k+1) 0)⟩,⟨6,true,tVa ⟨kk,fr (vv (ds.getD k 0)),0⟩⟩]) (ts:=[(0,tI (ds.getD k 0)),(1,tI ((eD ds).getD (k+1) 0)),(2,tVa ⟨kk,fr (vv (ds.getD k 0)),0⟩)]) bu69 zr69.2 (Bc 0 rfl rfl rfl (Bc 1 rfl rfl rfl (Bc 2 rfl rfl rfl Le.refl)))) rfl rfl rfl (R1 (xb5 (n:=1) (f:=tTs) [(⟨ds.getD k 0,((eD ds).getD (k+1) 0),⟨kk,fr (vv (ds.getD k 0)),0⟩⟩:Tst)] Tryz.underlying44 el69 zf69 rfl (fun _=>inferInstance) rfl rfl rfl) rfl (RE (xb3 (k:=7) (k':=78) (f:=tTs) (ys:=[(⟨ds.getD k 0,((eD ds).getD (k+1) 0),⟨kk,fr (vv (ds.getD k 0)),0⟩⟩:Tst)]) (ts':=rV tTs (xs++[(⟨ds.getD k 0,((eD ds).getD (k+1) 0),⟨kk,fr (vv (ds.getD k 0)),0⟩⟩:Tst)])) Tryz.underlying44 el69 zf69 rfl rfl (fun _=>inferInstance) xd2 (by simp;omega) (by simp;omega) (by simp [rV]) (n':=xs.length+1) rfl) qB qA qA ?_)))
     refine A8 ?_
     exact xc6 (l:=[7,101]) (fun j=>cond (Nat.beq j 7) 78 (j)) ((k+1,xs++[(⟨ds.getD k 0,((eD ds).getD (k+1) 0),⟨kk,fr (vv (ds.getD k 0)),0⟩⟩:Tst)])) ⟨(by dsimp only;exact ⟨by omega,by rw [xo2 (by omega) hb,<-hx,pst1,if_neg (by dsimp only;omega),if_neg (by dsimp only;omega)]⟩),(by dsimp only;omega)⟩ (SubR.int rfl (by first | omega | rfl | (dsimp only;omega)) (SubR.int rfl (by first | omega | rfl | (dsimp only;omega)) (SubR.cons rfl ((SubR.consI rfl (Imp.of (by dsimp only;rw [List.length_append];rfl))) (SubR.cons rfl (SubR.int rfl (by first | omega | rfl | (dsimp only;omega)) (SubR.cons rfl SubR.nil))))))) ((SubKR.consI rfl ImpK.refl) ((SubKR.consI rfl (ImpK.of xa6.symm)) SubKR.nil)) (SupG.val (SupG.val (SupG.val (SupG.own rfl (SupG.own rfl (SupG.val (SupG.val SupG.nil))))))) (SupH.cons rfl (supJL rfl) (SupH.cons rfl (supJ xa5) SupH.nil)) (lkOk rfl) rfl rfl (fun _ h=>by cases h)
 ·
  refine A6 ?_
  refine C_giveL (t:=7) (k:=7) (f:=tTs) (xs:=xs) rfl rfl (lent_lb rfl) (xg2 rfl) rfl ?_
  refine A6 ?_
  exact xc5 LentC.mk' rfl rfl (Imp.of (by rw [hx,show k=ds.length by omega,stK_all])) qA rfl ⟨⟨rfl,(SupX.lit rfl)⟩,trivial⟩ rfl
def ftV (fs:List Ev) (d:Int):Rat:=if heldQ fs d 8=true then oneQ (sumQ partE fs d 8) else sumQ partE fs d 8
theorem ftV_big {fs:List Ev} {d:Int} (h:heldQ fs d 8=true) (hc:0 < cmpQ (sumQ partE fs d 8) ((1:Int):Rat)):ftV fs d=((1:Int):Rat):=by
 rw [ftV,if_pos h,oneQ,if_pos (cmpP.1 hc)]
theorem ftV_small {fs:List Ev} {d:Int} (h:heldQ fs d 8=true) (hc: ¬0 < cmpQ (sumQ partE fs d 8) ((1:Int):Rat)):ftV fs d=sumQ partE fs d 8:=by
 rw [ftV,if_pos h,oneQ,if_neg fun hn=>hc (cmpP.2 hn)]
theorem ftV_none {fs:List Ev} {d:Int} (h:heldQ fs d 8=false):ftV fs d=sumQ partE fs d 8:=by
 rw [ftV,if_neg (by rw [h];decide)]
theorem dyF_len {fs:List Ev}:(dyF fs).length<=2*fs.length:=kD_len (F:=fs) 1
theorem stG_fte (fs:List Ev) (d:Int):stG (fun d=>heldQ fs d 8) (fun d=>ftV fs d) 2 d=kG 1 fs d:=by
 show (if heldQ fs d 8=true then some (⟨2,fr (ftV fs d),0⟩:Va) else none)=(fteQ fs d).map fun q=>(⟨kK 1,fr q,0⟩:Va)
 rw [fteQ]
 split
 ·rename_i h;rw [ftV,if_pos h];rfl
 ·rfl
theorem stG_pay (fs:List Ev) (d:Int):stG (fun d=>heldQ fs d 8) (fun d=>sumQ payE fs d 8) 3 d=kG 2 fs d:=by
 show (if heldQ fs d 8=true then some (⟨3,fr (sumQ payE fs d 8),0⟩:Va) else none)=(payQ fs d).map fun q=>(⟨kK 2,fr q,0⟩:Va)
 rw [payQ]
 split <;> rfl
theorem c_fte1 (fs:List Ev) (hF:fs.length<=100) (d:Int) (hs:SumOk partE fs d):
  CtG Tryz.prog 119 [(1,⟨87,1,true,[.val (tVw fs)]⟩)] [.val (tI d),.own (.ptr 1 0)] (.val (tT [tFr (fr (ftV fs d)),tB (heldQ fs d 8)])) [(1,⟨87,1,true,[.val (tVw fs)]⟩)] []:=by
 refine CtG.intro [1] Tryz.func119 rfl Tryz.ntmps119 rfl rfl ⟨⟨rfl,(SupX.lit rfl)⟩,trivial⟩ ?_
 intro w F η
 refine A2 ?_
 refine RE (x7 (k:=3) (n:=4) (agg:=true) zr27.1 zr27.2 rfl) trivial trivial qA ?_
 refine A7 ?_
 refine R3 (x3 (c_sumPartof fs hF d hs) fi120 rfl) rfl rfl rfl ?_
 refine A3 ?_
 refine RE (x7 (k:=5) (n:=4) (agg:=true) zr27.1 zr27.2 rfl) trivial trivial qA ?_
 refine A7 ?_
 refine R1 (x3 (xm5 1 (by decide) (by decide)) fi86 rfl) rfl (RE (x7 (k:=7) (n:=4) (agg:=true) zr27.1 zr27.2 rfl) trivial trivial qA ?_)
 refine A7 ?_
 refine RGcase (t:=16) rfl (fun h146=> ?_) (fun h146=> ?_)
 ·
  refine A2 ?_
  refine Rg h146 rfl (x3 (c_FCmp (sumQ partE fs d 8) ((1:Int):Rat) (hs.all 8 (by decide)) short_1) fi85 rfl) rfl qB ?_
  refine A4 ?_
  refine x6 rfl (fun h146_2=> ?_) (fun h146_2=> ?_)
  ·
   refine A14 ?_
   exact xn2 LentC.mk' (rs:=[.cell 3 27,.tmp 4]) rfl rfl ⟨⟨_,_,_,_,_,rfl,rfl,ti27,(Le.of (by rw [ftV_big h146 (by omega)]))⟩,⟨_,rfl,Le.refl⟩,trivial⟩ qA ⟨⟨rfl,(SupX.lit rfl)⟩,trivial⟩ rfl
  ·
   refine A11 ?_
   exact xn2 LentC.mk' (rs:=[.cell 3 27,.tmp 4]) rfl rfl ⟨⟨_,_,_,_,_,rfl,rfl,ti27,(Le.of (by rw [ftV_small h146 (by omega)]))⟩,⟨_,rfl,Le.refl⟩,trivial⟩ qA ⟨⟨rfl,(SupX.lit rfl)⟩,trivial⟩ rfl
 ·
  refine A18 ?_
  refine A1 ?_
  exact xn2 LentC.mk' (rs:=[.cell 3 27,.tmp 4]) rfl rfl ⟨⟨_,_,_,_,_,rfl,rfl,ti27,(Le.of (by rw [ftV_none h146]))⟩,⟨_,rfl,Le.refl⟩,trivial⟩ qA ⟨⟨rfl,(SupX.lit rfl)⟩,trivial⟩ rfl
theorem c_fte (fs:List Ev) (hF:fs.length<=100) (hc:calE fs) (hs: ∀d,SumOk partE fs d):
  Ct Tryz.prog 74 [tVw fs] (tL 8 true tTs (mT 1 fs)):=by
 refine Ct.intro Tryz.func74 rfl Tryz.ntmps74 rfl ?_
 intro w F
 refine A9 ?_
 refine R1 (x3 (c_days fs hF) fi118 rfl) rfl (R1 (xg8 (ps:=[.ptr 1 0]) rfl) rfl (RE (xb7 (fun _=>1) (c_stepsOne (dyF fs) (kD_pw2 (K:=1) hc) (by have:=dyF_len (fs:=fs);omega) fs 2 119 (fun d=>ftV fs d) fi119 fun d=>c_fte1 fs hF d (hs d)) fi117 rfl (krC (ρ:=fun _=>1) (k:=101) rfl (krN (ρ:=fun _=>1))) (krC (ρ:=fun _=>1) (k:=101) rfl (krN (ρ:=fun _=>1))) ⟨⟨rfl,(SupX.lit rfl)⟩,trivial⟩ rfl) qC qA trivial ?_))
 refine A4 ?_
 exact E1 rfl rfl (Le.of (congrArg (fun t=>tL 8 true tTs t) (stG_mT (K:=1) (stG_fte fs) rfl)))
theorem c_pay1 (fs:List Ev) (hF:fs.length<=100) (d:Int) (hs:SumOk payE fs d):
  CtG Tryz.prog 122 [(1,⟨87,1,true,[.val (tVw fs)]⟩)] [.val (tI d),.own (.ptr 1 0)] (.val (tT [tFr (fr (sumQ payE fs d 8)),tB (heldQ fs d 8)])) [(1,⟨87,1,true,[.val (tVw fs)]⟩)] []:=by
 refine CtG.intro [1] Tryz.func122 rfl Tryz.ntmps122 rfl rfl ⟨⟨rfl,(SupX.lit rfl)⟩,trivial⟩ ?_
 intro w F η
 refine A2 ?_
 refine RE (x7 (k:=3) (n:=4) (agg:=true) zr27.1 zr27.2 rfl) trivial trivial qA ?_
 refine A7 ?_
 refine R3 (x3 (c_sumPayof fs hF d hs) fi120 rfl) rfl rfl rfl ?_
 refine A7 ?_
 exact xn2 LentC.mk' (rs:=[.cell 3 27,.tmp 4]) rfl rfl ⟨⟨_,_,_,_,_,rfl,rfl,ti27,Le.refl⟩,⟨_,rfl,Le.refl⟩,trivial⟩ qA ⟨⟨rfl,(SupX.lit rfl)⟩,trivial⟩ rfl
theorem c_pay (fs:List Ev) (hF:fs.length<=100) (hc:calE fs) (hs: ∀d,SumOk payE fs d):
  Ct Tryz.prog 75 [tVw fs] (tL 8 true tTs (mT 2 fs)):=by
 refine Ct.intro Tryz.func75 rfl Tryz.ntmps75 rfl ?_
 intro w F
 refine A9 ?_
 refine R1 (x3 (c_days fs hF) fi118 rfl) rfl (R1 (xg8 (ps:=[.ptr 1 0]) rfl) rfl (RE (xb7 (fun _=>1) (c_stepsOne (dyF fs) (kD_pw2 (K:=2) hc) (by have:=dyF_len (fs:=fs);omega) fs 3 122 (fun d=>sumQ payE fs d 8) fi122 fun d=>c_pay1 fs hF d (hs d)) fi117 rfl (krC (ρ:=fun _=>1) (k:=101) rfl (krN (ρ:=fun _=>1))) (krC (ρ:=fun _=>1) (k:=101) rfl (krN (ρ:=fun _=>1))) ⟨⟨rfl,(SupX.lit rfl)⟩,trivial⟩ rfl) qC qA trivial ?_))
 refine A4 ?_
 exact E1 rfl rfl (Le.of (congrArg (fun t=>tL 8 true tTs t) (stG_mT (K:=2) (stG_pay fs) rfl)))
end An.S
namespace An.S
open Go
section
variable {α β:Type} [DecidableEq α]
theorem getI_succ {a:α}: ∀{l:List (α×β)} {i:Nat},getI a (i+1) l=(getI a i l).map fun x=>(x.1+1,x.2)
 | [],_=>rfl
 | p::r,i=>by
  rw [getI,getI]
  split
  ·rfl
  ·exact getI_succ
theorem xt2 {z:β} {p:α×β} {r:List (α×β)} {a:α}:entV z (p::r) a=if a=p.1 then p.2 else entV z r a:=by
 rw [entV,getI]
 split
 ·rfl
 ·rw [getI_succ,Option.map_map];rfl
theorem putM_cons {p:α×β} {r:List (α×β)} {a:α} {v:β}:putM (p::r) a v=if a=p.1 then (a,v)::r else p::putM r a v:=by
 by_cases h:a=p.1
 ·simp [putM,getI,h]
 ·rw [if_neg h,putM,putM,getI,if_neg h,getI_succ]
  cases getI a 0 r with
  | none=>rfl
  | some x=>rfl
theorem ent_putG {z v:β} {a b:α}: ∀{l:List (α×β)},entV z (putM l a v) b=if a=b then v else entV z l b
 | []=>by
  show entV z [(a,v)] b=_
  rw [xt2]
  by_cases h:a=b
  ·rw [if_pos h.symm,if_pos h]
  ·rw [if_neg (fun h'=>h h'.symm),if_neg h]
 | p::r=>by
  rw [putM_cons]
  by_cases h:a=p.1
  ·rw [if_pos h,xt2,xt2]
   by_cases h2:a=b
   ·rw [if_pos h2.symm,if_pos h2]
   ·rw [if_neg (fun h'=>h2 h'.symm),if_neg h2,if_neg (fun h':b=p.1=>h2 (h.trans h'.symm))]
  ·rw [if_neg h,xt2,xt2,ent_putG]
   by_cases h2:b=p.1
   ·rw [if_pos h2,if_pos h2,if_neg (fun h'=>h (h'.trans h2))]
   ·rw [if_neg h2,if_neg h2]
end
theorem kGet_add {m:List (ByteArray×Nat)} {f:Fa} {key:ByteArray}:kGet (kAdd m f) key=if f.key=key then max (kGet m f.key) f.v.kind else kGet m key:=ent_putG
theorem kM_app {a:List Fa} {f:Fa} {key:ByteArray}:kGet (kM (a++[f])) key=if f.key=key then max (kGet (kM a) f.key) f.v.kind else kGet (kM a) key:=by
 rw [kM,List.foldl_append];exact kGet_add
section
variable {D B:Int} {a:List Fa} {f:Fa} {key:ByteArray}
end
theorem segL_congr {g h:Int->Option Va}: ∀{ds:List Int},(∀x∈ds,g x=h x)->segL g ds=segL h ds
 | [],_=>rfl
 | [_],_=>rfl
 | x::y::r,he=>by rw [segL,segL,he x (List.mem_cons_self ..),segL_congr (ds:=y::r) fun z hz=>he z (List.mem_cons_of_mem _ hz)]
section
variable {D B:Int} {T:List Fa}
end
end An.S
namespace An
open Go An.S
def toC (e:Ev):EvC:=if h:0<=e.day/\e.day<=65536 then ⟨e,h⟩ else evc0
theorem toC_val {e:Ev} (h:0<=e.day/\e.day<=65536):(toC e).1=e:=by rw [toC,dif_pos h]
theorem toC_map: ∀{l:List Ev},(∀e∈l,0<=e.day/\e.day<=65536)->(l.map toC).map (fun e=>e.1)=l
 | [],_=>rfl
 | e::r,h=>by
  rw [List.map_cons,List.map_cons,toC_val (h e (List.mem_cons_self ..)),toC_map fun x hx=>h x (List.mem_cons_of_mem _ hx)]
theorem rV_toC {l:List Ev} (h: ∀e∈l,0<=e.day/\e.day<=65536):rV tEv l=rV tEvC (l.map toC):=by
 have e:=toC_map h
 calc rV tEv l=rV tEv ((l.map toC).map fun e=>e.1):=by rw [e]
  _=rV tEvC (l.map toC):=by rw [rV,rV,List.map_map];rfl
def crF (F:List Ev):List Ev:=F.filter fun e=>decide (e.knd=6)
def crC (F:List Ev):List EvC:=ssort kfD ((crF F).map toC)
theorem crC_len {F:List Ev}:(crC F).length=(crF F).length:=by rw [crC,xt0,List.length_map]
theorem crC_mem {F:List Ev} (h:calE F) {e:EvC} (he:e∈crC F):e.1∈F/\e.1.knd=6:=by
 obtain ⟨x,hx,rfl⟩:=List.mem_map.1 (ssort_mem.1 he)
 obtain ⟨h1,h2⟩:=List.mem_filter.1 hx
 have:=(h x h1).1
 rw [toC_val (by omega)]
 exact ⟨h1,of_decide_eq_true h2⟩
def upC (cs:List EvC) (d:Int):Nat:=(cs.takeWhile fun e=>decide (e.1.day<=d)).length
def crS (cs:List EvC) (n:Nat):Rat:=(cs.take n).foldl (fun q e=>q+e.1.part.rat) ((0:Int):Rat)
theorem upC_le {cs:List EvC} {d:Int}:upC cs d<=cs.length:=(List.takeWhile_sublist _).length_le
theorem upC_lt {d:Int}: ∀{cs:List EvC} {i:Nat},i < upC cs d->(cs.getD i evc0).1.day<=d
 | [],i,h=>by simp [upC] at h
 | e::r,i,h=>by
  rw [upC,List.takeWhile_cons] at h
  split at h
  ·rename_i hd
   match i,h with
   | 0,_=>exact of_decide_eq_true hd
   | i+1,h=>
    have:=upC_lt (d:=d) (cs:=r) (i:=i) (by simpa [upC] using h)
    simpa using this
  ·simp at h
theorem upC_at {d:Int}: ∀{cs:List EvC},upC cs d < cs.length->d < (cs.getD (upC cs d) evc0).1.day
 | [],h=>by simp at h
 | e::r,h=>by
  rw [upC,List.takeWhile_cons] at h ⊢
  split at h
  ·rename_i hd
   rw [if_pos hd]
   have:=upC_at (d:=d) (cs:=r) (by simpa [upC] using h)
   simpa [upC] using this
  ·rename_i hd
   rw [if_neg hd]
   have: ¬e.1.day<=d:=fun hh=>hd (decide_eq_true hh)
   simp;omega
theorem upC_mono {cs:List EvC} {d d':Int} (h:d<=d'):upC cs d<=upC cs d':=by
 rcases Nat.lt_or_ge (upC cs d') (upC cs d) with c | c
 ·have h1:=upC_lt c
  have h2:=upC_at (cs:=cs) (d:=d') (Nat.lt_of_lt_of_le c upC_le)
  omega
 ·exact c
theorem crS_next {cs:List EvC} {n:Nat} (h:n < cs.length):crS cs (n+1)=crS cs n+(cs.getD n evc0).1.part.rat:=by
 rw [crS,List.take_succ_eq_append_getElem h,List.foldl_append,List.getD_eq_getElem?_getD,List.getElem?_eq_getElem h];rfl
def nxC (cs:List EvC) (ds:List Int) (k:Nat):Nat:=if k=0 then 0 else upC cs (ds.getD (k - 1) 0)
theorem nxC_le {cs:List EvC} {ds:List Int} (h:ds.Pairwise (· < ·)) {k:Nat} (hk:k < ds.length):nxC cs ds k<=upC cs (ds.getD k 0):=by
 rw [nxC]
 split
 ·exact Nat.zero_le _
 ·exact upC_mono (Int.le_of_lt (pw_lt h (by omega) hk))
theorem xo0 {cs:List EvC} {ds:List Int} {k:Nat}:nxC cs ds (k+1)=upC cs (ds.getD k 0):=by rw [nxC,if_neg (by omega)];rfl
structure CrOk (cs:List EvC):Prop where
  one: ∀e∈cs,e.1.part=fr e.1.part.rat/\short e.1.part.rat
  all: ∀n,n<=cs.length->short (crS cs n)
theorem take_up {cs:List EvC} (h:Srt kfD cs) (d:Int):cs.take (upC cs d)=cs.filter fun e=>decide (e.1.day<=d):=by
 induction cs with
 | nil=>rfl
 | cons e r ih=>
  have hp:=List.pairwise_cons.1 h
  rw [upC,List.takeWhile_cons,List.filter_cons]
  by_cases hd:e.1.day<=d
  ·rw [if_pos (decide_eq_true hd),if_pos (decide_eq_true hd),List.length_cons,List.take_succ_cons,<-ih hp.2];rfl
  ·rw [if_neg (fun hh=>hd (of_decide_eq_true hh)),if_neg (fun hh=>hd (of_decide_eq_true hh))]
   symm
   refine List.filter_eq_nil_iff.2 fun x hx hh=> ?_
   have h1:e.1.day<=x.1.day:=hp.1 x hx
   have h2:=of_decide_eq_true hh
   omega
theorem fold_perm {xs ys:List Ev} (h:xs.Perm ys) (a:Rat):xs.foldl (fun q e=>q+e.part.rat) a=ys.foldl (fun q e=>q+e.part.rat) a:=by
 induction h generalizing a with
 | nil=>rfl
 | cons x _ ih=>exact ih _
 | swap x y l=>rw [List.foldl_cons,List.foldl_cons,List.foldl_cons,List.foldl_cons,Rat.add_assoc,Rat.add_assoc,Rat.add_comm x.part.rat]
 | trans _ _ ih1 ih2=>rw [ih1,ih2]
theorem fold_map: ∀(xs:List EvC) (a:Rat),xs.foldl (fun q e=>q+e.1.part.rat) a=(xs.map fun e=>e.1).foldl (fun q e=>q+e.part.rat) a
 | [],_=>rfl
 | _::xs,_=>fold_map xs _
theorem insS_perm {α:Type} {k:α->Int} {x:α}: ∀l:List α,(insS k x l).Perm (x::l)
 | []=> .refl _
 | y::r=>by
  rw [insS]
  split
  ·exact .refl _
  ·exact ((insS_perm r).cons y).trans (.swap x y r)
theorem ssort_perm2 {α:Type} {k:α->Int}: ∀l:List α,(ssort k l).Perm l
 | []=> .refl _
 | x::r=>by rw [ssort];exact (insS_perm _).trans ((ssort_perm2 r).cons x)
theorem flt_val {d:Int}: ∀l:List EvC,(l.filter fun e=>decide (e.1.day<=d)).map (fun e:EvC=>e.1)=(l.map fun e:EvC=>e.1).filter fun e=>decide (e.day<=d)
 | []=>rfl
 | x::r=>by
  rw [List.filter_cons,List.map_cons,List.filter_cons]
  split
  ·rw [List.map_cons,flt_val r]
  ·exact flt_val r
theorem crS_is {F:List Ev} (h:calE F) (d:Int):crS (crC F) (upC (crC F) d)=(crdL F d).foldl (fun q e=>q+e.part.rat) ((0:Int):Rat):=by
 rw [crS,take_up (by rw [crC];exact xt4 _),fold_map]
 refine fold_perm ?_ _
 have hc: ∀e∈crF F,0<=e.day/\e.day<=65536:=fun e he=>by
  have:=(h e (List.mem_filter.1 he).1).1;omega
 have h1:(crC F).Perm ((crF F).map toC):=by rw [crC];exact ssort_perm2 _
 have h2:=(h1.filter fun e=>decide (e.1.day<=d)).map fun e:EvC=>e.1
 refine h2.trans ?_
 rw [flt_val,toC_map hc,crF,List.filter_filter,crdL]
 refine List.Perm.of_eq (List.filter_congr fun e _=> ?_)
 rw [Bool.and_comm]
theorem crC_days {F:List Ev} (h:calE F) (x:Int):x∈(crC F).map (fun e=>e.1.day)↔x∈(crF F).map (·.day):=by
 have hc: ∀e∈crF F,0<=e.day/\e.day<=65536:=fun e he=>by
  have:=(h e (List.mem_filter.1 he).1).1;omega
 rw [List.mem_map,List.mem_map]
 constructor
 ·rintro ⟨e,he,rfl⟩
  obtain ⟨y,hy,rfl⟩:=List.mem_map.1 (ssort_mem.1 he)
  exact ⟨y,hy,by rw [toC_val (hc y hy)]⟩
 ·rintro ⟨y,hy,rfl⟩
  exact ⟨toC y,ssort_mem.2 (List.mem_map.2 ⟨y,hy,rfl⟩),by rw [toC_val (hc y hy)]⟩
theorem crd_mT {F:List Ev} (h:calE F):pst [] (segL (stG (fun _=>true) (fun d=>crS (crC F) (upC (crC F) d)) 2) (dyC F++[65536]))=mT 0 F:=by
 rw [mT]
 show _=pst [] (segL (kG 0 F) (dyC F++[65536]))
 by_cases hn:dyC F=[]
 ·rw [hn];rfl
 ·have hsome: ∃e∈F,e.knd=6:=by
   obtain ⟨x,hx⟩:=List.exists_mem_of_ne_nil _ hn
   obtain ⟨e,he,hk,_⟩:=dyC_mem.1 hx
   exact ⟨e,he,hk⟩
  congr 1
  refine segL_congr fun x hx=> ?_
  show some (⟨2,fr (crS (crC F) (upC (crC F) x)),0⟩:Va)=(crdQ F x).map fun q=>(⟨kK 0,fr q,0⟩:Va)
  have hne: ∃e,e∈crdL F x:=by
   rcases List.mem_append.1 hx with h1 | h1
   ·obtain ⟨e,he,hk,rfl⟩:=dyC_mem.1 h1
    exact ⟨e,List.mem_filter.2 ⟨he,by simp [hk]⟩⟩
   ·obtain ⟨e,he,hk⟩:=hsome
    have:=(h e he).1
    rw [List.mem_singleton.1 h1]
    exact ⟨e,List.mem_filter.2 ⟨he,by simp [hk];omega⟩⟩
  obtain ⟨e,he⟩:=hne
  rw [crdQ,if_neg (fun hh=>by rw [List.isEmpty_iff.1 hh] at he;cases he),crS_is h];rfl
theorem crOk_of {D B:Int} {F:List Ev} (h:calE F) (hg:gE D B F) (hD:0 < D) (hDb:D<=9223372036854775807) (hB:0<=B) (hBb:B<=92233720368547758) (hl:F.length<=100):CrOk (crC F) where
 one:=fun e he=>by
  obtain ⟨h1,h2⟩:=crC_mem h he
  obtain ⟨k,hk,e2⟩:=(hg e.1 h1).1 (by rw [h2];rfl)
  rw [e2,xp4]
  exact ⟨rfl,xq1 hD (by omega) (by omega) hDb⟩
 all:=fun n hn=>by
  have key: ∀n:Nat,n<=(crC F).length-> ∃k:Int,(0<=k/\k<=(n:Int)*B)/\crS (crC F) n=Rat.divInt k D:=fun n=>by
   induction n with
   | zero=>exact fun _=>⟨0,⟨by omega,by simp⟩,by rw [Rat.zero_divInt];rfl⟩
   | succ n ih=>
    intro hn
    obtain ⟨k,⟨h1,h2⟩,h3⟩:=ih (by omega)
    have hm:(crC F).getD n evc0∈crC F:=by
     rw [List.getD_eq_getElem?_getD,List.getElem?_eq_getElem (by omega)];exact List.getElem_mem _
    obtain ⟨g1,g2⟩:=crC_mem h hm
    obtain ⟨j,⟨j1,j2⟩,j3⟩:=((hg _ g1).1 (by rw [g2];rfl)).rat
    refine ⟨k+j,⟨by omega,?_⟩,by rw [crS_next (by omega),h3,j3,addG hD]⟩
    rw [show ((n+1:Nat):Int)=(n:Int)+1 by omega,Int.add_mul,Int.one_mul];omega
  obtain ⟨k,⟨h1,h2⟩,h3⟩:=key n hn
  have hlen:(crC F).length<=100:=by
   rw [crC_len,crF];exact Nat.le_trans (List.length_filter_le ..) hl
  have hk:k<=100*B:=Int.le_trans h2 (Int.mul_le_mul_of_nonneg_right (by omega) hB)
  rw [h3];exact xq1 hD (by omega) (by omega) hDb
theorem sumOk_part {D B:Int} {F:List Ev} (hg:gE D B F) (hD:0 < D) (hDb:D<=9223372036854775807) (hB:0<=B) (hBb:B<=92233720368547758) (d:Int):(∀h,h∈F->h.knd=1->partE F h d=fr (partE F h d).rat/\short (partE F h d).rat)/\ ∀n,n<=8->short (sumQ partE F d n):=by
 refine ⟨fun h hm hk=> ?_,fun n hn=> ?_⟩
 ·obtain ⟨k,hk2,e⟩:=part_B hg hB hm hk d
  rw [e,xp4];exact ⟨rfl,xq1 hD (by omega) (by omega) hDb⟩
 ·obtain ⟨k,⟨h1,h2⟩,e⟩:=sumQ_B (f:=partE) hD hB (F:=F) (d:=d) (fun g hm hk=>part_B hg hB hm hk d) n
  have:k<=8*B:=Int.le_trans h2 (Int.mul_le_mul_of_nonneg_right (by omega) hB)
  rw [e];exact xq1 hD (by omega) (by omega) hDb
theorem sumOk_pay {D B:Int} {F:List Ev} (hg:gE D B F) (hD:0 < D) (hDb:D<=9223372036854775807) (hB:0<=B) (hBb:B<=92233720368547758) (d:Int):(∀h,h∈F->h.knd=1->payE F h d=fr (payE F h d).rat/\short (payE F h d).rat)/\ ∀n,n<=8->short (sumQ payE F d n):=by
 refine ⟨fun h hm hk=> ?_,fun n hn=> ?_⟩
 ·obtain ⟨k,hk2,e⟩:=pay_B hg hB hm hk d
  rw [e,xp4];exact ⟨rfl,xq1 hD (by omega) (by omega) hDb⟩
 ·obtain ⟨k,⟨h1,h2⟩,e⟩:=sumQ_B (f:=payE) hD hB (F:=F) (d:=d) (fun g hm hk=>pay_B hg hB hm hk d) n
  have:k<=8*B:=Int.le_trans h2 (Int.mul_le_mul_of_nonneg_right (by omega) hB)
  rw [e];exact xq1 hD (by omega) (by omega) hDb
end An
namespace An.S
open Go Go.Proofs An
instance fi125:FnI Tryz.prog 125:=⟨_,Tryz.func125,by kernel_rfl,rfl⟩
instance fi168:FnI Tryz.prog 168:=⟨_,Tryz.func168,by kernel_rfl,rfl⟩
instance fi199:FnI Tryz.prog 199:=⟨_,Tryz.func199,by kernel_rfl,rfl⟩
instance fi200:FnI Tryz.prog 200:=⟨_,Tryz.func200,by kernel_rfl,rfl⟩
instance fi222:FnI Tryz.prog 222:=⟨_,Tryz.func222,by kernel_rfl,rfl⟩
instance fi240:FnI Tryz.prog 240:=⟨_,Tryz.func240,by kernel_rfl,rfl⟩
theorem sbI_lt {x y:EvC}:x.1.day - y.1.day < 0↔kfD x < kfD y:=by rw [kfD,kfD];omega
theorem c_credit1 (x y:EvC):
  Ct Tryz.prog 125 [tEvC x,tEvC y] (tI (x.1.day - y.1.day)):=by
 have hx:=x.2
 have hy:=y.2
 refine Ct.intro Tryz.func125 rfl Tryz.ntmps125 rfl ?_
 intro w F
 refine A18 ?_
 exact E1 rfl rfl Le.refl
theorem c_swapRE (xs:List EvC) {L:Nat} (eL:xs.length=L) (a b n:Nat) {x y u:Int} (ex:x=(a:Int)) (ey:y=(b:Int)) (eu:u=(n:Int)) (h1:a+n<=b) (h2:b+n<=xs.length) (hx:xs.length<=1000000):
  CtG Tryz.prog 240 [(20,⟨29,14,true,rV tEvC xs⟩)] [.own (.sl 20 14 0 L),.val (tI x),.val (tI y),.val (tI u),.val (tE (.func (.func 125) #[] #[]))] (.val (tT [])) [(20,⟨29,14,true,rV tEvC (swpR evc0 a b n xs)⟩)] []:=by
 subst ex ey eu eL
 refine CtG.intro [20] Tryz.func240 rfl Tryz.ntmps240 rfl rfl ⟨⟨rfl,xa5⟩,trivial⟩ ?_
 intro w F η
 refine A6 ?_
 refine cL (fun (i:Nat)=>i<=n) (fun (i:Nat)=>uV (uV (uV (uV (uO uN 0 (.sl 20 14 0 xs.length)) 1 (tI a)) 2 (tI b)) 3 (tI n)) 10 (tI i)) (fun (i:Nat)=>uK uN 20 29 14 true (rV tEvC (swpR evc0 a b i xs))) [20] (fun (i:Nat)=>n - i) (0) (Nat.zero_le _) (hh:=((SubK.consI rfl (ImpK.of (by rw [swp_zero]))) SubK.nil)) ?_
 intro i hI
 refine A8 ?_
 refine x6 rfl (fun h330=> ?_) (fun h330=> ?_)
 ·
  refine A17 ?_
  refine R2 (xa2 sl22 (by omega) (by omega) rfl) rfl rfl (RE (xc1 (b+i) ti29 (xc4 (f:=tEvC) (xs:=(swpR evc0 a b i xs)) (d:=evc0) (by rw [xh6];omega)) (by omega)) qA qA trivial ?_)
  refine A4 ?_
  refine R2 (xa2 sl22 (by omega) (by omega) rfl) rfl rfl (RE (xc1 (a+i) ti29 (xc4 (f:=tEvC) (xs:=(swpR evc0 a b i xs)) (d:=evc0) (by rw [xh6];omega)) (by omega)) qA qA trivial (R2 (xa2 sl22 (by omega) (by omega) rfl) rfl rfl (RE (xb8 (a+i) ti29 (rV_lt (by rw [xh6];omega)) (by omega) (xi3 (m:=((swpR evc0 a b i xs).getD (b+i) evc0)) rfl)) qB qA trivial (R2 (xa2 sl22 (by omega) (by omega) rfl) rfl rfl (RE (xb8 (b+i) ti29 (rV_lt (by rw [List.length_set,xh6];omega)) (by omega) (xi3 (m:=((swpR evc0 a b i xs).getD (a+i) evc0)) rfl)) qB qA trivial ?_)))))
  refine A8 ?_
  exact kF (i+1) ⟨(by omega),(by omega)⟩ (hh:=((SubK.consI rfl (ImpK.of (by rw [(swp_same (d:=evc0) (a:=a) (b:=b) (n:=i) (xs:=xs) (by omega) (by omega)).1,(swp_same (d:=evc0) (a:=a) (b:=b) (n:=i) (xs:=xs) (by omega) (by omega)).2,swp_next (by omega) (by omega)]))) SubK.nil))
 ·
  refine A4 ?_
  exact xj5 LentC.mk' rfl (.inr rfl) ⟨(congrArg some (show (⟨29,14,true,rV tEvC (swpR evc0 a b i xs)⟩:HEnt)=⟨29,14,true,rV tEvC (swpR evc0 a b n xs)⟩ by rw [show i=n by omega])),trivial⟩ ⟨⟨rfl,xa5⟩,trivial⟩ rfl
theorem c_rotateE (xs:List EvC) {L:Nat} (eL:xs.length=L) (a m b:Nat) {x y u:Int} (ex:x=(a:Int)) (ey:y=(m:Int)) (eu:u=(b:Int)) (h1:a < m) (h2:m < b) (h3:b<=xs.length) (hx:xs.length<=1000000):
  CtG Tryz.prog 222 [(20,⟨29,14,true,rV tEvC xs⟩)] [.own (.sl 20 14 0 L),.val (tI x),.val (tI y),.val (tI u),.val (tE (.func (.func 125) #[] #[]))] (.val (tT [])) [(20,⟨29,14,true,rV tEvC (rotR a m b xs)⟩)] []:=by
 subst ex ey eu eL
 refine CtG.intro [20] Tryz.func222 rfl Tryz.ntmps222 rfl rfl ⟨⟨rfl,xa5⟩,trivial⟩ ?_
 intro w F η
 refine A18 ?_
 refine cL (fun (fm:(List EvC)×(Nat)×(Nat))=>(fun (ys:List EvC) (i:Nat) (j:Nat)=>ys.length=xs.length/\0 < i/\0 < j/\i<=m/\m+j<=b/\rotR (m - i) m (m+j) ys=rotR a m b xs) fm.1 fm.2.1 fm.2.2) (wC fun (ys:List EvC) (i:Nat) (j:Nat)=>uV (uV (uV (uV (uO uN 0 (.sl 20 14 0 xs.length)) 2 (tI m)) 4 (tE (.func (.func 125) #[] #[]))) 10 (tI i)) 11 (tI j)) (wC fun (ys:List EvC) (i:Nat) (j:Nat)=>uK uN 20 29 14 true (rV tEvC ys)) [20] (fun (fm:(List EvC)×(Nat)×(Nat))=>(fun (ys:List EvC) (i:Nat) (j:Nat)=>i+j) fm.1 fm.2.1 fm.2.2) ((xs,m - a,b - m)) (by dsimp only;exact ⟨rfl,by omega,by omega,by omega,by omega,by rw [show m - (m - a)=a by omega,show m+(b - m)=b by omega]⟩) (hg:=((Sub.consI rfl (Imp.int (by dsimp only;omega))) ((Sub.consI rfl (Imp.int (by dsimp only;omega))) (sC (sI (sC Sub.nil)))))) ?_
 intro fm hI
 obtain ⟨ys,i,j⟩:=fm
 replace hI:ys.length=xs.length/\0 < i/\0 < j/\i<=m/\m+j<=b/\rotR (m - i) m (m+j) ys=rotR a m b xs:=hI
 show wc _ _ _ _ (uV (uV (uV (uV (uO uN 0 (.sl 20 14 0 xs.length)) 2 (tI m)) 4 (tE (.func (.func 125) #[] #[]))) 10 (tI i)) 11 (tI j)) (uK uN 20 29 14 true (rV tEvC ys)) _
 obtain ⟨hl,hi,hj,him,hjb,hr⟩:=hI
 refine A8 ?_
 refine x6 rfl (fun h468=> ?_) (fun h468=> ?_)
 ·
  refine A10 ?_
  refine x6 rfl (fun h469=> ?_) (fun h469=> ?_)
  ·
   refine A9 ?_
   refine RE (xb7 (fun _=>20) (c_swapRE ys hl (m - i) m j (by omega) rfl rfl (by omega) (by omega) (by omega)) fi240 rfl (krC (ρ:=fun _=>20) (k:=20) xa6 (krN (ρ:=fun _=>20))) (krC (ρ:=fun _=>20) (k:=20) xa6 (krN (ρ:=fun _=>20))) ⟨⟨rfl,xa5⟩,trivial⟩ rfl) ⟨rfl,rfl,rfl,rfl,rfl,trivial⟩ qA trivial ?_
   refine A9 ?_
   exact kF ((swpR evc0 (m - i) m j ys,i - j,j)) ⟨(by dsimp only;exact ⟨by rw [xh6,hl],by omega,hj,by omega,hjb,by rw [rot_left him (by omega) (by omega),hr]⟩),(by dsimp only;omega)⟩ (hg:=(sI ((Sub.consI rfl (Imp.int (by dsimp only;omega))) (sC (sI (sC Sub.nil))))))
  ·
   refine A13 ?_
   refine RE (xb7 (fun _=>20) (c_swapRE ys hl (m - i) (m+j - i) i (by omega) (by omega) rfl (by omega) (by omega) (by omega)) fi240 rfl (krC (ρ:=fun _=>20) (k:=20) xa6 (krN (ρ:=fun _=>20))) (krC (ρ:=fun _=>20) (k:=20) xa6 (krN (ρ:=fun _=>20))) ⟨⟨rfl,xa5⟩,trivial⟩ rfl) ⟨rfl,rfl,rfl,rfl,rfl,trivial⟩ qA trivial ?_
   refine A9 ?_
   exact kF ((swpR evc0 (m - i) (m+j - i) i ys,i,j - i)) ⟨(by dsimp only;exact ⟨by rw [xh6,hl],hi,by omega,him,by omega,by rw [rot_right him (by omega) (by omega),hr]⟩),(by dsimp only;omega)⟩ (hg:=((Sub.consI rfl (Imp.int (by dsimp only;omega))) (sI (sC (sI (sC Sub.nil))))))
 ·
  refine A13 ?_
  refine RE (xb7 (fun _=>20) (c_swapRE ys hl (m - i) m i (by omega) rfl rfl (by omega) (by omega) (by omega)) fi240 rfl (krC (ρ:=fun _=>20) (k:=20) xa6 (krN (ρ:=fun _=>20))) (krC (ρ:=fun _=>20) (k:=20) xa6 (krN (ρ:=fun _=>20))) ⟨⟨rfl,xa5⟩,trivial⟩ rfl) ⟨rfl,rfl,rfl,rfl,rfl,trivial⟩ qA trivial ?_
  refine A1 ?_
  exact xj5 LentC.mk' rfl (.inr rfl) ⟨(congrArg some (show (⟨29,14,true,rV tEvC (swpR evc0 (m - i) m i ys)⟩:HEnt)=⟨29,14,true,rV tEvC (rotR a m b xs)⟩ by rw [<-hr,show j=i by omega,rot_same him (by omega)])),trivial⟩ ⟨⟨rfl,xa5⟩,trivial⟩ rfl
theorem c_insSortE (xs:List EvC) {L:Nat} (eL:xs.length=L) (a b:Nat) {x y:Int} (ex:x=(a:Int)) (ey:y=(b:Int)) (h1:a<=b) (h2:b<=xs.length) (hx:xs.length<=1000000):
  CtG Tryz.prog 199 [(20,⟨29,14,true,rV tEvC xs⟩)] [.own (.sl 20 14 0 L),.val (tI x),.val (tI y),.val (tE (.func (.func 125) #[] #[]))] (.val (tT [])) [(20,⟨29,14,true,rV tEvC (srtR kfD a b xs)⟩)] []:=by
 subst ex ey eL
 refine CtG.intro [20] Tryz.func199 rfl Tryz.ntmps199 rfl rfl ⟨⟨rfl,xa5⟩,trivial⟩ ?_
 intro w F η
 refine A8 ?_
 refine cL (fun (fm:(List EvC)×(Nat))=>(fun (ys:List EvC) (i:Nat)=>ys.length=xs.length/\a < i/\(i<=b∨i=a+1)/\Prt kfD evc0 a b xs ys/\SrtP kfD evc0 a i ys) fm.1 fm.2) (wB fun (ys:List EvC) (i:Nat)=>uV (uV (uV (uV (uO uN 0 (.sl 20 14 0 xs.length)) 1 (tI a)) 2 (tI b)) 3 (tE (.func (.func 125) #[] #[]))) 8 (tI i)) (wB fun (ys:List EvC) (i:Nat)=>uK uN 20 29 14 true (rV tEvC ys)) [20] (fun (fm:(List EvC)×(Nat))=>(fun (ys:List EvC) (i:Nat)=>b - i) fm.1 fm.2) ((xs,a+1)) (by dsimp only;exact ⟨rfl,by omega,.inr rfl,Prt.refl ..,fun i j g1 g2 g3=>by omega⟩) ?_
 intro fm hI
 obtain ⟨ys,i⟩:=fm
 replace hI:ys.length=xs.length/\a < i/\(i<=b∨i=a+1)/\Prt kfD evc0 a b xs ys/\SrtP kfD evc0 a i ys:=hI
 show wc _ _ _ _ (uV (uV (uV (uV (uO uN 0 (.sl 20 14 0 xs.length)) 1 (tI a)) 2 (tI b)) 3 (tE (.func (.func 125) #[] #[]))) 8 (tI i)) (uK uN 20 29 14 true (rV tEvC ys)) _
 obtain ⟨hl,hi,hib,hp,hs⟩:=hI
 refine A8 ?_
 refine x6 rfl (fun h11=> ?_) (fun h11=> ?_)
 ·
  refine A11 ?_
  refine cL (fun (fm:(List EvC)×(Nat))=>(fun (zs:List EvC) (j:Nat)=>zs.length=xs.length/\a<=j/\j<=i/\Prt kfD evc0 a b xs zs/\InsP kfD evc0 a i j zs) fm.1 fm.2) (wB fun (zs:List EvC) (j:Nat)=>uV (uV (uV (uV (uV (uO uN 0 (.sl 20 14 0 xs.length)) 1 (tI a)) 2 (tI b)) 3 (tE (.func (.func 125) #[] #[]))) 8 (tI i)) 9 (tI j)) (wB fun (zs:List EvC) (j:Nat)=>uK uN 20 29 14 true (rV tEvC zs)) [20] (fun (fm:(List EvC)×(Nat))=>(fun (zs:List EvC) (j:Nat)=>j) fm.1 fm.2) ((ys,i)) (by dsimp only;exact ⟨hl,by omega,Nat.le_refl _,hp,ins_begin hs⟩) ?_
  intro fm hI
  obtain ⟨zs,j⟩:=fm
  replace hI:zs.length=xs.length/\a<=j/\j<=i/\Prt kfD evc0 a b xs zs/\InsP kfD evc0 a i j zs:=hI
  show wc _ _ _ _ (uV (uV (uV (uV (uV (uO uN 0 (.sl 20 14 0 xs.length)) 1 (tI a)) 2 (tI b)) 3 (tE (.func (.func 125) #[] #[]))) 8 (tI i)) 9 (tI j)) (uK uN 20 29 14 true (rV tEvC zs)) _
  obtain ⟨hzl,haj,hji,hzp,hzi⟩:=hI
  refine A7 ?_
  refine RGcaseD (t:=21) rfl (fun h12=> ?_) (fun h12=> ?_)
  ·
   refine A3 ?_
   refine Rg (decide_eq_true h12) rfl (xa2 sl22 (by omega) (by omega) rfl) rfl qB (RGon (decide_eq_true h12) rfl (xc1 (j) ti29 (xc4 (f:=tEvC) (xs:=zs) (d:=evc0) (by omega)) (by omega)) rfl qA qA trivial ?_)
   refine A2 ?_
   refine Rg (decide_eq_true h12) rfl (xd6 (wr64 (by omega) (by omega))) rfl qB (Rg (decide_eq_true h12) rfl (xa2 sl22 (by omega) (by omega) rfl) rfl qB (RGon (decide_eq_true h12) rfl (xc1 (j - 1) ti29 (xc4 (f:=tEvC) (xs:=zs) (d:=evc0) (by omega)) (by omega)) rfl qA qA trivial (Rg (decide_eq_true h12) rfl (xh7 (c_credit1 (zs.getD j evc0) (zs.getD (j - 1) evc0)) fi125 rfl) rfl qC ?_)))
   refine A4 ?_
   refine x6 rfl (fun h12_2=> ?_) (fun h12_2=> ?_)
   ·
    refine A13 ?_
    refine R2 (xa2 sl22 (by omega) (by omega) rfl) rfl rfl (RE (xc1 (j - 1) ti29 (xc4 (f:=tEvC) (xs:=zs) (d:=evc0) (by omega)) (by omega)) qA qA trivial ?_)
    refine A2 ?_
    refine R2 (xa2 sl22 (by omega) (by omega) rfl) rfl rfl (RE (xc1 (j) ti29 (xc4 (f:=tEvC) (xs:=zs) (d:=evc0) (by omega)) (by omega)) qA qA trivial (R2 (xa2 sl22 (by omega) (by omega) rfl) rfl rfl (RE (xb8 (j) ti29 (rV_lt (by omega)) (by omega) (xi3 (m:=(zs.getD (j - 1) evc0)) rfl)) qB qA trivial (R2 (xa2 sl22 (by omega) (by omega) rfl) rfl rfl (RE (xb8 (j - 1) ti29 (rV_lt (by rw [List.length_set];omega)) (by omega) (xi3 (m:=(zs.getD j evc0)) rfl)) qB qA trivial ?_)))))
    refine A8 ?_
    obtain ⟨q,rfl⟩: ∃q,j=q+1:=⟨j - 1,by omega⟩
    have hlt:=sbI_lt.1 h12_2
    rw [show q+1 - 1=q by omega] at*
    have e1:((zs.set (q+1) (zs.getD q evc0)).set q (zs.getD (q+1) evc0))=swp1 evc0 q zs:=by rw [swp1,List.set_comm _ _ (by omega)]
    exact kF ((swp1 evc0 q zs,q)) ⟨(by dsimp only;exact ⟨by rw [swp1_len,hzl],by omega,by omega,hzp.trans (swp1_prt (by omega) (by omega) (by omega) hlt),ins_step hzi (by omega) (by omega) (by omega) hlt⟩),(by dsimp only;omega)⟩ (hg:=((Sub.consI rfl (Imp.int (by dsimp only;omega))) (sI (sC (sI (sI (sC Sub.nil))))))) (hh:=((SubK.consI rfl (ImpK.of (by rw [e1]))) SubK.nil))
   ·
    refine A11 ?_
    exact kF ((zs,i+1)) ⟨(by dsimp only;exact ⟨hzl,by omega,.inl (by omega),hzp,ins_end hzi (by omega) (fun hh=>by first | omega | exact Int.not_lt.1 (fun hc=>h12_2 (sbI_lt.2 hc)))⟩),(by dsimp only;omega)⟩
  ·
   refine A18 ?_
   refine A9 ?_
   exact kF ((zs,i+1)) ⟨(by dsimp only;exact ⟨hzl,by omega,.inl (by omega),hzp,ins_end hzi (by omega) (fun hh=>by first | omega | exact Int.not_lt.1 (fun hc=>h12_2 (sbI_lt.2 hc)))⟩),(by dsimp only;omega)⟩
 ·
  refine A4 ?_
  exact xj5 LentC.mk' rfl (.inr rfl) ⟨(congrArg some (show (⟨29,14,true,rV tEvC ys⟩:HEnt)=⟨29,14,true,rV tEvC (srtR kfD a b xs)⟩ by rw [srtR_of h1 h2 hp (hs.sub (Nat.le_refl _) (by omega))])),trivial⟩ ⟨⟨rfl,xa5⟩,trivial⟩ rfl
def SymIHE (n:Nat):Prop:= ∀(xs:List EvC) (a m b:Nat) {L:Nat} {x y u:Int},xs.length=L->x=(a:Int)->y=(m:Int)->u=(b:Int)->a < m->m < b->b<=xs.length->xs.length<=1000000->SrtP kfD evc0 a m xs->SrtP kfD evc0 m b xs->b - a < n->CtG Tryz.prog 200 [(20,⟨29,14,true,rV tEvC xs⟩)] [.own (.sl 20 14 0 L),.val (tI x),.val (tI y),.val (tI u),.val (tE (.func (.func 125) #[] #[]))] (.val (tT [])) [(20,⟨29,14,true,rV tEvC (srtR kfD a b xs)⟩)] []
theorem c_symStepE (n:Nat) (ih:SymIHE n) (xs:List EvC) (a m b:Nat) {L:Nat} {x y u:Int} (eL:xs.length=L) (ex:x=(a:Int)) (ey:y=(m:Int)) (eu:u=(b:Int)) (hab:a < m) (hmb:m < b) (h3:b<=xs.length) (hx:xs.length<=1000000) (hs1:SrtP kfD evc0 a m xs) (hs2:SrtP kfD evc0 m b xs) (hn:b - a<=n):
  CtG Tryz.prog 200 [(20,⟨29,14,true,rV tEvC xs⟩)] [.own (.sl 20 14 0 L),.val (tI x),.val (tI y),.val (tI u),.val (tE (.func (.func 125) #[] #[]))] (.val (tT [])) [(20,⟨29,14,true,rV tEvC (srtR kfD a b xs)⟩)] []:=by
 subst ex ey eu eL
 refine CtG.intro [20] Tryz.func200 rfl Tryz.ntmps200 rfl rfl ⟨⟨rfl,xa5⟩,trivial⟩ ?_
 intro w F η
 refine A9 ?_
 refine x6 rfl (fun h382=> ?_) (fun h382=> ?_)
 ·
  refine A14 ?_
  refine cL (fun (fm:(Nat)×(Nat))=>(fun (p:Nat) (q:Nat)=>m<=p/\p<=q/\q<=b/\(∀t,m<=t->t < p->kfD (xs.getD t evc0) < kfD (xs.getD a evc0))/\ ∀t,q<=t->t < b->kfD (xs.getD a evc0)<=kfD (xs.getD t evc0)) fm.1 fm.2) (wB fun (p:Nat) (q:Nat)=>uV (uV (uV (uV (uV (uV (uO uN 0 (.sl 20 14 0 xs.length)) 1 (tI a)) 2 (tI m)) 3 (tI b)) 4 (tE (.func (.func 125) #[] #[]))) 10 (tI p)) 11 (tI q)) (wB fun (p:Nat) (q:Nat)=>uK uN 20 29 14 true (rV tEvC xs)) [20] (fun (fm:(Nat)×(Nat))=>(fun (p:Nat) (q:Nat)=>q - p) fm.1 fm.2) ((m,b)) (by dsimp only;exact ⟨Nat.le_refl _,by omega,Nat.le_refl _,fun t g1 g2=>by omega,fun t g1 g2=>by omega⟩) ?_
  intro fm hI
  obtain ⟨p,q⟩:=fm
  replace hI:m<=p/\p<=q/\q<=b/\(∀t,m<=t->t < p->kfD (xs.getD t evc0) < kfD (xs.getD a evc0))/\ ∀t,q<=t->t < b->kfD (xs.getD a evc0)<=kfD (xs.getD t evc0):=hI
  show wc _ _ _ _ (uV (uV (uV (uV (uV (uV (uO uN 0 (.sl 20 14 0 xs.length)) 1 (tI a)) 2 (tI m)) 3 (tI b)) 4 (tE (.func (.func 125) #[] #[]))) 10 (tI p)) 11 (tI q)) (uK uN 20 29 14 true (rV tEvC xs)) _
  obtain ⟨hlp,hpq,hqh,hf,hg⟩:=hI
  refine A8 ?_
  refine x6 rfl (fun h388=> ?_) (fun h388=> ?_)
  ·
   refine A8 ?_
   refine R1 (x5 Tryz.underlying119 (isS Tryz.underlying3) (by first | exact wu64 (by omega) (by omega) | exact mu64)) rfl (R2 (xh3 (r:=((((p+q) / 2):Nat):Int)) (by decide) ((shrN (s:=1) rfl (by decide)).trans (by simp))) rfl rfl (R1 (x5 Tryz.underlying3 (isS Tryz.underlying119) (wr64 (by omega) (by omega))) rfl ?_))
   refine A8 ?_
   refine R2 (xa2 sl22 (by omega) (by omega) rfl) rfl rfl (RE (xc1 (((p+q) / 2)) ti29 (xc4 (f:=tEvC) (xs:=xs) (d:=evc0) (by omega)) (by omega)) qA qA trivial ?_)
   refine A2 ?_
   refine R2 (xa2 sl22 (by omega) (by omega) rfl) rfl rfl (RE (xc1 (a) ti29 (xc4 (f:=tEvC) (xs:=xs) (d:=evc0) (by omega)) (by omega)) qA qA trivial (R3 (xh7 (c_credit1 (xs.getD ((p+q) / 2) evc0) (xs.getD a evc0)) fi125 rfl) rfl rfl rfl ?_))
   refine A3 ?_
   refine x6 rfl (fun h390=> ?_) (fun h390=> ?_)
   ·
    refine A6 ?_
    have hc:=sbI_lt.1 h390
    exact kF ((((p+q) / 2)+1,q)) ⟨(by dsimp only;exact ⟨by omega,by omega,hqh,fun t g1 g2=>by have:=hs2.le (i:=t) (j:=((p+q) / 2)) (by omega) (by omega) (by omega);omega,hg⟩),(by dsimp only;omega)⟩ (hg:=(sI ((Sub.consI rfl (Imp.int (by dsimp only;omega))) (sC (sI (sI (sI (sC Sub.nil))))))))
   ·
    refine A5 ?_
    have hc:=fun hh=>h390 (sbI_lt.2 hh)
    exact kF ((p,((p+q) / 2))) ⟨(by dsimp only;exact ⟨hlp,by omega,by omega,hf,fun t g1 g2=>by have:=hs2.le (i:=((p+q) / 2)) (j:=t) (by omega) (by omega) (by omega);have:=Int.not_lt.1 hc;omega⟩),(by dsimp only;omega)⟩
  ·
   refine A13 ?_
   refine cL (fun (t:Nat)=>a+1+t<=p) (fun (t:Nat)=>uV (uV (uO uN 0 (.sl 20 14 0 xs.length)) 10 (tI p)) 13 (tI ((a:Int)+(t:Int)))) (fun (t:Nat)=>uK uN 20 29 14 true (rV tEvC (rotR a (a+1) (a+1+t) xs))) [20] (fun (t:Nat)=>p - t) (0) (by omega) (hg:=((Sub.consI rfl (Imp.int (by simp))) (sI (sC Sub.nil)))) (hh:=((SubK.consI rfl (ImpK.of (by rw [rot_none2 evc0 (by omega) (by omega)]))) SubK.nil)) ?_
   intro t hI
   refine A9 ?_
   refine x6 rfl (fun h397=> ?_) (fun h397=> ?_)
   ·
    refine A13 ?_
    refine R2 (xa2 sl22 (by omega) (by omega) rfl) rfl rfl (RE (xc1 (a+t+1) ti29 (xc4 (f:=tEvC) (xs:=(rotR a (a+1) (a+1+t) xs)) (d:=evc0) (by rw [xe2 (by omega) (by omega) (by omega)];omega)) (by omega)) qA qA trivial ?_)
    refine A2 ?_
    refine R2 (xa2 sl22 (by omega) (by omega) rfl) rfl rfl (RE (xc1 (a+t) ti29 (xc4 (f:=tEvC) (xs:=(rotR a (a+1) (a+1+t) xs)) (d:=evc0) (by rw [xe2 (by omega) (by omega) (by omega)];omega)) (by omega)) qA qA trivial (R2 (xa2 sl22 (by omega) (by omega) rfl) rfl rfl (RE (xb8 (a+t) ti29 (rV_lt (by rw [xe2 (by omega) (by omega) (by omega)];omega)) (by omega) (xi3 (m:=((rotR a (a+1) (a+1+t) xs).getD (a+t+1) evc0)) rfl)) qB qA trivial (R2 (xa2 sl22 (by omega) (by omega) rfl) rfl rfl (RE (xb8 (a+t+1) ti29 (rV_lt (by rw [List.length_set,xe2 (by omega) (by omega) (by omega)];omega)) (by omega) (xi3 (m:=((rotR a (a+1) (a+1+t) xs).getD (a+t) evc0)) rfl)) qB qA trivial ?_)))))
    refine A8 ?_
    have hup:=rot_up (d:=evc0) (a:=a) (t:=t) (xs:=xs) (by omega)
    exact kF (t+1) ⟨(by omega),(by omega)⟩ (hg:=((Sub.consI rfl (Imp.int (by omega))) (sI (sC Sub.nil)))) (hh:=((SubK.consI rfl (ImpK.of (by rw [show a+1+(t+1)=a+2+t by omega,<-hup];rfl))) SubK.nil))
   ·
    refine A7 ?_
    exact xj5 LentC.mk' rfl (.inl rfl) ⟨(congrArg some (show (⟨29,14,true,rV tEvC (rotR a (a+1) (a+1+t) xs)⟩:HEnt)=⟨29,14,true,rV tEvC (srtR kfD a b xs)⟩ by have hm1:m=a+1:=(by omega);subst hm1;rw [show a+1+t=p by omega,merge_first hs2 h3 (by omega) (by omega) hf (fun t g1 g2=>hg t (by omega) g2)])),trivial⟩ ⟨⟨rfl,xa5⟩,trivial⟩ rfl
 ·
  refine A11 ?_
  refine x6 rfl (fun h406=> ?_) (fun h406=> ?_)
  ·
   refine A14 ?_
   refine cL (fun (fm:(Nat)×(Nat))=>(fun (p:Nat) (q:Nat)=>a<=p/\p<=q/\q<=m/\(∀t,a<=t->t < p->kfD (xs.getD t evc0)<=kfD (xs.getD m evc0))/\ ∀t,q<=t->t < m->kfD (xs.getD m evc0) < kfD (xs.getD t evc0)) fm.1 fm.2) (wB fun (p:Nat) (q:Nat)=>uV (uV (uV (uV (uV (uV (uO uN 0 (.sl 20 14 0 xs.length)) 1 (tI a)) 2 (tI m)) 3 (tI b)) 4 (tE (.func (.func 125) #[] #[]))) 14 (tI p)) 15 (tI q)) (wB fun (p:Nat) (q:Nat)=>uK uN 20 29 14 true (rV tEvC xs)) [20] (fun (fm:(Nat)×(Nat))=>(fun (p:Nat) (q:Nat)=>q - p) fm.1 fm.2) ((a,m)) (by dsimp only;exact ⟨Nat.le_refl _,by omega,Nat.le_refl _,fun t g1 g2=>by omega,fun t g1 g2=>by omega⟩) ?_
   intro fm hI
   obtain ⟨p,q⟩:=fm
   replace hI:a<=p/\p<=q/\q<=m/\(∀t,a<=t->t < p->kfD (xs.getD t evc0)<=kfD (xs.getD m evc0))/\ ∀t,q<=t->t < m->kfD (xs.getD m evc0) < kfD (xs.getD t evc0):=hI
   show wc _ _ _ _ (uV (uV (uV (uV (uV (uV (uO uN 0 (.sl 20 14 0 xs.length)) 1 (tI a)) 2 (tI m)) 3 (tI b)) 4 (tE (.func (.func 125) #[] #[]))) 14 (tI p)) 15 (tI q)) (uK uN 20 29 14 true (rV tEvC xs)) _
   obtain ⟨hlp,hpq,hqh,hf,hg⟩:=hI
   refine A8 ?_
   refine x6 rfl (fun h412=> ?_) (fun h412=> ?_)
   ·
    refine A8 ?_
    refine R1 (x5 Tryz.underlying119 (isS Tryz.underlying3) (by first | exact wu64 (by omega) (by omega) | exact mu64)) rfl (R2 (xh3 (r:=((((p+q) / 2):Nat):Int)) (by decide) ((shrN (s:=1) rfl (by decide)).trans (by simp))) rfl rfl (R1 (x5 Tryz.underlying3 (isS Tryz.underlying119) (wr64 (by omega) (by omega))) rfl ?_))
    refine A8 ?_
    refine R2 (xa2 sl22 (by omega) (by omega) rfl) rfl rfl (RE (xc1 (m) ti29 (xc4 (f:=tEvC) (xs:=xs) (d:=evc0) (by omega)) (by omega)) qA qA trivial ?_)
    refine A2 ?_
    refine R2 (xa2 sl22 (by omega) (by omega) rfl) rfl rfl (RE (xc1 (((p+q) / 2)) ti29 (xc4 (f:=tEvC) (xs:=xs) (d:=evc0) (by omega)) (by omega)) qA qA trivial (R3 (xh7 (c_credit1 (xs.getD m evc0) (xs.getD ((p+q) / 2) evc0)) fi125 rfl) rfl rfl rfl ?_))
    refine A4 ?_
    refine C_ifn rfl (fun h414=> ?_) (fun h414=> ?_)
    ·
     refine A6 ?_
     have hc:=fun hh=>h414 (sbI_lt.2 hh)
     exact kF ((((p+q) / 2)+1,q)) ⟨(by dsimp only;exact ⟨by omega,by omega,hqh,fun t g1 g2=>by have:=hs1.le (i:=t) (j:=((p+q) / 2)) (by omega) (by omega) (by omega);have:=Int.not_lt.1 hc;omega,hg⟩),(by dsimp only;omega)⟩ (hg:=(sI ((Sub.consI rfl (Imp.int (by dsimp only;omega))) (sC (sI (sI (sI (sC Sub.nil))))))))
    ·
     refine A5 ?_
     have hc:=sbI_lt.1 h414
     exact kF ((p,((p+q) / 2))) ⟨(by dsimp only;exact ⟨hlp,by omega,by omega,hf,fun t g1 g2=>by have:=hs1.le (i:=((p+q) / 2)) (j:=t) (by omega) (by omega) (by omega);omega⟩),(by dsimp only;omega)⟩
   ·
    refine A13 ?_
    refine cL (fun (t:Nat)=>p<=t/\t<=m) (fun (t:Nat)=>uV (uV (uO uN 0 (.sl 20 14 0 xs.length)) 14 (tI p)) 17 (tI t)) (fun (t:Nat)=>uK uN 20 29 14 true (rV tEvC (rotR t m (m+1) xs))) [20] (fun (t:Nat)=>t) (m) ⟨by omega,Nat.le_refl _⟩ (hh:=((SubK.consI rfl (ImpK.of (by rw [rot_none1 evc0 (by omega) (by omega)]))) SubK.nil)) ?_
    intro t hI
    obtain ⟨ht1,ht2⟩:=hI
    refine A8 ?_
    refine x6 rfl (fun h421=> ?_) (fun h421=> ?_)
    ·
     refine A13 ?_
     refine R2 (xa2 sl22 (by omega) (by omega) rfl) rfl rfl (RE (xc1 (t - 1) ti29 (xc4 (f:=tEvC) (xs:=(rotR t m (m+1) xs)) (d:=evc0) (by rw [xe2 (by omega) (by omega) (by omega)];omega)) (by omega)) qA qA trivial ?_)
     refine A2 ?_
     refine R2 (xa2 sl22 (by omega) (by omega) rfl) rfl rfl (RE (xc1 (t) ti29 (xc4 (f:=tEvC) (xs:=(rotR t m (m+1) xs)) (d:=evc0) (by rw [xe2 (by omega) (by omega) (by omega)];omega)) (by omega)) qA qA trivial (R2 (xa2 sl22 (by omega) (by omega) rfl) rfl rfl (RE (xb8 (t) ti29 (rV_lt (by rw [xe2 (by omega) (by omega) (by omega)];omega)) (by omega) (xi3 (m:=((rotR t m (m+1) xs).getD (t - 1) evc0)) rfl)) qB qA trivial (R2 (xa2 sl22 (by omega) (by omega) rfl) rfl rfl (RE (xb8 (t - 1) ti29 (rV_lt (by rw [List.length_set,xe2 (by omega) (by omega) (by omega)];omega)) (by omega) (xi3 (m:=((rotR t m (m+1) xs).getD (t) evc0)) rfl)) qB qA trivial ?_)))))
     refine A8 ?_
     obtain ⟨j,rfl⟩: ∃j,t=j+1:=⟨t - 1,by omega⟩
     have hdn:=rot_down (d:=evc0) (j:=j) (m:=m) (xs:=xs) (by omega) (by omega)
     rw [swp1,List.set_comm _ _ (by omega)] at hdn
     exact kF (j) ⟨⟨by omega,by omega⟩,(by omega)⟩ (hg:=((Sub.consI rfl (Imp.int (by omega))) (sI (sC Sub.nil)))) (hh:=((SubK.consI rfl (ImpK.of (by rw [<-hdn];rfl))) SubK.nil))
    ·
     refine A7 ?_
     exact xj5 LentC.mk' rfl (.inl rfl) ⟨(congrArg some (show (⟨29,14,true,rV tEvC (rotR t m (m+1) xs)⟩:HEnt)=⟨29,14,true,rV tEvC (srtR kfD a b xs)⟩ by have hb1:b=m+1:=(by omega);subst hb1;rw [show t=p by omega,merge_last hs1 (by omega) (by omega) (by omega) hf (fun t g1 g2=>hg t (by omega) g2)])),trivial⟩ ⟨⟨rfl,xa5⟩,trivial⟩ rfl
  ·
   refine A7 ?_
   refine R1 (x5 Tryz.underlying119 (isS Tryz.underlying3) (by first | exact wu64 (by omega) (by omega) | exact mu64)) rfl (R2 (xh3 (r:=((((a+b) / 2):Nat):Int)) (by decide) ((shrN (s:=1) rfl (by decide)).trans (by simp))) rfl rfl (R1 (x5 Tryz.underlying3 (isS Tryz.underlying119) (wr64 (by omega) (by omega))) rfl ?_))
   refine A4 ?_
   obtain ⟨mid,hmid⟩: ∃mid,mid=((a+b) / 2):=⟨_,rfl⟩
   rw [<-hmid]
   refine A13 ?_
   refine xf0 (fun (fm:(Nat)×(Nat))=>(fun (s0:Nat) (r0:Nat)=>((mid < m/\s0=mid+m - b/\r0=mid)∨(m<=mid/\s0=a/\r0=m))) fm.1 fm.2) (wB fun (s0:Nat) (r0:Nat)=>uV (uV (uV (uV (uV (uV (uV (uV (uO uN 0 (.sl 20 14 0 xs.length)) 1 (tI a)) 2 (tI m)) 3 (tI b)) 4 (tE (.func (.func 125) #[] #[]))) 18 (tI mid)) 19 (tI ((mid:Int)+(m:Int)))) 20 (tI s0)) 21 (tI r0)) (wB fun (s0:Nat) (r0:Nat)=>uK uN 20 29 14 true (rV tEvC xs)) (nm [20]) ?_ ?_
   ·
    refine A7 ?_
    refine x6 rfl (fun h430=> ?_) (fun h430=> ?_)
    ·
     refine A12 ?_
     exact kF ((mid+m - b,mid)) (by dsimp only;exact (.inl ⟨by omega,rfl,rfl⟩)) (hg:=(sI ((Sub.consI rfl (Imp.int (by dsimp only;omega))) (sI (sI (sC (sI (sI (sI (sC Sub.nil))))))))))
    ·
     refine A10 ?_
     exact kF ((a,m)) (by dsimp only;exact (.inr ⟨by omega,rfl,rfl⟩))
   ·
    intro fm hsr
    obtain ⟨s0,r0⟩:=fm
    replace hsr:((mid < m/\s0=mid+m - b/\r0=mid)∨(m<=mid/\s0=a/\r0=m)):=hsr
    show wc _ _ _ _ (uV (uV (uV (uV (uV (uV (uV (uV (uO uN 0 (.sl 20 14 0 xs.length)) 1 (tI a)) 2 (tI m)) 3 (tI b)) 4 (tE (.func (.func 125) #[] #[]))) 18 (tI mid)) 19 (tI ((mid:Int)+(m:Int)))) 20 (tI s0)) 21 (tI r0)) (uK uN 20 29 14 true (rV tEvC xs)) _
    refine A9 ?_
    refine cL (fun (fm:(Nat)×(Nat))=>(fun (s:Nat) (r:Nat)=>s0<=s/\s<=r/\r<=r0/\(∀t,s0<=t->t < s->kfD (xs.getD t evc0)<=kfD (xs.getD (mid+m - 1 - t) evc0))/\ ∀t,r<=t->t < r0->kfD (xs.getD (mid+m - 1 - t) evc0) < kfD (xs.getD t evc0)) fm.1 fm.2) (wB fun (s:Nat) (r:Nat)=>uV (uV (uV (uV (uV (uV (uV (uV (uV (uO uN 0 (.sl 20 14 0 xs.length)) 1 (tI a)) 2 (tI m)) 3 (tI b)) 4 (tE (.func (.func 125) #[] #[]))) 18 (tI mid)) 19 (tI ((mid:Int)+(m:Int)))) 20 (tI s)) 21 (tI r)) 22 (tI ((mid:Int)+(m:Int) - 1))) (wB fun (s:Nat) (r:Nat)=>uK uN 20 29 14 true (rV tEvC xs)) [20] (fun (fm:(Nat)×(Nat))=>(fun (s:Nat) (r:Nat)=>r - s) fm.1 fm.2) ((s0,r0)) (by dsimp only;exact ⟨Nat.le_refl _,by omega,Nat.le_refl _,fun t g1 g2=>by omega,fun t g1 g2=>by omega⟩) ?_
    intro fm hI
    obtain ⟨s,r⟩:=fm
    replace hI:s0<=s/\s<=r/\r<=r0/\(∀t,s0<=t->t < s->kfD (xs.getD t evc0)<=kfD (xs.getD (mid+m - 1 - t) evc0))/\ ∀t,r<=t->t < r0->kfD (xs.getD (mid+m - 1 - t) evc0) < kfD (xs.getD t evc0):=hI
    show wc _ _ _ _ (uV (uV (uV (uV (uV (uV (uV (uV (uV (uO uN 0 (.sl 20 14 0 xs.length)) 1 (tI a)) 2 (tI m)) 3 (tI b)) 4 (tE (.func (.func 125) #[] #[]))) 18 (tI mid)) 19 (tI ((mid:Int)+(m:Int)))) 20 (tI s)) 21 (tI r)) 22 (tI ((mid:Int)+(m:Int) - 1))) (uK uN 20 29 14 true (rV tEvC xs)) _
    obtain ⟨hss,hsr1,hrr,hf,hg⟩:=hI
    refine A8 ?_
    refine x6 rfl (fun h439=> ?_) (fun h439=> ?_)
    ·
     refine A8 ?_
     refine R1 (x5 Tryz.underlying119 (isS Tryz.underlying3) (by first | exact wu64 (by omega) (by omega) | exact mu64)) rfl (R2 (xh3 (r:=((((s+r) / 2):Nat):Int)) (by decide) ((shrN (s:=1) rfl (by decide)).trans (by simp))) rfl rfl (R1 (x5 Tryz.underlying3 (isS Tryz.underlying119) (wr64 (by omega) (by omega))) rfl ?_))
     refine A10 ?_
     refine R2 (xa2 sl22 (by omega) (by omega) rfl) rfl rfl (RE (xc1 (mid+m - 1 - (s+r) / 2) ti29 (xc4 (f:=tEvC) (xs:=xs) (d:=evc0) (by omega)) (by omega)) qA qA trivial ?_)
     refine A2 ?_
     refine R2 (xa2 sl22 (by omega) (by omega) rfl) rfl rfl (RE (xc1 ((s+r) / 2) ti29 (xc4 (f:=tEvC) (xs:=xs) (d:=evc0) (by omega)) (by omega)) qA qA trivial (R3 (xh7 (c_credit1 (xs.getD (mid+m - 1 - (s+r) / 2) evc0) (xs.getD ((s+r) / 2) evc0)) fi125 rfl) rfl rfl rfl ?_))
     refine A4 ?_
     refine C_ifn rfl (fun h441=> ?_) (fun h441=> ?_)
     ·
      refine A6 ?_
      have hc:=Int.not_lt.1 (fun hh=>h441 (sbI_lt.2 hh))
      exact kF (((s+r) / 2+1,r)) ⟨(by dsimp only;exact ⟨by omega,by omega,hrr,fun t g1 g2=>by have q1:=hs1.le (i:=t) (j:=(s+r) / 2) (by omega) (by omega) (by omega);have q2:=hs2.le (i:=mid+m - 1 - (s+r) / 2) (j:=mid+m - 1 - t) (by omega) (by omega) (by omega);omega,hg⟩),(by dsimp only;omega)⟩ (hg:=(sI (sI ((Sub.consI rfl (Imp.int (by dsimp only;omega))) (sI (sI (sC (sI (sI (sI (sC Sub.nil)))))))))))
     ·
      refine A5 ?_
      have hc:=sbI_lt.1 h441
      exact kF ((s,(s+r) / 2)) ⟨(by dsimp only;exact ⟨hss,by omega,by omega,hf,fun t g1 g2=>by have q1:=hs1.le (i:=(s+r) / 2) (j:=t) (by omega) (by omega) (by omega);have q2:=hs2.le (i:=mid+m - 1 - t) (j:=mid+m - 1 - (s+r) / 2) (by omega) (by omega) (by omega);omega⟩),(by dsimp only;omega)⟩
    ·
     refine A6 ?_
     have hcut:=cut_of (s:=s) hab hmb hmid hs1 hs2 hsr hss (by omega) hf (fun c g1 g2=>hg c (by omega) g2)
     have hct1:=hcut.sm
     have hct2:=hcut.me
     have hct3:=hcut.eb
     have hct4:=hcut.la
     have hct5:=hcut.hm
     have hpr:=hcut.prt h3
     refine A7 ?_
     refine xf0 (fun (_j:Unit)=>True) (fun (_j:Unit)=>uV (uV (uV (uV (uV (uV (uV (uO uN 0 (.sl 20 14 0 xs.length)) 1 (tI a)) 2 (tI m)) 3 (tI b)) 4 (tE (.func (.func 125) #[] #[]))) 18 (tI mid)) 20 (tI s)) 24 (tI ((mid+m - s:Nat):Int))) (fun (_j:Unit)=>uK uN 20 29 14 true (rV tEvC (rotR s m (mid+m - s) xs))) (nm [20]) ?_ ?_
     ·
      refine A6 ?_
      refine RGcaseD (t:=181) rfl (fun h449=> ?_) (fun h449=> ?_)
      ·
       refine A6 ?_
       refine x6 rfl (fun h449_2=> ?_) (fun h449_2=> ?_)
       ·
        refine A6 ?_
        refine RE (xb7 (fun _=>20) (c_rotateE xs rfl s m (mid+m - s) rfl rfl (by omega) (by omega) (by omega) (by omega) (by omega)) fi222 rfl (krC (ρ:=fun _=>20) (k:=20) xa6 (krN (ρ:=fun _=>20))) (krC (ρ:=fun _=>20) (k:=20) xa6 (krN (ρ:=fun _=>20))) ⟨⟨rfl,xa5⟩,trivial⟩ rfl) ⟨rfl,rfl,rfl,rfl,rfl,trivial⟩ qA trivial ?_
        refine A1 ?_
        exact kF (()) trivial
       ·
        refine A1 ?_
        exact kF (()) trivial (hh:=((SubK.consI rfl (ImpK.of (by rw [show mid+m - s=m by omega,rot_none2 evc0 (by omega) (by omega)]))) SubK.nil))
      ·
       refine A8 ?_
       exact kF (()) trivial (hh:=((SubK.consI rfl (ImpK.of (by rw [show s=m by omega,rot_none1 evc0 (by omega) (by omega)]))) SubK.nil))
     ·
      intro _j hj449
      refine xf0 (fun (_j:Unit)=>True) (fun (_j:Unit)=>uV (uV (uV (uV (uV (uV (uV (uO uN 0 (.sl 20 14 0 xs.length)) 1 (tI a)) 2 (tI m)) 3 (tI b)) 4 (tE (.func (.func 125) #[] #[]))) 18 (tI mid)) 20 (tI s)) 24 (tI ((mid+m - s:Nat):Int))) (fun (_j:Unit)=>uK uN 20 29 14 true (rV tEvC (srtR kfD a mid (rotR s m (mid+m - s) xs)))) (nm [20]) ?_ ?_
      ·
       refine A6 ?_
       refine RGcaseD (t:=195) rfl (fun h452=> ?_) (fun h452=> ?_)
       ·
        refine A6 ?_
        refine x6 rfl (fun h452_2=> ?_) (fun h452_2=> ?_)
        ·
         refine A6 ?_
         refine RE (xb7 (fun _=>20) (ih (rotR s m (mid+m - s) xs) a s mid hpr.len rfl rfl rfl (by omega) (by omega) (by rw [hpr.len];omega) (by rw [hpr.len];omega) (hcut.left1 h3 hs1) (hcut.left2 h3 hs2) (by omega)) fi200 rfl (krC (ρ:=fun _=>20) (k:=20) xa6 (krN (ρ:=fun _=>20))) (krC (ρ:=fun _=>20) (k:=20) xa6 (krN (ρ:=fun _=>20))) ⟨⟨rfl,xa5⟩,trivial⟩ rfl) ⟨rfl,rfl,rfl,rfl,rfl,trivial⟩ qA trivial ?_
         refine A1 ?_
         exact kF (()) trivial
        ·
         refine A1 ?_
         exact kF (()) trivial (hh:=((SubK.consI rfl (ImpK.of (by rw [hcut.leftId h3 hs1 hs2 (by omega)]))) SubK.nil))
       ·
        refine A8 ?_
        exact kF (()) trivial (hh:=((SubK.consI rfl (ImpK.of (by rw [hcut.leftId h3 hs1 hs2 (by omega)]))) SubK.nil))
      ·
       intro _j hj452
       refine A1 ?_
       have hpr2:Prt kfD evc0 a mid (rotR s m (mid+m - s) xs) (srtR kfD a mid (rotR s m (mid+m - s) xs)):=xo3 (by omega) (by rw [hpr.len];omega)
       refine A5 ?_
       refine RGcaseD (t:=209) rfl (fun h455=> ?_) (fun h455=> ?_)
       ·
        refine A6 ?_
        refine x6 rfl (fun h455_2=> ?_) (fun h455_2=> ?_)
        ·
         refine A6 ?_
         refine RE (xb7 (fun _=>20) (ih (srtR kfD a mid (rotR s m (mid+m - s) xs)) mid (mid+m - s) b (hpr2.len.trans hpr.len) rfl rfl rfl (by omega) (by omega) (by rw [hpr2.len,hpr.len];omega) (by rw [hpr2.len,hpr.len];omega) ((hcut.right1 h3 hs1).out hpr2 (.inr (Nat.le_refl _))) ((hcut.right2 h3 hs2).out hpr2 (.inr (by omega))) (by omega)) fi200 rfl (krC (ρ:=fun _=>20) (k:=20) xa6 (krN (ρ:=fun _=>20))) (krC (ρ:=fun _=>20) (k:=20) xa6 (krN (ρ:=fun _=>20))) ⟨⟨rfl,xa5⟩,trivial⟩ rfl) ⟨rfl,rfl,rfl,rfl,rfl,trivial⟩ qA trivial ?_
         refine A1 ?_
         exact xj5 LentC.mk' rfl (.inr rfl) ⟨(congrArg some (show (⟨29,14,true,rV tEvC (srtR kfD mid b (srtR kfD a mid (rotR s m (mid+m - s) xs)))⟩:HEnt)=⟨29,14,true,rV tEvC (srtR kfD a b xs)⟩ by rw [hcut.fin h3 hs1 hs2])),trivial⟩ ⟨⟨rfl,xa5⟩,trivial⟩ rfl
        ·
         refine A1 ?_
         exact xj5 LentC.mk' rfl (.inr rfl) ⟨(congrArg some (show (⟨29,14,true,rV tEvC (srtR kfD a mid (rotR s m (mid+m - s) xs))⟩:HEnt)=⟨29,14,true,rV tEvC (srtR kfD a b xs)⟩ by rw [<-hcut.fin h3 hs1 hs2,hcut.rightId h3 hs1 hs2 (by omega)])),trivial⟩ ⟨⟨rfl,xa5⟩,trivial⟩ rfl
       ·
        refine A8 ?_
        exact xj5 LentC.mk' rfl (.inr rfl) ⟨(congrArg some (show (⟨29,14,true,rV tEvC (srtR kfD a mid (rotR s m (mid+m - s) xs))⟩:HEnt)=⟨29,14,true,rV tEvC (srtR kfD a b xs)⟩ by rw [<-hcut.fin h3 hs1 hs2,hcut.rightId h3 hs1 hs2 (by omega)])),trivial⟩ ⟨⟨rfl,xa5⟩,trivial⟩ rfl
theorem symIH_allE: ∀n,SymIHE n
 | 0=>fun xs a m b L x y u eL ex ey eu h1 h2 h3 h4 h5 h6 h7=>absurd h7 (Nat.not_lt_zero _)
 | n+1=>fun xs a m b L x y u eL ex ey eu h1 h2 h3 h4 h5 h6 h7=>c_symStepE n (symIH_allE n) xs a m b eL ex ey eu h1 h2 h3 h4 h5 h6 (by omega)
theorem c_symE (xs:List EvC) (a m b:Nat) {L:Nat} {x y u:Int} (eL:xs.length=L) (ex:x=(a:Int)) (ey:y=(m:Int)) (eu:u=(b:Int)) (h1:a < m) (h2:m < b) (h3:b<=xs.length) (h4:xs.length<=1000000) (h5:SrtP kfD evc0 a m xs) (h6:SrtP kfD evc0 m b xs):CtG Tryz.prog 200 [(20,⟨29,14,true,rV tEvC xs⟩)] [.own (.sl 20 14 0 L),.val (tI x),.val (tI y),.val (tI u),.val (tE (.func (.func 125) #[] #[]))] (.val (tT [])) [(20,⟨29,14,true,rV tEvC (srtR kfD a b xs)⟩)] []:=
 symIH_allE (b - a+1) xs a m b eL ex ey eu h1 h2 h3 h4 h5 h6 (Nat.lt_succ_self _)
theorem c_stableE (xs:List EvC) {L:Nat} (eL:xs.length=L) {x:Int} (ex:x=(xs.length:Int)) (hx:xs.length<=1000000):
  CtG Tryz.prog 168 [(20,⟨29,14,true,rV tEvC xs⟩)] [.own (.sl 20 14 0 L),.val (tI x),.val (tE (.func (.func 125) #[] #[]))] (.val (tT [])) [(20,⟨29,14,true,rV tEvC (ssort kfD xs)⟩)] []:=by
 subst ex eL
 refine CtG.intro [20] Tryz.func168 rfl Tryz.ntmps168 rfl rfl ⟨⟨rfl,xa5⟩,trivial⟩ ?_
 intro w F η
 refine A14 ?_
 refine cL (fun (fm:(List EvC)×(Nat))=>(fun (ys:List EvC) (c:Nat)=>ys.length=xs.length/\c*20<=xs.length/\Prt kfD evc0 0 xs.length xs ys/\BlkA kfD evc0 20 c ys) fm.1 fm.2) (wB fun (ys:List EvC) (c:Nat)=>uV (uV (uV (uV (uV (uO uN 0 (.sl 20 14 0 xs.length)) 1 (tI xs.length)) 2 (tE (.func (.func 125) #[] #[]))) 6 (tI 20)) 7 (tI ((c*20:Nat):Int))) 8 (tI ((c*20+20:Nat):Int))) (wB fun (ys:List EvC) (c:Nat)=>uK uN 20 29 14 true (rV tEvC ys)) [20] (fun (fm:(List EvC)×(Nat))=>(fun (ys:List EvC) (c:Nat)=>xs.length - c*20) fm.1 fm.2) ((xs,0)) (by dsimp only;exact ⟨rfl,by omega,Prt.refl ..,blkA_zero⟩) ?_
 intro fm hI
 obtain ⟨ys,c⟩:=fm
 replace hI:ys.length=xs.length/\c*20<=xs.length/\Prt kfD evc0 0 xs.length xs ys/\BlkA kfD evc0 20 c ys:=hI
 show wc _ _ _ _ (uV (uV (uV (uV (uV (uO uN 0 (.sl 20 14 0 xs.length)) 1 (tI xs.length)) 2 (tE (.func (.func 125) #[] #[]))) 6 (tI 20)) 7 (tI ((c*20:Nat):Int))) 8 (tI ((c*20+20:Nat):Int))) (uK uN 20 29 14 true (rV tEvC ys)) _
 obtain ⟨hl,hc,hp,hb⟩:=hI
 refine A8 ?_
 refine x6 rfl (fun h338=> ?_) (fun h338=> ?_)
 ·
  refine A9 ?_
  refine RE (xb7 (fun _=>20) (c_insSortE ys hl (c*20) (c*20+20) rfl rfl (by omega) (by omega) (by omega)) fi199 rfl (krC (ρ:=fun _=>20) (k:=20) xa6 (krN (ρ:=fun _=>20))) (krC (ρ:=fun _=>20) (k:=20) xa6 (krN (ρ:=fun _=>20))) ⟨⟨rfl,xa5⟩,trivial⟩ rfl) qD qA trivial ?_
  refine A15 ?_
  have hq:Prt kfD evc0 (c*20) (c*20+20) ys (srtR kfD (c*20) (c*20+20) ys):=xo3 (by omega) (by omega)
  exact kF (((srtR kfD (c*20) (c*20+20) ys),c+1)) ⟨(by dsimp only;exact ⟨hq.len.trans hl,by omega,hp.trans (hq.mono (by omega) (by omega)),blkA_next hb hq (xr3 (by omega) (by omega))⟩),(by dsimp only;omega)⟩ (hg:=((Sub.consI rfl (Imp.int (by dsimp only;omega))) ((Sub.consI rfl (Imp.int (by dsimp only;omega))) (sI (sC (sI (sC Sub.nil)))))))
 ·
  refine A6 ?_
  have hq:Prt kfD evc0 (c*20) xs.length ys (srtR kfD (c*20) xs.length ys):=xo3 (by omega) (by omega)
  refine A5 ?_
  refine RE (xb7 (fun _=>20) (c_insSortE ys hl (c*20) xs.length rfl rfl (by omega) (by omega) (by omega)) fi199 rfl (krC (ρ:=fun _=>20) (k:=20) xa6 (krN (ρ:=fun _=>20))) (krC (ρ:=fun _=>20) (k:=20) xa6 (krN (ρ:=fun _=>20))) ⟨⟨rfl,xa5⟩,trivial⟩ rfl) qD qA trivial ?_
  refine A3 ?_
  refine cL (fun (fm:(List EvC)×(Nat))=>(fun (zs:List EvC) (w:Nat)=>zs.length=xs.length/\20<=w/\w<=2*xs.length+20/\Prt kfD evc0 0 xs.length xs zs/\BlkP kfD evc0 w xs.length zs) fm.1 fm.2) (wB fun (zs:List EvC) (w:Nat)=>uV (uV (uV (uO uN 0 (.sl 20 14 0 xs.length)) 1 (tI xs.length)) 2 (tE (.func (.func 125) #[] #[]))) 6 (tI w)) (wB fun (zs:List EvC) (w:Nat)=>uK uN 20 29 14 true (rV tEvC zs)) [20] (fun (fm:(List EvC)×(Nat))=>(fun (zs:List EvC) (w:Nat)=>xs.length - w) fm.1 fm.2) (((srtR kfD (c*20) xs.length ys),20)) (by dsimp only;exact ⟨hq.len.trans hl,Nat.le_refl _,by omega,hp.trans (hq.mono (by omega) (Nat.le_refl _)),blkP_of hb (by omega) hq (xr3 (by omega) (by omega))⟩) ?_
  intro fm hI
  obtain ⟨zs,w⟩:=fm
  replace hI:zs.length=xs.length/\20<=w/\w<=2*xs.length+20/\Prt kfD evc0 0 xs.length xs zs/\BlkP kfD evc0 w xs.length zs:=hI
  show wc _ _ _ _ (uV (uV (uV (uO uN 0 (.sl 20 14 0 xs.length)) 1 (tI xs.length)) 2 (tE (.func (.func 125) #[] #[]))) 6 (tI w)) (uK uN 20 29 14 true (rV tEvC zs)) _
  obtain ⟨hzl,hw0,hw1,hzp,hzb⟩:=hI
  refine A8 ?_
  refine x6 rfl (fun h345=> ?_) (fun h345=> ?_)
  ·
   refine A6 ?_
   refine R2 (xi2 (wr64 (by omega) (by omega))) rfl rfl ?_
   refine A6 ?_
   refine cL (fun (fm:(List EvC)×(Nat))=>(fun (us:List EvC) (v:Nat)=>us.length=xs.length/\(v*(2*w))<=xs.length/\Prt kfD evc0 0 xs.length xs us/\BlkA kfD evc0 (2*w) v us/\BlkR kfD evc0 w xs.length (v*(2*w)) us) fm.1 fm.2) (wB fun (us:List EvC) (v:Nat)=>uV (uV (uV (uV (uV (uO uN 0 (.sl 20 14 0 xs.length)) 1 (tI xs.length)) 2 (tE (.func (.func 125) #[] #[]))) 6 (tI w)) 7 (tI (((v*(2*w)):Nat):Int))) 8 (tI (((v*(2*w))+2*w:Nat):Int))) (wB fun (us:List EvC) (v:Nat)=>uK uN 20 29 14 true (rV tEvC us)) [20] (fun (fm:(List EvC)×(Nat))=>(fun (us:List EvC) (v:Nat)=>xs.length - (v*(2*w))) fm.1 fm.2) ((zs,0)) (by dsimp only;exact ⟨hzl,by omega,hzp,blkA_zero,by rw [Nat.zero_mul];exact blkP_R hzb⟩) (hg:=((Sub.consI rfl (Imp.int (by dsimp only;omega))) ((Sub.consI rfl (Imp.int (by dsimp only;omega))) (sI (sC (sI (sC Sub.nil))))))) ?_
   intro fm hI
   obtain ⟨us,v⟩:=fm
   replace hI:us.length=xs.length/\(v*(2*w))<=xs.length/\Prt kfD evc0 0 xs.length xs us/\BlkA kfD evc0 (2*w) v us/\BlkR kfD evc0 w xs.length (v*(2*w)) us:=hI
   show wc _ _ _ _ (uV (uV (uV (uV (uV (uO uN 0 (.sl 20 14 0 xs.length)) 1 (tI xs.length)) 2 (tE (.func (.func 125) #[] #[]))) 6 (tI w)) 7 (tI (((v*(2*w)):Nat):Int))) 8 (tI (((v*(2*w))+2*w:Nat):Int))) (uK uN 20 29 14 true (rV tEvC us)) _
   obtain ⟨hul,hvn,hup,huA,huR⟩:=hI
   have hat:=fun hh=>huR.at (u:=v) (Nat.le_refl _) hh
   refine A8 ?_
   refine x6 rfl (fun h347=> ?_) (fun h347=> ?_)
   ·
    refine A12 ?_
    refine RE (xb7 (fun _=>20) (c_symE us (v*(2*w)) ((v*(2*w))+w) ((v*(2*w))+2*w) hul rfl (by omega) (by omega) (by omega) (by omega) (by omega) (by omega) (hat (by omega)).1 ((hat (by omega)).2.sub (Nat.le_refl _) (by omega))) fi200 rfl (krC (ρ:=fun _=>20) (k:=20) xa6 (krN (ρ:=fun _=>20))) (krC (ρ:=fun _=>20) (k:=20) xa6 (krN (ρ:=fun _=>20))) ⟨⟨rfl,xa5⟩,trivial⟩ rfl) ⟨rfl,rfl,rfl,rfl,rfl,trivial⟩ qA trivial ?_
    refine A11 ?_
    refine R2 (xi2 (wr64 (by omega) (by omega))) rfl rfl ?_
    refine A4 ?_
    have hq3:Prt kfD evc0 (v*(2*w)) ((v*(2*w))+2*w) us (srtR kfD (v*(2*w)) ((v*(2*w))+2*w) us):=xo3 (by omega) (by omega)
    have hsm:(v+1)*(2*w)=(v*(2*w))+2*w:=Nat.succ_mul v (2*w)
    exact kF (((srtR kfD (v*(2*w)) ((v*(2*w))+2*w) us),v+1)) ⟨(by dsimp only;exact ⟨hq3.len.trans hul,by omega,hup.trans (hq3.mono (by omega) (by omega)),blkA_next huA hq3 (xr3 (by omega) (by omega)),huR.next hq3 (by omega) (by omega)⟩),(by dsimp only;omega)⟩ (hg:=((Sub.consI rfl (Imp.int (by dsimp only;omega))) ((Sub.consI rfl (Imp.int (by dsimp only;omega))) (sI (sC (sI (sC Sub.nil)))))))
   ·
    refine A18 ?_
    refine A3 ?_
    refine x6 rfl (fun h352=> ?_) (fun h352=> ?_)
    ·
     refine A6 ?_
     refine RE (xb7 (fun _=>20) (c_symE us (v*(2*w)) ((v*(2*w))+w) xs.length hul rfl (by omega) rfl (by omega) (by omega) (by omega) (by omega) (hat (by omega)).1 ((hat (by omega)).2.sub (Nat.le_refl _) (by omega))) fi200 rfl (krC (ρ:=fun _=>20) (k:=20) xa6 (krN (ρ:=fun _=>20))) (krC (ρ:=fun _=>20) (k:=20) xa6 (krN (ρ:=fun _=>20))) ⟨⟨rfl,xa5⟩,trivial⟩ rfl) ⟨rfl,rfl,rfl,rfl,rfl,trivial⟩ qA trivial ?_
     refine A4 ?_
     refine R2 (xi2 (wr64 (by omega) (by omega))) rfl rfl ?_
     refine A3 ?_
     have hq5:Prt kfD evc0 (v*(2*w)) xs.length us (srtR kfD (v*(2*w)) xs.length us):=xo3 (by omega) (by omega)
     exact kF (((srtR kfD (v*(2*w)) xs.length us),2*w)) ⟨(by dsimp only;exact ⟨hq5.len.trans hul,by omega,by omega,hup.trans (hq5.mono (by omega) (Nat.le_refl _)),blkP_of huA (by omega) hq5 (xr3 (by omega) (by omega))⟩),(by dsimp only;omega)⟩ (hg:=((Sub.consI rfl (Imp.int (by dsimp only;omega))) (sC (sI (sC Sub.nil)))))
    ·
     refine A4 ?_
     refine R2 (xi2 (wr64 (by omega) (by omega))) rfl rfl ?_
     refine A3 ?_
     exact kF ((us,2*w)) ⟨(by dsimp only;exact ⟨hul,by omega,by omega,hup,blkP_end huA (by omega) (huR.one (Nat.le_refl _) (by omega))⟩),(by dsimp only;omega)⟩ (hg:=((Sub.consI rfl (Imp.int (by dsimp only;omega))) (sC (sI (sC Sub.nil)))))
  ·
   refine A4 ?_
   exact xj5 LentC.mk' rfl (.inr rfl) ⟨(congrArg some (show (⟨29,14,true,rV tEvC zs⟩:HEnt)=⟨29,14,true,rV tEvC (ssort kfD xs)⟩ by rw [srtR_of (Nat.zero_le _) (Nat.le_refl _) hzp (blkP_all hzb (by omega)),srtR_all])),trivial⟩ ⟨⟨rfl,xa5⟩,trivial⟩ rfl
theorem c_sortStableE (xs:List EvC) {L:Nat} (eL:xs.length=L) (hx:xs.length<=1000000):
  CtG Tryz.prog 124 [(20,⟨29,14,true,rV tEvC xs⟩)] [.own (.sl 20 14 0 L),.val (tE (.func (.func 125) #[] #[]))] (.val (tT [])) [(20,⟨29,14,true,rV tEvC (ssort kfD xs)⟩)] []:=by
 subst eL
 refine CtG.intro [20] Tryz.func124 rfl Tryz.ntmps124 rfl rfl ⟨⟨rfl,xa5⟩,trivial⟩ ?_
 intro w F η
 refine A5 ?_
 refine RE (xb7 (fun _=>20) (c_stableE xs rfl rfl hx) fi168 rfl (krC (ρ:=fun _=>20) (k:=20) xa6 (krN (ρ:=fun _=>20))) (krC (ρ:=fun _=>20) (k:=20) xa6 (krN (ρ:=fun _=>20))) ⟨⟨rfl,xa5⟩,trivial⟩ rfl) qC qA trivial ?_
 refine A1 ?_
 exact xj5 LentC.mk' rfl (.inr rfl) qA ⟨⟨rfl,xa5⟩,trivial⟩ rfl
theorem mem_getE2 {l:List EvC} {i:Nat} (hi:i < l.length):l.getD i evc0∈l:=by
 rw [List.getD_eq_getElem?_getD,List.getElem?_eq_getElem hi];exact List.getElem_mem hi
theorem c_credit2 (cs:List EvC) (hk:CrOk cs) (hcl:cs.length<=1000) (n:Nat) (d:Int) (hn:n<=upC cs d):
  CtG Tryz.prog 126 [(1,⟨3,1,false,[.val (tI ((n:Nat):Int))]⟩),(2,⟨22,1,false,[.val (tL 14 true tEvC cs)]⟩),(3,⟨27,4,true,[.val (tFr (fr (crS cs n)))]⟩)] [.val (tI d),.own (.ptr 1 0),.own (.ptr 2 0),.own (.ptr 3 0)] (.val (tT [tFr (fr (crS cs (upC cs d))),tB true])) [(1,⟨3,1,false,[.val (tI (((upC cs d):Nat):Int))]⟩),(2,⟨22,1,false,[.val (tL 14 true tEvC cs)]⟩),(3,⟨27,4,true,[.val (tFr (fr (crS cs (upC cs d))))]⟩)] []:=by
 have hul:=upC_le (cs:=cs) (d:=d)
 refine CtG.intro [1,2,3] Tryz.func126 rfl Tryz.ntmps126 rfl rfl ⟨⟨rfl,(SupX.lit rfl)⟩,⟨rfl,(SupX.lit rfl)⟩,⟨rfl,(SupX.lit rfl)⟩,trivial⟩ ?_
 intro w F η
 refine A2 ?_
 refine RE (x7 (k:=5) (n:=4) (agg:=true) zr27.1 zr27.2 rfl) trivial trivial qA ?_
 refine A5 ?_
 refine cL (fun (m:Nat)=>m<=upC cs d) (fun (m:Nat)=>uO (uO (uO (uO (uV uN 0 (tI d)) 1 (.ptr 1 0)) 2 (.ptr 2 0)) 3 (.ptr 3 0)) 5 (.ptr 5 0)) (fun (m:Nat)=>uK (uK (uK (uK uN 1 3 1 false [.val (tI ((m:Nat):Int))]) 2 22 1 false [.val (tL 14 true tEvC cs)]) 3 27 4 true [.val (tFr (fr (crS cs m)))]) 5 27 4 true [.val (tFr fr0)]) [1,2,3,5] (fun (m:Nat)=>cs.length - m) (n) hn (hh:=((SubK.consI rfl (ImpK.of rfl)) (SubK.cons rfl (SubK.cons rfl (SubK.cons rfl SubK.nil))))) ?_
 intro m hI
 refine A8 ?_
 refine RGcaseD (t:=11) rfl (fun h176=> ?_) (fun h176=> ?_)
 ·
  refine A2 ?_
  refine Rg (decide_eq_true h176) rfl (x4 sl22 (m) (by omega) (gD (l:=cs) (n:=m) (d:=evc0) (by omega))) rfl ⟨rfl,rfl,trivial⟩ (Rg (decide_eq_true h176) rfl (xf3 fo29_3.h (At.f 3 rfl rfl) rfl) rfl ⟨rfl,trivial⟩ ?_)
  refine A6 ?_
  refine x6 rfl (fun h176_2=> ?_) (fun h176_2=> ?_)
  ·
   refine A8 ?_
   refine R2 (x4 sl22 (m) (by omega) (gD (l:=cs) (n:=m) (d:=evc0) (by omega))) rfl rfl (R1 (xf3 fo29_5.h (At.f 5 rfl rfl) rfl) rfl ?_)
   refine A1 ?_
   have hon:=hk.one (cs.getD m evc0) (mem_getE2 (by omega))
   refine R2 (x3 (c_FAddM (crS cs m) (cs.getD m evc0).1.part.rat _ hon.1 (hk.all m (by omega)) hon.2 (by rw [<-crS_next (by omega)];exact hk.all (m+1) (by omega))) fi127 rfl) rfl rfl ?_
   refine A12 ?_
   have hlt:m < upC cs d:=Nat.lt_of_le_of_ne hI fun he=>by
    have h1:=upC_at (cs:=cs) (d:=d) (by omega)
    rw [<-he] at h1;omega
   exact kF (m+1) ⟨hlt,(by omega)⟩ (hh:=(SubK.cons rfl ((SubK.consI rfl (ImpK.of (by rw [crS_next (by omega)];try rfl))) (SubK.cons rfl ((SubK.consI rfl (ImpK.of (by rw [show ((m+1:Nat):Int)=(m:Int)+1 by omega];try rfl))) SubK.nil)))))
  ·
   refine A6 ?_
   have hme:m=upC cs d:=by
    rcases Nat.lt_or_ge m (upC cs d) with h1 | h1
    ·have:=upC_lt h1;omega
    ·omega
   refine A7 ?_
   exact xn2 LentC.mk' (rs:=[.cell 5 27,.tmp 6]) rfl rfl ⟨⟨_,_,_,_,_,rfl,rfl,ti27,(Le.of (by rw [hme]))⟩,⟨_,rfl,Le.refl⟩,trivial⟩ ⟨(congrArg some (show (⟨3,1,false,[.val (tI ((m:Nat):Int))]⟩:HEnt)=⟨3,1,false,[.val (tI (((upC cs d):Nat):Int))]⟩ by rw [hme])),rfl,(congrArg some (show (⟨27,4,true,[.val (tFr (fr (crS cs m)))]⟩:HEnt)=⟨27,4,true,[.val (tFr (fr (crS cs (upC cs d))))]⟩ by rw [hme])),trivial⟩ ⟨⟨rfl,(SupX.lit rfl)⟩,⟨rfl,(SupX.lit rfl)⟩,⟨rfl,(SupX.lit rfl)⟩,trivial⟩ rfl
 ·
  refine A17 ?_
  have hme:m=upC cs d:=by
   rcases Nat.lt_or_ge m (upC cs d) with h1 | h1
   ·have:=upC_lt h1;omega
   ·omega
  refine A7 ?_
  exact xn2 LentC.mk' (rs:=[.cell 5 27,.tmp 6]) rfl rfl ⟨⟨_,_,_,_,_,rfl,rfl,ti27,(Le.of (by rw [hme]))⟩,⟨_,rfl,Le.refl⟩,trivial⟩ ⟨(congrArg some (show (⟨3,1,false,[.val (tI ((m:Nat):Int))]⟩:HEnt)=⟨3,1,false,[.val (tI (((upC cs d):Nat):Int))]⟩ by rw [hme])),rfl,(congrArg some (show (⟨27,4,true,[.val (tFr (fr (crS cs m)))]⟩:HEnt)=⟨27,4,true,[.val (tFr (fr (crS cs (upC cs d))))]⟩ by rw [hme])),trivial⟩ ⟨⟨rfl,(SupX.lit rfl)⟩,⟨rfl,(SupX.lit rfl)⟩,⟨rfl,(SupX.lit rfl)⟩,trivial⟩ rfl
end An.S
namespace An
open Go An.S
def nw1 (key:ByteArray) (kn:Int) (r:List Fa×Int) (x:Tst):List Fa×Int:=
 ((if r.2 < x.lo then r.1++[⟨key,r.2,x.lo,kn,true,va0⟩] else r.1)++[⟨key,x.lo,x.hi,kn,false,x.v⟩],x.hi)
def nwR (key:ByteArray) (kn:Int) (ps:List Tst) (a:Int):List Fa×Int:=ps.foldl (nw1 key kn) ([],a)
def nwP (key:ByteArray) (kn:Int) (ps:List Tst) (a b:Int):List Fa:=(nwR key kn ps a).1++if (nwR key kn ps a).2 < b then [⟨key,(nwR key kn ps a).2,b,kn,true,va0⟩] else []
def nwT (now:List Tst) (key:ByteArray) (kn:Int) (s:Sn):List Fa:=nwP key kn (cutT now s.lo s.hi) s.lo s.hi
def nwD (now:List Tst) (key:ByteArray) (kn:Int) (S:List Sn):List Fa:=S.flatMap (nwT now key kn)
theorem nwR_snoc {key:ByteArray} {kn:Int} {ps:List Tst} {a:Int} {i:Nat} (hi:i < ps.length):nwR key kn (ps.take (i+1)) a=nw1 key kn (nwR key kn (ps.take i) a) (ps.getD i tst0):=by
 rw [List.take_succ_eq_append_getElem hi,nwR,List.foldl_append,List.getD_eq_getElem?_getD,List.getElem?_eq_getElem hi];rfl
theorem nwD_snoc {now:List Tst} {key:ByteArray} {kn:Int} {S:List Sn} {i:Nat} (hi:i < S.length):nwD now key kn (S.take (i+1))=nwD now key kn (S.take i)++nwT now key kn (S.getD i sn0):=by
 rw [List.take_succ_eq_append_getElem hi,nwD,List.flatMap_append,List.getD_eq_getElem?_getD,List.getElem?_eq_getElem hi]
 simp [nwD]
def rowF (a b:Int):List Fa->Prop
 | []=>a=b
 | f::r=>f.lo=a/\f.lo < f.hi/\rowF f.hi b r
theorem rowF_app {b c:Int}: ∀{xs ys:List Fa} {a:Int},rowF a b xs->rowF b c ys->rowF a c (xs++ys)
 | [],ys,a,h1,h2=>by rw [show a=b from h1];exact h2
 | x::xs,ys,a,h1,h2=>⟨h1.1,h1.2.1,rowF_app h1.2.2 h2⟩
theorem xo6 {b:Int}: ∀{xs:List Fa} {a:Int},rowF a b xs->a<=b/\ ∀f∈xs,a<=f.lo/\f.lo < f.hi/\f.hi<=b
 | [],a,h=>⟨Int.le_of_eq h,fun f hf=>by cases hf⟩
 | x::xs,a,h=>by
  obtain ⟨h1,h2,h3⟩:=h
  obtain ⟨g1,g2⟩:=xo6 h3
  refine ⟨by omega,fun f hf=> ?_⟩
  rcases List.mem_cons.1 hf with rfl | hf
  ·omega
  ·have:=g2 f hf;omega
theorem nwR_row {key:ByteArray} {kn:Int} {a b:Int} (hab:a<=b): ∀(n:Nat) (ps:List Tst),ps.length=n->ascT ps->(∀s∈ps,a<=s.lo/\s.hi<=b)->
  rowF a (nwR key kn ps a).2 (nwR key kn ps a).1/\(nwR key kn ps a).2<=b/\(∀s∈ps,s.hi<=(nwR key kn ps a).2)/\(∀f∈(nwR key kn ps a).1,f.key=key/\f.kn=kn/\(if f.gone=true then f.v=va0 else ∃s∈ps,s.v=f.v))/\
  ∀d f,f∈(nwR key kn ps a).1->onF d f=true->valF (some f)=valT ps d:=fun n ps hn h1 h2=>
 xs4 (C:=fun ps=>ascT ps->(∀s∈ps,a<=s.lo/\s.hi<=b)->
  rowF a (nwR key kn ps a).2 (nwR key kn ps a).1/\(nwR key kn ps a).2<=b/\(∀s∈ps,s.hi<=(nwR key kn ps a).2)/\(∀f∈(nwR key kn ps a).1,f.key=key/\f.kn=kn/\(if f.gone=true then f.v=va0 else ∃s∈ps,s.v=f.v))/\
  ∀d f,f∈(nwR key kn ps a).1->onF d f=true->valF (some f)=valT ps d)
  (fun _ _=>⟨rfl,hab,fun s hs=>(by cases hs),fun f hf=>(by cases hf),fun d f hf=>by cases hf⟩)
  (fun ps x ih h1 h2=>by
   have ha:=List.pairwise_append.1 h1.2
   have hx:x.lo < x.hi:=h1.1 x (by simp)
   obtain ⟨r1,r2,r3,r4,r5⟩:=ih ⟨fun s hs=>h1.1 s (List.mem_append_left _ hs),ha.1⟩ fun s hs=>h2 s (List.mem_append_left _ hs)
   have hxb:=h2 x (by simp)
   have hle:(nwR key kn ps a).2<=x.lo:=by
    rcases Nat.eq_zero_or_pos ps.length with h0 | h0
    ·rw [List.eq_nil_of_length_eq_zero h0];exact hxb.1
    ·
     have: ∃s∈ps,(nwR key kn ps a).2=s.hi:=by
      have e:ps=ps.take (ps.length - 1)++[ps.getD (ps.length - 1) tst0]:=splitG h0
      refine ⟨ps.getD (ps.length - 1) tst0,by rw [List.getD_eq_getElem?_getD,List.getElem?_eq_getElem (by omega)];exact List.getElem_mem _,?_⟩
      rw [e,nwR,List.foldl_append]
      rw [<-e];rfl
     obtain ⟨s,hs,e⟩:=this
     rw [e];exact ha.2.2 s hs x (by simp)
   have hvx: ∀d,valT (ps++[x]) d=(valT ps d).or (if x.lo<=d/\d < x.hi then some x.v else none):=fun d=>by
    rw [xs7,xg1];rfl
   have hps: ∀d,(nwR key kn ps a).2<=d->valT ps d=none:=fun d hd=>xr7 (.inr fun s hs=>by have:=r3 s hs;omega)
   have e:nwR key kn (ps++[x]) a=nw1 key kn (nwR key kn ps a) x:=by rw [nwR,List.foldl_append];rfl
   rw [e]
   generalize nwR key kn ps a=r at*
   have hfx:rowF x.lo x.hi [⟨key,x.lo,x.hi,kn,false,x.v⟩]:=⟨rfl,hx,rfl⟩
   have hlast: ∀d,onF d ⟨key,x.lo,x.hi,kn,false,x.v⟩=true->valF (some ⟨key,x.lo,x.hi,kn,false,x.v⟩)=valT (ps++[x]) d:=fun d hd=>by
    have hd:=xr9.1 hd
    have hd1:x.lo<=d:=hd.1
    have hd2:d < x.hi:=hd.2
    rw [hvx,hps d (by omega),if_pos ⟨hd1,hd2⟩];rfl
   have hold: ∀d f,f∈r.1->onF d f=true->valF (some f)=valT (ps++[x]) d:=fun d f hf hd=>by
    have:=(xo6 r1).2 f hf
    have hd':=xr9.1 hd
    rw [hvx,if_neg (by omega),Option.or_none];exact r5 d f hf hd
   by_cases hg:r.2 < x.lo
   ·rw [nw1,if_pos hg]
    refine ⟨rowF_app (rowF_app r1 ⟨rfl,hg,rfl⟩) hfx,hxb.2,fun s hs=> ?_,fun f hf=> ?_,fun d f hf hd=> ?_⟩
    ·rcases List.mem_append.1 hs with h | h
     ·have:=r3 s h;show s.hi<=x.hi;omega
     ·rw [List.mem_singleton.1 h];exact Int.le_refl _
    ·rcases List.mem_append.1 hf with h | h
     ·rcases List.mem_append.1 h with h | h
      ·obtain ⟨a1,a2,a3⟩:=r4 f h
       refine ⟨a1,a2,?_⟩
       split at a3
       ·rename_i hh;rw [if_pos hh];exact a3
       ·rename_i hh;rw [if_neg hh];obtain ⟨s,hs,e⟩:=a3;exact ⟨s,List.mem_append_left _ hs,e⟩
      ·rw [List.mem_singleton.1 h];exact ⟨rfl,rfl,rfl⟩
     ·rw [List.mem_singleton.1 h];exact ⟨rfl,rfl,x,by simp,rfl⟩
    ·rcases List.mem_append.1 hf with h | h
     ·rcases List.mem_append.1 h with h | h
      ·exact hold d f h hd
      ·rw [List.mem_singleton.1 h] at hd ⊢
       have hd:=xr9.1 hd
       have hd1:r.2<=d:=hd.1
       have hd2:d < x.lo:=hd.2
       rw [hvx,hps d hd1,if_neg (by omega)];rfl
     ·rw [List.mem_singleton.1 h] at hd ⊢;exact hlast d hd
   ·rw [nw1,if_neg hg]
    have he:r.2=x.lo:=by omega
    refine ⟨rowF_app r1 (by rw [he];exact hfx),hxb.2,fun s hs=> ?_,fun f hf=> ?_,fun d f hf hd=> ?_⟩
    ·rcases List.mem_append.1 hs with h | h
     ·have:=r3 s h;show s.hi<=x.hi;omega
     ·rw [List.mem_singleton.1 h];exact Int.le_refl _
    ·rcases List.mem_append.1 hf with h | h
     ·obtain ⟨a1,a2,a3⟩:=r4 f h
      refine ⟨a1,a2,?_⟩
      split at a3
      ·rename_i hh;rw [if_pos hh];exact a3
      ·rename_i hh;rw [if_neg hh];obtain ⟨s,hs,e⟩:=a3;exact ⟨s,List.mem_append_left _ hs,e⟩
     ·rw [List.mem_singleton.1 h];exact ⟨rfl,rfl,x,by simp,rfl⟩
    ·rcases List.mem_append.1 hf with h | h
     ·exact hold d f h hd
     ·rw [List.mem_singleton.1 h] at hd ⊢;exact hlast d hd) n ps hn h1 h2
structure NwOk (now:List Tst) (key:ByteArray) (kn:Int) (s:Sn) (N:List Fa):Prop where
  row:rowF s.lo s.hi N
  ok: ∀f∈N,f.key=key/\f.kn=kn/\(if f.gone=true then f.v=va0 else ∃t∈now,t.v=f.v)
  vals: ∀d f,f∈N->onF d f=true->valF (some f)=valT now d
theorem nwT_ok {now:List Tst} {key:ByteArray} {kn:Int} {s:Sn} (h:ascT now) (hs:s.lo<=s.hi):NwOk now key kn s (nwT now key kn s):=by
 have hc:=cut_val (a:=s.lo) (b:=s.hi) h
 have hin: ∀t∈cutT now s.lo s.hi,(s.lo<=t.lo/\t.hi<=s.hi)/\ ∃u∈now,u.v=t.v:=by
  rw [cutT]
  refine pst_all (P:=fun t=>(s.lo<=t.lo/\t.hi<=s.hi)/\ ∃u∈now,u.v=t.v) (fun x t hx ht e=>⟨⟨hx.1.1,ht.1.2⟩,hx.2⟩) _ _ (fun t ht=>by cases ht) fun t ht _=> ?_
  obtain ⟨u,hu,rfl⟩:=List.mem_map.1 ht
  exact ⟨⟨Int.le_max_right ..,Int.min_le_right ..⟩,u,hu,rfl⟩
 obtain ⟨r1,r2,r3,r4,r5⟩:=nwR_row (key:=key) (kn:=kn) hs _ _ rfl hc.1 fun t ht=>(hin t ht).1
 have hv: ∀d f,f∈(nwR key kn (cutT now s.lo s.hi) s.lo).1->onF d f=true->valF (some f)=valT now d:=fun d f hf hd=>by
  have:=(xo6 r1).2 f hf
  have hd':=xr9.1 hd
  rw [r5 d f hf hd,hc.2.2,if_pos (by omega)]
 have ho: ∀f∈(nwR key kn (cutT now s.lo s.hi) s.lo).1,f.key=key/\f.kn=kn/\(if f.gone=true then f.v=va0 else ∃t∈now,t.v=f.v):=fun f hf=>by
  obtain ⟨a1,a2,a3⟩:=r4 f hf
  refine ⟨a1,a2,?_⟩
  split at a3
  ·rename_i hh;rw [if_pos hh];exact a3
  ·rename_i hh;rw [if_neg hh]
   obtain ⟨t,ht,e⟩:=a3
   obtain ⟨u,hu,e2⟩:=(hin t ht).2
   exact ⟨u,hu,e2.trans e⟩
 rw [nwT,nwP]
 have hps: ∀d,(nwR key kn (cutT now s.lo s.hi) s.lo).2<=d->valT (cutT now s.lo s.hi) d=none:=fun d hd=>xr7 (.inr fun t ht=>by have:=r3 t ht;omega)
 generalize nwR key kn (cutT now s.lo s.hi) s.lo=r at*
 by_cases hg:r.2 < s.hi
 ·rw [if_pos hg]
  refine ⟨rowF_app r1 ⟨rfl,hg,rfl⟩,fun f hf=> ?_,fun d f hf hd=> ?_⟩
  ·rcases List.mem_append.1 hf with h | h
   ·exact ho f h
   ·rw [List.mem_singleton.1 h];exact ⟨rfl,rfl,rfl⟩
  ·rcases List.mem_append.1 hf with h | h
   ·exact hv d f h hd
   ·rw [List.mem_singleton.1 h] at hd ⊢
    have hd:=xr9.1 hd
    have hd1:r.2<=d:=hd.1
    have hd2:d < s.hi:=hd.2
    have:=(xo6 r1).1
    have h0:=hps d hd1
    rw [hc.2.2,if_pos (by omega)] at h0
    rw [h0];rfl
 ·rw [if_neg hg,List.append_nil]
  exact ⟨by rw [show s.hi=r.2 by omega];exact r1,ho,hv⟩
theorem rowF_on {b d:Int}: ∀{xs:List Fa} {a:Int},rowF a b xs->a<=d->d < b-> ∃f∈xs,onF d f=true
 | [],a,h,h1,h2=>by have:a=b:=h;omega
 | x::xs,a,h,h1,h2=>by
  obtain ⟨e,h3,h4⟩:=h
  by_cases c:d < x.hi
  ·exact ⟨x,by simp,xr9.2 ⟨by omega,c⟩⟩
  ·obtain ⟨f,hf,hd⟩:=rowF_on h4 (by omega) h2
   exact ⟨f,List.mem_cons_of_mem _ hf,hd⟩
theorem sVal_ok {S:List Sn} (h:sVal S=true): ∀s∈S,0<=s.lo/\s.lo < s.hi/\s.hi<=65536:=fun s hs=>by
 obtain ⟨i,hi,rfl⟩:=List.mem_iff_getElem.1 hs
 have:=sVal_at h hi
 rw [List.getD_eq_getElem?_getD,List.getElem?_eq_getElem hi] at this;exact this
theorem nwD_ok {now:List Tst} {key:ByteArray} {kn:Int} {S:List Sn} (h:ascT now) (hS:sVal S=true):
  (∀f∈nwD now key kn S,f.key=key/\f.kn=kn/\(if f.gone=true then f.v=va0 else ∃t∈now,t.v=f.v))/\
  (∀f∈nwD now key kn S,f.lo < f.hi/\ ∃s∈S,s.lo<=f.lo/\f.hi<=s.hi)/\
  (∀d f,f∈nwD now key kn S->onF d f=true->valF (some f)=valT now d)/\
  ∀d,(∃f∈nwD now key kn S,onF d f=true)↔mem S d=true:=by
 have hok: ∀s∈S,NwOk now key kn s (nwT now key kn s):=fun s hs=>nwT_ok h (Int.le_of_lt (sVal_ok hS s hs).2.1)
 refine ⟨fun f hf=> ?_,fun f hf=> ?_,fun d f hf hd=> ?_,fun d=>⟨fun ⟨f,hf,hd⟩=> ?_,fun hm=> ?_⟩⟩
 ·obtain ⟨s,hs,hf⟩:=List.mem_flatMap.1 hf
  exact (hok s hs).ok f hf
 ·obtain ⟨s,hs,hf⟩:=List.mem_flatMap.1 hf
  have:=(xo6 (hok s hs).row).2 f hf
  exact ⟨this.2.1,s,hs,this.1,this.2.2⟩
 ·obtain ⟨s,hs,hf⟩:=List.mem_flatMap.1 hf
  exact (hok s hs).vals d f hf hd
 ·obtain ⟨s,hs,hf⟩:=List.mem_flatMap.1 hf
  have:=(xo6 (hok s hs).row).2 f hf
  have hd:=xr9.1 hd
  exact mem_iff.2 ⟨s,hs,by omega,by omega⟩
 ·obtain ⟨s,hs,h1,h2⟩:=mem_iff.1 hm
  obtain ⟨f,hf,hd⟩:=rowF_on (hok s hs).row h1 h2
  exact ⟨f,List.mem_flatMap.2 ⟨s,hs,hf⟩,hd⟩
def mKey (K:Nat):ByteArray:=match K with
 | 0=>⟨#[99,114,101,100,105,116]⟩
 | 1=>⟨#[102,116,101]⟩
 | _=>⟨#[112,97,121]⟩
theorem mKey_ne {K L:Nat} (hK:K < 3) (hL:L < 3) (h:mKey K=mKey L):K=L:=by
 have key: ∀K L:Fin 3,mKey K.val=mKey L.val->K=L:=by decide
 exact congrArg Fin.val (key ⟨K,hK⟩ ⟨L,hL⟩ h)
def knL (l:List Ev):List Int:=brd (l.map (·.kn))
def befT (K:Nat) (l:List Ev) (ks:List Int) (j:Nat):List Tst:=if j=0 then [] else mT K (inf l (ks.getD (j - 1) 0))
def fcJ (l:List Ev) (ks:List Int) (j K:Nat):List Fa:=nwD (mT K (inf l (ks.getD j 0))) (mKey K) (ks.getD j 0) (dfS (befT K l ks j) (mT K (inf l (ks.getD j 0))))
def fcK (l:List Ev) (ks:List Int) (j n:Nat):List Fa:=(List.range n).flatMap (fcJ l ks j)
def fcts (l:List Ev) (ks:List Int) (n:Nat):List Fa:=(List.range n).flatMap fun j=>fcK l ks j 3
def fctL (l:List Ev):List Fa:=fcts l (knL l) (knL l).length
theorem xq0 {l:List Ev} {ks:List Int} {j n:Nat}:fcK l ks j (n+1)=fcK l ks j n++fcJ l ks j n:=by rw [fcK,fcK,List.range_succ,List.flatMap_append];simp
theorem xn9 {l:List Ev} {ks:List Int} {n:Nat}:fcts l ks (n+1)=fcts l ks n++fcK l ks n 3:=by rw [fcts,fcts,List.range_succ,List.flatMap_append];simp
section
variable {D B:Int} {l:List Ev}
structure GR (D B:Int) (l:List Ev):Prop where
  len:l.length<=100
  ok: ∀i,i < l.length->EOk l i
  fr:gE D B l
  d0:0 < D
  d1:D<=9223372036854775807
  b0:0<=B
  b1:B<=92233720368547758
theorem GR.inf_len (h:GR D B l) (k:Int):(inf l k).length<=100:=Nat.le_trans An.inf_len h.len
theorem GR.tl (h:GR D B l) (K:Nat) (k:Int):isG (kK K) D (100*B) (mT K (inf l k)):=mT_ok K (inf_cal h.ok) (inf_gE h.fr) h.d0 h.d1 h.b0 h.b1 (h.inf_len k)
theorem GR.bef (h:GR D B l) (K:Nat) (ks:List Int) (j:Nat):isG (kK K) D (100*B) (befT K l ks j):=by
 rw [befT]
 split
 ·exact isG_nil
 ·exact h.tl K _
theorem GR.df (h:GR D B l) (K:Nat) (ks:List Int) (j:Nat):sVal (dfS (befT K l ks j) (mT K (inf l (ks.getD j 0))))=true/\ ∀d,mem (dfS (befT K l ks j) (mT K (inf l (ks.getD j 0)))) d=true↔valT (befT K l ks j) d≠valT (mT K (inf l (ks.getD j 0))) d:=by
 have hd:=dfS_set (h.bef K ks j).1 (h.tl K (ks.getD j 0)).1
 exact ⟨hd.1,fun d=>by rw [hd.2,An.S.dfB,decide_eq_true_eq]⟩
theorem GR.fcJ (h:GR D B l) (ks:List Int) (j K:Nat):
  (∀f∈fcJ l ks j K,f.key=mKey K/\f.kn=ks.getD j 0/\(if f.gone=true then f.v=va0 else gOk (kK K) D (100*B) f.v))/\
  (∀f∈fcJ l ks j K,0<=f.lo/\f.lo < f.hi/\f.hi<=65536)/\
  (∀d f,f∈fcJ l ks j K->onF d f=true->valF (some f)=valT (mT K (inf l (ks.getD j 0))) d)/\
  ∀d,(∃f∈fcJ l ks j K,onF d f=true)↔valT (befT K l ks j) d≠valT (mT K (inf l (ks.getD j 0))) d:=by
 have ht:=h.tl K (ks.getD j 0)
 have hd:=h.df K ks j
 obtain ⟨n1,n2,n3,n4⟩:=nwD_ok (key:=mKey K) (kn:=ks.getD j 0) ht.asc hd.1
 refine ⟨fun f hf=> ?_,fun f hf=> ?_,n3,fun d=>(n4 d).trans (hd.2 d)⟩
 ·obtain ⟨a,b,c⟩:=n1 f hf
  refine ⟨a,b,?_⟩
  split at c
  ·rename_i hg;rw [if_pos hg];exact c
  ·rename_i hg;rw [if_neg hg]
   obtain ⟨t,ht2,e⟩:=c
   rw [<-e];exact ht.2 t ht2
 ·obtain ⟨a,s,hs,b,c⟩:=n2 f hf
  have:=sVal_ok hd.1 s hs
  omega
theorem fcK_mem {ks:List Int} {j n:Nat} {f:Fa}:f∈fcK l ks j n↔ ∃K,K < n/\f∈An.fcJ l ks j K:=by
 rw [fcK,List.mem_flatMap]
 exact exists_congr fun K=>and_congr_left fun _=>List.mem_range
theorem fcts_mem {ks:List Int} {n:Nat} {f:Fa}:f∈fcts l ks n↔ ∃j,j < n/\ ∃K,K < 3/\f∈An.fcJ l ks j K:=by
 rw [fcts,List.mem_flatMap]
 constructor
 ·rintro ⟨j,hj,hf⟩;exact ⟨j,List.mem_range.1 hj,fcK_mem.1 hf⟩
 ·rintro ⟨j,hj,hf⟩;exact ⟨j,List.mem_range.2 hj,fcK_mem.2 hf⟩
theorem knL_mem {x:Int}:x∈knL l↔ ∃e∈l,e.kn=x:=by rw [knL,(xh2 _).2,List.mem_map]
end
end An
namespace An.S
open Go Go.Proofs An
end An.S
namespace An.S
open Go
theorem sVal_lo {l:List Sn} (h:sVal l=true): ∀i,i < l.length->(i:Int)<=(l.getD i sn0).lo
 | 0,hi=>(sVal_at h hi).1
 | i+1,hi=>by
  have ih:=sVal_lo h i (by omega)
  have h1:=sVal_at h (i:=i) (by omega)
  have h2:=sVal_lt h (show i < i+1 by omega) hi
  omega
theorem sVal_len {l:List Sn} (h:sVal l=true):l.length<=65536:=by
 rcases Nat.eq_zero_or_pos l.length with h0 | h0
 ·omega
 ·have h1:=sVal_lo h (l.length - 1) (by omega)
  have h2:=sVal_at h (i:=l.length - 1) (by omega)
  omega
section
variable {D B:Int} {a b:List Fa} {f:Fa} {key:ByteArray} {kn:Int}
end
end An.S
namespace An
open Go An.S
theorem pw_sub: ∀{xs ys:List Int},xs.Pairwise (· < ·)->ys.Pairwise (· < ·)->(∀x∈xs,x∈ys)->xs.length<=ys.length
 | [],ys,_,_,_=>Nat.zero_le _
 | x::xs,[],_,_,h=>absurd (h x (List.mem_cons_self ..)) List.not_mem_nil
 | x::xs,y::ys,hx,hy,h=>by
  have hx1:=List.pairwise_cons.1 hx
  have hy1:=List.pairwise_cons.1 hy
  have hsub: ∀z∈xs,z∈ys:=fun z hz=>by
   rcases List.mem_cons.1 (h z (List.mem_cons_of_mem _ hz)) with e | e
   ·have h1:=hx1.1 z hz
    rcases List.mem_cons.1 (h x (List.mem_cons_self ..)) with e2 | e2
    ·omega
    ·have:=hy1.1 x e2;omega
   ·exact e
  have:=pw_sub hx1.2 hy1.2 hsub
  simp only [List.length_cons];omega
theorem pw_ext: ∀{xs ys:List Int},xs.Pairwise (· < ·)->ys.Pairwise (· < ·)->(∀x,x∈xs↔x∈ys)->xs=ys
 | [],[],_,_,_=>rfl
 | [],y::ys,_,_,h=>absurd ((h y).2 (List.mem_cons_self ..)) List.not_mem_nil
 | x::xs,[],_,_,h=>absurd ((h x).1 (List.mem_cons_self ..)) List.not_mem_nil
 | x::xs,y::ys,hx,hy,h=>by
  have hx1:=List.pairwise_cons.1 hx
  have hy1:=List.pairwise_cons.1 hy
  have exy:x=y:=by
   rcases List.mem_cons.1 ((h x).1 (List.mem_cons_self ..)) with e | e
   ·exact e
   ·rcases List.mem_cons.1 ((h y).2 (List.mem_cons_self ..)) with e2 | e2
    ·exact e2.symm
    ·have:=hy1.1 x e;have:=hx1.1 y e2;omega
  subst exy
  rw [pw_ext hx1.2 hy1.2 fun z=> ?_]
  constructor
  ·intro hz
   rcases List.mem_cons.1 ((h z).1 (List.mem_cons_of_mem _ hz)) with e | e
   ·have:=hx1.1 z hz;omega
   ·exact e
  ·intro hz
   rcases List.mem_cons.1 ((h z).2 (List.mem_cons_of_mem _ hz)) with e | e
   ·have:=hy1.1 z hz;omega
   ·exact e
theorem brd_ext {xs ys:List Int} (h: ∀x,x∈xs↔x∈ys):brd xs=brd ys:=pw_ext (xh2 _).1 (xh2 _).1 fun x=>by rw [(xh2 xs).2,(xh2 ys).2,h]
def endS (E:List Int) (l:List Sn):Prop:= ∀s∈l,s.lo∈E/\s.hi∈E
theorem mrg_ends {E:List Int}: ∀(xs acc:List Sn),endS E xs->endS E acc->endS E (xs.foldl mrg1 acc)
 | [],acc,_,h=>h
 | x::xs,acc,hx,h=>by
  refine mrg_ends xs (mrg1 acc x) (fun s hs=>hx s (List.mem_cons_of_mem _ hs)) ?_
  have h0:=hx x (List.mem_cons_self ..)
  rw [mrg1]
  split
  ·rename_i hc
   have hl:acc.getD (acc.length - 1) sn0∈acc:=by
    rw [List.getD_eq_getElem?_getD,List.getElem?_eq_getElem (by omega)];exact List.getElem_mem _
   have h1:=h _ hl
   intro s hs
   rcases List.mem_or_eq_of_mem_set hs with hs | rfl
   ·exact h s hs
   ·refine ⟨h1.1,?_⟩
    show max _ _∈E
    rcases Int.le_total (acc.getD (acc.length - 1) sn0).hi x.hi with c | c
    ·rw [Int.max_eq_right c];exact h0.2
    ·rw [Int.max_eq_left c];exact h1.2
  ·intro s hs
   rcases List.mem_append.1 hs with hs | hs
   ·exact h s hs
   ·rw [List.mem_singleton.1 hs];exact h0
theorem pst_ends {E:List Int} {ps:List Tst} (h:ends E ps):ends E (pst [] ps):=pst_all (P:=fun s=>s.lo∈E/\s.hi∈E) (fun a s ha hs _=>⟨ha.1,hs.2⟩) _ _ (fun s hs=>by cases hs) fun s hs _=>h s hs
theorem cut_ends {E:List Int} {l:List Tst} {a b:Int} (h:ends E l) (ha:a∈E) (hb:b∈E):ends E (cutT l a b):=by
 rw [cutT]
 refine pst_ends fun s hs=> ?_
 obtain ⟨t,ht,rfl⟩:=List.mem_map.1 hs
 have:=h t ht
 refine ⟨?_,?_⟩
 ·show max t.lo a∈E
  rcases Int.le_total t.lo a with c | c
  ·rw [Int.max_eq_right c];exact ha
  ·rw [Int.max_eq_left c];exact this.1
 ·show min t.hi b∈E
  rcases Int.le_total t.hi b with c | c
  ·rw [Int.min_eq_left c];exact this.2
  ·rw [Int.min_eq_right c];exact hb
def dyA (l:List Ev):List Int:=brd (l.flatMap dyE++[65536])
theorem dyA_len {l:List Ev}:(dyA l).length<=2*l.length+1:=by
 have h:=brd_len (l.flatMap dyE++[65536])
 have h2:=flat2 l
 rw [List.length_append,List.length_singleton] at h
 rw [dyA];omega
theorem mT_ends {l:List Ev} (K:Nat) (k:Int):ends (dyA l) (mT K (inf l k)):=by
 rw [mT]
 refine pst_ends fun s hs=> ?_
 obtain ⟨h1,h2,_⟩:=segL_mem hs
 have key: ∀x∈kD K (inf l k)++[65536],x∈dyA l:=fun x hx=>by
  rw [dyA,(xh2 _).2]
  rcases List.mem_append.1 hx with h | h
  ·have hF: ∃e∈inf l k,x∈dyE e:=by
    rw [kD] at h
    split at h
    ·obtain ⟨e,he,hk,rfl⟩:=dyC_mem.1 h
     exact ⟨e,he,dyE_mem.2 ⟨by omega,.inl rfl⟩⟩
    ·obtain ⟨e,he,hk,hh⟩:=dyF_mem.1 h
     exact ⟨e,he,dyE_mem.2 ⟨hk,hh⟩⟩
   obtain ⟨e,he,hx⟩:=hF
   obtain ⟨i,hi,_,rfl⟩:=inf_mem he
   exact List.mem_append_left _ (List.mem_flatMap.2 ⟨_,xe8 hi,hx⟩)
  ·exact List.mem_append_right _ h
 exact ⟨key _ h1,key _ h2⟩
theorem df_ends {E:List Int} {a b:List Tst} (ha:ends E a) (hb:ends E b):endS E (dfS a b):=by
 have h0: ∀i,i < (bds [a,b]).length->(bds [a,b]).getD i 0∈E:=fun i hi=>by
  obtain ⟨l,hl,s,hs,e⟩:=bds_mem.1 (getD_memI hi)
  have:ends E l:=by
   simp only [List.mem_cons,List.not_mem_nil,or_false] at hl
   rcases hl with rfl | rfl
   ·exact ha
   ·exact hb
  rcases e with e | e
  ·rw [e];exact (this s hs).1
  ·rw [e];exact (this s hs).2
 have h1:endS E (dfT a b):=fun s hs=>by
  obtain ⟨i,hi,hs⟩:=List.mem_flatMap.1 hs
  have hi:=List.mem_range.1 hi
  rw [dfI] at hs
  split at hs
  ·rw [List.mem_singleton.1 hs];exact ⟨h0 i (by omega),h0 (i+1) (by omega)⟩
  ·cases hs
 rw [dfS,mkS]
 refine mrg_ends _ _ (fun s hs=> ?_) fun s hs=>by cases hs
 exact h1 s (List.mem_filter.1 ((srt_spec swoSn _).2.1.mem_iff.1 hs)).1
theorem rowF_pw {b:Int}: ∀{xs:List Fa} {a:Int},rowF a b xs->xs.Pairwise fun f g=>f.hi<=g.lo
 | [],_,_=> .nil
 | _::_,_,h=>List.pairwise_cons.2 ⟨fun g hg=>((xo6 h.2.2).2 g hg).1,rowF_pw h.2.2⟩
theorem nwR_ends {E:List Int} {key:ByteArray} {kn a:Int} (ps:List Tst) (h:ends E ps) (ha:a∈E):(nwR key kn ps a).2∈E/\ ∀f∈(nwR key kn ps a).1,f.lo∈E:=
 xs4 (C:=fun ps=>ends E ps->(nwR key kn ps a).2∈E/\ ∀f∈(nwR key kn ps a).1,f.lo∈E) (fun _=>⟨ha,fun f hf=>by cases hf⟩) (fun ps x ih h=>by
  obtain ⟨h1,h2⟩:=ih fun s hs=>h s (List.mem_append_left _ hs)
  have hx:=h x (by simp)
  have e:nwR key kn (ps++[x]) a=nw1 key kn (nwR key kn ps a) x:=by rw [nwR,List.foldl_append];rfl
  rw [e]
  refine ⟨hx.2,fun f hf=> ?_⟩
  rw [nw1] at hf
  rcases List.mem_append.1 hf with h3 | h3
  ·split at h3
   ·rcases List.mem_append.1 h3 with h4 | h4
    ·exact h2 f h4
    ·rw [List.mem_singleton.1 h4];exact h1
   ·exact h2 f h3
  ·rw [List.mem_singleton.1 h3];exact hx.1) ps.length ps rfl h
theorem nwT_ends {E:List Int} {now:List Tst} {key:ByteArray} {kn:Int} {s:Sn} (h:ends E now) (hs:s.lo∈E/\s.hi∈E): ∀f∈nwT now key kn s,f.lo∈E:=fun f hf=>by
 obtain ⟨h1,h2⟩:=nwR_ends (key:=key) (kn:=kn) _ (cut_ends h hs.1 hs.2) hs.1
 rw [nwT,nwP] at hf
 rcases List.mem_append.1 hf with h3 | h3
 ·exact h2 f h3
 ·split at h3
  ·rw [List.mem_singleton.1 h3];exact h1
  ·cases h3
theorem sVal_pw {S:List Sn} (h:sVal S=true):S.Pairwise fun s t=>s.hi<=t.lo:=by
 refine List.pairwise_iff_getElem.2 fun i j hi hj hij=> ?_
 have:=sVal_lt h hij hj
 simp only [List.getD_eq_getElem?_getD,List.getElem?_eq_getElem hi,List.getElem?_eq_getElem hj,Option.getD_some] at this
 omega
theorem nwD_pw {now:List Tst} {key:ByteArray} {kn:Int} (h:ascT now): ∀{S:List Sn},(∀s∈S,s.lo < s.hi)->S.Pairwise (fun s t=>s.hi<=t.lo)->(nwD now key kn S).Pairwise fun f g=>f.hi<=g.lo
 | [],_,_=> .nil
 | s::S,h1,h2=>by
  have h3:=List.pairwise_cons.1 h2
  have hs:=h1 s (List.mem_cons_self ..)
  have hr:=(nwT_ok (key:=key) (kn:=kn) (s:=s) h (Int.le_of_lt hs)).row
  rw [nwD,List.flatMap_cons]
  refine List.pairwise_append.2 ⟨rowF_pw hr,nwD_pw h (fun t ht=>h1 t (List.mem_cons_of_mem _ ht)) h3.2,fun f hf g hg=> ?_⟩
  obtain ⟨t,ht,hg⟩:=List.mem_flatMap.1 hg
  have ht0:=h1 t (List.mem_cons_of_mem _ ht)
  have:=(xo6 hr).2 f hf
  have:=(xo6 (nwT_ok (key:=key) (kn:=kn) (s:=t) h (Int.le_of_lt ht0)).row).2 g hg
  have:=h3.1 t ht
  omega
theorem GR.fcJ_len {D B:Int} {l:List Ev} (h:GR D B l) (ks:List Int) (j K:Nat):(An.fcJ l ks j K).length<=2*l.length+1:=by
 have hb:ends (dyA l) (befT K l ks j):=by
  rw [befT]
  split
  ·exact fun s hs=>by cases hs
  ·exact mT_ends K _
 have hn:ends (dyA l) (mT K (inf l (ks.getD j 0))):=mT_ends K _
 have hS:=df_ends hb hn
 have hv:=(h.df K ks j).1
 have hp:=nwD_pw (key:=mKey K) (kn:=ks.getD j 0) (h.tl K (ks.getD j 0)).asc (fun s hs=>(sVal_ok hv s hs).2.1) (sVal_pw hv)
 have hlo:=(h.fcJ ks j K).2.1
 have hm:((An.fcJ l ks j K).map (·.lo)).length<=(dyA l).length:=pw_sub (by
  refine List.pairwise_map.2 ?_
  refine List.Pairwise.imp_of_mem (fun {f g} hf _ hfg=> ?_) hp
  have:=hlo f hf;omega) (xh2 _).1 fun x hx=>by
   obtain ⟨f,hf,rfl⟩:=List.mem_map.1 hx
   obtain ⟨s,hs,hf⟩:=List.mem_flatMap.1 hf
   exact nwT_ends hn (hS s hs) f hf
 rw [List.length_map] at hm
 exact Nat.le_trans hm dyA_len
theorem GR.fcK_len {D B:Int} {l:List Ev} (h:GR D B l) (ks:List Int) (j:Nat): ∀n,(fcK l ks j n).length<=n*(2*l.length+1)
 | 0=>by simp [fcK]
 | n+1=>by
  rw [xq0,List.length_append]
  have:=h.fcK_len ks j n
  have:=h.fcJ_len ks j n
  rw [Nat.succ_mul];omega
theorem GR.fcts_len {D B:Int} {l:List Ev} (h:GR D B l) (ks:List Int): ∀n,(fcts l ks n).length<=n*(3*(2*l.length+1))
 | 0=>by simp [fcts]
 | n+1=>by
  rw [xn9,List.length_append]
  have:=h.fcts_len ks n
  have:=h.fcK_len ks n 3
  rw [Nat.succ_mul];omega
theorem knL_len {l:List Ev}:(knL l).length<=l.length:=by
 have:=brd_len (l.map (·.kn));rw [List.length_map] at this;exact this
theorem kGet_of {κ:ByteArray->Nat}: ∀(a:List Fa),(∀f∈a,f.v.kind=if f.gone=true then 0 else κ f.key)-> ∀key,kGet (kM a) key=0∨kGet (kM a) key=κ key:=fun a=>
 xs4 (C:=fun a=>(∀f∈a,f.v.kind=if f.gone=true then 0 else κ f.key)-> ∀key,kGet (kM a) key=0∨kGet (kM a) key=κ key) (fun _ _=> .inl rfl) (fun a f ih h key=>by
  have ih:=ih fun x hx=>h x (List.mem_append_left _ hx)
  have hf:=h f (by simp)
  rw [kM_app]
  split
  ·rename_i hk
   rw [hf,hk]
   have h1:=ih key
   split
   ·rw [Nat.max_eq_left (Nat.zero_le _)];exact h1
   ·refine .inr ?_
    rcases h1 with e | e
    ·rw [e,Nat.max_eq_right (Nat.zero_le _)]
    ·rw [e,Nat.max_self]
  ·exact ih key) a.length a rfl
theorem kOk_of {κ:ByteArray->Nat} {a:List Fa} (h: ∀f∈a,f.v.kind=if f.gone=true then 0 else κ f.key):kOk a=true:=by
 refine List.all_eq_true.2 fun i hi=> ?_
 have hi:=List.mem_range.1 hi
 cases hb:kBad (kM (a.take i)) (a.getD i fa0) with
 | false=>rfl
 | true=>
  obtain ⟨h1,h2,h3⟩:=kBad_iff.1 hb
  have hf:=h _ (mem_getDF hi)
  rw [if_neg (by rw [h2];decide)] at hf
  rcases kGet_of (κ:=κ) (a.take i) (fun f hf=>h f ((List.take_sublist ..).subset hf)) (a.getD i fa0).key with e | e
  ·exact absurd e h1
  ·exact absurd (e.trans hf.symm) h3
theorem GR.rcd {D B:Int} {l:List Ev} (h:GR D B l) (hl:l.length<=16):(fctL l).length<=2000/\recOk (fctL l)=true:=by
 have hlen:(fctL l).length<=2000:=by
  have h1:=h.fcts_len (knL l) (knL l).length
  have h2:(knL l).length*(3*(2*l.length+1))<=16*(3*(2*16+1)):=Nat.mul_le_mul (Nat.le_trans knL_len hl) (by omega)
  rw [fctL];omega
 have hm: ∀f∈fctL l,∃j K,j < (knL l).length/\K < 3/\f∈An.fcJ l (knL l) j K:=fun f hf=>by
  obtain ⟨j,hj,K,hK,hf⟩:=fcts_mem.1 hf
  exact ⟨j,K,hj,hK,hf⟩
 have hkn: ∀j,j < (knL l).length->0<=(knL l).getD j 0/\(knL l).getD j 0 < 65536:=fun j hj=>by
  obtain ⟨e,he,e2⟩:=knL_mem.1 (getD_memI hj)
  obtain ⟨i,hi,rfl⟩:=List.mem_iff_getElem.1 he
  have:=h.ok i hi
  have n1:=this.n1
  have n2:=this.n2
  rw [List.getD_eq_getElem?_getD,List.getElem?_eq_getElem hi] at n1 n2
  rw [<-e2];exact ⟨n1,n2⟩
 refine ⟨hlen,?_⟩
 rw [recOk,Bool.and_eq_true,Bool.and_eq_true]
 refine ⟨⟨decide_eq_true hlen,List.all_eq_true.2 fun f hf=> ?_⟩,kOk_of (κ:=fun key=>if key=mKey 2 then 3 else 2) fun f hf=> ?_⟩
 ·obtain ⟨j,K,hj,hK,hf⟩:=hm f hf
  obtain ⟨n1,n2,_⟩:=h.fcJ (knL l) j K
  obtain ⟨a,b,c⟩:=n1 f hf
  obtain ⟨d,e,g⟩:=n2 f hf
  have hk:=hkn j hj
  have hsz:1<=(mKey K).size/\(mKey K).size<=24:=by
   match K,hK with
   | 0,_=>decide
   | 1,_=>decide
   | 2,_=>decide
  rw [<-a] at hsz
  rw [<-b] at hk
  simp only [fRight,decide_eq_true hsz.1,decide_eq_true hsz.2,decide_eq_true d,decide_eq_true e,decide_eq_true g,decide_eq_true hk.1,decide_eq_true hk.2,Bool.true_and]
  split at c
  ·rename_i hg;rw [if_pos hg];exact decide_eq_true c
  ·rename_i hg;rw [if_neg hg];exact c.1.1
 ·obtain ⟨j,K,hj,hK,hf⟩:=hm f hf
  obtain ⟨n1,_⟩:=h.fcJ (knL l) j K
  obtain ⟨a,b,c⟩:=n1 f hf
  split at c
  ·rename_i hg;rw [if_pos hg,c];rfl
  ·rename_i hg;rw [if_neg hg,c.1.2.1,a,kK]
   by_cases e:K=2
   ·subst e;rfl
   ·rw [if_neg e,if_neg fun he=>e (mKey_ne hK (by decide) he)]
end An
namespace An.S
open Go Go.Proofs An
instance fi124:FnI Tryz.prog 124:=⟨_,Tryz.func124,by kernel_rfl,rfl⟩
instance fi126:FnI Tryz.prog 126:=⟨_,Tryz.func126,by kernel_rfl,rfl⟩
theorem zr3:(Tryz.prog.info? 3).bind (·.zero)=some (.int .i64 0)/\ ∀F w,(tE (.int .i64 0)).p F w (.int .i64 0):=⟨by kernel_rfl,fun _ _=>rfl⟩
theorem zr22:(Tryz.prog.info? 22).bind (·.zero)=some (.slice none 0 0)/\ ∀F w,(tE (.slice none 0 0)).p F w (.slice none 0 0):=⟨by kernel_rfl,fun _ _=>rfl⟩
def crV (cs:List EvC) (d:Int):Rat:=crS cs (upC cs d)
theorem c_creditV (cs:List EvC) (hk:CrOk cs) (hcl:cs.length<=1000) (n:Nat) (d:Int) (hn:n<=upC cs d):CtG Tryz.prog 126 [(1,⟨3,1,false,[.val (tI ((n:Nat):Int))]⟩),(2,⟨22,1,false,[.val (tL 14 true tEvC cs)]⟩),(3,⟨27,4,true,[.val (tFr (fr (crS cs n)))]⟩)] [.val (tI d),.own (.ptr 1 0),.own (.ptr 2 0),.own (.ptr 3 0)] (.val (tT [tFr (fr (crV cs d)),tB true])) [(1,⟨3,1,false,[.val (tI (((upC cs d):Nat):Int))]⟩),(2,⟨22,1,false,[.val (tL 14 true tEvC cs)]⟩),(3,⟨27,4,true,[.val (tFr (fr (crS cs (upC cs d))))]⟩)] []:=c_credit2 cs hk hcl n d hn
theorem c_stepsCredit (ds:List Int) (hds:(ds++[65536]).Pairwise (· < ·)) (hdl:ds.length<=1000) (cs:List EvC) (hcr:CrOk cs) (hcl:cs.length<=1000):
  CtG Tryz.prog 117 [(101,⟨3,1,false,[.val (tI (((nxC cs ds 0):Nat):Int))]⟩),(102,⟨22,1,false,[.val (tL 14 true tEvC cs)]⟩),(103,⟨27,4,true,[.val (tFr (fr (crS cs (nxC cs ds 0))))]⟩)] [.val (tL 1 false tI ds),.val (tE (.int .u8 2)),.own (.fn 126 [.ptr 101 0,.ptr 102 0,.ptr 103 0])] (.val (tL 8 true tTs (pst [] (segL (stG (fun _=>true) (crV cs) 2) (ds++[65536]))))) [(101,⟨3,1,false,[.val (tI (((nxC cs ds ds.length):Nat):Int))]⟩),(102,⟨22,1,false,[.val (tL 14 true tEvC cs)]⟩),(103,⟨27,4,true,[.val (tFr (fr (crS cs (nxC cs ds ds.length))))]⟩)] []:=by
 refine CtG.intro [101,102,103] Tryz.func117 rfl Tryz.ntmps117 rfl rfl ⟨⟨rfl,(SupX.lit rfl)⟩,⟨rfl,(SupX.lit rfl)⟩,⟨rfl,(SupX.lit rfl)⟩,trivial⟩ ?_
 intro w F η
 refine A7 ?_
 refine RE (xe3 (k:=7) 69 8 true rfl (fun h=>by cases h)) trivial trivial qA ?_
 refine A11 ?_
 refine cL (fun (fm:(Nat)×(List Tst))=>(fun (k:Nat) (xs:List Tst)=>k<=ds.length/\xs=(stK (fun _=>true) (crV cs) 2 ds k)) fm.1 fm.2) (wB fun (k:Nat) (xs:List Tst)=>uV (uV (uV (uO (uO (uV (uV uN 0 (tL 1 false tI ds)) 1 (tE (.int .u8 2))) 2 (.fn 126 [.ptr 101 0,.ptr 102 0,.ptr 103 0])) 7 (.sl 7 8 0 xs.length)) 14 (tL 1 false tI ds)) 15 (tI ds.length)) 16 (tI k)) (wB fun (k:Nat) (xs:List Tst)=>uK (uK (uK (uK uN 7 69 8 true (rV tTs xs)) 101 3 1 false [.val (tI (((nxC cs ds k):Nat):Int))]) 102 22 1 false [.val (tL 14 true tEvC cs)]) 103 27 4 true [.val (tFr (fr (crS cs (nxC cs ds k))))]) [7,101,102,103] (fun (fm:(Nat)×(List Tst))=>(fun (k:Nat) (xs:List Tst)=>ds.length - k) fm.1 fm.2) ((0,[])) (by dsimp only;exact ⟨Nat.zero_le _,rfl⟩) ?_
 intro fm hI
 obtain ⟨k,xs⟩:=fm
 replace hI:k<=ds.length/\xs=(stK (fun _=>true) (crV cs) 2 ds k):=hI
 show wc _ _ _ _ (uV (uV (uV (uO (uO (uV (uV uN 0 (tL 1 false tI ds)) 1 (tE (.int .u8 2))) 2 (.fn 126 [.ptr 101 0,.ptr 102 0,.ptr 103 0])) 7 (.sl 7 8 0 xs.length)) 14 (tL 1 false tI ds)) 15 (tI ds.length)) 16 (tI k)) (uK (uK (uK (uK uN 7 69 8 true (rV tTs xs)) 101 3 1 false [.val (tI (((nxC cs ds k):Nat):Int))]) 102 22 1 false [.val (tL 14 true tEvC cs)]) 103 27 4 true [.val (tFr (fr (crS cs (nxC cs ds k))))]) _
 have hx:xs=(stK (fun _=>true) (crV cs) 2 ds k):=hI.2
 have hk:=hI.1
 have hxl:xs.length<=k:=by rw [hx];exact stK_len
 refine A6 ?_
 refine x6 rfl (fun h124=> ?_) (fun h124=> ?_)
 ·
  refine A7 ?_
  refine R2 (x4 sl43 (k) (by omega) (gD (l:=ds) (n:=k) (d:=0) (by omega))) rfl rfl ?_
  refine A10 ?_
  refine xf0 (fun (_j:Unit)=>True) (fun (_j:Unit)=>uV (uV (uV (uV (uV (uV (uO (uO (uV (uV uN 0 (tL 1 false tI ds)) 1 (tE (.int .u8 2))) 2 (.fn 126 [.ptr 101 0,.ptr 102 0,.ptr 103 0])) 7 (.sl 7 8 0 xs.length)) 14 (tL 1 false tI ds)) 15 (tI ds.length)) 16 (tI k)) 8 (tI k)) 9 (tI (ds.getD k 0))) 10 (tI ((eD ds).getD (k+1) 0))) (fun (_j:Unit)=>uK (uK (uK (uK uN 7 69 8 true (rV tTs xs)) 101 3 1 false [.val (tI (((nxC cs ds k):Nat):Int))]) 102 22 1 false [.val (tL 14 true tEvC cs)]) 103 27 4 true [.val (tFr (fr (crS cs (nxC cs ds k))))]) (nm [7,101,102,103]) ?_ ?_
  ·
   refine A9 ?_
   refine x6 rfl (fun h126=> ?_) (fun h126=> ?_)
   ·
    refine A4 ?_
    refine R2 (x4 sl43 (k+1) (by omega) (gD (l:=ds) (n:=k+1) (d:=0) (by omega))) rfl rfl ?_
    refine A3 ?_
    exact kF (()) trivial (hg:=((Sub.consI rfl (Imp.int (endD_at (by omega)).symm)) (sI (sI (sI (sI (sC (sC (sC (sI (sC Sub.nil)))))))))))
   ·
    refine A1 ?_
    exact kF (()) trivial (hg:=((Sub.consI rfl (Imp.int (endD_end (by omega)).symm)) (sI (sI (sI (sI (sC (sC (sC (sI (sC Sub.nil)))))))))))
  ·
   intro _j hj126
   refine A4 ?_
   refine RE (xi9 (ps:=[.val (tI _)]) (caps:=[.ptr 1 0,.ptr 2 0,.ptr 3 0]) (fun j=>cond (Nat.beq j 2) 102 (cond (Nat.beq j 1) 101 (103))) (c_creditV cs hcr hcl (nxC cs ds k) (ds.getD k 0) (nxC_le (List.pairwise_append.1 hds).1 (by omega))) fi126 rfl (krC (ρ:=fun j=>cond (Nat.beq j 2) 102 (cond (Nat.beq j 1) 101 (103))) (k:=1) rfl (krC (ρ:=fun j=>cond (Nat.beq j 2) 102 (cond (Nat.beq j 1) 101 (103))) (k:=2) rfl (krC (ρ:=fun j=>cond (Nat.beq j 2) 102 (cond (Nat.beq j 1) 101 (103))) (k:=3) rfl (krN (ρ:=fun j=>cond (Nat.beq j 2) 102 (cond (Nat.beq j 1) 101 (103))))))) (krC (ρ:=fun j=>cond (Nat.beq j 2) 102 (cond (Nat.beq j 1) 101 (103))) (k:=1) rfl (krC (ρ:=fun j=>cond (Nat.beq j 2) 102 (cond (Nat.beq j 1) 101 (103))) (k:=2) rfl (krC (ρ:=fun j=>cond (Nat.beq j 2) 102 (cond (Nat.beq j 1) 101 (103))) (k:=3) rfl (krN (ρ:=fun j=>cond (Nat.beq j 2) 102 (cond (Nat.beq j 1) 101 (103))))))) ⟨⟨rfl,(SupX.lit rfl)⟩,⟨rfl,(SupX.lit rfl)⟩,⟨rfl,(SupX.lit rfl)⟩,trivial⟩ rfl) qB qC trivial ?_
   refine A3 ?_
   refine RE (x7 (k:=11) (n:=4) (agg:=true) zr27.1 zr27.2 rfl) trivial trivial qA ?_
   refine A16 ?_
   have hb:(fun _=>true) (ds.getD k 0)=true:=rfl
   have hpd:=pw_lt hds (show k < k+1 by omega) (by rw [List.length_append];simp;omega)
   rw [endD_at (by omega)] at hpd
   refine A11 ?_
   refine RGcaseD (t:=43) rfl (fun h133=> ?_) (fun h133=> ?_)
   ·
    refine A2 ?_
    refine Rg (decide_eq_true h133) rfl (xd6 (wr64 (by omega) (by omega))) rfl qB (Rg (decide_eq_true h133) rfl (xa2 sl44 (by omega) (by omega) rfl) rfl qB ?_)
    refine A1 ?_
    refine RGon (decide_eq_true h133) rfl (xj6 (es:=8) (o:=1) (xs.length - 1) ti3 (xc4 (d:=tst0) (by omega)) (At.g 1 rfl rfl) (by omega)) rfl qA qA trivial ?_
    refine A4 ?_
    refine RGcaseD (t:=53) rfl (fun h133_2=> ?_) (fun h133_2=> ?_)
    ·
     refine A2 ?_
     refine Rg (decide_eq_true h133_2) rfl (xd6 (wr64 (by omega) (by omega))) rfl qB (Rg (decide_eq_true h133_2) rfl (xa2 sl44 (by omega) (by omega) rfl) rfl qB ?_)
     refine A2 ?_
     refine RGon (decide_eq_true h133_2) rfl (xj6 (es:=8) (o:=3) (xs.length - 1) ti27 (xc4 (d:=tst0) (by omega)) (At.t (o1:=2) (n1:=6) (t1:=tVa (xs.getD (xs.length - 1) tst0).v) (o2:=1) (At.g 2 rfl rfl) (At.g 1 rfl rfl)) (by omega)) rfl qA qA trivial ?_
     refine A1 ?_
     refine Rg (decide_eq_true h133_2) rfl (x3 (xk8 _ _) fi92 rfl) rfl qB ?_
     refine A3 ?_
     refine x6 rfl (fun h133_3=> ?_) (fun h133_3=> ?_)
     ·
      refine A6 ?_
      refine R2 (xa2 sl44 (by omega) (by omega) rfl) rfl rfl ?_
      refine A1 ?_
      refine RE (xj2 (es:=8) (o:=1) (t2:=tTs ⟨(xs.getD (xs.length - 1) tst0).lo,((eD ds).getD (k+1) 0),(xs.getD (xs.length - 1) tst0).v⟩) (xs.length - 1) ti3 (xc4 (d:=tst0) (by omega)) (Up.g 1 rfl rfl rfl) (by omega) (xi3 rfl)) qB qA trivial ?_
      refine A10 ?_
      exact kF ((k+1,(xs.set (xs.length - 1) ⟨(xs.getD (xs.length - 1) tst0).lo,((eD ds).getD (k+1) 0),(xs.getD (xs.length - 1) tst0).v⟩))) ⟨(by dsimp only;exact ⟨by omega,by rw [xo2 (by omega) hb,<-hx,pst1,if_neg (by dsimp only;omega),if_pos ⟨by omega,by dsimp only;omega,by rw [hx] at h133_3 ⊢;exact stK_last (by rw [<-hx];omega) h133_3⟩]⟩),(by dsimp only;omega)⟩ (hg:=(sI (sI (sC ((Sub.consI rfl (Imp.of (by dsimp only;rw [List.length_set]))) (sC (sI (sC Sub.nil)))))))) (hh:=((SubK.consI rfl (ImpK.of (by dsimp only;rw [xo0];rfl))) (SubK.cons rfl ((SubK.consI rfl (ImpK.of (by dsimp only;rw [xo0];rfl))) (SubK.cons rfl SubK.nil)))))
     ·
      refine A8 ?_
      refine R2 (xb0 (r:=tS [⟨1,false,tE (.int .u8 2)⟩,⟨4,true,tFr (fr ((crV cs) (ds.getD k 0)))⟩,⟨1,false,(tE (.int .i64 0))⟩]) (ts:=[(0,tE (.int .u8 2)),(1,tFr (fr ((crV cs) (ds.getD k 0))))]) bu51 zr51.2 (Bc 0 rfl rfl rfl (Bc 1 rfl rfl rfl Le.refl))) rfl rfl (R3 (xb0 (r:=tS [⟨1,false,tI (ds.getD k 0)⟩,⟨1,false,tI ((eD ds).getD (k+1) 0)⟩,⟨6,true,tVa ⟨2,fr ((crV cs) (ds.getD k 0)),0⟩⟩]) (ts:=[(0,tI (ds.getD k 0)),(1,tI ((eD ds).getD (k+1) 0)),(2,tVa ⟨2,fr ((crV cs) (ds.getD k 0)),0⟩)]) bu69 zr69.2 (Bc 0 rfl rfl rfl (Bc 1 rfl rfl rfl (Bc 2 rfl rfl rfl Le.refl)))) rfl rfl rfl (R1 (xb5 (n:=1) (f:=tTs) [(⟨ds.getD k 0,((eD ds).getD (k+1) 0),⟨2,fr ((crV cs) (ds.getD k 0)),0⟩⟩:Tst)] Tryz.underlying44 el69 zf69 rfl (fun _=>inferInstance) rfl rfl rfl) rfl (RE (xb3 (k:=7) (k':=78) (f:=tTs) (ys:=[(⟨ds.getD k 0,((eD ds).getD (k+1) 0),⟨2,fr ((crV cs) (ds.getD k 0)),0⟩⟩:Tst)]) (ts':=rV tTs (xs++[(⟨ds.getD k 0,((eD ds).getD (k+1) 0),⟨2,fr ((crV cs) (ds.getD k 0)),0⟩⟩:Tst)])) Tryz.underlying44 el69 zf69 rfl rfl (fun _=>inferInstance) xd2 (by simp;omega) (by simp;omega) (by simp [rV]) (n':=xs.length+1) rfl) qB qA qA ?_)))
      refine A8 ?_
      exact xc6 (l:=[7,101,102,103]) (fun j=>cond (Nat.beq j 7) 78 (j)) ((k+1,xs++[(⟨ds.getD k 0,((eD ds).getD (k+1) 0),⟨2,fr ((crV cs) (ds.getD k 0)),0⟩⟩:Tst)])) ⟨(by dsimp only;exact ⟨by omega,by rw [xo2 (by omega) hb,<-hx,pst1,if_neg (by dsimp only;omega),if_neg (fun h=>h133_3 (by rw [h.2.2]))]⟩),(by dsimp only;omega)⟩ (SubR.int rfl (by first | omega | rfl | (dsimp only;omega)) (SubR.int rfl (by first | omega | rfl | (dsimp only;omega)) (SubR.cons rfl ((SubR.consI rfl (Imp.of (by dsimp only;rw [List.length_append];rfl))) (SubR.cons rfl (SubR.int rfl (by first | omega | rfl | (dsimp only;omega)) (SubR.cons rfl SubR.nil))))))) ((SubKR.consI rfl (ImpK.of (by dsimp only;rw [xo0];rfl))) ((SubKR.consI rfl ImpK.refl) ((SubKR.consI rfl (ImpK.of (by dsimp only;rw [xo0];rfl))) ((SubKR.consI rfl (ImpK.of xa6.symm)) SubKR.nil)))) (SupG.val (SupG.val (SupG.val (SupG.own rfl (SupG.own rfl (SupG.val (SupG.val SupG.nil))))))) (SupH.cons rfl (supJL rfl) (SupH.cons rfl (supJL rfl) (SupH.cons rfl (supJL rfl) (SupH.cons rfl (supJ xa5) SupH.nil)))) (lkOk rfl) rfl rfl (fun _ h=>by cases h)
    ·
     refine A18 ?_
     refine A3 ?_
     refine R2 (xb0 (r:=tS [⟨1,false,tE (.int .u8 2)⟩,⟨4,true,tFr (fr ((crV cs) (ds.getD k 0)))⟩,⟨1,false,(tE (.int .i64 0))⟩]) (ts:=[(0,tE (.int .u8 2)),(1,tFr (fr ((crV cs) (ds.getD k 0))))]) bu51 zr51.2 (Bc 0 rfl rfl rfl (Bc 1 rfl rfl rfl Le.refl))) rfl rfl (R3 (xb0 (r:=tS [⟨1,false,tI (ds.getD k 0)⟩,⟨1,false,tI ((eD ds).getD (k+1) 0)⟩,⟨6,true,tVa ⟨2,fr ((crV cs) (ds.getD k 0)),0⟩⟩]) (ts:=[(0,tI (ds.getD k 0)),(1,tI ((eD ds).getD (k+1) 0)),(2,tVa ⟨2,fr ((crV cs) (ds.getD k 0)),0⟩)]) bu69 zr69.2 (Bc 0 rfl rfl rfl (Bc 1 rfl rfl rfl (Bc 2 rfl rfl rfl Le.refl)))) rfl rfl rfl (R1 (xb5 (n:=1) (f:=tTs) [(⟨ds.getD k 0,((eD ds).getD (k+1) 0),⟨2,fr ((crV cs) (ds.getD k 0)),0⟩⟩:Tst)] Tryz.underlying44 el69 zf69 rfl (fun _=>inferInstance) rfl rfl rfl) rfl (RE (xb3 (k:=7) (k':=78) (f:=tTs) (ys:=[(⟨ds.getD k 0,((eD ds).getD (k+1) 0),⟨2,fr ((crV cs) (ds.getD k 0)),0⟩⟩:Tst)]) (ts':=rV tTs (xs++[(⟨ds.getD k 0,((eD ds).getD (k+1) 0),⟨2,fr ((crV cs) (ds.getD k 0)),0⟩⟩:Tst)])) Tryz.underlying44 el69 zf69 rfl rfl (fun _=>inferInstance) xd2 (by simp;omega) (by simp;omega) (by simp [rV]) (n':=xs.length+1) rfl) qB qA qA ?_)))
     refine A8 ?_
     exact xc6 (l:=[7,101,102,103]) (fun j=>cond (Nat.beq j 7) 78 (j)) ((k+1,xs++[(⟨ds.getD k 0,((eD ds).getD (k+1) 0),⟨2,fr ((crV cs) (ds.getD k 0)),0⟩⟩:Tst)])) ⟨(by dsimp only;exact ⟨by omega,by rw [xo2 (by omega) hb,<-hx,pst1,if_neg (by dsimp only;omega),if_neg (by dsimp only;omega)]⟩),(by dsimp only;omega)⟩ (SubR.int rfl (by first | omega | rfl | (dsimp only;omega)) (SubR.int rfl (by first | omega | rfl | (dsimp only;omega)) (SubR.cons rfl ((SubR.consI rfl (Imp.of (by dsimp only;rw [List.length_append];rfl))) (SubR.cons rfl (SubR.int rfl (by first | omega | rfl | (dsimp only;omega)) (SubR.cons rfl SubR.nil))))))) ((SubKR.consI rfl (ImpK.of (by dsimp only;rw [xo0];rfl))) ((SubKR.consI rfl ImpK.refl) ((SubKR.consI rfl (ImpK.of (by dsimp only;rw [xo0];rfl))) ((SubKR.consI rfl (ImpK.of xa6.symm)) SubKR.nil)))) (SupG.val (SupG.val (SupG.val (SupG.own rfl (SupG.own rfl (SupG.val (SupG.val SupG.nil))))))) (SupH.cons rfl (supJL rfl) (SupH.cons rfl (supJL rfl) (SupH.cons rfl (supJL rfl) (SupH.cons rfl (supJ xa5) SupH.nil)))) (lkOk rfl) rfl rfl (fun _ h=>by cases h)
   ·
    refine A18 ?_
    refine A13 ?_
    refine R2 (xb0 (r:=tS [⟨1,false,tE (.int .u8 2)⟩,⟨4,true,tFr (fr ((crV cs) (ds.getD k 0)))⟩,⟨1,false,(tE (.int .i64 0))⟩]) (ts:=[(0,tE (.int .u8 2)),(1,tFr (fr ((crV cs) (ds.getD k 0))))]) bu51 zr51.2 (Bc 0 rfl rfl rfl (Bc 1 rfl rfl rfl Le.refl))) rfl rfl (R3 (xb0 (r:=tS [⟨1,false,tI (ds.getD k 0)⟩,⟨1,false,tI ((eD ds).getD (k+1) 0)⟩,⟨6,true,tVa ⟨2,fr ((crV cs) (ds.getD k 0)),0⟩⟩]) (ts:=[(0,tI (ds.getD k 0)),(1,tI ((eD ds).getD (k+1) 0)),(2,tVa ⟨2,fr ((crV cs) (ds.getD k 0)),0⟩)]) bu69 zr69.2 (Bc 0 rfl rfl rfl (Bc 1 rfl rfl rfl (Bc 2 rfl rfl rfl Le.refl)))) rfl rfl rfl (R1 (xb5 (n:=1) (f:=tTs) [(⟨ds.getD k 0,((eD ds).getD (k+1) 0),⟨2,fr ((crV cs) (ds.getD k 0)),0⟩⟩:Tst)] Tryz.underlying44 el69 zf69 rfl (fun _=>inferInstance) rfl rfl rfl) rfl (RE (xb3 (k:=7) (k':=78) (f:=tTs) (ys:=[(⟨ds.getD k 0,((eD ds).getD (k+1) 0),⟨2,fr ((crV cs) (ds.getD k 0)),0⟩⟩:Tst)]) (ts':=rV tTs (xs++[(⟨ds.getD k 0,((eD ds).getD (k+1) 0),⟨2,fr ((crV cs) (ds.getD k 0)),0⟩⟩:Tst)])) Tryz.underlying44 el69 zf69 rfl rfl (fun _=>inferInstance) xd2 (by simp;omega) (by simp;omega) (by simp [rV]) (n':=xs.length+1) rfl) qB qA qA ?_)))
    refine A8 ?_
    exact xc6 (l:=[7,101,102,103]) (fun j=>cond (Nat.beq j 7) 78 (j)) ((k+1,xs++[(⟨ds.getD k 0,((eD ds).getD (k+1) 0),⟨2,fr ((crV cs) (ds.getD k 0)),0⟩⟩:Tst)])) ⟨(by dsimp only;exact ⟨by omega,by rw [xo2 (by omega) hb,<-hx,pst1,if_neg (by dsimp only;omega),if_neg (by dsimp only;omega)]⟩),(by dsimp only;omega)⟩ (SubR.int rfl (by first | omega | rfl | (dsimp only;omega)) (SubR.int rfl (by first | omega | rfl | (dsimp only;omega)) (SubR.cons rfl ((SubR.consI rfl (Imp.of (by dsimp only;rw [List.length_append];rfl))) (SubR.cons rfl (SubR.int rfl (by first | omega | rfl | (dsimp only;omega)) (SubR.cons rfl SubR.nil))))))) ((SubKR.consI rfl (ImpK.of (by dsimp only;rw [xo0];rfl))) ((SubKR.consI rfl ImpK.refl) ((SubKR.consI rfl (ImpK.of (by dsimp only;rw [xo0];rfl))) ((SubKR.consI rfl (ImpK.of xa6.symm)) SubKR.nil)))) (SupG.val (SupG.val (SupG.val (SupG.own rfl (SupG.own rfl (SupG.val (SupG.val SupG.nil))))))) (SupH.cons rfl (supJL rfl) (SupH.cons rfl (supJL rfl) (SupH.cons rfl (supJL rfl) (SupH.cons rfl (supJ xa5) SupH.nil)))) (lkOk rfl) rfl rfl (fun _ h=>by cases h)
 ·
  refine A6 ?_
  refine C_giveL (t:=7) (k:=7) (f:=tTs) (xs:=xs) rfl rfl (lent_lb rfl) (xg2 rfl) rfl ?_
  refine A6 ?_
  exact xc5 LentC.mk' rfl rfl (Imp.of (by rw [hx,show k=ds.length by omega,stK_all])) ⟨(congrArg some (show (⟨3,1,false,[.val (tI (((nxC cs ds k):Nat):Int))]⟩:HEnt)=⟨3,1,false,[.val (tI (((nxC cs ds ds.length):Nat):Int))]⟩ by rw [show k=ds.length by omega])),rfl,(congrArg some (show (⟨27,4,true,[.val (tFr (fr (crS cs (nxC cs ds k))))]⟩:HEnt)=⟨27,4,true,[.val (tFr (fr (crS cs (nxC cs ds ds.length))))]⟩ by rw [show k=ds.length by omega])),trivial⟩ rfl ⟨⟨rfl,(SupX.lit rfl)⟩,⟨rfl,(SupX.lit rfl)⟩,⟨rfl,(SupX.lit rfl)⟩,trivial⟩ rfl
theorem crF_next {fs:List Ev} {i:Nat} (hi:i < fs.length):crF (fs.take (i+1))=crF (fs.take i)++if (fs.getD i ev0).knd=6 then [fs.getD i ev0] else []:=by
 rw [crF,List.take_succ_eq_append_getElem hi,List.filter_append,List.getD_eq_getElem?_getD,List.getElem?_eq_getElem hi,crF,List.filter_cons,List.filter_nil]
 simp only [Option.getD_some,decide_eq_true_eq]
theorem crF_len {fs:List Ev}:(crF fs).length<=fs.length:=List.length_filter_le ..
def crD (cs:List EvC) (j:Nat):List Int:=(cs.take j).map fun e=>e.1.day
theorem crD_next {cs:List EvC} {j:Nat} (hj:j < cs.length):crD cs (j+1)=crD cs j++[(cs.getD j evc0).1.day]:=by
 rw [crD,List.take_succ_eq_append_getElem hj,List.map_append,List.getD_eq_getElem?_getD,List.getElem?_eq_getElem hj];rfl
theorem crD_len {cs:List EvC} {j:Nat} (hj:j<=cs.length):(crD cs j).length=j:=by rw [crD,List.length_map,List.length_take];omega
theorem crD_comp {fs:List Ev} (h:calE fs):Lib.compact (crD (crC fs) (crC fs).length)=dyC fs:=by
 have e:crD (crC fs) (crC fs).length=(crC fs).map fun e=>e.1.day:=by rw [crD,List.take_length]
 have hs:srtI ((crC fs).map fun e=>e.1.day)=(crC fs).map fun e=>e.1.day:=by
  rw [srtI]
  refine List.mergeSort_of_pairwise (List.pairwise_map.2 ?_)
  have h1:Srt kfD (crC fs):=by rw [crC];exact xt4 _
  exact h1.imp fun h2=>decide_eq_true h2
 rw [e,dyC]
 show _=brd ((crF fs).map (·.day))
 rw [<-brd_ext (crC_days h),brd,hs]
theorem c_credit (fs:List Ev) (hF:fs.length<=100) (hc:calE fs) (hk:CrOk (crC fs)):
  Ct Tryz.prog 76 [tVw fs] (tL 8 true tTs (mT 0 fs)):=by
 have hcl:=crC_len (F:=fs)
 have hfl:=crF_len (fs:=fs)
 have hdl:=kD_len (F:=fs) 0
 have hd0:kD 0 fs=dyC fs:=rfl
 rw [hd0] at hdl
 refine Ct.intro Tryz.func76 rfl Tryz.ntmps76 rfl ?_
 intro w F
 refine A8 ?_
 refine RE (x7 (k:=3) (n:=1) (agg:=false) zr22.1 zr22.2 rfl) trivial trivial qA ?_
 refine A4 ?_
 refine C_nilC (q:=3) 50 29 14 true 0 rfl rfl rfl rfl (fun h=>by cases h) rfl rfl ?_
 refine A2 ?_
 refine xe1 (0) ti22 rfl rfl rfl (At.g 0 rfl (rfl)) rfl ?_
 refine A5 ?_
 refine cL (fun (i:Nat)=>i<=fs.length) (fun (i:Nat)=>uV (uV (uV (uO uN 3 (.ptr 3 0)) 12 (tL 14 true tEv fs)) 13 (tI fs.length)) 14 (tI i)) (fun (i:Nat)=>uK (uK uN 3 22 1 false [.own (.sl 50 14 0 (crF (fs.take i)).length)]) 50 29 14 true (rV tEv (crF (fs.take i)))) [3,50] (fun (i:Nat)=>fs.length - i) (0) (Nat.zero_le _) ?_
 intro i hI
 have hxl:(crF (fs.take i)).length<=i:=by have:=crF_len (fs:=fs.take i);rw [List.length_take] at this;omega
 refine A6 ?_
 refine x6 rfl (fun h163=> ?_) (fun h163=> ?_)
 ·
  refine A6 ?_
  refine R2 (x4 sl22 (i) (by omega) (gD (l:=fs) (n:=i) (d:=ev0) (by omega))) rfl rfl ?_
  refine A1 ?_
  refine RE (x7 (k:=5) (n:=14) (agg:=true) zr29.1 zr29.2 rfl) trivial trivial qA ?_
  refine A10 ?_
  refine x6 rfl (fun h164=> ?_) (fun h164=> ?_)
  ·
   refine A3 ?_
   refine R1 (xb5 (n:=1) (f:=tEv) [(fs.getD i ev0)] Tryz.underlying22 el29 zf29 rfl (fun _=>inferInstance) rfl rfl rfl) rfl (RE (xk5 (k:=50) (k':=24) (f:=tEv) (crF (fs.take i)) (fs.getD i ev0) Tryz.underlying22 el29 zf29 rfl rfl (fun _=>inferInstance) rfl ⟨by omega,by omega⟩ rfl) qB qA qA ?_)
   refine A8 ?_
   have hnx:=crF_next (fs:=fs) (i:=i) (by omega)
   rw [if_pos (by omega)] at hnx
   exact xc6 (l:=[3,50]) (fun j=>cond (Nat.beq j 50) 24 (j)) (i+1) ⟨(by omega),(by omega)⟩ (SubR.int rfl (by first | omega | rfl | (dsimp only;omega)) (SubR.int rfl (by first | omega | rfl | (dsimp only;omega)) (SubR.cons rfl (SubR.cons rfl SubR.nil)))) ((SubKR.consI rfl (ImpK.of (by rw [hnx];exact xa6.symm))) ((SubKR.consI rfl (ImpK.of (by rw [hnx,List.length_append];rfl))) SubKR.nil)) (SupG.val (SupG.val (SupG.val (SupG.own rfl SupG.nil)))) (SupH.cons rfl (supJ xa5) (SupH.cons rfl (supJL rfl) SupH.nil)) (lkOk rfl) rfl rfl (fun _ h=>by cases h)
  ·
   refine A7 ?_
   have hnx:=crF_next (fs:=fs) (i:=i) (by omega)
   rw [if_neg (by omega),List.append_nil] at hnx
   exact kF (i+1) ⟨(by omega),(by omega)⟩ (hh:=((SubK.consI rfl (ImpK.of (by rw [hnx]))) ((SubK.consI rfl (ImpK.of (by rw [hnx]))) SubK.nil)))
 ·
  refine A6 ?_
  have hia:fs.take i=fs:=by rw [show i=fs.length by omega,List.take_length]
  rw [hia]
  refine C_key (k:=50) (e':=⟨29,14,true,rV tEvC ((crF fs).map toC)⟩) rfl (by rw [rV_toC (fun e he=>by have:=(hc e (List.mem_filter.1 he).1).1;omega)]) (C_key (k:=3) (e':=⟨22,1,false,[.own (.sl 50 14 0 (crC fs).length)]⟩) rfl (by rw [hcl]) ?_)
  refine A2 ?_
  refine RE (xb7 (fun _=>50) (c_sortStableE ((crF fs).map toC) (by rw [List.length_map];exact hcl.symm) (by rw [List.length_map];omega)) fi124 rfl (krC (ρ:=fun _=>50) (k:=20) xa6 (krN (ρ:=fun _=>50))) (krC (ρ:=fun _=>50) (k:=20) xa6 (krN (ρ:=fun _=>50))) ⟨⟨rfl,xa5⟩,trivial⟩ rfl) qB qA trivial ?_
  refine A4 ?_
  refine RE (xe3 (k:=6) 3 1 false rfl (fun _=>rfl)) trivial trivial qA ?_
  refine A11 ?_
  refine cL (fun (j:Nat)=>j<=(crC fs).length) (fun (j:Nat)=>uV (uV (uO (uO (uO uN 3 (.ptr 3 0)) 6 (.sl 6 1 0 (crD (crC fs) j).length)) 28 (.sl 50 14 0 (crC fs).length)) 29 (tI (crC fs).length)) 30 (tI j)) (fun (j:Nat)=>uK (uK (uK uN 3 22 1 false [.own (.sl 50 14 0 (crC fs).length)]) 50 29 14 true (rV tEvC (crC fs))) 6 3 1 false (rV tI (crD (crC fs) j))) [3,50,6] (fun (j:Nat)=>(crC fs).length - j) (0) (Nat.zero_le _) ?_
  intro j hI2
  have hdj:=crD_len (cs:=(crC fs)) hI2
  have hnx:=fun hh=>crD_next (cs:=(crC fs)) (j:=j) hh
  refine A6 ?_
  refine x6 rfl (fun h170=> ?_) (fun h170=> ?_)
  ·
   refine A6 ?_
   refine R2 (xa2 sl22 (by omega) (by omega) rfl) rfl rfl (RE (xc1 (j) ti29 (xc4 (f:=tEvC) (xs:=(crC fs)) (d:=evc0) (by omega)) (by omega)) qA qA trivial (RE (x7 (k:=8) (n:=14) (agg:=true) zr29.1 zr29.2 rfl) trivial trivial qA ?_))
   refine A7 ?_
   refine R1 (xb5 (n:=1) (f:=fun n:Int=>tI n) [(((crC fs).getD j evc0).1.day)] Tryz.underlying43 el3 zf3 rfl (fun _=>inferInstance) rfl rfl rfl) rfl (RE (xk5 (k:=6) (k':=38) (f:=fun n:Int=>tI n) (crD (crC fs) j) (((crC fs).getD j evc0).1.day) Tryz.underlying43 el3 zf3 rfl rfl (fun _=>inferInstance) rfl ⟨by omega,by omega⟩ rfl) qB qA qA ?_)
   refine A8 ?_
   exact xc6 (l:=[3,50,6]) (fun j=>cond (Nat.beq j 6) 38 (j)) (j+1) ⟨(by omega),(by omega)⟩ (SubR.int rfl (by first | omega | rfl | (dsimp only;omega)) (SubR.int rfl (by first | omega | rfl | (dsimp only;omega)) (SubR.cons rfl ((SubR.consI rfl (Imp.of (by rw [hnx (by omega),List.length_append];rfl))) (SubR.cons rfl SubR.nil))))) ((SubKR.consI rfl (ImpK.of (by rw [hnx (by omega)];exact xa6.symm))) ((SubKR.consI rfl (ImpK.of xa6.symm)) ((SubKR.consI rfl ImpK.refl) SubKR.nil))) (SupG.val (SupG.val (SupG.own rfl (SupG.own rfl (SupG.own rfl SupG.nil))))) (SupH.cons rfl (supJ xa5) (SupH.cons rfl (supJ xa5) (SupH.cons rfl (supJL rfl) SupH.nil))) (lkOk rfl) rfl rfl (fun _ h=>by cases h)
  ·
   refine A6 ?_
   have hje:j=(crC fs).length:=by omega
   subst hje
   refine A1 ?_
   refine R1 (x3 (xm5 0 (by decide) (by decide)) fi86 rfl) rfl (RE (x7 (k:=9) (n:=4) (agg:=true) zr27.1 zr27.2 rfl) trivial trivial qA ?_)
   refine A4 ?_
   refine C_giveC (q:=3) (j:=50) (f:=tEvC) (xs:=(crC fs)) 0 rfl rfl rfl rfl (NoLbK.of fun _ h=>h) (xg2 rfl) rfl rfl ?_
   refine A1 ?_
   refine RE (x7 (k:=10) (n:=1) (agg:=false) zr3.1 zr3.2 rfl) trivial trivial qA ?_
   refine A4 ?_
   refine C_key (k:=10) (e':=⟨3,1,false,[.val (tI (((nxC (crC fs) (dyC fs) 0):Nat):Int))]⟩) rfl rfl (C_key (k:=9) (e':=⟨27,4,true,[.val (tFr (fr (crS (crC fs) (nxC (crC fs) (dyC fs) 0))))]⟩) rfl rfl ?_)
   refine C_regY ?_
   refine xf4 xb9 qA trivial trivial rfl (xf4 (xb7 (fun _=>6) (c_CompactI (crD (crC fs) (crC fs).length)) fi45 rfl (krC (ρ:=fun _=>6) (k:=1) xa6 (krN (ρ:=fun _=>6))) (krC (ρ:=fun _=>6) (k:=1) xa6 (krN (ρ:=fun _=>6))) ⟨⟨rfl,xa5⟩,trivial⟩ rfl) qA qA trivial rfl (xf4 (xg8 (ps:=[.ptr 10 0,.ptr 3 0,.ptr 9 0]) rfl) qC trivial trivial rfl (wl_give (t:=42) (k:=6) (f:=tI) (xs:=(dyC fs)) rfl rfl (fun _ h=>h) (by rw [crD_comp hc];exact xg2 rfl) (by rw [crD_comp hc]) (xf4 (xb7 (fun j=>cond (Nat.beq j 102) 3 (cond (Nat.beq j 101) 10 (9))) (c_stepsCredit (dyC fs) (kD_pw2 (K:=0) hc) (by omega) (crC fs) hk (by omega)) fi117 rfl (krC (ρ:=fun j=>cond (Nat.beq j 102) 3 (cond (Nat.beq j 101) 10 (9))) (k:=101) rfl (krC (ρ:=fun j=>cond (Nat.beq j 102) 3 (cond (Nat.beq j 101) 10 (9))) (k:=102) rfl (krC (ρ:=fun j=>cond (Nat.beq j 102) 3 (cond (Nat.beq j 101) 10 (9))) (k:=103) rfl (krN (ρ:=fun j=>cond (Nat.beq j 102) 3 (cond (Nat.beq j 101) 10 (9))))))) (krC (ρ:=fun j=>cond (Nat.beq j 102) 3 (cond (Nat.beq j 101) 10 (9))) (k:=101) rfl (krC (ρ:=fun j=>cond (Nat.beq j 102) 3 (cond (Nat.beq j 101) 10 (9))) (k:=102) rfl (krC (ρ:=fun j=>cond (Nat.beq j 102) 3 (cond (Nat.beq j 101) 10 (9))) (k:=103) rfl (krN (ρ:=fun j=>cond (Nat.beq j 102) 3 (cond (Nat.beq j 101) 10 (9))))))) ⟨⟨rfl,(SupX.lit rfl)⟩,⟨rfl,(SupX.lit rfl)⟩,⟨rfl,(SupX.lit rfl)⟩,trivial⟩ rfl) qC qC trivial rfl (xf4 xe5 qA trivial trivial rfl (xp1 ?_))))))
   refine A2 ?_
   exact E1 rfl rfl (Le.of (congrArg (fun t=>tL 8 true tTs t) (show pst [] (segL (stG (fun _=>true) (crV (crC fs)) 2) (dyC fs++[65536]))=mT 0 fs from crd_mT hc)))
end An.S
namespace An
open Go
variable {α β:Type}
instance {M:MK α β} {l:List (α×β)}:Shape (tMp M (some l)) 1 false:=⟨fun ⟨_,h,_⟩=>by rw [h];exact xd3 rfl⟩
def fvF:Option Nat->Value
 | none=> .nilFunc
 | some f=> .func (.func f) #[] #[]
def cbF:Option Nat->Nat
 | none=>0
 | some f=>f+1
theorem cbF_inj (x y:Option Nat) (h:cbF x=cbF y):x=y:=by
 cases x <;> cases y <;> simp [cbF] at h ⊢ <;> exact h
abbrev mkSF:MK ByteArray (Option Nat):=⟨fun s=> .string s,fvF,caS,cbF,caS_inj,cbF_inj⟩
theorem mapF_SF {P:Program} {t kt e:TypeId} (h1:P.underlying t=some (.map kt e)) (h2:P.underlying kt=some .string) (h3: ∀w,(zeroValue e).run P w= .ok .nilFunc w):MapF P t mkSF none:=
 ⟨kt,e,_,h1,h2,fun x y=>by simp only [Instr.sameNow,beqBA],fun x=>by simp [MapKept.IsKey],fun x=>by simp [Instr.sameBits,beqBA],h3⟩
section
variable {M:MK α β} {P:Program} {w:World} {b:Nat} {l:List (α×β)} [DecidableEq α] {t:TypeId} {z:β}
theorem run_lookupO (hf:MapF P t M z) (hb:w.heap[b]? =some (M.obj l)) (a:α):(Instr.lookup t (.map (some b)) (M.fk a) true).run P w= .ok (.tuple #[M.fv ((getM l a).getD z),.bool (getM l a).isSome]) w:=by
 obtain ⟨kt,e,d,ht,hd,hs,hk,hy,hz⟩:=hf.und
 have h1:=MapKept.run_findKey (w:=w) hd (find_ents hs a l 0)
 have h2:=fun em=>MapKept.run_checkKey (w:=w) hd (hk a) em 9999
 have hb':w.heap[b]? =some (.map (M.ents 0 l).toArray l.length):=hb
 cases hg:getI a 0 l with
 | none=>simp [hg] at h1;simp [Instr.lookup,run_underlying ht,MapKept.run_getObj_map hb',h2,h1,hz,Result.andThen,getM,hg]
 | some x=>simp [hg] at h1;simp [Instr.lookup,run_underlying ht,MapKept.run_getObj_map hb',h2,h1,Result.andThen,getM,hg]
end
section
variable {P:Program} {c:Base} {d ty:Nat} {pos:String} {af:Array Edge} {gd:Option (Nat×Bool)} {M:MK α β} {g:Slots} {h:Keys} {al:Names} {K:Nat} {Q:Exit->Act->World->Prop} {A:Array Oper} {rest:List Oper} {t:TypeId} {b:Nat} {l:List (α×β)}
theorem d_lookupO [DecidableEq α] {z:β} {x y:Operand} (hf:MapF P t M z) (l:List (α×β)) (a:α):
  Does P c ⟨some d,.lookup t x y true,ty,pos,af,gd⟩ ⟨[(x,.val (tMp M (some l))),(y,.val (tE (M.fk a)))],[],some (d,some (.val (tT [tE (M.fv (entV z l a)),tB (getM l a).isSome]))),[],[]⟩:=
 Does.value rfl fun g h al a' w η hrd hkr st=>by
  obtain ⟨b,e1,_,h1⟩:=(xa0 st hrd.1).1
  have e1:a'.eval x= .map (some b):=e1
  have e2:a'.eval y=M.fk a:=(xa0 st hrd.2.1).1
  refine ⟨_,w,?_,Ext.refl w,⟨[_,_],rfl,rfl,rfl,trivial⟩,fun k hk=>by cases hk⟩
  simp only [execOp,e1,e2,Sem.run_bind,run_lookupO hf h1,Result.andThen];rfl
theorem wl_insM [DecidableEq α] {z:β} {x y u:Operand} {a:α} {v:β} (hf:MapF P t M z) (hB:MB M c K) (hw: ∀a w η,St' c g h al a w η->Region.wanted ⟨none,.insert t x y u,ty,pos,af,gd⟩ (yielded A a.tmps)=true)
  (hx:look g x=some (.val (tE (.map (some b))))) (hy:look g y=some (.val (tE (M.fk a)))) (hu:look g u=some (.val (tE (M.fv v)))) (hK:h K=some ⟨M.code (some ⟨b,l,none⟩),1,false,[]⟩)
  (H:wl P c A Q rest g (upd h K (some ⟨M.code (some ⟨b,putM l a v,none⟩),1,false,[]⟩)) al):wl P c A Q (⟨none,.insert t x y u,ty,pos,af,gd⟩::rest) g h al:=
 wl_ghost0 (s:=some ⟨b,l,none⟩) (some ⟨b,putM l a v,none⟩) hB rfl hw hK (fun a' w η st hm=>by
  have e1:a'.eval x= .map (some b):=(xa0 st hx).1
  have e2:a'.eval y=M.fk a:=(xa0 st hy).1
  have e3:a'.eval u=M.fv v:=(xa0 st hu).1
  obtain ⟨⟨h1,h2,h3⟩,_⟩:=hm
  refine ⟨_,η.vo,?_,kept_same st (stp_set (b:=b) (o:=M.obj (putM l a v)) h2),⟨⟨set_same h1,h2,h3⟩,fun r q hr=>by cases hr⟩⟩
  simp only [execOp,e1,e2,e3,Sem.run_bind,run_updateM hf h1,Result.andThen];rfl) H
theorem E_ret1M {N K:Nat} {w0:World} {F:Dom} {fn:Func} {t b:Nat} {l:List (α×β)} (hr:fn.results= #[.tmp t]) (hx:g t=some (.val (tE (.map (some b))))) (hK:h K=some ⟨M.code (some ⟨b,l,none⟩),1,false,[]⟩):
  wk (Base.maps N w0 F K M) .ret (Post P w0 F fn (tMp M (some l))) g h al:=by
 refine K_endR (.inl rfl) Plain.maps.df fun df pn a w η s=> ?_
 have h0: ∀b,η.vo b->w0.heap.size<=b:=fun b hb=>(s.fr.vnew b hb).2.2.elim (fun h=>h.elim) id
 have hj:M.J (M.code (some ⟨b,l,none⟩)) _ η.vo w:=s.jj K _ rfl hK
 obtain ⟨⟨m1,m2,m3⟩,_⟩:=(M.J_at (s:=some ⟨b,l,none⟩)).1 hj
 have e1:a.tmps.getD t undef= .map (some b):=xr2 s hx
 exact ⟨_,results_tmp hr a.tmps P w,⟨s.fr.os,s.fr.tape,s.fr.output,s.fr.size,fun b hb=>s.fr.block b hb (fun h=>h.elim) fun hv=>by have:=h0 b hv;omega⟩,⟨b,e1,.inl (h0 b m2),m1⟩⟩
end
end An
namespace An
open Go An.S
def eHire (kn job day n d p:Int):Ev:=⟨1,kn,job,day,0,fr (kfr n d),fr (kfr p 1),0⟩
def eLeave (kn job day:Int):Ev:=⟨2,kn,job,day,0,fr0,fr0,0⟩
def eHours (kn job day hi n d:Int):Ev:=⟨3,kn,job,day,hi,fr (kfr n d),fr0,0⟩
def ePause (kn job day hi:Int):Ev:=⟨5,kn,job,day,hi,fr0,fr0,0⟩
def eVoid (kn nr:Int):Ev:=⟨7,kn,0,0,0,fr0,fr0,nr⟩
structure Ne where
  kd:Nat
  jb:Nat
  kn:Nat
  dy:Nat
  ds:Nat
  pt:Nat
  py:Nat
  nr:Nat
section
variable {D B:Int} {l:List Ev} {x:Ev}
end
end An
namespace An.S
open Go Go.Proofs An
instance fi44:FnI Tryz.prog 44:=⟨_,Tryz.func44,by kernel_rfl,rfl⟩
instance fi46:FnI Tryz.prog 46:=⟨_,Tryz.func46,by kernel_rfl,rfl⟩
instance fi74:FnI Tryz.prog 74:=⟨_,Tryz.func74,by kernel_rfl,rfl⟩
instance fi75:FnI Tryz.prog 75:=⟨_,Tryz.func75,by kernel_rfl,rfl⟩
instance fi76:FnI Tryz.prog 76:=⟨_,Tryz.func76,by kernel_rfl,rfl⟩
instance fi79:FnI Tryz.prog 79:=⟨_,Tryz.func79,by kernel_rfl,rfl⟩
theorem bu53:BuI Tryz.prog 53 (fun i=>[(0,1),(1,1),(2,1),(3,1),(4,1),(5,6)][i]?) (.agg #[.string ⟨#[]⟩,.int .i64 0,.int .i64 0,.int .i64 0,.bool false,.int .u8 0,.bool false,.slice none 0 0,.bool false,.slice none 0 0,.int .i64 0]):=BuI.struct Tryz.underlying53 (by kernel_rfl) (by kernel_rfl)
section
variable {D B:Int} {l:List Ev}
theorem gr_dig (h:GR D B l): ∀e∈l,e.part.dig/\e.pay.dig:=fun e he=>by
 obtain ⟨i,hi,rfl⟩:=List.mem_iff_getElem.1 he
 have ho:=h.ok i hi
 have hf:=h.fr _ he
 have e0:l.getD i ev0=l[i]:=by rw [List.getD_eq_getElem?_getD,List.getElem?_eq_getElem hi];rfl
 have hp:=ho.pt
 have hy:=ho.py
 rw [e0] at hp hy
 have key: ∀(u:Bool) (f:Fr),eFrc u f=true->(u=true->frB D B f)->f.dig:=fun u f h1 h2=>by
  cases u with
  | true=>obtain ⟨k,_,rfl⟩:=h2 rfl;exact dig_frG _
  | false=>
   rw [eFrc,if_neg (by decide),eBlank,Bool.and_eq_true,Bool.and_eq_true,Bool.and_eq_true,decide_eq_true_eq,decide_eq_true_eq] at h1
   have a1:=List.eq_nil_of_length_eq_zero h1.1.2
   have a2:=List.eq_nil_of_length_eq_zero h1.2.2
   refine ⟨fun x hx=> ?_,fun x hx=> ?_⟩
   ·rw [a1] at hx;cases hx
   ·rw [a2] at hx;cases hx
 exact ⟨key _ _ hp hf.1,key _ _ hy hf.2⟩
theorem gr_val (h:GR D B l):eVal l=true:=by
 rw [eVal,Bool.and_eq_true]
 exact ⟨decide_eq_true h.len,List.all_eq_true.2 fun i hi=>xf2.2 (h.ok i (List.mem_range.1 hi))⟩
theorem c_EValidG (h:GR D B l):Ct Tryz.prog 11 [tL 14 true tEv l] (tB true):=by
 have h1:=c_EValid l (gr_dig h)
 rw [gr_val h] at h1;exact h1
end
def fK (K:Nat):Nat:=match K with
 | 0=>76
 | 1=>74
 | _=>75
def tmL:List (ByteArray×Option Nat):=[(mKey 1,some (fK 1)),(mKey 2,some (fK 2)),(mKey 0,some (fK 0))]
theorem hMF:MapF Tryz.prog 82 mkSF none:=mapF_SF Tryz.underlying82 Tryz.underlying9 (fun w=>by kernel_rfl)
theorem tm_get {K:Nat} (hK:K < 3):entV none tmL (mKey K)=some (fK K)/\(getM tmL (mKey K)).isSome=true:=by
 have key: ∀K:Fin 3,entV none tmL (mKey K.val)=some (fK K.val)/\(getM tmL (mKey K.val)).isSome=true:=by decide
 exact key ⟨K,hK⟩
theorem d_lookK {c:Base} {d ty:Nat} {pos:String} {af:Array Edge} {gd:Option (Nat×Bool)} {x y:Operand} {K:Nat} (hK:K < 3):Does Tryz.prog c ⟨some d,.lookup 82 x y true,ty,pos,af,gd⟩ ⟨[(x,.val (tMp mkSF (some tmL))),(y,.val (tSt (mKey K)))],[],some (d,some (.val (tT [tE (.func (.func (fK K)) #[] #[]),tB true]))),[],[]⟩:=by
 have h:=d_lookupO (c:=c) (d:=d) (ty:=ty) (pos:=pos) (af:=af) (gd:=gd) (x:=x) (y:=y) hMF tmL (mKey K)
 rw [(tm_get hK).1,(tm_get hK).2] at h;exact h
theorem d_lookV {c:Base} {d ty:Nat} {pos:String} {af:Array Edge} {gd:Option (Nat×Bool)} {x y:Operand} {K:Nat} (hK:K < 3):Does Tryz.prog c ⟨some d,.lookup 82 x y false,ty,pos,af,gd⟩ ⟨[(x,.val (tMp mkSF (some tmL))),(y,.val (tSt (mKey K)))],[],some (d,some (.val (tE (.func (.func (fK K)) #[] #[])))),[],[]⟩:=by
 have h:=d_lookupG (c:=c) (d:=d) (ty:=ty) (pos:=pos) (af:=af) (gd:=gd) (x:=x) (y:=y) hMF tmL (mKey K)
 rw [(tm_get hK).1] at h;exact h
theorem fnK {K:Nat} (hK:K < 3):FnI Tryz.prog (fK K):=match K,hK with
 | 0,_=>fi76
 | 1,_=>fi74
 | 2,_=>fi75
theorem c_keyK {D B:Int} {l:List Ev} (h:GR D B l) {K:Nat} (hK:K < 3) (kn:Int):Ct Tryz.prog (fK K) [tVw (inf l kn)] (tL 8 true tTs (mT K (inf l kn))):=match K,hK with
 | 0,_=>c_credit (inf l kn) (h.inf_len kn) (inf_cal h.ok) (crOk_of (inf_cal h.ok) (inf_gE h.fr) h.d0 h.d1 h.b0 h.b1 (h.inf_len kn))
 | 1,_=>c_fte (inf l kn) (h.inf_len kn) (inf_cal h.ok) fun d=>⟨(sumOk_part (inf_gE h.fr) h.d0 h.d1 h.b0 h.b1 d).1,(sumOk_part (inf_gE h.fr) h.d0 h.d1 h.b0 h.b1 d).2⟩
 | 2,_=>c_pay (inf l kn) (h.inf_len kn) (inf_cal h.ok) fun d=>⟨(sumOk_pay (inf_gE h.fr) h.d0 h.d1 h.b0 h.b1 d).1,(sumOk_pay (inf_gE h.fr) h.d0 h.d1 h.b0 h.b1 d).2⟩
theorem c_timelines:
  Ct Tryz.prog 44 [] (tMp mkSF (some tmL)):=by
 refine Ct.introM mkSF 90 Tryz.func44 rfl Tryz.ntmps44 rfl ?_
 intro w F hM
 refine A6 ?_
 refine C_regY ?_
 refine wl_makeM hM (xn3 rfl) rfl rfl (fun bm=> ?_)
 refine wl_insM (b:=bm) (l:=[]) (a:=(mKey 1)) (v:=(some (fK 1))) hMF hM (xn3 rfl) rfl rfl rfl rfl (wl_insM (b:=bm) (l:=[(mKey 1,some (fK 1))]) (a:=(mKey 2)) (v:=(some (fK 2))) hMF hM (xn3 rfl) rfl rfl rfl rfl (wl_insM (b:=bm) (l:=[(mKey 1,some (fK 1)),(mKey 2,some (fK 2))]) (a:=(mKey 0)) (v:=(some (fK 0))) hMF hM (xn3 rfl) rfl rfl rfl rfl (xf4 xb9 qA trivial trivial rfl (xf4 xe5 qA trivial trivial rfl (xp1 ?_)))))
 refine A2 ?_
 exact E_ret1M rfl rfl rfl
theorem c_TimelineK {D B:Int} (l:List Ev) (kn:Int) (h:GR D B l) (K:Nat) (hK:K < 3):
  Ct Tryz.prog 14 [tL 14 true tEv l,tSt (mKey K),tI kn] (tT [tL 8 true tTs (mT K (inf l kn)),tI 0]):=by
 refine Ct.intro Tryz.func14 rfl Tryz.ntmps14 rfl ?_
 intro w F
 refine A10 ?_
 refine R1 (x3 (c_EValidG h) fi11 rfl) rfl ?_
 refine A8 ?_
 refine R0 (x3 c_timelines fi44 rfl) ?_
 refine A1 ?_
 refine R2 (d_lookK hK) rfl rfl ?_
 refine A18 ?_
 refine A4 ?_
 refine R2 (x3 (c_viewOf l kn h.ok h.len) fi46 rfl) rfl rfl (R2 (xh7 (c_keyK h hK kn) (fnK hK) rfl) rfl rfl ?_)
 refine A5 ?_
 exact E2 rfl rfl rfl Le.refl Le.refl
theorem cutE_len {l:List Tst} {p q:Int}:(cutT l p q).length<=l.length:=by have:=pst_len (l.map (clip p q)) [];simp at this;exact this
theorem nwR_len {key:ByteArray} {kn:Int} {ps:List Tst} {a:Int}: ∀i,i<=ps.length->(nwR key kn (ps.take i) a).1.length<=2*i
 | 0,_=>Nat.le_refl _
 | i+1,h=>by
  have ih:=nwR_len (key:=key) (kn:=kn) (ps:=ps) (a:=a) i (by omega)
  rw [nwR_snoc (ps:=ps) (i:=i) (by omega),nw1]
  dsimp only
  rw [List.length_append,List.length_singleton]
  split
  ·rw [List.length_append,List.length_singleton];omega
  ·omega
theorem nw_yes {key:ByteArray} {kn:Int} {ps:List Tst} {a:Int} {i:Nat} (hi:i < ps.length) (h:(nwR key kn (ps.take i) a).2 < (ps.getD i tst0).lo):nwR key kn (ps.take (i+1)) a=((nwR key kn (ps.take i) a).1++[⟨key,(nwR key kn (ps.take i) a).2,(ps.getD i tst0).lo,kn,true,An.va0⟩]++[⟨key,(ps.getD i tst0).lo,(ps.getD i tst0).hi,kn,false,(ps.getD i tst0).v⟩],(ps.getD i tst0).hi):=by
 rw [nwR_snoc hi,nw1,if_pos h]
theorem nw_no {key:ByteArray} {kn:Int} {ps:List Tst} {a:Int} {i:Nat} (hi:i < ps.length) (h: ¬(nwR key kn (ps.take i) a).2 < (ps.getD i tst0).lo):nwR key kn (ps.take (i+1)) a=((nwR key kn (ps.take i) a).1++[⟨key,(ps.getD i tst0).lo,(ps.getD i tst0).hi,kn,false,(ps.getD i tst0).v⟩],(ps.getD i tst0).hi):=by
 rw [nwR_snoc hi,nw1,if_neg h]
theorem nwR_all {key:ByteArray} {kn:Int} {ps:List Tst} {a:Int} {i:Nat} (h:i=ps.length):nwR key kn (ps.take i) a=nwR key kn ps a:=by rw [h,List.take_length]
theorem c_news {K:Nat} {D B:Int} (now:List Tst) (key:ByteArray) (kn:Int) (s:Sn) (h:isG K D B now) (hl:now.length<=1000) (hs:Sn.ok s=true):
  Ct Tryz.prog 48 [tL 8 true tTs now,tSt key,tI kn,tSn s] (tL 11 true tFa (nwT now key kn s)):=by
 have hcut:=c_Cut now s.lo s.hi (by omega) h.dig
 rw [if_pos ⟨h.1,hs⟩,if_pos ⟨h.1,hs⟩] at hcut
 have hcl:=cutE_len (l:=now) (p:=s.lo) (q:=s.hi)
 refine Ct.intro Tryz.func48 rfl Tryz.ntmps48 rfl ?_
 intro w F
 refine A8 ?_
 refine RE (xe3 (k:=9) 53 11 true rfl (fun h=>by cases h)) trivial trivial qA ?_
 refine A9 ?_
 refine R3 (x3 hcut fi79 rfl) rfl rfl rfl ?_
 refine A18 ?_
 refine A5 ?_
 refine cL (fun (i:Nat)=>i<=(cutT now s.lo s.hi).length) (fun (i:Nat)=>uV (uV (uV (uV (uO (uO (uV (uV uN 1 (tSt key)) 2 (tI kn)) 7 (.ptr 7 0)) 9 (.sl 9 11 0 (nwR key kn ((cutT now s.lo s.hi).take i) s.lo).1.length)) 12 (tI (nwR key kn ((cutT now s.lo s.hi).take i) s.lo).2)) 26 (tL 8 true tTs (cutT now s.lo s.hi))) 27 (tI (cutT now s.lo s.hi).length)) 28 (tI i)) (fun (i:Nat)=>uK (uK uN 7 94 2 true [.val (tSn s)]) 9 53 11 true (rV tFa (nwR key kn ((cutT now s.lo s.hi).take i) s.lo).1)) [7,9] (fun (i:Nat)=>(cutT now s.lo s.hi).length - i) (0) (Nat.zero_le _) ?_
 intro i hI
 have hrl:=nwR_len (key:=key) (kn:=kn) (ps:=(cutT now s.lo s.hi)) (a:=s.lo) i hI
 refine A6 ?_
 refine x6 rfl (fun h202=> ?_) (fun h202=> ?_)
 ·
  refine A6 ?_
  refine R2 (x4 sl44 (i) (by omega) (gD (l:=(cutT now s.lo s.hi)) (n:=i) (d:=tst0) (by omega))) rfl rfl ?_
  refine A1 ?_
  refine RE (x7 (k:=14) (n:=8) (agg:=true) zr69.1 zr69.2 rfl) trivial trivial qA ?_
  refine A12 ?_
  refine x6 rfl (fun h203=> ?_) (fun h203=> ?_)
  ·
   refine A7 ?_
   refine Rt (xb0 (r:=tS [⟨1,false,tSt key⟩,⟨1,false,tI (nwR key kn ((cutT now s.lo s.hi).take i) s.lo).2⟩,⟨1,false,tI ((cutT now s.lo s.hi).getD i tst0).lo⟩,⟨1,false,tI kn⟩,⟨1,false,tB true⟩,⟨6,true,(tS [⟨1,false,(tE (.int .u8 0))⟩,⟨4,true,(tS [⟨2,true,(tS [⟨1,false,(tE (.bool false))⟩,⟨1,false,(tLm [])⟩])⟩,⟨2,true,(tS [⟨1,false,(tE (.bool false))⟩,⟨1,false,(tLm [])⟩])⟩])⟩,⟨1,false,(tE (.int .i64 0))⟩])⟩]) (ts:=[(0,tSt key),(1,tI (nwR key kn ((cutT now s.lo s.hi).take i) s.lo).2),(2,tI ((cutT now s.lo s.hi).getD i tst0).lo),(3,tI kn),(4,tB true)]) bu53 zr53.2 (Bc 0 rfl rfl rfl (Bc 1 rfl rfl rfl (Bc 2 rfl rfl rfl (Bc 3 rfl rfl rfl (Bc 4 rfl rfl rfl Le.refl)))))) ⟨rfl,rfl,rfl,rfl,rfl,trivial⟩ (R1 (xb5 (n:=1) (f:=tFa) [(⟨key,(nwR key kn ((cutT now s.lo s.hi).take i) s.lo).2,((cutT now s.lo s.hi).getD i tst0).lo,kn,true,An.va0⟩:Fa)] Tryz.underlying35 el53 zf53 rfl (fun _=>inferInstance) rfl rfl rfl) rfl (RE (xk5 (k:=9) (k':=44) (f:=tFa) (nwR key kn ((cutT now s.lo s.hi).take i) s.lo).1 (⟨key,(nwR key kn ((cutT now s.lo s.hi).take i) s.lo).2,((cutT now s.lo s.hi).getD i tst0).lo,kn,true,An.va0⟩:Fa) Tryz.underlying35 el53 zf53 rfl rfl (fun _=>inferInstance) rfl ⟨by omega,by omega⟩ rfl) qB qA qA ?_))
   refine A14 ?_
   refine Rt (xb0 (r:=tS [⟨1,false,tSt key⟩,⟨1,false,tI ((cutT now s.lo s.hi).getD i tst0).lo⟩,⟨1,false,tI ((cutT now s.lo s.hi).getD i tst0).hi⟩,⟨1,false,tI kn⟩,⟨1,false,(tE (.bool false))⟩,⟨6,true,tVa ((cutT now s.lo s.hi).getD i tst0).v⟩]) (ts:=[(0,tSt key),(1,tI ((cutT now s.lo s.hi).getD i tst0).lo),(2,tI ((cutT now s.lo s.hi).getD i tst0).hi),(3,tI kn),(5,tVa ((cutT now s.lo s.hi).getD i tst0).v)]) bu53 zr53.2 (Bc 0 rfl rfl rfl (Bc 1 rfl rfl rfl (Bc 2 rfl rfl rfl (Bc 3 rfl rfl rfl (Bc 5 rfl rfl rfl Le.refl)))))) ⟨rfl,rfl,rfl,rfl,rfl,trivial⟩ (R1 (xb5 (n:=1) (f:=tFa) [(⟨key,((cutT now s.lo s.hi).getD i tst0).lo,((cutT now s.lo s.hi).getD i tst0).hi,kn,false,((cutT now s.lo s.hi).getD i tst0).v⟩:Fa)] Tryz.underlying35 el53 zf53 rfl (fun _=>inferInstance) rfl rfl rfl) rfl (RE (xk5 (k:=44) (k':=56) (f:=tFa) ((nwR key kn ((cutT now s.lo s.hi).take i) s.lo).1++[(⟨key,(nwR key kn ((cutT now s.lo s.hi).take i) s.lo).2,((cutT now s.lo s.hi).getD i tst0).lo,kn,true,An.va0⟩:Fa)]) (⟨key,((cutT now s.lo s.hi).getD i tst0).lo,((cutT now s.lo s.hi).getD i tst0).hi,kn,false,((cutT now s.lo s.hi).getD i tst0).v⟩:Fa) Tryz.underlying35 el53 zf53 rfl rfl (fun _=>inferInstance) (by rw [List.length_append];rfl) ⟨by omega,by omega⟩ rfl) qB qA qA ?_))
   refine A14 ?_
   have hn:=nw_yes (key:=key) (kn:=kn) (ps:=(cutT now s.lo s.hi)) (a:=s.lo) (i:=i) (by omega) h203
   exact xc6 (l:=[7,9]) (fun j=>cond (Nat.beq j 9) 56 (j)) (i+1) ⟨(by omega),(by omega)⟩ (SubR.int rfl (by first | omega | rfl | (dsimp only;omega)) (SubR.int rfl (by first | omega | rfl | (dsimp only;omega)) (SubR.cons rfl ((SubR.consI rfl (Imp.int (by rw [hn]))) ((SubR.consI rfl (Imp.of (by rw [hn,List.length_append,List.length_append];rfl))) (SubR.cons rfl (SubR.int rfl (by first | omega | rfl | (dsimp only;omega)) (SubR.cons rfl SubR.nil)))))))) ((SubKR.consI rfl (ImpK.of (by rw [hn];exact xa6.symm))) ((SubKR.consI rfl ImpK.refl) SubKR.nil)) (SupG.val (SupG.val (SupG.val (SupG.val (SupG.own rfl (SupG.own rfl (SupG.val (SupG.val SupG.nil)))))))) (SupH.cons rfl (supJ xa5) (SupH.cons rfl (supJL rfl) SupH.nil)) (lkOk rfl) rfl rfl (fun _ h=>by cases h)
  ·
   refine A13 ?_
   refine Rt (xb0 (r:=tS [⟨1,false,tSt key⟩,⟨1,false,tI ((cutT now s.lo s.hi).getD i tst0).lo⟩,⟨1,false,tI ((cutT now s.lo s.hi).getD i tst0).hi⟩,⟨1,false,tI kn⟩,⟨1,false,(tE (.bool false))⟩,⟨6,true,tVa ((cutT now s.lo s.hi).getD i tst0).v⟩]) (ts:=[(0,tSt key),(1,tI ((cutT now s.lo s.hi).getD i tst0).lo),(2,tI ((cutT now s.lo s.hi).getD i tst0).hi),(3,tI kn),(5,tVa ((cutT now s.lo s.hi).getD i tst0).v)]) bu53 zr53.2 (Bc 0 rfl rfl rfl (Bc 1 rfl rfl rfl (Bc 2 rfl rfl rfl (Bc 3 rfl rfl rfl (Bc 5 rfl rfl rfl Le.refl)))))) ⟨rfl,rfl,rfl,rfl,rfl,trivial⟩ (R1 (xb5 (n:=1) (f:=tFa) [(⟨key,((cutT now s.lo s.hi).getD i tst0).lo,((cutT now s.lo s.hi).getD i tst0).hi,kn,false,((cutT now s.lo s.hi).getD i tst0).v⟩:Fa)] Tryz.underlying35 el53 zf53 rfl (fun _=>inferInstance) rfl rfl rfl) rfl (RE (xk5 (k:=9) (k':=56) (f:=tFa) (nwR key kn ((cutT now s.lo s.hi).take i) s.lo).1 (⟨key,((cutT now s.lo s.hi).getD i tst0).lo,((cutT now s.lo s.hi).getD i tst0).hi,kn,false,((cutT now s.lo s.hi).getD i tst0).v⟩:Fa) Tryz.underlying35 el53 zf53 rfl rfl (fun _=>inferInstance) rfl ⟨by omega,by omega⟩ rfl) qB qA qA ?_))
   refine A14 ?_
   have hn:=nw_no (key:=key) (kn:=kn) (ps:=(cutT now s.lo s.hi)) (a:=s.lo) (i:=i) (by omega) h203
   exact xc6 (l:=[7,9]) (fun j=>cond (Nat.beq j 9) 56 (j)) (i+1) ⟨(by omega),(by omega)⟩ (SubR.int rfl (by first | omega | rfl | (dsimp only;omega)) (SubR.int rfl (by first | omega | rfl | (dsimp only;omega)) (SubR.cons rfl ((SubR.consI rfl (Imp.int (by rw [hn]))) ((SubR.consI rfl (Imp.of (by rw [hn,List.length_append];rfl))) (SubR.cons rfl (SubR.int rfl (by first | omega | rfl | (dsimp only;omega)) (SubR.cons rfl SubR.nil)))))))) ((SubKR.consI rfl (ImpK.of (by rw [hn];exact xa6.symm))) ((SubKR.consI rfl ImpK.refl) SubKR.nil)) (SupG.val (SupG.val (SupG.val (SupG.val (SupG.own rfl (SupG.own rfl (SupG.val (SupG.val SupG.nil)))))))) (SupH.cons rfl (supJ xa5) (SupH.cons rfl (supJL rfl) SupH.nil)) (lkOk rfl) rfl rfl (fun _ h=>by cases h)
 ·
  refine A14 ?_
  refine x6 rfl (fun h209=> ?_) (fun h209=> ?_)
  ·
   refine A7 ?_
   refine Rt (xb0 (r:=tS [⟨1,false,tSt key⟩,⟨1,false,tI (nwR key kn ((cutT now s.lo s.hi).take i) s.lo).2⟩,⟨1,false,tI s.hi⟩,⟨1,false,tI kn⟩,⟨1,false,tB true⟩,⟨6,true,(tS [⟨1,false,(tE (.int .u8 0))⟩,⟨4,true,(tS [⟨2,true,(tS [⟨1,false,(tE (.bool false))⟩,⟨1,false,(tLm [])⟩])⟩,⟨2,true,(tS [⟨1,false,(tE (.bool false))⟩,⟨1,false,(tLm [])⟩])⟩])⟩,⟨1,false,(tE (.int .i64 0))⟩])⟩]) (ts:=[(0,tSt key),(1,tI (nwR key kn ((cutT now s.lo s.hi).take i) s.lo).2),(2,tI s.hi),(3,tI kn),(4,tB true)]) bu53 zr53.2 (Bc 0 rfl rfl rfl (Bc 1 rfl rfl rfl (Bc 2 rfl rfl rfl (Bc 3 rfl rfl rfl (Bc 4 rfl rfl rfl Le.refl)))))) ⟨rfl,rfl,rfl,rfl,rfl,trivial⟩ (R1 (xb5 (n:=1) (f:=tFa) [(⟨key,(nwR key kn ((cutT now s.lo s.hi).take i) s.lo).2,s.hi,kn,true,An.va0⟩:Fa)] Tryz.underlying35 el53 zf53 rfl (fun _=>inferInstance) rfl rfl rfl) rfl (RE (xk5 (k:=9) (k':=72) (f:=tFa) (nwR key kn ((cutT now s.lo s.hi).take i) s.lo).1 (⟨key,(nwR key kn ((cutT now s.lo s.hi).take i) s.lo).2,s.hi,kn,true,An.va0⟩:Fa) Tryz.underlying35 el53 zf53 rfl rfl (fun _=>inferInstance) rfl ⟨by omega,by omega⟩ rfl) qB qA qA ?_))
   refine A4 ?_
   have hra:=nwR_all (key:=key) (kn:=kn) (a:=s.lo) (show i=(cutT now s.lo s.hi).length by omega)
   refine C_give (t:=9) (k:=72) (f:=tFa) (xs:=((nwR key kn ((cutT now s.lo s.hi).take i) s.lo).1++[(⟨key,(nwR key kn ((cutT now s.lo s.hi).take i) s.lo).2,s.hi,kn,true,An.va0⟩:Fa)])) rfl rfl (fun _ h=>h) (xg2 (by rw [List.length_append];rfl)) (by rw [List.length_append];rfl) ?_
   refine A6 ?_
   exact E1 rfl rfl (Le.of (by rw [nwT,nwP,<-hra,if_pos h209]))
  ·
   refine A3 ?_
   have hra:=nwR_all (key:=key) (kn:=kn) (a:=s.lo) (show i=(cutT now s.lo s.hi).length by omega)
   refine C_give (t:=9) (k:=9) (f:=tFa) (xs:=(nwR key kn ((cutT now s.lo s.hi).take i) s.lo).1) rfl rfl (fun _ h=>h) (xg2 rfl) rfl ?_
   refine A6 ?_
   exact E1 rfl rfl (Le.of (by rw [nwT,nwP,<-hra,if_neg h209,List.append_nil]))
instance ti81:TyI Tryz.prog 81 3 true:=⟨by kernel_rfl,by kernel_rfl⟩
instance fi47:FnI Tryz.prog 47:=⟨_,Tryz.func47,by kernel_rfl,rfl⟩
instance fi48:FnI Tryz.prog 48:=⟨_,Tryz.func48,by kernel_rfl,rfl⟩
theorem zr81:(Tryz.prog.info? 81).bind (·.zero)=some (.agg #[.string ⟨#[]⟩,.string ⟨#[]⟩,.string ⟨#[]⟩])/\ ∀F w,(tS [⟨1,false,(tE (.string ⟨#[]⟩))⟩,⟨1,false,(tE (.string ⟨#[]⟩))⟩,⟨1,false,(tE (.string ⟨#[]⟩))⟩]).p F w (.agg #[.string ⟨#[]⟩,.string ⟨#[]⟩,.string ⟨#[]⟩]):=⟨by kernel_rfl,fun _ _=>⟨_,rfl,rfl,⟨fun _=>rfl,rfl⟩,⟨fun _=>rfl,rfl⟩,⟨fun _=>rfl,rfl⟩,trivial⟩⟩
theorem zr84:(Tryz.prog.info? 84).bind (·.zero)=some (.agg #[.slice none 0 0,.slice none 0 0,.slice none 0 0])/\ ∀F w,(tS [⟨1,false,(tE (.slice none 0 0))⟩,⟨1,false,(tE (.slice none 0 0))⟩,⟨1,false,(tE (.slice none 0 0))⟩]).p F w (.agg #[.slice none 0 0,.slice none 0 0,.slice none 0 0]):=⟨by kernel_rfl,fun _ _=>⟨_,rfl,rfl,⟨fun _=>rfl,rfl⟩,⟨fun _=>rfl,rfl⟩,⟨fun _=>rfl,rfl⟩,trivial⟩⟩
theorem bu81:BuI Tryz.prog 81 (fun i=>some (i*1,1)) (.agg #[.string ⟨#[]⟩,.string ⟨#[]⟩,.string ⟨#[]⟩]):=BuI.array Tryz.underlying81 ti9 zr81.1
theorem ar84:ArI Tryz.prog 84 44 3 1 false:=⟨by kernel_rfl,ti44⟩
section
variable {D B:Int} {l:List Ev}
theorem c_TDiffG {K:Nat} {D B:Int} {a b:List Tst} (h:isG K D B a) (g:isG K D B b) (ha:a.length<=1000) (hb:b.length<=1000):Ct Tryz.prog 47 [tL 8 true tTs a,tL 8 true tTs b] (tT [tL 2 true tSn (dfS a b),tI 0]):=by
 have:=c_TDiff _ _ (by omega) (by omega) h.dig g.dig
 rw [if_pos ⟨h.1,g.1⟩,if_pos ⟨h.1,g.1⟩] at this;exact this
def mks:List ByteArray:=[mKey 0,mKey 1,mKey 2]
theorem mks_at {K:Nat} (hK:K < 3):At (tS (mks.map fun x=>⟨1,false,tSt x⟩)) (K*1) 1 false (tSt (mKey K)):=match K,hK with
 | 0,_=>At.row (f:=fun x=>tSt x) (l:=mks) (i:=0) ⟨#[]⟩ (by decide)
 | 1,_=>At.row (f:=fun x=>tSt x) (l:=mks) (i:=1) ⟨#[]⟩ (by decide)
 | 2,_=>At.row (f:=fun x=>tSt x) (l:=mks) (i:=2) ⟨#[]⟩ (by decide)
def bfL (l:List Ev) (ks:List Int) (j K:Nat):List (List Tst):=(List.range 3).map fun q=>if q < K then mT q (inf l (ks.getD j 0)) else befT q l ks j
theorem bfL_len {ks:List Int} {j K:Nat}:(bfL l ks j K).length=3:=by rw [bfL,List.length_map,List.length_range]
theorem bfL_get {ks:List Int} {j K:Nat} (hK:K < 3):(bfL l ks j K).getD K []=befT K l ks j:=by
 rw [bfL,List.getD_eq_getElem?_getD,List.getElem?_map,List.getElem?_range hK]
 show (if K < K then _ else _)=_
 rw [if_neg (Nat.lt_irrefl K)]
theorem bfL_at {ks:List Int} {j K:Nat} (hK:K < 3):(rV (fun t:List Tst=>tL 8 true tTs t) (bfL l ks j K))[K]? =some (.val (tL 8 true tTs (befT K l ks j))):=by
 rw [xc4 (d:=[]) (by rw [bfL_len];exact hK),bfL_get hK]
theorem bfL_set {ks:List Int} {j K:Nat} (hK:K < 3):(bfL l ks j K).set K (mT K (inf l (ks.getD j 0)))=bfL l ks j (K+1):=by
 apply List.ext_getElem?
 intro q
 rw [List.getElem?_set,bfL_len,bfL,bfL,List.getElem?_map,List.getElem?_map]
 by_cases hq:q < 3
 ·rw [List.getElem?_range hq]
  by_cases e:K=q
  ·subst e
   rw [if_pos rfl,if_pos hK]
   show _=some (if K < K+1 then _ else _)
   rw [if_pos (Nat.lt_succ_self K)]
  ·rw [if_neg e]
   show some (if q < K then _ else _)=some (if q < K+1 then _ else _)
   by_cases h1:q < K
   ·rw [if_pos h1,if_pos (by omega)]
   ·rw [if_neg h1,if_neg (by omega)]
 ·rw [List.getElem?_eq_none (by rw [List.length_range];omega)]
  by_cases e:K=q
  ·omega
  ·rw [if_neg e];rfl
theorem bfL_next {ks:List Int} {j:Nat}:bfL l ks j 3=bfL l ks (j+1) 0:=by
 rw [bfL,bfL]
 refine List.map_congr_left fun q hq=> ?_
 rw [if_pos (List.mem_range.1 hq),if_neg (Nat.not_lt_zero q),befT,if_neg (by omega)];rfl
theorem bfL_none {ks:List Int}:bfL l ks 0 0=[[],[],[]]:=rfl
theorem fcts_le {ks:List Int} {n m:Nat} (h:n<=m):(fcts l ks n).length<=(fcts l ks m).length:=by
 induction h with
 | refl=>exact Nat.le_refl _
 | step _ ih=>rw [xn9,List.length_append];omega
theorem fcK_le {ks:List Int} {j n m:Nat} (h:n<=m):(fcK l ks j n).length<=(fcK l ks j m).length:=by
 induction h with
 | refl=>exact Nat.le_refl _
 | step _ ih=>rw [xq0,List.length_append];omega
theorem nwD_le {now:List Tst} {key:ByteArray} {kn:Int} {S:List Sn} (q:Nat):(nwD now key kn (S.take q)).length<=(nwD now key kn S).length:=by
 have e:nwD now key kn S=nwD now key kn (S.take q)++nwD now key kn (S.drop q):=by rw [nwD,nwD,nwD,<-List.flatMap_append,List.take_append_drop]
 rw [e,List.length_append];omega
theorem fc_room {ks:List Int} {j K q:Nat} (hj:j < ks.length) (hK:K < 3) (hn:(fcts l ks ks.length).length<=2000):(fcts l ks j++fcK l ks j K++nwD (mT K (inf l (ks.getD j 0))) (mKey K) (ks.getD j 0) ((dfS (befT K l ks j) (mT K (inf l (ks.getD j 0)))).take q)).length<=2000:=by
 have h1:=nwD_le (now:=mT K (inf l (ks.getD j 0))) (key:=mKey K) (kn:=ks.getD j 0) (S:=dfS (befT K l ks j) (mT K (inf l (ks.getD j 0)))) q
 have h2:(fcK l ks j (K+1)).length=(fcK l ks j K).length+(fcJ l ks j K).length:=by rw [xq0,List.length_append]
 have h3:=fcK_le (l:=l) (ks:=ks) (j:=j) (show K+1<=3 by omega)
 have h4:(fcts l ks (j+1)).length=(fcts l ks j).length+(fcK l ks j 3).length:=by rw [xn9,List.length_append]
 have h5:=fcts_le (l:=l) (ks:=ks) (show j+1<=ks.length by omega)
 have h6:(fcJ l ks j K).length=(nwD (mT K (inf l (ks.getD j 0))) (mKey K) (ks.getD j 0) (dfS (befT K l ks j) (mT K (inf l (ks.getD j 0))))).length:=rfl
 rw [List.length_append,List.length_append];omega
theorem mapK_next {i:Nat} (hi:i < l.length):(l.take (i+1)).map (·.kn)=(l.take i).map (·.kn)++[(l.getD i ev0).kn]:=by
 rw [List.take_succ_eq_append_getElem hi,List.map_append,List.getD_eq_getElem?_getD,List.getElem?_eq_getElem hi];rfl
theorem mapK_len {i:Nat} (hi:i<=l.length):((l.take i).map (·.kn)).length=i:=by rw [List.length_map,List.length_take];omega
theorem GR_mlen (h:GR D B l) (K:Nat) (k:Int):(mT K (inf l k)).length<=1000:=by
 have h1:=mT_len (F:=inf l k) K
 have h2:=h.inf_len k
 omega
theorem GR_blen (h:GR D B l) (K:Nat) (ks:List Int) (j:Nat):(befT K l ks j).length<=1000:=by
 rw [befT]
 split
 ·exact Nat.zero_le _
 ·exact GR_mlen h K _
theorem sn_okS {S:List Sn} (h:sVal S=true) {q:Nat} (hq:q < S.length):Sn.ok (S.getD q sn0)=true:=by
 have hm:S.getD q sn0∈S:=by rw [List.getD_eq_getElem?_getD,List.getElem?_eq_getElem hq];exact List.getElem_mem hq
 have:=sVal_ok h _ hm
 generalize S.getD q sn0=s at*
 simp [Sn.ok];omega
end
theorem c_Facts {D B:Int} (l:List Ev) (h:GR D B l) (hn:(fctL l).length<=2000):
  Ct Tryz.prog 9 [tL 14 true tEv l] (tT [tL 11 true tFa (fctL l),tI 0]):=by
 have hll:=h.len
 have hkl:=knL_len (l:=l)
 have hn:(fcts l (knL l) (knL l).length).length<=2000:=hn
 refine Ct.intro Tryz.func9 rfl Tryz.ntmps9 rfl ?_
 intro w F
 refine A10 ?_
 refine R1 (x3 (c_EValidG h) fi11 rfl) rfl ?_
 refine A10 ?_
 refine RE (xg0 (k:=26) (t:=tI 0) (ts:=rV tI ([]:List Int)) 0 l.length Tryz.underlying43 el3 (fun _ _=>rfl) rfl rfl rfl (Nat.zero_le _) (by omega) (by omega) rfl) qB trivial qA ?_
 refine A12 ?_
 refine cL (fun (i:Nat)=>i<=l.length) (fun (i:Nat)=>uV (uV (uV (uO (uV uN 0 (tL 14 true tEv l)) 4 (.sl 26 1 0 ((l.take i).map (·.kn)).length)) 27 (tL 14 true tEv l)) 28 (tI l.length)) 29 (tI i)) (fun (i:Nat)=>uK uN 26 3 1 false (rV tI ((l.take i).map (·.kn)))) [26] (fun (i:Nat)=>l.length - i) (0) (Nat.zero_le _) ?_
 intro i hI
 have hxl:=mapK_len (l:=l) hI
 have hnx:=fun hh=>mapK_next (l:=l) (i:=i) hh
 refine A6 ?_
 refine x6 rfl (fun h172=> ?_) (fun h172=> ?_)
 ·
  refine A6 ?_
  refine R2 (x4 sl22 (i) (by omega) (gD (l:=l) (n:=i) (d:=ev0) (by omega))) rfl rfl ?_
  refine A1 ?_
  refine RE (x7 (k:=6) (n:=14) (agg:=true) zr29.1 zr29.2 rfl) trivial trivial qA ?_
  refine A7 ?_
  refine R1 (xb5 (n:=1) (f:=fun n:Int=>tI n) [((l.getD i ev0).kn)] Tryz.underlying43 el3 zf3 rfl (fun _=>inferInstance) rfl rfl rfl) rfl (RE (xk5 (k:=26) (k':=37) (f:=fun n:Int=>tI n) ((l.take i).map (·.kn)) ((l.getD i ev0).kn) Tryz.underlying43 el3 zf3 rfl rfl (fun _=>inferInstance) rfl ⟨by omega,by omega⟩ rfl) ⟨rfl,rfl,trivial⟩ ⟨rfl,trivial⟩ ⟨rfl,trivial⟩ ?_)
  refine A8 ?_
  exact xc6 (l:=[26]) (fun j=>cond (Nat.beq j 26) 37 (j)) (i+1) ⟨(by omega),(by omega)⟩ (SubR.int rfl (by first | omega | rfl | (dsimp only;omega)) (SubR.int rfl (by first | omega | rfl | (dsimp only;omega)) (SubR.cons rfl ((SubR.consI rfl (Imp.of (by rw [hnx (by omega),List.length_append];rfl))) (SubR.cons rfl SubR.nil))))) ((SubKR.consI rfl (ImpK.of (by rw [hnx (by omega)];exact xa6.symm))) SubKR.nil) (SupG.val (SupG.val (SupG.val (SupG.own rfl (SupG.val SupG.nil))))) (SupH.cons rfl (supJ xa5) SupH.nil) (lkOk rfl) rfl rfl (fun _ h=>by cases h)
 ·
  refine A6 ?_
  have hie:l.take i=l:=by rw [show i=l.length by omega,List.take_length]
  rw [hie]
  refine A2 ?_
  refine RE (xb7 (fun _=>26) (c_SortI (l.map (·.kn)) (by rw [List.length_map];omega)) fi43 rfl (krC (ρ:=fun _=>26) (k:=1) xa6 (krN (ρ:=fun _=>26))) (krC (ρ:=fun _=>26) (k:=1) xa6 (krN (ρ:=fun _=>26))) ⟨⟨rfl,xa5⟩,trivial⟩ rfl) ⟨rfl,trivial⟩ ⟨rfl,trivial⟩ trivial ?_
  refine A4 ?_
  refine R3 (xb0 (r:=tS [⟨1,false,tSt (mKey 0)⟩,⟨1,false,tSt (mKey 1)⟩,⟨1,false,tSt (mKey 2)⟩]) (ts:=[(0,tSt (mKey 0)),(1,tSt (mKey 1)),(2,tSt (mKey 2))]) bu81 zr81.2 (Bc 0 rfl rfl rfl (Bc 1 rfl rfl rfl (Bc 2 rfl rfl rfl Le.refl)))) rfl rfl rfl (RE (x7 (k:=7) (n:=3) (agg:=true) zr81.1 zr81.2 rfl) trivial trivial qA ?_)
  refine A5 ?_
  refine R0 (x3 c_timelines fi44 rfl) ?_
  refine A5 ?_
  refine RE (d_allocC (k:=9) (n:=3) [.slice none 0 0,.slice none 0 0,.slice none 0 0] zr84.1 rfl rfl rfl rfl) trivial trivial qA ?_
  refine A4 ?_
  refine RE (xe3 (k:=10) 53 11 true rfl (fun h=>by cases h)) trivial trivial qA ?_
  refine A4 ?_
  refine C_regY ?_
  refine xf4 xb9 ⟨rfl,trivial⟩ trivial trivial rfl (xf4 (xb7 (fun _=>26) (c_CompactS (l.map (·.kn))) fi45 rfl (krC (ρ:=fun _=>26) (k:=1) xa6 (krN (ρ:=fun _=>26))) (krC (ρ:=fun _=>26) (k:=1) xa6 (krN (ρ:=fun _=>26))) ⟨⟨rfl,xa5⟩,trivial⟩ rfl) ⟨rfl,trivial⟩ ⟨rfl,trivial⟩ trivial rfl (wl_give (t:=44) (k:=26) (f:=tI) (xs:=(knL l)) rfl rfl (fun _ h=>h) (xg2 rfl) rfl (xf4 (d_len Tryz.underlying43) ⟨rfl,trivial⟩ trivial trivial rfl (xf4 xb9 ⟨rfl,trivial⟩ trivial trivial rfl (xp1 ?_)))))
  refine A2 ?_
  refine cL (fun (j:Nat)=>j<=(knL l).length) (fun (j:Nat)=>uO (uV (uV (uV (uO (uV (uO (uV uN 0 (tL 14 true tEv l)) 7 (.ptr 7 0)) 8 (tMp mkSF (some tmL))) 9 (.ptr 9 0)) 44 (tL 1 false tI (knL l))) 45 (tI (knL l).length)) 46 (tI j)) 10 (.sl 10 11 0 (fcts l (knL l) j).length)) (fun (j:Nat)=>uK (uK (uK uN 7 81 3 true [.val (tS (mks.map fun x=>⟨1,false,tSt x⟩))]) 9 84 1 false (rV (fun t:List Tst=>tL 8 true tTs t) (bfL l (knL l) j 0))) 10 53 11 true (rV tFa (fcts l (knL l) j))) [7,9,10] (fun (j:Nat)=>(knL l).length - j) (0) (Nat.zero_le _) (hh:=(SubK.cons rfl ((SubK.consI rfl (by rw [bfL_none];exact ImpK.three (leNil rfl) (leNil rfl) (leNil rfl))) (SubK.cons rfl SubK.nil)))) ?_
  intro j hI2
  refine A1 ?_
  refine C_regY ?_
  refine xf4 d_lss qB trivial trivial rfl (xp1 ?_)
  refine A2 ?_
  refine x6 rfl (fun h180=> ?_) (fun h180=> ?_)
  ·
   refine A5 ?_
   refine C_regY ?_
   refine xf4 (x4 sl43 (j) (by omega) (gD (l:=(knL l)) (n:=j) (d:=0) (by omega))) qB trivial trivial rfl (xf4 (xm1 ti3) qA trivial trivial rfl (xf4 xe5 qA trivial trivial rfl (xp1 ?_)))
   refine A5 ?_
   refine R2 (x3 (c_viewOf l ((knL l).getD j 0) h.ok h.len) fi46 rfl) rfl rfl (RE (x7 (k:=13) (n:=1) (agg:=true) zr87.1 zr87.2 rfl) trivial trivial qA ?_)
   refine A10 ?_
   refine cL (fun (K:Nat)=>K<=3) (fun (K:Nat)=>uV (uV (uO (uV (uO (uV (uV (uV (uO (uV (uO (uV uN 0 (tL 14 true tEv l)) 7 (.ptr 7 0)) 8 (tMp mkSF (some tmL))) 9 (.ptr 9 0)) 44 (tL 1 false tI (knL l))) 45 (tI (knL l).length)) 46 (tI j)) 10 (.sl 10 11 0 (fcts l (knL l) j++fcK l (knL l) j K).length)) 12 (tI ((knL l).getD j 0))) 13 (.ptr 13 0)) 53 (tS (mks.map fun x=>⟨1,false,tSt x⟩))) 54 (tI K)) (fun (K:Nat)=>uK (uK (uK (uK uN 7 81 3 true [.val (tS (mks.map fun x=>⟨1,false,tSt x⟩))]) 9 84 1 false (rV (fun t:List Tst=>tL 8 true tTs t) (bfL l (knL l) j K))) 10 53 11 true (rV tFa (fcts l (knL l) j++fcK l (knL l) j K))) 13 87 1 true [.val (tVw (inf l ((knL l).getD j 0)))]) [7,9,10,13] (fun (K:Nat)=>3 - K) (0) (Nat.zero_le _) (hg:=(sI (sC (sC (sI ((Sub.consI rfl (Imp.of (by rw [show fcK l (knL l) j 0=[] from rfl,List.append_nil]))) (sI (sI (sC (sC (sC (sC (sC Sub.nil))))))))))))) (hh:=(SubK.cons rfl ((SubK.consI rfl (ImpK.of (by rw [show fcK l (knL l) j 0=[] from rfl,List.append_nil]))) (SubK.cons rfl (SubK.cons rfl SubK.nil))))) ?_
   intro K hI3
   refine A6 ?_
   refine x6 rfl (fun h182=> ?_) (fun h182=> ?_)
   ·
    refine A7 ?_
    refine R2 (d_indexV (es:=1) (agg:=false) (t:=tS (mks.map fun x=>⟨1,false,tSt x⟩)) (t':=tSt (mKey K)) Tryz.underlying81 ti9 K (by omega) (by omega) (mks_at (by omega))) rfl rfl ?_
    refine A8 ?_
    refine R2 (d_lookV (K:=K) (by omega)) rfl rfl ?_
    refine A1 ?_
    refine R2 (xh7 (c_keyK h (K:=K) (by omega) ((knL l).getD j 0)) (fnK (by omega)) rfl) rfl rfl ?_
    refine A6 ?_
    refine R2 (d_indexA ar84 (by omega) (by omega) rfl) rfl rfl (RE (xc1 (K) ti44 (bfL_at (by omega)) (by omega)) qA qA trivial ?_)
    refine A1 ?_
    refine R2 (x3 (c_TDiffG (h.bef K (knL l) j) (h.tl K ((knL l).getD j 0)) (GR_blen h K (knL l) j) (GR_mlen h K ((knL l).getD j 0))) fi47 rfl) rfl rfl ?_
    refine A16 ?_
    refine cL (fun (q:Nat)=>q<=(dfS (befT K l (knL l) j) (mT K (inf l ((knL l).getD j 0)))).length) (fun (q:Nat)=>uV (uV (uV (uV (uV (uV (uV (uV (uO (uV (uO (uV (uV (uV (uO (uV (uO (uV uN 0 (tL 14 true tEv l)) 7 (.ptr 7 0)) 8 (tMp mkSF (some tmL))) 9 (.ptr 9 0)) 44 (tL 1 false tI (knL l))) 45 (tI (knL l).length)) 46 (tI j)) 10 (.sl 10 11 0 ((fcts l (knL l) j++fcK l (knL l) j K)++nwD (mT K (inf l ((knL l).getD j 0))) (mKey K) ((knL l).getD j 0) ((dfS (befT K l (knL l) j) (mT K (inf l ((knL l).getD j 0)))).take q)).length)) 12 (tI ((knL l).getD j 0))) 13 (.ptr 13 0)) 14 (tI K)) 15 (tSt (mKey K))) 16 (tL 8 true tTs (mT K (inf l ((knL l).getD j 0))))) 53 (tS (mks.map fun x=>⟨1,false,tSt x⟩))) 54 (tI K)) 71 (tL 2 true tSn (dfS (befT K l (knL l) j) (mT K (inf l ((knL l).getD j 0)))))) 72 (tI (dfS (befT K l (knL l) j) (mT K (inf l ((knL l).getD j 0)))).length)) 73 (tI q)) (fun (q:Nat)=>uK (uK (uK (uK uN 7 81 3 true [.val (tS (mks.map fun x=>⟨1,false,tSt x⟩))]) 9 84 1 false (rV (fun t:List Tst=>tL 8 true tTs t) (bfL l (knL l) j K))) 10 53 11 true (rV tFa ((fcts l (knL l) j++fcK l (knL l) j K)++nwD (mT K (inf l ((knL l).getD j 0))) (mKey K) ((knL l).getD j 0) ((dfS (befT K l (knL l) j) (mT K (inf l ((knL l).getD j 0)))).take q)))) 13 87 1 true [.val (tVw (inf l ((knL l).getD j 0)))]) [7,9,10,13] (fun (q:Nat)=>(dfS (befT K l (knL l) j) (mT K (inf l ((knL l).getD j 0)))).length - q) (0) (Nat.zero_le _) (hg:=(sI (sI (sC (sI (sC (sC (sC (sI (sC (sI ((Sub.consI rfl (Imp.of (by rw [List.take_zero,show nwD (mT K (inf l ((knL l).getD j 0))) (mKey K) ((knL l).getD j 0) []=[] from rfl,List.append_nil]))) (sI (sI (sC (sC (sC (sC (sC Sub.nil))))))))))))))))))) (hh:=(SubK.cons rfl ((SubK.consI rfl (ImpK.of (by rw [List.take_zero,show nwD (mT K (inf l ((knL l).getD j 0))) (mKey K) ((knL l).getD j 0) []=[] from rfl,List.append_nil]))) (SubK.cons rfl (SubK.cons rfl SubK.nil))))) ?_
    intro q hI4
    have hsl:=sVal_len (h.df K (knL l) j).1
    have hrm:=fc_room (l:=l) (ks:=(knL l)) (j:=j) (K:=K) (q:=q) (by omega) (by omega) hn
    refine A6 ?_
    refine x6 rfl (fun h185=> ?_) (fun h185=> ?_)
    ·
     refine A6 ?_
     refine R2 (x4 sl90 (q) (by omega) (gD (l:=(dfS (befT K l (knL l) j) (mT K (inf l ((knL l).getD j 0))))) (n:=q) (d:=sn0) (by omega))) rfl rfl ?_
     refine A1 ?_
     refine RE (x7 (k:=20) (n:=2) (agg:=true) zr94.1 zr94.2 rfl) trivial trivial qA ?_
     refine A9 ?_
     refine Rt (x3 (c_news (mT K (inf l ((knL l).getD j 0))) (mKey K) ((knL l).getD j 0) ((dfS (befT K l (knL l) j) (mT K (inf l ((knL l).getD j 0)))).getD q sn0) (h.tl K ((knL l).getD j 0)) (GR_mlen h K ((knL l).getD j 0)) (sn_okS (h.df K (knL l) j).1 (by omega))) fi48 rfl) qD ?_
     have hnq:((fcts l (knL l) j++fcK l (knL l) j K)++nwD (mT K (inf l ((knL l).getD j 0))) (mKey K) ((knL l).getD j 0) ((dfS (befT K l (knL l) j) (mT K (inf l ((knL l).getD j 0)))).take q)).length+(nwT (mT K (inf l ((knL l).getD j 0))) (mKey K) ((knL l).getD j 0) ((dfS (befT K l (knL l) j) (mT K (inf l ((knL l).getD j 0)))).getD q sn0)).length<=2000:=by
      have h1:=fc_room (l:=l) (ks:=(knL l)) (j:=j) (K:=K) (q:=q+1) (by omega) (by omega) hn
      have h2:(((fcts l (knL l) j++fcK l (knL l) j K)++nwD (mT K (inf l ((knL l).getD j 0))) (mKey K) ((knL l).getD j 0) ((dfS (befT K l (knL l) j) (mT K (inf l ((knL l).getD j 0)))).take q))++(nwT (mT K (inf l ((knL l).getD j 0))) (mKey K) ((knL l).getD j 0) ((dfS (befT K l (knL l) j) (mT K (inf l ((knL l).getD j 0)))).getD q sn0))).length=((fcts l (knL l) j++fcK l (knL l) j K)++nwD (mT K (inf l ((knL l).getD j 0))) (mKey K) ((knL l).getD j 0) ((dfS (befT K l (knL l) j) (mT K (inf l ((knL l).getD j 0)))).take q)).length+(nwT (mT K (inf l ((knL l).getD j 0))) (mKey K) ((knL l).getD j 0) ((dfS (befT K l (knL l) j) (mT K (inf l ((knL l).getD j 0)))).getD q sn0)).length:=List.length_append
      rw [nwD_snoc (by omega),<-List.append_assoc] at h1;omega
     refine RE (xb3 (k:=10) (k':=83) (f:=tFa) (ys:=(nwT (mT K (inf l ((knL l).getD j 0))) (mKey K) ((knL l).getD j 0) ((dfS (befT K l (knL l) j) (mT K (inf l ((knL l).getD j 0)))).getD q sn0))) (ts':=rV tFa (((fcts l (knL l) j++fcK l (knL l) j K)++nwD (mT K (inf l ((knL l).getD j 0))) (mKey K) ((knL l).getD j 0) ((dfS (befT K l (knL l) j) (mT K (inf l ((knL l).getD j 0)))).take q))++(nwT (mT K (inf l ((knL l).getD j 0))) (mKey K) ((knL l).getD j 0) ((dfS (befT K l (knL l) j) (mT K (inf l ((knL l).getD j 0)))).getD q sn0)))) Tryz.underlying35 el53 zf53 rfl rfl (fun _=>inferInstance) xd2 (by omega) (by omega) (by simp only [rV,List.map_append]) (n':=((fcts l (knL l) j++fcK l (knL l) j K)++nwD (mT K (inf l ((knL l).getD j 0))) (mKey K) ((knL l).getD j 0) ((dfS (befT K l (knL l) j) (mT K (inf l ((knL l).getD j 0)))).take q)).length+(nwT (mT K (inf l ((knL l).getD j 0))) (mKey K) ((knL l).getD j 0) ((dfS (befT K l (knL l) j) (mT K (inf l ((knL l).getD j 0)))).getD q sn0)).length) rfl) qB qA qA ?_
     refine A8 ?_
     have hnx:=nwD_snoc (now:=(mT K (inf l ((knL l).getD j 0)))) (key:=mKey K) (kn:=((knL l).getD j 0)) (S:=(dfS (befT K l (knL l) j) (mT K (inf l ((knL l).getD j 0))))) (i:=q) (by omega)
     exact xc6 (l:=[7,9,10,13]) (fun j=>cond (Nat.beq j 10) 83 (j)) (q+1) ⟨(by omega),(by omega)⟩ (SubR.int rfl (by first | omega | rfl | (dsimp only;omega)) (SubR.int rfl (by first | omega | rfl | (dsimp only;omega)) (SubR.cons rfl (SubR.int rfl (by first | omega | rfl | (dsimp only;omega)) (SubR.cons rfl (SubR.cons rfl (SubR.cons rfl (SubR.int rfl (by first | omega | rfl | (dsimp only;omega)) (SubR.cons rfl (SubR.int rfl (by first | omega | rfl | (dsimp only;omega)) ((SubR.consI rfl (Imp.of (by rw [hnx,<-List.append_assoc];exact congrArg (fun n=>Ent.own (.sl 83 11 0 n)) List.length_append.symm))) (SubR.int rfl (by first | omega | rfl | (dsimp only;omega)) (SubR.int rfl (by first | omega | rfl | (dsimp only;omega)) (SubR.cons rfl (SubR.cons rfl (SubR.cons rfl (SubR.cons rfl (SubR.cons rfl SubR.nil)))))))))))))))))) ((SubKR.consI rfl ImpK.refl) ((SubKR.consI rfl (ImpK.of (by rw [hnx,<-List.append_assoc];exact xa6.symm))) ((SubKR.consI rfl (ImpK.of xa6.symm)) ((SubKR.consI rfl ImpK.refl) SubKR.nil)))) (SupG.val (SupG.val (SupG.val (SupG.val (SupG.val (SupG.val (SupG.val (SupG.val (SupG.own rfl (SupG.val (SupG.own rfl (SupG.val (SupG.val (SupG.val (SupG.own rfl (SupG.val (SupG.own rfl (SupG.val SupG.nil)))))))))))))))))) (SupH.cons rfl (supJL rfl) (SupH.cons rfl (supJ xa5) (SupH.cons rfl (supJ xa5) (SupH.cons rfl (supJL rfl) SupH.nil)))) (lkOk rfl) rfl rfl (fun _ h=>by cases h)
    ·
     refine A13 ?_
     refine C_bF rfl (decide_eq_false (by omega)) ?_
     refine A5 ?_
     refine R2 (d_indexA ar84 (by omega) (by omega) rfl) rfl rfl (RE (xb8 (K) ti44 (rV_lt (by rw [bfL_len];omega)) (by omega) (xi3 (m:=(mT K (inf l ((knL l).getD j 0)))) rfl)) qB qA trivial ?_)
     refine A7 ?_
     have hqe:q=(dfS (befT K l (knL l) j) (mT K (inf l ((knL l).getD j 0)))).length:=by omega
     have hxe:((fcts l (knL l) j++fcK l (knL l) j K)++nwD (mT K (inf l ((knL l).getD j 0))) (mKey K) ((knL l).getD j 0) ((dfS (befT K l (knL l) j) (mT K (inf l ((knL l).getD j 0)))).take q))=fcts l (knL l) j++fcK l (knL l) j (K+1):=by rw [hqe,List.take_length,xq0,List.append_assoc];rfl
     exact kF (K+1) ⟨(by omega),(by omega)⟩ (hg:=(sI (sC (sC (sI ((Sub.consI rfl (Imp.of (by rw [<-hxe]))) (sI (sI (sC (sC (sC (sC (sC Sub.nil))))))))))))) (hh:=(SubK.cons rfl ((SubK.consI rfl (ImpK.of (by rw [<-hxe]))) ((SubK.consI rfl (ImpK.of (by rw [bfL_set (by omega)]))) (SubK.cons rfl SubK.nil)))))
   ·
    refine A6 ?_
    refine C_regY ?_
    refine xf4 (xd8 (wr64 (by omega) (by omega))) qB trivial trivial rfl (xf4 xb9 qA trivial trivial rfl (xp1 ?_))
    have hK3:K=3:=by omega
    subst hK3
    exact kF (j+1) ⟨(by omega),(by omega)⟩ (hg:=((Sub.consI rfl (Imp.of (by rw [xn9]))) (sI (sI (sC (sC (sC (sC (sC Sub.nil))))))))) (hh:=((SubK.consI rfl (ImpK.of (by rw [xn9]))) ((SubK.consI rfl (ImpK.of (by rw [bfL_next]))) (SubK.cons rfl SubK.nil))))
  ·
   refine A6 ?_
   have hje:j=(knL l).length:=by omega
   subst hje
   refine C_give (t:=10) (k:=10) (f:=tFa) (xs:=fctL l) rfl rfl (fun _ h=>h) (xg2 rfl) rfl ?_
   refine A7 ?_
   exact E2 rfl rfl rfl Le.refl Le.refl
end An.S
namespace An
open Go An.S
section
variable {D B:Int} {l:List Ev}
end
section
variable {F:List Ev} {j d:Int}
end
section
variable {D B:Int} {F:List Ev}
end
end An
namespace An.S
open Go Go.Proofs An
instance fi32:FnI Tryz.prog 32:=⟨_,Tryz.func32,by kernel_rfl,rfl⟩
instance fi36:FnI Tryz.prog 36:=⟨_,Tryz.func36,by kernel_rfl,rfl⟩
instance fi37:FnI Tryz.prog 37:=⟨_,Tryz.func37,by kernel_rfl,rfl⟩
instance fi39:FnI Tryz.prog 39:=⟨_,Tryz.func39,by kernel_rfl,rfl⟩
instance fi41:FnI Tryz.prog 41:=⟨_,Tryz.func41,by kernel_rfl,rfl⟩
instance fi42:FnI Tryz.prog 42:=⟨_,Tryz.func42,by kernel_rfl,rfl⟩
instance fi65:FnI Tryz.prog 65:=⟨_,Tryz.func65,by kernel_rfl,rfl⟩
instance fi70:FnI Tryz.prog 70:=⟨_,Tryz.func70,by kernel_rfl,rfl⟩
instance fi71:FnI Tryz.prog 71:=⟨_,Tryz.func71,by kernel_rfl,rfl⟩
theorem c_eHire (kn job day n d p:Int) (hn: -9223372036854775808<=n/\n<=9223372036854775807) (hd: -9223372036854775808<=d/\d<=9223372036854775807) (hp: -9223372036854775808<=p/\p<=9223372036854775807):
  Ct Tryz.prog 42 [tI kn,tI job,tI day,tI n,tI d,tI p] (tEv (eHire kn job day n d p)):=by
 refine Ct.intro Tryz.func42 rfl Tryz.ntmps42 rfl ?_
 intro w F
 refine A2 ?_
 refine RE (x7 (k:=12) (n:=14) (agg:=true) zr29.1 zr29.2 rfl) trivial trivial qA ?_
 refine A9 ?_
 refine R2 (x3 (c_KFrac n d (by omega) (by omega) (by omega) (by omega)) fi69 rfl) rfl rfl ?_
 refine A1 ?_
 refine R2 (x3 (c_KFrac p 1 (by omega) (by omega) (by omega) (by omega)) fi69 rfl) rfl rfl (Rt (xb0 (r:=tS [⟨1,false,tE (.int .u8 1)⟩,⟨1,false,tI kn⟩,⟨1,false,tI job⟩,⟨1,false,tI day⟩,⟨1,false,(tE (.int .i64 0))⟩,⟨4,true,tFr (fr (kfr n d))⟩,⟨4,true,tFr (fr (kfr p 1))⟩,⟨1,false,(tE (.int .i64 0))⟩]) (ts:=[(0,tE (.int .u8 1)),(1,tI kn),(2,tI job),(3,tI day),(5,tFr (fr (kfr n d))),(6,tFr (fr (kfr p 1)))]) bu29 zr29.2 (Bc 0 rfl rfl rfl (Bc 1 rfl rfl rfl (Bc 2 rfl rfl rfl (Bc 3 rfl rfl rfl (Bc 5 rfl rfl rfl (Bc 6 rfl rfl rfl Le.refl))))))) ⟨rfl,rfl,rfl,rfl,rfl,rfl,trivial⟩ ?_)
 refine A4 ?_
 exact EC rfl ⟨_,_,_,_,_,rfl,rfl,ti29,(Le.of rfl)⟩
theorem c_eLeave (kn job day:Int):
  Ct Tryz.prog 36 [tI kn,tI job,tI day] (tEv (eLeave kn job day)):=by
 refine Ct.intro Tryz.func36 rfl Tryz.ntmps36 rfl ?_
 intro w F
 refine A2 ?_
 refine RE (x7 (k:=6) (n:=14) (agg:=true) zr29.1 zr29.2 rfl) trivial trivial qA ?_
 refine A7 ?_
 refine Rt (xb0 (r:=tS [⟨1,false,tE (.int .u8 2)⟩,⟨1,false,tI kn⟩,⟨1,false,tI job⟩,⟨1,false,tI day⟩,⟨1,false,(tE (.int .i64 0))⟩,⟨4,true,(tS [⟨2,true,(tS [⟨1,false,(tE (.bool false))⟩,⟨1,false,(tLm [])⟩])⟩,⟨2,true,(tS [⟨1,false,(tE (.bool false))⟩,⟨1,false,(tLm [])⟩])⟩])⟩,⟨4,true,(tS [⟨2,true,(tS [⟨1,false,(tE (.bool false))⟩,⟨1,false,(tLm [])⟩])⟩,⟨2,true,(tS [⟨1,false,(tE (.bool false))⟩,⟨1,false,(tLm [])⟩])⟩])⟩,⟨1,false,(tE (.int .i64 0))⟩]) (ts:=[(0,tE (.int .u8 2)),(1,tI kn),(2,tI job),(3,tI day)]) bu29 zr29.2 (Bc 0 rfl rfl rfl (Bc 1 rfl rfl rfl (Bc 2 rfl rfl rfl (Bc 3 rfl rfl rfl Le.refl))))) qD ?_
 refine A4 ?_
 exact EC rfl ⟨_,_,_,_,_,rfl,rfl,ti29,(Le.of rfl)⟩
theorem c_eHours (kn job day hi n d:Int) (hn: -9223372036854775808<=n/\n<=9223372036854775807) (hd: -9223372036854775808<=d/\d<=9223372036854775807):
  Ct Tryz.prog 37 [tI kn,tI job,tI day,tI hi,tI n,tI d] (tEv (eHours kn job day hi n d)):=by
 refine Ct.intro Tryz.func37 rfl Tryz.ntmps37 rfl ?_
 intro w F
 refine A2 ?_
 refine RE (x7 (k:=12) (n:=14) (agg:=true) zr29.1 zr29.2 rfl) trivial trivial qA ?_
 refine A10 ?_
 refine R2 (x3 (c_KFrac n d (by omega) (by omega) (by omega) (by omega)) fi69 rfl) rfl rfl (Rt (xb0 (r:=tS [⟨1,false,tE (.int .u8 3)⟩,⟨1,false,tI kn⟩,⟨1,false,tI job⟩,⟨1,false,tI day⟩,⟨1,false,tI hi⟩,⟨4,true,tFr (fr (kfr n d))⟩,⟨4,true,(tS [⟨2,true,(tS [⟨1,false,(tE (.bool false))⟩,⟨1,false,(tLm [])⟩])⟩,⟨2,true,(tS [⟨1,false,(tE (.bool false))⟩,⟨1,false,(tLm [])⟩])⟩])⟩,⟨1,false,(tE (.int .i64 0))⟩]) (ts:=[(0,tE (.int .u8 3)),(1,tI kn),(2,tI job),(3,tI day),(4,tI hi),(5,tFr (fr (kfr n d)))]) bu29 zr29.2 (Bc 0 rfl rfl rfl (Bc 1 rfl rfl rfl (Bc 2 rfl rfl rfl (Bc 3 rfl rfl rfl (Bc 4 rfl rfl rfl (Bc 5 rfl rfl rfl Le.refl))))))) ⟨rfl,rfl,rfl,rfl,rfl,rfl,trivial⟩ ?_)
 refine A4 ?_
 exact EC rfl ⟨_,_,_,_,_,rfl,rfl,ti29,(Le.of rfl)⟩
theorem c_ePause (kn job day hi:Int):
  Ct Tryz.prog 39 [tI kn,tI job,tI day,tI hi] (tEv (ePause kn job day hi)):=by
 refine Ct.intro Tryz.func39 rfl Tryz.ntmps39 rfl ?_
 intro w F
 refine A2 ?_
 refine RE (x7 (k:=8) (n:=14) (agg:=true) zr29.1 zr29.2 rfl) trivial trivial qA ?_
 refine A8 ?_
 refine Rt (xb0 (r:=tS [⟨1,false,tE (.int .u8 5)⟩,⟨1,false,tI kn⟩,⟨1,false,tI job⟩,⟨1,false,tI day⟩,⟨1,false,tI hi⟩,⟨4,true,(tS [⟨2,true,(tS [⟨1,false,(tE (.bool false))⟩,⟨1,false,(tLm [])⟩])⟩,⟨2,true,(tS [⟨1,false,(tE (.bool false))⟩,⟨1,false,(tLm [])⟩])⟩])⟩,⟨4,true,(tS [⟨2,true,(tS [⟨1,false,(tE (.bool false))⟩,⟨1,false,(tLm [])⟩])⟩,⟨2,true,(tS [⟨1,false,(tE (.bool false))⟩,⟨1,false,(tLm [])⟩])⟩])⟩,⟨1,false,(tE (.int .i64 0))⟩]) (ts:=[(0,tE (.int .u8 5)),(1,tI kn),(2,tI job),(3,tI day),(4,tI hi)]) bu29 zr29.2 (Bc 0 rfl rfl rfl (Bc 1 rfl rfl rfl (Bc 2 rfl rfl rfl (Bc 3 rfl rfl rfl (Bc 4 rfl rfl rfl Le.refl)))))) ⟨rfl,rfl,rfl,rfl,rfl,trivial⟩ ?_
 refine A4 ?_
 exact EC rfl ⟨_,_,_,_,_,rfl,rfl,ti29,(Le.of rfl)⟩
theorem c_eVoid (kn nr:Int):
  Ct Tryz.prog 41 [tI kn,tI nr] (tEv (eVoid kn nr)):=by
 refine Ct.intro Tryz.func41 rfl Tryz.ntmps41 rfl ?_
 intro w F
 refine A2 ?_
 refine RE (x7 (k:=4) (n:=14) (agg:=true) zr29.1 zr29.2 rfl) trivial trivial qA ?_
 refine A6 ?_
 refine R3 (xb0 (r:=tS [⟨1,false,tE (.int .u8 7)⟩,⟨1,false,tI kn⟩,⟨1,false,(tE (.int .i64 0))⟩,⟨1,false,(tE (.int .i64 0))⟩,⟨1,false,(tE (.int .i64 0))⟩,⟨4,true,(tS [⟨2,true,(tS [⟨1,false,(tE (.bool false))⟩,⟨1,false,(tLm [])⟩])⟩,⟨2,true,(tS [⟨1,false,(tE (.bool false))⟩,⟨1,false,(tLm [])⟩])⟩])⟩,⟨4,true,(tS [⟨2,true,(tS [⟨1,false,(tE (.bool false))⟩,⟨1,false,(tLm [])⟩])⟩,⟨2,true,(tS [⟨1,false,(tE (.bool false))⟩,⟨1,false,(tLm [])⟩])⟩])⟩,⟨1,false,tI nr⟩]) (ts:=[(0,tE (.int .u8 7)),(1,tI kn),(7,tI nr)]) bu29 zr29.2 (Bc 0 rfl rfl rfl (Bc 1 rfl rfl rfl (Bc 7 rfl rfl rfl Le.refl)))) rfl rfl rfl ?_
 refine A4 ?_
 exact EC rfl ⟨_,_,_,_,_,rfl,rfl,ti29,(Le.of rfl)⟩
def vN (n d:Int):Va:=⟨2,fr (kfr n d),0⟩
def vC (n d:Int):Va:=⟨3,fr (kfr n d),0⟩
theorem xn0 (a b n d:Int) (hn: -9223372036854775808<=n/\n<=9223372036854775807) (hd: -9223372036854775808<=d/\d<=9223372036854775807):
  Ct Tryz.prog 33 [tI a,tI b,tI n,tI d] (tTs ⟨a,b,vN n d⟩):=by
 refine Ct.intro Tryz.func33 rfl Tryz.ntmps33 rfl ?_
 intro w F
 refine A2 ?_
 refine RE (x7 (k:=8) (n:=8) (agg:=true) zr69.1 zr69.2 rfl) trivial trivial qA ?_
 refine A8 ?_
 refine R2 (x3 (c_Num n d (by omega) (by omega) (by omega) (by omega)) fi32 rfl) rfl rfl (R3 (xb0 (r:=tS [⟨1,false,tI a⟩,⟨1,false,tI b⟩,⟨6,true,tVa (vN n d)⟩]) (ts:=[(0,tI a),(1,tI b),(2,tVa (vN n d))]) bu69 zr69.2 (Bc 0 rfl rfl rfl (Bc 1 rfl rfl rfl (Bc 2 rfl rfl rfl Le.refl)))) rfl rfl rfl ?_)
 refine A4 ?_
 exact EC rfl ⟨_,_,_,_,_,rfl,rfl,ti69,(Le.of rfl)⟩
theorem c_cash22 (a b n:Int) (hn: -9223372036854775808<=n/\n<=9223372036854775807):
  Ct Tryz.prog 34 [tI a,tI b,tI n] (tTs ⟨a,b,vC n 1⟩):=by
 refine Ct.intro Tryz.func34 rfl Tryz.ntmps34 rfl ?_
 intro w F
 refine A2 ?_
 refine RE (x7 (k:=6) (n:=8) (agg:=true) zr69.1 zr69.2 rfl) trivial trivial qA ?_
 refine A7 ?_
 refine R2 (x3 (c_Cash n 1 (by omega) (by omega) (by omega) (by omega)) fi70 rfl) rfl rfl (R3 (xb0 (r:=tS [⟨1,false,tI a⟩,⟨1,false,tI b⟩,⟨6,true,tVa (vC n 1)⟩]) (ts:=[(0,tI a),(1,tI b),(2,tVa (vC n 1))]) bu69 zr69.2 (Bc 0 rfl rfl rfl (Bc 1 rfl rfl rfl (Bc 2 rfl rfl rfl Le.refl)))) rfl rfl rfl ?_)
 refine A4 ?_
 exact EC rfl ⟨_,_,_,_,_,rfl,rfl,ti69,(Le.of rfl)⟩
theorem c_SameFact (x y:Fa):
  Ct Tryz.prog 71 [tFa x,tFa y] (tB (decide (x=y))):=by
 refine Ct.intro Tryz.func71 rfl Tryz.ntmps71 rfl ?_
 intro w F
 refine A13 ?_
 refine R2 (d_eqlS) rfl rfl ?_
 refine A1 ?_
 refine RGcaseD (t:=10) rfl (fun h228=> ?_) (fun h228=> ?_)
 ·
  refine A7 ?_
  refine RGcaseD (t:=17) rfl (fun h228_2=> ?_) (fun h228_2=> ?_)
  ·
   refine A7 ?_
   refine RGcaseD (t:=24) rfl (fun h228_3=> ?_) (fun h228_3=> ?_)
   ·
    refine A7 ?_
    refine RGcaseD (t:=31) rfl (fun h228_4=> ?_) (fun h228_4=> ?_)
    ·
     refine A4 ?_
     refine Rg (decide_eq_true h228_4) rfl (d_eqlB Tryz.underlying4) rfl qB ?_
     refine A2 ?_
     refine RGcase (t:=38) rfl (fun h228_5=> ?_) (fun h228_5=> ?_)
     ·
      refine A4 ?_
      refine Rg h228_5 rfl (x3 (c_SameValue _ _) fi95 rfl) rfl qB ?_
      refine A5 ?_
      exact E1 rfl rfl (Le.bool (by obtain ⟨a1,a2,a3,a4,a5,a6⟩:=x;obtain ⟨b1,b2,b3,b4,b5,b6⟩:=y;simp only [Fa.mk.injEq] at*;simp_all <;> omega))
     ·
      refine A10 ?_
      exact E1 rfl rfl (Le.bool (by obtain ⟨a1,a2,a3,a4,a5,a6⟩:=x;obtain ⟨b1,b2,b3,b4,b5,b6⟩:=y;simp only [Fa.mk.injEq] at*;simp_all <;> omega))
    ·
     refine A17 ?_
     exact E1 rfl rfl (Le.bool (by obtain ⟨a1,a2,a3,a4,a5,a6⟩:=x;obtain ⟨b1,b2,b3,b4,b5,b6⟩:=y;simp only [Fa.mk.injEq] at*;simp_all <;> omega))
   ·
    refine A18 ?_
    refine A6 ?_
    exact E1 rfl rfl (Le.bool (by obtain ⟨a1,a2,a3,a4,a5,a6⟩:=x;obtain ⟨b1,b2,b3,b4,b5,b6⟩:=y;simp only [Fa.mk.injEq] at*;simp_all <;> omega))
  ·
   refine A18 ?_
   refine A13 ?_
   exact E1 rfl rfl (Le.bool (by obtain ⟨a1,a2,a3,a4,a5,a6⟩:=x;obtain ⟨b1,b2,b3,b4,b5,b6⟩:=y;simp only [Fa.mk.injEq] at*;simp_all <;> omega))
 ·
  refine A18 ?_
  refine A18 ?_
  refine A2 ?_
  exact E1 rfl rfl (Le.bool (by obtain ⟨a1,a2,a3,a4,a5,a6⟩:=x;obtain ⟨b1,b2,b3,b4,b5,b6⟩:=y;simp only [Fa.mk.injEq] at*;simp_all <;> omega))
theorem xv3 (x y:Ev):
  Ct Tryz.prog 65 [tEv x,tEv y] (tB (decide (x=y))):=by
 refine Ct.intro Tryz.func65 rfl Tryz.ntmps65 rfl ?_
 intro w F
 refine A15 ?_
 refine RGcaseD (t:=10) rfl (fun h478=> ?_) (fun h478=> ?_)
 ·
  refine A7 ?_
  refine RGcaseD (t:=17) rfl (fun h478_2=> ?_) (fun h478_2=> ?_)
  ·
   refine A7 ?_
   refine RGcaseD (t:=24) rfl (fun h478_3=> ?_) (fun h478_3=> ?_)
   ·
    refine A7 ?_
    refine RGcaseD (t:=31) rfl (fun h478_4=> ?_) (fun h478_4=> ?_)
    ·
     refine A7 ?_
     refine RGcaseD (t:=38) rfl (fun h478_5=> ?_) (fun h478_5=> ?_)
     ·
      refine A4 ?_
      refine Rg (decide_eq_true h478_5) rfl (x3 (xu1 _ _) fi102 rfl) rfl qB ?_
      refine A2 ?_
      refine RGcaseD (t:=45) rfl (fun h478_6=> ?_) (fun h478_6=> ?_)
      ·
       refine A4 ?_
       refine Rg (decide_eq_true h478_6) rfl (x3 (xu1 _ _) fi102 rfl) rfl qB ?_
       refine A2 ?_
       refine RGcaseD (t:=52) rfl (fun h478_7=> ?_) (fun h478_7=> ?_)
       ·
        refine A1 ?_
        refine xb2 (decide_eq_true h478_7) rfl rfl (0) ti3 rfl rfl rfl (At.g 7 rfl rfl) rfl ?_
        refine A1 ?_
        refine xb2 (decide_eq_true h478_7) rfl rfl (0) ti3 rfl rfl rfl (At.g 7 rfl rfl) rfl ?_
        refine A6 ?_
        exact E1 rfl rfl (Le.bool (by obtain ⟨a1,a2,a3,a4,a5,a6,a7,a8⟩:=x;obtain ⟨b1,b2,b3,b4,b5,b6,b7,b8⟩:=y;simp only [Ev.mk.injEq] at*;simp_all <;> omega))
       ·
        refine A10 ?_
        exact E1 rfl rfl (Le.bool (by obtain ⟨a1,a2,a3,a4,a5,a6,a7,a8⟩:=x;obtain ⟨b1,b2,b3,b4,b5,b6,b7,b8⟩:=y;simp only [Ev.mk.injEq] at*;simp_all <;> omega))
      ·
       refine A17 ?_
       exact E1 rfl rfl (Le.bool (by obtain ⟨a1,a2,a3,a4,a5,a6,a7,a8⟩:=x;obtain ⟨b1,b2,b3,b4,b5,b6,b7,b8⟩:=y;simp only [Ev.mk.injEq] at*;simp_all <;> omega))
     ·
      refine A18 ?_
      refine A6 ?_
      exact E1 rfl rfl (Le.bool (by obtain ⟨a1,a2,a3,a4,a5,a6,a7,a8⟩:=x;obtain ⟨b1,b2,b3,b4,b5,b6,b7,b8⟩:=y;simp only [Ev.mk.injEq] at*;simp_all <;> omega))
    ·
     refine A18 ?_
     refine A13 ?_
     exact E1 rfl rfl (Le.bool (by obtain ⟨a1,a2,a3,a4,a5,a6,a7,a8⟩:=x;obtain ⟨b1,b2,b3,b4,b5,b6,b7,b8⟩:=y;simp only [Ev.mk.injEq] at*;simp_all <;> omega))
   ·
    refine A18 ?_
    refine A18 ?_
    refine A2 ?_
    exact E1 rfl rfl (Le.bool (by obtain ⟨a1,a2,a3,a4,a5,a6,a7,a8⟩:=x;obtain ⟨b1,b2,b3,b4,b5,b6,b7,b8⟩:=y;simp only [Ev.mk.injEq] at*;simp_all <;> omega))
  ·
   refine A18 ?_
   refine A18 ?_
   refine A9 ?_
   exact E1 rfl rfl (Le.bool (by obtain ⟨a1,a2,a3,a4,a5,a6,a7,a8⟩:=x;obtain ⟨b1,b2,b3,b4,b5,b6,b7,b8⟩:=y;simp only [Ev.mk.injEq] at*;simp_all <;> omega))
 ·
  refine A18 ?_
  refine A18 ?_
  refine A16 ?_
  exact E1 rfl rfl (Le.bool (by obtain ⟨a1,a2,a3,a4,a5,a6,a7,a8⟩:=x;obtain ⟨b1,b2,b3,b4,b5,b6,b7,b8⟩:=y;simp only [Ev.mk.injEq] at*;simp_all <;> omega))
theorem xv7 (l:List Fa) (k:Nat) (hk:k < l.length):l.take (k+1)=l.take k++[l.getD k fa0]:=by
 rw [List.take_succ_eq_append_getElem hk,List.getD_eq_getElem?_getD,List.getElem?_eq_getElem hk];rfl
theorem xv6 (l:List Ev) (k:Nat) (hk:k < l.length):l.take (k+1)=l.take k++[l.getD k ev0]:=by
 rw [List.take_succ_eq_append_getElem hk,List.getD_eq_getElem?_getD,List.getElem?_eq_getElem hk];rfl
theorem c_SameFacts (xs ys:List Fa):
  Ct Tryz.prog 35 [tL 11 true tFa xs,tL 11 true tFa ys] (tB (decide (xs=ys))):=by
 refine Ct.intro Tryz.func35 rfl Tryz.ntmps35 rfl ?_
 intro w F
 refine xg9 (s:=0) rfl (fun hl0=> ?_)
 refine A15 ?_
 refine x6 rfl (fun h238=> ?_) (fun h238=> ?_)
 ·
  refine A7 ?_
  exact E1 rfl rfl (Le.bool (decide_eq_false (fun h=>by rw [h] at h238;omega)).symm)
 ·
  have hll:xs.length=ys.length:=by omega
  refine A9 ?_
  refine cL (fun (i:Nat)=>i<=xs.length/\xs.take i=ys.take i) (fun (i:Nat)=>uV (uV (uV uN 0 (tL 11 true tFa xs)) 1 (tL 11 true tFa ys)) 5 (tI i)) (fun (i:Nat)=>fun _=>none) [] (fun (i:Nat)=>xs.length - i) (0) ⟨Nat.zero_le _,rfl⟩ ?_
  intro i hI
  obtain ⟨hi,ht⟩:=hI
  refine A9 ?_
  refine x6 rfl (fun h241=> ?_) (fun h241=> ?_)
  ·
   refine A8 ?_
   refine R2 (x4 sl35 i (by omega) (gD (d:=fa0) (by omega))) rfl rfl ?_
   refine A3 ?_
   refine R2 (x4 sl35 i (by omega) (gD (d:=fa0) (by omega))) rfl rfl ?_
   refine A1 ?_
   refine R2 (x3 (c_SameFact _ _) fi71 rfl) rfl rfl ?_
   refine A3 ?_
   refine C_ifn rfl (fun h242=> ?_) (fun h242=> ?_)
   ·
    refine A11 ?_
    exact E1 rfl rfl (Le.bool (decide_eq_false (fun h=>by rw [h] at h242;exact (h242 rfl))).symm)
   ·
    refine A8 ?_
    exact kF (i+1) ⟨⟨by omega,by rw [xv7 xs i (by omega),xv7 ys i (by omega),ht,show xs.getD i fa0=ys.getD i fa0 from h242]⟩,(by omega)⟩
  ·
   refine A11 ?_
   exact E1 rfl rfl (Le.bool (decide_eq_true (by rw [show i=xs.length by omega,List.take_length,hll,List.take_length] at ht;exact ht)).symm)
theorem c_SameEvents (xs ys:List Ev):
  Ct Tryz.prog 28 [tL 14 true tEv xs,tL 14 true tEv ys] (tB (decide (xs=ys))):=by
 refine Ct.intro Tryz.func28 rfl Tryz.ntmps28 rfl ?_
 intro w F
 refine xg9 (s:=0) rfl (fun hl0=> ?_)
 refine A15 ?_
 refine x6 rfl (fun h489=> ?_) (fun h489=> ?_)
 ·
  refine A7 ?_
  exact E1 rfl rfl (Le.bool (decide_eq_false (fun h=>by rw [h] at h489;omega)).symm)
 ·
  have hll:xs.length=ys.length:=by omega
  refine A9 ?_
  refine cL (fun (i:Nat)=>i<=xs.length/\xs.take i=ys.take i) (fun (i:Nat)=>uV (uV (uV uN 0 (tL 14 true tEv xs)) 1 (tL 14 true tEv ys)) 5 (tI i)) (fun (i:Nat)=>fun _=>none) [] (fun (i:Nat)=>xs.length - i) (0) ⟨Nat.zero_le _,rfl⟩ ?_
  intro i hI
  obtain ⟨hi,ht⟩:=hI
  refine A9 ?_
  refine x6 rfl (fun h492=> ?_) (fun h492=> ?_)
  ·
   refine A8 ?_
   refine R2 (x4 sl22 i (by omega) (gD (d:=ev0) (by omega))) rfl rfl ?_
   refine A3 ?_
   refine R2 (x4 sl22 i (by omega) (gD (d:=ev0) (by omega))) rfl rfl ?_
   refine A1 ?_
   refine R2 (x3 (xv3 _ _) fi65 rfl) rfl rfl ?_
   refine A3 ?_
   refine C_ifn rfl (fun h493=> ?_) (fun h493=> ?_)
   ·
    refine A11 ?_
    exact E1 rfl rfl (Le.bool (decide_eq_false (fun h=>by rw [h] at h493;exact (h493 rfl))).symm)
   ·
    refine A8 ?_
    exact kF (i+1) ⟨⟨by omega,by rw [xv6 xs i (by omega),xv6 ys i (by omega),ht,show xs.getD i ev0=ys.getD i ev0 from h493]⟩,(by omega)⟩
  ·
   refine A11 ?_
   exact E1 rfl rfl (Le.bool (decide_eq_true (by rw [show i=xs.length by omega,List.take_length,hll,List.take_length] at ht;exact ht)).symm)
instance fi9:FnI Tryz.prog 9:=⟨_,Tryz.func9,by kernel_rfl,rfl⟩
instance fi14:FnI Tryz.prog 14:=⟨_,Tryz.func14,by kernel_rfl,rfl⟩
instance fi17:FnI Tryz.prog 17:=⟨_,Tryz.func17,by kernel_rfl,rfl⟩
instance fi29:FnI Tryz.prog 29:=⟨_,Tryz.func29,by kernel_rfl,rfl⟩
instance fi30:FnI Tryz.prog 30:=⟨_,Tryz.func30,by kernel_rfl,rfl⟩
instance fi31:FnI Tryz.prog 31:=⟨_,Tryz.func31,by kernel_rfl,rfl⟩
instance fi33:FnI Tryz.prog 33:=⟨_,Tryz.func33,by kernel_rfl,rfl⟩
instance fi34:FnI Tryz.prog 34:=⟨_,Tryz.func34,by kernel_rfl,rfl⟩
instance fi35:FnI Tryz.prog 35:=⟨_,Tryz.func35,by kernel_rfl,rfl⟩
theorem c_sameTv (u v:List Tst) (e:u=v):Ct Tryz.prog 17 [tL 8 true tTs u,tL 8 true tTs v] (tB true):=by
 have h:=c_SameSteps u v
 rw [decide_eq_true e] at h;exact h
theorem c_sameIv (u v:List Int) (e:u=v):Ct Tryz.prog 30 [tL 1 false tI u,tL 1 false tI v] (tB true):=by
 have h:=c_SameInts u v
 rw [decide_eq_true e] at h;exact h
theorem c_sameFa (u v:List Fa) (e:u=v):Ct Tryz.prog 35 [tL 11 true tFa u,tL 11 true tFa v] (tB true):=by
 have h:=c_SameFacts u v
 rw [decide_eq_true e] at h;exact h
def exE:List Ev:=[eHire 100 1 100 1 1 50,eHours 250 1 200 300 1 2,ePause 300 1 220 230,eVoid 400 2,eLeave 500 1 500]
theorem exE_ok:GR 2 100 exE where
 len:=by decide
 ok:=fun i hi=>xf2.1 (by
  have key: ∀i:Fin 5,eRight exE i.val=true:=by decide+kernel
  exact key ⟨i,hi⟩)
 fr:=fun e he=>by
  have f1:frB 2 100 (fr (kfr 1 1)):=⟨2,by decide,by decide+kernel⟩
  have f2:frB 2 100 (fr (kfr 50 1)):=⟨100,by decide,by decide+kernel⟩
  have f3:frB 2 100 (fr (kfr 1 2)):=⟨1,by decide,by decide+kernel⟩
  simp only [exE,List.mem_cons,List.not_mem_nil,or_false] at he
  rcases he with rfl | rfl | rfl | rfl | rfl
  ·exact ⟨fun _=>f1,fun _=>f2⟩
  ·exact ⟨fun _=>f3,fun h=>by cases h⟩
  ·exact ⟨fun h=>(by cases h),fun h=>by cases h⟩
  ·exact ⟨fun h=>(by cases h),fun h=>by cases h⟩
  ·exact ⟨fun h=>(by cases h),fun h=>by cases h⟩
 d0:=by decide
 d1:=by decide
 b0:=by decide
 b1:=by decide
theorem xf9 {xs l:List Int} (h:l.Pairwise (· < ·)) (h1: ∀x∈l,x∈xs) (h2: ∀x∈xs,x∈l):brd xs=l:=pw_ext (xh2 xs).1 h fun x=>((xh2 xs).2 x).trans ⟨h2 x,h1 x⟩
theorem mT_ev {K:Nat} {F:List Ev} {ds:List Int} {t:List Tst} (h:kD K F=ds) (e:pst [] (segL (kG K F) (ds++[65536]))=t):mT K F=t:=by rw [mT,h,e]
def exA:List Ev:=[eHire 100 1 100 1 1 50]
def exB:List Ev:=[eHire 100 1 100 1 1 50,eHours 250 1 200 300 1 2]
def exC:List Ev:=[eHire 100 1 100 1 1 50,eHours 250 1 200 300 1 2,ePause 300 1 220 230]
def exD:List Ev:=[eHire 100 1 100 1 1 50,ePause 300 1 220 230,eVoid 400 2]
def exG:List Ev:=[eHire 100 1 100 1 1 50,ePause 300 1 220 230,eVoid 400 2,eLeave 500 1 500]
theorem exI:inf exE 249=exA/\inf exE 250=exB/\inf exE 300=exC/\inf exE 400=exD/\inf exE 500=exG:=by decide+kernel
def t249:List Tst:=[⟨100,65536,vN 1 1⟩]
def t250:List Tst:=[⟨100,200,vN 1 1⟩,⟨200,300,vN 1 2⟩,⟨300,65536,vN 1 1⟩]
def t300:List Tst:=[⟨100,200,vN 1 1⟩,⟨200,220,vN 1 2⟩,⟨220,230,vN 0 1⟩,⟨230,300,vN 1 2⟩,⟨300,65536,vN 1 1⟩]
def t400:List Tst:=[⟨100,220,vN 1 1⟩,⟨220,230,vN 0 1⟩,⟨230,65536,vN 1 1⟩]
def t500:List Tst:=[⟨100,220,vN 1 1⟩,⟨220,230,vN 0 1⟩,⟨230,500,vN 1 1⟩]
def p300:List Tst:=[⟨100,220,vC 50 1⟩,⟨220,230,vC 0 1⟩,⟨230,65536,vC 50 1⟩]
def p500:List Tst:=[⟨100,220,vC 50 1⟩,⟨220,230,vC 0 1⟩,⟨230,500,vC 50 1⟩]
theorem exT1:mT 1 (inf exE 249)=t249:=by
 rw [exI.1];exact mT_ev (ds:=[100]) (xf9 (by decide) (by decide+kernel) (by decide+kernel)) (by decide+kernel)
theorem exT2:mT 1 (inf exE 250)=t250:=by
 rw [exI.2.1];exact mT_ev (ds:=[100,200,300]) (xf9 (by decide) (by decide+kernel) (by decide+kernel)) (by decide+kernel)
theorem exT3:mT 1 (inf exE 300)=t300:=by
 rw [exI.2.2.1];exact mT_ev (ds:=[100,200,220,230,300]) (xf9 (by decide) (by decide+kernel) (by decide+kernel)) (by decide+kernel)
theorem exT4:mT 1 (inf exE 400)=t400:=by
 rw [exI.2.2.2.1];exact mT_ev (ds:=[100,220,230]) (xf9 (by decide) (by decide+kernel) (by decide+kernel)) (by decide+kernel)
theorem exT5:mT 1 (inf exE 500)=t500:=by
 rw [exI.2.2.2.2];exact mT_ev (ds:=[100,220,230,500]) (xf9 (by decide) (by decide+kernel) (by decide+kernel)) (by decide+kernel)
theorem exP3:mT 2 (inf exE 300)=p300:=by
 rw [exI.2.2.1];exact mT_ev (ds:=[100,200,220,230,300]) (xf9 (by decide) (by decide+kernel) (by decide+kernel)) (by decide+kernel)
theorem exP4:mT 2 (inf exE 400)=p300:=by
 rw [exI.2.2.2.1];exact mT_ev (ds:=[100,220,230]) (xf9 (by decide) (by decide+kernel) (by decide+kernel)) (by decide+kernel)
theorem exP5:mT 2 (inf exE 500)=p500:=by
 rw [exI.2.2.2.2];exact mT_ev (ds:=[100,220,230,500]) (xf9 (by decide) (by decide+kernel) (by decide+kernel)) (by decide+kernel)
theorem exC0:mT 0 (inf exE 300)=[]/\mT 0 (inf exE 400)=[]/\mT 0 (inf exE 500)=[]:=by
 rw [exI.2.2.1,exI.2.2.2.1,exI.2.2.2.2]
 exact ⟨mT_ev (ds:=[]) (xf9 (by decide) (by decide+kernel) (by decide+kernel)) (by decide+kernel),mT_ev (ds:=[]) (xf9 (by decide) (by decide+kernel) (by decide+kernel)) (by decide+kernel),mT_ev (ds:=[]) (xf9 (by decide) (by decide+kernel) (by decide+kernel)) (by decide+kernel)⟩
theorem df_ev {a b:List Tst} {ds:List Int} {S:List Sn} (ha:tRight a=true) (hb:tRight b=true) (hd:bds [a,b]=ds) (e:mrg (cvS (segL (gdf a b) ds))=S):dfS a b=S:=by rw [dfS,mkS_asc (dfT_asc ha hb),dfT_map,hd,e]
theorem exD1:dfS t300 t400=[⟨200,220⟩,⟨230,300⟩]:=df_ev (ds:=[100,200,220,230,300,65536]) (by decide+kernel) (by decide+kernel) (xf9 (by decide) (by decide+kernel) (by decide+kernel)) (by decide+kernel)
theorem exD2:dfS t400 t500=[⟨500,65536⟩]:=df_ev (ds:=[100,220,230,500,65536]) (by decide+kernel) (by decide+kernel) (xf9 (by decide) (by decide+kernel) (by decide+kernel)) (by decide+kernel)
theorem exD3:dfS p300 p300=[]:=df_ev (ds:=[100,220,230,65536]) (by decide+kernel) (by decide+kernel) (xf9 (by decide) (by decide+kernel) (by decide+kernel)) (by decide+kernel)
theorem exD4:dfS p300 p500=[⟨500,65536⟩]:=df_ev (ds:=[100,220,230,500,65536]) (by decide+kernel) (by decide+kernel) (xf9 (by decide) (by decide+kernel) (by decide+kernel)) (by decide+kernel)
theorem exD0:dfS ([]:List Tst) []=[]:=df_ev (ds:=[]) (by decide+kernel) (by decide+kernel) (xf9 (by decide) (by decide+kernel) (by decide+kernel)) (by decide+kernel)
theorem exK:knL exE=[100,250,300,400,500]:=xf9 (by decide) (by decide+kernel) (by decide+kernel)
def exW:List Fa:=[⟨mKey 1,200,220,400,false,vN 1 1⟩,⟨mKey 1,230,300,400,false,vN 1 1⟩,⟨mKey 1,500,65536,500,true,An.va0⟩,⟨mKey 2,500,65536,500,true,An.va0⟩]
def ks5:List Int:=[100,250,300,400,500]
theorem fcJ_ev {l:List Ev} {j K:Nat} {kn kb:Int} {now bef:List Tst} {S:List Sn} (hj:0 < j) (h1:ks5.getD j 0=kn) (h0:ks5.getD (j - 1) 0=kb) (h2:mT K (inf l kn)=now) (h3:mT K (inf l kb)=bef) (h4:dfS bef now=S):fcJ l ks5 j K=nwD now (mKey K) kn S:=by
 rw [fcJ,befT,if_neg (by omega),h1,h0,h2,h3,h4]
theorem nwD_nil {now:List Tst} {key:ByteArray} {kn:Int}:nwD now key kn []=[]:=List.flatMap_nil
theorem exFc:(fctL exE).filter (fun f=>decide (400<=f.kn))=exW:=by
 have e0:fctL exE=fcts exE ks5 5:=by rw [fctL,exK];rfl
 have e1:fcts exE ks5 5=fcts exE ks5 3++fcK exE ks5 3 3++fcK exE ks5 4 3:=by rw [xn9,xn9]
 have e2:(fcts exE ks5 3).filter (fun f=>decide (400<=f.kn))=[]:=List.filter_eq_nil_iff.2 fun f hf hh=>by
  obtain ⟨j,hj,K,hK,hf⟩:=fcts_mem.1 hf
  have h1:=((exE_ok.fcJ ks5 j K).1 f hf).2.1
  have h2: ∀j:Fin 3,ks5.getD j.val 0<=300:=by decide
  have h3:=h2 ⟨j,hj⟩
  have h4:=of_decide_eq_true hh
  simp only at h3
  omega
 have f30:fcJ exE ks5 3 0=[]:=(fcJ_ev (l:=exE) (j:=3) (K:=0) (kn:=400) (kb:=300) (now:=[]) (bef:=[]) (S:=[]) (by decide) rfl rfl exC0.2.1 exC0.1 exD0).trans nwD_nil
 have f31:=fcJ_ev (l:=exE) (j:=3) (K:=1) (kn:=400) (kb:=300) (now:=t400) (bef:=t300) (S:=[⟨200,220⟩,⟨230,300⟩]) (by decide) rfl rfl exT4 exT3 exD1
 have f32:fcJ exE ks5 3 2=[]:=(fcJ_ev (l:=exE) (j:=3) (K:=2) (kn:=400) (kb:=300) (now:=p300) (bef:=p300) (S:=[]) (by decide) rfl rfl exP4 exP3 exD3).trans nwD_nil
 have f40:fcJ exE ks5 4 0=[]:=(fcJ_ev (l:=exE) (j:=4) (K:=0) (kn:=500) (kb:=400) (now:=[]) (bef:=[]) (S:=[]) (by decide) rfl rfl exC0.2.2 exC0.2.1 exD0).trans nwD_nil
 have f41:=fcJ_ev (l:=exE) (j:=4) (K:=1) (kn:=500) (kb:=400) (now:=t500) (bef:=t400) (S:=[⟨500,65536⟩]) (by decide) rfl rfl exT5 exT4 exD2
 have f42:=fcJ_ev (l:=exE) (j:=4) (K:=2) (kn:=500) (kb:=400) (now:=p500) (bef:=p300) (S:=[⟨500,65536⟩]) (by decide) rfl rfl exP5 exP4 exD4
 have e3: ∀j,fcK exE ks5 j 3=fcJ exE ks5 j 0++fcJ exE ks5 j 1++fcJ exE ks5 j 2:=fun j=>by rw [xq0,xq0,xq0];rfl
 rw [e0,e1,List.filter_append,List.filter_append,e2,e3 3,e3 4,f30,f31,f32,f40,f41,f42]
 decide+kernel
theorem exIn:infN exE 400=[1,3,4]:=by decide+kernel
theorem c_exT (K:Nat) (hK:K < 3) (kn:Int) (t:List Tst) (e:mT K (inf exE kn)=t):Ct Tryz.prog 14 [tL 14 true tEv exE,tSt (mKey K),tI kn] (tT [tL 8 true tTs t,tI 0]):=by
 rw [<-e];exact c_TimelineK exE kn exE_ok K hK
theorem c_InForceG {D B:Int} {l:List Ev} (h:GR D B l) (kn:Int):Ct Tryz.prog 31 [tL 14 true tEv l,tI kn] (tL 1 false tI (infN l kn)):=by
 have h1:=c_InForce l kn (gr_dig h)
 rw [if_pos (gr_val h)] at h1;exact h1
theorem c_exI:Ct Tryz.prog 31 [tL 14 true tEv exE,tI 400] (tL 1 false tI [1,3,4]):=by
 rw [<-exIn];exact c_InForceG exE_ok 400
theorem c_FactsG {D B:Int} {l:List Ev} (h:GR D B l) (hl:l.length<=16):Ct Tryz.prog 9 [tL 14 true tEv l] (tT [tL 11 true tFa (fctL l),tI 0]):=c_Facts l h (h.rcd hl).1
theorem flt4_next {fs:List Fa} {i:Nat} (hi:i < fs.length):(fs.take (i+1)).filter (fun f=>decide (400<=f.kn))=(fs.take i).filter (fun f=>decide (400<=f.kn))++if 400<=(fs.getD i fa0).kn then [fs.getD i fa0] else []:=by
 rw [List.take_succ_eq_append_getElem hi,List.filter_append,List.getD_eq_getElem?_getD,List.getElem?_eq_getElem hi,List.filter_cons,List.filter_nil]
 simp only [Option.getD_some,decide_eq_true_eq]
theorem c_example22:
  Ct Tryz.prog 29 [] (tL 14 true tEv exE):=by
 refine Ct.intro Tryz.func29 rfl Tryz.ntmps29 rfl ?_
 intro w F
 refine A7 ?_
 refine Rt (x3 (c_eHire 100 1 100 1 1 50 (by decide) (by decide) (by decide)) fi42 rfl) ⟨rfl,rfl,rfl,rfl,rfl,rfl,trivial⟩ (Rt (x3 (c_eHours 250 1 200 300 1 2 (by decide) (by decide)) fi37 rfl) ⟨rfl,rfl,rfl,rfl,rfl,rfl,trivial⟩ (Rt (x3 (c_ePause 300 1 220 230) fi39 rfl) qD (R2 (x3 (c_eVoid 400 2) fi41 rfl) rfl rfl (R3 (x3 (c_eLeave 500 1 500) fi36 rfl) rfl rfl rfl (Rt (xb5 (n:=5) (f:=tEv) exE Tryz.underlying22 el29 zf29 rfl (fun _=>inferInstance) rfl rfl rfl) ⟨rfl,rfl,rfl,rfl,rfl,trivial⟩ ?_)))))
 refine A4 ?_
 exact E1 rfl rfl Le.refl
theorem c_awake22:
  Ct Tryz.prog 7 [] (tB true):=by
 have hfr:=(exE_ok.rcd (by decide)).1
 refine Ct.intro Tryz.func7 rfl Tryz.ntmps7 rfl ?_
 intro w F
 refine A7 ?_
 refine R0 (x3 c_example22 fi29 rfl) ?_
 refine A7 ?_
 refine R3 (x3 (c_exT 1 (by decide) 249 t249 exT1) fi14 rfl) rfl rfl rfl ?_
 refine A10 ?_
 refine R3 (x3 (c_exT 1 (by decide) 250 t250 exT2) fi14 rfl) rfl rfl rfl ?_
 refine A10 ?_
 refine R3 (x3 (c_exT 1 (by decide) 400 t400 exT4) fi14 rfl) rfl rfl rfl ?_
 refine A10 ?_
 refine R3 (x3 (c_exT 1 (by decide) 500 t500 exT5) fi14 rfl) rfl rfl rfl ?_
 refine A10 ?_
 refine R3 (x3 (c_exT 2 (by decide) 300 p300 exP3) fi14 rfl) rfl rfl rfl ?_
 refine A10 ?_
 refine R1 (x3 (c_FactsG exE_ok (by decide)) fi9 rfl) rfl ?_
 refine A18 ?_
 refine A5 ?_
 refine Rg (decide_eq_false (by omega)) rfl xb9 rfl qA (Rg (decide_eq_false (by omega)) rfl (x3 c_exI fi31 rfl) rfl qB (Rg (decide_eq_false (by omega)) rfl (xb5 (n:=3) (f:=fun n:Int=>tI n) [1,3,4] Tryz.underlying43 el3 zf3 rfl (fun _=>inferInstance) rfl rfl rfl) rfl qC (Rg (decide_eq_false (by omega)) rfl (x3 (c_sameIv _ _ rfl) fi30 rfl) rfl qB (Rg (decide_eq_false (by omega)) rfl d_not rfl qA (R2 (xc7 (decide_eq_false (by omega))) rfl rfl ?_)))))
 refine A7 ?_
 refine RE (xe3 (k:=15) 53 11 true rfl (fun h=>by cases h)) trivial trivial qA ?_
 refine A11 ?_
 refine cL (fun (i:Nat)=>i<=(fctL exE).length) (fun (i:Nat)=>uV (uV (uV (uO (uV (uV (uV (uV (uV (uV uN 2 (tI 65536)) 3 (tL 8 true tTs t249)) 5 (tL 8 true tTs t250)) 7 (tL 8 true tTs t400)) 9 (tL 8 true tTs t500)) 11 (tL 8 true tTs p300)) 15 (.sl 15 11 0 (((fctL exE).take i).filter fun f=>decide (400<=f.kn)).length)) 70 (tL 11 true tFa (fctL exE))) 71 (tI (fctL exE).length)) 72 (tI i)) (fun (i:Nat)=>uK uN 15 53 11 true (rV tFa (((fctL exE).take i).filter fun f=>decide (400<=f.kn)))) [15] (fun (i:Nat)=>(fctL exE).length - i) (0) (Nat.zero_le _) ?_
 intro i hI
 have hxl:(((fctL exE).take i).filter fun f=>decide (400<=f.kn)).length<=i:=by have:=List.length_filter_le (fun f:Fa=>decide (400<=f.kn)) ((fctL exE).take i);rw [List.length_take] at this;omega
 have hnx:=fun hh=>flt4_next (fs:=(fctL exE)) (i:=i) hh
 refine A6 ?_
 refine x6 rfl (fun h76=> ?_) (fun h76=> ?_)
 ·
  refine A6 ?_
  refine R2 (x4 sl35 (i) (by omega) (gD (l:=(fctL exE)) (n:=i) (d:=fa0) (by omega))) rfl rfl ?_
  refine A1 ?_
  refine RE (x7 (k:=17) (n:=11) (agg:=true) zr53.1 zr53.2 rfl) trivial trivial qA ?_
  refine A10 ?_
  refine x6 rfl (fun h77=> ?_) (fun h77=> ?_)
  ·
   refine A3 ?_
   refine R1 (xb5 (n:=1) (f:=tFa) [((fctL exE).getD i fa0)] Tryz.underlying35 el53 zf53 rfl (fun _=>inferInstance) rfl rfl rfl) rfl (RE (xk5 (k:=15) (k':=82) (f:=tFa) (((fctL exE).take i).filter fun f=>decide (400<=f.kn)) ((fctL exE).getD i fa0) Tryz.underlying35 el53 zf53 rfl rfl (fun _=>inferInstance) rfl ⟨by omega,by omega⟩ rfl) qB qA qA ?_)
   refine A8 ?_
   have hnx:=hnx (by omega)
   rw [if_pos (by omega)] at hnx
   exact xc6 (l:=[15]) (fun j=>cond (Nat.beq j 15) 82 (j)) (i+1) ⟨(by omega),(by omega)⟩ (SubR.int rfl (by first | omega | rfl | (dsimp only;omega)) (SubR.int rfl (by first | omega | rfl | (dsimp only;omega)) (SubR.cons rfl ((SubR.consI rfl (Imp.of (by rw [hnx,List.length_append];rfl))) (SubR.cons rfl (SubR.cons rfl (SubR.cons rfl (SubR.cons rfl (SubR.cons rfl (SubR.int rfl (by first | omega | rfl | (dsimp only;omega)) SubR.nil)))))))))) ((SubKR.consI rfl (ImpK.of (by rw [hnx];exact xa6.symm))) SubKR.nil) (SupG.val (SupG.val (SupG.val (SupG.own rfl (SupG.val (SupG.val (SupG.val (SupG.val (SupG.val (SupG.val SupG.nil)))))))))) (SupH.cons rfl (supJ xa5) SupH.nil) (lkOk rfl) rfl rfl (fun _ h=>by cases h)
  ·
   refine A7 ?_
   have hnx:=hnx (by omega)
   rw [if_neg (by omega),List.append_nil] at hnx
   exact kF (i+1) ⟨(by omega),(by omega)⟩ (hg:=(sI (sI (sC ((Sub.consI rfl (Imp.of (by rw [hnx]))) (sC (sC (sC (sC (sC (sI Sub.nil))))))))))) (hh:=((SubK.consI rfl (ImpK.of (by rw [hnx]))) SubK.nil))
 ·
  refine A6 ?_
  have hfe:(((fctL exE).take i).filter fun f=>decide (400<=f.kn))=exW:=by rw [show i=(fctL exE).length by omega,List.take_length];exact exFc
  refine C_give (t:=15) (k:=15) (f:=tFa) (xs:=(((fctL exE).take i).filter fun f=>decide (400<=f.kn))) rfl rfl (fun _ h=>h) (xg2 rfl) rfl ?_
  refine A1 ?_
  refine R2 (x3 (c_Num 1 1 (by decide) (by decide) (by decide) (by decide)) fi32 rfl) rfl rfl (Rt (xb0 (r:=tS [⟨1,false,tSt (mKey 1)⟩,⟨1,false,tI 200⟩,⟨1,false,tI 220⟩,⟨1,false,tI 400⟩,⟨1,false,(tE (.bool false))⟩,⟨6,true,tVa (vN 1 1)⟩]) (ts:=[(0,tSt (mKey 1)),(1,tI 200),(2,tI 220),(3,tI 400),(5,tVa (vN 1 1))]) bu53 zr53.2 (Bc 0 rfl rfl rfl (Bc 1 rfl rfl rfl (Bc 2 rfl rfl rfl (Bc 3 rfl rfl rfl (Bc 5 rfl rfl rfl Le.refl)))))) ⟨rfl,rfl,rfl,rfl,rfl,trivial⟩ (R2 (x3 (c_Num 1 1 (by decide) (by decide) (by decide) (by decide)) fi32 rfl) rfl rfl (Rt (xb0 (r:=tS [⟨1,false,tSt (mKey 1)⟩,⟨1,false,tI 230⟩,⟨1,false,tI 300⟩,⟨1,false,tI 400⟩,⟨1,false,(tE (.bool false))⟩,⟨6,true,tVa (vN 1 1)⟩]) (ts:=[(0,tSt (mKey 1)),(1,tI 230),(2,tI 300),(3,tI 400),(5,tVa (vN 1 1))]) bu53 zr53.2 (Bc 0 rfl rfl rfl (Bc 1 rfl rfl rfl (Bc 2 rfl rfl rfl (Bc 3 rfl rfl rfl (Bc 5 rfl rfl rfl Le.refl)))))) ⟨rfl,rfl,rfl,rfl,rfl,trivial⟩ ?_)))
  refine A1 ?_
  refine Rt (xb0 (r:=tS [⟨1,false,tSt (mKey 1)⟩,⟨1,false,tI 500⟩,⟨1,false,tI 65536⟩,⟨1,false,tI 500⟩,⟨1,false,tB true⟩,⟨6,true,(tS [⟨1,false,(tE (.int .u8 0))⟩,⟨4,true,(tS [⟨2,true,(tS [⟨1,false,(tE (.bool false))⟩,⟨1,false,(tLm [])⟩])⟩,⟨2,true,(tS [⟨1,false,(tE (.bool false))⟩,⟨1,false,(tLm [])⟩])⟩])⟩,⟨1,false,(tE (.int .i64 0))⟩])⟩]) (ts:=[(0,tSt (mKey 1)),(1,tI 500),(2,tI 65536),(3,tI 500),(4,tB true)]) bu53 zr53.2 (Bc 0 rfl rfl rfl (Bc 1 rfl rfl rfl (Bc 2 rfl rfl rfl (Bc 3 rfl rfl rfl (Bc 4 rfl rfl rfl Le.refl)))))) ⟨rfl,rfl,rfl,rfl,rfl,trivial⟩ ?_
  refine A1 ?_
  refine Rt (xb0 (r:=tS [⟨1,false,tSt (mKey 2)⟩,⟨1,false,tI 500⟩,⟨1,false,tI 65536⟩,⟨1,false,tI 500⟩,⟨1,false,tB true⟩,⟨6,true,(tS [⟨1,false,(tE (.int .u8 0))⟩,⟨4,true,(tS [⟨2,true,(tS [⟨1,false,(tE (.bool false))⟩,⟨1,false,(tLm [])⟩])⟩,⟨2,true,(tS [⟨1,false,(tE (.bool false))⟩,⟨1,false,(tLm [])⟩])⟩])⟩,⟨1,false,(tE (.int .i64 0))⟩])⟩]) (ts:=[(0,tSt (mKey 2)),(1,tI 500),(2,tI 65536),(3,tI 500),(4,tB true)]) bu53 zr53.2 (Bc 0 rfl rfl rfl (Bc 1 rfl rfl rfl (Bc 2 rfl rfl rfl (Bc 3 rfl rfl rfl (Bc 4 rfl rfl rfl Le.refl)))))) ⟨rfl,rfl,rfl,rfl,rfl,trivial⟩ (Rt (xb5 (n:=4) (f:=tFa) exW Tryz.underlying35 el53 zf53 rfl (fun _=>inferInstance) rfl rfl rfl) qD ?_)
  refine A13 ?_
  refine Rt (x3 (xn0 100 65536 1 1 (by decide) (by decide)) fi33 rfl) qD (R1 (xb5 (n:=1) (f:=tTs) t249 Tryz.underlying44 el69 zf69 rfl (fun _=>inferInstance) rfl rfl rfl) rfl (R3 (xh7 (c_sameTv _ _ rfl) fi17 rfl) rfl rfl rfl ?_))
  refine A3 ?_
  refine Rg rfl rfl (x3 (xn0 100 200 1 1 (by decide) (by decide)) fi33 rfl) rfl qD (Rg rfl rfl (x3 (xn0 200 300 1 2 (by decide) (by decide)) fi33 rfl) rfl qD ?_)
  refine A1 ?_
  refine Rg rfl rfl (x3 (xn0 300 65536 1 1 (by decide) (by decide)) fi33 rfl) rfl qD (Rg rfl rfl (xb5 (n:=3) (f:=tTs) t250 Tryz.underlying44 el69 zf69 rfl (fun _=>inferInstance) rfl rfl rfl) rfl qC (Rg rfl rfl (xh7 (c_sameTv _ _ rfl) fi17 rfl) rfl qC ?_))
  refine A4 ?_
  refine Rg rfl rfl (x3 (xn0 100 220 1 1 (by decide) (by decide)) fi33 rfl) rfl qD (Rg rfl rfl (x3 (xn0 220 230 0 1 (by decide) (by decide)) fi33 rfl) rfl qD ?_)
  refine A1 ?_
  refine Rg rfl rfl (x3 (xn0 230 65536 1 1 (by decide) (by decide)) fi33 rfl) rfl qD (Rg rfl rfl (xb5 (n:=3) (f:=tTs) t400 Tryz.underlying44 el69 zf69 rfl (fun _=>inferInstance) rfl rfl rfl) rfl qC (Rg rfl rfl (xh7 (c_sameTv _ _ rfl) fi17 rfl) rfl qC ?_))
  refine A4 ?_
  refine Rg rfl rfl (x3 (xn0 100 220 1 1 (by decide) (by decide)) fi33 rfl) rfl qD (Rg rfl rfl (x3 (xn0 220 230 0 1 (by decide) (by decide)) fi33 rfl) rfl qD (Rg rfl rfl (x3 (xn0 230 500 1 1 (by decide) (by decide)) fi33 rfl) rfl qD (Rg rfl rfl (xb5 (n:=3) (f:=tTs) t500 Tryz.underlying44 el69 zf69 rfl (fun _=>inferInstance) rfl rfl rfl) rfl qC (Rg rfl rfl (xh7 (c_sameTv _ _ rfl) fi17 rfl) rfl qC ?_))))
  refine A4 ?_
  refine Rg rfl rfl (x3 (c_cash22 100 220 50 (by decide)) fi34 rfl) rfl qC (Rg rfl rfl (x3 (c_cash22 220 230 0 (by decide)) fi34 rfl) rfl qC ?_)
  refine A1 ?_
  refine Rg rfl rfl (x3 (c_cash22 230 65536 50 (by decide)) fi34 rfl) rfl qC (Rg rfl rfl (xb5 (n:=3) (f:=tTs) p300 Tryz.underlying44 el69 zf69 rfl (fun _=>inferInstance) rfl rfl rfl) rfl qC (Rg rfl rfl (xh7 (c_sameTv _ _ rfl) fi17 rfl) rfl qC ?_))
  refine A4 ?_
  refine Rg rfl rfl (x3 (c_sameFa _ _ hfe) fi35 rfl) rfl qB ?_
  refine A5 ?_
  exact E1 rfl rfl Le.refl
end An.S
