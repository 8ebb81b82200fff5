/- Part 6 of a proof: Z3, R5b, Y3, S17, S18, Svc2, S14, S15, Chg2, Svc3, Sv2, Svc4, R8, Z4, Z5, Z6, LibYb, O27. -/
import Derived.SizedLaws
import Derived.Test.YtdcbapghcmhgkaaGreatChecked
import Derived.Test.YtdcbapghcmhgkaaGreatT5
/- Layers 4 and 8: sets that are handed out as what the caller owns. -/
namespace An.S
open Go Go.Proofs An
set_option maxHeartbeats 2000000
set_option maxRecDepth 100000
theorem c_SnMakeO (l:List Sn) (hl:l.length≤1000000) (hall0:l.all Sn.ok=true):
  CtG Tryz.prog 86 [] [.val (tL 2 true tSn l)] (.own (.tup [.sl 7 2 0 (mkS l).length,.ty (tI 0)])) [(7,⟨62,2,true,rV tSn (mkS l)⟩)] [7]:=by
 refine CtG.intro [] Tryz.func86 rfl Tryz.ntmps86 rfl rfl trivial ?_
 intro w F η
 refine A8 ?_
 refine RE (xd3 (k:=4) 62 2 true rfl (fun h=>by cases h)) trivial trivial ⟨rfl,trivial⟩ ?_
 refine A9 ?_
 refine A2 ?_
 refine cL (fun (fm:(Nat)×(List Sn))=>(fun (i:Nat) (xs:List Sn)=>i≤l.length∧(l.take i).all Sn.ok=true∧xs=(l.take i).filter pos) fm.1 fm.2) (fun (fm:(Nat)×(List Sn))=>(fun (i:Nat) (xs:List Sn)=>upd (upd (upd (upd (upd (fun _=>none) 0 (some (.val (tL 2 true tSn l)))) 4 (some (.own (.sl 4 2 0 xs.length)))) 11 (some (.val (tL 2 true tSn l)))) 12 (some (.val (tI l.length)))) 13 (some (.val (tI i)))) fm.1 fm.2) (fun (fm:(Nat)×(List Sn))=>(fun (i:Nat) (xs:List Sn)=>upd (fun _=>none) 4 (some (⟨62,2,true,rV tSn xs⟩))) fm.1 fm.2) [4] (fun (fm:(Nat)×(List Sn))=>(fun (i:Nat) (xs:List Sn)=>l.length - i) fm.1 fm.2) ((0,[])) (by dsimp only;exact ⟨Nat.zero_le _,rfl,rfl⟩) (hh:=((SubK.consI rfl ImpK.refl) SubK.nil)) ?_
 intro fm hI
 obtain ⟨i,xs⟩:=fm
 replace hI:i≤l.length∧(l.take i).all Sn.ok=true∧xs=(l.take i).filter pos:=hI
 show wc _ _ _ _ (upd (upd (upd (upd (upd (fun _=>none) 0 (some (.val (tL 2 true tSn l)))) 4 (some (.own (.sl 4 2 0 xs.length)))) 11 (some (.val (tL 2 true tSn l)))) 12 (some (.val (tI l.length)))) 13 (some (.val (tI i)))) (upd (fun _=>none) 4 (some (⟨62,2,true,rV tSn xs⟩))) _
 obtain ⟨hi,ha,hx⟩:=hI
 have hxl:xs.length≤i:=hx▸filter_le
 refine A6 ?_
 refine x9 rfl (fun h31=> ?_) (fun h31=> ?_)
 ·
  refine A6 ?_
  refine R2 (x6 sl45 (i) (by omega) (gD (l:=l) (n:=i) (d:=sn0) (by omega))) rfl rfl ?_
  refine A1 ?_
  refine RE (xa6 (k:=6) (n:=2) (agg:=true) zr62.1 zr62.2 rfl) trivial trivial ⟨rfl,trivial⟩ ?_
  refine A7 ?_
  refine R1 (x3 (c_isSpan _) fi152 rfl) rfl ?_
  refine A3 ?_
  refine xd2 rfl (fun h32=> ?_) (fun h32=> ?_)
  ·
   have hbad:l.all Sn.ok=false:=allS_stop (i:=i) (by omega) (by rw [Bool.not_eq_true'] at h32;exact h32)
   rw [hall0] at hbad;cases hbad
  ·
   rw [Bool.not_eq_false'] at h32
   refine A9 ?_
   refine A2 ?_
   refine x9 rfl (fun h35=> ?_) (fun h35=> ?_)
   ·
    refine A3 ?_
    refine R1 (xd6 (n:=1) (f:=tSn) [(l.getD i sn0)] Tryz.underlying45 el62 zf62 rfl (fun _=>inferInstance) rfl rfl rfl) rfl (RE (xc1 (k:=4) (k':=28) (f:=tSn) (ys:=[(l.getD i sn0)]) (ts':=rV tSn (xs++[(l.getD i sn0)])) Tryz.underlying45 el62 zf62 rfl rfl (fun _=>inferInstance) xf1 (by simp;omega) (by simp;omega) (by simp [rV]) (n':=xs.length+1) rfl) ⟨rfl,rfl,trivial⟩ ⟨rfl,trivial⟩ ⟨rfl,trivial⟩ ?_)
    refine A8 ?_
    exact xe6 (l:=[4]) (fun j=>cond (Nat.beq j 4) 28 (j)) ((i+1,xs++[(l.getD i sn0)])) ⟨(by dsimp only;exact ⟨by omega,by rw [allS_next (by omega),ha,h32];rfl,by rw [filter_next (by omega),←hx,if_pos (show pos _=true from decide_eq_true h35)]⟩),(by dsimp only;omega)⟩ (SubR.int rfl (by first | omega | rfl | (dsimp only;omega)) (SubR.int rfl (by first | omega | rfl | (dsimp only;omega)) (SubR.cons rfl ((SubR.consI rfl (Imp.of (by dsimp only;rw [List.length_append];rfl))) (SubR.cons rfl SubR.nil))))) ((SubKR.consI rfl (ImpK.of xb9.symm)) SubKR.nil) (SupG.val (SupG.val (SupG.val (SupG.own rfl (SupG.val SupG.nil))))) (SupH.cons rfl (supJ xa9) SupH.nil) (lkOk rfl) rfl rfl (fun _ h=>by cases h)
   ·
    refine A7 ?_
    exact kF ((i+1,xs)) ⟨(by dsimp only;exact ⟨by omega,by rw [allS_next (by omega),ha,h32];rfl,by rw [filter_next (by omega),←hx,if_neg (by rw [pos,decide_eq_false h35];exact Bool.false_ne_true),List.append_nil]⟩),(by dsimp only;omega)⟩ (hh:=((SubK.consI rfl ImpK.refl) SubK.nil))
 ·
  refine A6 ?_
  have hil:i=l.length:=by omega
  subst hil
  rw [List.take_length] at ha hx
  have hall:=ha
  have hmk:mkS l=mrg (srt cfSn xs):=by rw [mkS,hx]
  refine A2 ?_
  refine RE (xe0 (fun _=>4) (c_sortSn xs (by omega)) fi153 rfl (krC (ρ:=fun _=>4) (k:=1) xb9 (krN (ρ:=fun _=>4))) (krC (ρ:=fun _=>4) (k:=1) xb9 (krN (ρ:=fun _=>4))) ⟨⟨rfl,xa9⟩,trivial⟩ rfl) ⟨rfl,rfl,trivial⟩ ⟨rfl,trivial⟩ trivial ?_
  refine A4 ?_
  refine RE (xd3 (k:=7) 62 2 true rfl (fun h=>by cases h)) trivial trivial ⟨rfl,trivial⟩ ?_
  refine A9 ?_
  refine A2 ?_
  refine cL (fun (fm:(Nat)×(List Sn))=>(fun (i:Nat) (zs:List Sn)=>i≤xs.length∧zs=mrg ((srt cfSn xs).take i)) fm.1 fm.2) (fun (fm:(Nat)×(List Sn))=>(fun (i:Nat) (zs:List Sn)=>upd (upd (upd (upd (upd (fun _=>none) 4 (some (.own (.sl 4 2 0 xs.length)))) 7 (some (.own (.sl 7 2 0 zs.length)))) 32 (some (.own (.sl 4 2 0 xs.length)))) 33 (some (.val (tI xs.length)))) 34 (some (.val (tI i)))) fm.1 fm.2) (fun (fm:(Nat)×(List Sn))=>(fun (i:Nat) (zs:List Sn)=>upd (upd (fun _=>none) 4 (some (⟨62,2,true,rV tSn (srt cfSn xs)⟩))) 7 (some (⟨62,2,true,rV tSn zs⟩))) fm.1 fm.2) [4,7] (fun (fm:(Nat)×(List Sn))=>(fun (i:Nat) (zs:List Sn)=>xs.length - i) fm.1 fm.2) ((0,[])) (by dsimp only;exact ⟨Nat.zero_le _,rfl⟩) (hh:=((SubK.consI rfl ImpK.refl) ((SubK.consI rfl ImpK.refl) SubK.nil))) ?_
  intro fm hI
  obtain ⟨i,zs⟩:=fm
  replace hI:i≤xs.length∧zs=mrg ((srt cfSn xs).take i):=hI
  show wc _ _ _ _ (upd (upd (upd (upd (upd (fun _=>none) 4 (some (.own (.sl 4 2 0 xs.length)))) 7 (some (.own (.sl 7 2 0 zs.length)))) 32 (some (.own (.sl 4 2 0 xs.length)))) 33 (some (.val (tI xs.length)))) 34 (some (.val (tI i)))) (upd (upd (fun _=>none) 4 (some (⟨62,2,true,rV tSn (srt cfSn xs)⟩))) 7 (some (⟨62,2,true,rV tSn zs⟩))) _
  obtain ⟨hi',hz⟩:=hI
  have hsl:=srtSn_len (xs:=xs)
  have hzl:zs.length≤i:=by
   have h:=mrg_len ((srt cfSn xs).take i) []
   rw [List.length_take] at h
   have h2:zs.length≤([]:List Sn).length+min i (srt cfSn xs).length:=by rw [hz];exact h
   simp at h2;omega
  refine A6 ?_
  refine x9 rfl (fun h41=> ?_) (fun h41=> ?_)
  ·
   refine A6 ?_
   refine R2 (xa5 sl45 (by omega) (by omega) rfl) rfl rfl (RE (xb2 (i) ti62 (xh3 (d:=sn0) (by omega)) (by omega)) ⟨rfl,trivial⟩ ⟨rfl,trivial⟩ trivial (RE (xa6 (k:=9) (n:=2) (agg:=true) zr62.1 zr62.2 rfl) trivial trivial ⟨rfl,trivial⟩ ?_))
   refine A9 ?_
   refine A6 ?_
   refine RGcaseD (t:=42) rfl (fun h42=> ?_) (fun h42=> ?_)
   ·
    refine A2 ?_
    refine RGon (decide_eq_true h42) rfl (xe4 (wr64 (by omega) (by omega))) rfl ⟨rfl,rfl,trivial⟩ trivial trivial (RGon (decide_eq_true h42) rfl (xa5 sl45 (by omega) (by omega) rfl) rfl ⟨rfl,rfl,trivial⟩ trivial trivial ?_)
    refine A1 ?_
    refine RGon (decide_eq_true h42) rfl (d_loadF (es:=2) (o:=1) (zs.length - 1) ti3 (xh3 (d:=sn0) (by omega)) (At.g 1 rfl rfl) (by omega)) rfl ⟨rfl,trivial⟩ ⟨rfl,trivial⟩ trivial ?_
    refine A6 ?_
    refine x9 rfl (fun h42_2=> ?_) (fun h42_2=> ?_)
    ·
     refine A7 ?_
     refine R2 (xa5 sl45 (by omega) (by omega) rfl) rfl rfl ?_
     refine A1 ?_
     refine RE (d_loadF (es:=2) (o:=1) (zs.length - 1) ti3 (xh3 (d:=sn0) (by omega)) (At.g 1 rfl rfl) (by omega)) ⟨rfl,trivial⟩ ⟨rfl,trivial⟩ trivial ?_
     refine A2 ?_
     refine R2 d_max2 rfl rfl (R2 (xa5 sl45 (by omega) (by omega) rfl) rfl rfl ?_)
     refine A1 ?_
     refine RE (d_storeF (es:=2) (o:=1) (t2:=tSn ⟨(zs.getD (zs.length - 1) sn0).lo,max (zs.getD (zs.length - 1) sn0).hi ((srt cfSn xs).getD i sn0).hi⟩) (zs.length - 1) ti3 (xh3 (d:=sn0) (by omega)) (Up.f (f:=⟨1,false,tI (zs.getD (zs.length - 1) sn0).hi⟩) 1 rfl rfl rfl) (by omega) (rV_set rfl)) ⟨rfl,rfl,trivial⟩ ⟨rfl,trivial⟩ trivial ?_
     refine A7 ?_
     exact kF ((i+1,(zs.set (zs.length - 1) ⟨(zs.getD (zs.length - 1) sn0).lo,max (zs.getD (zs.length - 1) sn0).hi ((srt cfSn xs).getD i sn0).hi⟩))) ⟨(by dsimp only;exact ⟨by omega,by rw [mrg_next (by omega),←hz,mrg1,if_pos ⟨by omega,by omega⟩]⟩),(by dsimp only;omega)⟩ (hg:=(sI (sI (sC ((Sub.consI rfl (Imp.of (by dsimp only;rw [List.length_set]))) (sC Sub.nil)))))) (hh:=((SubK.consI rfl ImpK.refl) ((SubK.consI rfl ImpK.refl) SubK.nil)))
    ·
     refine A3 ?_
     refine R1 (xd6 (n:=1) (f:=tSn) [((srt cfSn xs).getD i sn0)] Tryz.underlying45 el62 zf62 rfl (fun _=>inferInstance) rfl rfl rfl) rfl (RE (xc1 (k:=7) (k':=70) (f:=tSn) (ys:=[((srt cfSn xs).getD i sn0)]) (ts':=rV tSn (zs++[((srt cfSn xs).getD i sn0)])) Tryz.underlying45 el62 zf62 rfl rfl (fun _=>inferInstance) xf1 (by simp;omega) (by simp;omega) (by simp [rV]) (n':=zs.length+1) rfl) ⟨rfl,rfl,trivial⟩ ⟨rfl,trivial⟩ ⟨rfl,trivial⟩ ?_)
     refine A8 ?_
     exact xe6 (l:=[4,7]) (fun j=>cond (Nat.beq j 7) 70 (j)) ((i+1,zs++[((srt cfSn xs).getD i sn0)])) ⟨(by dsimp only;exact ⟨by omega,by rw [mrg_next (by omega),←hz,mrg1,if_neg (by omega)]⟩),(by dsimp only;omega)⟩ (SubR.int rfl (by first | omega | rfl | (dsimp only;omega)) (SubR.int rfl (by first | omega | rfl | (dsimp only;omega)) (SubR.cons rfl ((SubR.consI rfl (Imp.of (by dsimp only;rw [List.length_append];rfl))) (SubR.cons rfl SubR.nil))))) ((SubKR.consI rfl (ImpK.of xb9.symm)) ((SubKR.consI rfl (ImpK.of xb9.symm)) SubKR.nil)) (SupG.val (SupG.val (SupG.own rfl (SupG.own rfl (SupG.own rfl SupG.nil))))) (SupH.cons rfl (supJ xa9) (SupH.cons rfl (supJ xa9) SupH.nil)) (lkOk rfl) rfl rfl (fun _ h=>by cases h)
   ·
    refine A9 ?_
    refine A7 ?_
    refine R1 (xd6 (n:=1) (f:=tSn) [((srt cfSn xs).getD i sn0)] Tryz.underlying45 el62 zf62 rfl (fun _=>inferInstance) rfl rfl rfl) rfl (RE (xc1 (k:=7) (k':=70) (f:=tSn) (ys:=[((srt cfSn xs).getD i sn0)]) (ts':=rV tSn (zs++[((srt cfSn xs).getD i sn0)])) Tryz.underlying45 el62 zf62 rfl rfl (fun _=>inferInstance) xf1 (by simp;omega) (by simp;omega) (by simp [rV]) (n':=zs.length+1) rfl) ⟨rfl,rfl,trivial⟩ ⟨rfl,trivial⟩ ⟨rfl,trivial⟩ ?_)
    refine A8 ?_
    exact xe6 (l:=[4,7]) (fun j=>cond (Nat.beq j 7) 70 (j)) ((i+1,zs++[((srt cfSn xs).getD i sn0)])) ⟨(by dsimp only;exact ⟨by omega,by rw [mrg_next (by omega),←hz,mrg1,if_neg (by omega)]⟩),(by dsimp only;omega)⟩ (SubR.int rfl (by first | omega | rfl | (dsimp only;omega)) (SubR.int rfl (by first | omega | rfl | (dsimp only;omega)) (SubR.cons rfl ((SubR.consI rfl (Imp.of (by dsimp only;rw [List.length_append];rfl))) (SubR.cons rfl SubR.nil))))) ((SubKR.consI rfl (ImpK.of xb9.symm)) ((SubKR.consI rfl (ImpK.of xb9.symm)) SubKR.nil)) (SupG.val (SupG.val (SupG.own rfl (SupG.own rfl (SupG.own rfl SupG.nil))))) (SupH.cons rfl (supJ xa9) (SupH.cons rfl (supJ xa9) SupH.nil)) (lkOk rfl) rfl rfl (fun _ h=>by cases h)
  ·
   refine A6 ?_
   have hzm:zs=mkS l:=by rw [hmk,hz,show i=(srt cfSn xs).length by omega,List.take_length]
   subst hzm
   refine A7 ?_
   exact E_retGT (r1:= .own (.sl 7 2 0 (mkS l).length)) (r2:= .val (tI 0)) LentC.mk' rfl rfl rfl Imp.refl Imp.refl ⟨rfl,trivial⟩ rfl ⟨⟨rfl,xa9⟩,trivial⟩ rfl
theorem c_workedO (l:List Tst) (a b:Int) (hl:l.length≤1000000) (hall: ¬b≤a→(wkS l a b).all Sn.ok=true) (ys:List Sn) (hy:ys=wkd l a b):
  CtG Tryz.prog 45 [] [.val (tRec l a b)] (.own (.sl 42 2 0 ys.length)) [(42,⟨62,2,true,rV tSn ys⟩)] [42]:=by
 refine CtG.intro [] Tryz.func45 rfl Tryz.ntmps45 rfl rfl trivial ?_
 intro w F η
 refine A9 ?_
 refine A1 ?_
 refine R1 (x3 (c_none l a b) fi55 rfl) rfl ?_
 refine A2 ?_
 refine x9 rfl (fun h36=> ?_) (fun h36=> ?_)
 ·
  refine A2 ?_
  refine RE (xd3 (k:=42) 62 2 true rfl (fun h=>by cases h)) trivial trivial ⟨rfl,trivial⟩ ?_
  refine A4 ?_
  rw [wkd,if_pos h36] at hy
  subst hy
  exact xe3 LentC.mk' rfl rfl Imp.refl ⟨rfl,trivial⟩ rfl ⟨⟨rfl,xa9⟩,trivial⟩ rfl
 ·
  refine A4 ?_
  refine R1 (d_makeFunc (ps:=[.ptr 1 0]) rfl) rfl ?_
  refine A5 ?_
  refine RE (xd3 (k:=4) 62 2 true rfl (fun h=>by cases h)) trivial trivial ⟨rfl,trivial⟩ ?_
  refine A9 ?_
  refine A3 ?_
  refine cL (fun (fm:(Nat)×(List Sn))=>(fun (i:Nat) (xs:List Sn)=>i≤l.length∧xs=wkS (l.take i) a b) fm.1 fm.2) (fun (fm:(Nat)×(List Sn))=>(fun (i:Nat) (xs:List Sn)=>upd (upd (upd (upd (upd (upd (fun _=>none) 1 (some (.own (.ptr 1 0)))) 3 (some (.own (.fn 85 [.ptr 1 0])))) 4 (some (.own (.sl 4 2 0 xs.length)))) 13 (some (.val (tL 8 true tTs l)))) 14 (some (.val (tI l.length)))) 15 (some (.val (tI i)))) fm.1 fm.2) (fun (fm:(Nat)×(List Sn))=>(fun (i:Nat) (xs:List Sn)=>upd (upd (fun _=>none) 1 (some (⟨72,3,true,[.val (tRec l a b)]⟩))) 4 (some (⟨62,2,true,rV tSn xs⟩))) fm.1 fm.2) [1,4] (fun (fm:(Nat)×(List Sn))=>(fun (i:Nat) (xs:List Sn)=>l.length - i) fm.1 fm.2) ((0,[])) (by dsimp only;exact ⟨Nat.zero_le _,rfl⟩) (hh:=((SubK.consI rfl ImpK.refl) ((SubK.consI rfl ImpK.refl) SubK.nil))) ?_
  intro fm hI
  obtain ⟨i,xs⟩:=fm
  replace hI:i≤l.length∧xs=wkS (l.take i) a b:=hI
  show wc _ _ _ _ (upd (upd (upd (upd (upd (upd (fun _=>none) 1 (some (.own (.ptr 1 0)))) 3 (some (.own (.fn 85 [.ptr 1 0])))) 4 (some (.own (.sl 4 2 0 xs.length)))) 13 (some (.val (tL 8 true tTs l)))) 14 (some (.val (tI l.length)))) 15 (some (.val (tI i)))) (upd (upd (fun _=>none) 1 (some (⟨72,3,true,[.val (tRec l a b)]⟩))) 4 (some (⟨62,2,true,rV tSn xs⟩))) _
  obtain ⟨hi,hx⟩:=hI
  have hxl:xs.length≤i:=by
   have h:=wkS_len (l:=l.take i) (a:=a) (b:=b)
   rw [←hx,List.length_take] at h;omega
  refine A6 ?_
  refine x9 rfl (fun h43=> ?_) (fun h43=> ?_)
  ·
   refine A6 ?_
   refine R2 (x6 sl22 (i) (by omega) (gD (l:=l) (n:=i) (d:=tst0) (by omega))) rfl rfl ?_
   refine A1 ?_
   refine RE (xa6 (k:=6) (n:=8) (agg:=true) zr34.1 zr34.2 rfl) trivial trivial ⟨rfl,trivial⟩ ?_
   refine A7 ?_
   refine RE (d_callCX (ps:=[.val (tTs _)]) (caps:=[.ptr 1 0]) (fun _=>1) (c_idle l a b (l.getD i tst0)) fi85 rfl (krC (ρ:=fun _=>1) (k:=1) rfl (krN (ρ:=fun _=>1))) (krC (ρ:=fun _=>1) (k:=1) rfl (krN (ρ:=fun _=>1))) ⟨⟨rfl,(SupX.lit rfl)⟩,trivial⟩ rfl) ⟨rfl,rfl,trivial⟩ ⟨rfl,trivial⟩ trivial ?_
   refine A3 ?_
   refine xd2 rfl (fun h44=> ?_) (fun h44=> ?_)
   ·
    refine A6 ?_
    refine xg1 (0) ti3 rfl rfl rfl (At.t (At.g 0 rfl rfl) (At.g 0 rfl rfl)) rfl (R2 d_max2 rfl rfl ?_)
    refine A4 ?_
    refine xg1 (0) ti3 rfl rfl rfl (At.t (At.g 0 rfl rfl) (At.g 1 rfl rfl)) rfl (R2 d_min2 rfl rfl (R2 (xb0 (r:=tS [⟨1,false,tI (max (l.getD i tst0).lo a)⟩,⟨1,false,tI (min (l.getD i tst0).hi b)⟩]) (ts:=[(0,tI (max (l.getD i tst0).lo a)),(1,tI (min (l.getD i tst0).hi b))]) bu62 zr62.2 ⟨_,rfl⟩ rfl ⟨_,_,_,_,rfl,Up.f (fs:=[⟨1,false,(tE (.int .i64 0))⟩,⟨1,false,(tE (.int .i64 0))⟩]) (f:=⟨1,false,(tE (.int .i64 0))⟩) (fs':=[⟨1,false,tI (max (l.getD i tst0).lo a)⟩,⟨1,false,(tE (.int .i64 0))⟩]) 0 rfl rfl rfl,inferInstance,⟨_,_,_,_,rfl,Up.f (fs:=[⟨1,false,tI (max (l.getD i tst0).lo a)⟩,⟨1,false,(tE (.int .i64 0))⟩]) (f:=⟨1,false,(tE (.int .i64 0))⟩) (fs':=[⟨1,false,tI (max (l.getD i tst0).lo a)⟩,⟨1,false,tI (min (l.getD i tst0).hi b)⟩]) 1 rfl rfl rfl,inferInstance,Le.refl⟩⟩) rfl rfl (R1 (xd6 (n:=1) (f:=tSn) [(clipS a b (l.getD i tst0))] Tryz.underlying45 el62 zf62 rfl (fun _=>inferInstance) rfl rfl rfl) rfl (RE (xc1 (k:=4) (k':=38) (f:=tSn) (ys:=[(clipS a b (l.getD i tst0))]) (ts':=rV tSn (xs++[(clipS a b (l.getD i tst0))])) Tryz.underlying45 el62 zf62 rfl rfl (fun _=>inferInstance) xf1 (by simp;omega) (by simp;omega) (by simp [rV]) (n':=xs.length+1) rfl) ⟨rfl,rfl,trivial⟩ ⟨rfl,trivial⟩ ⟨rfl,trivial⟩ ?_))))
    refine A8 ?_
    exact xe6 (l:=[1,4]) (fun j=>cond (Nat.beq j 4) 38 (j)) ((i+1,xs++[(clipS a b (l.getD i tst0))])) ⟨(by dsimp only;exact ⟨by omega,by rw [wkS_next (by omega),←hx,if_neg (by simpa using h44)]⟩),(by dsimp only;omega)⟩ (SubR.int rfl (by first | omega | rfl | (dsimp only;omega)) (SubR.int rfl (by first | omega | rfl | (dsimp only;omega)) (SubR.cons rfl ((SubR.consI rfl (Imp.of (by dsimp only;rw [List.length_append];rfl))) (SubR.cons rfl (SubR.cons rfl SubR.nil)))))) ((SubKR.consI rfl (ImpK.of xb9.symm)) ((SubKR.consI rfl ImpK.refl) SubKR.nil)) (SupG.val (SupG.val (SupG.val (SupG.own rfl (SupG.own rfl (SupG.own rfl SupG.nil)))))) (SupH.cons rfl (supJ xa9) (SupH.cons rfl (supJL rfl) SupH.nil)) (lkOk rfl) rfl rfl (fun _ h=>by cases h)
   ·
    refine A7 ?_
    exact kF ((i+1,xs)) ⟨(by dsimp only;exact ⟨by omega,by rw [wkS_next (by omega),←hx,if_pos (by simpa using h44),List.append_nil]⟩),(by dsimp only;omega)⟩ (hh:=((SubK.consI rfl ImpK.refl) ((SubK.consI rfl ImpK.refl) SubK.nil)))
  ·
   refine A6 ?_
   have hxw:xs=wkS l a b:=by rw [hx,show i=l.length by omega,List.take_length]
   have hallx:xs.all Sn.ok=true:=by rw [hxw];exact hall h36
   have hys:ys=mkS xs:=by rw [hy,wkd,if_neg h36,if_pos (hall h36),hxw]
   subst hys
   refine A1 ?_
   refine RE (xg0 (f:=tSn) (xs:=xs) (fun _ h=>by obtain ⟨y,hy,_⟩:=h;cases hy) (rV_all rfl) rfl) ⟨rfl,trivial⟩ ⟨rfl,trivial⟩ trivial (RE (xe0 (fun _=>42) (c_SnMakeO xs (by omega) hallx) fi86 rfl (krN (ρ:=fun _=>42)) (krC (ρ:=fun _=>42) (k:=7) xb9 (krN (ρ:=fun _=>42))) ⟨⟨rfl,xa9⟩,trivial⟩ rfl) ⟨rfl,trivial⟩ trivial ⟨rfl,trivial⟩ ?_)
   refine A1 ?_
   refine R1 (xi2 rfl) rfl (R1 (xi2 rfl) rfl ?_)
   refine A9 ?_
   refine A2 ?_
   exact xe3 LentC.mk' rfl rfl Imp.refl ⟨rfl,trivial⟩ rfl ⟨⟨rfl,xa9⟩,trivial⟩ rfl
theorem wkS_ok {l:List Tst} {a b:Int} (h:askB l a b=true) (hab: ¬b≤a):(wkS l a b).all Sn.ok=true:=by
  obtain ⟨h1,h2,h3,h4,h5⟩:=askB_iff.1 h
  simp only [sRight,Bool.and_eq_true] at h1
  rw [List.all_eq_true]
  intro x hx
  obtain ⟨s,hs,rfl⟩:=List.mem_map.1 hx
  obtain ⟨hm,hi⟩:=List.mem_filter.1 hs
  obtain ⟨i,hi2,rfl⟩:=xh5 hm
  have h6:=xh9 h1.1 hi2
  have h7: ¬_:=fun h'=>by rw [idle_iff.2 h'] at hi;cases hi
  simp only [clipS,Sn.ok,Bool.and_eq_true]
  exact ⟨⟨decide_eq_true (by omega),decide_eq_true (by omega)⟩,decide_eq_true (by omega)⟩
theorem c_WorkedO (l:List Tst) (a b:Int) (hl:l.length≤500000) (hD: ∀s∈l,s.v.f.dig) (ys:List Sn) (er:Int) (hy:ys=if askB l a b=true then wkd l a b else []) (he:er=if askB l a b=true then 0 else 2):
  CtG Tryz.prog 17 [] [.val (tL 8 true tTs l),.val (tI a),.val (tI b)] (.own (.tup [.sl 20 2 0 ys.length,.ty (tI er)])) [(20,⟨62,2,true,rV tSn ys⟩)] [20]:=by
 refine CtG.intro [] Tryz.func17 rfl Tryz.ntmps17 rfl rfl trivial ?_
 intro w F η
 refine A9 ?_
 refine A2 ?_
 refine R3 (x3 (c_asked l a b hD) fi44 rfl) rfl rfl rfl ?_
 refine A3 ?_
 refine RE (xa6 (k:=8) (n:=3) (agg:=true) zr72.1 zr72.2 rfl) trivial trivial ⟨rfl,trivial⟩ ?_
 refine A9 ?_
 refine A2 ?_
 refine xd2 rfl (fun h113=> ?_) (fun h113=> ?_)
 ·
  have hk: ¬askB l a b=true:=by simpa using h113
  refine A2 ?_
  refine RE (xd3 (k:=20) 62 2 true rfl (fun h=>by cases h)) trivial trivial ⟨rfl,trivial⟩ ?_
  refine A5 ?_
  rw [if_neg (hk)] at hy he
  subst hy he
  exact E_retGT (r1:= .own (.sl 20 2 0 ([]:List Sn).length)) (r2:= .val (tI 2)) LentC.mk' rfl rfl rfl Imp.refl Imp.refl ⟨rfl,trivial⟩ rfl ⟨⟨rfl,xa9⟩,trivial⟩ rfl
 ·
  have hk:askB l a b=true:=by simpa using h113
  refine A3 ?_
  rw [if_pos hk] at hy he
  subst hy he
  refine A2 ?_
  refine RE (xe0 (fun _=>20) (c_workedO l a b (by omega) (wkS_ok hk) _ rfl) fi45 rfl (krN (ρ:=fun _=>20)) (krC (ρ:=fun _=>20) (k:=42) xb9 (krN (ρ:=fun _=>20))) ⟨⟨rfl,xa9⟩,trivial⟩ rfl) ⟨rfl,trivial⟩ trivial ⟨rfl,trivial⟩ ?_
  refine A5 ?_
  exact E_retGT (r1:= .own (.sl 20 2 0 (wkd l a b).length)) (r2:= .val (tI 0)) LentC.mk' rfl rfl rfl Imp.refl Imp.refl ⟨rfl,trivial⟩ rfl ⟨⟨rfl,xa9⟩,trivial⟩ rfl
theorem c_BreaksO (l:List Tst) (a b:Int) (hl:l.length≤500000) (hD: ∀s∈l,s.v.f.dig) (ys:List Sn) (er:Int) (hy:ys=if askB l a b=true then brk (wkd l a b) else []) (he:er=if askB l a b=true then 0 else 2):
  CtG Tryz.prog 18 [] [.val (tL 8 true tTs l),.val (tI a),.val (tI b)] (.own (.tup [.sl 10 2 0 ys.length,.ty (tI er)])) [(10,⟨62,2,true,rV tSn ys⟩)] [10]:=by
 have hwl:=wkd_len (l:=l) (a:=a) (b:=b)
 refine CtG.intro [] Tryz.func18 rfl Tryz.ntmps18 rfl rfl trivial ?_
 intro w F η
 refine A9 ?_
 refine A2 ?_
 refine R3 (x3 (c_asked l a b hD) fi44 rfl) rfl rfl rfl ?_
 refine A3 ?_
 refine RE (xa6 (k:=8) (n:=3) (agg:=true) zr72.1 zr72.2 rfl) trivial trivial ⟨rfl,trivial⟩ ?_
 refine A9 ?_
 refine A2 ?_
 refine xd2 rfl (fun h122=> ?_) (fun h122=> ?_)
 ·
  have hk: ¬askB l a b=true:=by simpa using h122
  refine A2 ?_
  refine RE (xd3 (k:=10) 62 2 true rfl (fun h=>by cases h)) trivial trivial ⟨rfl,trivial⟩ ?_
  refine A5 ?_
  rw [if_neg (hk)] at hy he
  subst hy he
  exact E_retGT (r1:= .own (.sl 10 2 0 ([]:List Sn).length)) (r2:= .val (tI 2)) LentC.mk' rfl rfl rfl Imp.refl Imp.refl ⟨rfl,trivial⟩ rfl ⟨⟨rfl,xa9⟩,trivial⟩ rfl
 ·
  have hk:askB l a b=true:=by simpa using h122
  refine A4 ?_
  refine RE (xd3 (k:=10) 62 2 true rfl (fun h=>by cases h)) trivial trivial ⟨rfl,trivial⟩ ?_
  refine A5 ?_
  refine R1 (x3 (c_worked l a b (by omega)) fi45 rfl) rfl ?_
  refine A9 ?_
  refine A1 ?_
  refine cL (fun (fm:(Nat)×(List Sn))=>(fun (i:Nat) (xs:List Sn)=>(i=0∨i+1≤(wkd l a b).length)∧xs=(List.range i).map (fun i=>(⟨((wkd l a b).getD i sn0).hi,((wkd l a b).getD (i+1) sn0).lo⟩:Sn))) fm.1 fm.2) (fun (fm:(Nat)×(List Sn))=>(fun (i:Nat) (xs:List Sn)=>upd (upd (upd (fun _=>none) 10 (some (.own (.sl 10 2 0 xs.length)))) 11 (some (.val (tL 2 true tSn (wkd l a b))))) 12 (some (.val (tI ((i:Int)+1))))) fm.1 fm.2) (fun (fm:(Nat)×(List Sn))=>(fun (i:Nat) (xs:List Sn)=>upd (fun _=>none) 10 (some (⟨62,2,true,rV tSn xs⟩))) fm.1 fm.2) [10] (fun (fm:(Nat)×(List Sn))=>(fun (i:Nat) (xs:List Sn)=>(wkd l a b).length - i) fm.1 fm.2) ((0,[])) (by dsimp only;exact ⟨.inl rfl,rfl⟩) (hh:=((SubK.consI rfl ImpK.refl) SubK.nil)) ?_
  intro fm hI
  obtain ⟨i,xs⟩:=fm
  replace hI:(i=0∨i+1≤(wkd l a b).length)∧xs=(List.range i).map (fun i=>(⟨((wkd l a b).getD i sn0).hi,((wkd l a b).getD (i+1) sn0).lo⟩:Sn)):=hI
  show wc _ _ _ _ (upd (upd (upd (fun _=>none) 10 (some (.own (.sl 10 2 0 xs.length)))) 11 (some (.val (tL 2 true tSn (wkd l a b))))) 12 (some (.val (tI ((i:Int)+1))))) (upd (fun _=>none) 10 (some (⟨62,2,true,rV tSn xs⟩))) _
  obtain ⟨hi,hx⟩:=hI
  have hxl:xs.length=i:=by rw [hx];simp
  refine A9 ?_
  refine x9 rfl (fun h127=> ?_) (fun h127=> ?_)
  ·
   refine A9 ?_
   refine R2 (x6 sl45 (i) (by omega) (gD (l:=wkd l a b) (n:=i) (d:=sn0) (by omega))) rfl rfl (R1 (xb4 fo62_1.h (At.f 1 rfl rfl) rfl) rfl ?_)
   refine A3 ?_
   refine R2 (x6 sl45 (i+1) (by omega) (gD (l:=wkd l a b) (n:=i+1) (d:=sn0) (by omega))) rfl rfl (R1 (xb4 fo62_0.h (At.f 0 rfl rfl) rfl) rfl ?_)
   refine A1 ?_
   refine R2 (xb0 (r:=tS [⟨1,false,tI ((wkd l a b).getD i sn0).hi⟩,⟨1,false,tI ((wkd l a b).getD (i+1) sn0).lo⟩]) (ts:=[(0,tI ((wkd l a b).getD i sn0).hi),(1,tI ((wkd l a b).getD (i+1) sn0).lo)]) bu62 zr62.2 ⟨_,rfl⟩ rfl ⟨_,_,_,_,rfl,Up.f (fs:=[⟨1,false,(tE (.int .i64 0))⟩,⟨1,false,(tE (.int .i64 0))⟩]) (f:=⟨1,false,(tE (.int .i64 0))⟩) (fs':=[⟨1,false,tI ((wkd l a b).getD i sn0).hi⟩,⟨1,false,(tE (.int .i64 0))⟩]) 0 rfl rfl rfl,inferInstance,⟨_,_,_,_,rfl,Up.f (fs:=[⟨1,false,tI ((wkd l a b).getD i sn0).hi⟩,⟨1,false,(tE (.int .i64 0))⟩]) (f:=⟨1,false,(tE (.int .i64 0))⟩) (fs':=[⟨1,false,tI ((wkd l a b).getD i sn0).hi⟩,⟨1,false,tI ((wkd l a b).getD (i+1) sn0).lo⟩]) 1 rfl rfl rfl,inferInstance,Le.refl⟩⟩) rfl rfl (R1 (xd6 (n:=1) (f:=tSn) [⟨((wkd l a b).getD i sn0).hi,((wkd l a b).getD (i+1) sn0).lo⟩] Tryz.underlying45 el62 zf62 rfl (fun _=>inferInstance) rfl rfl rfl) rfl (RE (xc1 (k:=10) (k':=44) (f:=tSn) (ys:=[⟨((wkd l a b).getD i sn0).hi,((wkd l a b).getD (i+1) sn0).lo⟩]) (ts':=rV tSn (xs++[⟨((wkd l a b).getD i sn0).hi,((wkd l a b).getD (i+1) sn0).lo⟩])) Tryz.underlying45 el62 zf62 rfl rfl (fun _=>inferInstance) xf1 (by simp;omega) (by simp;omega) (by simp [rV]) (n':=xs.length+1) rfl) ⟨rfl,rfl,trivial⟩ ⟨rfl,trivial⟩ ⟨rfl,trivial⟩ ?_))
   refine A9 ?_
   exact xe6 (l:=[10]) (fun j=>cond (Nat.beq j 10) 44 (j)) ((i+1,xs++[⟨((wkd l a b).getD i sn0).hi,((wkd l a b).getD (i+1) sn0).lo⟩])) ⟨(by dsimp only;exact ⟨by omega,by rw [brk_snoc,←hx]⟩),(by dsimp only;omega)⟩ (SubR.int rfl (by first | omega | rfl | (dsimp only;omega)) (SubR.cons rfl ((SubR.consI rfl (Imp.of (by dsimp only;rw [List.length_append];rfl))) SubR.nil))) ((SubKR.consI rfl (ImpK.of xb9.symm)) SubKR.nil) (SupG.val (SupG.val (SupG.own rfl SupG.nil))) (SupH.cons rfl (supJ xa9) SupH.nil) (lkOk rfl) rfl rfl (fun _ h=>by cases h)
  ·
   refine A6 ?_
   rw [if_pos hk] at hy he
   have hys:ys=xs:=by rw [hy,hx,brk,show i=(wkd l a b).length - 1 by omega]
   clear hy
   subst hys he
   refine A7 ?_
   exact E_retGT (r1:= .own (.sl 10 2 0 ys.length)) (r2:= .val (tI 0)) LentC.mk' rfl rfl rfl Imp.refl Imp.refl ⟨rfl,trivial⟩ rfl ⟨⟨rfl,xa9⟩,trivial⟩ rfl
theorem c_SBridgeO (l:List Sn) (d:Int) (hl:l.length≤1000000) (ys:List Sn) (er:Int) (hy:ys=if sVal l=true∧0≤d then brg d l else []) (he:er=if sVal l=true∧0≤d then 0 else 2):
  CtG Tryz.prog 46 [] [.val (tL 2 true tSn l),.val (tI d)] (.own (.tup [.sl 6 2 0 ys.length,.ty (tI er)])) [(6,⟨62,2,true,rV tSn ys⟩)] [6]:=by
 refine CtG.intro [] Tryz.func46 rfl Tryz.ntmps46 rfl rfl trivial ?_
 intro w F η
 refine A9 ?_
 refine A1 ?_
 refine R1 (x3 (c_SValid _) fi87 rfl) rfl ?_
 refine A2 ?_
 refine RGcase (t:=13) rfl (fun h124=> ?_) (fun h124=> ?_)
 ·
  refine A8 ?_
  refine RE (xd3 (k:=6) 62 2 true rfl (fun h=>by cases h)) trivial trivial ⟨rfl,trivial⟩ ?_
  refine A5 ?_
  rw [if_neg (fun h=>by rw [h.1] at h124;cases h124)] at hy he
  subst hy he
  exact E_retGT (r1:= .own (.sl 6 2 0 ([]:List Sn).length)) (r2:= .val (tI 2)) LentC.mk' rfl rfl rfl Imp.refl Imp.refl ⟨rfl,trivial⟩ rfl ⟨⟨rfl,xa9⟩,trivial⟩ rfl
 ·
  refine A5 ?_
  refine x9 rfl (fun h124_2=> ?_) (fun h124_2=> ?_)
  ·
   refine A2 ?_
   refine RE (xd3 (k:=6) 62 2 true rfl (fun h=>by cases h)) trivial trivial ⟨rfl,trivial⟩ ?_
   refine A5 ?_
   rw [if_neg (by omega)] at hy he
   subst hy he
   exact E_retGT (r1:= .own (.sl 6 2 0 ([]:List Sn).length)) (r2:= .val (tI 2)) LentC.mk' rfl rfl rfl Imp.refl Imp.refl ⟨rfl,trivial⟩ rfl ⟨⟨rfl,xa9⟩,trivial⟩ rfl
  ·
   refine A4 ?_
   refine RE (xd3 (k:=6) 62 2 true rfl (fun h=>by cases h)) trivial trivial ⟨rfl,trivial⟩ ?_
   refine A9 ?_
   refine A2 ?_
   have hok:sVal l=true∧0≤d:=⟨by simpa using h124,by omega⟩
   refine cL (fun (fm:(Nat)×(List Sn))=>(fun (i:Nat) (zs:List Sn)=>i≤l.length∧zs=brg d (l.take i)∧zs.length≤i∧(0 < zs.length→0≤(zs.getD (zs.length - 1) sn0).hi∧(zs.getD (zs.length - 1) sn0).hi≤65536)) fm.1 fm.2) (fun (fm:(Nat)×(List Sn))=>(fun (i:Nat) (zs:List Sn)=>upd (upd (upd (upd (upd (fun _=>none) 1 (some (.val (tI d)))) 6 (some (.own (.sl 6 2 0 zs.length)))) 17 (some (.val (tL 2 true tSn l)))) 18 (some (.val (tI l.length)))) 19 (some (.val (tI i)))) fm.1 fm.2) (fun (fm:(Nat)×(List Sn))=>(fun (i:Nat) (zs:List Sn)=>upd (fun _=>none) 6 (some (⟨62,2,true,rV tSn zs⟩))) fm.1 fm.2) [6] (fun (fm:(Nat)×(List Sn))=>(fun (i:Nat) (zs:List Sn)=>l.length - i) fm.1 fm.2) ((0,[])) (by dsimp only;exact ⟨Nat.zero_le _,rfl,Nat.le_refl _,fun h=>absurd h (Nat.lt_irrefl _)⟩) (hh:=((SubK.consI rfl ImpK.refl) SubK.nil)) ?_
   intro fm hI
   obtain ⟨i,zs⟩:=fm
   replace hI:i≤l.length∧zs=brg d (l.take i)∧zs.length≤i∧(0 < zs.length→0≤(zs.getD (zs.length - 1) sn0).hi∧(zs.getD (zs.length - 1) sn0).hi≤65536):=hI
   show wc _ _ _ _ (upd (upd (upd (upd (upd (fun _=>none) 1 (some (.val (tI d)))) 6 (some (.own (.sl 6 2 0 zs.length)))) 17 (some (.val (tL 2 true tSn l)))) 18 (some (.val (tI l.length)))) 19 (some (.val (tI i)))) (upd (fun _=>none) 6 (some (⟨62,2,true,rV tSn zs⟩))) _
   obtain ⟨hi,hz,hzl,hlast⟩:=hI
   refine A6 ?_
   refine x9 rfl (fun h128=> ?_) (fun h128=> ?_)
   ·
    refine A6 ?_
    have hs:=xe5 hok.1 (i:=i) (by omega)
    refine R2 (x6 sl45 (i) (by omega) (gD (l:=l) (n:=i) (d:=sn0) (by omega))) rfl rfl ?_
    refine A1 ?_
    refine RE (xa6 (k:=8) (n:=2) (agg:=true) zr62.1 zr62.2 rfl) trivial trivial ⟨rfl,trivial⟩ ?_
    refine A9 ?_
    refine A6 ?_
    refine RGcaseD (t:=27) rfl (fun h129=> ?_) (fun h129=> ?_)
    ·
     refine A4 ?_
     refine RGon (decide_eq_true h129) rfl (xe4 (wr64 (by omega) (by omega))) rfl ⟨rfl,rfl,trivial⟩ trivial trivial (RGon (decide_eq_true h129) rfl (xa5 sl45 (by omega) (by omega) rfl) rfl ⟨rfl,rfl,trivial⟩ trivial trivial ?_)
     refine A1 ?_
     refine RGon (decide_eq_true h129) rfl (d_loadF (es:=2) (o:=1) (zs.length - 1) ti3 (xh3 (d:=sn0) (by omega)) (At.g 1 rfl rfl) (by omega)) rfl ⟨rfl,trivial⟩ ⟨rfl,trivial⟩ trivial (RGon (decide_eq_true h129) rfl (xe4 (wr64 (by omega) (by omega))) rfl ⟨rfl,rfl,trivial⟩ trivial trivial ?_)
     refine A5 ?_
     refine x9 rfl (fun h129_2=> ?_) (fun h129_2=> ?_)
     ·
      refine A6 ?_
      refine R2 (xa5 sl45 (by omega) (by omega) rfl) rfl rfl ?_
      refine A1 ?_
      refine RE (d_storeF (es:=2) (o:=1) (t2:=tSn ⟨(zs.getD (zs.length - 1) sn0).lo,(l.getD i sn0).hi⟩) (zs.length - 1) ti3 (xh3 (d:=sn0) (by omega)) (Up.g 1 rfl rfl rfl) (by omega) (rV_set rfl)) ⟨rfl,rfl,trivial⟩ ⟨rfl,trivial⟩ trivial ?_
      refine A7 ?_
      exact kF ((i+1,(zs.set (zs.length - 1) ⟨(zs.getD (zs.length - 1) sn0).lo,(l.getD i sn0).hi⟩))) ⟨(by dsimp only;exact ⟨by omega,by rw [brg_next (by omega),←hz,brg1,if_pos ⟨by omega,by omega⟩],by rw [List.length_set];omega,fun _=>by rw [set_last (by omega)];dsimp only;omega⟩),(by dsimp only;omega)⟩ (hg:=(sI (sI (sC ((Sub.consI rfl (Imp.of (by dsimp only;rw [List.length_set]))) (sI Sub.nil)))))) (hh:=((SubK.consI rfl ImpK.refl) SubK.nil))
     ·
      refine A3 ?_
      refine R1 (xd6 (n:=1) (f:=tSn) [(l.getD i sn0)] Tryz.underlying45 el62 zf62 rfl (fun _=>inferInstance) rfl rfl rfl) rfl (RE (xc1 (k:=6) (k':=50) (f:=tSn) (ys:=[(l.getD i sn0)]) (ts':=rV tSn (zs++[(l.getD i sn0)])) Tryz.underlying45 el62 zf62 rfl rfl (fun _=>inferInstance) xf1 (by simp;omega) (by simp;omega) (by simp [rV]) (n':=zs.length+1) rfl) ⟨rfl,rfl,trivial⟩ ⟨rfl,trivial⟩ ⟨rfl,trivial⟩ ?_)
      refine A8 ?_
      exact xe6 (l:=[6]) (fun j=>cond (Nat.beq j 6) 50 (j)) ((i+1,zs++[(l.getD i sn0)])) ⟨(by dsimp only;exact ⟨by omega,by rw [brg_next (by omega),←hz,brg1,if_neg (by omega)],by rw [List.length_append];simp;omega,fun _=>by rw [snoc_last];omega⟩),(by dsimp only;omega)⟩ (SubR.int rfl (by first | omega | rfl | (dsimp only;omega)) (SubR.int rfl (by first | omega | rfl | (dsimp only;omega)) (SubR.cons rfl ((SubR.consI rfl (Imp.of (by dsimp only;rw [List.length_append];rfl))) (SubR.int rfl (by first | omega | rfl | (dsimp only;omega)) SubR.nil))))) ((SubKR.consI rfl (ImpK.of xb9.symm)) SubKR.nil) (SupG.val (SupG.val (SupG.val (SupG.own rfl (SupG.val SupG.nil))))) (SupH.cons rfl (supJ xa9) SupH.nil) (lkOk rfl) rfl rfl (fun _ h=>by cases h)
    ·
     refine A9 ?_
     refine A9 ?_
     refine R1 (xd6 (n:=1) (f:=tSn) [(l.getD i sn0)] Tryz.underlying45 el62 zf62 rfl (fun _=>inferInstance) rfl rfl rfl) rfl (RE (xc1 (k:=6) (k':=50) (f:=tSn) (ys:=[(l.getD i sn0)]) (ts':=rV tSn (zs++[(l.getD i sn0)])) Tryz.underlying45 el62 zf62 rfl rfl (fun _=>inferInstance) xf1 (by simp;omega) (by simp;omega) (by simp [rV]) (n':=zs.length+1) rfl) ⟨rfl,rfl,trivial⟩ ⟨rfl,trivial⟩ ⟨rfl,trivial⟩ ?_)
     refine A8 ?_
     exact xe6 (l:=[6]) (fun j=>cond (Nat.beq j 6) 50 (j)) ((i+1,zs++[(l.getD i sn0)])) ⟨(by dsimp only;exact ⟨by omega,by rw [brg_next (by omega),←hz,brg1,if_neg (by omega)],by rw [List.length_append];simp;omega,fun _=>by rw [snoc_last];omega⟩),(by dsimp only;omega)⟩ (SubR.int rfl (by first | omega | rfl | (dsimp only;omega)) (SubR.int rfl (by first | omega | rfl | (dsimp only;omega)) (SubR.cons rfl ((SubR.consI rfl (Imp.of (by dsimp only;rw [List.length_append];rfl))) (SubR.int rfl (by first | omega | rfl | (dsimp only;omega)) SubR.nil))))) ((SubKR.consI rfl (ImpK.of xb9.symm)) SubKR.nil) (SupG.val (SupG.val (SupG.val (SupG.own rfl (SupG.val SupG.nil))))) (SupH.cons rfl (supJ xa9) SupH.nil) (lkOk rfl) rfl rfl (fun _ h=>by cases h)
   ·
    refine A6 ?_
    rw [if_pos hok] at hy he
    have hys:ys=zs:=by rw [hy,hz,show i=l.length by omega,List.take_length]
    clear hy
    subst hys he
    refine A7 ?_
    exact E_retGT (r1:= .own (.sl 6 2 0 ys.length)) (r2:= .val (tI 0)) LentC.mk' rfl rfl rfl Imp.refl Imp.refl ⟨rfl,trivial⟩ rfl ⟨⟨rfl,xa9⟩,trivial⟩ rfl
theorem c_PeriodsO (l:List Tst) (a b:Int) (d:Int) (hl:l.length≤500000) (hD: ∀s∈l,s.v.f.dig) (ys:List Sn) (er:Int) (hy:ys=if askB l a b=true∧sVal (wkd l a b)=true∧0≤d then brg d (wkd l a b) else []) (he:er=if askB l a b=true∧sVal (wkd l a b)=true∧0≤d then 0 else 2):
  CtG Tryz.prog 19 [] [.val (tL 8 true tTs l),.val (tI a),.val (tI b),.val (tI d)] (.own (.tup [.sl 28 2 0 ys.length,.ty (tI er)])) [(28,⟨62,2,true,rV tSn ys⟩)] [28]:=by
 have hwl:=wkd_len (l:=l) (a:=a) (b:=b)
 refine CtG.intro [] Tryz.func19 rfl Tryz.ntmps19 rfl rfl trivial ?_
 intro w F η
 refine A9 ?_
 refine A2 ?_
 refine R3 (x3 (c_asked l a b hD) fi44 rfl) rfl rfl rfl ?_
 refine A3 ?_
 refine RE (xa6 (k:=10) (n:=3) (agg:=true) zr72.1 zr72.2 rfl) trivial trivial ⟨rfl,trivial⟩ ?_
 refine A9 ?_
 refine A1 ?_
 refine RGcase (t:=21) rfl (fun h136=> ?_) (fun h136=> ?_)
 ·
  have hk: ¬(askB l a b=true∧sVal (wkd l a b)=true∧0≤d):=fun h=>by rw [h.1] at h136;cases h136
  refine A8 ?_
  refine RE (xd3 (k:=28) 62 2 true rfl (fun h=>by cases h)) trivial trivial ⟨rfl,trivial⟩ ?_
  refine A5 ?_
  rw [if_neg (hk)] at hy he
  subst hy he
  exact E_retGT (r1:= .own (.sl 28 2 0 ([]:List Sn).length)) (r2:= .val (tI 2)) LentC.mk' rfl rfl rfl Imp.refl Imp.refl ⟨rfl,trivial⟩ rfl ⟨⟨rfl,xa9⟩,trivial⟩ rfl
 ·
  have hk0:askB l a b=true:=by simpa using h136
  refine A5 ?_
  refine x9 rfl (fun h136_2=> ?_) (fun h136_2=> ?_)
  ·
   have hk: ¬(askB l a b=true∧sVal (wkd l a b)=true∧0≤d):=by omega
   refine A2 ?_
   refine RE (xd3 (k:=28) 62 2 true rfl (fun h=>by cases h)) trivial trivial ⟨rfl,trivial⟩ ?_
   refine A5 ?_
   rw [if_neg (hk)] at hy he
   subst hy he
   exact E_retGT (r1:= .own (.sl 28 2 0 ([]:List Sn).length)) (r2:= .val (tI 2)) LentC.mk' rfl rfl rfl Imp.refl Imp.refl ⟨rfl,trivial⟩ rfl ⟨⟨rfl,xa9⟩,trivial⟩ rfl
  ·
   refine A3 ?_
   have hys:ys=(if sVal (wkd l a b)=true∧0≤d then brg d (wkd l a b) else []):=by rw [hy];by_cases hs:sVal (wkd l a b)=true∧0≤d <;> simp [hk0,hs]
   have hes:er=(if sVal (wkd l a b)=true∧0≤d then 0 else 2):=by rw [he];by_cases hs:sVal (wkd l a b)=true∧0≤d <;> simp [hk0,hs]
   clear hy he
   subst hys hes
   refine A2 ?_
   refine R1 (x3 (c_worked l a b (by omega)) fi45 rfl) rfl ?_
   refine A1 ?_
   refine RE (xe0 (fun _=>28) (c_SBridgeO (wkd l a b) d (by omega) _ _ rfl rfl) fi46 rfl (krN (ρ:=fun _=>28)) (krC (ρ:=fun _=>28) (k:=6) xb9 (krN (ρ:=fun _=>28))) ⟨⟨rfl,xa9⟩,trivial⟩ rfl) ⟨rfl,rfl,trivial⟩ trivial ⟨rfl,trivial⟩ (R1 (xi2 rfl) rfl (R1 (xi2 rfl) rfl ?_))
   refine A5 ?_
   exact E_retGT (r1:= .own (.sl 28 2 0 (if sVal (wkd l a b)=true∧0≤d then brg d (wkd l a b) else []).length)) (r2:= .val (tI (if sVal (wkd l a b)=true∧0≤d then 0 else 2))) LentC.mk' rfl rfl rfl Imp.refl Imp.refl ⟨rfl,trivial⟩ rfl ⟨⟨rfl,xa9⟩,trivial⟩ rfl
end An.S

/- Layers 4 and 5, as the references tell them: day by day. Plain data. -/
namespace An.S
open Go
/-- A row of one entry a day. -/
@[irreducible] def rowD {α:Type} (f:Nat→α):List α:=(List.range 65536).map f
theorem xf8 {α:Type} {f:Nat→α}:(rowD f).length=65536:=by unfold rowD;rw [List.length_map,List.length_range]
theorem rowD_get {α:Type} {f:Nat→α} {d:Nat} (h:d < 65536):(rowD f)[d]? =some (f d):=by
  unfold rowD;rw [List.getElem?_map,List.getElem?_range h];rfl
theorem rowD_set {α:Type} {f g:Nat→α} {d:Nat} {v:α} (hv:g d=v) (hg: ∀e,e≠d→g e=f e):(rowD f).set d v=rowD g:=by
  apply List.ext_getElem?
  intro e
  rw [List.getElem?_set]
  by_cases he:d=e
  · subst he
    rw [if_pos rfl]
    by_cases h:d < 65536
    · rw [if_pos (by rw [xf8];exact h),rowD_get h,hv]
    · rw [if_neg (by rw [xf8];exact h),List.getElem?_eq_none (by rw [xf8];omega)]
  · rw [if_neg he]
    by_cases h:e < 65536
    · rw [rowD_get h,rowD_get h,hg e (fun h'=>he h'.symm)]
    · rw [List.getElem?_eq_none (by rw [xf8];omega),List.getElem?_eq_none (by rw [xf8];omega)]
theorem rowD_rep {α:Type} (x:α):List.replicate 65536 x=rowD fun _=>x:=by
  unfold rowD
  rw [List.map_const',List.length_range]
/-- The table of the first i steps. -/
def tabI (l:List Tst):Nat→Nat→Int
  | 0,_=>0
  | i+1,d=>if (l.getD i tst0).lo≤d∧(d:Int) < (l.getD i tst0).hi then (i:Int)+1 else tabI l i d
def tabF (l:List Tst) (i:Nat) (e:Int) (d:Nat):Int:=if (l.getD i tst0).lo≤d∧(d:Int) < e then (i:Int)+1 else tabI l i d
theorem tabF_0 {l:List Tst} {i:Nat}:tabF l i (l.getD i tst0).lo=tabI l i:=by
  funext d;rw [tabF,if_neg (by omega)]
theorem tabF_1 {l:List Tst} {i:Nat} {e:Int} (h:e=(l.getD i tst0).hi):tabF l i e=tabI l (i+1):=by
  subst h;funext d;rfl
theorem tab_set {l:List Tst} {i d:Nat} {e:Int} (he:e=(d:Int)) (h:(l.getD i tst0).lo≤d):(rowD (tabF l i e)).set d ((i:Int)+1)=rowD (tabF l i (e+1)):=by
  subst he
  refine rowD_set (by rw [tabF,if_pos (by omega)]) fun x hx=> ?_
  rw [tabF,tabF]
  by_cases h1:(l.getD i tst0).lo≤x∧(x:Int) < d
  · rw [if_pos h1,if_pos (by omega)]
  · rw [if_neg h1,if_neg (by omega)]
theorem valT_take {l:List Tst} {i:Nat} (hi:i < l.length) (d:Int):valT (l.take (i+1)) d=(valT (l.take i) d).or (if (l.getD i tst0).lo≤d∧d < (l.getD i tst0).hi then some (l.getD i tst0).v else none):=by
  rw [List.take_succ_eq_append_getElem hi,valT_append,xf3,List.getD_eq_getElem?_getD,List.getElem?_eq_getElem hi];rfl
theorem tab_val {l:List Tst} (h:tRight l=true) (d:Nat): ∀i,i≤l.length→(tabI l i d=0∧valT (l.take i) d=none)∨ ∃j,j < i∧tabI l i d=(j:Int)+1∧valT (l.take i) d=some (l.getD j tst0).v
  | 0,_=> .inl ⟨rfl,by simp [valT]⟩
  | i+1,hi=>by
    have ih:=tab_val h d i (by omega)
    rw [valT_take (by omega)]
    by_cases hd:(l.getD i tst0).lo≤d∧(d:Int) < (l.getD i tst0).hi
    · refine .inr ⟨i,by omega,by rw [tabI,if_pos hd],?_⟩
      have hn:valT (l.take i) d=none:=valT_none.2 fun s hs hsd=>by
        obtain ⟨j,hj,e⟩:=List.getElem_of_mem hs
        rw [List.length_take] at hj
        have h1:=tRight_lt h (i:=j) (j:=i) (by omega) (by omega)
        rw [List.getElem_take] at e
        have e2:l.getD j tst0=s:=by rw [List.getD_eq_getElem?_getD,List.getElem?_eq_getElem (by omega)];exact e
        rw [e2] at h1;omega
      rw [hn,if_pos hd];rfl
    · rw [tabI,if_neg hd,if_neg hd,Option.or_none]
      rcases ih with ih | ⟨j,hj,h1,h2⟩
      · exact .inl ih
      · exact .inr ⟨j,by omega,h1,h2⟩
abbrev tabT (l:List Tst):Nat→Int:=tabI l l.length
theorem tabT_val {l:List Tst} (h:tRight l=true) (d:Nat):(tabT l d=0∧valT l d=none)∨ ∃j,j < l.length∧tabT l d=(j:Int)+1∧valT l d=some (l.getD j tst0).v:=by
  have:=tab_val h d l.length (Nat.le_refl _)
  rwa [List.take_length] at this
/-- The set of the first days that are marked. -/
def setK (f:Nat→Bool):Nat→List Sn
  | 0=>[]
  | d+1=>if f d then (if 0 < d∧f (d - 1)=true then (setK f d).set ((setK f d).length - 1) ⟨(lastS (setK f d)).lo,(d:Int)+1⟩ else setK f d++[⟨(d:Int),(d:Int)+1⟩]) else setK f d
theorem setK_no {f:Nat→Bool} {d:Nat} (h:f d=false):setK f (d+1)=setK f d:=by rw [setK,h];rfl
theorem setK_long {f:Nat→Bool} {d:Nat} (h:f d=true) (h0:0 < d∧f (d - 1)=true):setK f (d+1)=(setK f d).set ((setK f d).length - 1) ⟨(lastS (setK f d)).lo,(d:Int)+1⟩:=by rw [setK,if_pos h,if_pos h0]
theorem setK_new {f:Nat→Bool} {d:Nat} (h:f d=true) (h0: ¬(0 < d∧f (d - 1)=true)):setK f (d+1)=setK f d++[⟨(d:Int),(d:Int)+1⟩]:=by rw [setK,if_pos h,if_neg h0]
theorem lastS_snoc {l:List Sn} {s:Sn}:lastS (l++[s])=s:=by rw [lastS,getD_snocS,List.length_append];simp
theorem setK_all {f:Nat→Bool}: ∀d,d≤65536→sVal (setK f d)=true∧(∀x:Int,mem (setK f d) x=true↔0≤x∧x < d∧f x.toNat=true)∧(0 < (setK f d).length→(lastS (setK f d)).hi≤d)∧(0 < d∧f (d - 1)=true→0 < (setK f d).length∧(lastS (setK f d)).hi=d)∧(setK f d).length≤d∧(0 < (setK f d).length→ ¬(0 < d∧f (d - 1)=true)→(lastS (setK f d)).hi < d)
  | 0,_=>⟨rfl,fun x=>by simp [setK,mem];omega,fun h=>by simp [setK] at h,fun h=>by omega,by simp [setK],fun h=>by simp [setK] at h⟩
  | d+1,hd=>by
    obtain ⟨h1,h2,h3,h4,h5,h6⟩:=setK_all (f:=f) d (by omega)
    cases hf:f d with
    | false=>
      rw [setK_no hf]
      refine ⟨h1,fun x=> ?_,fun h=>by have:=h3 h;omega,fun h=>(by rw [Nat.add_sub_cancel,hf] at h;cases h.2),by omega,fun h _=>by have:=h3 h;omega⟩
      rw [h2]
      constructor
      · rintro ⟨q1,q2,q3⟩;exact ⟨q1,by omega,q3⟩
      · rintro ⟨q1,q2,q3⟩
        refine ⟨q1,?_,q3⟩
        by_cases hx:x.toNat=d
        · rw [hx,hf] at q3;cases q3
        · omega
    | true=>
      have hlast:0 < d+1∧f (d+1 - 1)=true:=⟨by omega,hf⟩
      by_cases h0:0 < d∧f (d - 1)=true
      · obtain ⟨k1,k2⟩:=h4 h0
        rw [setK_long hf h0]
        have hl:lastS ((setK f d).set ((setK f d).length - 1) ⟨(lastS (setK f d)).lo,(d:Int)+1⟩)=⟨(lastS (setK f d)).lo,(d:Int)+1⟩:=by
          rw [set_lastE k1];exact lastS_snoc
        refine ⟨sVal_long h1 k1 (by omega) (by omega),fun x=> ?_,fun _=>by rw [hl];dsimp only;omega,fun _=>⟨by rw [List.length_set];exact k1,by rw [hl];dsimp only;omega⟩,by rw [List.length_set];omega,fun _ h=>absurd hlast h⟩
        have e1:=split_last k1
        have e2: ∀x,mem (setK f d) x=(mem ((setK f d).take ((setK f d).length - 1)) x || (decide ((lastS (setK f d)).lo≤x) && decide (x < (lastS (setK f d)).hi))):=fun x=>by
          conv=>lhs;rw [e1]
          exact mem_snoc
        have hok:=xe5 h1 (i:=(setK f d).length - 1) (by omega)
        have hlo:(lastS (setK f d)).lo < (lastS (setK f d)).hi:=hok.2.1
        rw [set_lastE k1,mem_snoc]
        have h2x:=h2 x
        rw [e2,Bool.or_eq_true,Bool.and_eq_true,decide_eq_true_eq,decide_eq_true_eq] at h2x
        rw [Bool.or_eq_true,Bool.and_eq_true,decide_eq_true_eq,decide_eq_true_eq]
        by_cases hx:x=d
        · subst hx
          refine ⟨fun _=>⟨by omega,by omega,by simpa using hf⟩,fun _=> .inr ⟨by dsimp only;omega,by dsimp only;omega⟩⟩
        · constructor
          · intro hq
            have:=h2x.1 (hq.imp id fun h=>⟨h.1,by dsimp only at h;omega⟩)
            exact ⟨this.1,by omega,this.2.2⟩
          · intro hq
            exact (h2x.2 ⟨hq.1,by omega,hq.2.2⟩).imp id fun h=>⟨h.1,by dsimp only;omega⟩
      · rw [setK_new hf h0]
        refine ⟨sVal_snoc h1 ⟨by dsimp only;omega,by dsimp only;omega,by dsimp only;omega⟩ (fun h=>by have:=h6 h h0;dsimp only;omega),fun x=> ?_,fun _=>by rw [lastS_snoc];dsimp only;omega,fun _=>⟨by rw [List.length_append];simp,by rw [lastS_snoc];dsimp only;omega⟩,by rw [List.length_append];simp;omega,fun _ h=>absurd hlast h⟩
        rw [mem_snoc,Bool.or_eq_true,Bool.and_eq_true,decide_eq_true_eq,decide_eq_true_eq,h2]
        by_cases hx:x=d
        · subst hx
          exact ⟨fun _=>⟨by omega,by omega,by simpa using hf⟩,fun _=> .inr ⟨by dsimp only;omega,by dsimp only;omega⟩⟩
        · constructor
          · rintro (q | q)
            · exact ⟨q.1,by omega,q.2.2⟩
            · dsimp only at q;omega
          · rintro ⟨q1,q2,q3⟩;exact .inl ⟨q1,by omega,q3⟩
abbrev setD (f:Nat→Bool):List Sn:=setK f 65536
theorem set_is {f:Nat→Bool} {S:List Sn} (h:sVal S=true) (hm: ∀d:Nat,d < 65536→f d=mem S d):setD f=S:=by
  obtain ⟨h1,h2,_⟩:=setK_all (f:=f) 65536 (Nat.le_refl _)
  refine set_same h1 h fun x=> ?_
  have h2x:=h2 x
  by_cases hx:0≤x∧x < 65536
  · have e:((x.toNat:Nat):Int)=x:=by omega
    have:=hm x.toNat (by omega)
    rw [e] at this
    rw [←this]
    cases hfx:f x.toNat with
    | true=>exact h2x.2 ⟨hx.1,by omega,hfx⟩
    | false=>exact Bool.eq_false_iff.2 fun h=>by have:=(h2x.1 h).2.2;rw [hfx] at this;cases this
  · rw [Bool.eq_false_iff.2 fun h=>hx ⟨(h2x.1 h).1,by have:=(h2x.1 h).2.1;omega⟩]
    refine (mem_no.2 fun s hs hsd=> ?_).symm
    obtain ⟨i,hi,rfl⟩:=xh4 hs
    have:=xe5 h hi
    omega
/-- Whether the days differ, as the reference tells it. -/
def dfR (a b:List Tst) (d:Nat):Bool:=if 0 < tabT a d∧0 < tabT b d then !decide ((a.getD (tabT a d - 1).toNat tst0).v=(b.getD (tabT b d - 1).toNat tst0).v) else decide (0 < tabT a d+tabT b d)
/-- The days at which a value changes, as the reference tells it. -/
def chR (l:List Tst):Nat→List Int
  | 0=>[]
  | i+1=>(if i=0∨(l.getD (i - 1) tst0).hi≠(l.getD i tst0).lo then chR l i++[(l.getD i tst0).lo] else chR l i)++[(l.getD i tst0).hi]
theorem tab0 {l:List Tst}:tabI l 0=fun _=>0:=rfl
theorem tabT_bd {l:List Tst} (h:tRight l=true) (d:Nat):0≤tabT l d∧tabT l d≤l.length:=by
  rcases tabT_val h d with ⟨e,_⟩ | ⟨j,hj,e,_⟩ <;> rw [e] <;> omega
/-- The marks of the first days. -/
def mk (f:Nat→Bool) (d e:Nat):Bool:=decide (e < d) && f e
attribute [irreducible] setK tabI
end An.S

/- The references of layers 4 and 5, day by day. -/
namespace An.S
open Go Go.Proofs An
set_option maxHeartbeats 2000000
set_option maxRecDepth 100000
instance sl40:SlI Tryz.prog 40 3 1 false:=⟨Tryz.underlying40,ti3⟩
instance sl79:SlI Tryz.prog 79 4 1 false:=⟨Tryz.underlying79,ti4⟩
theorem el3:ElI Tryz.prog 3 1 8 false (.int .i64 0):=⟨ti3,by kernel_rfl,by kernel_rfl⟩
instance un40:UnI Tryz.prog 40 (.slice 3):=⟨Tryz.underlying40⟩
theorem c_R5Table (l:List Tst) (hl:l.length≤500000) (hok:tRight l=true):
  Ct Tryz.prog 88 [tL 8 true tTs l] (tL 1 false tI (rowD (tabT l))):=by
 obtain ⟨n,hn⟩: ∃n:Nat,n=65536:=⟨_,rfl⟩
 refine Ct.intro Tryz.func88 rfl Tryz.ntmps88 rfl ?_
 intro w F
 refine A7 ?_
 refine RE (xg8 (k:=6) (t:=tI 0) (ts:=rV tI (List.replicate n 0)) n n Tryz.underlying40 el3 (fun _ _=>rfl) rfl (by omega) (by omega) (Nat.le_refl _) (by omega) (by omega) (rV_rep _ _ rfl)) ⟨rfl,rfl,trivial⟩ trivial ⟨rfl,trivial⟩ ?_
 refine A9 ?_
 refine A1 ?_
 refine cL (fun (i:Nat)=>i≤l.length) (fun (i:Nat)=>upd (upd (upd (fun _=>none) 0 (some (.val (tL 8 true tTs l)))) 3 (some (.own (.sl 6 1 0 n)))) 4 (some (.val (tI i)))) (fun (i:Nat)=>upd (fun _=>none) 6 (some (⟨3,1,false,rV tI (rowD (tabI l i))⟩))) [6] (fun (i:Nat)=>l.length - i) (0) (Nat.zero_le _) (hh:=((SubK.consI rfl (ImpK.of (by rw [hn,rowD_rep,tab0]))) SubK.nil)) ?_
 intro i hI
 refine A9 ?_
 refine x9 rfl (fun h65=> ?_) (fun h65=> ?_)
 ·
  refine A8 ?_
  refine R2 (x6 sl22 (i) (by omega) (gD (l:=l) (n:=i) (d:=tst0) (by omega))) rfl rfl (R1 (xb4 fo34_0.h (At.f 0 rfl rfl) rfl) rfl ?_)
  refine A5 ?_
  have hat:=xh9 hok (i:=i) (by omega)
  refine cL (fun (e:Int)=>(l.getD i tst0).lo≤e∧e≤(l.getD i tst0).hi) (fun (e:Int)=>upd (upd (upd (upd (fun _=>none) 0 (some (.val (tL 8 true tTs l)))) 3 (some (.own (.sl 6 1 0 n)))) 4 (some (.val (tI i)))) 5 (some (.val (tI e)))) (fun (e:Int)=>upd (fun _=>none) 6 (some (⟨3,1,false,rV tI (rowD (tabF l i e))⟩))) [6] (fun (e:Int)=>((l.getD i tst0).hi - e).toNat) ((l.getD i tst0).lo) ⟨by omega,by omega⟩ (hh:=((SubK.consI rfl (ImpK.of (by rw [tabF_0]))) SubK.nil)) ?_
  intro e hI2
  obtain ⟨he1,he2⟩:=hI2
  refine A6 ?_
  refine R2 (x6 sl22 (i) (by omega) (gD (l:=l) (n:=i) (d:=tst0) (by omega))) rfl rfl (R1 (xb4 fo34_1.h (At.f 1 rfl rfl) rfl) rfl ?_)
  refine A4 ?_
  refine x9 rfl (fun h66=> ?_) (fun h66=> ?_)
  ·
   refine A9 ?_
   refine R2 (xa5 sl40 (by omega) (by omega) rfl) rfl rfl (RE (xc6 (e.toNat) ti3 (rV_lt (by rw [xf8];omega)) (by omega) (rV_set (f:=tI) (m:=(i:Int)+1) rfl)) ⟨rfl,rfl,trivial⟩ ⟨rfl,trivial⟩ trivial ?_)
   refine A8 ?_
   exact kF (e+1) ⟨⟨by omega,by omega⟩,(by omega)⟩ (hh:=((SubK.consI rfl (ImpK.of (by rw [tab_set (by omega) (by omega)]))) SubK.nil))
  ·
   refine A9 ?_
   refine A2 ?_
   exact kF (i+1) ⟨(by omega),(by omega)⟩ (hh:=((SubK.consI rfl (ImpK.of (by rw [tabF_1 (by omega)]))) SubK.nil))
 ·
  refine A7 ?_
  refine RE (xg0 (f:=tI) (xs:=rowD (tabI l i)) (fun _ h=>h) (rV_all (by rw [xf8];omega)) (by rw [xf8];omega)) ⟨rfl,trivial⟩ ⟨rfl,trivial⟩ trivial ?_
  refine A4 ?_
  exact x4 Plain.mk' rfl rfl (Le.of (by rw [show i=l.length by omega]))
theorem c_R4Set (f:Nat→Bool):
  Ct Tryz.prog 48 [tL 1 false tB (rowD f)] (tL 2 true tSn (setD f)):=by
 refine Ct.intro Tryz.func48 rfl Tryz.ntmps48 rfl ?_
 intro w F
 refine xd1 ?_
 refine xd0 ?_
 refine R1 xb3 rfl (xc7 (by kernel_rfl) (xb8 (xd1 ?_)))
 refine xd0 ?_
 refine RE (xd3 (k:=3) 62 2 true rfl (fun h=>by cases h)) trivial trivial ⟨rfl,trivial⟩ (xc7 (by kernel_rfl) (xb8 (xd1 (xd1 ?_))))
 refine xd0 ?_
 refine R1 xb3 rfl (xc7 (by kernel_rfl) (xb8 (C_block ?_)))
 refine cL (fun (fm:(Nat)×(List Sn))=>(fun (d:Nat) (xs:List Sn)=>d≤65536∧xs=setK f d) fm.1 fm.2) (fun (fm:(Nat)×(List Sn))=>(fun (d:Nat) (xs:List Sn)=>upd (upd (upd (fun _=>none) 0 (some (.val (tL 1 false tB (rowD f))))) 3 (some (.own (.sl 3 2 0 xs.length)))) 4 (some (.val (tI d)))) fm.1 fm.2) (fun (fm:(Nat)×(List Sn))=>(fun (d:Nat) (xs:List Sn)=>upd (fun _=>none) 3 (some (⟨62,2,true,rV tSn xs⟩))) fm.1 fm.2) [3] (fun (fm:(Nat)×(List Sn))=>(fun (d:Nat) (xs:List Sn)=>65536 - d) fm.1 fm.2) ((0,[])) (by dsimp only;exact ⟨Nat.zero_le _,by rw [setK]⟩) (hh:=((SubK.consI rfl ImpK.refl) SubK.nil)) ?_
 intro fm hI
 obtain ⟨d,xs⟩:=fm
 replace hI:d≤65536∧xs=setK f d:=hI
 show wc _ _ _ _ (upd (upd (upd (fun _=>none) 0 (some (.val (tL 1 false tB (rowD f))))) 3 (some (.own (.sl 3 2 0 xs.length)))) 4 (some (.val (tI d)))) (upd (fun _=>none) 3 (some (⟨62,2,true,rV tSn xs⟩))) _
 obtain ⟨hd,hx⟩:=hI
 have hxl:xs.length≤d:=by rw [hx];exact (setK_all d hd).2.2.2.2.1
 refine xd1 (xd1 ?_)
 refine xd0 ?_
 refine R1 xa2 rfl (R2 d_lss rfl rfl (xc7 (by kernel_rfl) (xb8 ?_)))
 refine x9 rfl (fun h35=> ?_) (fun h35=> ?_)
 ·
  refine C_skip (xb8 (xd1 (C_block (xd1 (xd1 ?_)))))
  refine xd0 ?_
  refine R1 xa2 rfl (R1 xa2 rfl (R2 (x6 sl79 (d) (by omega) (rowD_get (by omega))) rfl rfl (R1 (d_loadP ti4) rfl (R1 d_not rfl (xc7 (by kernel_rfl) (xb8 ?_))))))
  refine xd2 rfl (fun h36=> ?_) (fun h36=> ?_)
  ·
   have hf:f d=false:=by simpa using h36
   refine C_exit (K_exT (K_exB (xb8 ?_)))
   refine xd0 ?_
   refine R1 xa2 rfl (R2 (xd4 (wr64 (by omega) (by omega))) rfl rfl (R1 xb3 rfl (xc7 (by kernel_rfl) ?_)))
   exact kF ((d+1,xs)) ⟨(by dsimp only;exact ⟨by omega,by rw [setK_no hf,←hx]⟩),(by dsimp only;omega)⟩ (hh:=((SubK.consI rfl ImpK.refl) SubK.nil))
  ·
   have hf:f d=true:=by simpa using h36
   refine C_skip (xb8 (xd1 ?_))
   refine xd0 ?_
   refine R1 xa2 rfl (R2 d_gtr rfl rfl (R1 xa2 rfl ?_))
   refine RGcaseD (t:=16) rfl (fun h39=> ?_) (fun h39=> ?_)
   ·
    refine RGon (decide_eq_true h39) rfl xa2 rfl ⟨rfl,trivial⟩ trivial trivial (RGon (decide_eq_true h39) rfl xa2 rfl ⟨rfl,trivial⟩ trivial trivial (RGon (decide_eq_true h39) rfl (xe4 (wr64 (by omega) (by omega))) rfl ⟨rfl,rfl,trivial⟩ trivial trivial (RGon (decide_eq_true h39) rfl (x6 sl79 (d - 1) (by omega) (rowD_get (by omega))) rfl ⟨rfl,rfl,trivial⟩ trivial trivial (RGon (decide_eq_true h39) rfl (d_loadP ti4) rfl ⟨rfl,trivial⟩ trivial trivial (R2 (xg7 (decide_eq_true h39)) rfl rfl (xc7 (by kernel_rfl) (xb8 ?_)))))))
    refine xd2 rfl (fun h39_2=> ?_) (fun h39_2=> ?_)
    ·
     have hk:=(setK_all (f:=f) d (by omega)).2.2.2.1 ⟨by omega,h39_2⟩
     rw [←hx] at hk
     refine xd0 ?_
     refine R1 xa2 rfl (R1 xa2 rfl (R1 (d_lenO Tryz.underlying45) rfl (R2 (xe4 (wr64 (by omega) (by omega))) rfl rfl (R1 xa2 rfl (R2 (xd4 (wr64 (by omega) (by omega))) rfl rfl (R2 (xa5 sl45 (by omega) (by omega) rfl) rfl rfl (R1 (d_fieldO fo62_1.h rfl) rfl ?_)))))))
     refine RE (d_storeF (es:=2) (o:=1) (t2:=tSn ⟨(xs.getD (xs.length - 1) sn0).lo,(d:Int)+1⟩) (xs.length - 1) ti3 (xh3 (d:=sn0) (by omega)) (Up.g 1 rfl rfl rfl) (by omega) (rV_set rfl)) ⟨rfl,rfl,trivial⟩ ⟨rfl,trivial⟩ trivial (xc7 (by kernel_rfl) (K_norB (xb8 ?_)))
     refine xd0 ?_
     refine R1 xa2 rfl (R2 (xd4 (wr64 (by omega) (by omega))) rfl rfl (R1 xb3 rfl (xc7 (by kernel_rfl) ?_)))
     exact kF ((d+1,(xs.set (xs.length - 1) ⟨(xs.getD (xs.length - 1) sn0).lo,(d:Int)+1⟩))) ⟨(by dsimp only;exact ⟨by omega,by rw [setK_long hf ⟨by omega,h39_2⟩,←hx];rfl⟩),(by dsimp only;omega)⟩ (hg:=(sI ((Sub.consI rfl (Imp.of (by dsimp only;rw [List.length_set]))) (sC Sub.nil)))) (hh:=((SubK.consI rfl ImpK.refl) SubK.nil))
    ·
     refine xd0 ?_
     refine R1 xa2 rfl (R1 xa2 rfl (R1 xa2 rfl (R2 (xd4 (wr64 (by omega) (by omega))) rfl rfl (R2 (xb0 (r:=tS [⟨1,false,tI (d:Int)⟩,⟨1,false,tI ((d:Int)+1)⟩]) (ts:=[(0,tI (d:Int)),(1,tI ((d:Int)+1))]) bu62 zr62.2 ⟨_,rfl⟩ rfl ⟨_,_,_,_,rfl,Up.f (fs:=[⟨1,false,(tE (.int .i64 0))⟩,⟨1,false,(tE (.int .i64 0))⟩]) (f:=⟨1,false,(tE (.int .i64 0))⟩) (fs':=[⟨1,false,tI (d:Int)⟩,⟨1,false,(tE (.int .i64 0))⟩]) 0 rfl rfl rfl,inferInstance,⟨_,_,_,_,rfl,Up.f (fs:=[⟨1,false,tI (d:Int)⟩,⟨1,false,(tE (.int .i64 0))⟩]) (f:=⟨1,false,(tE (.int .i64 0))⟩) (fs':=[⟨1,false,tI (d:Int)⟩,⟨1,false,tI ((d:Int)+1)⟩]) 1 rfl rfl rfl,inferInstance,Le.refl⟩⟩) rfl rfl (R1 (xd6 (n:=1) (f:=tSn) [(⟨(d:Int),(d:Int)+1⟩:Sn)] Tryz.underlying45 el62 zf62 rfl (fun _=>inferInstance) rfl rfl rfl) rfl (RE (xc1 (k:=3) (k':=37) (f:=tSn) (ys:=[(⟨(d:Int),(d:Int)+1⟩:Sn)]) (ts':=rV tSn (xs++[(⟨(d:Int),(d:Int)+1⟩:Sn)])) Tryz.underlying45 el62 zf62 rfl rfl (fun _=>inferInstance) xf1 (by simp;omega) (by simp;omega) (by simp [rV]) (n':=xs.length+1) rfl) ⟨rfl,rfl,trivial⟩ ⟨rfl,trivial⟩ ⟨rfl,trivial⟩ (R1 xb3 rfl ?_)))))))
     refine xc7 (by kernel_rfl) (K_norB (xb8 ?_))
     refine xd0 ?_
     refine R1 xa2 rfl (R2 (xd4 (wr64 (by omega) (by omega))) rfl rfl (R1 xb3 rfl (xc7 (by kernel_rfl) ?_)))
     exact xe6 (l:=[3]) (fun j=>cond (Nat.beq j 3) 37 (j)) ((d+1,xs++[(⟨(d:Int),(d:Int)+1⟩:Sn)])) ⟨(by dsimp only;exact ⟨by omega,by rw [setK_new hf (fun h=>by rw [h39_2] at h;cases h.2),←hx]⟩),(by dsimp only;omega)⟩ (SubR.int rfl (by first | omega | rfl | (dsimp only;omega)) ((SubR.consI rfl (Imp.of (by dsimp only;rw [List.length_append];rfl))) (SubR.cons rfl SubR.nil))) ((SubKR.consI rfl (ImpK.of xb9.symm)) SubKR.nil) (SupG.val (SupG.own rfl (SupG.val SupG.nil))) (SupH.cons rfl (supJ xa9) SupH.nil) (lkOk rfl) rfl rfl (fun _ h=>by cases h)
   ·
    refine RGoff (decide_eq_false h39) rfl rfl (RGoff (decide_eq_false h39) rfl rfl (RGoff (decide_eq_false h39) rfl rfl (RGoff (decide_eq_false h39) rfl rfl (RGoff (decide_eq_false h39) rfl rfl (R2 (xg3 (decide_eq_false h39)) rfl rfl (xc7 (by kernel_rfl) (xb8 ?_)))))))
    refine xa8 rfl rfl ?_
    refine xd0 ?_
    refine R1 xa2 rfl (R1 xa2 rfl (R1 xa2 rfl (R2 (xd4 (wr64 (by omega) (by omega))) rfl rfl (R2 (xb0 (r:=tS [⟨1,false,tI (d:Int)⟩,⟨1,false,tI ((d:Int)+1)⟩]) (ts:=[(0,tI (d:Int)),(1,tI ((d:Int)+1))]) bu62 zr62.2 ⟨_,rfl⟩ rfl ⟨_,_,_,_,rfl,Up.f (fs:=[⟨1,false,(tE (.int .i64 0))⟩,⟨1,false,(tE (.int .i64 0))⟩]) (f:=⟨1,false,(tE (.int .i64 0))⟩) (fs':=[⟨1,false,tI (d:Int)⟩,⟨1,false,(tE (.int .i64 0))⟩]) 0 rfl rfl rfl,inferInstance,⟨_,_,_,_,rfl,Up.f (fs:=[⟨1,false,tI (d:Int)⟩,⟨1,false,(tE (.int .i64 0))⟩]) (f:=⟨1,false,(tE (.int .i64 0))⟩) (fs':=[⟨1,false,tI (d:Int)⟩,⟨1,false,tI ((d:Int)+1)⟩]) 1 rfl rfl rfl,inferInstance,Le.refl⟩⟩) rfl rfl (R1 (xd6 (n:=1) (f:=tSn) [(⟨(d:Int),(d:Int)+1⟩:Sn)] Tryz.underlying45 el62 zf62 rfl (fun _=>inferInstance) rfl rfl rfl) rfl (RE (xc1 (k:=3) (k':=37) (f:=tSn) (ys:=[(⟨(d:Int),(d:Int)+1⟩:Sn)]) (ts':=rV tSn (xs++[(⟨(d:Int),(d:Int)+1⟩:Sn)])) Tryz.underlying45 el62 zf62 rfl rfl (fun _=>inferInstance) xf1 (by simp;omega) (by simp;omega) (by simp [rV]) (n':=xs.length+1) rfl) ⟨rfl,rfl,trivial⟩ ⟨rfl,trivial⟩ ⟨rfl,trivial⟩ (R1 xb3 rfl ?_)))))))
    refine xc7 (by kernel_rfl) (K_norB (xb8 ?_))
    refine xd0 ?_
    refine R1 xa2 rfl (R2 (xd4 (wr64 (by omega) (by omega))) rfl rfl (R1 xb3 rfl (xc7 (by kernel_rfl) ?_)))
    exact xe6 (l:=[3]) (fun j=>cond (Nat.beq j 3) 37 (j)) ((d+1,xs++[(⟨(d:Int),(d:Int)+1⟩:Sn)])) ⟨(by dsimp only;exact ⟨by omega,by rw [setK_new hf (fun h=>by omega),←hx]⟩),(by dsimp only;omega)⟩ (SubR.int rfl (by first | omega | rfl | (dsimp only;omega)) ((SubR.consI rfl (Imp.of (by dsimp only;rw [List.length_append];rfl))) (SubR.cons rfl SubR.nil))) ((SubKR.consI rfl (ImpK.of xb9.symm)) SubKR.nil) (SupG.val (SupG.own rfl (SupG.val SupG.nil))) (SupH.cons rfl (supJ xa9) SupH.nil) (lkOk rfl) rfl rfl (fun _ h=>by cases h)
 ·
  refine C_exit (K_exT (K_exT (K_exB (xb8 (xd1 ?_)))))
  refine xd0 ?_
  refine RE (xg0 (f:=tSn) (xs:=xs) (fun _ h=>h) (rV_all rfl) rfl) ⟨rfl,trivial⟩ ⟨rfl,trivial⟩ trivial (R1 xb3 rfl (xc7 (by kernel_rfl) (xb8 (C_ret ?_))))
  exact x4 Plain.mk' rfl rfl (Le.of (by rw [hx,show d=65536 by omega]))
end An.S

/- Layer 4: unions, meets. -/
namespace An.S
open Go Go.Proofs An
set_option maxHeartbeats 2000000
abbrev tMem (x y:Bool):Ty:=tS [⟨1,false,tB x⟩,⟨1,false,tB y⟩]
def chY (a b:List Sn) (k:Nat):List Ty:=[tI ((chAll a b).getD k ch0).1,tMem (((chAll a b).getD k ch0).2.1%2==1) (((chAll a b).getD k ch0).2.2%2==1)]
end An.S

/- Layer 4: days are looked for. -/
namespace An.S
open Go Go.Proofs An
set_option maxHeartbeats 2000000
/-- The index of the first span that has days from d on. -/
def fnd (l:List Sn) (d:Int):Nat:=(l.takeWhile fun s=>decide (s.hi≤d)).length
theorem hi_mono {l:List Sn} (h:sVal l=true) {i j:Nat} (hij:i≤j) (hj:j < l.length):(l.getD i sn0).hi≤(l.getD j sn0).hi:=by
  rcases Nat.lt_or_ge i j with h1 | h1
  · have:=sVal_lt h h1 hj
    have:=xe5 h hj;omega
  · rw [show i=j by omega];exact Int.le_refl _
def hasB (l:List Sn) (d:Int):Bool:=decide (fnd l d < l.length) && decide ((l.getD (fnd l d) sn0).lo≤d)
def wi (b:List Sn) (s:Sn):Bool:=decide (fnd b s.lo < b.length) && decide ((b.getD (fnd b s.lo) sn0).lo≤s.lo) && decide (s.hi≤(b.getD (fnd b s.lo) sn0).hi)
end An.S

/- Layer 8: the service of records of quarters. -/
namespace An.S
open Go
theorem qcase {q:Int} (h0:0≤q) (h4:q≤4):q=0∨q=1∨q=2∨q=3∨q=4:=by omega
theorem qv_facts {q:Int} (h0:0≤q) (h4:q≤4):(qv q).valid=true∧sOk ⟨0,1,qv q⟩=true∧((qv q).f.n.l.length=0↔q=0)∧qsum (qv q) 4=q∧qcnt (qv q) 4=(if q=0 then 0 else 1):=by
  rcases qcase h0 h4 with rfl | rfl | rfl | rfl | rfl <;> decide+kernel
/-- A record of quarters. -/
def isB (l:List Tst):Prop:=tRight l=true∧ ∀s∈l,∃q:Int,0≤q∧q≤4∧s.v=qv q
theorem isB.dig {l:List Tst} (h:isB l): ∀s∈l,s.v.f.dig:=fun s hs=>by
  obtain ⟨q,_,_,e⟩:=h.2 s hs
  rw [e];exact dig_fr _
theorem isB.right {l:List Tst} (h:isB l):sRight l=true:=by
  rw [sRight,h.1,Bool.true_and]
  refine List.all_eq_true.2 fun s hs=> ?_
  obtain ⟨q,h0,h4,e⟩:=h.2 s hs
  have:=(qv_facts h0 h4).2.1
  simp only [sOk] at*
  rw [e];exact this
theorem isB.bd {l:List Tst} (h:isB l): ∀s∈l,0≤s.lo∧s.lo < s.hi∧s.hi≤65536:=fun s hs=>by
  obtain ⟨i,hi,rfl⟩:=xh5 hs
  have:=xh9 h.1 hi
  exact ⟨this.1,this.2.1,this.2.2.1⟩
theorem isB.pst1 {l:List Tst} {s:Tst} {q:Int} (h:isB l) (h0:0≤s.lo) (h1:s.hi≤65536) (q0:0≤q) (q4:q≤4) (hv:s.v=qv q) (hl:0 < l.length→(l.getD (l.length - 1) tst0).hi≤s.lo):isB (pst1 l s):=by
  refine ⟨pst1_right h.1 h0 h1 (by rw [hv];exact (qv_facts q0 q4).1) fun hp=>⟨hl hp,?_⟩,?_⟩
  · obtain ⟨p,_,_,e⟩:=h.2 _ (xc2 (l:=l) (i:=l.length - 1) (by omega))
    rw [e,hv];rfl
  · intro x hx
    rw [An.pst1] at hx
    split at hx
    · exact h.2 x hx
    · split at hx
      · rcases List.mem_or_eq_of_mem_set hx with h' | h'
        · exact h.2 x h'
        · subst h';exact h.2 (l.getD (l.length - 1) tst0) (xc2 (by omega))
      · rcases List.mem_append.1 hx with h' | h'
        · exact h.2 x h'
        · rw [List.mem_singleton.1 h'];exact ⟨q,q0,q4,hv⟩
/-! Sums of weights and days. -/
def wsum (w:Va→Int) (xs:List Tst):Int:=(xs.map fun s=>w s.v*(s.hi - s.lo)).sum
/-! Fractions. -/
/-! Days worked. -/
/-! Bounds. -/
end An.S

/- Law 8: ServiceCounts. -/
namespace An.S
open Go Go.Proofs An
set_option maxHeartbeats 2000000
end An.S

/- Law 8: ServiceBounds, ServiceCaps. -/
namespace An.S
open Go Go.Proofs An
set_option maxHeartbeats 2000000
end An.S

/- Worked days as a set of days. Plain data, but for what the walks define. -/
namespace An.S
open Go
end An.S

/- Layer 8: neighbouring spans. Plain data, but for what the walks define. -/
namespace An.S
open Go
def unionS (u v:List Sn):List Sn:=(ckRun (fun x y=>x || y) u v).xs
def meetS (u v:List Sn):List Sn:=(ckRun (fun x y=>x && y) u v).xs
theorem unionS_spec {u v:List Sn} (hu:sVal u=true) (hv:sVal v=true):sVal (unionS u v)=true∧ ∀d,mem (unionS u v) d=(mem u d || mem v d):=ck_all (kp:=fun x y=>x || y) hu hv rfl
end An.S

/- Layer 4: days looked for in sets. Plain data, but for what the walks define. -/
namespace An.S
open Go
theorem fnd_spec {d:Int}: ∀l:List Sn,(∀i,i < fnd l d→(l.getD i sn0).hi≤d)∧(fnd l d < l.length→d < (l.getD (fnd l d) sn0).hi)
  | []=>⟨fun i hi=>by simp [fnd] at hi,fun h=>by simp at h⟩
  | s::r=>by
    have ih:=fnd_spec (d:=d) r
    by_cases h:s.hi≤d
    · have e:fnd (s::r) d=fnd r d+1:=by rw [fnd,List.takeWhile_cons,if_pos (by simpa using h)];rfl
      rw [e]
      refine ⟨fun i hi=> ?_,fun hl=> ?_⟩
      · cases i with
        | zero=>exact h
        | succ i=>have:=ih.1 i (by omega);simpa using this
      · have:=ih.2 (by simpa using hl);simpa using this
    · have e:fnd (s::r) d=0:=by rw [fnd,List.takeWhile_cons,if_neg (by simpa using h)];rfl
      rw [e]
      exact ⟨fun i hi=>by omega,fun _=>by show d < s.hi;omega⟩
theorem lo_mono {l:List Sn} (h:sVal l=true) {i j:Nat} (hij:i≤j) (hj:j < l.length):(l.getD i sn0).lo≤(l.getD j sn0).lo:=by
  rcases Nat.lt_or_ge i j with h1 | h1
  · have:=sVal_lt h h1 hj
    have:=xe5 h (i:=i) (by omega);omega
  · rw [show i=j by omega];exact Int.le_refl _
theorem mem_at {l:List Sn} {d:Int} (h:mem l d=true): ∃i,i < l.length∧(l.getD i sn0).lo≤d∧d < (l.getD i sn0).hi:=by
  obtain ⟨s,hs,h1⟩:=mem_iff.1 h
  obtain ⟨i,hi,rfl⟩:=xh4 hs
  exact ⟨i,hi,h1⟩
theorem at_mem {l:List Sn} {d:Int} {i:Nat} (hi:i < l.length) (h1:(l.getD i sn0).lo≤d) (h2:d < (l.getD i sn0).hi):mem l d=true:=mem_iff.2 ⟨_,mem_getS hi,h1,h2⟩
end An.S

/- Layer 8: breaks and periods. Plain data, but for what the walks define. -/
namespace An.S
open Go
theorem brk_len {w:List Sn}:(brk w).length=w.length - 1:=by simp [brk]
theorem brk_getD {w:List Sn} {i:Nat} (hi:i+1 < w.length):(brk w).getD i sn0=⟨(w.getD i sn0).hi,(w.getD (i+1) sn0).lo⟩:=by
  rw [brk,List.getD_eq_getElem?_getD,List.getElem?_map,List.getElem?_range (by omega)];rfl
theorem brk_mem {w:List Sn} {g:Sn} (h:g∈brk w): ∃i,i+1 < w.length∧g=⟨(w.getD i sn0).hi,(w.getD (i+1) sn0).lo⟩:=by
  obtain ⟨i,hi,rfl⟩:=xh4 h
  rw [brk_len] at hi
  exact ⟨i,by omega,brk_getD (by omega)⟩
theorem brk_set {w:List Sn} (h:sVal w=true):sVal (brk w)=true:=by
  refine sVal_iff.2 fun i hi=>xi5.2 ?_
  rw [brk_len] at hi
  have h1:=sVal_lt h (show i < i+1 by omega) (by omega)
  have h2:=xe5 h (i:=i) (by omega)
  have h3:=xe5 h (i:=i+1) (by omega)
  rw [brk_getD (by omega)]
  refine ⟨by simp only [Sn.ok,Bool.and_eq_true,decide_eq_true_eq];omega,by dsimp only;omega,?_⟩
  by_cases h0:i=0
  · exact .inl h0
  · rw [brk_getD (by omega),show i - 1+1=i by omega]
    exact .inr h2.2.1
/-! All days together. -/
theorem all_one {w:List Sn} (h:sVal w=true):(unionS w (brk w)).length≤1:=by
  obtain ⟨u1,u2⟩:=unionS_spec h (brk_set h)
  rcases Nat.eq_zero_or_pos w.length with h0 | h0
  · have e:w=[]:=List.eq_nil_of_length_eq_zero h0
    have:unionS w (brk w)=[]:=set_same u1 rfl fun d=>by rw [u2,e];rfl
    rw [this];decide
  · have a0:=xe5 h (i:=0) h0
    have an:=xe5 h (i:=w.length - 1) (by omega)
    have ann:=hi_mono h (show 0≤w.length - 1 by omega) (by omega)
    have e:unionS w (brk w)=[⟨(w.getD 0 sn0).lo,(w.getD (w.length - 1) sn0).hi⟩]:=by
      refine set_same u1 (sVal_snoc (l:=[]) rfl ⟨a0.1,by dsimp only;omega,an.2.2⟩ fun h'=>by cases h') fun d=> ?_
      rw [u2,Bool.eq_iff_iff,Bool.or_eq_true,mem_iff (l:=[_])]
      simp only [List.mem_singleton,exists_eq_left]
      constructor
      · rintro (hm | hm)
        · obtain ⟨i,hi,h1,h2⟩:=mem_at hm
          have:=lo_mono h (Nat.zero_le i) hi
          have:=hi_mono h (show i≤w.length - 1 by omega) (by omega)
          omega
        · obtain ⟨g,hg,h1,h2⟩:=mem_iff.1 hm
          obtain ⟨i,hi,rfl⟩:=brk_mem hg
          have:=lo_mono h (Nat.zero_le i) (by omega)
          have:=xe5 h (i:=i) (by omega)
          have:=xe5 h (i:=i+1) (by omega)
          have:=hi_mono h (show i+1≤w.length - 1 by omega) (by omega)
          simp only at h1 h2
          omega
      · rintro ⟨h1,h2⟩
        have hf:=fnd_spec (d:=d) w
        have hfl:fnd w d < w.length:=by
          rcases Nat.lt_or_ge (w.length - 1) (fnd w d) with h3 | h3
          · have:=hf.1 _ h3;omega
          · omega
        have h4:=hf.2 hfl
        rcases Int.lt_or_le d (w.getD (fnd w d) sn0).lo with h5 | h5
        · right
          have hp:0 < fnd w d:=by
            rcases Nat.eq_zero_or_pos (fnd w d) with h6 | h6
            · rw [h6] at h5;omega
            · exact h6
          refine mem_iff.2 ⟨(brk w).getD (fnd w d - 1) sn0,mem_getS (by rw [brk_len];omega),?_⟩
          rw [brk_getD (by omega),show fnd w d - 1+1=fnd w d by omega]
          exact ⟨hf.1 _ (by omega),h5⟩
        · left;exact at_mem hfl h5 h4
    rw [e];exact Nat.le_refl _
theorem brk_out {w:List Sn} (h:sVal w=true) {i:Nat} (hi:i+1 < w.length) {x:Int} (h1:(w.getD i sn0).hi≤x) (h2:x < (w.getD (i+1) sn0).lo):mem w x=false:=by
  rw [Bool.eq_false_iff]
  intro hm
  obtain ⟨j,hj,h3,h4⟩:=mem_at hm
  rcases Nat.lt_or_ge i j with h5 | h5
  · have:=lo_mono h (show i+1≤j by omega) hj;omega
  · have:=hi_mono h h5 (by omega);omega
/-! Periods. -/
def brk2 (p:Int):List Sn→List Sn
  | []=>[]
  | s::r=>⟨p,s.lo⟩::brk2 s.hi r
theorem brk_cons: ∀(s:Sn) (r:List Sn),brk (s::r)=brk2 s.hi r
  | s,[]=>rfl
  | s,t::u=>by
    have ih:=brk_cons t u
    rw [brk2,←ih,brk,brk]
    show (List.range ((t::u).length - 1+1)).map _=_
    rw [List.range_succ_eq_map,List.map_cons,List.map_map]
    rfl
theorem brg_fold {d:Int} (hd:0≤d): ∀(xs acc:List Sn),setS xs→sVal acc=true→0 < acc.length→(∀s∈xs,(lastS acc).hi < s.lo)→
    sVal (xs.foldl (brg1 d) acc)=true∧ ∀x,mem (xs.foldl (brg1 d) acc) x=true↔mem acc x=true∨mem xs x=true∨ ∃g∈brk2 (lastS acc).hi xs,g.hi - g.lo≤d∧g.lo≤x∧x < g.hi
  | [],acc,_,hv,_,_=>⟨hv,fun x=>by simp [mem,brk2]⟩
  | s::r,acc,hx,hv,hp,hl=>by
    have hs:=hx.1 s (List.mem_cons_self ..)
    have hpw:=List.pairwise_cons.1 hx.2
    have hr:setS r:=⟨fun t ht=>hx.1 t (List.mem_cons_of_mem _ ht),hpw.2⟩
    have hls:=hl s (List.mem_cons_self ..)
    have key:sVal (brg1 d acc s)=true∧0 < (brg1 d acc s).length∧(lastS (brg1 d acc s)).hi=s.hi∧ ∀x,mem (brg1 d acc s) x=true↔mem acc x=true∨(s.lo≤x∧x < s.hi)∨(s.lo - (lastS acc).hi≤d∧(lastS acc).hi≤x∧x < s.lo):=by
      rw [brg1]
      split
      · rename_i hm
        have hm2:s.lo - (lastS acc).hi≤d:=hm.2
        have ha:=xe5 hv (i:=acc.length - 1) (by omega)
        have ha:0≤(lastS acc).lo∧(lastS acc).lo < (lastS acc).hi∧(lastS acc).hi≤65536:=ha
        have h2:=hs.2.1
        refine ⟨sVal_long hv hp (by omega) hs.2.2,by rw [List.length_set];exact hp,by rw [lastS,List.length_set,getD_setS (by omega),if_pos rfl],fun x=> ?_⟩
        rw [show (acc.getD (acc.length - 1) sn0).lo=(lastS acc).lo from rfl,set_lastE hp,mem_snoc]
        have e3:mem acc x=(mem (acc.take (acc.length - 1)) x || (decide ((lastS acc).lo≤x) && decide (x < (lastS acc).hi))):=by rw [←mem_snoc,←split_last hp]
        rw [e3]
        simp only [Bool.or_eq_true,Bool.and_eq_true,decide_eq_true_eq]
        by_cases hq:mem (acc.take (acc.length - 1)) x=true
        · simp [hq]
        · simp only [hq,false_or,Bool.false_eq_true];omega
      · rename_i hm
        have hm2: ¬s.lo - (lastS acc).hi≤d:=fun h'=>hm ⟨hp,h'⟩
        refine ⟨sVal_snoc hv hs fun _=>hls,by simp,by rw [lastS,getD_snocS,List.length_append,List.length_singleton,if_neg (by omega),if_pos (by omega)],fun x=> ?_⟩
        rw [mem_snoc]
        simp only [Bool.or_eq_true,Bool.and_eq_true,decide_eq_true_eq,hm2,false_and,or_false]
    obtain ⟨k1,k2,k3,k4⟩:=key
    have ih:=brg_fold hd r (brg1 d acc s) hr k1 k2 fun t ht=>by rw [k3];exact hpw.1 t ht
    refine ⟨ih.1,fun x=> ?_⟩
    rw [List.foldl_cons,ih.2 x,k4 x,k3,mem_cons]
    simp only [Bool.or_eq_true,Bool.and_eq_true,decide_eq_true_eq,brk2,List.mem_cons,exists_eq_or_imp]
    constructor
    · rintro ((h1 | h1 | h1) | h1 | h1)
      · exact .inl h1
      · exact .inr (.inl (.inl h1))
      · exact .inr (.inr (.inl h1))
      · exact .inr (.inl (.inr h1))
      · exact .inr (.inr (.inr h1))
    · rintro (h1 | (h1 | h1) | h1 | h1)
      · exact .inl (.inl h1)
      · exact .inl (.inr (.inl h1))
      · exact .inr (.inl h1)
      · exact .inl (.inr (.inr h1))
      · exact .inr (.inr h1)
theorem brg_spec {w:List Sn} {d:Int} (h:sVal w=true) (hd:0≤d):sVal (brg d w)=true∧ ∀x,mem (brg d w) x=true↔mem w x=true∨ ∃g∈brk w,g.hi - g.lo≤d∧g.lo≤x∧x < g.hi:=by
  cases w with
  | nil=>exact ⟨rfl,fun x=>by simp [brg,mem,brk]⟩
  | cons s r=>
    have hset:=sVal_set h
    have hpw:=List.pairwise_cons.1 hset.2
    have h1:brg1 d [] s=[s]:=by rw [brg1,if_neg (by simp)];rfl
    have hs1:sVal [s]=true:=sVal_snoc (l:=[]) rfl (hset.1 s (List.mem_cons_self ..)) fun h'=>by cases h'
    have:=brg_fold hd r [s] ⟨fun t ht=>hset.1 t (List.mem_cons_of_mem _ ht),hpw.2⟩ hs1 (by simp) hpw.1
    rw [brg,List.foldl_cons,h1,brk_cons]
    refine ⟨this.1,fun x=> ?_⟩
    rw [this.2 x,show mem (s::r) x=(mem [s] x || mem r x) by simp [mem],Bool.or_eq_true,or_assoc]
    exact Iff.rfl
end An.S

/- Layers 4 and 8, as the references tell them: sets of worked days, breaks, periods, day by day. Plain data. -/
namespace An.S
open Go
theorem mem_wkdR {l:List Tst} {a b d:Int} (h:tRight l=true) (h0:0≤a) (h1:b≤65536):mem (wkd l a b) d=true↔(a≤d∧d < b)∧ ∃s∈l,s.v.f.n.l.length≠0∧s.lo≤d∧d < s.hi:=by
  rw [wkd_eq h h0 h1]
  split
  · simp [mem];omega
  · rename_i hab
    have hm:=mem_mrg (d:=d) (wkS l a b) [] (wkS_asc h h0 h1 (by omega)) rfl fun h'=>by cases h'
    rw [mrg,hm]
    simp only [mem,List.any_nil,Bool.false_or]
    rw [show (wkS l a b).any (fun s=>decide (s.lo≤d) && decide (d < s.hi))=mem (wkS l a b) d from rfl,mem_iff]
    constructor
    · rintro ⟨x,hx,hx2⟩
      obtain ⟨s,hs,rfl⟩:=List.mem_map.1 hx
      obtain ⟨hs1,hs2⟩:=List.mem_filter.1 hs
      have hi: ¬_:=fun h'=>by rw [idle_iff.2 h'] at hs2;cases hs2
      simp only [clipS] at hx2
      exact ⟨by omega,s,hs1,by omega,by omega⟩
    · rintro ⟨hd,s,hs1,h3,h4⟩
      have hi: ¬idle a b s=true:=fun h'=>by have:=idle_iff.1 h';omega
      refine ⟨clipS a b s,List.mem_map.2 ⟨s,List.mem_filter.2 ⟨hs1,by simpa using hi⟩,rfl⟩,?_⟩
      simp only [clipS];omega
/-- The days from a to e, of those that are marked. -/
def mkF (g:Nat→Bool) (a e:Int) (d:Nat):Bool:=decide (a≤(d:Int)∧(d:Int) < e) && g d
theorem mkF_0 {g:Nat→Bool} {a e:Int} (h:e≤a):mkF g a e=fun _=>false:=by
  funext d;rw [mkF,decide_eq_false (by omega)];rfl
theorem mkF_set {g:Nat→Bool} {a e:Int} {d:Nat} (he:e=(d:Int)) (h:a≤(d:Int)):(rowD (mkF g a e)).set d (g d)=rowD (mkF g a (e+1)):=by
  subst he
  refine rowD_set (by rw [mkF,decide_eq_true (by omega)];rfl) fun x hx=> ?_
  rw [mkF,mkF]
  congr 1
  exact decide_eq_decide.2 (by omega)
/-- Whether a day is worked. -/
def wkR (l:List Tst) (d:Nat):Bool:=decide (0 < tabT l d) && decide (0 < ((l.getD (tabT l d - 1).toNat tst0).v.f.n.l.length:Int))
theorem wk_mem {l:List Tst} {a b:Int} (h:tRight l=true) (h0:0≤a) (h1:b≤65536) (d:Nat):mkF (wkR l) a b d=mem (wkd l a b) d:=by
  rw [Bool.eq_iff_iff,mem_wkdR h h0 h1,mkF,wkR,Bool.and_eq_true,Bool.and_eq_true,decide_eq_true_eq,decide_eq_true_eq,decide_eq_true_eq]
  refine and_congr Iff.rfl ?_
  rcases tabT_val h d with ⟨e1,e2⟩ | ⟨j,hj,e1,e2⟩
  · rw [e1]
    refine ⟨fun h=>by omega,fun ⟨s,hs,_,h3⟩=>absurd h3 (valT_none.1 e2 s hs)⟩
  · rw [e1,show ((j:Int)+1 - 1).toNat=j by omega]
    obtain ⟨s,hs,hsd,hv⟩:=valT_some e2
    constructor
    · rintro ⟨_,h3⟩
      exact ⟨s,hs,by rw [hv];omega,hsd⟩
    · rintro ⟨t,ht,h3,h4⟩
      have:s=t:=by
        obtain ⟨i,hi,rfl⟩:=xh5 hs
        obtain ⟨k,hk,rfl⟩:=xh5 ht
        rcases Nat.lt_trichotomy i k with q | q | q
        · have:=tRight_lt h q hk;omega
        · rw [q]
        · have:=tRight_lt h q hi;omega
      subst this
      rw [hv] at h3
      exact ⟨by omega,by omega⟩
theorem worked_R {l:List Tst} {a b:Int} (h:tRight l=true) (h0:0≤a) (h1:b≤65536):setD (mkF (wkR l) a b)=wkd l a b:=
  set_is (wkd_set h h0 h1).1 fun d _=>wk_mem h h0 h1 d
/-- The first and the last day of those that are marked. -/
def fsM (f:Nat→Bool):Nat→Int×Int
  | 0=>(65536, -1)
  | d+1=>if f d=true then (min (fsM f d).1 d,(d:Int)) else fsM f d
theorem fsM_0 {f:Nat→Bool}:fsM f 0=(65536, -1):=rfl
theorem fsM_yes {f:Nat→Bool} {d:Nat} (h:f d=true):fsM f (d+1)=(min (fsM f d).1 d,(d:Int)):=by rw [fsM,if_pos h]
theorem fsM_no {f:Nat→Bool} {d:Nat} (h:f d=false):fsM f (d+1)=fsM f d:=by rw [fsM,if_neg (by rw [h];decide)]
theorem fsM_all {f:Nat→Bool}: ∀n,n≤65536→(∀d,d < n→f d=true→(fsM f n).1≤d∧(d:Int)≤(fsM f n).2)∧(((fsM f n).1=65536∧(fsM f n).2= -1)∨ ∃x y:Nat,(fsM f n).1=x∧(fsM f n).2=y∧x≤y∧y < n∧f x=true∧f y=true)
  | 0,_=>⟨fun d hd=>by omega,.inl ⟨rfl,rfl⟩⟩
  | n+1,hn=>by
    obtain ⟨h1,h2⟩:=fsM_all (f:=f) n (by omega)
    cases hf:f n with
    | false=>
      have e:fsM f (n+1)=fsM f n:=by rw [fsM,if_neg (by rw [hf];decide)]
      rw [e]
      refine ⟨fun d hd hfd=>h1 d ?_ hfd,h2.imp id fun ⟨x,y,q1,q2,q3,q4,q5⟩=>⟨x,y,q1,q2,q3,by omega,q5⟩⟩
      by_cases hdn:d=n
      · subst hdn;rw [hf] at hfd;cases hfd
      · omega
    | true=>
      have e:fsM f (n+1)=(min (fsM f n).1 n,(n:Int)):=by rw [fsM,if_pos hf]
      rw [e]
      dsimp only
      refine ⟨fun d hd hfd=> ?_,.inr ?_⟩
      · by_cases hdn:d=n
        · subst hdn;omega
        · have:=h1 d (by omega) hfd;omega
      · rcases h2 with ⟨q1,q2⟩ | ⟨x,y,q1,q2,q3,q4,q5,q6⟩
        · exact ⟨n,n,by omega,rfl,Nat.le_refl _,by omega,hf,hf⟩
        · exact ⟨x,n,by omega,rfl,by omega,by omega,q5,hf⟩
theorem breaks_R {w:List Sn} {f:Nat→Bool} (hw:sVal w=true) (hf: ∀d:Nat,d < 65536→f d=mem w d):setD (mkF (fun d=> !f d) (fsM f 65536).1 ((fsM f 65536).2+1))=brk w:=by
  obtain ⟨h1,h2⟩:=fsM_all (f:=f) 65536 (Nat.le_refl _)
  refine set_is (brk_set hw) fun d hd=> ?_
  rw [Bool.eq_iff_iff,mkF,Bool.and_eq_true,decide_eq_true_eq,Bool.not_eq_true']
  have hin: ∀i,i < w.length→ ∀x:Int,(w.getD i sn0).lo≤x→x < (w.getD i sn0).hi→f x.toNat=true∧0≤x∧x < 65536:=fun i hi x q1 q2=>by
    have h3:=xe5 hw hi
    have e:((x.toNat:Nat):Int)=x:=by omega
    rw [hf _ (by omega),e]
    exact ⟨mem_iff.2 ⟨_,mem_getS hi,q1,q2⟩,by omega,by omega⟩
  constructor
  · rintro ⟨⟨h3,h4⟩,h5⟩
    rcases h2 with ⟨q1,q2⟩ | ⟨x,y,q1,q2,q3,q4,q5,q6⟩
    · omega
    · obtain ⟨u1,u2⟩:=unionS_spec hw (brk_set hw)
      have hone:=all_one hw
      have mx:mem (unionS w (brk w)) x=true:=by rw [u2,←hf x (by omega),q5];rfl
      have my:mem (unionS w (brk w)) y=true:=by rw [u2,←hf y (by omega),q6];rfl
      obtain ⟨s,hs,sx⟩:=mem_iff.1 mx
      obtain ⟨t,ht,sy⟩:=mem_iff.1 my
      have hst:s=t:=by
        obtain ⟨i,hi,rfl⟩:=xh4 hs
        obtain ⟨j,hj,rfl⟩:=xh4 ht
        rw [show i=j by omega]
      subst hst
      have md:mem (unionS w (brk w)) d=true:=mem_iff.2 ⟨s,hs,by omega,by omega⟩
      rw [u2,←hf d hd,h5,Bool.false_or] at md
      exact md
  · intro hm
    obtain ⟨g,hg,g1,g2⟩:=mem_iff.1 hm
    obtain ⟨i,hi,rfl⟩:=brk_mem hg
    dsimp only at g1 g2
    have a1:=xe5 hw (i:=i) (by omega)
    have a2:=xe5 hw (i:=i+1) (by omega)
    have b1:=hin i (by omega) _ (Int.le_refl _) a1.2.1
    have b2:=hin (i+1) (by omega) _ (Int.le_refl _) a2.2.1
    have c1:=h1 _ (by omega) b1.1
    have c2:=h1 _ (by omega) b2.1
    exact ⟨⟨by omega,by omega⟩,by rw [hf d hd];exact brk_out hw (by omega) g1 g2⟩
/-- The days of the first i spans. -/
def mkI (l:List Sn):Nat→Nat→Bool
  | 0,_=>false
  | i+1,d=>mkI l i d || decide ((l.getD i sn0).lo≤(d:Int)∧(d:Int) < (l.getD i sn0).hi)
def mkG (f:Nat→Bool) (a e:Int) (d:Nat):Bool:=f d || decide (a≤(d:Int)∧(d:Int) < e)
theorem mkG_0 {f:Nat→Bool} {a e:Int} (h:e≤a):mkG f a e=f:=by
  funext d;rw [mkG,decide_eq_false (by omega),Bool.or_false]
theorem mkG_set {f:Nat→Bool} {a e:Int} {d:Nat} (he:e=(d:Int)) (h:a≤(d:Int)):(rowD (mkG f a e)).set d true=rowD (mkG f a (e+1)):=by
  subst he
  refine rowD_set (by rw [mkG,decide_eq_true (by omega),Bool.or_true]) fun x hx=> ?_
  rw [mkG,mkG]
  congr 1
  exact decide_eq_decide.2 (by omega)
theorem mkI_0 {l:List Sn}:mkI l 0=fun _=>false:=by funext d;rw [mkI]
theorem mkI_next {l:List Sn} {i:Nat} {e:Int} (h:e=(l.getD i sn0).hi):mkG (mkI l i) (l.getD i sn0).lo e=mkI l (i+1):=by
  subst h;funext d;rfl
theorem mkI_all {l:List Sn} {d:Nat}: ∀i,i≤l.length→mkI l i d=mem (l.take i) d
  | 0,_=>by simp [mkI,mem]
  | i+1,hi=>by
    rw [mkI,mkI_all i (by omega),List.take_succ_eq_append_getElem (by omega),mem_snoc,List.getD_eq_getElem?_getD,List.getElem?_eq_getElem (by omega)]
    congr 1
    rw [Bool.eq_iff_iff];simp
theorem marks_R {l:List Sn}:mkI l l.length=fun d:Nat=>mem l d:=by
  funext d;rw [mkI_all _ (Nat.le_refl _),List.take_length]
/-- With the first i of the short gaps. -/
def bgI (w:List Sn) (m:Int):Nat→Nat→Bool
  | 0,d=>mem w d
  | i+1,d=>bgI w m i d || (decide ((w.getD (i+1) sn0).lo - (w.getD i sn0).hi≤m) && decide ((w.getD i sn0).hi≤(d:Int)∧(d:Int) < (w.getD (i+1) sn0).lo))
theorem bgI_0 {w:List Sn} {m:Int}:bgI w m 0=fun d:Nat=>mem w d:=by funext d;rw [bgI]
theorem bgI_no {w:List Sn} {m:Int} {i:Nat} (h: ¬(w.getD (i+1) sn0).lo - (w.getD i sn0).hi≤m):bgI w m (i+1)=bgI w m i:=by
  funext d;rw [bgI,decide_eq_false h,Bool.false_and,Bool.or_false]
theorem bgI_next {w:List Sn} {m:Int} {i:Nat} {e:Int} (h:(w.getD (i+1) sn0).lo - (w.getD i sn0).hi≤m) (he:e=(w.getD (i+1) sn0).lo):mkG (bgI w m i) (w.getD i sn0).hi e=bgI w m (i+1):=by
  subst he;funext d;rw [bgI,decide_eq_true h,Bool.true_and];rfl
theorem bgI_iff {w:List Sn} {m:Int} {d:Nat}: ∀i,bgI w m i d=true↔mem w d=true∨ ∃j,j < i∧(w.getD (j+1) sn0).lo - (w.getD j sn0).hi≤m∧(w.getD j sn0).hi≤(d:Int)∧(d:Int) < (w.getD (j+1) sn0).lo
  | 0=>by simp [bgI]
  | i+1=>by
    rw [bgI,Bool.or_eq_true,bgI_iff i,Bool.and_eq_true,decide_eq_true_eq,decide_eq_true_eq]
    constructor
    · rintro ((h | ⟨j,hj,h⟩) | h)
      · exact .inl h
      · exact .inr ⟨j,by omega,h⟩
      · exact .inr ⟨i,by omega,h⟩
    · rintro (h | ⟨j,hj,h⟩)
      · exact .inl (.inl h)
      · by_cases hji:j=i
        · subst hji;exact .inr h
        · exact .inl (.inr ⟨j,by omega,h⟩)
theorem bridge_R {w:List Sn} {m:Int} (h:sVal w=true) (hm:0≤m):setD (bgI w m (w.length - 1))=brg m w:=by
  obtain ⟨b1,b2⟩:=brg_spec h hm
  refine set_is b1 fun d hd=> ?_
  rw [Bool.eq_iff_iff,bgI_iff,b2]
  refine or_congr Iff.rfl ⟨?_,?_⟩
  · rintro ⟨j,hj,h1,h2⟩
    refine ⟨(brk w).getD j sn0,mem_getS (by rw [brk_len];exact hj),?_⟩
    rw [brk_getD (by omega)]
    exact ⟨h1,h2⟩
  · rintro ⟨g,hg,h1,h2⟩
    obtain ⟨i,hi,rfl⟩:=brk_mem hg
    exact ⟨i,by omega,h1,h2⟩
attribute [irreducible] mkI bgI fsM
end An.S

/- The references of layers 4 and 8: sets of days. -/
namespace An.S
open Go Go.Proofs An
set_option maxHeartbeats 2000000
set_option maxRecDepth 100000
instance fi20:FnI Tryz.prog 20:=⟨_,Tryz.func20,by kernel_rfl,rfl⟩
instance fi48:FnI Tryz.prog 48:=⟨_,Tryz.func48,by kernel_rfl,rfl⟩
instance fi49:FnI Tryz.prog 49:=⟨_,Tryz.func49,by kernel_rfl,rfl⟩
instance fi50:FnI Tryz.prog 50:=⟨_,Tryz.func50,by kernel_rfl,rfl⟩
instance fi88:FnI Tryz.prog 88:=⟨_,Tryz.func88,by kernel_rfl,rfl⟩
instance fi89:FnI Tryz.prog 89:=⟨_,Tryz.func89,by kernel_rfl,rfl⟩
instance fi90:FnI Tryz.prog 90:=⟨_,Tryz.func90,by kernel_rfl,rfl⟩
instance fi156:FnI Tryz.prog 156:=⟨_,Tryz.func156,by kernel_rfl,rfl⟩
theorem el4:ElI Tryz.prog 4 1 1 false (.bool false):=⟨ti4,by kernel_rfl,by kernel_rfl⟩
instance un79:UnI Tryz.prog 79 (.slice 4):=⟨Tryz.underlying79⟩
theorem c_R4Right (s:Sn):
  Ct Tryz.prog 156 [tSn s] (tB s.ok):=by
 refine Ct.intro Tryz.func156 rfl Tryz.ntmps156 rfl ?_
 intro w F
 refine A9 ?_
 refine A3 ?_
 refine RGcaseD (t:=6) rfl (fun h9=> ?_) (fun h9=> ?_)
 ·
  refine A7 ?_
  refine RGcaseD (t:=13) rfl (fun h9_2=> ?_) (fun h9_2=> ?_)
  ·
   refine A8 ?_
   exact x4 Plain.mk' rfl rfl (Le.bool (by simp [Sn.ok, *]))
  ·
   refine A8 ?_
   exact x4 Plain.mk' rfl rfl (Le.bool (by simp [Sn.ok, *]))
 ·
  refine A9 ?_
  refine A6 ?_
  exact x4 Plain.mk' rfl rfl (Le.bool (by simp [Sn.ok, *]))
theorem c_R4Valid (l:List Sn):
  Ct Tryz.prog 89 [tL 2 true tSn l] (tB (sVal l)):=by
 refine Ct.intro Tryz.func89 rfl Tryz.ntmps89 rfl ?_
 intro w F
 refine C_len (s:=0) rfl (fun hl0=> ?_)
 refine A9 ?_
 refine A3 ?_
 refine cL (fun (i:Nat)=>i≤l.length∧(List.range i).all (sOkA l)=true) (fun (i:Nat)=>upd (upd (fun _=>none) 0 (some (.val (tL 2 true tSn l)))) 3 (some (.val (tI i)))) (fun (i:Nat)=>fun _=>none) [] (fun (i:Nat)=>l.length - i) (0) ⟨Nat.zero_le _,rfl⟩ ?_
 intro i hI
 obtain ⟨hi,ha⟩:=hI
 refine A9 ?_
 refine x9 rfl (fun h13=> ?_) (fun h13=> ?_)
 ·
  refine A8 ?_
  refine R2 (x6 sl45 (i) (by omega) (gD (l:=l) (n:=i) (d:=sn0) (by omega))) rfl rfl ?_
  refine A1 ?_
  refine R1 (x3 (c_R4Right _) fi156 rfl) rfl ?_
  refine A2 ?_
  refine RGcase (t:=16) rfl (fun h14=> ?_) (fun h14=> ?_)
  ·
   refine A9 ?_
   refine A9 ?_
   refine A9 ?_
   refine A9 ?_
   refine A8 ?_
   exact x4 Plain.mk' rfl rfl (Le.bool (sVal_bad (i:=i) (by omega) fun h=>by rw [h.1] at h14;cases h14))
  ·
   refine A2 ?_
   refine RGon h14 rfl (x6 sl45 (i) (by omega) (gD (l:=l) (n:=i) (d:=sn0) (by omega))) rfl ⟨rfl,rfl,trivial⟩ trivial trivial (RGon h14 rfl (xb4 fo62_0.h (At.f 0 rfl rfl) rfl) rfl ⟨rfl,trivial⟩ trivial trivial ?_)
   refine A3 ?_
   refine RGon h14 rfl (x6 sl45 (i) (by omega) (gD (l:=l) (n:=i) (d:=sn0) (by omega))) rfl ⟨rfl,rfl,trivial⟩ trivial trivial (RGon h14 rfl (xb4 fo62_1.h (At.f 1 rfl rfl) rfl) rfl ⟨rfl,trivial⟩ trivial trivial ?_)
   refine A4 ?_
   refine RGcaseD (t:=29) rfl (fun h14_2=> ?_) (fun h14_2=> ?_)
   ·
    refine A9 ?_
    refine A9 ?_
    refine A9 ?_
    refine A4 ?_
    exact x4 Plain.mk' rfl rfl (Le.bool (sVal_bad (i:=i) (by omega) (by omega)))
   ·
    refine A3 ?_
    refine RGcaseD (t:=32) rfl (fun h14_3=> ?_) (fun h14_3=> ?_)
    ·
     refine A2 ?_
     refine RGon (decide_eq_true h14_3) rfl (xe4 (wr64 (by omega) (by omega))) rfl ⟨rfl,rfl,trivial⟩ trivial trivial (RGon (decide_eq_true h14_3) rfl (x6 sl45 (i - 1) (by omega) (gD (l:=l) (n:=i - 1) (d:=sn0) (by omega))) rfl ⟨rfl,rfl,trivial⟩ trivial trivial (RGon (decide_eq_true h14_3) rfl (xb4 fo62_1.h (At.f 1 rfl rfl) rfl) rfl ⟨rfl,trivial⟩ trivial trivial ?_))
     refine A3 ?_
     refine RGon (decide_eq_true h14_3) rfl (x6 sl45 (i) (by omega) (gD (l:=l) (n:=i) (d:=sn0) (by omega))) rfl ⟨rfl,rfl,trivial⟩ trivial trivial (RGon (decide_eq_true h14_3) rfl (xb4 fo62_0.h (At.f 0 rfl rfl) rfl) rfl ⟨rfl,trivial⟩ trivial trivial ?_)
     refine A2 ?_
     refine RGon (decide_eq_false h14_2) rfl (xg7 (decide_eq_true h14_3)) rfl ⟨rfl,rfl,trivial⟩ trivial trivial ?_
     refine A3 ?_
     refine x9 rfl (fun h14_4=> ?_) (fun h14_4=> ?_)
     ·
      refine A9 ?_
      refine A2 ?_
      exact x4 Plain.mk' rfl rfl (Le.bool (sVal_bad (i:=i) (by omega) (by omega)))
     ·
      refine A8 ?_
      have hok:sOkA l i=true:=xi5.2 ⟨by simpa using h14,by omega,by omega⟩
      exact kF (i+1) ⟨⟨by omega,by rw [xj0,ha,Bool.true_and];exact hok⟩,(by omega)⟩
    ·
     refine A9 ?_
     refine A3 ?_
     refine RGon (decide_eq_false h14_2) rfl (xg3 (decide_eq_false h14_3)) rfl ⟨rfl,rfl,trivial⟩ trivial trivial ?_
     refine A9 ?_
     refine A3 ?_
     have hok:sOkA l i=true:=xi5.2 ⟨by simpa using h14,by omega,by omega⟩
     exact kF (i+1) ⟨⟨by omega,by rw [xj0,ha,Bool.true_and];exact hok⟩,(by omega)⟩
 ·
  refine A9 ?_
  refine A2 ?_
  exact x4 Plain.mk' rfl rfl (Le.bool (by rw [sVal,←show i=l.length by omega,ha]))
theorem c_R4Marks (l:List Sn) (hv:sVal l=true) (n:Nat) (hn:n=65536):
  CtG Tryz.prog 90 [] [.val (tL 2 true tSn l)] (.own (.sl 6 1 0 n)) [(6,⟨4,1,false,rV tB (rowD (fun d:Nat=>mem l d))⟩)] [6]:=by
 refine CtG.intro [] Tryz.func90 rfl Tryz.ntmps90 rfl rfl trivial ?_
 intro w F η
 refine C_len (s:=0) rfl (fun hl0=> ?_)
 refine A7 ?_
 refine RE (xg8 (k:=6) (t:=tB false) (ts:=rV tB (List.replicate n false)) n n Tryz.underlying79 el4 (fun _ _=>rfl) rfl (by omega) (by omega) (Nat.le_refl _) (by omega) (by omega) (rV_rep _ _ rfl)) ⟨rfl,rfl,trivial⟩ trivial ⟨rfl,trivial⟩ ?_
 refine A9 ?_
 refine A1 ?_
 refine cL (fun (i:Nat)=>i≤l.length) (fun (i:Nat)=>upd (upd (upd (fun _=>none) 0 (some (.val (tL 2 true tSn l)))) 3 (some (.own (.sl 6 1 0 n)))) 4 (some (.val (tI i)))) (fun (i:Nat)=>upd (fun _=>none) 6 (some (⟨4,1,false,rV tB (rowD (mkI l i))⟩))) [6] (fun (i:Nat)=>l.length - i) (0) (Nat.zero_le _) (hh:=((SubK.consI rfl (ImpK.of (by rw [hn,rowD_rep,mkI_0]))) SubK.nil)) ?_
 intro i hI
 refine A9 ?_
 refine x9 rfl (fun h24=> ?_) (fun h24=> ?_)
 ·
  refine A8 ?_
  refine R2 (x6 sl45 (i) (by omega) (gD (l:=l) (n:=i) (d:=sn0) (by omega))) rfl rfl (R1 (xb4 fo62_0.h (At.f 0 rfl rfl) rfl) rfl ?_)
  refine A5 ?_
  have hat:=xe5 hv (i:=i) (by omega)
  refine cL (fun (e:Int)=>(l.getD i sn0).lo≤e∧e≤(l.getD i sn0).hi) (fun (e:Int)=>upd (upd (upd (upd (fun _=>none) 0 (some (.val (tL 2 true tSn l)))) 3 (some (.own (.sl 6 1 0 n)))) 4 (some (.val (tI i)))) 5 (some (.val (tI e)))) (fun (e:Int)=>upd (fun _=>none) 6 (some (⟨4,1,false,rV tB (rowD (mkG (mkI l i) (l.getD i sn0).lo e))⟩))) [6] (fun (e:Int)=>((l.getD i sn0).hi - e).toNat) ((l.getD i sn0).lo) ⟨by omega,by omega⟩ (hh:=((SubK.consI rfl (ImpK.of (by rw [mkG_0 (Int.le_refl _)]))) SubK.nil)) ?_
  intro e hI2
  obtain ⟨he1,he2⟩:=hI2
  refine A6 ?_
  refine R2 (x6 sl45 (i) (by omega) (gD (l:=l) (n:=i) (d:=sn0) (by omega))) rfl rfl (R1 (xb4 fo62_1.h (At.f 1 rfl rfl) rfl) rfl ?_)
  refine A4 ?_
  refine x9 rfl (fun h25=> ?_) (fun h25=> ?_)
  ·
   refine A7 ?_
   refine R2 (xa5 sl79 (by omega) (by omega) rfl) rfl rfl (RE (xc6 (e.toNat) ti4 (rV_lt (by rw [xf8];omega)) (by omega) (rV_set (f:=tB) (m:=true) rfl)) ⟨rfl,rfl,trivial⟩ ⟨rfl,trivial⟩ trivial ?_)
   refine A8 ?_
   exact kF (e+1) ⟨⟨by omega,by omega⟩,(by omega)⟩ (hh:=((SubK.consI rfl (ImpK.of (by rw [mkG_set (by omega) (by omega)]))) SubK.nil))
  ·
   refine A9 ?_
   refine A2 ?_
   exact kF (i+1) ⟨(by omega),(by omega)⟩ (hh:=((SubK.consI rfl (ImpK.of (by rw [mkI_next (by omega)]))) SubK.nil))
 ·
  refine A6 ?_
  refine C_key (k:=6) (e':=⟨4,1,false,rV tB (rowD (fun d:Nat=>mem l d))⟩) rfl (by rw [show i=l.length by omega,marks_R]) ?_
  refine A6 ?_
  exact xe3 LentC.mk' rfl rfl Imp.refl ⟨rfl,trivial⟩ rfl ⟨⟨rfl,xa9⟩,trivial⟩ rfl
theorem c_R4Bridge (l:List Sn) (m:Int):
  Ct Tryz.prog 50 [tL 2 true tSn l,tI m] (tT [tL 2 true tSn (if sVal l=true∧0≤m then brg m l else []),tI (if sVal l=true∧0≤m then 0 else 2)]):=by
 obtain ⟨n,hn⟩: ∃n:Nat,n=65536:=⟨_,rfl⟩
 refine Ct.intro Tryz.func50 rfl Tryz.ntmps50 rfl ?_
 intro w F
 refine C_len (s:=0) rfl (fun hl0=> ?_)
 refine A9 ?_
 refine A1 ?_
 refine R1 (x3 (c_R4Valid l) fi89 rfl) rfl ?_
 refine A2 ?_
 refine RGcase (t:=12) rfl (fun h79=> ?_) (fun h79=> ?_)
 ·
  refine A9 ?_
  refine A5 ?_
  exact xc8 Plain.mk' rfl rfl rfl (leNil (by rw [if_neg (fun h=>by rw [h.1] at h79;cases h79)])) (Le.int (by rw [if_neg (fun h=>by rw [h.1] at h79;cases h79)]))
 ·
  refine A5 ?_
  refine x9 rfl (fun h79_2=> ?_) (fun h79_2=> ?_)
  ·
   refine A8 ?_
   exact xc8 Plain.mk' rfl rfl rfl (leNil (by rw [if_neg (by omega)])) (Le.int (by rw [if_neg (by omega)]))
  ·
   refine A3 ?_
   have hok:sVal l=true∧0≤m:=⟨by simpa using h79,by omega⟩
   refine A2 ?_
   refine RE (xe0 (fun _=>17) (c_R4Marks l hok.1 n hn) fi90 rfl (krN (ρ:=fun _=>17)) (krC (ρ:=fun _=>17) (k:=6) xb9 (krN (ρ:=fun _=>17))) ⟨⟨rfl,xa9⟩,trivial⟩ rfl) ⟨rfl,trivial⟩ trivial ⟨rfl,trivial⟩ ?_
   refine A9 ?_
   refine A1 ?_
   refine cL (fun (i:Nat)=>i≤l.length - 1) (fun (i:Nat)=>upd (upd (upd (upd (fun _=>none) 0 (some (.val (tL 2 true tSn l)))) 1 (some (.val (tI m)))) 6 (some (.own (.sl 17 1 0 n)))) 7 (some (.val (tI ((i:Int)+1))))) (fun (i:Nat)=>upd (fun _=>none) 17 (some (⟨4,1,false,rV tB (rowD (bgI l m i))⟩))) [17] (fun (i:Nat)=>l.length - i) (0) (Nat.zero_le _) (hh:=((SubK.consI rfl (ImpK.of (by rw [bgI_0]))) SubK.nil)) ?_
   intro i hI
   refine A9 ?_
   refine x9 rfl (fun h83=> ?_) (fun h83=> ?_)
   ·
    refine A8 ?_
    refine R2 (x6 sl45 (i+1) (by omega) (gD (l:=l) (n:=i+1) (d:=sn0) (by omega))) rfl rfl (R1 (xb4 fo62_0.h (At.f 0 rfl rfl) rfl) rfl ?_)
    refine A4 ?_
    have h1:=xe5 hok.1 (i:=i) (by omega)
    have h2:=xe5 hok.1 (i:=i+1) (by omega)
    have h3:=sVal_lt hok.1 (show i < i+1 by omega) (by omega)
    refine R2 (x6 sl45 (i) (by omega) (gD (l:=l) (n:=i) (d:=sn0) (by omega))) rfl rfl (R1 (xb4 fo62_1.h (At.f 1 rfl rfl) rfl) rfl ?_)
    refine A6 ?_
    refine x9 rfl (fun h84=> ?_) (fun h84=> ?_)
    ·
     refine A5 ?_
     refine R2 (x6 sl45 (i) (by omega) (gD (l:=l) (n:=i) (d:=sn0) (by omega))) rfl rfl (R1 (xb4 fo62_1.h (At.f 1 rfl rfl) rfl) rfl ?_)
     refine A5 ?_
     refine cL (fun (e:Int)=>(l.getD i sn0).hi≤e∧e≤(l.getD (i+1) sn0).lo) (fun (e:Int)=>upd (upd (upd (upd (upd (fun _=>none) 0 (some (.val (tL 2 true tSn l)))) 1 (some (.val (tI m)))) 6 (some (.own (.sl 17 1 0 n)))) 7 (some (.val (tI ((i:Int)+1))))) 8 (some (.val (tI e)))) (fun (e:Int)=>upd (fun _=>none) 17 (some (⟨4,1,false,rV tB (rowD (mkG (bgI l m i) (l.getD i sn0).hi e))⟩))) [17] (fun (e:Int)=>((l.getD (i+1) sn0).lo - e).toNat) ((l.getD i sn0).hi) ⟨by omega,by omega⟩ (hh:=((SubK.consI rfl (ImpK.of (by rw [mkG_0 (Int.le_refl _)]))) SubK.nil)) ?_
     intro e hI2
     obtain ⟨he1,he2⟩:=hI2
     refine A6 ?_
     refine R2 (x6 sl45 (i+1) (by omega) (gD (l:=l) (n:=i+1) (d:=sn0) (by omega))) rfl rfl (R1 (xb4 fo62_0.h (At.f 0 rfl rfl) rfl) rfl ?_)
     refine A4 ?_
     refine x9 rfl (fun h85=> ?_) (fun h85=> ?_)
     ·
      refine A7 ?_
      refine R2 (xa5 sl79 (by omega) (by omega) rfl) rfl rfl (RE (xc6 (e.toNat) ti4 (rV_lt (by rw [xf8];omega)) (by omega) (rV_set (f:=tB) (m:=true) rfl)) ⟨rfl,rfl,trivial⟩ ⟨rfl,trivial⟩ trivial ?_)
      refine A8 ?_
      exact kF (e+1) ⟨⟨by omega,by omega⟩,(by omega)⟩ (hh:=((SubK.consI rfl (ImpK.of (by rw [mkG_set (by omega) (by omega)]))) SubK.nil))
     ·
      refine A9 ?_
      refine A2 ?_
      exact kF (i+1) ⟨(by omega),(by omega)⟩ (hh:=((SubK.consI rfl (ImpK.of (by rw [bgI_next (by omega) (by omega)]))) SubK.nil))
    ·
     refine A8 ?_
     exact kF (i+1) ⟨(by omega),(by omega)⟩ (hh:=((SubK.consI rfl (ImpK.of (by rw [bgI_no (by omega)]))) SubK.nil))
   ·
    refine A6 ?_
    refine C_key (k:=17) (e':=⟨4,1,false,rV tB (rowD (bgI l m (l.length - 1)))⟩) rfl (by rw [show i=l.length - 1 by omega]) ?_
    refine A1 ?_
    refine RE (xg0 (f:=tB) (xs:=rowD (bgI l m (l.length - 1))) (fun _ h=>h) (rV_all (by rw [xf8];omega)) (by rw [xf8];omega)) ⟨rfl,trivial⟩ ⟨rfl,trivial⟩ trivial (R1 (x3 (c_R4Set (bgI l m (l.length - 1))) fi48 rfl) rfl ?_)
    refine A5 ?_
    exact xc8 Plain.mk' rfl rfl rfl (Le.of (by rw [if_pos hok,bridge_R hok.1 hok.2])) (Le.int (by rw [if_pos hok]))
theorem c_R8marks (l:List Tst) (a b:Int) (hl:l.length≤500000) (hok:tRight l=true) (h0:0≤a) (h1:b≤65536):
  Ct Tryz.prog 49 [tL 8 true tTs l,tI a,tI b] (tL 1 false tB (rowD (mkF (wkR l) a b))):=by
 obtain ⟨n,hn⟩: ∃n:Nat,n=65536:=⟨_,rfl⟩
 refine Ct.intro Tryz.func49 rfl Tryz.ntmps49 rfl ?_
 intro w F
 refine xd1 ?_
 refine xd0 ?_
 refine R1 xb3 rfl (xc7 (by kernel_rfl) (xb8 (xd1 ?_)))
 refine xd0 ?_
 refine R1 xa2 rfl (R1 (x3 (c_R5Table l hl hok) fi88 rfl) rfl (R1 xb3 rfl (xc7 (by kernel_rfl) (xb8 (xd1 ?_)))))
 refine xd0 ?_
 refine RE (xg8 (k:=12) (t:=tB false) (ts:=rV tB (List.replicate n false)) n n Tryz.underlying79 el4 (fun _ _=>rfl) rfl (by omega) (by omega) (Nat.le_refl _) (by omega) (by omega) (rV_rep _ _ rfl)) ⟨rfl,rfl,trivial⟩ trivial ⟨rfl,trivial⟩ (R1 xb3 rfl (xc7 (by kernel_rfl) (xb8 (xd1 (xd1 ?_)))))
 refine xd0 ?_
 refine R1 xa2 rfl (R1 xb3 rfl (xc7 (by kernel_rfl) (xb8 (C_block ?_))))
 refine cL (fun (e:Int)=>a≤e∧(e≤b∨e=a)) (fun (e:Int)=>upd (upd (upd (upd (upd (fun _=>none) 0 (some (.val (tL 8 true tTs l)))) 2 (some (.val (tI b)))) 7 (some (.val (tL 1 false tI (rowD (tabT l)))))) 8 (some (.own (.sl 12 1 0 n)))) 9 (some (.val (tI e)))) (fun (e:Int)=>upd (fun _=>none) 12 (some (⟨4,1,false,rV tB (rowD (mkF (wkR l) a e))⟩))) [12] (fun (e:Int)=>(b - e).toNat) (a) ⟨Int.le_refl _,.inr rfl⟩ (hh:=((SubK.consI rfl (ImpK.of (by rw [hn,rowD_rep,mkF_0 (Int.le_refl _)]))) SubK.nil)) ?_
 intro e hI
 obtain ⟨he1,he2⟩:=hI
 have qa:=tabT_bd hok (e.toNat)
 refine xd1 (xd1 ?_)
 refine xd0 ?_
 refine R1 xa2 rfl (R1 xa2 rfl (R2 d_lss rfl rfl (xc7 (by kernel_rfl) (xb8 ?_))))
 refine x9 rfl (fun h77=> ?_) (fun h77=> ?_)
 ·
  refine C_skip (xb8 (xd1 (C_block ?_)))
  refine xd0 ?_
  refine R1 xa2 rfl (R1 xa2 rfl (R1 xa2 rfl (R1 xa2 rfl (R2 (x6 sl40 ((e.toNat)) (by omega) (rowD_get (by omega))) rfl rfl (R1 (d_loadP ti3) rfl (R2 d_gtr rfl rfl (R1 xa2 rfl ?_)))))))
  refine RGcaseD (t:=26) rfl (fun h78=> ?_) (fun h78=> ?_)
  ·
   refine RGon (decide_eq_true h78) rfl xa2 rfl ⟨rfl,trivial⟩ trivial trivial (RGon (decide_eq_true h78) rfl xa2 rfl ⟨rfl,trivial⟩ trivial trivial (RGon (decide_eq_true h78) rfl xa2 rfl ⟨rfl,trivial⟩ trivial trivial (RGon (decide_eq_true h78) rfl (x6 sl40 ((e.toNat)) (by omega) (rowD_get (by omega))) rfl ⟨rfl,rfl,trivial⟩ trivial trivial (RGon (decide_eq_true h78) rfl (d_loadP ti3) rfl ⟨rfl,trivial⟩ trivial trivial (RGon (decide_eq_true h78) rfl (xe4 (wr64 (by omega) (by omega))) rfl ⟨rfl,rfl,trivial⟩ trivial trivial (RGon (decide_eq_true h78) rfl (x6 sl22 ((tabT l (e.toNat) - 1).toNat) (by omega) (gD (l:=l) (n:=(tabT l (e.toNat) - 1).toNat) (d:=tst0) (by omega))) rfl ⟨rfl,rfl,trivial⟩ trivial trivial (RGon (decide_eq_true h78) rfl (xb4 fo34_2.h (At.f 2 rfl rfl) rfl) rfl ⟨rfl,trivial⟩ trivial trivial ?_)))))))
   refine RGon (decide_eq_true h78) rfl (xb4 fo32_1.h (At.f 1 rfl rfl) rfl) rfl ⟨rfl,trivial⟩ trivial trivial (RGon (decide_eq_true h78) rfl (xb4 fo30_0.h (At.f 0 rfl rfl) rfl) rfl ⟨rfl,trivial⟩ trivial trivial (RGon (decide_eq_true h78) rfl (xb4 fo28_1.h (At.f 1 rfl rfl) rfl) rfl ⟨rfl,trivial⟩ trivial trivial (RGon (decide_eq_true h78) rfl (d_loadP ti26) rfl ⟨rfl,trivial⟩ trivial trivial (RGon (decide_eq_true h78) rfl (d_len Tryz.underlying26) rfl ⟨rfl,trivial⟩ trivial trivial (RGon (decide_eq_true h78) rfl d_gtr rfl ⟨rfl,rfl,trivial⟩ trivial trivial (R2 (xg7 (decide_eq_true h78)) rfl rfl (R2 (xa5 sl79 (by omega) (by omega) rfl) rfl rfl ?_)))))))
   refine RE (xc6 ((e.toNat)) ti4 (rV_lt (by rw [xf8];omega)) (by omega) (rV_set (f:=tB) (m:=wkR l (e.toNat)) (by rw [wkR,decide_eq_true h78,Bool.true_and]))) ⟨rfl,rfl,trivial⟩ ⟨rfl,trivial⟩ trivial (xc7 (by kernel_rfl) (K_norB (xb8 ?_)))
   refine xd0 ?_
   refine R1 xa2 rfl (R2 (xd4 (wr64 (by omega) (by omega))) rfl rfl (R1 xb3 rfl (xc7 (by kernel_rfl) ?_)))
   exact kF (e+1) ⟨⟨by omega,by omega⟩,(by omega)⟩ (hh:=((SubK.consI rfl (ImpK.of (by rw [mkF_set (by omega) (by omega)]))) SubK.nil))
  ·
   refine RGoff (decide_eq_false h78) rfl rfl (RGoff (decide_eq_false h78) rfl rfl (RGoff (decide_eq_false h78) rfl rfl (RGoff (decide_eq_false h78) rfl rfl (RGoff (decide_eq_false h78) rfl rfl (RGoff (decide_eq_false h78) rfl rfl (RGoff (decide_eq_false h78) rfl rfl (RGoff (decide_eq_false h78) rfl rfl ?_)))))))
   refine RGoff (decide_eq_false h78) rfl rfl (RGoff (decide_eq_false h78) rfl rfl (RGoff (decide_eq_false h78) rfl rfl (RGoff (decide_eq_false h78) rfl rfl (RGoff (decide_eq_false h78) rfl rfl (RGoff (decide_eq_false h78) rfl rfl (R2 (xg3 (decide_eq_false h78)) rfl rfl (R2 (xa5 sl79 (by omega) (by omega) rfl) rfl rfl ?_)))))))
   refine RE (xc6 ((e.toNat)) ti4 (rV_lt (by rw [xf8];omega)) (by omega) (rV_set (f:=tB) (m:=wkR l (e.toNat)) (by rw [wkR,decide_eq_false h78];rfl))) ⟨rfl,rfl,trivial⟩ ⟨rfl,trivial⟩ trivial (xc7 (by kernel_rfl) (K_norB (xb8 ?_)))
   refine xd0 ?_
   refine R1 xa2 rfl (R2 (xd4 (wr64 (by omega) (by omega))) rfl rfl (R1 xb3 rfl (xc7 (by kernel_rfl) ?_)))
   exact kF (e+1) ⟨⟨by omega,by omega⟩,(by omega)⟩ (hh:=((SubK.consI rfl (ImpK.of (by rw [mkF_set (by omega) (by omega)]))) SubK.nil))
 ·
  refine C_exit (K_exT (K_exT (K_exB (xb8 (xd1 ?_)))))
  refine xd0 ?_
  refine RE (xg0 (f:=tB) (xs:=rowD (mkF (wkR l) a e)) (fun _ h=>h) (rV_all (by rw [xf8];omega)) (by rw [xf8];omega)) ⟨rfl,trivial⟩ ⟨rfl,trivial⟩ trivial (R1 xb3 rfl (xc7 (by kernel_rfl) (xb8 (C_ret ?_))))
  exact x4 Plain.mk' rfl rfl (Le.of (by by_cases hab:e=b;rw [hab];rw [mkF_0 (show e≤a by omega),mkF_0 (show b≤a by omega)]))
theorem c_R8Worked (l:List Tst) (hl:l.length≤500000) (a b:Int) (hD: ∀s∈l,s.v.f.dig) (hs: ∀s∈l,s.v.f.n.l.length≤1048576∧s.v.f.d.l.length≤1048576):
  Ct Tryz.prog 20 [tL 8 true tTs l,tI a,tI b] (tT [tL 2 true tSn (if askB l a b=true then wkd l a b else []),tI (if askB l a b=true then 0 else 2)]):=by
 refine Ct.intro Tryz.func20 rfl Tryz.ntmps20 rfl ?_
 intro w F
 refine A9 ?_
 refine A3 ?_
 refine R3 (x3 (c_R8may l hl a b hD hs) fi47 rfl) rfl rfl rfl ?_
 refine A3 ?_
 refine xd2 rfl (fun h85=> ?_) (fun h85=> ?_)
 ·
  have hk: ¬askB l a b=true:=by simpa using h85
  refine A8 ?_
  exact xc8 Plain.mk' rfl rfl rfl (leNil (by rw [if_neg hk])) (Le.int (by rw [if_neg hk]))
 ·
  have hk:askB l a b=true:=by simpa using h85
  obtain ⟨hk1,hk2⟩:=askB_iff.1 hk
  simp only [sRight,Bool.and_eq_true] at hk1
  refine A7 ?_
  refine R3 (x3 (c_R8marks l a b hl hk1.1 (by omega) (by omega)) fi49 rfl) rfl rfl rfl (R1 (x3 (c_R4Set (mkF (wkR l) a b)) fi48 rfl) rfl ?_)
  refine A5 ?_
  exact xc8 Plain.mk' rfl rfl rfl (Le.of (by rw [if_pos hk,worked_R hk1.1 (by omega) (by omega)])) (Le.int (by rw [if_pos hk]))
theorem c_R8Breaks (l:List Tst) (hl:l.length≤500000) (a b:Int) (hD: ∀s∈l,s.v.f.dig) (hs: ∀s∈l,s.v.f.n.l.length≤1048576∧s.v.f.d.l.length≤1048576):
    Ct Tryz.prog 21 [tL 8 true tTs l,tI a,tI b] (tT [tL 2 true tSn (if askB l a b=true then brk (wkd l a b) else []),tI (if askB l a b=true then 0 else 2)]):=by
  obtain ⟨n,hn⟩: ∃n:Nat,n=65536:=⟨_,rfl⟩
  refine Ct.intro Tryz.func21 rfl Tryz.ntmps21 rfl ?_
  intro w F
  refine xd1 ?_
  refine xd0 ?_
  refine R1 xb3 rfl (R1 xb3 rfl (xc7 (by kernel_rfl) (xb8 (xd1 (xd1 ?_)))))
  refine xd0 ?_
  refine R1 xa2 rfl (R1 xa2 rfl (R1 xa2 rfl (R3 (x3 (c_R8may l hl a b hD hs) fi47 rfl) rfl rfl rfl (R1 d_not rfl (xc7 (by kernel_rfl) (xb8 ?_))))))
  refine xd2 rfl (fun h93=> ?_) (fun h93=> ?_)
  ·
    have hk: ¬askB l a b=true:=by simpa using h93
    refine xd1 ?_
    refine xd0 ?_
    refine R1 xb3 rfl (R1 xb3 rfl (xc7 (by kernel_rfl) (xb8 (C_ret (K_retT ?_)))))
    exact xc8 Plain.mk' rfl rfl rfl (leNil (by rw [if_neg hk])) (Le.int (by rw [if_neg hk]))
  ·
    have hk:askB l a b=true:=by simpa using h93
    obtain ⟨hk1,hk2⟩:=askB_iff.1 hk
    simp only [sRight,Bool.and_eq_true] at hk1
    refine C_skip (xb8 (xd1 ?_))
    refine xd0 ?_
    refine R1 xa2 rfl (R1 xa2 rfl (R1 xa2 rfl (R3 (x3 (c_R8marks l a b hl hk1.1 (by omega) (by omega)) fi49 rfl) rfl rfl rfl (R1 xb3 rfl (xc7 (by kernel_rfl) (xb8 (xd1 ?_)))))))
    refine xd0 ?_
    refine RE (xg8 (k:=23) (t:=tB false) (ts:=rV tB (List.replicate n false)) n n Tryz.underlying79 el4 (fun _ _=>rfl) rfl (by omega) (by omega) (Nat.le_refl _) (by omega) (by omega) (rV_rep _ _ rfl)) ⟨rfl,rfl,trivial⟩ trivial ⟨rfl,trivial⟩ (R1 xb3 rfl (xc7 (by kernel_rfl) (xb8 (xd1 ?_))))
    refine xd0 ?_
    refine R1 xb3 rfl (R1 xb3 rfl (xc7 (by kernel_rfl) (xb8 (xd1 (xd1 ?_)))))
    refine xd0 ?_
    refine R1 xb3 rfl (xc7 (by kernel_rfl) (xb8 (C_block ?_)))
    refine cL (fun (d:Nat)=>d≤65536) (fun (d:Nat)=>upd (upd (upd (upd (upd (fun _=>none) 8 (some (.val (tL 1 false tB (rowD (mkF (wkR l) a b)))))) 9 (some (.own (.sl 23 1 0 n)))) 10 (some (.val (tI (fsM (mkF (wkR l) a b) d).1)))) 11 (some (.val (tI (fsM (mkF (wkR l) a b) d).2)))) 12 (some (.val (tI d)))) (fun (d:Nat)=>upd (fun _=>none) 23 (some (⟨4,1,false,rV tB (rowD (fun _=>false))⟩))) [23] (fun (d:Nat)=>65536 - d) (0) (Nat.zero_le _) (hg:=(sI ((Sub.consI rfl (Imp.int (by rw [fsM_0]))) ((Sub.consI rfl (Imp.int (by rw [fsM_0]))) (sC (sC Sub.nil)))))) (hh:=((SubK.consI rfl (ImpK.of (by rw [hn,rowD_rep]))) SubK.nil)) ?_
    intro d hI
    refine xd1 (xd1 ?_)
    refine xd0 ?_
    refine R1 xa2 rfl (R2 d_lss rfl rfl (xc7 (by kernel_rfl) (xb8 ?_)))
    refine x9 rfl (fun h99=> ?_) (fun h99=> ?_)
    ·
      refine C_skip (xb8 (xd1 (C_block (xd1 ?_))))
      refine xd0 ?_
      refine R1 xa2 rfl (R1 xa2 rfl (R2 (x6 sl79 (d) (by omega) (rowD_get (by omega))) rfl rfl (R1 (d_loadP ti4) rfl (xc7 (by kernel_rfl) (xb8 ?_)))))
      refine xd2 rfl (fun h100=> ?_) (fun h100=> ?_)
      ·
        refine xd0 ?_
        refine R1 xa2 rfl (R1 xa2 rfl (R2 d_min2 rfl rfl (R1 xa2 rfl (R1 xb3 rfl (R1 xb3 rfl (xc7 (by kernel_rfl) (K_norB ?_)))))))
        refine xb8 ?_
        refine xd0 ?_
        refine R1 xa2 rfl (R2 (xd4 (wr64 (by omega) (by omega))) rfl rfl (R1 xb3 rfl (xc7 (by kernel_rfl) ?_)))
        exact kF (d+1) ⟨(by omega),(by omega)⟩ (hg:=(sI ((Sub.consI rfl (Imp.int (by rw [fsM_yes h100]))) ((Sub.consI rfl (Imp.int (by rw [fsM_yes h100]))) (sC (sC Sub.nil)))))) (hh:=((SubK.consI rfl ImpK.refl) SubK.nil))
      ·
        refine C_skip (K_norB (xb8 ?_))
        refine xd0 ?_
        refine R1 xa2 rfl (R2 (xd4 (wr64 (by omega) (by omega))) rfl rfl (R1 xb3 rfl (xc7 (by kernel_rfl) ?_)))
        exact kF (d+1) ⟨(by omega),(by omega)⟩ (hg:=(sI ((Sub.consI rfl (Imp.int (by rw [fsM_no h100]))) ((Sub.consI rfl (Imp.int (by rw [fsM_no h100]))) (sC (sC Sub.nil)))))) (hh:=((SubK.consI rfl ImpK.refl) SubK.nil))
    ·
      refine C_exit (K_exT (K_exT (K_exB (xb8 (xd1 (xd1 ?_))))))
      have hd6:d=65536:=by omega
      subst hd6
      have hfs:=(fsM_all (f:=(mkF (wkR l) a b)) 65536 (Nat.le_refl _)).2
      have hfb:0≤(fsM (mkF (wkR l) a b) 65536).1∧(fsM (mkF (wkR l) a b) 65536).2≤65535:=by
        rcases hfs with ⟨q1,q2⟩ | ⟨x,y,q1,q2,q3,q4,_⟩ <;> omega
      refine xd0 ?_
      refine R1 xa2 rfl (R1 xb3 rfl (xc7 (by kernel_rfl) (xb8 (C_block ?_))))
      refine cL (fun (e:Int)=>(fsM (mkF (wkR l) a b) 65536).1≤e∧(e≤(fsM (mkF (wkR l) a b) 65536).2+1∨e=(fsM (mkF (wkR l) a b) 65536).1)) (fun (e:Int)=>upd (upd (upd (upd (fun _=>none) 8 (some (.val (tL 1 false tB (rowD (mkF (wkR l) a b)))))) 9 (some (.own (.sl 23 1 0 n)))) 11 (some (.val (tI (fsM (mkF (wkR l) a b) 65536).2)))) 13 (some (.val (tI e)))) (fun (e:Int)=>upd (fun _=>none) 23 (some (⟨4,1,false,rV tB (rowD (mkF (fun d=> !(mkF (wkR l) a b) d) (fsM (mkF (wkR l) a b) 65536).1 e))⟩))) [23] (fun (e:Int)=>((fsM (mkF (wkR l) a b) 65536).2+1 - e).toNat) ((fsM (mkF (wkR l) a b) 65536).1) ⟨Int.le_refl _,.inr rfl⟩ (hh:=((SubK.consI rfl (ImpK.of (by rw [mkF_0 (Int.le_refl _)]))) SubK.nil)) ?_
      intro e hI2
      obtain ⟨he1,he2⟩:=hI2
      refine xd1 (xd1 ?_)
      refine xd0 ?_
      refine R1 xa2 rfl (R1 xa2 rfl (R2 d_leq rfl rfl (xc7 (by kernel_rfl) (xb8 ?_))))
      refine x9 rfl (fun h104=> ?_) (fun h104=> ?_)
      ·
        refine C_skip (xb8 (xd1 (C_block ?_)))
        refine xd0 ?_
        refine R1 xa2 rfl (R1 xa2 rfl (R1 xa2 rfl (R1 xa2 rfl (R2 (x6 sl79 ((e.toNat)) (by omega) (rowD_get (by omega))) rfl rfl (R1 (d_loadP ti4) rfl (R1 d_not rfl (R2 (xa5 sl79 (by omega) (by omega) rfl) rfl rfl ?_)))))))
        refine RE (xc6 ((e.toNat)) ti4 (rV_lt (by rw [xf8];omega)) (by omega) (rV_set (f:=tB) (m:= !(mkF (wkR l) a b) (e.toNat)) rfl)) ⟨rfl,rfl,trivial⟩ ⟨rfl,trivial⟩ trivial (xc7 (by kernel_rfl) (K_norB (xb8 ?_)))
        refine xd0 ?_
        refine R1 xa2 rfl (R2 (xd4 (wr64 (by omega) (by omega))) rfl rfl (R1 xb3 rfl (xc7 (by kernel_rfl) ?_)))
        exact kF (e+1) ⟨⟨by omega,by omega⟩,(by omega)⟩ (hh:=((SubK.consI rfl (ImpK.of (by rw [←mkF_set (d:=e.toNat) (by omega) (by omega)]))) SubK.nil))
      ·
        refine C_exit (K_exT (K_exT (K_exB (xb8 (xd1 ?_)))))
        have hee:(mkF (fun d=> !(mkF (wkR l) a b) d) (fsM (mkF (wkR l) a b) 65536).1 e)=(mkF (fun d=> !(mkF (wkR l) a b) d) (fsM (mkF (wkR l) a b) 65536).1 ((fsM (mkF (wkR l) a b) 65536).2+1)):=by
          by_cases hab:e=(fsM (mkF (wkR l) a b) 65536).2+1
          · rw [hab]
          · rw [mkF_0 (show e≤(fsM (mkF (wkR l) a b) 65536).1 by omega),mkF_0 (show (fsM (mkF (wkR l) a b) 65536).2+1≤(fsM (mkF (wkR l) a b) 65536).1 by omega)]
        refine C_key (k:=23) (e':=⟨4,1,false,rV tB (rowD (mkF (fun d=> !(mkF (wkR l) a b) d) (fsM (mkF (wkR l) a b) 65536).1 ((fsM (mkF (wkR l) a b) 65536).2+1)))⟩) rfl (by rw [hee]) ?_
        refine xd0 ?_
        refine RE (xg0 (f:=tB) (xs:=rowD (mkF (fun d=> !(mkF (wkR l) a b) d) (fsM (mkF (wkR l) a b) 65536).1 ((fsM (mkF (wkR l) a b) 65536).2+1))) (fun _ h=>h) (rV_all (by rw [xf8];omega)) (by rw [xf8];omega)) ⟨rfl,trivial⟩ ⟨rfl,trivial⟩ trivial (R1 (x3 (c_R4Set (mkF (fun d=> !(mkF (wkR l) a b) d) (fsM (mkF (wkR l) a b) 65536).1 ((fsM (mkF (wkR l) a b) 65536).2+1))) fi48 rfl) rfl (R1 xb3 rfl (R1 xb3 rfl (xc7 (by kernel_rfl) (xb8 (C_ret ?_))))))
        exact xc8 Plain.mk' rfl rfl rfl (Le.of (by rw [if_pos hk,breaks_R (wkd_set hk1.1 (by omega) (by omega)).1 (fun d _=>wk_mem hk1.1 (by omega) (by omega) d)])) (Le.int (by rw [if_pos hk]))
theorem c_R8Periods (l:List Tst) (hl:l.length≤500000) (a b d:Int) (hD: ∀s∈l,s.v.f.dig) (hs: ∀s∈l,s.v.f.n.l.length≤1048576∧s.v.f.d.l.length≤1048576):
    Ct Tryz.prog 22 [tL 8 true tTs l,tI a,tI b,tI d] (tT [tL 2 true tSn (if askB l a b=true∧sVal (wkd l a b)=true∧0≤d then brg d (wkd l a b) else []),tI (if askB l a b=true∧sVal (wkd l a b)=true∧0≤d then 0 else 2)]):=by
  refine Ct.intro Tryz.func22 rfl Tryz.ntmps22 rfl ?_
  intro w F
  refine A9 ?_
  refine A2 ?_
  refine R3 (x3 (c_R8Worked l hl a b hD hs) fi20 rfl) rfl rfl rfl ?_
  refine A9 ?_
  refine A5 ?_
  refine x9 rfl (fun h113=> ?_) (fun h113=> ?_)
  ·
    have hk: ¬askB l a b=true:=fun h=>by rw [if_pos h] at h113;exact h113 rfl
    refine A9 ?_
    exact xc8 Plain.mk' rfl rfl rfl (leNil (by rw [if_neg (fun h=>hk h.1)])) (Le.int (by rw [if_neg hk,if_neg (fun h=>hk h.1)]))
  ·
    have hk0:askB l a b=true:=by
      by_cases h:askB l a b=true
      · exact h
      · rw [if_neg h] at h113;exact absurd (by decide) h113
    refine A6 ?_
    refine R2 (x3 (c_R4Bridge (if askB l a b=true then wkd l a b else []) d) fi50 rfl) rfl rfl ?_
    refine A7 ?_
    exact xc8 Plain.mk' rfl rfl rfl (Le.of (by rw [if_pos hk0];by_cases hs:sVal (wkd l a b)=true∧0≤d <;> simp [hk0,hs])) (Le.int (by rw [if_pos hk0];by_cases hs:sVal (wkd l a b)=true∧0≤d <;> simp [hk0,hs]))
end An.S

/- Three slices of spans share no memory. -/
namespace An.S
open Go Go.Proofs An
set_option maxHeartbeats 2000000
set_option maxRecDepth 100000
instance ti53:TyI Tryz.prog 53 1 false:=⟨by kernel_rfl,by kernel_rfl⟩
instance ti83:TyI Tryz.prog 83 1 false:=⟨by kernel_rfl,by kernel_rfl⟩
instance ti84:TyI Tryz.prog 84 1 false:=⟨by kernel_rfl,by kernel_rfl⟩
instance ti85:TyI Tryz.prog 85 1 false:=⟨by kernel_rfl,by kernel_rfl⟩
instance ti86:TyI Tryz.prog 86 1 false:=⟨by kernel_rfl,by kernel_rfl⟩
instance ti87:TyI Tryz.prog 87 1 false:=⟨by kernel_rfl,by kernel_rfl⟩
instance ti88:TyI Tryz.prog 88 1 false:=⟨by kernel_rfl,by kernel_rfl⟩
instance ti89:TyI Tryz.prog 89 1 false:=⟨by kernel_rfl,by kernel_rfl⟩
instance ti90:TyI Tryz.prog 90 1 false:=⟨by kernel_rfl,by kernel_rfl⟩
instance ti91:TyI Tryz.prog 91 1 false:=⟨by kernel_rfl,by kernel_rfl⟩
instance ti92:TyI Tryz.prog 92 1 false:=⟨by kernel_rfl,by kernel_rfl⟩
instance ti93:TyI Tryz.prog 93 1 false:=⟨by kernel_rfl,by kernel_rfl⟩
instance ti94:TyI Tryz.prog 94 1 false:=⟨by kernel_rfl,by kernel_rfl⟩
instance ti95:TyI Tryz.prog 95 1 false:=⟨by kernel_rfl,by kernel_rfl⟩
instance ti96:TyI Tryz.prog 96 1 false:=⟨by kernel_rfl,by kernel_rfl⟩
instance ti97:TyI Tryz.prog 97 1 false:=⟨by kernel_rfl,by kernel_rfl⟩
instance ti98:TyI Tryz.prog 98 1 false:=⟨by kernel_rfl,by kernel_rfl⟩
instance ti99:TyI Tryz.prog 99 1 false:=⟨by kernel_rfl,by kernel_rfl⟩
instance ti100:TyI Tryz.prog 100 1 false:=⟨by kernel_rfl,by kernel_rfl⟩
instance ti101:TyI Tryz.prog 101 1 false:=⟨by kernel_rfl,by kernel_rfl⟩
instance ti102:TyI Tryz.prog 102 1 false:=⟨by kernel_rfl,by kernel_rfl⟩
instance ti103:TyI Tryz.prog 103 1 false:=⟨by kernel_rfl,by kernel_rfl⟩
instance ti104:TyI Tryz.prog 104 1 false:=⟨by kernel_rfl,by kernel_rfl⟩
instance fo106_0:FoI Tryz.prog 106 0 0:=⟨by kernel_rfl⟩
instance fo106_1:FoI Tryz.prog 106 1 1:=⟨by kernel_rfl⟩
instance fo106_2:FoI Tryz.prog 106 2 2:=⟨by kernel_rfl⟩
instance fo106_3:FoI Tryz.prog 106 3 3:=⟨by kernel_rfl⟩
instance fo106_4:FoI Tryz.prog 106 4 4:=⟨by kernel_rfl⟩
instance fo106_5:FoI Tryz.prog 106 5 5:=⟨by kernel_rfl⟩
instance fo106_6:FoI Tryz.prog 106 6 6:=⟨by kernel_rfl⟩
instance fo106_7:FoI Tryz.prog 106 7 7:=⟨by kernel_rfl⟩
instance fo106_8:FoI Tryz.prog 106 8 8:=⟨by kernel_rfl⟩
instance fo106_9:FoI Tryz.prog 106 9 9:=⟨by kernel_rfl⟩
instance fo106_10:FoI Tryz.prog 106 10 10:=⟨by kernel_rfl⟩
instance fo106_11:FoI Tryz.prog 106 11 11:=⟨by kernel_rfl⟩
instance fo106_12:FoI Tryz.prog 106 12 12:=⟨by kernel_rfl⟩
instance fo106_13:FoI Tryz.prog 106 13 13:=⟨by kernel_rfl⟩
instance fo106_14:FoI Tryz.prog 106 14 14:=⟨by kernel_rfl⟩
instance fo106_15:FoI Tryz.prog 106 15 15:=⟨by kernel_rfl⟩
instance fo106_16:FoI Tryz.prog 106 16 16:=⟨by kernel_rfl⟩
instance fo106_17:FoI Tryz.prog 106 17 17:=⟨by kernel_rfl⟩
instance fo106_18:FoI Tryz.prog 106 18 18:=⟨by kernel_rfl⟩
instance fo106_19:FoI Tryz.prog 106 19 19:=⟨by kernel_rfl⟩
instance fo106_20:FoI Tryz.prog 106 20 20:=⟨by kernel_rfl⟩
instance fo106_21:FoI Tryz.prog 106 21 21:=⟨by kernel_rfl⟩
instance fo106_22:FoI Tryz.prog 106 22 22:=⟨by kernel_rfl⟩
instance fi53:FnI Tryz.prog 53:=⟨_,Tryz.func53,by kernel_rfl,rfl⟩
instance fi54:FnI Tryz.prog 54:=⟨_,Tryz.func54,by kernel_rfl,rfl⟩
instance fi92:FnI Tryz.prog 92:=⟨_,Tryz.func92,by kernel_rfl,rfl⟩
instance fi93:FnI Tryz.prog 93:=⟨_,Tryz.func93,by kernel_rfl,rfl⟩
instance fi94:FnI Tryz.prog 94:=⟨_,Tryz.func94,by kernel_rfl,rfl⟩
instance fi95:FnI Tryz.prog 95:=⟨_,Tryz.func95,by kernel_rfl,rfl⟩
instance fi96:FnI Tryz.prog 96:=⟨_,Tryz.func96,by kernel_rfl,rfl⟩
instance fi97:FnI Tryz.prog 97:=⟨_,Tryz.func97,by kernel_rfl,rfl⟩
instance fi98:FnI Tryz.prog 98:=⟨_,Tryz.func98,by kernel_rfl,rfl⟩
instance fi99:FnI Tryz.prog 99:=⟨_,Tryz.func99,by kernel_rfl,rfl⟩
instance fi100:FnI Tryz.prog 100:=⟨_,Tryz.func100,by kernel_rfl,rfl⟩
instance fi101:FnI Tryz.prog 101:=⟨_,Tryz.func101,by kernel_rfl,rfl⟩
instance fi102:FnI Tryz.prog 102:=⟨_,Tryz.func102,by kernel_rfl,rfl⟩
instance fi103:FnI Tryz.prog 103:=⟨_,Tryz.func103,by kernel_rfl,rfl⟩
instance fi104:FnI Tryz.prog 104:=⟨_,Tryz.func104,by kernel_rfl,rfl⟩
instance fi105:FnI Tryz.prog 105:=⟨_,Tryz.func105,by kernel_rfl,rfl⟩
instance fi106:FnI Tryz.prog 106:=⟨_,Tryz.func106,by kernel_rfl,rfl⟩
instance fi107:FnI Tryz.prog 107:=⟨_,Tryz.func107,by kernel_rfl,rfl⟩
instance fi108:FnI Tryz.prog 108:=⟨_,Tryz.func108,by kernel_rfl,rfl⟩
instance fi109:FnI Tryz.prog 109:=⟨_,Tryz.func109,by kernel_rfl,rfl⟩
instance fi110:FnI Tryz.prog 110:=⟨_,Tryz.func110,by kernel_rfl,rfl⟩
instance fi111:FnI Tryz.prog 111:=⟨_,Tryz.func111,by kernel_rfl,rfl⟩
instance fi112:FnI Tryz.prog 112:=⟨_,Tryz.func112,by kernel_rfl,rfl⟩
instance fi113:FnI Tryz.prog 113:=⟨_,Tryz.func113,by kernel_rfl,rfl⟩
instance fi114:FnI Tryz.prog 114:=⟨_,Tryz.func114,by kernel_rfl,rfl⟩
theorem zf45:Flat 1 false (.slice none 0 0):=xf5 rfl
abbrev nlE:Ent:= .val (tE (.slice none 0 0))
abbrev bgR (e:Ent):HEnt:=⟨106,1,false,[nlE,nlE,nlE,nlE,nlE,nlE,nlE,e,nlE,nlE,nlE,nlE,nlE,nlE,nlE,nlE,nlE,nlE,nlE,nlE,nlE,nlE,nlE]⟩
theorem c_putSpans0 (a:List Sn) (b:List Sn) (c:List Sn):
  CtG Tryz.prog 53 [(30,(bgR (.val (tE (.slice none 0 0)))))] [.own (.ptr 30 0),.own (.sl 100 2 0 a.length)] (.val (tT [])) [(30,(bgR (.own (.sl 11 1 0 1)))),(11,⟨45,1,false,[.own (.sl 100 2 0 a.length)]⟩)] [11]:=by
 refine CtG.intro [30,31,100,101,102] Tryz.func53 rfl Tryz.ntmps53 rfl rfl ⟨⟨rfl,(SupX.lit rfl)⟩,trivial⟩ ?_
 intro w F η
 refine C_nilC (q:=30) 33 45 1 false 7 rfl rfl rfl rfl (fun _=>rfl) rfl rfl ?_
 refine A5 ?_
 refine RE (xb2 (7) ti53 rfl rfl) ⟨rfl,trivial⟩ ⟨rfl,trivial⟩ trivial ?_
 refine A1 ?_
 refine RE (d_sliceOfO (k:=10) (ents:=[.own (.sl 100 2 0 a.length)]) Tryz.underlying53 el45 zf45 rfl (by intro e he;rw [List.mem_singleton.1 he];infer_instance) rfl rfl rfl) ⟨rfl,trivial⟩ trivial ⟨rfl,trivial⟩ (RE (d_appendOO (k:=33) (k2:=10) (k':=11) (n:=0) (e:= .own (.sl 100 2 0 a.length)) Tryz.underlying53 el45 zf45 rfl rfl rfl (by decide) (by decide) rfl) ⟨rfl,rfl,trivial⟩ ⟨rfl,rfl,trivial⟩ ⟨rfl,trivial⟩ ?_)
 refine A2 ?_
 refine RE (xc6 (es:=1) (agg:=false) (e:= .own (.sl 11 1 0 1)) (7) ti53 rfl rfl rfl) ⟨rfl,rfl,trivial⟩ ⟨rfl,trivial⟩ trivial ?_
 refine A1 ?_
 exact E_retG0 LentC.mk' rfl (.inr rfl) ⟨rfl,rfl,trivial⟩ ⟨⟨rfl,(SupX.lit rfl)⟩,⟨rfl,(SupX.lit rfl)⟩,trivial⟩ rfl
theorem c_putSpans1 (a:List Sn) (b:List Sn) (c:List Sn):
  CtG Tryz.prog 53 [(30,(bgR (.own (.sl 31 1 0 1)))),(31,⟨45,1,false,[.own (.sl 100 2 0 a.length)]⟩),(100,⟨62,2,true,rV tSn a⟩)] [.own (.ptr 30 0),.own (.sl 101 2 0 b.length)] (.val (tT [])) [(30,(bgR (.own (.sl 11 1 0 2)))),(11,⟨45,1,false,[.own (.sl 100 2 0 a.length),.own (.sl 101 2 0 b.length)]⟩),(100,⟨62,2,true,rV tSn a⟩)] [11]:=by
 refine CtG.intro [30,31,100,101,102] Tryz.func53 rfl Tryz.ntmps53 rfl rfl ⟨⟨rfl,(SupX.lit rfl)⟩,⟨rfl,(SupX.lit rfl)⟩,⟨rfl,xa9⟩,trivial⟩ ?_
 intro w F η
 refine A5 ?_
 refine RE (xb2 (7) ti53 rfl rfl) ⟨rfl,trivial⟩ ⟨rfl,trivial⟩ trivial ?_
 refine A1 ?_
 refine RE (d_sliceOfO (k:=10) (ents:=[.own (.sl 101 2 0 b.length)]) Tryz.underlying53 el45 zf45 rfl (by intro e he;rw [List.mem_singleton.1 he];infer_instance) rfl rfl rfl) ⟨rfl,trivial⟩ trivial ⟨rfl,trivial⟩ (RE (d_appendOO (k:=31) (k2:=10) (k':=11) (n:=1) (e:= .own (.sl 101 2 0 b.length)) Tryz.underlying53 el45 zf45 rfl rfl rfl (by decide) (by decide) rfl) ⟨rfl,rfl,trivial⟩ ⟨rfl,rfl,trivial⟩ ⟨rfl,trivial⟩ ?_)
 refine A2 ?_
 refine RE (xc6 (es:=1) (agg:=false) (e:= .own (.sl 11 1 0 2)) (7) ti53 rfl rfl rfl) ⟨rfl,rfl,trivial⟩ ⟨rfl,trivial⟩ trivial ?_
 refine A1 ?_
 exact E_retG0 LentC.mk' rfl (.inr rfl) ⟨rfl,rfl,rfl,trivial⟩ ⟨⟨rfl,(SupX.lit rfl)⟩,⟨rfl,(SupX.lit rfl)⟩,⟨rfl,xa9⟩,trivial⟩ rfl
theorem c_putSpans2 (a:List Sn) (b:List Sn) (c:List Sn):
  CtG Tryz.prog 53 [(30,(bgR (.own (.sl 31 1 0 2)))),(31,⟨45,1,false,[.own (.sl 100 2 0 a.length),.own (.sl 101 2 0 b.length)]⟩),(100,⟨62,2,true,rV tSn a⟩),(101,⟨62,2,true,rV tSn b⟩)] [.own (.ptr 30 0),.own (.sl 102 2 0 c.length)] (.val (tT [])) [(30,(bgR (.own (.sl 11 1 0 3)))),(11,⟨45,1,false,[.own (.sl 100 2 0 a.length),.own (.sl 101 2 0 b.length),.own (.sl 102 2 0 c.length)]⟩),(100,⟨62,2,true,rV tSn a⟩),(101,⟨62,2,true,rV tSn b⟩)] [11]:=by
 refine CtG.intro [30,31,100,101,102] Tryz.func53 rfl Tryz.ntmps53 rfl rfl ⟨⟨rfl,(SupX.lit rfl)⟩,⟨rfl,(SupX.lit rfl)⟩,⟨rfl,xa9⟩,⟨rfl,xa9⟩,trivial⟩ ?_
 intro w F η
 refine A5 ?_
 refine RE (xb2 (7) ti53 rfl rfl) ⟨rfl,trivial⟩ ⟨rfl,trivial⟩ trivial ?_
 refine A1 ?_
 refine RE (d_sliceOfO (k:=10) (ents:=[.own (.sl 102 2 0 c.length)]) Tryz.underlying53 el45 zf45 rfl (by intro e he;rw [List.mem_singleton.1 he];infer_instance) rfl rfl rfl) ⟨rfl,trivial⟩ trivial ⟨rfl,trivial⟩ (RE (d_appendOO (k:=31) (k2:=10) (k':=11) (n:=2) (e:= .own (.sl 102 2 0 c.length)) Tryz.underlying53 el45 zf45 rfl rfl rfl (by decide) (by decide) rfl) ⟨rfl,rfl,trivial⟩ ⟨rfl,rfl,trivial⟩ ⟨rfl,trivial⟩ ?_)
 refine A2 ?_
 refine RE (xc6 (es:=1) (agg:=false) (e:= .own (.sl 11 1 0 3)) (7) ti53 rfl rfl rfl) ⟨rfl,rfl,trivial⟩ ⟨rfl,trivial⟩ trivial ?_
 refine A1 ?_
 exact E_retG0 LentC.mk' rfl (.inr rfl) ⟨rfl,rfl,rfl,rfl,trivial⟩ ⟨⟨rfl,(SupX.lit rfl)⟩,⟨rfl,(SupX.lit rfl)⟩,⟨rfl,xa9⟩,⟨rfl,xa9⟩,trivial⟩ rfl
theorem c_apart3 (a:List Sn) (b:List Sn) (c:List Sn) (ha:a.length≤1000000) (hb:b.length≤1000000) (hc:c.length≤1000000):
  CtG Tryz.prog 54 [(30,(bgR (.own (.sl 20 1 0 3)))),(20,⟨45,1,false,[.own (.sl 100 2 0 a.length),.own (.sl 101 2 0 b.length),.own (.sl 102 2 0 c.length)]⟩),(100,⟨62,2,true,rV tSn a⟩),(101,⟨62,2,true,rV tSn b⟩),(102,⟨62,2,true,rV tSn c⟩)] [.own (.ptr 30 0)] (.val (tB true)) [] []:=by
 refine CtG.intro [30,20,100,101,102] Tryz.func54 rfl Tryz.ntmps54 rfl rfl ⟨⟨rfl,(SupX.lit rfl)⟩,⟨rfl,(SupX.lit rfl)⟩,⟨rfl,xa9⟩,⟨rfl,xa9⟩,⟨rfl,xa9⟩,trivial⟩ ?_
 intro w F η
 refine A6 ?_
 dsimp only [List.append]
 refine A5 ?_
 refine R1 (xd7 (ts:=[tE (.slice none 0 0)]) c_flat0Limbs fi92 rfl ⟨leNil rfl,trivial⟩) rfl ?_
 refine A2 ?_
 refine RGon rfl rfl xc9 rfl ⟨rfl,trivial⟩ trivial trivial ?_
 refine A1 ?_
 refine RGon rfl rfl (xb2 (1) ti84 rfl rfl) rfl ⟨rfl,trivial⟩ ⟨rfl,trivial⟩ trivial (RGon rfl rfl (xd7 (ts:=[tE (.slice none 0 0)]) c_flat0Ints fi93 rfl ⟨leNil rfl,trivial⟩) rfl ⟨rfl,trivial⟩ trivial trivial ?_)
 refine A3 ?_
 refine RGon rfl rfl xc9 rfl ⟨rfl,trivial⟩ trivial trivial ?_
 refine A1 ?_
 refine RGon rfl rfl (xb2 (2) ti85 rfl rfl) rfl ⟨rfl,trivial⟩ ⟨rfl,trivial⟩ trivial (RGon rfl rfl (xd7 (ts:=[tE (.slice none 0 0)]) c_flat0Texts fi94 rfl ⟨leNil rfl,trivial⟩) rfl ⟨rfl,trivial⟩ trivial trivial ?_)
 refine A3 ?_
 refine RGon rfl rfl xc9 rfl ⟨rfl,trivial⟩ trivial trivial ?_
 refine A1 ?_
 refine RGon rfl rfl (xb2 (3) ti86 rfl rfl) rfl ⟨rfl,trivial⟩ ⟨rfl,trivial⟩ trivial (RGon rfl rfl (xd7 (ts:=[tE (.slice none 0 0)]) c_flat0Bytes fi95 rfl ⟨leNil rfl,trivial⟩) rfl ⟨rfl,trivial⟩ trivial trivial ?_)
 refine A3 ?_
 refine RGon rfl rfl xc9 rfl ⟨rfl,trivial⟩ trivial trivial ?_
 refine A1 ?_
 refine RGon rfl rfl (xb2 (4) ti87 rfl rfl) rfl ⟨rfl,trivial⟩ ⟨rfl,trivial⟩ trivial (RGon rfl rfl (xd7 (ts:=[tE (.slice none 0 0)]) c_flat0Wholes fi96 rfl ⟨leNil rfl,trivial⟩) rfl ⟨rfl,trivial⟩ trivial trivial ?_)
 refine A3 ?_
 refine RGon rfl rfl xc9 rfl ⟨rfl,trivial⟩ trivial trivial ?_
 refine A1 ?_
 refine RGon rfl rfl (xb2 (5) ti88 rfl rfl) rfl ⟨rfl,trivial⟩ ⟨rfl,trivial⟩ trivial (RGon rfl rfl (xd7 (ts:=[tE (.slice none 0 0)]) c_flat0Fracs fi97 rfl ⟨leNil rfl,trivial⟩) rfl ⟨rfl,trivial⟩ trivial trivial ?_)
 refine A3 ?_
 refine RGon rfl rfl xc9 rfl ⟨rfl,trivial⟩ trivial trivial ?_
 refine A1 ?_
 refine RGon rfl rfl (xb2 (6) ti89 rfl rfl) rfl ⟨rfl,trivial⟩ ⟨rfl,trivial⟩ trivial (RGon rfl rfl (xd7 (ts:=[tE (.slice none 0 0)]) c_flat0Values fi98 rfl ⟨leNil rfl,trivial⟩) rfl ⟨rfl,trivial⟩ trivial trivial ?_)
 refine A3 ?_
 refine RGon rfl rfl xc9 rfl ⟨rfl,trivial⟩ trivial trivial ?_
 refine A1 ?_
 refine RGon rfl rfl (xb2 (7) ti53 rfl rfl) rfl ⟨rfl,trivial⟩ ⟨rfl,trivial⟩ trivial (RGon rfl rfl (xe0 (fun j=>cond (Nat.beq j 101) 101 (cond (Nat.beq j 100) 100 (cond (Nat.beq j 20) 20 (102)))) (c_flatSpans3 a b c ha hb hc) fi99 rfl (krC (ρ:=fun j=>cond (Nat.beq j 101) 101 (cond (Nat.beq j 100) 100 (cond (Nat.beq j 20) 20 (102)))) (k:=20) rfl (krC (ρ:=fun j=>cond (Nat.beq j 101) 101 (cond (Nat.beq j 100) 100 (cond (Nat.beq j 20) 20 (102)))) (k:=100) xb9 (krC (ρ:=fun j=>cond (Nat.beq j 101) 101 (cond (Nat.beq j 100) 100 (cond (Nat.beq j 20) 20 (102)))) (k:=101) xb9 (krC (ρ:=fun j=>cond (Nat.beq j 101) 101 (cond (Nat.beq j 100) 100 (cond (Nat.beq j 20) 20 (102)))) (k:=102) xb9 (krN (ρ:=fun j=>cond (Nat.beq j 101) 101 (cond (Nat.beq j 100) 100 (cond (Nat.beq j 20) 20 (102))))))))) (krN (ρ:=fun j=>cond (Nat.beq j 101) 101 (cond (Nat.beq j 100) 100 (cond (Nat.beq j 20) 20 (102))))) trivial rfl) rfl ⟨rfl,trivial⟩ ⟨rfl,rfl,rfl,rfl,trivial⟩ trivial ?_)
 refine A3 ?_
 refine RGon rfl rfl xc9 rfl ⟨rfl,trivial⟩ trivial trivial ?_
 refine A1 ?_
 refine RGon rfl rfl (xb2 (8) ti90 rfl rfl) rfl ⟨rfl,trivial⟩ ⟨rfl,trivial⟩ trivial (RGon rfl rfl (xd7 (ts:=[tE (.slice none 0 0)]) c_flat0Steps fi100 rfl ⟨leNil rfl,trivial⟩) rfl ⟨rfl,trivial⟩ trivial trivial ?_)
 refine A3 ?_
 refine RGon rfl rfl xc9 rfl ⟨rfl,trivial⟩ trivial trivial ?_
 refine A1 ?_
 refine RGon rfl rfl (xb2 (9) ti91 rfl rfl) rfl ⟨rfl,trivial⟩ ⟨rfl,trivial⟩ trivial (RGon rfl rfl (xd7 (ts:=[tE (.slice none 0 0)]) c_flat0Facts fi101 rfl ⟨leNil rfl,trivial⟩) rfl ⟨rfl,trivial⟩ trivial trivial ?_)
 refine A3 ?_
 refine RGon rfl rfl xc9 rfl ⟨rfl,trivial⟩ trivial trivial ?_
 refine A1 ?_
 refine RGon rfl rfl (xb2 (10) ti92 rfl rfl) rfl ⟨rfl,trivial⟩ ⟨rfl,trivial⟩ trivial (RGon rfl rfl (xd7 (ts:=[tE (.slice none 0 0)]) c_flat0Rows fi102 rfl ⟨leNil rfl,trivial⟩) rfl ⟨rfl,trivial⟩ trivial trivial ?_)
 refine A3 ?_
 refine RGon rfl rfl xc9 rfl ⟨rfl,trivial⟩ trivial trivial ?_
 refine A1 ?_
 refine RGon rfl rfl (xb2 (11) ti93 rfl rfl) rfl ⟨rfl,trivial⟩ ⟨rfl,trivial⟩ trivial (RGon rfl rfl (xd7 (ts:=[tE (.slice none 0 0)]) c_flat0Tables fi103 rfl ⟨leNil rfl,trivial⟩) rfl ⟨rfl,trivial⟩ trivial trivial ?_)
 refine A3 ?_
 refine RGon rfl rfl xc9 rfl ⟨rfl,trivial⟩ trivial trivial ?_
 refine A1 ?_
 refine RGon rfl rfl (xb2 (12) ti94 rfl rfl) rfl ⟨rfl,trivial⟩ ⟨rfl,trivial⟩ trivial (RGon rfl rfl (xd7 (ts:=[tE (.slice none 0 0)]) c_flat0Exprs fi104 rfl ⟨leNil rfl,trivial⟩) rfl ⟨rfl,trivial⟩ trivial trivial ?_)
 refine A3 ?_
 refine RGon rfl rfl xc9 rfl ⟨rfl,trivial⟩ trivial trivial ?_
 refine A1 ?_
 refine RGon rfl rfl (xb2 (13) ti95 rfl rfl) rfl ⟨rfl,trivial⟩ ⟨rfl,trivial⟩ trivial (RGon rfl rfl (xd7 (ts:=[tE (.slice none 0 0)]) c_flat0Clauses fi105 rfl ⟨leNil rfl,trivial⟩) rfl ⟨rfl,trivial⟩ trivial trivial ?_)
 refine A3 ?_
 refine RGon rfl rfl xc9 rfl ⟨rfl,trivial⟩ trivial trivial ?_
 refine A1 ?_
 refine RGon rfl rfl (xb2 (14) ti96 rfl rfl) rfl ⟨rfl,trivial⟩ ⟨rfl,trivial⟩ trivial (RGon rfl rfl (xd7 (ts:=[tE (.slice none 0 0)]) c_flat0Defs fi106 rfl ⟨leNil rfl,trivial⟩) rfl ⟨rfl,trivial⟩ trivial trivial ?_)
 refine A3 ?_
 refine RGon rfl rfl xc9 rfl ⟨rfl,trivial⟩ trivial trivial ?_
 refine A1 ?_
 refine RGon rfl rfl (xb2 (15) ti97 rfl rfl) rfl ⟨rfl,trivial⟩ ⟨rfl,trivial⟩ trivial (RGon rfl rfl (xd7 (ts:=[tE (.slice none 0 0)]) c_flat0Plans fi107 rfl ⟨leNil rfl,trivial⟩) rfl ⟨rfl,trivial⟩ trivial trivial ?_)
 refine A3 ?_
 refine RGon rfl rfl xc9 rfl ⟨rfl,trivial⟩ trivial trivial ?_
 refine A1 ?_
 refine RGon rfl rfl (xb2 (16) ti98 rfl rfl) rfl ⟨rfl,trivial⟩ ⟨rfl,trivial⟩ trivial (RGon rfl rfl (xd7 (ts:=[tE (.slice none 0 0)]) c_flat0Postings fi108 rfl ⟨leNil rfl,trivial⟩) rfl ⟨rfl,trivial⟩ trivial trivial ?_)
 refine A3 ?_
 refine RGon rfl rfl xc9 rfl ⟨rfl,trivial⟩ trivial trivial ?_
 refine A1 ?_
 refine RGon rfl rfl (xb2 (17) ti99 rfl rfl) rfl ⟨rfl,trivial⟩ ⟨rfl,trivial⟩ trivial (RGon rfl rfl (xd7 (ts:=[tE (.slice none 0 0)]) c_flat0Orders fi109 rfl ⟨leNil rfl,trivial⟩) rfl ⟨rfl,trivial⟩ trivial trivial ?_)
 refine A3 ?_
 refine RGon rfl rfl xc9 rfl ⟨rfl,trivial⟩ trivial trivial ?_
 refine A1 ?_
 refine RGon rfl rfl (xb2 (18) ti100 rfl rfl) rfl ⟨rfl,trivial⟩ ⟨rfl,trivial⟩ trivial (RGon rfl rfl (xd7 (ts:=[tE (.slice none 0 0)]) c_flat0Events fi110 rfl ⟨leNil rfl,trivial⟩) rfl ⟨rfl,trivial⟩ trivial trivial ?_)
 refine A3 ?_
 refine RGon rfl rfl xc9 rfl ⟨rfl,trivial⟩ trivial trivial ?_
 refine A1 ?_
 refine RGon rfl rfl (xb2 (19) ti101 rfl rfl) rfl ⟨rfl,trivial⟩ ⟨rfl,trivial⟩ trivial (RGon rfl rfl (xd7 (ts:=[tE (.slice none 0 0)]) c_flat0Filings fi111 rfl ⟨leNil rfl,trivial⟩) rfl ⟨rfl,trivial⟩ trivial trivial ?_)
 refine A3 ?_
 refine RGon rfl rfl xc9 rfl ⟨rfl,trivial⟩ trivial trivial ?_
 refine A1 ?_
 refine RGon rfl rfl (xb2 (20) ti102 rfl rfl) rfl ⟨rfl,trivial⟩ ⟨rfl,trivial⟩ trivial (RGon rfl rfl (xd7 (ts:=[tE (.slice none 0 0)]) c_flat0Cases fi112 rfl ⟨leNil rfl,trivial⟩) rfl ⟨rfl,trivial⟩ trivial trivial ?_)
 refine A3 ?_
 refine RGon rfl rfl xc9 rfl ⟨rfl,trivial⟩ trivial trivial ?_
 refine A1 ?_
 refine RGon rfl rfl (xb2 (21) ti103 rfl rfl) rfl ⟨rfl,trivial⟩ ⟨rfl,trivial⟩ trivial (RGon rfl rfl (xd7 (ts:=[tE (.slice none 0 0)]) c_flat0Changes fi113 rfl ⟨leNil rfl,trivial⟩) rfl ⟨rfl,trivial⟩ trivial trivial ?_)
 refine A3 ?_
 refine RGon rfl rfl xc9 rfl ⟨rfl,trivial⟩ trivial trivial ?_
 refine A1 ?_
 refine RGon rfl rfl (xb2 (22) ti104 rfl rfl) rfl ⟨rfl,trivial⟩ ⟨rfl,trivial⟩ trivial (RGon rfl rfl (xd7 (ts:=[tE (.slice none 0 0)]) c_flat0Deltas fi114 rfl ⟨leNil rfl,trivial⟩) rfl ⟨rfl,trivial⟩ trivial trivial ?_)
 refine A5 ?_
 exact xe3 LentC.mk' rfl rfl Imp.refl trivial rfl trivial rfl
theorem c_ApartSpans (a:List Sn) (b:List Sn) (c:List Sn) (ha:a.length≤1000000) (hb:b.length≤1000000) (hc:c.length≤1000000):
  CtG Tryz.prog 25 [(20,⟨45,1,false,[.own (.sl 100 2 0 a.length),.own (.sl 101 2 0 b.length),.own (.sl 102 2 0 c.length)]⟩),(100,⟨62,2,true,rV tSn a⟩),(101,⟨62,2,true,rV tSn b⟩),(102,⟨62,2,true,rV tSn c⟩)] [.own (.sl 20 1 0 3)] (.val (tB true)) [] []:=by
 refine CtG.intro [20,100,101,102] Tryz.func25 rfl Tryz.ntmps25 rfl rfl ⟨⟨rfl,(SupX.lit rfl)⟩,⟨rfl,xa9⟩,⟨rfl,xa9⟩,⟨rfl,xa9⟩,trivial⟩ ?_
 intro w F η
 refine A7 ?_
 refine R0 (d_buildE (vs:=[]) (r:= .agg #[.slice none 0 0,.slice none 0 0,.slice none 0 0,.slice none 0 0,.slice none 0 0,.slice none 0 0,.slice none 0 0,.slice none 0 0,.slice none 0 0,.slice none 0 0,.slice none 0 0,.slice none 0 0,.slice none 0 0,.slice none 0 0,.slice none 0 0,.slice none 0 0,.slice none 0 0,.slice none 0 0,.slice none 0 0,.slice none 0 0,.slice none 0 0,.slice none 0 0,.slice none 0 0]) rfl (fun w=>by kernel_rfl)) (RE (d_boxC (k:=6) (n:=23) _ rfl rfl rfl rfl) ⟨rfl,trivial⟩ trivial ⟨rfl,trivial⟩ ?_)
 refine A9 ?_
 refine A1 ?_
 refine C_loopA (ι:=Nat) (fun k=>k≤3) (selS [(upd (upd (upd (fun _=>none) 0 (some (.own (.sl 20 1 0 3)))) 3 (some (.own (.ptr 6 0)))) 4 (some (.val (tI 0)))),(upd (upd (upd (fun _=>none) 0 (some (.own (.sl 20 1 0 3)))) 3 (some (.own (.ptr 6 0)))) 4 (some (.val (tI 1)))),(upd (upd (upd (fun _=>none) 0 (some (.own (.sl 20 1 0 3)))) 3 (some (.own (.ptr 6 0)))) 4 (some (.val (tI 2))))] (upd (upd (upd (fun _=>none) 0 (some (.own (.sl 20 1 0 3)))) 3 (some (.own (.ptr 6 0)))) 4 (some (.val (tI 3))))) (selS [(upd (upd (upd (upd (upd (fun _=>none) 6 (some ((bgR (.val (tE (.slice none 0 0))))))) 20 (some (⟨45,1,false,[.own (.sl 100 2 0 a.length),.own (.sl 101 2 0 b.length),.own (.sl 102 2 0 c.length)]⟩))) 100 (some (⟨62,2,true,rV tSn a⟩))) 101 (some (⟨62,2,true,rV tSn b⟩))) 102 (some (⟨62,2,true,rV tSn c⟩))),(upd (upd (upd (upd (upd (upd (fun _=>none) 6 (some ((bgR (.own (.sl 31 1 0 1)))))) 31 (some (⟨45,1,false,[.own (.sl 100 2 0 a.length)]⟩))) 20 (some (⟨45,1,false,[.own (.sl 100 2 0 a.length),.own (.sl 101 2 0 b.length),.own (.sl 102 2 0 c.length)]⟩))) 100 (some (⟨62,2,true,rV tSn a⟩))) 101 (some (⟨62,2,true,rV tSn b⟩))) 102 (some (⟨62,2,true,rV tSn c⟩))),(upd (upd (upd (upd (upd (upd (fun _=>none) 6 (some ((bgR (.own (.sl 32 1 0 2)))))) 32 (some (⟨45,1,false,[.own (.sl 100 2 0 a.length),.own (.sl 101 2 0 b.length)]⟩))) 20 (some (⟨45,1,false,[.own (.sl 100 2 0 a.length),.own (.sl 101 2 0 b.length),.own (.sl 102 2 0 c.length)]⟩))) 100 (some (⟨62,2,true,rV tSn a⟩))) 101 (some (⟨62,2,true,rV tSn b⟩))) 102 (some (⟨62,2,true,rV tSn c⟩)))] (upd (upd (upd (upd (upd (upd (fun _=>none) 6 (some ((bgR (.own (.sl 33 1 0 3)))))) 33 (some (⟨45,1,false,[.own (.sl 100 2 0 a.length),.own (.sl 101 2 0 b.length),.own (.sl 102 2 0 c.length)]⟩))) 20 (some (⟨45,1,false,[.own (.sl 100 2 0 a.length),.own (.sl 101 2 0 b.length),.own (.sl 102 2 0 c.length)]⟩))) 100 (some (⟨62,2,true,rV tSn a⟩))) 101 (some (⟨62,2,true,rV tSn b⟩))) 102 (some (⟨62,2,true,rV tSn c⟩)))) (selS [((nm [6,20,100,101,102])),((nm [6,31,20,100,101,102])),((nm [6,32,20,100,101,102,31]))] ((nm [6,33,20,100,101,102,31,32]))) (fun k=>3 - k) 0 (Nat.zero_le _) (Sub.int rfl (by first | omega | rfl | (dsimp only;omega)) (Sub.cons rfl (Sub.cons rfl Sub.nil))) (SubK.cons rfl (SubK.cons rfl (SubK.cons rfl (SubK.cons rfl (SubK.cons rfl SubK.nil))))) (SupG.val (SupG.own rfl (SupG.own rfl SupG.nil))) (SupH.cons rfl (supJ xa9) (SupH.cons rfl (supJ xa9) (SupH.cons rfl (supJ xa9) (SupH.cons rfl (supJL rfl) (SupH.cons rfl (supJL rfl) SupH.nil))))) (lkOk rfl) ?_
 intro k hk
 rcases (show k=0∨k=1∨k=2∨k=3 by omega) with rfl | rfl | rfl | rfl
 ·
  show wc _ _ _ _ (upd (upd (upd (fun _=>none) 0 (some (.own (.sl 20 1 0 3)))) 3 (some (.own (.ptr 6 0)))) 4 (some (.val (tI 0)))) (upd (upd (upd (upd (upd (fun _=>none) 6 (some ((bgR (.val (tE (.slice none 0 0))))))) 20 (some (⟨45,1,false,[.own (.sl 100 2 0 a.length),.own (.sl 101 2 0 b.length),.own (.sl 102 2 0 c.length)]⟩))) 100 (some (⟨62,2,true,rV tSn a⟩))) 101 (some (⟨62,2,true,rV tSn b⟩))) 102 (some (⟨62,2,true,rV tSn c⟩))) (nm [6,20,100,101,102])
  refine A9 ?_
  refine C_bT rfl (decide_eq_true (by decide)) ?_
  refine A8 ?_
  refine R2 (xa5 sl53 (by omega) (by omega) rfl) rfl rfl (RE (xb2 (0) ti45 rfl rfl) ⟨rfl,trivial⟩ ⟨rfl,trivial⟩ trivial (RE (xe0 (fun j=>cond (Nat.beq j 101) 101 (cond (Nat.beq j 100) 100 (cond (Nat.beq j 30) 6 (cond (Nat.beq j 11) 31 (102))))) (c_putSpans0 a b c) fi53 rfl (krC (ρ:=fun j=>cond (Nat.beq j 101) 101 (cond (Nat.beq j 100) 100 (cond (Nat.beq j 30) 6 (cond (Nat.beq j 11) 31 (102))))) (k:=30) rfl (krN (ρ:=fun j=>cond (Nat.beq j 101) 101 (cond (Nat.beq j 100) 100 (cond (Nat.beq j 30) 6 (cond (Nat.beq j 11) 31 (102))))))) (krC (ρ:=fun j=>cond (Nat.beq j 101) 101 (cond (Nat.beq j 100) 100 (cond (Nat.beq j 30) 6 (cond (Nat.beq j 11) 31 (102))))) (k:=30) rfl (krC (ρ:=fun j=>cond (Nat.beq j 101) 101 (cond (Nat.beq j 100) 100 (cond (Nat.beq j 30) 6 (cond (Nat.beq j 11) 31 (102))))) (k:=11) rfl (krN (ρ:=fun j=>cond (Nat.beq j 101) 101 (cond (Nat.beq j 100) 100 (cond (Nat.beq j 30) 6 (cond (Nat.beq j 11) 31 (102)))))))) ⟨⟨rfl,(SupX.lit rfl)⟩,⟨rfl,(SupX.lit rfl)⟩,trivial⟩ rfl) ⟨rfl,rfl,trivial⟩ ⟨rfl,trivial⟩ ⟨rfl,trivial⟩ ?_))
  refine A8 ?_
  exact fun _ _ hs=>K_famA 1 ⟨(by decide),(by decide)⟩ (Sub.int rfl (by first | omega | rfl | (dsimp only;omega)) (Sub.cons rfl (Sub.cons rfl Sub.nil))) (SubK.cons rfl (SubK.cons rfl (SubK.cons rfl (SubK.cons rfl (SubK.cons rfl (SubK.cons rfl SubK.nil)))))) (SupG.val (SupG.own rfl (SupG.own rfl SupG.nil))) (SupH.cons rfl (supJ xa9) (SupH.cons rfl (supJ xa9) (SupH.cons rfl (supJ xa9) (SupH.cons rfl (supJL rfl) (SupH.cons rfl (supJL rfl) (SupH.cons rfl (supJL rfl) SupH.nil)))))) (lkOk rfl) hs
 ·
  show wc _ _ _ _ (upd (upd (upd (fun _=>none) 0 (some (.own (.sl 20 1 0 3)))) 3 (some (.own (.ptr 6 0)))) 4 (some (.val (tI 1)))) (upd (upd (upd (upd (upd (upd (fun _=>none) 6 (some ((bgR (.own (.sl 31 1 0 1)))))) 31 (some (⟨45,1,false,[.own (.sl 100 2 0 a.length)]⟩))) 20 (some (⟨45,1,false,[.own (.sl 100 2 0 a.length),.own (.sl 101 2 0 b.length),.own (.sl 102 2 0 c.length)]⟩))) 100 (some (⟨62,2,true,rV tSn a⟩))) 101 (some (⟨62,2,true,rV tSn b⟩))) 102 (some (⟨62,2,true,rV tSn c⟩))) (nm [6,31,20,100,101,102])
  refine A9 ?_
  refine C_bT rfl (decide_eq_true (by decide)) ?_
  refine A8 ?_
  refine R2 (xa5 sl53 (by omega) (by omega) rfl) rfl rfl (RE (xb2 (1) ti45 rfl rfl) ⟨rfl,trivial⟩ ⟨rfl,trivial⟩ trivial (RE (xe0 (fun j=>cond (Nat.beq j 102) 102 (cond (Nat.beq j 101) 101 (cond (Nat.beq j 100) 100 (cond (Nat.beq j 30) 6 (cond (Nat.beq j 11) 32 (31)))))) (c_putSpans1 a b c) fi53 rfl (krC (ρ:=fun j=>cond (Nat.beq j 102) 102 (cond (Nat.beq j 101) 101 (cond (Nat.beq j 100) 100 (cond (Nat.beq j 30) 6 (cond (Nat.beq j 11) 32 (31)))))) (k:=30) rfl (krC (ρ:=fun j=>cond (Nat.beq j 102) 102 (cond (Nat.beq j 101) 101 (cond (Nat.beq j 100) 100 (cond (Nat.beq j 30) 6 (cond (Nat.beq j 11) 32 (31)))))) (k:=31) rfl (krC (ρ:=fun j=>cond (Nat.beq j 102) 102 (cond (Nat.beq j 101) 101 (cond (Nat.beq j 100) 100 (cond (Nat.beq j 30) 6 (cond (Nat.beq j 11) 32 (31)))))) (k:=100) xb9 (krN (ρ:=fun j=>cond (Nat.beq j 102) 102 (cond (Nat.beq j 101) 101 (cond (Nat.beq j 100) 100 (cond (Nat.beq j 30) 6 (cond (Nat.beq j 11) 32 (31)))))))))) (krC (ρ:=fun j=>cond (Nat.beq j 102) 102 (cond (Nat.beq j 101) 101 (cond (Nat.beq j 100) 100 (cond (Nat.beq j 30) 6 (cond (Nat.beq j 11) 32 (31)))))) (k:=30) rfl (krC (ρ:=fun j=>cond (Nat.beq j 102) 102 (cond (Nat.beq j 101) 101 (cond (Nat.beq j 100) 100 (cond (Nat.beq j 30) 6 (cond (Nat.beq j 11) 32 (31)))))) (k:=11) rfl (krC (ρ:=fun j=>cond (Nat.beq j 102) 102 (cond (Nat.beq j 101) 101 (cond (Nat.beq j 100) 100 (cond (Nat.beq j 30) 6 (cond (Nat.beq j 11) 32 (31)))))) (k:=100) xb9 (krN (ρ:=fun j=>cond (Nat.beq j 102) 102 (cond (Nat.beq j 101) 101 (cond (Nat.beq j 100) 100 (cond (Nat.beq j 30) 6 (cond (Nat.beq j 11) 32 (31)))))))))) ⟨⟨rfl,(SupX.lit rfl)⟩,⟨rfl,(SupX.lit rfl)⟩,⟨rfl,xa9⟩,trivial⟩ rfl) ⟨rfl,rfl,trivial⟩ ⟨rfl,rfl,rfl,trivial⟩ ⟨rfl,trivial⟩ ?_))
  refine A8 ?_
  exact fun _ _ hs=>K_famA 2 ⟨(by decide),(by decide)⟩ (Sub.int rfl (by first | omega | rfl | (dsimp only;omega)) (Sub.cons rfl (Sub.cons rfl Sub.nil))) (SubK.cons rfl (SubK.cons rfl (SubK.cons rfl (SubK.cons rfl (SubK.cons rfl (SubK.cons rfl SubK.nil)))))) (SupG.val (SupG.own rfl (SupG.own rfl SupG.nil))) (SupH.cons rfl (supJ xa9) (SupH.cons rfl (supJ xa9) (SupH.cons rfl (supJ xa9) (SupH.cons rfl (supJL rfl) (SupH.cons rfl (supJL rfl) (SupH.cons rfl (supJL rfl) SupH.nil)))))) (lkOk rfl) hs
 ·
  show wc _ _ _ _ (upd (upd (upd (fun _=>none) 0 (some (.own (.sl 20 1 0 3)))) 3 (some (.own (.ptr 6 0)))) 4 (some (.val (tI 2)))) (upd (upd (upd (upd (upd (upd (fun _=>none) 6 (some ((bgR (.own (.sl 32 1 0 2)))))) 32 (some (⟨45,1,false,[.own (.sl 100 2 0 a.length),.own (.sl 101 2 0 b.length)]⟩))) 20 (some (⟨45,1,false,[.own (.sl 100 2 0 a.length),.own (.sl 101 2 0 b.length),.own (.sl 102 2 0 c.length)]⟩))) 100 (some (⟨62,2,true,rV tSn a⟩))) 101 (some (⟨62,2,true,rV tSn b⟩))) 102 (some (⟨62,2,true,rV tSn c⟩))) (nm [6,32,20,100,101,102,31])
  refine A9 ?_
  refine C_bT rfl (decide_eq_true (by decide)) ?_
  refine A8 ?_
  refine R2 (xa5 sl53 (by omega) (by omega) rfl) rfl rfl (RE (xb2 (2) ti45 rfl rfl) ⟨rfl,trivial⟩ ⟨rfl,trivial⟩ trivial (RE (xe0 (fun j=>cond (Nat.beq j 102) 102 (cond (Nat.beq j 101) 101 (cond (Nat.beq j 100) 100 (cond (Nat.beq j 30) 6 (cond (Nat.beq j 11) 33 (32)))))) (c_putSpans2 a b c) fi53 rfl (krC (ρ:=fun j=>cond (Nat.beq j 102) 102 (cond (Nat.beq j 101) 101 (cond (Nat.beq j 100) 100 (cond (Nat.beq j 30) 6 (cond (Nat.beq j 11) 33 (32)))))) (k:=30) rfl (krC (ρ:=fun j=>cond (Nat.beq j 102) 102 (cond (Nat.beq j 101) 101 (cond (Nat.beq j 100) 100 (cond (Nat.beq j 30) 6 (cond (Nat.beq j 11) 33 (32)))))) (k:=31) rfl (krC (ρ:=fun j=>cond (Nat.beq j 102) 102 (cond (Nat.beq j 101) 101 (cond (Nat.beq j 100) 100 (cond (Nat.beq j 30) 6 (cond (Nat.beq j 11) 33 (32)))))) (k:=100) xb9 (krC (ρ:=fun j=>cond (Nat.beq j 102) 102 (cond (Nat.beq j 101) 101 (cond (Nat.beq j 100) 100 (cond (Nat.beq j 30) 6 (cond (Nat.beq j 11) 33 (32)))))) (k:=101) xb9 (krN (ρ:=fun j=>cond (Nat.beq j 102) 102 (cond (Nat.beq j 101) 101 (cond (Nat.beq j 100) 100 (cond (Nat.beq j 30) 6 (cond (Nat.beq j 11) 33 (32))))))))))) (krC (ρ:=fun j=>cond (Nat.beq j 102) 102 (cond (Nat.beq j 101) 101 (cond (Nat.beq j 100) 100 (cond (Nat.beq j 30) 6 (cond (Nat.beq j 11) 33 (32)))))) (k:=30) rfl (krC (ρ:=fun j=>cond (Nat.beq j 102) 102 (cond (Nat.beq j 101) 101 (cond (Nat.beq j 100) 100 (cond (Nat.beq j 30) 6 (cond (Nat.beq j 11) 33 (32)))))) (k:=11) rfl (krC (ρ:=fun j=>cond (Nat.beq j 102) 102 (cond (Nat.beq j 101) 101 (cond (Nat.beq j 100) 100 (cond (Nat.beq j 30) 6 (cond (Nat.beq j 11) 33 (32)))))) (k:=100) xb9 (krC (ρ:=fun j=>cond (Nat.beq j 102) 102 (cond (Nat.beq j 101) 101 (cond (Nat.beq j 100) 100 (cond (Nat.beq j 30) 6 (cond (Nat.beq j 11) 33 (32)))))) (k:=101) xb9 (krN (ρ:=fun j=>cond (Nat.beq j 102) 102 (cond (Nat.beq j 101) 101 (cond (Nat.beq j 100) 100 (cond (Nat.beq j 30) 6 (cond (Nat.beq j 11) 33 (32))))))))))) ⟨⟨rfl,(SupX.lit rfl)⟩,⟨rfl,(SupX.lit rfl)⟩,⟨rfl,xa9⟩,⟨rfl,xa9⟩,trivial⟩ rfl) ⟨rfl,rfl,trivial⟩ ⟨rfl,rfl,rfl,rfl,trivial⟩ ⟨rfl,trivial⟩ ?_))
  refine A8 ?_
  exact fun _ _ hs=>K_famA 3 ⟨(by decide),(by decide)⟩ (Sub.int rfl (by first | omega | rfl | (dsimp only;omega)) (Sub.cons rfl (Sub.cons rfl Sub.nil))) (SubK.cons rfl (SubK.cons rfl (SubK.cons rfl (SubK.cons rfl (SubK.cons rfl (SubK.cons rfl SubK.nil)))))) (SupG.val (SupG.own rfl (SupG.own rfl SupG.nil))) (SupH.cons rfl (supJ xa9) (SupH.cons rfl (supJ xa9) (SupH.cons rfl (supJ xa9) (SupH.cons rfl (supJL rfl) (SupH.cons rfl (supJL rfl) (SupH.cons rfl (supJL rfl) SupH.nil)))))) (lkOk rfl) hs
 ·
  show wc _ _ _ _ (upd (upd (upd (fun _=>none) 0 (some (.own (.sl 20 1 0 3)))) 3 (some (.own (.ptr 6 0)))) 4 (some (.val (tI 3)))) (upd (upd (upd (upd (upd (upd (fun _=>none) 6 (some ((bgR (.own (.sl 33 1 0 3)))))) 33 (some (⟨45,1,false,[.own (.sl 100 2 0 a.length),.own (.sl 101 2 0 b.length),.own (.sl 102 2 0 c.length)]⟩))) 20 (some (⟨45,1,false,[.own (.sl 100 2 0 a.length),.own (.sl 101 2 0 b.length),.own (.sl 102 2 0 c.length)]⟩))) 100 (some (⟨62,2,true,rV tSn a⟩))) 101 (some (⟨62,2,true,rV tSn b⟩))) 102 (some (⟨62,2,true,rV tSn c⟩))) (nm [6,33,20,100,101,102,31,32])
  refine A9 ?_
  refine xa8 rfl (decide_eq_false (by decide)) ?_
  refine A8 ?_
  refine RE (xe0 (fun j=>cond (Nat.beq j 101) 101 (cond (Nat.beq j 100) 100 (cond (Nat.beq j 20) 33 (cond (Nat.beq j 30) 6 (102))))) (c_apart3 a b c ha hb hc) fi54 rfl (krC (ρ:=fun j=>cond (Nat.beq j 101) 101 (cond (Nat.beq j 100) 100 (cond (Nat.beq j 20) 33 (cond (Nat.beq j 30) 6 (102))))) (k:=30) rfl (krC (ρ:=fun j=>cond (Nat.beq j 101) 101 (cond (Nat.beq j 100) 100 (cond (Nat.beq j 20) 33 (cond (Nat.beq j 30) 6 (102))))) (k:=20) rfl (krC (ρ:=fun j=>cond (Nat.beq j 101) 101 (cond (Nat.beq j 100) 100 (cond (Nat.beq j 20) 33 (cond (Nat.beq j 30) 6 (102))))) (k:=100) xb9 (krC (ρ:=fun j=>cond (Nat.beq j 101) 101 (cond (Nat.beq j 100) 100 (cond (Nat.beq j 20) 33 (cond (Nat.beq j 30) 6 (102))))) (k:=101) xb9 (krC (ρ:=fun j=>cond (Nat.beq j 101) 101 (cond (Nat.beq j 100) 100 (cond (Nat.beq j 20) 33 (cond (Nat.beq j 30) 6 (102))))) (k:=102) xb9 (krN (ρ:=fun j=>cond (Nat.beq j 101) 101 (cond (Nat.beq j 100) 100 (cond (Nat.beq j 20) 33 (cond (Nat.beq j 30) 6 (102))))))))))) (krN (ρ:=fun j=>cond (Nat.beq j 101) 101 (cond (Nat.beq j 100) 100 (cond (Nat.beq j 20) 33 (cond (Nat.beq j 30) 6 (102)))))) trivial rfl) ⟨rfl,trivial⟩ ⟨rfl,rfl,rfl,rfl,rfl,trivial⟩ trivial ?_
  refine A4 ?_
  exact xe3 LentC.mk' rfl rfl Imp.refl trivial rfl trivial rfl
end An.S

/- Law 8: ServiceSets: the program and the reference agree on sets, which share no memory. -/
namespace An.S
open Go Go.Proofs An
set_option maxHeartbeats 2000000
set_option maxRecDepth 100000
instance fi5:FnI Tryz.prog 5:=⟨_,Tryz.func5,by kernel_rfl,rfl⟩
instance fi6:FnI Tryz.prog 6:=⟨_,Tryz.func6,by kernel_rfl,rfl⟩
instance fi7:FnI Tryz.prog 7:=⟨_,Tryz.func7,by kernel_rfl,rfl⟩
instance fi21:FnI Tryz.prog 21:=⟨_,Tryz.func21,by kernel_rfl,rfl⟩
instance fi22:FnI Tryz.prog 22:=⟨_,Tryz.func22,by kernel_rfl,rfl⟩
instance fi25:FnI Tryz.prog 25:=⟨_,Tryz.func25,by kernel_rfl,rfl⟩
theorem c_SameSpansE (x:List Sn):Ct Tryz.prog 24 [tL 2 true tSn x,tL 2 true tSn x] (tB true):=by
  have:=c_SameSpans x x
  rw [decide_eq_true rfl] at this;exact this
theorem c_LentStepsC (l:List Tst) (hl:l.length≤60) (hs: ∀s∈l,s.v.f.n.l.length≤1048576∧s.v.f.d.l.length≤1048576):Ct Tryz.prog 16 [tL 8 true tTs l] (tStW l):=
  (c_LentStepsN l hl hs).toCt fun _=>tG_le
theorem brk_lenW {w:List Sn}:(brk w).length≤w.length:=by rw [brk];simp
theorem brg_lenW (d:Int): ∀(w acc:List Sn),(w.foldl (brg1 d) acc).length≤acc.length+w.length
  | [],acc=>by simp
  | s::r,acc=>by
    have h:=brg_lenW d r (brg1 d acc s)
    have h2:(brg1 d acc s).length≤acc.length+1:=by
      rw [brg1];split
      · rw [List.length_set];omega
      · simp
    rw [List.foldl_cons,List.length_cons];omega
theorem setsLen {l:List Tst} {a b d:Int} (hl:l.length≤60) {c:Prop} [Decidable c]:(if c then wkd l a b else []).length≤1000000∧(if c then brk (wkd l a b) else []).length≤1000000∧(if c then brg d (wkd l a b) else []).length≤1000000:=by
  have h1:=wkd_len (l:=l) (a:=a) (b:=b)
  have h2:=brk_lenW (w:=wkd l a b)
  have h3:=brg_lenW d (wkd l a b) []
  rw [←brg] at h3
  have h4:([]:List Sn).length=0:=rfl
  split
  · exact ⟨by omega,by omega,by omega⟩
  · exact ⟨by omega,by omega,by omega⟩
theorem c_sets8 (l:List Tst) (a b d:Int) (hl:l.length≤60) (hD: ∀s∈l,s.v.f.dig) (hs: ∀s∈l,s.v.f.n.l.length≤1200∧s.v.f.d.l.length≤1200):
  Ct Tryz.prog 6 [tL 8 true tTs l,tI a,tI b,tI d] (tB true):=by
 refine Ct.intro Tryz.func6 rfl Tryz.ntmps6 rfl ?_
 intro w F
 refine xd1 ?_
 refine xd0 ?_
 refine R1 xb3 rfl (xc7 (by kernel_rfl) (xb8 (xd1 ?_)))
 refine xd0 ?_
 refine R1 xa2 rfl (R1 (x3 (c_LentStepsC l hl (fun s hsm=>by have:=hs s hsm;omega)) fi16 rfl) rfl (R1 xb3 rfl (xc7 (by kernel_rfl) (xb8 (xd1 ?_)))))
 refine xd0 ?_
 refine R1 xa2 rfl (R1 xa2 rfl (R1 xa2 rfl (RE (xe0 (fun _=>28) (CtG.le1 stW_le (c_WorkedO l a b (by omega) hD _ _ rfl rfl)) fi17 rfl (krN (ρ:=fun _=>28)) (krC (ρ:=fun _=>28) (k:=20) xb9 (krN (ρ:=fun _=>28))) ⟨⟨rfl,xa9⟩,trivial⟩ rfl) ⟨rfl,rfl,rfl,trivial⟩ trivial ⟨rfl,trivial⟩ (R1 xa2 rfl (R1 (xi2 rfl) rfl (R1 (xi2 rfl) rfl (R1 xb3 rfl ?_)))))))
 refine R1 xb3 rfl (xc7 (by kernel_rfl) (xb8 (xd1 ?_)))
 refine xd0 ?_
 refine R1 xa2 rfl (R1 xa2 rfl (R1 xa2 rfl (RE (xe0 (fun _=>35) (CtG.le1 stW_le (c_BreaksO l a b (by omega) hD _ _ rfl rfl)) fi18 rfl (krN (ρ:=fun _=>35)) (krC (ρ:=fun _=>35) (k:=10) xb9 (krN (ρ:=fun _=>35))) ⟨⟨rfl,xa9⟩,trivial⟩ rfl) ⟨rfl,rfl,rfl,trivial⟩ trivial ⟨rfl,trivial⟩ (R1 xa2 rfl (R1 (xi2 rfl) rfl (R1 (xi2 rfl) rfl (R1 xb3 rfl ?_)))))))
 refine R1 xb3 rfl (xc7 (by kernel_rfl) (xb8 (xd1 ?_)))
 refine xd0 ?_
 refine R1 xa2 rfl (R1 xa2 rfl (R1 xa2 rfl (R1 xa2 rfl (RE (xe0 (fun _=>43) (CtG.le1 stW_le (c_PeriodsO l a b d (by omega) hD _ _ rfl rfl)) fi19 rfl (krN (ρ:=fun _=>43)) (krC (ρ:=fun _=>43) (k:=28) xb9 (krN (ρ:=fun _=>43))) ⟨⟨rfl,xa9⟩,trivial⟩ rfl) ⟨rfl,rfl,rfl,rfl,trivial⟩ trivial ⟨rfl,trivial⟩ (R1 xa2 rfl (R1 (xi2 rfl) rfl (R1 (xi2 rfl) rfl ?_)))))))
 refine R1 xb3 rfl (R1 xb3 rfl (xc7 (by kernel_rfl) (xb8 (xd1 ?_))))
 refine xd0 ?_
 refine R1 xa2 rfl (R1 xa2 rfl (R1 xa2 rfl (R3 (x3 (c_R8Worked l (by omega) a b hD (fun s hsm=>by have:=hs s hsm;omega)) fi20 rfl) rfl rfl rfl (R1 xa2 rfl (R1 (d_extract rfl) rfl (R1 (d_extract rfl) rfl (R1 xb3 rfl ?_)))))))
 refine R1 xb3 rfl (xc7 (by kernel_rfl) (xb8 (xd1 ?_)))
 refine xd0 ?_
 refine R1 xa2 rfl (R1 xa2 rfl (R1 xa2 rfl (R3 (x3 (c_R8Breaks l (by omega) a b hD (fun s hsm=>by have:=hs s hsm;omega)) fi21 rfl) rfl rfl rfl (R1 xa2 rfl (R1 (d_extract rfl) rfl (R1 (d_extract rfl) rfl (R1 xb3 rfl ?_)))))))
 refine R1 xb3 rfl (xc7 (by kernel_rfl) (xb8 (xd1 ?_)))
 refine xd0 ?_
 refine R1 xa2 rfl (R1 xa2 rfl (R1 xa2 rfl (R1 xa2 rfl (RE (x3 (c_R8Periods l (by omega) a b d hD (fun s hsm=>by have:=hs s hsm;omega)) fi22 rfl) ⟨rfl,rfl,rfl,rfl,trivial⟩ trivial trivial (R1 xa2 rfl (R1 (d_extract rfl) rfl (R1 (d_extract rfl) rfl ?_)))))))
 refine R1 xb3 rfl (R1 xb3 rfl (xc7 (by kernel_rfl) (xb8 (xd1 (xd1 ?_)))))
 refine xd0 ?_
 refine R1 xa2 rfl (R1 xa2 rfl (R2 d_neq rfl rfl (R1 xa2 rfl (RGon (decide_eq_false (by simp)) rfl xa2 rfl ⟨rfl,trivial⟩ trivial trivial (RGon (decide_eq_false (by simp)) rfl xa2 rfl ⟨rfl,trivial⟩ trivial trivial (RGon (decide_eq_false (by simp)) rfl d_neq rfl ⟨rfl,rfl,trivial⟩ trivial trivial (R2 (xg3 (decide_eq_false (by simp))) rfl rfl ?_)))))))
 refine R1 xa2 rfl (RGon (decide_eq_false (by simp)) rfl xa2 rfl ⟨rfl,trivial⟩ trivial trivial (RGon (decide_eq_false (by simp)) rfl xa2 rfl ⟨rfl,trivial⟩ trivial trivial (RGon (decide_eq_false (by simp)) rfl d_neq rfl ⟨rfl,rfl,trivial⟩ trivial trivial (R2 (xg3 (decide_eq_false (by simp))) rfl rfl (R1 xa2 rfl (RGon (decide_eq_false (by simp)) rfl xa2 rfl ⟨rfl,trivial⟩ trivial trivial (RGon (decide_eq_false (by simp)) rfl xa2 rfl ⟨rfl,trivial⟩ trivial trivial ?_)))))))
 refine RGon (decide_eq_false (by simp)) rfl (x3 (c_KeptSteps l hl (fun s hsm=>by have:=hs s hsm;omega)) fi23 rfl) rfl ⟨rfl,rfl,trivial⟩ trivial trivial (RGon (decide_eq_false (by simp)) rfl d_not rfl ⟨rfl,trivial⟩ trivial trivial (R2 (xg3 (decide_eq_false (by simp))) rfl rfl (xc7 (by kernel_rfl) (xb8 (xa8 rfl rfl (C_skip (xb8 ?_)))))))
 refine xd1 ?_
 refine xd0 ?_
 refine R1 xa2 rfl (R1 xa2 rfl (RE (d_callR 28 62 2 (if askB l a b=true then wkd l a b else []).length [.own (.sl 28 2 0 (if askB l a b=true then wkd l a b else []).length),.val (tL 2 true tSn (if askB l a b=true then wkd l a b else []))] (fun _ _ _ _ h=>h) (c_SameSpansE (if askB l a b=true then wkd l a b else [])) fi24 (fun _ h=>h) (rV_all rfl) rfl ⟨.inr ⟨rfl,rfl⟩,.inl rfl,trivial⟩ rfl) ⟨rfl,rfl,trivial⟩ ⟨rfl,trivial⟩ trivial (R1 xa2 rfl (RGon rfl rfl xa2 rfl ⟨rfl,trivial⟩ trivial trivial (RGon rfl rfl xa2 rfl ⟨rfl,trivial⟩ trivial trivial (RGon rfl rfl (d_callR 35 62 2 (if askB l a b=true then brk (wkd l a b) else []).length [.own (.sl 35 2 0 (if askB l a b=true then brk (wkd l a b) else []).length),.val (tL 2 true tSn (if askB l a b=true then brk (wkd l a b) else []))] (fun _ _ _ _ h=>h) (c_SameSpansE (if askB l a b=true then brk (wkd l a b) else [])) fi24 (fun _ h=>h) (rV_all rfl) rfl ⟨.inr ⟨rfl,rfl⟩,.inl rfl,trivial⟩ rfl) rfl ⟨rfl,rfl,trivial⟩ ⟨rfl,trivial⟩ trivial (R2 (xg7 rfl) rfl rfl ?_)))))))
 refine R1 xa2 rfl (RGon rfl rfl xa2 rfl ⟨rfl,trivial⟩ trivial trivial (RGon rfl rfl xa2 rfl ⟨rfl,trivial⟩ trivial trivial (RGon rfl rfl (d_callR 43 62 2 (if askB l a b=true∧sVal (wkd l a b)=true∧0≤d then brg d (wkd l a b) else []).length [.own (.sl 43 2 0 (if askB l a b=true∧sVal (wkd l a b)=true∧0≤d then brg d (wkd l a b) else []).length),.val (tL 2 true tSn (if askB l a b=true∧sVal (wkd l a b)=true∧0≤d then brg d (wkd l a b) else []))] (fun _ _ _ _ h=>h) (c_SameSpansE (if askB l a b=true∧sVal (wkd l a b)=true∧0≤d then brg d (wkd l a b) else [])) fi24 (fun _ h=>h) (rV_all rfl) rfl ⟨.inr ⟨rfl,rfl⟩,.inl rfl,trivial⟩ rfl) rfl ⟨rfl,rfl,trivial⟩ ⟨rfl,trivial⟩ trivial (R2 (xg7 rfl) rfl rfl (R1 xa2 rfl (RGon rfl rfl xa2 rfl ⟨rfl,trivial⟩ trivial trivial (RGon rfl rfl xa2 rfl ⟨rfl,trivial⟩ trivial trivial ?_)))))))
 refine RGon rfl rfl xa2 rfl ⟨rfl,trivial⟩ trivial trivial (RGon rfl rfl (d_sliceOfO (k:=104) (ents:=[.own (.sl 28 2 0 (if askB l a b=true then wkd l a b else []).length),.own (.sl 35 2 0 (if askB l a b=true then brk (wkd l a b) else []).length),.own (.sl 43 2 0 (if askB l a b=true∧sVal (wkd l a b)=true∧0≤d then brg d (wkd l a b) else []).length)]) Tryz.underlying53 el45 zf45 rfl (by intro e he;simp only [List.mem_cons,List.not_mem_nil,or_false] at he;rcases he with rfl | rfl | rfl <;> infer_instance) rfl rfl rfl) rfl ⟨rfl,rfl,rfl,trivial⟩ trivial ⟨rfl,trivial⟩ (RGon rfl rfl (xe0 (fun j=>cond (Nat.beq j 101) 35 (cond (Nat.beq j 100) 28 (cond (Nat.beq j 20) 104 (43)))) (c_ApartSpans (if askB l a b=true then wkd l a b else []) (if askB l a b=true then brk (wkd l a b) else []) (if askB l a b=true∧sVal (wkd l a b)=true∧0≤d then brg d (wkd l a b) else []) (setsLen (d:=d) hl).1 (setsLen (d:=d) hl).2.1 (setsLen hl).2.2) fi25 rfl (krC (ρ:=fun j=>cond (Nat.beq j 101) 35 (cond (Nat.beq j 100) 28 (cond (Nat.beq j 20) 104 (43)))) (k:=20) rfl (krC (ρ:=fun j=>cond (Nat.beq j 101) 35 (cond (Nat.beq j 100) 28 (cond (Nat.beq j 20) 104 (43)))) (k:=100) xb9 (krC (ρ:=fun j=>cond (Nat.beq j 101) 35 (cond (Nat.beq j 100) 28 (cond (Nat.beq j 20) 104 (43)))) (k:=101) xb9 (krC (ρ:=fun j=>cond (Nat.beq j 101) 35 (cond (Nat.beq j 100) 28 (cond (Nat.beq j 20) 104 (43)))) (k:=102) xb9 (krN (ρ:=fun j=>cond (Nat.beq j 101) 35 (cond (Nat.beq j 100) 28 (cond (Nat.beq j 20) 104 (43))))))))) (krN (ρ:=fun j=>cond (Nat.beq j 101) 35 (cond (Nat.beq j 100) 28 (cond (Nat.beq j 20) 104 (43))))) trivial rfl) rfl ⟨rfl,trivial⟩ ⟨rfl,rfl,rfl,rfl,trivial⟩ trivial (R2 (xg7 rfl) rfl rfl (R1 xb3 rfl (xc7 (by kernel_rfl) (xb8 (C_ret ?_)))))))
 exact x4 Plain.mk' rfl rfl Le.refl
theorem c_SvcSets (l:List Tst) (a b d:Int) (hD: ∀s∈l,s.v.f.dig) (hr: ∀s∈l,s.v.f.n.l.length≤70368744177664∧s.v.f.d.l.length≤70368744177664):
  Ct Tryz.prog 3 [tL 8 true tTs l,tI a,tI b,tI d] (tB true):=by
 refine Ct.intro Tryz.func3 rfl Tryz.ntmps3 rfl ?_
 intro w F
 refine A8 ?_
 refine R1 (x3 (c_Few l hr) fi5 rfl) rfl ?_
 refine A2 ?_
 refine RGcase (t:=12) rfl (fun h91=> ?_) (fun h91=> ?_)
 ·
  refine A7 ?_
  refine RGon rfl rfl (x3 c_awake fi7 rfl) rfl trivial trivial trivial ?_
  refine A5 ?_
  exact x4 Plain.mk' rfl rfl Le.refl
 ·
  have hf:=few_of (l:=l) (by simpa using h91)
  refine A4 ?_
  refine RGon h91 rfl (x3 (c_sets8 l a b d hf.1 hD hf.2) fi6 rfl) rfl ⟨rfl,rfl,rfl,rfl,trivial⟩ trivial trivial ?_
  refine A2 ?_
  refine RGon rfl rfl (x3 c_awake fi7 rfl) rfl trivial trivial trivial ?_
  refine A5 ?_
  exact x4 Plain.mk' rfl rfl Le.refl
end An.S

/- As LibY, where the reach of what is read is known: slices of what is read are not too long. For any program. -/
namespace An
open Go Go.ChangeShapes Go.WideShapes Go.ChangeAt Go.RowKit
/-- No part of what is read passes the reach. -/
def Reached {H:Type} (P:Program) (T:TypeId) (d:DataW H):Prop:= ∀n∈d.weights P T,n≤reachBytes
/-- As Opn, for readings within the reach. -/
structure OpnW {α:Type} (P:Program) (T n:Nat) (agg:Bool) (f:α→Ty) (ok:α→Prop):Prop where
  size:P.cellsOf T=n
  pos:0 < n
  one:agg=false→n=1
  go: ∀{H:Type} {enc:TypeId×Value→H} {w:World} {sp:Nat→Bool} {held:Bool} {fuel:Nat} {cs:List Value} {x:DataW H×List MemPlace},
    DataW.trod enc P w 0 sp held fuel T cs=some x→Reached P T x.1→cs.length=n∧ ∃a,ok a∧(f a).p (Old w) w (pick agg n cs.toArray 0)
theorem OpnW.of {α:Type} {P:Program} {T n:Nat} {agg:Bool} {f:α→Ty} {ok:α→Prop} (h:Opn P T n agg f ok):OpnW P T n agg f ok:=⟨h.size,h.pos,h.one,fun hx _=>h.go hx⟩
theorem weights_all {H:Type} {P:Program} {e n:Nat} {d:DataW H} (hn:n∈d.weights P e):(l:List (DataW H))→d∈l→n∈DataW.weightsAll P e l
  | [],h=>by cases h
  | x::r,h=>by
    simp only [DataW.weightsAll,List.mem_append]
    rcases List.mem_cons.1 h with h | h
    · subst h;exact .inl hn
    · exact .inr (weights_all hn r h)
/-- A slice: its length in bytes is within the reach. -/
theorem OpnW.slice {α:Type} {P:Program} {T E es by_:Nat} {agg:Bool} {f:α→Ty} {ok:α→Prop} (ht:P.underlying T=some (.slice E)) (hc:P.cellsOf T=1) (hy:P.bytesOf E=by_) (he:OpnW P E es agg f ok):
    OpnW P T 1 false (fun xs:List α=>tL es agg f xs) (fun xs=>(∀x∈xs,ok x)∧xs.length*by_≤reachBytes) where
  size:=hc
  pos:=by decide
  one:=fun _=>rfl
  go:=fun {H enc w sp held fuel cs x} h hR=>by
    rcases Go.Deep.open_slice ht h with ⟨rfl,_⟩ | ⟨a,len,cap,m,n,D,Pl,rfl,_,hl,hm,hmm,hxx,hx⟩
    · exact ⟨rfl,[],⟨fun x hx=>by simp at hx,by simp⟩,none,0,rfl,Nat.le_refl _,by decide,.inl rfl⟩
    · refine ⟨rfl,?_⟩
      subst hxx
      have hlm:len≤m:=by rw [hmm];split <;> omega
      have hRe: ∀i,i < len→Reached P E (D i):=fun i hi k hk=>hR k (by
        simp only [DataW.weights,ht,List.mem_cons,List.mem_append]
        exact .inr (.inl (weights_all hk _ (List.mem_map.2 ⟨i,by simpa using hi,rfl⟩))))
      have hRl:len*by_≤reachBytes:=by
        have:=hR ((((List.range len).map D).length+((List.range (m - len)).map fun j=>D (len+j)).length)*P.bytesOf E) (by simp only [DataW.weights,ht,List.mem_cons,true_or])
        rw [hy,List.length_map,List.length_map,List.length_range,List.length_range,Nat.add_mul] at this
        omega
      have hel: ∀i,i < len→ ∃y,ok y∧(a.add (i*es)).spot=none∧a.block < w.heap.size∧(∃u,Mem w a.block (a.off+i*es) es agg u∧(f y).p (Old w) w u):=fun i hi=>by
        obtain ⟨cs',h1,h2⟩:=hx i (by omega)
        rw [he.size] at h1
        obtain ⟨_,y,hy,hy2⟩:=he.go h2 (hRe i hi)
        obtain ⟨h3,h4,h5⟩:=mem_of_cells h1 he.pos he.one
        have hblk:(a.add (i*es)).block=a.block:=by simp only [Addr.add];split <;> rfl
        have hoff:(a.add (i*es)).off=a.off+i*es:=by
          simp only [Addr.add];split
          · omega
          · rfl
        rw [hblk] at h4 h5;rw [hoff] at h5
        exact ⟨y,hy,h3,h4,_,h5,hy2⟩
      obtain ⟨ys,h1,h2⟩:=list_of len hel
      refine ⟨ys,⟨fun y hy=> ?_,by rw [h1];exact hRl⟩,some a,cap,?_,by omega,by simpa [maxLen] using hm,?_⟩
      · obtain ⟨i,hi⟩:=List.getElem?_of_mem hy
        exact (h2 i y hi).1
      · simp [pick,h1]
      · cases ys with
        | nil=>exact .inl rfl
        | cons y ys=>
          obtain ⟨_,hs,hb,_⟩:=h2 0 y rfl
          have ha:a.add (0*es)=a:=by simp [Addr.add]
          rw [ha] at hs
          refine .inr ⟨a.block,a.off,?_,hb,fun i x hi=>(h2 i x hi).2.2.2⟩
          obtain ⟨b,o,s⟩:=a
          simp only at hs
          rw [hs]
theorem OpnW.as {α β:Type} {P:Program} {T n:Nat} {agg:Bool} {f:α→Ty} {ok:α→Prop} {f':β→Ty} {ok':β→Prop} (h:OpnW P T n agg f ok) (g:α→β) (hf: ∀a,f' (g a)=f a) (hok: ∀a,ok a→ok' (g a)):OpnW P T n agg f' ok' where
  size:=h.size
  pos:=h.pos
  one:=h.one
  go:=fun hx hR=>by
    obtain ⟨h1,a,h2,h3⟩:=h.go hx hR
    exact ⟨h1,g a,hok a h2,by rw [hf];exact h3⟩
/-- The fields of a struct, from the offset o on. -/
structure OpnWF {α:Type} (P:Program) (fs:List Field) (o m:Nat) (fds:α→List Fd) (ok:α→Prop):Prop where
  sum: ∀a,Fd.sum (fds a)=m
  go: ∀{H:Type} {enc:TypeId×Value→H} {w:World} {sp:Nat→Bool} {held:Bool} {fuel:Nat} {cs:List Value} (ys:List (DataW H×List MemPlace)),ys.length=fs.length→
    (∀(i:Nat) (fd:Field),fs[i]? =some fd→DataW.trod enc P w 0 sp held fuel fd.type ((cs.drop fd.offset).take (P.cellsOf fd.type))=ys[i]?)→(∀n∈DataW.weightsEach P (fs.map (·.type)) (ys.map (·.1)),n≤reachBytes)→ ∃a,ok a∧Fd.all (Old w) w cs.toArray o (fds a)
theorem OpnWF.nil {P:Program} {o:Nat}:OpnWF P [] o 0 (fun _:Unit=>[]) (fun _=>True):=⟨fun _=>rfl,fun _ _ _ _=>⟨(),trivial,trivial⟩⟩
theorem OpnWF.cons {α β:Type} {P:Program} {fd:Field} {fs:List Field} {o n o' m m':Nat} {agg:Bool} {f:α→Ty} {ok:α→Prop} {g:β→List Fd} {ok':β→Prop} (h:OpnW P fd.type n agg f ok) (ho:fd.offset=o) (ho':o+n=o') (hr:OpnWF P fs o' m g ok') (hm:n+m=m'):
    OpnWF P (fd::fs) o m' (fun x:α×β=>⟨n,agg,f x.1⟩::g x.2) (fun x=>ok x.1∧ok' x.2) where
  sum:=fun a=>by simp only [Fd.sum,hr.sum];exact hm
  go:=fun {H enc w sp held fuel cs} ys hl hx hR=>by
    subst ho ho'
    cases ys with
    | nil=>simp at hl
    | cons y ys=>
      have hy:=hx 0 fd rfl
      rw [List.getElem?_cons_zero] at hy
      simp only [List.map_cons,DataW.weightsEach,List.mem_append] at hR
      obtain ⟨h1,a,h2,h3⟩:=h.go hy (fun n hn=>hR n (.inl hn))
      obtain ⟨b,h4,h5⟩:=hr.go (cs:=cs) ys (by simpa using hl) (fun i fd' h'=>by have:=hx (i+1) fd' (by simpa using h');simpa using this) (fun n hn=>hR n (.inr hn))
      rw [h.size] at h1 h3
      rw [pick_drop h.one h.pos h1] at h3
      exact ⟨(a,b),⟨h2,h4⟩,⟨h.one,h3⟩,h5⟩
theorem OpnW.struct {α:Type} {P:Program} {T m:Nat} {fs:Array Field} {fds:α→List Fd} {ok:α→Prop} (ht:P.underlying T=some (.struct fs)) (hc:P.cellsOf T=m) (h0:0 < m) (h:OpnWF P fs.toList 0 m fds ok):
    OpnW P T m true (fun a=>tS (fds a)) ok where
  size:=hc
  pos:=h0
  one:=fun h=>by cases h
  go:=fun {H enc w sp held fuel cs x} hx hR=>by
    obtain ⟨xs,n,_,rfl,hl,hlen,hf⟩:=DataW.trod_struct ht hx
    rw [hc] at hl
    obtain ⟨a,h1,h2⟩:=h.go (enc:=enc) (w:=w) (sp:=sp) (held:=held) (fuel:=n) (cs:=cs) xs (by simpa using hlen) (fun i fd hi=>hf i fd (by rw [Array.getElem?_toList] at hi;exact hi))
      (fun k hk=>hR k (by simp only [DataW.weights,ht];exact hk))
    refine ⟨hl,a,h1,cs.toArray,?_,by simp [hl,h.sum],h2⟩
    simp only [pick,cond_true,Value.agg.injEq]
    apply Array.ext_getElem?
    intro i
    rw [Array.getElem?_extract]
    simp only [List.size_toArray,Nat.zero_add]
    by_cases hi:i < m
    · rw [if_pos (by omega)]
    · rw [if_neg (by omega),Array.getElem?_eq_none (by simp;omega)]
section
variable {α:Type} {P:Program} {T n:Nat} {f:α→Ty} {ok:α→Prop} {r:Reach} {b0:Nat} {v:Value} {H:Type} {enc:TypeId×Value→H} {w:World} {sp:Nat→Bool} {held:Bool} {d:DataW H} {p:List MemPlace}
/-- An argument of one cell. -/
theorem OpnW.arg1 (h:OpnW P T 1 false f ok) (hv:v.cells= #[v]) (hd:DataW.Trod enc P w 0 sp held T v d p) (hR:Reached P T d): ∃a,ok a∧(f a).p (Old w) w v:=by
  obtain ⟨fuel,hf⟩:=hd
  obtain ⟨_,a,h2,h3⟩:=h.go hf hR
  refine ⟨a,h2,?_⟩
  rw [hv] at h3
  exact h3
/-- A slice as an argument. -/
theorem OpnW.argL {E:Nat} (h:OpnW P T 1 false f ok) (ht:P.underlying T=some (.slice E)) (hw:Value.okWide P w r b0 T v) (hd:DataW.Trod enc P w 0 sp held T v d p) (hR:Reached P T d): ∃a,ok a∧(f a).p (Old w) w v:=by
  obtain ⟨a,len,cap,rfl⟩:=okWide_slice ht hw
  exact h.arg1 rfl hd hR
/-- A number as an argument. -/
theorem OpnW.argI {k:IntKind} (h:OpnW P T 1 false f ok) (ht:P.underlying T=some (.int k)) (hw:Value.okWide P w r b0 T v) (hd:DataW.Trod enc P w 0 sp held T v d p) (hR:Reached P T d): ∃a,ok a∧(f a).p (Old w) w v:=by
  obtain ⟨m,rfl⟩:=okWide_int ht hw
  exact h.arg1 rfl hd hR
end
/-- Each argument is within the reach. -/
theorem reached_at {H:Type} {P:Program} {ts:List TypeId} {ds:List (DataW H)} (h:(DataW.weightsEach P ts ds).all (· ≤reachBytes)=true) {j:Nat} {t:TypeId} {d:DataW H} (ht:ts[j]? =some t) (hd:ds[j]? =some d):Reached P t d:=fun n hn=>by
  simpa using List.all_eq_true.1 h _ (DataW.weights_mem_each ht hd n hn)
end An

/- What the readers of law 5 read, within the reach: steps, numbers. -/
namespace An.S
open Go Go.Proofs An
open Go.ChangeShapes Go.WideShapes Go.ChangeAt Go.RowKit
set_option maxRecDepth 100000
theorem own:ownKnob Tryz.prog.godebug=none:=by kernel_rfl
theorem laidOut:laidOutB Tryz.prog=true:=by kernel_rfl
theorem oBool:Opn Tryz.prog 4 1 false (fun b:Bool=>tB b) (fun _=>True):=Opn.bool Tryz.underlying4 (by kernel_rfl)
theorem oInt:Opn Tryz.prog 3 1 false (fun n:Int=>tI n) (fun n=>IntKind.i64.min≤n∧n≤IntKind.i64.max):=Opn.int Tryz.underlying3 (by kernel_rfl)
theorem oU16:Opn Tryz.prog 42 1 false (fun n:Nat=>tE (.int .u16 n)) (fun n=>n < 65536):=Opn.nat Tryz.underlying42 (by kernel_rfl) rfl rfl
theorem oU8:Opn Tryz.prog 5 1 false (fun n:Nat=>tE (.int .u8 n)) (fun n=>n < 256):=Opn.nat Tryz.underlying5 (by kernel_rfl) rfl rfl
theorem oLm:OpnW Tryz.prog 26 1 false (fun l:List Nat=>tLm l) (fun l=>Dig 65536 l∧l.length≤70368744177664):=(OpnW.slice (by_:=2) Tryz.underlying26 (by kernel_rfl) (by kernel_rfl) (OpnW.of oU16)).as id (fun _=>rfl) (fun l h=>⟨h.1,by have h2:l.length*2≤140737488351232:=h.2;show l.length≤_;omega⟩)
/-- Numbers whose limbs are within the reach. -/
def whFits (x:Wh):Prop:=Dig 65536 x.l∧x.l.length≤70368744177664
def frFits (x:Fr):Prop:=whFits x.n∧whFits x.d
theorem oWh:OpnW Tryz.prog 28 2 true (fun x:Wh=>tWh x) whFits:=
  (OpnW.struct Tryz.underlying28 (by kernel_rfl) (by decide) (OpnWF.cons (OpnW.of oBool) rfl rfl (OpnWF.cons oLm rfl rfl OpnWF.nil rfl) rfl)).as (fun x=>⟨x.1,x.2.1⟩) (fun _=>rfl) (fun _ h=>h.2.1)
theorem oFr:OpnW Tryz.prog 30 4 true (fun x:Fr=>tFr x) frFits:=
  (OpnW.struct Tryz.underlying30 (by kernel_rfl) (by decide) (OpnWF.cons oWh rfl rfl (OpnWF.cons oWh rfl rfl OpnWF.nil rfl) rfl)).as (fun x=>⟨x.1,x.2.1⟩) (fun _=>rfl) (fun _ h=>⟨h.1,h.2.1⟩)
theorem oVa:OpnW Tryz.prog 32 6 true (fun x:Va=>tVa x) (fun x=>frFits x.f):=
  (OpnW.struct Tryz.underlying32 (by kernel_rfl) (by decide) (OpnWF.cons (OpnW.of oU8) rfl rfl (OpnWF.cons oFr rfl rfl (OpnWF.cons (OpnW.of oInt) rfl rfl OpnWF.nil rfl) rfl) rfl)).as (fun x=>⟨x.1,x.2.1,x.2.2.1⟩) (fun _=>rfl) (fun _ h=>h.2.1)
theorem oTs:OpnW Tryz.prog 34 8 true (fun x:Tst=>tTs x) (fun x=>frFits x.v.f):=
  (OpnW.struct Tryz.underlying34 (by kernel_rfl) (by decide) (OpnWF.cons (OpnW.of oInt) rfl rfl (OpnWF.cons (OpnW.of oInt) rfl rfl (OpnWF.cons oVa rfl rfl OpnWF.nil rfl) rfl) rfl)).as (fun x=>⟨x.1,x.2.1,x.2.2.1⟩) (fun _=>rfl) (fun _ h=>h.2.2.1)
theorem oSteps:OpnW Tryz.prog 22 1 false (fun l:List Tst=>tL 8 true tTs l) (fun l=> ∀s∈l,frFits s.v.f):=(OpnW.slice (by_:=96) Tryz.underlying22 (by kernel_rfl) (by kernel_rfl) oTs).as id (fun _=>rfl) (fun l h=>h.1)
theorem oIntW:OpnW Tryz.prog 3 1 false (fun n:Int=>tI n) (fun n=>IntKind.i64.min≤n∧n≤IntKind.i64.max):=OpnW.of oInt
theorem digs {l:List Tst} (h: ∀s∈l,frFits s.v.f): ∀s∈l,s.v.f.dig:=fun s hs=>⟨(h s hs).1.1,(h s hs).2.1⟩
theorem lens {l:List Tst} (h: ∀s∈l,frFits s.v.f): ∀s∈l,s.v.f.n.l.length≤70368744177664∧s.v.f.d.l.length≤70368744177664:=fun s hs=>⟨(h s hs).1.2,(h s hs).2.2⟩
/-- What a contract says, as the frame of a statement wants it. -/
theorem walked {f:FuncId} {ts:List Ty} (h:Ct Tryz.prog f ts (tB true)) {vs:List Value} {W:World} (ha:Tup.all (Old W) W ts vs):Calls Tryz.prog f vs.toArray W fun e W'=>e= .returned (.bool true)∧Ext W W':=
  (h (Old W) W vs ha).mono fun e W' ⟨v,h1,h2,h3⟩=>by
    have h3:v= .bool true:=h3
    subst h3;exact ⟨h1,h2⟩
end An.S
