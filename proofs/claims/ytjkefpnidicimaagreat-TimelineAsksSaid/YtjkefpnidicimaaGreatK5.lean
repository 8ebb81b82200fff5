/- Part 5 of a proof: P2, LibZg, P3, P4, V16, V17, V18, V19, U20, Ref4, U34, X1, X2, X3, LibLx, X4, Y0, R5, Y1, X5, O27, R5b, Y3, LibN2. -/
import Derived.Test.YtjkefpnidicimaaGreatChecked
import Derived.Test.YtjkefpnidicimaaGreatK4
/- Layer 5: joins, parts, days. -/
namespace An.S
open Go Go.Proofs An
set_option maxHeartbeats 2000000
instance ti113:TyI Tryz.prog 113 1 false:=⟨by kernel_rfl,by kernel_rfl⟩
instance fi183:FnI Tryz.prog 183:=⟨_,Tryz.func183,by kernel_rfl,rfl⟩
instance fi184:FnI Tryz.prog 184:=⟨_,Tryz.func184,by kernel_rfl,rfl⟩
instance fi186:FnI Tryz.prog 186:=⟨_,Tryz.func186,by kernel_rfl,rfl⟩
instance fi269:FnI Tryz.prog 269:=⟨_,Tryz.func269,by kernel_rfl,rfl⟩
theorem zr51:(Tryz.prog.info? 51).bind (·.zero)=some (.slice none 0 0)∧ ∀F w,(tE (.slice none 0 0)).p F w (.slice none 0 0):=⟨by kernel_rfl,fun _ _=>rfl⟩
theorem zr113:(Tryz.prog.info? 113).bind (·.zero)=some (.slice none 0 0)∧ ∀F w,(tE (.slice none 0 0)).p F w (.slice none 0 0):=⟨by kernel_rfl,fun _ _=>rfl⟩
theorem not_none {o:Option Va} (h:(!o.isNone)=true): ∃v,o=some v:=by
  cases o with
  | none=>cases h
  | some v=>exact ⟨v,rfl⟩
theorem is_none {o:Option Va} (h:(!o.isNone)=false):o=none:=by
  cases o with
  | none=>rfl
  | some v=>cases h
theorem jnG_or {a b:List Tst} {d:Int} (h:(valT b d).isNone=false):jnG a b d=valT b d:=by
  rw [jnG]
  cases hv:valT b d with
  | none=>rw [hv] at h;cases h
  | some v=>rfl
theorem jnG_len {a b:List Tst} {d:Int} {v:Va} (ha:tRight a=true) (hb:tRight b=true) (h:jnG a b d=some v):v.f.n.l.length≤256∧v.f.d.l.length≤256:=by
  rw [jnG] at h
  rcases Option.or_eq_some_iff.1 h with h4 | ⟨_,h4⟩
  · obtain ⟨t,ht,_,e⟩:=valT_some h4
    rw [←e];exact va_len (xi0 hb t ht)
  · obtain ⟨t,ht,_,e⟩:=valT_some h4
    rw [←e];exact va_len (xi0 ha t ht)
theorem c_TJoin (a b:List Tst) (hla:a.length≤200000) (hlb:b.length≤200000) (hDa: ∀s∈a,s.v.f.dig) (hDb: ∀s∈b,s.v.f.dig):
  Ct Tryz.prog 113 [tL 8 true tTs a,tL 8 true tTs b] (tT [tL 8 true tTs (if jnC a b then jnT a b else []),tI (if jnC a b then 0 else 2)]):=by
 refine Ct.intro Tryz.func113 rfl Tryz.ntmps113 rfl ?_
 intro w F
 refine A6 ?_
 refine xf7 (fun (_j:Unit)=>jnC a b) (fun (_j:Unit)=>upd (upd (fun _=>none) 0 (some (.val (tL 8 true tTs a)))) 1 (some (.val (tL 8 true tTs b)))) (fun (_j:Unit)=>fun _=>none) (nm []) ?_ ?_
 ·
  refine A3 ?_
  refine R1 (x3 (xg2 a hDa) fi106 rfl) rfl ?_
  refine A2 ?_
  refine RGcase (t:=13) rfl (fun h162=> ?_) (fun h162=> ?_)
  ·
   refine A9 ?_
   refine A9 ?_
   refine A9 ?_
   refine A9 ?_
   refine A2 ?_
   exact xc4 Plain.mk' rfl rfl rfl (leNil (by rw [if_neg (fun h=>by rw [h.1.1] at h162;cases h162)])) (Le.int (by rw [if_neg (fun h=>by rw [h.1.1] at h162;cases h162)]))
  ·
   refine A1 ?_
   refine RGon h162 rfl (x3 (xg2 b hDb) fi106 rfl) rfl ⟨rfl,trivial⟩ trivial trivial ?_
   refine A3 ?_
   refine RGcase (t:=18) rfl (fun h162_2=> ?_) (fun h162_2=> ?_)
   ·
    refine A9 ?_
    refine A9 ?_
    refine A9 ?_
    refine A6 ?_
    exact xc4 Plain.mk' rfl rfl rfl (leNil (by rw [if_neg (fun h=>by rw [h.1.2] at h162_2;cases h162_2)])) (Le.int (by rw [if_neg (fun h=>by rw [h.1.2] at h162_2;cases h162_2)]))
   ·
    refine A4 ?_
    refine RGcaseD (t:=22) rfl (fun h162_3=> ?_) (fun h162_3=> ?_)
    ·
     refine A3 ?_
     refine RGon h162_2 rfl (xe6 (decide_eq_true h162_3)) rfl ⟨rfl,rfl,trivial⟩ trivial trivial ?_
     refine A1 ?_
     refine RGcaseD (t:=27) rfl (fun h162_4=> ?_) (fun h162_4=> ?_)
     ·
      refine A1 ?_
      refine RGon (decide_eq_true h162_4) rfl (x5 sl51 (0) (by omega) (gD (l:=a) (n:=0) (d:=tst0) (by omega))) rfl ⟨rfl,rfl,trivial⟩ trivial trivial (RGon (decide_eq_true h162_4) rfl (xa8 fo59_2.h (At.f 2 rfl rfl) rfl) rfl ⟨rfl,trivial⟩ trivial trivial (RGon (decide_eq_true h162_4) rfl (xa8 fo57_0.h (At.f 0 rfl rfl) rfl) rfl ⟨rfl,trivial⟩ trivial trivial ?_))
      refine A2 ?_
      refine RGon (decide_eq_true h162_4) rfl (x5 sl51 (0) (by omega) (gD (l:=b) (n:=0) (d:=tst0) (by omega))) rfl ⟨rfl,rfl,trivial⟩ trivial trivial (RGon (decide_eq_true h162_4) rfl (xa8 fo59_2.h (At.f 2 rfl rfl) rfl) rfl ⟨rfl,trivial⟩ trivial trivial (RGon (decide_eq_true h162_4) rfl (xa8 fo57_0.h (At.f 0 rfl rfl) rfl) rfl ⟨rfl,trivial⟩ trivial trivial ?_))
      refine A2 ?_
      refine RGon h162_2 rfl (xe6 (decide_eq_true h162_4)) rfl ⟨rfl,rfl,trivial⟩ trivial trivial ?_
      refine A3 ?_
      refine x9 rfl (fun h162_5=> ?_) (fun h162_5=> ?_)
      ·
       refine A8 ?_
       exact xc4 Plain.mk' rfl rfl rfl (leNil (by rw [if_neg (fun h=>h.2 ⟨by omega,by omega,by omega⟩)])) (Le.int (by rw [if_neg (fun h=>h.2 ⟨by omega,by omega,by omega⟩)]))
      ·
       refine A1 ?_
       exact kF (()) ⟨⟨by simpa using h162,by simpa using h162_2⟩,by omega⟩
     ·
      refine A9 ?_
      refine A2 ?_
      refine RGon h162_2 rfl (xd2 (decide_eq_false h162_4)) rfl ⟨rfl,rfl,trivial⟩ trivial trivial ?_
      refine A5 ?_
      exact kF (()) ⟨⟨by simpa using h162,by simpa using h162_2⟩,by omega⟩
    ·
     refine A3 ?_
     refine RGon h162_2 rfl (xd2 (decide_eq_false h162_3)) rfl ⟨rfl,rfl,trivial⟩ trivial trivial ?_
     refine A9 ?_
     refine A3 ?_
     refine RGon h162_2 rfl (xd2 rfl) rfl ⟨rfl,rfl,trivial⟩ trivial trivial ?_
     refine A5 ?_
     exact kF (()) ⟨⟨by simpa using h162,by simpa using h162_2⟩,by omega⟩
 ·
  intro _j hok
  refine A2 ?_
  refine RE (xa3 (k:=6) (n:=1) (agg:=false) zr51.1 zr51.2 rfl) trivial trivial ⟨rfl,trivial⟩ ?_
  refine A4 ?_
  refine C_nilC (q:=6) 60 59 8 true 0 rfl rfl rfl rfl (fun h=>by cases h) rfl rfl ?_
  refine A3 ?_
  refine RE (xe3 (fun j=>cond (Nat.beq j 2) 43 (1043)) (c_together a b) fi186 rfl (krN (ρ:=fun j=>cond (Nat.beq j 2) 43 (1043))) (krC (ρ:=fun j=>cond (Nat.beq j 2) 43 (1043)) (k:=2) rfl (krC (ρ:=fun j=>cond (Nat.beq j 2) 43 (1043)) (k:=3) rfl (krN (ρ:=fun j=>cond (Nat.beq j 2) 43 (1043))))) ⟨⟨rfl,(SupX.lit rfl)⟩,⟨rfl,(SupX.lit rfl)⟩,trivial⟩ rfl) ⟨rfl,rfl,trivial⟩ trivial ⟨rfl,rfl,trivial⟩ ?_
  refine A3 ?_
  refine C_range (caps:=[.ptr 1 0,.ptr 2 0]) (κ:=Empty) (fun j=>cond (Nat.beq j 2) 1043 (cond (Nat.beq j 1) 43 (j))) rfl (fun _ h=>h) trivial (i_together a b (xh5 hok.1.1) (xh5 hok.1.2) hla hlb) fi269 rfl ⟨rfl,rfl,trivial⟩ rfl rfl (fun _ _=>rfl) (upd (fun _=>none) 6 (some (.own (.ptr 6 0)))) [6,60] [6] (Sub.cons rfl Sub.nil) (SupG.own rfl SupG.nil) rfl (lkOk rfl) (fun (k:Nat) (xs:List Tst)=>xs=jnK a b k∧xs.length≤k) (fun (k:Nat) (xs:List Tst)=>upd (upd (fun _=>none) 6 (some (⟨51,1,false,[.own (.sl 60 8 0 xs.length)]⟩))) 60 (some (⟨59,8,true,rV tTs xs⟩))) (fun k x=>(SupH.cons rfl (supJ xb0) (SupH.cons rfl (supJL rfl) SupH.nil))) (fun k x y hy=>by simp only [List.mem_cons,List.not_mem_nil,or_false] at hy;rcases hy with rfl | rfl <;> rfl) (fun _ _=>False) (fun i=>i.elim) (fun _ _ h=>h.elim) ([]) ⟨rfl,Nat.le_refl _⟩ ((SubK.consI rfl ImpK.refl) ((SubK.consI rfl ImpK.refl) SubK.nil)) ?_ ?_ ?_
  ·
   intro D lp o1 o2 O W lη lb V0 k xs hk hI
   obtain ⟨hx,hxl⟩:=hI
   have hdl:=bds_len (ls:=[a,b])
   have htl:tlen [a,b]≤400000:=by simp [tlen];omega
   apply rnd_mk
   ·
    refine A2 ?_
    refine RE (xa3 (k:=7) (n:=2) (agg:=true) zr119.1 zr119.2 rfl) trivial trivial ⟨rfl,trivial⟩ ?_
    refine A4 ?_
    refine RE (xa3 (k:=8) (n:=2) (agg:=true) zr220.1 zr220.2 rfl) trivial trivial ⟨rfl,trivial⟩ ?_
    refine A2 ?_
    exact K_thenF fun _ _ h=>h
   ·
    refine A8 ?_
    refine xf7 (fun (_j:Unit)=>True) (fun (_j:Unit)=>upd (upd (upd (fun _=>none) 6 (some (.own (.ptr 6 0)))) 7 (some (.own (.ptr 7 0)))) 9 (some (.val (tO 6 true tVa (jnG a b ((bds [a,b]).getD k 0)))))) (fun (_j:Unit)=>upd (upd (upd (fun _=>none) 6 (some (⟨51,1,false,[.own (.sl 60 8 0 xs.length)]⟩))) 7 (some (⟨119,2,true,[.val (tSn ⟨((bds [a,b]).getD k 0),((bds [a,b]).getD (k+1) 0)⟩)]⟩))) 60 (some (⟨59,8,true,rV tTs xs⟩))) (nm [6,7,60]) ?_ ?_
    ·
     refine A3 ?_
     refine R1 (d_eqlNil Tryz.underlying218) rfl ?_
     refine A2 ?_
     refine xd3 rfl (fun h168=> ?_) (fun h168=> ?_)
     ·
      refine A5 ?_
      exact kF (()) trivial (hg:=((Sub.consI rfl (Imp.of (by rw [jnG,Option.isNone_iff_eq_none.1 h168,Option.none_or]))) (sC (sC Sub.nil)))) (hh:=((SubK.consI rfl ImpK.refl) ((SubK.consI rfl ImpK.refl) ((SubK.consI rfl ImpK.refl) SubK.nil))))
     ·
      refine A1 ?_
      exact kF (()) trivial (hg:=((Sub.consI rfl (Imp.of (by rw [jnG_or h168]))) (sC (sC Sub.nil)))) (hh:=((SubK.consI rfl ImpK.refl) ((SubK.consI rfl ImpK.refl) ((SubK.consI rfl ImpK.refl) SubK.nil))))
    ·
     intro _j hj168
     refine A3 ?_
     refine R1 (d_neqNil Tryz.underlying218) rfl ?_
     refine A2 ?_
     refine xd3 rfl (fun h171=> ?_) (fun h171=> ?_)
     ·
      obtain ⟨v,hv⟩:=not_none h171
      refine A1 ?_
      refine RE (xd0 (ts:=[.own (.sl 60 8 0 xs.length)]) (0) ti51 rfl rfl) ⟨rfl,trivial⟩ ⟨rfl,trivial⟩ trivial ?_
      refine A5 ?_
      refine R1 (d_checkO hv) rfl ?_
      refine A1 ?_
      refine R3 (xa7 (r:=tS [⟨1,false,tI ((bds [a,b]).getD k 0)⟩,⟨1,false,tI ((bds [a,b]).getD (k+1) 0)⟩,⟨6,true,tVa v⟩]) (ts:=[(0,tI ((bds [a,b]).getD k 0)),(1,tI ((bds [a,b]).getD (k+1) 0)),(2,tVa v)]) bu59 zr59.2 ⟨_,rfl⟩ rfl ⟨_,_,_,_,rfl,Up.f (fs:=[⟨1,false,(tE (.int .i64 0))⟩,⟨1,false,(tE (.int .i64 0))⟩,⟨6,true,(tS [⟨1,false,(tE (.int .u8 0))⟩,⟨4,true,(tS [⟨2,true,(tS [⟨1,false,(tE (.bool false))⟩,⟨1,false,(tLm [])⟩])⟩,⟨2,true,(tS [⟨1,false,(tE (.bool false))⟩,⟨1,false,(tLm [])⟩])⟩])⟩,⟨1,false,(tE (.int .i64 0))⟩])⟩]) (f:=⟨1,false,(tE (.int .i64 0))⟩) (fs':=[⟨1,false,tI ((bds [a,b]).getD k 0)⟩,⟨1,false,(tE (.int .i64 0))⟩,⟨6,true,(tS [⟨1,false,(tE (.int .u8 0))⟩,⟨4,true,(tS [⟨2,true,(tS [⟨1,false,(tE (.bool false))⟩,⟨1,false,(tLm [])⟩])⟩,⟨2,true,(tS [⟨1,false,(tE (.bool false))⟩,⟨1,false,(tLm [])⟩])⟩])⟩,⟨1,false,(tE (.int .i64 0))⟩])⟩]) 0 rfl rfl rfl,inferInstance,⟨_,_,_,_,rfl,Up.f (fs:=[⟨1,false,tI ((bds [a,b]).getD k 0)⟩,⟨1,false,(tE (.int .i64 0))⟩,⟨6,true,(tS [⟨1,false,(tE (.int .u8 0))⟩,⟨4,true,(tS [⟨2,true,(tS [⟨1,false,(tE (.bool false))⟩,⟨1,false,(tLm [])⟩])⟩,⟨2,true,(tS [⟨1,false,(tE (.bool false))⟩,⟨1,false,(tLm [])⟩])⟩])⟩,⟨1,false,(tE (.int .i64 0))⟩])⟩]) (f:=⟨1,false,(tE (.int .i64 0))⟩) (fs':=[⟨1,false,tI ((bds [a,b]).getD k 0)⟩,⟨1,false,tI ((bds [a,b]).getD (k+1) 0)⟩,⟨6,true,(tS [⟨1,false,(tE (.int .u8 0))⟩,⟨4,true,(tS [⟨2,true,(tS [⟨1,false,(tE (.bool false))⟩,⟨1,false,(tLm [])⟩])⟩,⟨2,true,(tS [⟨1,false,(tE (.bool false))⟩,⟨1,false,(tLm [])⟩])⟩])⟩,⟨1,false,(tE (.int .i64 0))⟩])⟩]) 1 rfl rfl rfl,inferInstance,⟨_,_,_,_,rfl,Up.f (fs:=[⟨1,false,tI ((bds [a,b]).getD k 0)⟩,⟨1,false,tI ((bds [a,b]).getD (k+1) 0)⟩,⟨6,true,(tS [⟨1,false,(tE (.int .u8 0))⟩,⟨4,true,(tS [⟨2,true,(tS [⟨1,false,(tE (.bool false))⟩,⟨1,false,(tLm [])⟩])⟩,⟨2,true,(tS [⟨1,false,(tE (.bool false))⟩,⟨1,false,(tLm [])⟩])⟩])⟩,⟨1,false,(tE (.int .i64 0))⟩])⟩]) (f:=⟨6,true,(tS [⟨1,false,(tE (.int .u8 0))⟩,⟨4,true,(tS [⟨2,true,(tS [⟨1,false,(tE (.bool false))⟩,⟨1,false,(tLm [])⟩])⟩,⟨2,true,(tS [⟨1,false,(tE (.bool false))⟩,⟨1,false,(tLm [])⟩])⟩])⟩,⟨1,false,(tE (.int .i64 0))⟩])⟩) (fs':=[⟨1,false,tI ((bds [a,b]).getD k 0)⟩,⟨1,false,tI ((bds [a,b]).getD (k+1) 0)⟩,⟨6,true,tVa v⟩]) 2 rfl rfl rfl,inferInstance,Le.refl⟩⟩⟩) rfl rfl rfl (R1 (xc0 (n:=1) (f:=tTs) [(⟨((bds [a,b]).getD k 0),((bds [a,b]).getD (k+1) 0),v⟩:Tst)] Tryz.underlying51 el59 zf59 rfl (fun _=>inferInstance) rfl rfl rfl) rfl ?_)
      have hcl: ∀s∈[(⟨((bds [a,b]).getD k 0),((bds [a,b]).getD (k+1) 0),v⟩:Tst)],s.v.f.n.l.length≤1000000∧s.v.f.d.l.length≤1000000:=by
       intro s hs
       rw [List.mem_singleton.1 hs]
       have h:=jnG_len hok.1.1 hok.1.2 hv
       exact ⟨by show v.f.n.l.length≤_;omega,by show v.f.d.l.length≤_;omega⟩
      refine RE (xe3 (fun j=>cond (Nat.beq j 1) 60 (64)) (c_paste xs [(⟨((bds [a,b]).getD k 0),((bds [a,b]).getD (k+1) 0),v⟩:Tst)] (by omega) (by simp) hcl) fi192 rfl (krC (ρ:=fun j=>cond (Nat.beq j 1) 60 (64)) (k:=1) xb9 (krN (ρ:=fun j=>cond (Nat.beq j 1) 60 (64)))) (krC (ρ:=fun j=>cond (Nat.beq j 1) 60 (64)) (k:=90) xb9 (krN (ρ:=fun j=>cond (Nat.beq j 1) 60 (64)))) ⟨⟨rfl,xb0⟩,trivial⟩ rfl) ⟨rfl,rfl,trivial⟩ ⟨rfl,trivial⟩ ⟨rfl,trivial⟩ (RE (xc1 (es:=1) (agg:=false) (e:= .own (.sl 64 8 0 (pst xs [(⟨((bds [a,b]).getD k 0),((bds [a,b]).getD (k+1) 0),v⟩:Tst)]).length)) (0) ti51 rfl rfl rfl) ⟨rfl,rfl,trivial⟩ ⟨rfl,trivial⟩ trivial ?_)
      refine A2 ?_
      exact K_ren (g':=fun _=>none) [6,60] (fun j=>cond (Nat.beq j 60) 64 (j)) SubR.nil ((SubKR.consI rfl (ImpK.of xb9.symm)) ((SubKR.consI rfl (ImpK.of rfl)) SubKR.nil)) SupG.nil (SupH.cons rfl (supJ xb0) (SupH.cons rfl (supJL rfl) SupH.nil)) (lkOk rfl) rfl rfl (fun _ h=>by cases h) (K_rnd ((pst xs [(⟨((bds [a,b]).getD k 0),((bds [a,b]).getD (k+1) 0),v⟩:Tst)])) ⟨by rw [jnK_some hv,←hx],by rw [hx,←jnK_some hv];exact jnK_len⟩ SubK.refl (SupH.cons rfl (supJ xb0) (SupH.cons rfl (supJL rfl) SupH.nil)) (lkOk rfl))
     ·
      have hv0:=is_none h171
      refine A2 ?_
      exact K_rnd (xs) ⟨by rw [jnK_none hv0];exact hx,by omega⟩ ((SubK.consI rfl ImpK.refl) ((SubK.consI rfl ImpK.refl) SubK.nil)) (SupH.cons rfl (supJ xb0) (SupH.cons rfl (supJL rfl) SupH.nil)) (lkOk rfl)
  ·
   intro D hD xs hI
   obtain ⟨hx,hxl⟩:=hI
   rw [jnK_all] at hx
   refine A4 ?_
   refine RE (Does.giveL (k:=60) (es:=8) (off:=0) (len:=xs.length) (xs:=xs) (f:=tTs) (ts:=rV tTs xs) (xd0 (ts:=[.own (.sl 60 8 0 xs.length)]) (0) ti51 rfl rfl) (fun _ h=>h) (rV_all rfl) rfl) ⟨rfl,trivial⟩ ⟨rfl,rfl,trivial⟩ trivial ?_
   refine A5 ?_
   exact xc4 (Plain.loop Plain.mk' hD) rfl rfl rfl (Le.of (by rw [if_pos hok,hx])) (Le.int (by rw [if_pos hok]))
  ·
   intro D hD e i;exact i.elim
theorem wo_next {x y:Int} {l:List Tst} {i:Nat} (hi:i < l.length):(l.take (i+1)).flatMap (woP x y)=(l.take i).flatMap (woP x y)++woP x y (l.getD i tst0):=by
  rw [List.take_succ_eq_append_getElem hi,List.flatMap_append,List.getD_eq_getElem?_getD,List.getElem?_eq_getElem hi];simp
theorem wo_len {x y:Int}: ∀{l:List Tst},(l.flatMap (woP x y)).length=2*l.length
  | []=>rfl
  | s::r=>by rw [List.flatMap_cons,List.length_append,wo_len (l:=r)];simp [woP];omega
theorem c_Without (l:List Tst) (x y:Int) (hl:l.length≤200000) (hD: ∀s∈l,s.v.f.dig):
  Ct Tryz.prog 112 [tL 8 true tTs l,tI x,tI y] (tT [tL 8 true tTs (if tRight l=true∧Sn.ok ⟨x,y⟩=true then woT l x y else []),tI (if tRight l=true∧Sn.ok ⟨x,y⟩=true then 0 else 2)]):=by
 refine Ct.intro Tryz.func112 rfl Tryz.ntmps112 rfl ?_
 intro w F
 refine A9 ?_
 refine A1 ?_
 refine R1 (x3 (xg2 l hD) fi106 rfl) rfl ?_
 refine A2 ?_
 refine RGcase (t:=16) rfl (fun h107=> ?_) (fun h107=> ?_)
 ·
  refine A9 ?_
  refine A7 ?_
  exact xc4 Plain.mk' rfl rfl rfl (leNil (by rw [if_neg fun h=>by rw [h.1] at h107;cases h107])) (Le.int (by rw [if_neg fun h=>by rw [h.1] at h107;cases h107]))
 ·
  refine A2 ?_
  refine RGon h107 rfl (x3 (c_isPart _ _) fi191 rfl) rfl ⟨rfl,rfl,trivial⟩ trivial trivial ?_
  refine A4 ?_
  refine xd3 rfl (fun h107_2=> ?_) (fun h107_2=> ?_)
  ·
   refine A8 ?_
   exact xc4 Plain.mk' rfl rfl rfl (leNil (by rw [if_neg fun h=>by rw [h.2] at h107_2;cases h107_2])) (Le.int (by rw [if_neg fun h=>by rw [h.2] at h107_2;cases h107_2]))
  ·
   refine A4 ?_
   refine RE (xf9 (k:=8) 59 8 true rfl (fun h=>by cases h)) trivial trivial ⟨rfl,trivial⟩ ?_
   refine A9 ?_
   refine A2 ?_
   have hok:tRight l=true∧Sn.ok ⟨x,y⟩=true:=⟨by simpa using h107,by simpa using h107_2⟩
   have hlen:=fun s hs=>va_len (xi0 hok.1 s hs)
   refine cL (fun (fm:(Nat)×(List Tst))=>(fun (i:Nat) (zs:List Tst)=>i≤l.length∧zs=pst [] ((l.take i).flatMap (woP x y))) fm.1 fm.2) (fun (fm:(Nat)×(List Tst))=>(fun (i:Nat) (zs:List Tst)=>upd (upd (upd (upd (upd (upd (fun _=>none) 1 (some (.val (tI x)))) 2 (some (.val (tI y)))) 8 (some (.own (.sl 8 8 0 zs.length)))) 22 (some (.val (tL 8 true tTs l)))) 23 (some (.val (tI l.length)))) 24 (some (.val (tI i)))) fm.1 fm.2) (fun (fm:(Nat)×(List Tst))=>(fun (i:Nat) (zs:List Tst)=>upd (fun _=>none) 8 (some (⟨59,8,true,rV tTs zs⟩))) fm.1 fm.2) [8] (fun (fm:(Nat)×(List Tst))=>(fun (i:Nat) (zs:List Tst)=>l.length - i) fm.1 fm.2) ((0,[])) (by dsimp only;exact ⟨Nat.zero_le _,rfl⟩) (hh:=((SubK.consI rfl ImpK.refl) SubK.nil)) ?_
   intro fm hI
   obtain ⟨i,zs⟩:=fm
   replace hI:i≤l.length∧zs=pst [] ((l.take i).flatMap (woP x y)):=hI
   show wc _ _ _ _ (upd (upd (upd (upd (upd (upd (fun _=>none) 1 (some (.val (tI x)))) 2 (some (.val (tI y)))) 8 (some (.own (.sl 8 8 0 zs.length)))) 22 (some (.val (tL 8 true tTs l)))) 23 (some (.val (tI l.length)))) 24 (some (.val (tI i)))) (upd (fun _=>none) 8 (some (⟨59,8,true,rV tTs zs⟩))) _
   obtain ⟨hi,hz⟩:=hI
   have hzl:zs.length≤2*i:=by
    have h:=pst_len ((l.take i).flatMap (woP x y)) []
    rw [←hz,wo_len,List.length_take] at h;simp at h;omega
   refine A6 ?_
   refine x9 rfl (fun h111=> ?_) (fun h111=> ?_)
   ·
    refine A6 ?_
    refine R2 (x5 sl51 (i) (by omega) (gD (l:=l) (n:=i) (d:=tst0) (by omega))) rfl rfl ?_
    refine A1 ?_
    refine RE (xa3 (k:=10) (n:=8) (agg:=true) zr59.1 zr59.2 rfl) trivial trivial ⟨rfl,trivial⟩ ?_
    refine A9 ?_
    refine A1 ?_
    refine R2 d_min2 rfl rfl ?_
    refine A2 ?_
    refine R3 (xa7 (r:=tS [⟨1,false,tI (l.getD i tst0).lo⟩,⟨1,false,tI (min (l.getD i tst0).hi x)⟩,⟨6,true,tVa (l.getD i tst0).v⟩]) (ts:=[(0,tI (l.getD i tst0).lo),(1,tI (min (l.getD i tst0).hi x)),(2,tVa (l.getD i tst0).v)]) bu59 zr59.2 ⟨_,rfl⟩ rfl ⟨_,_,_,_,rfl,Up.f (fs:=[⟨1,false,(tE (.int .i64 0))⟩,⟨1,false,(tE (.int .i64 0))⟩,⟨6,true,(tS [⟨1,false,(tE (.int .u8 0))⟩,⟨4,true,(tS [⟨2,true,(tS [⟨1,false,(tE (.bool false))⟩,⟨1,false,(tLm [])⟩])⟩,⟨2,true,(tS [⟨1,false,(tE (.bool false))⟩,⟨1,false,(tLm [])⟩])⟩])⟩,⟨1,false,(tE (.int .i64 0))⟩])⟩]) (f:=⟨1,false,(tE (.int .i64 0))⟩) (fs':=[⟨1,false,tI (l.getD i tst0).lo⟩,⟨1,false,(tE (.int .i64 0))⟩,⟨6,true,(tS [⟨1,false,(tE (.int .u8 0))⟩,⟨4,true,(tS [⟨2,true,(tS [⟨1,false,(tE (.bool false))⟩,⟨1,false,(tLm [])⟩])⟩,⟨2,true,(tS [⟨1,false,(tE (.bool false))⟩,⟨1,false,(tLm [])⟩])⟩])⟩,⟨1,false,(tE (.int .i64 0))⟩])⟩]) 0 rfl rfl rfl,inferInstance,⟨_,_,_,_,rfl,Up.f (fs:=[⟨1,false,tI (l.getD i tst0).lo⟩,⟨1,false,(tE (.int .i64 0))⟩,⟨6,true,(tS [⟨1,false,(tE (.int .u8 0))⟩,⟨4,true,(tS [⟨2,true,(tS [⟨1,false,(tE (.bool false))⟩,⟨1,false,(tLm [])⟩])⟩,⟨2,true,(tS [⟨1,false,(tE (.bool false))⟩,⟨1,false,(tLm [])⟩])⟩])⟩,⟨1,false,(tE (.int .i64 0))⟩])⟩]) (f:=⟨1,false,(tE (.int .i64 0))⟩) (fs':=[⟨1,false,tI (l.getD i tst0).lo⟩,⟨1,false,tI (min (l.getD i tst0).hi x)⟩,⟨6,true,(tS [⟨1,false,(tE (.int .u8 0))⟩,⟨4,true,(tS [⟨2,true,(tS [⟨1,false,(tE (.bool false))⟩,⟨1,false,(tLm [])⟩])⟩,⟨2,true,(tS [⟨1,false,(tE (.bool false))⟩,⟨1,false,(tLm [])⟩])⟩])⟩,⟨1,false,(tE (.int .i64 0))⟩])⟩]) 1 rfl rfl rfl,inferInstance,⟨_,_,_,_,rfl,Up.f (fs:=[⟨1,false,tI (l.getD i tst0).lo⟩,⟨1,false,tI (min (l.getD i tst0).hi x)⟩,⟨6,true,(tS [⟨1,false,(tE (.int .u8 0))⟩,⟨4,true,(tS [⟨2,true,(tS [⟨1,false,(tE (.bool false))⟩,⟨1,false,(tLm [])⟩])⟩,⟨2,true,(tS [⟨1,false,(tE (.bool false))⟩,⟨1,false,(tLm [])⟩])⟩])⟩,⟨1,false,(tE (.int .i64 0))⟩])⟩]) (f:=⟨6,true,(tS [⟨1,false,(tE (.int .u8 0))⟩,⟨4,true,(tS [⟨2,true,(tS [⟨1,false,(tE (.bool false))⟩,⟨1,false,(tLm [])⟩])⟩,⟨2,true,(tS [⟨1,false,(tE (.bool false))⟩,⟨1,false,(tLm [])⟩])⟩])⟩,⟨1,false,(tE (.int .i64 0))⟩])⟩) (fs':=[⟨1,false,tI (l.getD i tst0).lo⟩,⟨1,false,tI (min (l.getD i tst0).hi x)⟩,⟨6,true,tVa (l.getD i tst0).v⟩]) 2 rfl rfl rfl,inferInstance,Le.refl⟩⟩⟩) rfl rfl rfl (RE (xa3 (k:=11) (n:=8) (agg:=true) zr59.1 zr59.2 rfl) trivial trivial ⟨rfl,trivial⟩ ?_)
    refine A8 ?_
    refine R2 d_max2 rfl rfl ?_
    refine A4 ?_
    refine R3 (xa7 (r:=tS [⟨1,false,tI (max (l.getD i tst0).lo y)⟩,⟨1,false,tI (l.getD i tst0).hi⟩,⟨6,true,tVa (l.getD i tst0).v⟩]) (ts:=[(0,tI (max (l.getD i tst0).lo y)),(1,tI (l.getD i tst0).hi),(2,tVa (l.getD i tst0).v)]) bu59 zr59.2 ⟨_,rfl⟩ rfl ⟨_,_,_,_,rfl,Up.f (fs:=[⟨1,false,(tE (.int .i64 0))⟩,⟨1,false,(tE (.int .i64 0))⟩,⟨6,true,(tS [⟨1,false,(tE (.int .u8 0))⟩,⟨4,true,(tS [⟨2,true,(tS [⟨1,false,(tE (.bool false))⟩,⟨1,false,(tLm [])⟩])⟩,⟨2,true,(tS [⟨1,false,(tE (.bool false))⟩,⟨1,false,(tLm [])⟩])⟩])⟩,⟨1,false,(tE (.int .i64 0))⟩])⟩]) (f:=⟨1,false,(tE (.int .i64 0))⟩) (fs':=[⟨1,false,tI (max (l.getD i tst0).lo y)⟩,⟨1,false,(tE (.int .i64 0))⟩,⟨6,true,(tS [⟨1,false,(tE (.int .u8 0))⟩,⟨4,true,(tS [⟨2,true,(tS [⟨1,false,(tE (.bool false))⟩,⟨1,false,(tLm [])⟩])⟩,⟨2,true,(tS [⟨1,false,(tE (.bool false))⟩,⟨1,false,(tLm [])⟩])⟩])⟩,⟨1,false,(tE (.int .i64 0))⟩])⟩]) 0 rfl rfl rfl,inferInstance,⟨_,_,_,_,rfl,Up.f (fs:=[⟨1,false,tI (max (l.getD i tst0).lo y)⟩,⟨1,false,(tE (.int .i64 0))⟩,⟨6,true,(tS [⟨1,false,(tE (.int .u8 0))⟩,⟨4,true,(tS [⟨2,true,(tS [⟨1,false,(tE (.bool false))⟩,⟨1,false,(tLm [])⟩])⟩,⟨2,true,(tS [⟨1,false,(tE (.bool false))⟩,⟨1,false,(tLm [])⟩])⟩])⟩,⟨1,false,(tE (.int .i64 0))⟩])⟩]) (f:=⟨1,false,(tE (.int .i64 0))⟩) (fs':=[⟨1,false,tI (max (l.getD i tst0).lo y)⟩,⟨1,false,tI (l.getD i tst0).hi⟩,⟨6,true,(tS [⟨1,false,(tE (.int .u8 0))⟩,⟨4,true,(tS [⟨2,true,(tS [⟨1,false,(tE (.bool false))⟩,⟨1,false,(tLm [])⟩])⟩,⟨2,true,(tS [⟨1,false,(tE (.bool false))⟩,⟨1,false,(tLm [])⟩])⟩])⟩,⟨1,false,(tE (.int .i64 0))⟩])⟩]) 1 rfl rfl rfl,inferInstance,⟨_,_,_,_,rfl,Up.f (fs:=[⟨1,false,tI (max (l.getD i tst0).lo y)⟩,⟨1,false,tI (l.getD i tst0).hi⟩,⟨6,true,(tS [⟨1,false,(tE (.int .u8 0))⟩,⟨4,true,(tS [⟨2,true,(tS [⟨1,false,(tE (.bool false))⟩,⟨1,false,(tLm [])⟩])⟩,⟨2,true,(tS [⟨1,false,(tE (.bool false))⟩,⟨1,false,(tLm [])⟩])⟩])⟩,⟨1,false,(tE (.int .i64 0))⟩])⟩]) (f:=⟨6,true,(tS [⟨1,false,(tE (.int .u8 0))⟩,⟨4,true,(tS [⟨2,true,(tS [⟨1,false,(tE (.bool false))⟩,⟨1,false,(tLm [])⟩])⟩,⟨2,true,(tS [⟨1,false,(tE (.bool false))⟩,⟨1,false,(tLm [])⟩])⟩])⟩,⟨1,false,(tE (.int .i64 0))⟩])⟩) (fs':=[⟨1,false,tI (max (l.getD i tst0).lo y)⟩,⟨1,false,tI (l.getD i tst0).hi⟩,⟨6,true,tVa (l.getD i tst0).v⟩]) 2 rfl rfl rfl,inferInstance,Le.refl⟩⟩⟩) rfl rfl rfl (RE (xa3 (k:=12) (n:=8) (agg:=true) zr59.1 zr59.2 rfl) trivial trivial ⟨rfl,trivial⟩ ?_)
    refine A7 ?_
    refine R2 (xc0 (n:=2) (f:=tTs) [(⟨(l.getD i tst0).lo,min (l.getD i tst0).hi x,(l.getD i tst0).v⟩:Tst),(⟨max (l.getD i tst0).lo y,(l.getD i tst0).hi,(l.getD i tst0).v⟩:Tst)] Tryz.underlying51 el59 zf59 rfl (fun _=>inferInstance) rfl rfl rfl) rfl rfl ?_
    have hcl: ∀s∈(woP x y (l.getD i tst0)),s.v.f.n.l.length≤1000000∧s.v.f.d.l.length≤1000000:=by
     intro s hs
     have h:=hlen _ (xb6 (l:=l) (i:=i) (by omega))
     have e:s.v=(l.getD i tst0).v:=by
      simp only [woP,List.mem_cons,List.not_mem_nil,or_false] at hs
      rcases hs with rfl | rfl <;> rfl
     rw [e];exact ⟨by omega,by omega⟩
    refine RE (xe3 (fun j=>cond (Nat.beq j 1) 8 (50)) (c_paste zs (woP x y (l.getD i tst0)) (by omega) (by simp [woP]) hcl) fi192 rfl (krC (ρ:=fun j=>cond (Nat.beq j 1) 8 (50)) (k:=1) xb9 (krN (ρ:=fun j=>cond (Nat.beq j 1) 8 (50)))) (krC (ρ:=fun j=>cond (Nat.beq j 1) 8 (50)) (k:=90) xb9 (krN (ρ:=fun j=>cond (Nat.beq j 1) 8 (50)))) ⟨⟨rfl,xb0⟩,trivial⟩ rfl) ⟨rfl,rfl,trivial⟩ ⟨rfl,trivial⟩ ⟨rfl,trivial⟩ ?_
    refine A8 ?_
    exact xe4 (l:=[8]) (fun j=>cond (Nat.beq j 8) 50 (j)) ((i+1,pst zs (woP x y (l.getD i tst0)))) ⟨(by dsimp only;exact ⟨by omega,by rw [wo_next (by omega),pst_app,←hz]⟩),(by dsimp only;omega)⟩ (SubR.int rfl (by first | omega | rfl | (dsimp only;omega)) (SubR.int rfl (by first | omega | rfl | (dsimp only;omega)) (SubR.cons rfl (SubR.cons rfl (SubR.int rfl (by first | omega | rfl | (dsimp only;omega)) (SubR.int rfl (by first | omega | rfl | (dsimp only;omega)) SubR.nil)))))) ((SubKR.consI rfl (ImpK.of xb9.symm)) SubKR.nil) (SupG.val (SupG.val (SupG.val (SupG.own rfl (SupG.val (SupG.val SupG.nil)))))) (SupH.cons rfl (supJ xb0) SupH.nil) (lkOk rfl) rfl rfl (fun _ h=>by cases h)
   ·
    refine A8 ?_
    refine RE (d_assignS (f:=tTs) (xs:=zs) (fun _ h=>h) (rV_all rfl) rfl) ⟨rfl,trivial⟩ ⟨rfl,trivial⟩ trivial ?_
    refine A4 ?_
    exact xc4 Plain.mk' rfl rfl rfl (Le.of (by rw [if_pos hok,hz,woT,show i=l.length by omega,List.take_length])) (Le.int (by rw [if_pos hok]))
theorem c_At1 (l:List Tst) (d:Int) (i:Nat) (hi:i < l.length):
  CtG Tryz.prog 184 [(2,⟨51,1,false,[.val (tL 8 true tTs l)]⟩),(3,⟨3,1,false,[.val (tI d)]⟩)] [.val (tI i),.own (.ptr 2 0),.own (.ptr 3 0)] (.val (tB (decide (d < (l.getD i tst0).hi)))) [(2,⟨51,1,false,[.val (tL 8 true tTs l)]⟩),(3,⟨3,1,false,[.val (tI d)]⟩)] []:=by
 refine CtG.intro [2,3] Tryz.func184 rfl Tryz.ntmps184 rfl rfl ⟨⟨rfl,(SupX.lit rfl)⟩,⟨rfl,(SupX.lit rfl)⟩,trivial⟩ ?_
 intro w F η
 refine A9 ?_
 refine R2 (x5 sl51 (i) (by omega) (gD (l:=l) (n:=i) (d:=tst0) (by omega))) rfl rfl (R1 (xa8 fo59_1.h (At.f 1 rfl rfl) rfl) rfl ?_)
 refine A7 ?_
 exact xg9 LentC.mk' rfl rfl Imp.refl ⟨rfl,rfl,trivial⟩ rfl ⟨⟨rfl,(SupX.lit rfl)⟩,⟨rfl,(SupX.lit rfl)⟩,trivial⟩ rfl
theorem c_SearchT (l:List Tst) (d:Int) (hv:tRight l=true) (hl:l.length≤1000000):
  CtG Tryz.prog 183 [(2,⟨51,1,false,[.val (tL 8 true tTs l)]⟩),(3,⟨3,1,false,[.val (tI d)]⟩)] [.val (tI l.length),.own (.fn 184 [.ptr 2 0,.ptr 3 0])] (.val (tI (fndT l d))) [(2,⟨51,1,false,[.val (tL 8 true tTs l)]⟩),(3,⟨3,1,false,[.val (tI d)]⟩)] []:=by
 refine CtG.intro [2,3] Tryz.func183 rfl Tryz.ntmps183 rfl rfl ⟨⟨rfl,(SupX.lit rfl)⟩,⟨rfl,(SupX.lit rfl)⟩,trivial⟩ ?_
 intro w F η
 refine A9 ?_
 refine A5 ?_
 refine cL (fun (fm:(Nat)×(Nat))=>(fun (p:Nat) (q:Nat)=>p≤q∧q≤l.length∧(∀i,i < p→(l.getD i tst0).hi≤d)∧ ∀i,q≤i→i < l.length→d < (l.getD i tst0).hi) fm.1 fm.2) (fun (fm:(Nat)×(Nat))=>(fun (p:Nat) (q:Nat)=>upd (upd (upd (fun _=>none) 1 (some (.own (.fn 184 [.ptr 2 0,.ptr 3 0])))) 5 (some (.val (tI p)))) 6 (some (.val (tI q)))) fm.1 fm.2) (fun (fm:(Nat)×(Nat))=>(fun (p:Nat) (q:Nat)=>upd (upd (fun _=>none) 2 (some (⟨51,1,false,[.val (tL 8 true tTs l)]⟩))) 3 (some (⟨3,1,false,[.val (tI d)]⟩))) fm.1 fm.2) [2,3] (fun (fm:(Nat)×(Nat))=>(fun (p:Nat) (q:Nat)=>q - p) fm.1 fm.2) ((0,l.length)) (by dsimp only;exact ⟨Nat.zero_le _,Nat.le_refl _,fun i hi=>by omega,fun i hi hi2=>by omega⟩) (hh:=((SubK.consI rfl ImpK.refl) ((SubK.consI rfl ImpK.refl) SubK.nil))) ?_
 intro fm hI
 obtain ⟨p,q⟩:=fm
 replace hI:p≤q∧q≤l.length∧(∀i,i < p→(l.getD i tst0).hi≤d)∧ ∀i,q≤i→i < l.length→d < (l.getD i tst0).hi:=hI
 show wc _ _ _ _ (upd (upd (upd (fun _=>none) 1 (some (.own (.fn 184 [.ptr 2 0,.ptr 3 0])))) 5 (some (.val (tI p)))) 6 (some (.val (tI q)))) (upd (upd (fun _=>none) 2 (some (⟨51,1,false,[.val (tL 8 true tTs l)]⟩))) 3 (some (⟨3,1,false,[.val (tI d)]⟩))) _
 obtain ⟨hp,hq,h1,h2⟩:=hI
 refine A8 ?_
 refine x9 rfl (fun h62=> ?_) (fun h62=> ?_)
 ·
  refine A8 ?_
  refine R1 (x6 Tryz.underlying213 (isS Tryz.underlying3) (by first | exact wu64 (by omega) (by omega) | exact mu64)) rfl (R2 (d_shr (r:=((((p+q) / 2):Nat):Int)) (by decide) ((shrN (s:=1) rfl (by decide)).trans (by simp))) rfl rfl (R1 (x6 Tryz.underlying3 (isS Tryz.underlying213) (wr64 (by omega) (by omega))) rfl ?_))
  refine A7 ?_
  refine RE (d_callCX (ps:=[.val (tI _)]) (caps:=[.ptr 2 0,.ptr 3 0]) (fun j=>cond (Nat.beq j 2) 2 (3)) (c_At1 l d ((p+q) / 2) (by omega)) fi184 rfl (krC (ρ:=fun j=>cond (Nat.beq j 2) 2 (3)) (k:=2) rfl (krC (ρ:=fun j=>cond (Nat.beq j 2) 2 (3)) (k:=3) rfl (krN (ρ:=fun j=>cond (Nat.beq j 2) 2 (3))))) (krC (ρ:=fun j=>cond (Nat.beq j 2) 2 (3)) (k:=2) rfl (krC (ρ:=fun j=>cond (Nat.beq j 2) 2 (3)) (k:=3) rfl (krN (ρ:=fun j=>cond (Nat.beq j 2) 2 (3))))) ⟨⟨rfl,(SupX.lit rfl)⟩,⟨rfl,(SupX.lit rfl)⟩,trivial⟩ rfl) ⟨rfl,rfl,trivial⟩ ⟨rfl,rfl,trivial⟩ trivial ?_
  refine A3 ?_
  refine C_ifn rfl (fun h65=> ?_) (fun h65=> ?_)
  ·
   refine A6 ?_
   exact kF ((((p+q) / 2)+1,q)) ⟨(by dsimp only;exact ⟨by omega,hq,fun i hi=>by have:=hiT_mono hv (show i≤((p+q) / 2) by omega) (by omega);omega,h2⟩),(by dsimp only;omega)⟩ (hh:=((SubK.consI rfl ImpK.refl) ((SubK.consI rfl ImpK.refl) SubK.nil)))
  ·
   refine A5 ?_
   exact kF ((p,((p+q) / 2))) ⟨(by dsimp only;exact ⟨by omega,by omega,h1,fun i hi hi2=>by have:=hiT_mono hv hi hi2;omega⟩),(by dsimp only;omega)⟩ (hh:=((SubK.consI rfl ImpK.refl) ((SubK.consI rfl ImpK.refl) SubK.nil)))
 ·
  refine A9 ?_
  refine A3 ?_
  exact xg9 LentC.mk' rfl rfl (Imp.int (congrArg Int.ofNat (fndT_is (by omega) h1 (fun hp2=>h2 p (by omega) hp2)))) ⟨rfl,rfl,trivial⟩ rfl ⟨⟨rfl,(SupX.lit rfl)⟩,⟨rfl,(SupX.lit rfl)⟩,trivial⟩ rfl
theorem c_At (l:List Tst) (d:Int) (hl:l.length≤1000000) (hD: ∀s∈l,s.v.f.dig):
  Ct Tryz.prog 100 [tL 8 true tTs l,tI d] (tT [tVa ((atR l d).getD An.va0),tB (atR l d).isSome]):=by
 have hfl:=fndT_le (l:=l) (d:=d)
 refine Ct.intro Tryz.func100 rfl Tryz.ntmps100 rfl ?_
 intro w F
 refine A4 ?_
 refine RE (xa3 (k:=4) (n:=6) (agg:=true) zr57.1 zr57.2 rfl) trivial trivial ⟨rfl,trivial⟩ ?_
 refine A7 ?_
 refine R1 (x3 (xg2 l hD) fi106 rfl) rfl ?_
 refine A3 ?_
 refine xd3 rfl (fun h83=> ?_) (fun h83=> ?_)
 ·
  have hk: ¬tRight l=true:=by simpa using h83
  have hr:atR l d=none:=by rw [atR,if_neg hk]
  refine A2 ?_
  refine R0 (xa7 (r:=tS [⟨1,false,(tE (.int .u8 0))⟩,⟨4,true,(tS [⟨2,true,(tS [⟨1,false,(tE (.bool false))⟩,⟨1,false,(tLm [])⟩])⟩,⟨2,true,(tS [⟨1,false,(tE (.bool false))⟩,⟨1,false,(tLm [])⟩])⟩])⟩,⟨1,false,(tE (.int .i64 0))⟩]) (ts:=[]) bu57 zr57.2 ⟨_,rfl⟩ rfl Le.refl) ?_
  refine A6 ?_
  exact xd9 Plain.mk' (rs:=[.cell 4 57,.tmp 5]) rfl rfl ⟨⟨_,_,_,_,_,rfl,rfl,ti57,(Le.of (by rw [hr];rfl))⟩,⟨_,rfl,(Le.bool (by rw [hr];rfl))⟩,trivial⟩
 ·
  have hok:tRight l=true:=by simpa using h83
  refine A6 ?_
  refine R2 (d_makeFunc (ps:=[.ptr 2 0,.ptr 3 0]) rfl) rfl rfl (RE (xe3 (fun j=>cond (Nat.beq j 2) 2 (3)) (c_SearchT l d hok hl) fi183 rfl (krC (ρ:=fun j=>cond (Nat.beq j 2) 2 (3)) (k:=2) rfl (krC (ρ:=fun j=>cond (Nat.beq j 2) 2 (3)) (k:=3) rfl (krN (ρ:=fun j=>cond (Nat.beq j 2) 2 (3))))) (krC (ρ:=fun j=>cond (Nat.beq j 2) 2 (3)) (k:=2) rfl (krC (ρ:=fun j=>cond (Nat.beq j 2) 2 (3)) (k:=3) rfl (krN (ρ:=fun j=>cond (Nat.beq j 2) 2 (3))))) ⟨⟨rfl,(SupX.lit rfl)⟩,⟨rfl,(SupX.lit rfl)⟩,trivial⟩ rfl) ⟨rfl,rfl,trivial⟩ ⟨rfl,rfl,trivial⟩ trivial ?_)
  refine A9 ?_
  refine A2 ?_
  refine RGcaseD (t:=19) rfl (fun h87=> ?_) (fun h87=> ?_)
  ·
   refine A9 ?_
   refine A4 ?_
   refine R0 (xa7 (r:=tS [⟨1,false,(tE (.int .u8 0))⟩,⟨4,true,(tS [⟨2,true,(tS [⟨1,false,(tE (.bool false))⟩,⟨1,false,(tLm [])⟩])⟩,⟨2,true,(tS [⟨1,false,(tE (.bool false))⟩,⟨1,false,(tLm [])⟩])⟩])⟩,⟨1,false,(tE (.int .i64 0))⟩]) (ts:=[]) bu57 zr57.2 ⟨_,rfl⟩ rfl Le.refl) ?_
   refine A6 ?_
   exact xd9 Plain.mk' (rs:=[.cell 4 57,.tmp 5]) rfl rfl ⟨⟨_,_,_,_,_,rfl,rfl,ti57,(Le.of (by rw [atR,if_pos hok,atT_is hok,if_neg (by omega)];rfl))⟩,⟨_,rfl,(Le.bool (by rw [atR,if_pos hok,atT_is hok,if_neg (by omega)];rfl))⟩,trivial⟩
  ·
   refine A2 ?_
   refine RGon (decide_eq_false h87) rfl (x5 sl51 (fndT l d) (by omega) (gD (l:=l) (n:=fndT l d) (d:=tst0) (by omega))) rfl ⟨rfl,rfl,trivial⟩ trivial trivial (RGon (decide_eq_false h87) rfl (xa8 fo59_0.h (At.f 0 rfl rfl) rfl) rfl ⟨rfl,trivial⟩ trivial trivial ?_)
   refine A6 ?_
   refine x9 rfl (fun h87_2=> ?_) (fun h87_2=> ?_)
   ·
    refine A2 ?_
    refine R0 (xa7 (r:=tS [⟨1,false,(tE (.int .u8 0))⟩,⟨4,true,(tS [⟨2,true,(tS [⟨1,false,(tE (.bool false))⟩,⟨1,false,(tLm [])⟩])⟩,⟨2,true,(tS [⟨1,false,(tE (.bool false))⟩,⟨1,false,(tLm [])⟩])⟩])⟩,⟨1,false,(tE (.int .i64 0))⟩]) (ts:=[]) bu57 zr57.2 ⟨_,rfl⟩ rfl Le.refl) ?_
    refine A6 ?_
    exact xd9 Plain.mk' (rs:=[.cell 4 57,.tmp 5]) rfl rfl ⟨⟨_,_,_,_,_,rfl,rfl,ti57,(Le.of (by rw [atR,if_pos hok,atT_is hok,if_neg (by omega)];rfl))⟩,⟨_,rfl,(Le.bool (by rw [atR,if_pos hok,atT_is hok,if_neg (by omega)];rfl))⟩,trivial⟩
   ·
    refine A6 ?_
    have hlen:=va_len (xi0 hok _ (xb6 (l:=l) (i:=fndT l d) (by omega)))
    refine R2 (x5 sl51 (fndT l d) (by omega) (gD (l:=l) (n:=fndT l d) (d:=tst0) (by omega))) rfl rfl (R1 (xa8 fo59_2.h (At.f 2 rfl rfl) rfl) rfl ?_)
    refine A1 ?_
    refine R1 (x3 (c_copied (l.getD (fndT l d) tst0).v (by omega) (by omega)) fi185 rfl) rfl ?_
    refine A5 ?_
    exact xd9 Plain.mk' (rs:=[.cell 4 57,.tmp 5]) rfl rfl ⟨⟨_,_,_,_,_,rfl,rfl,ti57,(Le.of (by rw [atR,if_pos hok,atT_is hok,if_pos (by omega)];rfl))⟩,⟨_,rfl,(Le.bool (by rw [atR,if_pos hok,atT_is hok,if_pos (by omega)];rfl))⟩,trivial⟩
theorem c_Covers (l:List Tst) (hl:l.length≤200000) (hD: ∀s∈l,s.v.f.dig):
  Ct Tryz.prog 104 [tL 8 true tTs l] (tL 2 true tSn (if tRight l=true then cvT l else [])):=by
 refine Ct.intro Tryz.func104 rfl Tryz.ntmps104 rfl ?_
 intro w F
 refine A9 ?_
 refine R1 (x3 (xg2 l hD) fi106 rfl) rfl ?_
 refine A3 ?_
 refine xd3 rfl (fun h202=> ?_) (fun h202=> ?_)
 ·
  refine A7 ?_
  exact x4 Plain.mk' rfl rfl (leNil (by rw [if_neg (by simpa using h202)]))
 ·
  refine A6 ?_
  refine RE (xg3 (k:=13) (t:=tSn sn0) (ts:=rV tSn (List.replicate l.length sn0)) l.length l.length Tryz.underlying113 el119 (fun F w=>tSn_mk) rfl (by omega) (by omega) (Nat.le_refl _) (by omega) (by omega) (rV_rep _ _ rfl)) ⟨rfl,rfl,trivial⟩ trivial ⟨rfl,trivial⟩ ?_
  refine A9 ?_
  refine A3 ?_
  have hok:tRight l=true:=by simpa using h202
  refine cL (fun (i:Nat)=>i≤l.length) (fun (i:Nat)=>upd (upd (upd (upd (fun _=>none) 3 (some (.own (.sl 13 2 0 l.length)))) 14 (some (.val (tL 8 true tTs l)))) 15 (some (.val (tI l.length)))) 16 (some (.val (tI i)))) (fun (i:Nat)=>upd (fun _=>none) 13 (some (⟨119,2,true,rV tSn (cvL l i)⟩))) [13] (fun (i:Nat)=>l.length - i) (0) (Nat.zero_le _) (hh:=((SubK.consI rfl (ImpK.of (by simp [cvL]))) SubK.nil)) ?_
  intro i hI
  have hcl:=cvL_len (l:=l) (i:=i) hI
  refine A6 ?_
  refine x9 rfl (fun h206=> ?_) (fun h206=> ?_)
  ·
   refine A7 ?_
   refine R2 (x5 sl51 (i) (by omega) (gD (l:=l) (n:=i) (d:=tst0) (by omega))) rfl rfl ?_
   refine A1 ?_
   refine RE (xa3 (k:=5) (n:=8) (agg:=true) zr59.1 zr59.2 rfl) trivial trivial ⟨rfl,trivial⟩ ?_
   refine A9 ?_
   refine A2 ?_
   refine R2 (xa7 (r:=tS [⟨1,false,tI (l.getD i tst0).lo⟩,⟨1,false,tI (l.getD i tst0).hi⟩]) (ts:=[(0,tI (l.getD i tst0).lo),(1,tI (l.getD i tst0).hi)]) bu119 zr119.2 ⟨_,rfl⟩ rfl ⟨_,_,_,_,rfl,Up.f (fs:=[⟨1,false,(tE (.int .i64 0))⟩,⟨1,false,(tE (.int .i64 0))⟩]) (f:=⟨1,false,(tE (.int .i64 0))⟩) (fs':=[⟨1,false,tI (l.getD i tst0).lo⟩,⟨1,false,(tE (.int .i64 0))⟩]) 0 rfl rfl rfl,inferInstance,⟨_,_,_,_,rfl,Up.f (fs:=[⟨1,false,tI (l.getD i tst0).lo⟩,⟨1,false,(tE (.int .i64 0))⟩]) (f:=⟨1,false,(tE (.int .i64 0))⟩) (fs':=[⟨1,false,tI (l.getD i tst0).lo⟩,⟨1,false,tI (l.getD i tst0).hi⟩]) 1 rfl rfl rfl,inferInstance,Le.refl⟩⟩) rfl rfl (R2 (xa5 sl113 (by omega) (by omega) rfl) rfl rfl (RE (xc1 (i) ti119 (rV_lt (by omega)) (by omega) (rV_set (m:=(spT (l.getD i tst0))) rfl)) ⟨rfl,rfl,trivial⟩ ⟨rfl,trivial⟩ trivial ?_))
   refine A7 ?_
   exact kF (i+1) ⟨(by omega),(by omega)⟩ (hh:=((SubK.consI rfl (ImpK.of (by rw [cvL_set (by omega)]))) SubK.nil))
  ·
   refine A6 ?_
   have hil:i=l.length:=by omega
   subst hil
   refine C_key (k:=13) (e':=⟨119,2,true,rV tSn (cvS l)⟩) rfl (by rw [cvL_all]) ?_
   refine A1 ?_
   refine RE (xf2 (f:=tSn) (xs:=cvS l) (fun _ h=>h) (rV_all (by simp [cvS])) (by simp [cvS])) ⟨rfl,trivial⟩ ⟨rfl,trivial⟩ trivial (R1 (x3 (c_SnMake (cvS l) (by simp [cvS];omega)) fi187 rfl) rfl ?_)
   refine A9 ?_
   refine A5 ?_
   exact x4 Plain.mk' rfl rfl (Le.of (by rw [if_pos hok,if_pos (ascS_ok (cvS_asc hok))];rfl))
theorem c_Changes (l:List Tst) (hl:l.length≤200000) (hD: ∀s∈l,s.v.f.dig):
  Ct Tryz.prog 105 [tL 8 true tTs l] (tL 1 false tI (if tRight l=true then bds [l] else [])):=by
 refine Ct.intro Tryz.func105 rfl Tryz.ntmps105 rfl ?_
 intro w F
 refine A9 ?_
 refine R1 (x3 (xg2 l hD) fi106 rfl) rfl ?_
 refine A3 ?_
 refine xd3 rfl (fun h215=> ?_) (fun h215=> ?_)
 ·
  refine A7 ?_
  exact x4 Plain.mk' rfl rfl (leNil (by rw [if_neg (by simpa using h215)]))
 ·
  refine A5 ?_
  refine R1 (xc0 (n:=1) (f:=fun l=>tL 8 true tTs l) [l] Tryz.underlying133 el51 zf51 rfl (fun _=>inferInstance) rfl rfl rfl) rfl (R1 (x3 (c_borders [l] (by simp) (by simp [tlen];omega)) fi189 rfl) rfl ?_)
  refine A4 ?_
  exact x4 Plain.mk' rfl rfl (Le.of (by rw [if_pos (by simpa using h215)]))
theorem dfK_eq {a b:List Tst} {k:Nat} (h:valT a ((bds [a,b]).getD k 0)=valT b ((bds [a,b]).getD k 0)):dfK a b (k+1)=dfK a b k:=by
  rw [dfK_next,dfI,if_neg (by rw [dfB,h];simp),List.append_nil]
theorem dfK_ne {a b:List Tst} {k:Nat} (h:valT a ((bds [a,b]).getD k 0)≠valT b ((bds [a,b]).getD k 0)):dfK a b (k+1)=dfK a b k++[⟨(bds [a,b]).getD k 0,(bds [a,b]).getD (k+1) 0⟩]:=by
  rw [dfK_next,dfI,if_pos (by rw [dfB];simpa using h)]
theorem some_of {o:Option Va} (h:o.isNone=false): ∃v,o=some v:=not_none (by rw [h];rfl)
theorem c_TDiff (a b:List Tst) (hla:a.length≤200000) (hlb:b.length≤200000) (hDa: ∀s∈a,s.v.f.dig) (hDb: ∀s∈b,s.v.f.dig):
  Ct Tryz.prog 102 [tL 8 true tTs a,tL 8 true tTs b] (tT [tL 2 true tSn (if tRight a=true∧tRight b=true then dfS a b else []),tI (if tRight a=true∧tRight b=true then 0 else 2)]):=by
 refine Ct.intro Tryz.func102 rfl Tryz.ntmps102 rfl ?_
 intro w F
 refine A9 ?_
 refine A1 ?_
 refine R1 (x3 (xg2 a hDa) fi106 rfl) rfl ?_
 refine A2 ?_
 refine RGcase (t:=12) rfl (fun h223=> ?_) (fun h223=> ?_)
 ·
  refine A9 ?_
  refine A6 ?_
  exact xc4 Plain.mk' rfl rfl rfl (leNil (by rw [if_neg fun h=>by rw [h.1] at h223;cases h223])) (Le.int (by rw [if_neg fun h=>by rw [h.1] at h223;cases h223]))
 ·
  refine A1 ?_
  refine RGon h223 rfl (x3 (xg2 b hDb) fi106 rfl) rfl ⟨rfl,trivial⟩ trivial trivial ?_
  refine A4 ?_
  refine xd3 rfl (fun h223_2=> ?_) (fun h223_2=> ?_)
  ·
   refine A8 ?_
   exact xc4 Plain.mk' rfl rfl rfl (leNil (by rw [if_neg fun h=>by rw [h.2] at h223_2;cases h223_2])) (Le.int (by rw [if_neg fun h=>by rw [h.2] at h223_2;cases h223_2]))
  ·
   refine A4 ?_
   refine RE (xa3 (k:=6) (n:=1) (agg:=false) zr113.1 zr113.2 rfl) trivial trivial ⟨rfl,trivial⟩ ?_
   refine A4 ?_
   have hok:tRight a=true∧tRight b=true:=⟨by simpa using h223,by simpa using h223_2⟩
   refine C_nilC (q:=6) 60 119 2 true 0 rfl rfl rfl rfl (fun h=>by cases h) rfl rfl ?_
   refine A3 ?_
   refine RE (xe3 (fun j=>cond (Nat.beq j 2) 19 (1019)) (c_together a b) fi186 rfl (krN (ρ:=fun j=>cond (Nat.beq j 2) 19 (1019))) (krC (ρ:=fun j=>cond (Nat.beq j 2) 19 (1019)) (k:=2) rfl (krC (ρ:=fun j=>cond (Nat.beq j 2) 19 (1019)) (k:=3) rfl (krN (ρ:=fun j=>cond (Nat.beq j 2) 19 (1019))))) ⟨⟨rfl,(SupX.lit rfl)⟩,⟨rfl,(SupX.lit rfl)⟩,trivial⟩ rfl) ⟨rfl,rfl,trivial⟩ trivial ⟨rfl,rfl,trivial⟩ ?_
   refine A3 ?_
   refine C_range (caps:=[.ptr 1 0,.ptr 2 0]) (κ:=Empty) (fun j=>cond (Nat.beq j 2) 1019 (cond (Nat.beq j 1) 19 (j))) rfl (fun _ h=>h) trivial (i_together a b (xh5 hok.1) (xh5 hok.2) hla hlb) fi269 rfl ⟨rfl,rfl,trivial⟩ rfl rfl (fun _ _=>rfl) (upd (fun _=>none) 6 (some (.own (.ptr 6 0)))) [6,60] [6] (Sub.cons rfl Sub.nil) (SupG.own rfl SupG.nil) rfl (lkOk rfl) (fun (k:Nat) (xs:List Sn)=>xs=dfK a b k∧xs.length≤k) (fun (k:Nat) (xs:List Sn)=>upd (upd (fun _=>none) 6 (some (⟨113,1,false,[.own (.sl 60 2 0 xs.length)]⟩))) 60 (some (⟨119,2,true,rV tSn xs⟩))) (fun k x=>(SupH.cons rfl (supJ xb0) (SupH.cons rfl (supJL rfl) SupH.nil))) (fun k x y hy=>by simp only [List.mem_cons,List.not_mem_nil,or_false] at hy;rcases hy with rfl | rfl <;> rfl) (fun _ _=>False) (fun i=>i.elim) (fun _ _ h=>h.elim) ([]) ⟨rfl,Nat.le_refl _⟩ ((SubK.consI rfl ImpK.refl) ((SubK.consI rfl ImpK.refl) SubK.nil)) ?_ ?_ ?_
   ·
    intro D lp o1 o2 O W lη lb V0 k xs hk hI
    obtain ⟨hx,hxl⟩:=hI
    have hdl:=bds_len (ls:=[a,b])
    have htl:tlen [a,b]≤400000:=by simp [tlen];omega
    apply rnd_mk
    ·
     refine A2 ?_
     refine RE (xa3 (k:=7) (n:=2) (agg:=true) zr119.1 zr119.2 rfl) trivial trivial ⟨rfl,trivial⟩ ?_
     refine A4 ?_
     refine RE (xa3 (k:=8) (n:=2) (agg:=true) zr220.1 zr220.2 rfl) trivial trivial ⟨rfl,trivial⟩ ?_
     refine A2 ?_
     exact K_thenF fun _ _ h=>h
    ·
     refine A6 ?_
     refine R1 (d_eqlNil Tryz.underlying218) rfl ?_
     refine A1 ?_
     refine RGcase (t:=25) rfl (fun h228=> ?_) (fun h228=> ?_)
     ·
      refine A2 ?_
      refine RGon h228 rfl (d_eqlNil Tryz.underlying218) rfl ⟨rfl,trivial⟩ trivial trivial ?_
      refine A2 ?_
      refine RGcase (t:=30) rfl (fun h228_2=> ?_) (fun h228_2=> ?_)
      ·
       refine A9 ?_
       refine A9 ?_
       refine A8 ?_
       exact K_rnd (xs) ⟨by rw [dfK_eq (by rw [Option.isNone_iff_eq_none.1 h228,Option.isNone_iff_eq_none.1 h228_2])];exact hx,by omega⟩ ((SubK.consI rfl ImpK.refl) ((SubK.consI rfl ImpK.refl) SubK.nil)) (SupH.cons rfl (supJ xb0) (SupH.cons rfl (supJL rfl) SupH.nil)) (lkOk rfl)
      ·
       refine A2 ?_
       refine RGon h228_2 rfl (d_neqNil Tryz.underlying218) rfl ⟨rfl,trivial⟩ trivial trivial ?_
       refine A1 ?_
       refine RGoff (by exact congrArg Bool.not h228) rfl rfl (RGoff (by exact congrArg Bool.not h228) rfl rfl (RGoff (by exact congrArg Bool.not h228) rfl rfl (RGon h228_2 rfl (xd2 (by exact congrArg Bool.not h228)) rfl ⟨rfl,rfl,trivial⟩ trivial trivial ?_)))
       refine A9 ?_
       refine A1 ?_
       refine RGon h228_2 rfl (xd2 rfl) rfl ⟨rfl,rfl,trivial⟩ trivial trivial ?_
       refine A7 ?_
       refine RE (xd0 (ts:=[.own (.sl 60 2 0 xs.length)]) (0) ti113 rfl rfl) ⟨rfl,trivial⟩ ⟨rfl,trivial⟩ trivial ?_
       refine A1 ?_
       refine R1 (xc0 (n:=1) (f:=tSn) [(⟨((bds [a,b]).getD k 0),((bds [a,b]).getD (k+1) 0)⟩:Sn)] Tryz.underlying113 el119 zf119 rfl (fun _=>inferInstance) rfl rfl rfl) rfl (RE (xb7 (k:=60) (k':=54) (f:=tSn) (ys:=[(⟨((bds [a,b]).getD k 0),((bds [a,b]).getD (k+1) 0)⟩:Sn)]) (ts':=rV tSn (xs++[(⟨((bds [a,b]).getD k 0),((bds [a,b]).getD (k+1) 0)⟩:Sn)])) Tryz.underlying113 el119 zf119 rfl rfl (fun _=>inferInstance) xc8 (by simp;omega) (by simp;omega) (by simp [rV]) (n':=xs.length+1) rfl) ⟨rfl,rfl,trivial⟩ ⟨rfl,trivial⟩ ⟨rfl,trivial⟩ (RE (xc1 (es:=1) (agg:=false) (e:= .own (.sl 54 2 0 (xs.length+1))) (0) ti113 rfl rfl rfl) ⟨rfl,rfl,trivial⟩ ⟨rfl,trivial⟩ trivial ?_))
       refine A2 ?_
       exact K_ren (g':=fun _=>none) [6,60] (fun j=>cond (Nat.beq j 60) 54 (j)) SubR.nil ((SubKR.consI rfl (ImpK.of xb9.symm)) ((SubKR.consI rfl (ImpK.of (by rw [List.length_append];rfl))) SubKR.nil)) SupG.nil (SupH.cons rfl (supJ xb0) (SupH.cons rfl (supJL rfl) SupH.nil)) (lkOk rfl) rfl rfl (fun _ h=>by cases h) (K_rnd ((xs++[(⟨((bds [a,b]).getD k 0),((bds [a,b]).getD (k+1) 0)⟩:Sn)])) ⟨by rw [dfK_ne (fun e=>by rw [e,h228_2] at h228;cases h228),←hx],by rw [List.length_append];simp;omega⟩ SubK.refl (SupH.cons rfl (supJ xb0) (SupH.cons rfl (supJL rfl) SupH.nil)) (lkOk rfl))
     ·
      refine A7 ?_
      refine RGon rfl rfl (d_neqNil Tryz.underlying218) rfl ⟨rfl,trivial⟩ trivial trivial ?_
      refine A1 ?_
      refine RGon (by exact congrArg Bool.not h228) rfl (xg7 fo220_1.h rfl) rfl ⟨rfl,trivial⟩ trivial trivial (xc3 (by exact congrArg Bool.not h228) rfl rfl (0) ti218 rfl rfl rfl (At.g 1 rfl rfl) rfl (RGon (by exact congrArg Bool.not h228) rfl (d_neqNil Tryz.underlying218) rfl ⟨rfl,trivial⟩ trivial trivial (RGon rfl rfl (xe6 (by exact congrArg Bool.not h228)) rfl ⟨rfl,rfl,trivial⟩ trivial trivial ?_)))
      refine A1 ?_
      refine RGcase (t:=39) rfl (fun h228_3=> ?_) (fun h228_3=> ?_)
      ·
       obtain ⟨u,hu⟩:=some_of h228
       obtain ⟨v,hv⟩:=not_none h228_3
       refine A2 ?_
       refine RGon h228_3 rfl (d_checkO hu) rfl ⟨rfl,trivial⟩ trivial trivial ?_
       refine A3 ?_
       refine RGon h228_3 rfl (d_checkO hv) rfl ⟨rfl,trivial⟩ trivial trivial ?_
       refine A1 ?_
       refine RGon h228_3 rfl (x3 (c_TSame _ _) fi123 rfl) rfl ⟨rfl,rfl,trivial⟩ trivial trivial (RGon rfl rfl (xe6 h228_3) rfl ⟨rfl,rfl,trivial⟩ trivial trivial ?_)
       refine A3 ?_
       refine x9 rfl (fun h228_4=> ?_) (fun h228_4=> ?_)
       ·
        refine A3 ?_
        exact K_rnd (xs) ⟨by rw [dfK_eq (by rw [hu,hv,h228_4])];exact hx,by omega⟩ ((SubK.consI rfl ImpK.refl) ((SubK.consI rfl ImpK.refl) SubK.nil)) (SupH.cons rfl (supJ xb0) (SupH.cons rfl (supJL rfl) SupH.nil)) (lkOk rfl)
       ·
        refine A3 ?_
        refine RE (xd0 (ts:=[.own (.sl 60 2 0 xs.length)]) (0) ti113 rfl rfl) ⟨rfl,trivial⟩ ⟨rfl,trivial⟩ trivial ?_
        refine A1 ?_
        refine R1 (xc0 (n:=1) (f:=tSn) [(⟨((bds [a,b]).getD k 0),((bds [a,b]).getD (k+1) 0)⟩:Sn)] Tryz.underlying113 el119 zf119 rfl (fun _=>inferInstance) rfl rfl rfl) rfl (RE (xb7 (k:=60) (k':=54) (f:=tSn) (ys:=[(⟨((bds [a,b]).getD k 0),((bds [a,b]).getD (k+1) 0)⟩:Sn)]) (ts':=rV tSn (xs++[(⟨((bds [a,b]).getD k 0),((bds [a,b]).getD (k+1) 0)⟩:Sn)])) Tryz.underlying113 el119 zf119 rfl rfl (fun _=>inferInstance) xc8 (by simp;omega) (by simp;omega) (by simp [rV]) (n':=xs.length+1) rfl) ⟨rfl,rfl,trivial⟩ ⟨rfl,trivial⟩ ⟨rfl,trivial⟩ (RE (xc1 (es:=1) (agg:=false) (e:= .own (.sl 54 2 0 (xs.length+1))) (0) ti113 rfl rfl rfl) ⟨rfl,rfl,trivial⟩ ⟨rfl,trivial⟩ trivial ?_))
        refine A2 ?_
        exact K_ren (g':=fun _=>none) [6,60] (fun j=>cond (Nat.beq j 60) 54 (j)) SubR.nil ((SubKR.consI rfl (ImpK.of xb9.symm)) ((SubKR.consI rfl (ImpK.of (by rw [List.length_append];rfl))) SubKR.nil)) SupG.nil (SupH.cons rfl (supJ xb0) (SupH.cons rfl (supJL rfl) SupH.nil)) (lkOk rfl) rfl rfl (fun _ h=>by cases h) (K_rnd ((xs++[(⟨((bds [a,b]).getD k 0),((bds [a,b]).getD (k+1) 0)⟩:Sn)])) ⟨by rw [dfK_ne (fun e=>by rw [hu,hv] at e;exact h228_4 (Option.some.inj e)),←hx],by rw [List.length_append];simp;omega⟩ SubK.refl (SupH.cons rfl (supJ xb0) (SupH.cons rfl (supJL rfl) SupH.nil)) (lkOk rfl))
      ·
       refine A9 ?_
       refine RGon rfl rfl (xd2 h228_3) rfl ⟨rfl,rfl,trivial⟩ trivial trivial ?_
       refine A7 ?_
       refine RE (xd0 (ts:=[.own (.sl 60 2 0 xs.length)]) (0) ti113 rfl rfl) ⟨rfl,trivial⟩ ⟨rfl,trivial⟩ trivial ?_
       refine A1 ?_
       refine R1 (xc0 (n:=1) (f:=tSn) [(⟨((bds [a,b]).getD k 0),((bds [a,b]).getD (k+1) 0)⟩:Sn)] Tryz.underlying113 el119 zf119 rfl (fun _=>inferInstance) rfl rfl rfl) rfl (RE (xb7 (k:=60) (k':=54) (f:=tSn) (ys:=[(⟨((bds [a,b]).getD k 0),((bds [a,b]).getD (k+1) 0)⟩:Sn)]) (ts':=rV tSn (xs++[(⟨((bds [a,b]).getD k 0),((bds [a,b]).getD (k+1) 0)⟩:Sn)])) Tryz.underlying113 el119 zf119 rfl rfl (fun _=>inferInstance) xc8 (by simp;omega) (by simp;omega) (by simp [rV]) (n':=xs.length+1) rfl) ⟨rfl,rfl,trivial⟩ ⟨rfl,trivial⟩ ⟨rfl,trivial⟩ (RE (xc1 (es:=1) (agg:=false) (e:= .own (.sl 54 2 0 (xs.length+1))) (0) ti113 rfl rfl rfl) ⟨rfl,rfl,trivial⟩ ⟨rfl,trivial⟩ trivial ?_))
       refine A2 ?_
       exact K_ren (g':=fun _=>none) [6,60] (fun j=>cond (Nat.beq j 60) 54 (j)) SubR.nil ((SubKR.consI rfl (ImpK.of xb9.symm)) ((SubKR.consI rfl (ImpK.of (by rw [List.length_append];rfl))) SubKR.nil)) SupG.nil (SupH.cons rfl (supJ xb0) (SupH.cons rfl (supJL rfl) SupH.nil)) (lkOk rfl) rfl rfl (fun _ h=>by cases h) (K_rnd ((xs++[(⟨((bds [a,b]).getD k 0),((bds [a,b]).getD (k+1) 0)⟩:Sn)])) ⟨by rw [dfK_ne (fun e=>by rw [←e,h228] at h228_3;cases h228_3),←hx],by rw [List.length_append];simp;omega⟩ SubK.refl (SupH.cons rfl (supJ xb0) (SupH.cons rfl (supJL rfl) SupH.nil)) (lkOk rfl))
   ·
    intro D hD xs hI
    obtain ⟨hx,hxl⟩:=hI
    have hdl:=bds_len (ls:=[a,b])
    have htl:tlen [a,b]≤400000:=by simp [tlen];omega
    have hx:xs=dfT a b:=hx
    have hall:=ascS_ok (dfT_asc hok.1 hok.2)
    refine A4 ?_
    refine RE (Does.giveL (k:=60) (es:=2) (off:=0) (len:=xs.length) (xs:=xs) (f:=tSn) (ts:=rV tSn xs) (xd0 (ts:=[.own (.sl 60 2 0 xs.length)]) (0) ti113 rfl rfl) (fun _ h=>h) (rV_all rfl) rfl) ⟨rfl,trivial⟩ ⟨rfl,rfl,trivial⟩ trivial (R1 (x3 (c_SnMake xs (by omega)) fi187 rfl) rfl ?_)
    refine A7 ?_
    exact xc4 (Plain.loop Plain.mk' hD) rfl rfl rfl (Le.of (by rw [if_pos hok,hx,if_pos hall];rfl)) (Le.int (by rw [if_pos hok,hx,if_pos hall]))
   ·
    intro D hD e i;exact i.elim
end An.S

/- An element of an array value. For any program. -/
namespace An
open Go
theorem off_mapV {α:Type} {es:Nat} {agg:Bool} {f:α→Ty}: ∀(l:List α) (i:Nat),i < l.length→Fd.off (l.map fun x=>⟨es,agg,f x⟩) i=i*es
  | [],i,h=>by simp at h
  | _::r,0,_=>by simp [Fd.off]
  | _::r,i+1,h=>by
    rw [List.map_cons,Fd.off,off_mapV r i (by simpa using h),Nat.succ_mul]
    exact Nat.add_comm _ _
/-- The element i of a row of fields of one kind. -/
theorem At.row {α:Type} {es:Nat} {agg:Bool} {f:α→Ty} {l:List α} {i:Nat} (d:α) (hi:i < l.length):At (tS (l.map fun x=>⟨es,agg,f x⟩)) (i*es) es agg (f (l.getD i d)):=
  At.f i (f:=⟨es,agg,f (l.getD i d)⟩) (by rw [List.getElem?_map,gD (d:=d) hi];rfl) (off_mapV l i hi)
section
variable {P:Program} {c:Base} {d ty:Nat} {pos:String} {af:Array Edge} {gd:Option (Nat×Bool)}
end
end An

/- Law 5: timelines are built; days and values without the program. -/
namespace An.S
open Go Go.Proofs An
set_option maxHeartbeats 2000000
instance fi29:FnI Tryz.prog 29:=⟨_,Tryz.func29,by kernel_rfl,rfl⟩
instance fi169:FnI Tryz.prog 169:=⟨_,Tryz.func169,by kernel_rfl,rfl⟩
theorem c_SameStep (x y:Tst):
  Ct Tryz.prog 169 [tTs x,tTs y] (tB (decide (x=y))):=by
 refine Ct.intro Tryz.func169 rfl Tryz.ntmps169 rfl ?_
 intro w F
 refine A9 ?_
 refine A6 ?_
 refine RGcaseD (t:=10) rfl (fun h196=> ?_) (fun h196=> ?_)
 ·
  refine A7 ?_
  refine RGcaseD (t:=17) rfl (fun h196_2=> ?_) (fun h196_2=> ?_)
  ·
   refine A4 ?_
   refine RGon (decide_eq_true h196_2) rfl (x3 (c_SameValue _ _) fi29 rfl) rfl ⟨rfl,rfl,trivial⟩ trivial trivial ?_
   refine A5 ?_
   exact x4 Plain.mk' rfl rfl (Le.bool (by obtain ⟨a,b,e⟩:=x;obtain ⟨c,d,f⟩:=y;simp only [Tst.mk.injEq] at*;simp_all <;> omega))
  ·
   refine A9 ?_
   refine A1 ?_
   exact x4 Plain.mk' rfl rfl (Le.bool (by obtain ⟨a,b,e⟩:=x;obtain ⟨c,d,f⟩:=y;simp only [Tst.mk.injEq] at*;simp_all <;> omega))
 ·
  refine A9 ?_
  refine A8 ?_
  exact x4 Plain.mk' rfl rfl (Le.bool (by obtain ⟨a,b,e⟩:=x;obtain ⟨c,d,f⟩:=y;simp only [Tst.mk.injEq] at*;simp_all <;> omega))
theorem take_succ_getT (l:List Tst) (k:Nat) (hk:k < l.length):l.take (k+1)=l.take k++[l.getD k tst0]:=by
  rw [List.take_succ_eq_append_getElem hk,List.getD_eq_getElem?_getD,List.getElem?_eq_getElem hk];rfl
theorem take_succ_getI (l:List Int) (k:Nat) (hk:k < l.length):l.take (k+1)=l.take k++[l.getD k 0]:=by
  rw [List.take_succ_eq_append_getElem hk,List.getD_eq_getElem?_getD,List.getElem?_eq_getElem hk];rfl
theorem c_SameSteps (xs ys:List Tst):
  Ct Tryz.prog 114 [tL 8 true tTs xs,tL 8 true tTs ys] (tB (decide (xs=ys))):=by
 refine Ct.intro Tryz.func114 rfl Tryz.ntmps114 rfl ?_
 intro w F
 refine C_len (s:=0) rfl (fun hl0=> ?_)
 refine A9 ?_
 refine A6 ?_
 refine x9 rfl (fun h206=> ?_) (fun h206=> ?_)
 ·
  refine A7 ?_
  exact x4 Plain.mk' rfl rfl (Le.bool (decide_eq_false (fun h=>by rw [h] at h206;omega)).symm)
 ·
  have hll:xs.length=ys.length:=by omega
  refine A9 ?_
  refine cL (fun (i:Nat)=>i≤xs.length∧xs.take i=ys.take i) (fun (i:Nat)=>upd (upd (upd (fun _=>none) 0 (some (.val (tL 8 true tTs xs)))) 1 (some (.val (tL 8 true tTs ys)))) 5 (some (.val (tI i)))) (fun (i:Nat)=>fun _=>none) [] (fun (i:Nat)=>xs.length - i) (0) ⟨Nat.zero_le _,rfl⟩ ?_
  intro i hI
  obtain ⟨hi,ht⟩:=hI
  refine A9 ?_
  refine x9 rfl (fun h209=> ?_) (fun h209=> ?_)
  ·
   refine A8 ?_
   refine R2 (x5 sl51 i (by omega) (gD (d:=tst0) (by omega))) rfl rfl ?_
   refine A3 ?_
   refine R2 (x5 sl51 i (by omega) (gD (d:=tst0) (by omega))) rfl rfl ?_
   refine A1 ?_
   refine R2 (x3 (c_SameStep _ _) fi169 rfl) rfl rfl ?_
   refine A3 ?_
   refine C_ifn rfl (fun h210=> ?_) (fun h210=> ?_)
   ·
    refine A9 ?_
    refine A2 ?_
    exact x4 Plain.mk' rfl rfl (Le.bool (decide_eq_false (fun h=>by rw [h] at h210;exact (h210 rfl))).symm)
   ·
    refine A8 ?_
    exact kF (i+1) ⟨⟨by omega,by rw [take_succ_getT xs i (by omega),take_succ_getT ys i (by omega),ht,show xs.getD i tst0=ys.getD i tst0 from h210]⟩,(by omega)⟩
  ·
   refine A9 ?_
   refine A2 ?_
   exact x4 Plain.mk' rfl rfl (Le.bool (decide_eq_true (by rw [show i=xs.length by omega,List.take_length,hll,List.take_length] at ht;exact ht)).symm)
theorem c_SameInts (xs ys:List Int):
  Ct Tryz.prog 64 [tL 1 false tI xs,tL 1 false tI ys] (tB (decide (xs=ys))):=by
 refine Ct.intro Tryz.func64 rfl Tryz.ntmps64 rfl ?_
 intro w F
 refine C_len (s:=0) rfl (fun hl0=> ?_)
 refine A9 ?_
 refine A6 ?_
 refine x9 rfl (fun h27=> ?_) (fun h27=> ?_)
 ·
  refine A7 ?_
  exact x4 Plain.mk' rfl rfl (Le.bool (decide_eq_false (fun h=>by rw [h] at h27;omega)).symm)
 ·
  have hll:xs.length=ys.length:=by omega
  refine A9 ?_
  refine cL (fun (i:Nat)=>i≤xs.length∧xs.take i=ys.take i) (fun (i:Nat)=>upd (upd (upd (fun _=>none) 0 (some (.val (tL 1 false tI xs)))) 1 (some (.val (tL 1 false tI ys)))) 5 (some (.val (tI i)))) (fun (i:Nat)=>fun _=>none) [] (fun (i:Nat)=>xs.length - i) (0) ⟨Nat.zero_le _,rfl⟩ ?_
  intro i hI
  obtain ⟨hi,ht⟩:=hI
  refine A9 ?_
  refine x9 rfl (fun h30=> ?_) (fun h30=> ?_)
  ·
   refine A8 ?_
   refine R2 (x5 sl23 i (by omega) (gD (d:=0) (by omega))) rfl rfl ?_
   refine A3 ?_
   refine R2 (x5 sl23 i (by omega) (gD (d:=0) (by omega))) rfl rfl ?_
   refine A4 ?_
   refine x9 rfl (fun h31=> ?_) (fun h31=> ?_)
   ·
    refine A9 ?_
    refine A2 ?_
    exact x4 Plain.mk' rfl rfl (Le.bool (decide_eq_false (fun h=>by rw [h] at h31;exact (h31 rfl))).symm)
   ·
    refine A8 ?_
    exact kF (i+1) ⟨⟨by omega,by rw [take_succ_getI xs i (by omega),take_succ_getI ys i (by omega),ht,show xs.getD i 0=ys.getD i 0 from (Decidable.of_not_not h31)]⟩,(by omega)⟩
  ·
   refine A9 ?_
   refine A2 ?_
   exact x4 Plain.mk' rfl rfl (Le.bool (decide_eq_true (by rw [show i=xs.length by omega,List.take_length,hll,List.take_length] at ht;exact ht)).symm)
theorem xh1 (a b n d:Int) (h1: -9223372036854775808≤n) (h2:n≤9223372036854775807) (h3: -9223372036854775808≤d) (h4:d≤9223372036854775807):
  Ct Tryz.prog 43 [tI a,tI b,tI n,tI d] (tTs ⟨a,b,⟨2,fr (kfr n d),0⟩⟩):=by
 refine Ct.intro Tryz.func43 rfl Tryz.ntmps43 rfl ?_
 intro w F
 refine A2 ?_
 refine RE (xa3 (k:=8) (n:=8) (agg:=true) zr59.1 zr59.2 rfl) trivial trivial ⟨rfl,trivial⟩ ?_
 refine A8 ?_
 refine R2 (x3 (c_Num n d h1 h2 h3 h4) fi30 rfl) rfl rfl (R3 (xa7 (r:=tS [⟨1,false,tI a⟩,⟨1,false,tI b⟩,⟨6,true,tVa ⟨2,fr (kfr n d),0⟩⟩]) (ts:=[(0,tI a),(1,tI b),(2,tVa ⟨2,fr (kfr n d),0⟩)]) bu59 zr59.2 ⟨_,rfl⟩ rfl ⟨_,_,_,_,rfl,Up.f (fs:=[⟨1,false,(tE (.int .i64 0))⟩,⟨1,false,(tE (.int .i64 0))⟩,⟨6,true,(tS [⟨1,false,(tE (.int .u8 0))⟩,⟨4,true,(tS [⟨2,true,(tS [⟨1,false,(tE (.bool false))⟩,⟨1,false,(tLm [])⟩])⟩,⟨2,true,(tS [⟨1,false,(tE (.bool false))⟩,⟨1,false,(tLm [])⟩])⟩])⟩,⟨1,false,(tE (.int .i64 0))⟩])⟩]) (f:=⟨1,false,(tE (.int .i64 0))⟩) (fs':=[⟨1,false,tI a⟩,⟨1,false,(tE (.int .i64 0))⟩,⟨6,true,(tS [⟨1,false,(tE (.int .u8 0))⟩,⟨4,true,(tS [⟨2,true,(tS [⟨1,false,(tE (.bool false))⟩,⟨1,false,(tLm [])⟩])⟩,⟨2,true,(tS [⟨1,false,(tE (.bool false))⟩,⟨1,false,(tLm [])⟩])⟩])⟩,⟨1,false,(tE (.int .i64 0))⟩])⟩]) 0 rfl rfl rfl,inferInstance,⟨_,_,_,_,rfl,Up.f (fs:=[⟨1,false,tI a⟩,⟨1,false,(tE (.int .i64 0))⟩,⟨6,true,(tS [⟨1,false,(tE (.int .u8 0))⟩,⟨4,true,(tS [⟨2,true,(tS [⟨1,false,(tE (.bool false))⟩,⟨1,false,(tLm [])⟩])⟩,⟨2,true,(tS [⟨1,false,(tE (.bool false))⟩,⟨1,false,(tLm [])⟩])⟩])⟩,⟨1,false,(tE (.int .i64 0))⟩])⟩]) (f:=⟨1,false,(tE (.int .i64 0))⟩) (fs':=[⟨1,false,tI a⟩,⟨1,false,tI b⟩,⟨6,true,(tS [⟨1,false,(tE (.int .u8 0))⟩,⟨4,true,(tS [⟨2,true,(tS [⟨1,false,(tE (.bool false))⟩,⟨1,false,(tLm [])⟩])⟩,⟨2,true,(tS [⟨1,false,(tE (.bool false))⟩,⟨1,false,(tLm [])⟩])⟩])⟩,⟨1,false,(tE (.int .i64 0))⟩])⟩]) 1 rfl rfl rfl,inferInstance,⟨_,_,_,_,rfl,Up.f (fs:=[⟨1,false,tI a⟩,⟨1,false,tI b⟩,⟨6,true,(tS [⟨1,false,(tE (.int .u8 0))⟩,⟨4,true,(tS [⟨2,true,(tS [⟨1,false,(tE (.bool false))⟩,⟨1,false,(tLm [])⟩])⟩,⟨2,true,(tS [⟨1,false,(tE (.bool false))⟩,⟨1,false,(tLm [])⟩])⟩])⟩,⟨1,false,(tE (.int .i64 0))⟩])⟩]) (f:=⟨6,true,(tS [⟨1,false,(tE (.int .u8 0))⟩,⟨4,true,(tS [⟨2,true,(tS [⟨1,false,(tE (.bool false))⟩,⟨1,false,(tLm [])⟩])⟩,⟨2,true,(tS [⟨1,false,(tE (.bool false))⟩,⟨1,false,(tLm [])⟩])⟩])⟩,⟨1,false,(tE (.int .i64 0))⟩])⟩) (fs':=[⟨1,false,tI a⟩,⟨1,false,tI b⟩,⟨6,true,tVa ⟨2,fr (kfr n d),0⟩⟩]) 2 rfl rfl rfl,inferInstance,Le.refl⟩⟩⟩) rfl rfl rfl ?_)
 refine A4 ?_
 exact xe9 Plain.mk' rfl ⟨_,_,_,_,_,rfl,rfl,ti59,Le.refl⟩
theorem c_steps (l:List Tst):
  Ct Tryz.prog 42 [tL 8 true tTs l] (tL 8 true tTs l):=by
 refine Ct.intro Tryz.func42 rfl Tryz.ntmps42 rfl ?_
 intro w F
 refine A9 ?_
 refine A3 ?_
 exact x4 Plain.mk' rfl rfl Le.refl
abbrev tP2 (p:Int×Int):Ty:=tS [⟨1,false,tI p.1⟩,⟨1,false,tI p.2⟩]
def plP:List (Int×Int):=[(0,1),(1,1),(1,2),(-3,4),(5,3),(65537,7),(-1,1),(1099511627776,1)]
def plQ (n:Nat):Int×Int:=plP.getD (n%8) (0,1)
def plV (n:Nat):Va:=⟨2,fr (kfr (plQ n).1 (plQ n).2),0⟩
def tbF (m:List Nat) (k:Nat) (t:Int):Int:=t+((m.getD (3*k) 0:Nat):Int)%3000
def tbE (m:List Nat) (k:Nat) (t:Int):Int:=tbF m k t+1+((m.getD (3*k+1) 0:Nat):Int)%3000
def tbS (m:List Nat) (k:Nat) (t:Int):Tst:=⟨tbF m k t,tbE m k t,plV (m.getD (3*k+2) 0)⟩
def tbRun (m:List Nat):Nat→Nat→List Tst→Int→List Tst
  | 0,_,out,_=>out
  | f+1,k,out,t=>if 3*k+2 < m.length∧k < 40 then (if 65536 < tbE m k t then out else tbRun m f (k+1) (pst1 out (tbS m k t)) (tbE m k t)) else out
def tbT (m:List Nat):List Tst:=tbRun m 41 0 [] 0
def eds4 (l:List Tst):List Int:=l.flatMap fun s=>[s.lo - 1,s.lo,s.hi - 1,s.hi]
/-- The days about the ends of steps. -/
def lkT (a b:List Tst) (d:Int):List Int:=d::[a,b].flatMap eds4
end An.S

/- Law 5: what Built makes; contracts at timelines of one kind; the examples of the chapter. -/
namespace An.S
open Go Go.Proofs An
set_option maxHeartbeats 2000000
set_option maxRecDepth 100000
instance fi42:FnI Tryz.prog 42:=⟨_,Tryz.func42,by kernel_rfl,rfl⟩
instance fi43:FnI Tryz.prog 43:=⟨_,Tryz.func43,by kernel_rfl,rfl⟩
instance fi64:FnI Tryz.prog 64:=⟨_,Tryz.func64,by kernel_rfl,rfl⟩
instance fi92:FnI Tryz.prog 92:=⟨_,Tryz.func92,by kernel_rfl,rfl⟩
instance fi100:FnI Tryz.prog 100:=⟨_,Tryz.func100,by kernel_rfl,rfl⟩
instance fi102:FnI Tryz.prog 102:=⟨_,Tryz.func102,by kernel_rfl,rfl⟩
instance fi104:FnI Tryz.prog 104:=⟨_,Tryz.func104,by kernel_rfl,rfl⟩
instance fi105:FnI Tryz.prog 105:=⟨_,Tryz.func105,by kernel_rfl,rfl⟩
instance fi112:FnI Tryz.prog 112:=⟨_,Tryz.func112,by kernel_rfl,rfl⟩
instance fi113:FnI Tryz.prog 113:=⟨_,Tryz.func113,by kernel_rfl,rfl⟩
instance fi114:FnI Tryz.prog 114:=⟨_,Tryz.func114,by kernel_rfl,rfl⟩
def plW:List Int:=[0,84,42, -63,140,786444, -84,92358976733184]
def tB5:Int:=92358976733184
abbrev isT (l:List Tst):Prop:=isG 2 84 tB5 l
/-- Two ascending lists with the same members. -/
theorem asc_eq: ∀{a b:List Int},a.Pairwise (· < ·)→b.Pairwise (· < ·)→(∀x,x∈a↔x∈b)→a=b
  | [],[],_,_,_=>rfl
  | [],y::s,_,_,h=>absurd ((h y).2 (List.mem_cons_self ..)) (List.not_mem_nil)
  | x::r,[],_,_,h=>absurd ((h x).1 (List.mem_cons_self ..)) (List.not_mem_nil)
  | x::r,y::s,ha,hb,h=>by
    have pa:=List.pairwise_cons.1 ha
    have pb:=List.pairwise_cons.1 hb
    have hxy:x=y:=by
      rcases List.mem_cons.1 ((h x).1 (List.mem_cons_self ..)) with e | h1
      · exact e
      · rcases List.mem_cons.1 ((h y).2 (List.mem_cons_self ..)) with e | h2
        · exact e.symm
        · have:=pa.1 y h2;have:=pb.1 x h1;omega
    subst hxy
    congr 1
    refine asc_eq pa.2 pb.2 fun z=>⟨fun hz=> ?_,fun hz=> ?_⟩
    · rcases List.mem_cons.1 ((h z).1 (List.mem_cons_of_mem _ hz)) with e | h1
      · have:=pa.1 z hz;omega
      · exact h1
    · rcases List.mem_cons.1 ((h z).2 (List.mem_cons_of_mem _ hz)) with e | h1
      · have:=pb.1 z hz;omega
      · exact h1
theorem brd_eq {xs l:List Int} (h:l.Pairwise (· < ·)) (hm: ∀x,x∈l↔x∈xs):brd xs=l:=asc_eq (brd_spec xs).1 h fun x=>((brd_spec xs).2 x).trans (hm x).symm
/-! Contracts. -/
section
variable {K:Nat} {D B:Int} {l a b:List Tst}
theorem isG.kind (ha:isG K D B a) (hb:isG K D B b):jnC a b:=by
  refine ⟨⟨ha.1,hb.1⟩,fun h=>h.2.2 ?_⟩
  rw [(ha.2 _ (xb6 (l:=a) (i:=0) h.1)).1.2.1,(hb.2 _ (xb6 (l:=b) (i:=0) h.2.1)).1.2.1]
theorem c_CutG (x y:Int) (h:isG K D B l) (hl:l.length≤200000) (hxy:Sn.ok ⟨x,y⟩=true):Ct Tryz.prog 111 [tL 8 true tTs l,tI x,tI y] (tT [tL 8 true tTs (cutT l x y),tI 0]):=by
  have:=c_Cut l x y (by omega) h.dig
  rw [if_pos ⟨h.1,hxy⟩,if_pos ⟨h.1,hxy⟩] at this;exact this
theorem c_WithoutG (x y:Int) (h:isG K D B l) (hl:l.length≤200000) (hxy:Sn.ok ⟨x,y⟩=true):Ct Tryz.prog 112 [tL 8 true tTs l,tI x,tI y] (tT [tL 8 true tTs (woT l x y),tI 0]):=by
  have:=c_Without l x y hl h.dig
  rw [if_pos ⟨h.1,hxy⟩,if_pos ⟨h.1,hxy⟩] at this;exact this
theorem c_JoinG (ha:isG K D B a) (hb:isG K D B b) (hla:a.length≤200000) (hlb:b.length≤200000):Ct Tryz.prog 113 [tL 8 true tTs a,tL 8 true tTs b] (tT [tL 8 true tTs (jnT a b),tI 0]):=by
  have:=c_TJoin a b hla hlb ha.dig hb.dig
  rw [if_pos (ha.kind hb),if_pos (ha.kind hb)] at this;exact this
theorem c_SumG (x y:Int) (hK:K=2∨K=3) (hD:0 < D) (hDb:D≤9223372036854775807) (hB0:0≤B) (hB:B≤140737488355327) (h:isG K D B l) (hl:l.length≤200000) (hxy:Sn.ok ⟨x,y⟩=true):Ct Tryz.prog 110 [tL 8 true tTs l,tI x,tI y] (tT [tFr (fr (Rat.divInt (gS (wt D) l x y) D)),tI 0]):=by
  have h2:=h.sum hK hD hDb hB0 hB hxy
  have:=c_TSum l x y (by omega) h.dig
  rw [if_pos h2.1,if_pos h2.1,h2.2] at this;exact this
theorem c_CoversG (h:isG K D B l) (hl:l.length≤200000):Ct Tryz.prog 104 [tL 8 true tTs l] (tL 2 true tSn (cvT l)):=by
  have:=c_Covers l hl h.dig
  rw [if_pos h.1] at this;exact this
theorem c_ChangesG (h:isG K D B l) (hl:l.length≤200000):Ct Tryz.prog 105 [tL 8 true tTs l] (tL 1 false tI (bds [l])):=by
  have:=c_Changes l hl h.dig
  rw [if_pos h.1] at this;exact this
theorem c_DiffG (ha:isG K D B a) (hb:isG K D B b) (hla:a.length≤200000) (hlb:b.length≤200000):Ct Tryz.prog 102 [tL 8 true tTs a,tL 8 true tTs b] (tT [tL 2 true tSn (dfS a b),tI 0]):=by
  have:=c_TDiff a b hla hlb ha.dig hb.dig
  rw [if_pos ⟨ha.1,hb.1⟩,if_pos ⟨ha.1,hb.1⟩] at this;exact this
theorem c_AtG (d:Int) (h:isG K D B l) (hl:l.length≤200000):Ct Tryz.prog 100 [tL 8 true tTs l,tI d] (tT [tVa ((valT l d).getD An.va0),tB (valT l d).isSome]):=by
  have:=c_At l d (by omega) h.dig
  rw [atR,if_pos h.1] at this;exact this
end
theorem c_sameFv (f g:Fr) (e:f=g):Ct Tryz.prog 86 [tFr f,tFr g] (tB true):=by
  have h:=c_SameFrac f g
  rw [decide_eq_true e] at h;exact h
theorem c_sameTv (u w:List Tst) (e:u=w):Ct Tryz.prog 114 [tL 8 true tTs u,tL 8 true tTs w] (tB true):=by
  have h:=c_SameSteps u w
  rw [decide_eq_true e] at h;exact h
theorem c_sameSv (u w:List Sn) (e:u=w):Ct Tryz.prog 92 [tL 2 true tSn u,tL 2 true tSn w] (tB true):=by
  have h:=c_SameSpans u w
  rw [decide_eq_true e] at h;exact h
theorem c_sameIv (u w:List Int) (e:u=w):Ct Tryz.prog 64 [tL 1 false tI u,tL 1 false tI w] (tB true):=by
  have h:=c_SameInts u w
  rw [decide_eq_true e] at h;exact h
theorem c_sameVv (u w:Va) (e:u=w):Ct Tryz.prog 29 [tVa u,tVa w] (tB true):=by
  have h:=c_SameValue u w
  rw [decide_eq_true e] at h;exact h
/-! The examples of the chapter. -/
def xv (n d:Int):Va:=⟨2,fr (kfr n d),0⟩
def exA:List Tst:=[⟨0,10,xv 1 2⟩,⟨10,30,xv 1 1⟩]
def exB:List Tst:=[⟨8,12,xv 0 1⟩]
def exC:List Tst:=[⟨10,12,xv 1 2⟩]
theorem xv_ok:gOk 2 84 tB5 (xv 1 2)∧gOk 2 84 tB5 (xv 1 1)∧gOk 2 84 tB5 (xv 0 1):=by
  have e1:kfr 1 2=Rat.divInt 42 84:=by decide+kernel
  have e2:kfr 1 1=Rat.divInt 84 84:=by decide+kernel
  have e3:kfr 0 1=Rat.divInt 0 84:=by decide+kernel
  rw [xv,xv,xv,e1,e2,e3]
  exact ⟨gOk.mk (.inl rfl) (by decide) (by decide) (by decide) (by decide) (by decide),gOk.mk (.inl rfl) (by decide) (by decide) (by decide) (by decide) (by decide),gOk.mk (.inl rfl) (by decide) (by decide) (by decide) (by decide) (by decide)⟩
theorem exA_ok:isT exA:=⟨by decide+kernel,fun s hs=>by
  simp only [exA,List.mem_cons,List.not_mem_nil,or_false] at hs
  rcases hs with rfl | rfl
  · exact xv_ok.1
  · exact xv_ok.2.1⟩
theorem exB_ok:isT exB:=⟨by decide+kernel,fun s hs=>by
  simp only [exB,List.mem_cons,List.not_mem_nil,or_false] at hs
  rcases hs with rfl
  exact xv_ok.2.2⟩
theorem exC_ok:isT exC:=⟨by decide+kernel,fun s hs=>by
  simp only [exC,List.mem_cons,List.not_mem_nil,or_false] at hs
  rcases hs with rfl
  exact xv_ok.1⟩
theorem exCut:cutT exA 5 20=[⟨5,10,xv 1 2⟩,⟨10,20,xv 1 1⟩]:=by decide+kernel
theorem exCut2:cutT exA 0 12=[⟨0,10,xv 1 2⟩,⟨10,12,xv 1 1⟩]:=by decide+kernel
theorem exWo:woT exA 5 20=[⟨0,5,xv 1 2⟩,⟨20,30,xv 1 1⟩]:=by decide+kernel
theorem mem_dec {l xs:List Int} (h1:l.all (fun x=>decide (x∈xs))=true) (h2:xs.all (fun x=>decide (x∈l))=true): ∀x,x∈l↔x∈xs:=fun x=>⟨fun h=>of_decide_eq_true (List.all_eq_true.1 h1 x h),fun h=>of_decide_eq_true (List.all_eq_true.1 h2 x h)⟩
theorem exJB:jnT exA exB=[⟨0,8,xv 1 2⟩,⟨8,12,xv 0 1⟩,⟨12,30,xv 1 1⟩]:=by
  have e:bds [exA,exB]=[0,8,10,12,30]:=brd_eq (by decide) (mem_dec (by decide) (by decide))
  rw [jnT,e];decide+kernel
theorem exJC:jnT exA exC=[⟨0,12,xv 1 2⟩,⟨12,30,xv 1 1⟩]:=by
  have e:bds [exA,exC]=[0,10,12,30]:=brd_eq (by decide) (mem_dec (by decide) (by decide))
  rw [jnT,e];decide+kernel
theorem exCh:bds [exA]=[0,10,30]:=brd_eq (by decide) (mem_dec (by decide) (by decide))
theorem exCv:cvT exA=[⟨0,30⟩]:=by
  rw [cvT,mkS_asc (cvS_asc exA_ok.1)];decide+kernel
theorem exDf:dfS exA (cutT exA 0 12)=[⟨12,30⟩]:=by
  have e:bds [exA,[⟨0,10,xv 1 2⟩,⟨10,12,xv 1 1⟩]]=[0,10,12,30]:=brd_eq (by decide) (mem_dec (by decide) (by decide))
  rw [dfS,mkS_asc (dfT_asc exA_ok.1 exA_ok.cut.1),dfT_map,exCut2,e]
  decide+kernel
theorem exSum:fr (Rat.divInt (gS (wt 84) exA 5 20) 84)=fr (kfr 25 2):=congrArg fr (by decide+kernel)
theorem c_awake05:
  Ct Tryz.prog 36 [] (tB true):=by
 refine Ct.intro Tryz.func36 rfl Tryz.ntmps36 rfl ?_
 intro w F
 refine A7 ?_
 refine RE (x3 (xh1 0 10 1 2 (by decide) (by decide) (by decide) (by decide)) fi43 rfl) ⟨rfl,rfl,rfl,rfl,trivial⟩ trivial trivial (RE (x3 (xh1 10 30 1 1 (by decide) (by decide) (by decide) (by decide)) fi43 rfl) ⟨rfl,rfl,rfl,rfl,trivial⟩ trivial trivial (R2 (xc0 (n:=2) (f:=tTs) [(⟨0,10,xv 1 2⟩:Tst),(⟨10,30,xv 1 1⟩:Tst)] Tryz.underlying51 el59 zf59 rfl (fun _=>inferInstance) rfl rfl rfl) rfl rfl (R1 (x3 (c_steps [(⟨0,10,xv 1 2⟩:Tst),(⟨10,30,xv 1 1⟩:Tst)]) fi42 rfl) rfl ?_)))
 refine A6 ?_
 refine R2 (x3 (c_AtG (l:=exA) 9 exA_ok (by decide)) fi100 rfl) rfl rfl ?_
 refine A3 ?_
 refine RE (xa3 (k:=2) (n:=6) (agg:=true) zr57.1 zr57.2 rfl) trivial trivial ⟨rfl,trivial⟩ ?_
 refine A7 ?_
 refine R2 (x3 (c_AtG (l:=exA) 30 exA_ok (by decide)) fi100 rfl) rfl rfl ?_
 refine A3 ?_
 refine RE (xa3 (k:=4) (n:=6) (agg:=true) zr57.1 zr57.2 rfl) trivial trivial ⟨rfl,trivial⟩ ?_
 refine A7 ?_
 refine R3 (x3 (c_SumG (l:=exA) 5 20 (.inl rfl) (by decide) (by decide) (by decide) (by decide) exA_ok (by decide) (by decide)) fi110 rfl) rfl rfl rfl ?_
 refine A3 ?_
 refine RE (xa3 (k:=6) (n:=4) (agg:=true) zr41.1 zr41.2 rfl) trivial trivial ⟨rfl,trivial⟩ ?_
 refine A7 ?_
 refine R3 (x3 (c_CutG (l:=exA) 5 20 exA_ok (by decide) (by decide)) fi111 rfl) rfl rfl rfl ?_
 refine A9 ?_
 refine A1 ?_
 refine R3 (x3 (c_WithoutG (l:=exA) 5 20 exA_ok (by decide) (by decide)) fi112 rfl) rfl rfl rfl ?_
 refine A9 ?_
 refine A1 ?_
 refine RE (x3 (xh1 8 12 0 1 (by decide) (by decide) (by decide) (by decide)) fi43 rfl) ⟨rfl,rfl,rfl,rfl,trivial⟩ trivial trivial (R1 (xc0 (n:=1) (f:=tTs) [(⟨8,12,xv 0 1⟩:Tst)] Tryz.underlying51 el59 zf59 rfl (fun _=>inferInstance) rfl rfl rfl) rfl (R1 (x3 (c_steps [(⟨8,12,xv 0 1⟩:Tst)]) fi42 rfl) rfl (R2 (x3 (c_JoinG (a:=exA) (b:=exB) exA_ok exB_ok (by decide) (by decide)) fi113 rfl) rfl rfl ?_)))
 refine A9 ?_
 refine A1 ?_
 refine RE (x3 (xh1 10 12 1 2 (by decide) (by decide) (by decide) (by decide)) fi43 rfl) ⟨rfl,rfl,rfl,rfl,trivial⟩ trivial trivial (R1 (xc0 (n:=1) (f:=tTs) [(⟨10,12,xv 1 2⟩:Tst)] Tryz.underlying51 el59 zf59 rfl (fun _=>inferInstance) rfl rfl rfl) rfl (R1 (x3 (c_steps [(⟨10,12,xv 1 2⟩:Tst)]) fi42 rfl) rfl (R2 (x3 (c_JoinG (a:=exA) (b:=exC) exA_ok exC_ok (by decide) (by decide)) fi113 rfl) rfl rfl ?_)))
 refine A9 ?_
 refine A1 ?_
 refine R3 (x3 (c_CutG (l:=exA) 0 12 exA_ok (by decide) (by decide)) fi111 rfl) rfl rfl rfl ?_
 refine A9 ?_
 refine A2 ?_
 refine R2 (x3 (c_DiffG (a:=exA) (b:=cutT exA 0 12) exA_ok exA_ok.cut (by decide) (by rw [exCut2];decide)) fi102 rfl) rfl rfl ?_
 refine A9 ?_
 refine A9 ?_
 refine A7 ?_
 refine RGon (decide_eq_false (by omega)) rfl xa2 rfl ⟨rfl,trivial⟩ trivial trivial (RGon (decide_eq_false (by omega)) rfl d_not rfl ⟨rfl,trivial⟩ trivial trivial (R2 (xd2 (decide_eq_false (by omega))) rfl rfl ?_))
 refine A1 ?_
 refine RGon (by decide+kernel) rfl xa2 rfl ⟨rfl,trivial⟩ trivial trivial (R2 (xd2 (by decide+kernel)) rfl rfl ?_)
 refine A1 ?_
 refine RGon (by decide+kernel) rfl (xd0 (0) ti57 rfl rfl) rfl ⟨rfl,trivial⟩ ⟨rfl,trivial⟩ trivial (RGon (by decide+kernel) rfl (x3 (c_Num 1 2 (by decide) (by decide) (by decide) (by decide)) fi30 rfl) rfl ⟨rfl,rfl,trivial⟩ trivial trivial (RGon (by decide+kernel) rfl (x3 (c_sameVv _ _ (by decide+kernel)) fi29 rfl) rfl ⟨rfl,rfl,trivial⟩ trivial trivial (RGon (by decide+kernel) rfl d_not rfl ⟨rfl,trivial⟩ trivial trivial (R2 (xd2 (by decide+kernel)) rfl rfl ?_))))
 refine A2 ?_
 refine RGon rfl rfl (x3 (c_KFrac 25 2 (by decide) (by decide) (by decide) (by decide)) fi32 rfl) rfl ⟨rfl,rfl,trivial⟩ trivial trivial (RGon rfl rfl (x3 (c_sameFv _ _ exSum) fi86 rfl) rfl ⟨rfl,rfl,trivial⟩ trivial trivial ?_)
 refine A9 ?_
 refine A8 ?_
 refine RE (x3 (xh1 5 10 1 2 (by decide) (by decide) (by decide) (by decide)) fi43 rfl) ⟨rfl,rfl,rfl,rfl,trivial⟩ trivial trivial (RE (x3 (xh1 10 20 1 1 (by decide) (by decide) (by decide) (by decide)) fi43 rfl) ⟨rfl,rfl,rfl,rfl,trivial⟩ trivial trivial (R2 (xc0 (n:=2) (f:=tTs) [(⟨5,10,xv 1 2⟩:Tst),(⟨10,20,xv 1 1⟩:Tst)] Tryz.underlying51 el59 zf59 rfl (fun _=>inferInstance) rfl rfl rfl) rfl rfl (R1 (x3 (c_steps [(⟨5,10,xv 1 2⟩:Tst),(⟨10,20,xv 1 1⟩:Tst)]) fi42 rfl) rfl (R3 (d_callF (c_sameTv _ _ exCut) fi114 rfl) rfl rfl rfl ?_))))
 refine A4 ?_
 refine RGon rfl rfl (x3 (xh1 0 5 1 2 (by decide) (by decide) (by decide) (by decide)) fi43 rfl) rfl ⟨rfl,rfl,rfl,rfl,trivial⟩ trivial trivial (RGon rfl rfl (x3 (xh1 20 30 1 1 (by decide) (by decide) (by decide) (by decide)) fi43 rfl) rfl ⟨rfl,rfl,rfl,rfl,trivial⟩ trivial trivial (RGon rfl rfl (xc0 (n:=2) (f:=tTs) [(⟨0,5,xv 1 2⟩:Tst),(⟨20,30,xv 1 1⟩:Tst)] Tryz.underlying51 el59 zf59 rfl (fun _=>inferInstance) rfl rfl rfl) rfl ⟨rfl,rfl,trivial⟩ trivial trivial (RGon rfl rfl (x3 (c_steps [(⟨0,5,xv 1 2⟩:Tst),(⟨20,30,xv 1 1⟩:Tst)]) fi42 rfl) rfl ⟨rfl,trivial⟩ trivial trivial (RGon rfl rfl (d_callF (c_sameTv _ _ exWo) fi114 rfl) rfl ⟨rfl,rfl,rfl,trivial⟩ trivial trivial ?_))))
 refine A5 ?_
 refine RGon rfl rfl (x3 (xh1 0 8 1 2 (by decide) (by decide) (by decide) (by decide)) fi43 rfl) rfl ⟨rfl,rfl,rfl,rfl,trivial⟩ trivial trivial (RGon rfl rfl (x3 (xh1 8 12 0 1 (by decide) (by decide) (by decide) (by decide)) fi43 rfl) rfl ⟨rfl,rfl,rfl,rfl,trivial⟩ trivial trivial (RGon rfl rfl (x3 (xh1 12 30 1 1 (by decide) (by decide) (by decide) (by decide)) fi43 rfl) rfl ⟨rfl,rfl,rfl,rfl,trivial⟩ trivial trivial (RGon rfl rfl (xc0 (n:=3) (f:=tTs) [(⟨0,8,xv 1 2⟩:Tst),(⟨8,12,xv 0 1⟩:Tst),(⟨12,30,xv 1 1⟩:Tst)] Tryz.underlying51 el59 zf59 rfl (fun _=>inferInstance) rfl rfl rfl) rfl ⟨rfl,rfl,rfl,trivial⟩ trivial trivial (RGon rfl rfl (x3 (c_steps [(⟨0,8,xv 1 2⟩:Tst),(⟨8,12,xv 0 1⟩:Tst),(⟨12,30,xv 1 1⟩:Tst)]) fi42 rfl) rfl ⟨rfl,trivial⟩ trivial trivial (RGon rfl rfl (d_callF (c_sameTv _ _ exJB) fi114 rfl) rfl ⟨rfl,rfl,rfl,trivial⟩ trivial trivial ?_)))))
 refine A5 ?_
 refine RGon rfl rfl (x3 (xh1 0 12 1 2 (by decide) (by decide) (by decide) (by decide)) fi43 rfl) rfl ⟨rfl,rfl,rfl,rfl,trivial⟩ trivial trivial (RGon rfl rfl (x3 (xh1 12 30 1 1 (by decide) (by decide) (by decide) (by decide)) fi43 rfl) rfl ⟨rfl,rfl,rfl,rfl,trivial⟩ trivial trivial (RGon rfl rfl (xc0 (n:=2) (f:=tTs) [(⟨0,12,xv 1 2⟩:Tst),(⟨12,30,xv 1 1⟩:Tst)] Tryz.underlying51 el59 zf59 rfl (fun _=>inferInstance) rfl rfl rfl) rfl ⟨rfl,rfl,trivial⟩ trivial trivial (RGon rfl rfl (x3 (c_steps [(⟨0,12,xv 1 2⟩:Tst),(⟨12,30,xv 1 1⟩:Tst)]) fi42 rfl) rfl ⟨rfl,trivial⟩ trivial trivial (RGon rfl rfl (d_callF (c_sameTv _ _ exJC) fi114 rfl) rfl ⟨rfl,rfl,rfl,trivial⟩ trivial trivial ?_))))
 refine A9 ?_
 refine A1 ?_
 refine R1 (x3 (c_ChangesG (l:=exA) exA_ok (by decide)) fi105 rfl) rfl (R3 (xc0 (n:=3) (f:=fun n:Int=>tI n) [0,10,30] Tryz.underlying23 el3 zf3 rfl (fun _=>inferInstance) rfl rfl rfl) rfl rfl rfl (R2 (x3 (c_sameIv _ _ exCh) fi64 rfl) rfl rfl ?_))
 refine A2 ?_
 refine RGon rfl rfl (x3 (c_CoversG (l:=exA) exA_ok (by decide)) fi104 rfl) rfl ⟨rfl,trivial⟩ trivial trivial (RGon rfl rfl (xa7 (r:=tS [⟨1,false,tI 0⟩,⟨1,false,tI 30⟩]) (ts:=[(0,tI 0),(1,tI 30)]) bu119 zr119.2 ⟨_,rfl⟩ rfl ⟨_,_,_,_,rfl,Up.f (fs:=[⟨1,false,(tE (.int .i64 0))⟩,⟨1,false,(tE (.int .i64 0))⟩]) (f:=⟨1,false,(tE (.int .i64 0))⟩) (fs':=[⟨1,false,tI 0⟩,⟨1,false,(tE (.int .i64 0))⟩]) 0 rfl rfl rfl,inferInstance,⟨_,_,_,_,rfl,Up.f (fs:=[⟨1,false,tI 0⟩,⟨1,false,(tE (.int .i64 0))⟩]) (f:=⟨1,false,(tE (.int .i64 0))⟩) (fs':=[⟨1,false,tI 0⟩,⟨1,false,tI 30⟩]) 1 rfl rfl rfl,inferInstance,Le.refl⟩⟩) rfl ⟨rfl,rfl,trivial⟩ trivial trivial (RGon rfl rfl (xc0 (n:=1) (f:=tSn) [(⟨0,30⟩:Sn)] Tryz.underlying113 el119 zf119 rfl (fun _=>inferInstance) rfl rfl rfl) rfl ⟨rfl,trivial⟩ trivial trivial (RGon rfl rfl (x3 (c_sameSv _ _ exCv) fi92 rfl) rfl ⟨rfl,rfl,trivial⟩ trivial trivial ?_)))
 refine A3 ?_
 refine RGon rfl rfl (xa7 (r:=tS [⟨1,false,tI 12⟩,⟨1,false,tI 30⟩]) (ts:=[(0,tI 12),(1,tI 30)]) bu119 zr119.2 ⟨_,rfl⟩ rfl ⟨_,_,_,_,rfl,Up.f (fs:=[⟨1,false,(tE (.int .i64 0))⟩,⟨1,false,(tE (.int .i64 0))⟩]) (f:=⟨1,false,(tE (.int .i64 0))⟩) (fs':=[⟨1,false,tI 12⟩,⟨1,false,(tE (.int .i64 0))⟩]) 0 rfl rfl rfl,inferInstance,⟨_,_,_,_,rfl,Up.f (fs:=[⟨1,false,tI 12⟩,⟨1,false,(tE (.int .i64 0))⟩]) (f:=⟨1,false,(tE (.int .i64 0))⟩) (fs':=[⟨1,false,tI 12⟩,⟨1,false,tI 30⟩]) 1 rfl rfl rfl,inferInstance,Le.refl⟩⟩) rfl ⟨rfl,rfl,trivial⟩ trivial trivial (RGon rfl rfl (xc0 (n:=1) (f:=tSn) [(⟨12,30⟩:Sn)] Tryz.underlying113 el119 zf119 rfl (fun _=>inferInstance) rfl rfl rfl) rfl ⟨rfl,trivial⟩ trivial trivial (RGon rfl rfl (x3 (c_sameSv _ _ exDf) fi92 rfl) rfl ⟨rfl,rfl,trivial⟩ trivial trivial ?_))
 refine A5 ?_
 exact x4 Plain.mk' rfl rfl Le.refl
end An.S

/- The reference of layer 1: limbs. -/
namespace An.S
open Go Go.Proofs An
set_option maxHeartbeats 2000000
instance fi284:FnI Tryz.prog 284:=⟨_,Tryz.func284,by kernel_rfl,rfl⟩
theorem c_RTrim (a:List Nat):
  Ct Tryz.prog 284 [tLm a] (tLm (trimL a)):=by
 refine Ct.intro Tryz.func284 rfl Tryz.ntmps284 rfl ?_
 intro w F
 refine C_len (s:=0) rfl (fun hl0=> ?_)
 refine A9 ?_
 refine A5 ?_
 refine cL (fun (k:Nat)=>k≤a.length∧trimL (a.take k)=trimL a) (fun (k:Nat)=>upd (upd (fun _=>none) 0 (some (.val (tLm a)))) 3 (some (.val (tI k)))) (fun (k:Nat)=>fun _=>none) [] (fun (k:Nat)=>k) (a.length) ⟨Nat.le_refl _,by rw [List.take_length]⟩ ?_
 intro k hI
 obtain ⟨hk,hc⟩:=hI
 refine A6 ?_
 refine RGcaseD (t:=8) rfl (fun h12=> ?_) (fun h12=> ?_)
 ·
  refine A2 ?_
  refine RGon (decide_eq_true h12) rfl (xe1 (wr64 (by omega) (by omega))) rfl ⟨rfl,rfl,trivial⟩ trivial trivial (RGon (decide_eq_true h12) rfl (x5 sl37 (k - 1) (by omega) (gN (by omega))) rfl ⟨rfl,rfl,trivial⟩ trivial trivial ?_)
  refine A5 ?_
  refine x9 rfl (fun h12_2=> ?_) (fun h12_2=> ?_)
  ·
   refine A9 ?_
   exact kF (k - 1) ⟨⟨by omega,by rw [trim_step' hk (by omega) (by omega)];exact hc⟩,(by omega)⟩
  ·
   refine A9 ?_
   refine R2 (d_sliceTo sl37 k (by omega) (by omega) rfl) rfl rfl ?_
   refine A4 ?_
   exact x4 Plain.mk' rfl rfl (Le.of (congrArg tLm (by rw [←hc,trim_stop' hk (by omega) (by omega)])))
 ·
  refine A9 ?_
  refine A9 ?_
  refine A1 ?_
  refine R2 (d_sliceTo sl37 k (by omega) (by omega) rfl) rfl rfl ?_
  refine A4 ?_
  exact x4 Plain.mk' rfl rfl (Le.of (congrArg tLm (by rw [←hc,show k=0 by omega,List.take_zero];rfl)))
theorem c_RLess (a b:Nat):
  Ct Tryz.prog 255 [tM a,tM b] (tB (decide (a < b))):=by
 refine Ct.intro Tryz.func255 rfl Tryz.ntmps255 rfl ?_
 intro w F
 refine C_len (s:=0) rfl (fun hl0=> ?_)
 refine C_len (s:=1) rfl (fun hl1=> ?_)
 have ha:=lt_len x8 a
 have hb:=lt_len x8 b
 refine A9 ?_
 refine A6 ?_
 refine x9 rfl (fun h20=> ?_) (fun h20=> ?_)
 ·
  refine A9 ?_
  refine A3 ?_
  exact x4 Plain.mk' rfl rfl (Le.bool (decide_eq_decide.2 ⟨fun h=>len_lt x8 (by omega),fun h=>by have:=xd7 x8 (Nat.le_of_lt h);omega⟩))
 ·
  refine A9 ?_
  refine A3 ?_
  have hlen:(dig 65536 a).length=(dig 65536 b).length:=by omega
  rw [←hlen] at hb
  refine cL (fun (k:Nat)=>k≤(dig 65536 a).length∧a / 65536 ^ k=b / 65536 ^ k) (fun (k:Nat)=>upd (upd (upd (fun _=>none) 0 (some (.val (tM a)))) 1 (some (.val (tM b)))) 5 (some (.val (tI ((k:Int) - 1))))) (fun (k:Nat)=>fun _=>none) [] (fun (k:Nat)=>k) ((dig 65536 a).length) ⟨Nat.le_refl _,by rw [Nat.div_eq_of_lt ha,Nat.div_eq_of_lt hb]⟩ ?_
  intro k hI
  obtain ⟨hk,hc⟩:=hI
  refine A7 ?_
  refine x9 rfl (fun h23=> ?_) (fun h23=> ?_)
  ·
   obtain ⟨j,rfl⟩: ∃j,k=j+1:=⟨k - 1,by omega⟩
   refine A8 ?_
   refine R2 (x5 sl37 (j) (by omega) (gN (by omega))) rfl rfl ?_
   refine A3 ?_
   refine R2 (x5 sl37 (j) (by omega) (gN (by omega))) rfl rfl ?_
   refine A4 ?_
   refine x9 rfl (fun h24=> ?_) (fun h24=> ?_)
   ·
    refine A4 ?_
    refine R2 (x5 sl37 (j) (by omega) (gN (by omega))) rfl rfl ?_
    refine A3 ?_
    refine R2 (x5 sl37 (j) (by omega) (gN (by omega))) rfl rfl ?_
    refine A9 ?_
    refine A2 ?_
    exact x4 Plain.mk' rfl rfl (Le.bool (decide_eq_decide.2 ⟨fun h=>dig_lt_of x8 hc (by omega),fun h=>Classical.byContradiction fun h2=>by have:=dig_lt_of x8 hc.symm (show (dig 65536 b).getD j 0 < (dig 65536 a).getD j 0 by omega);omega⟩))
   ·
    refine A8 ?_
    exact kF (j) ⟨⟨by omega,cmp_step (by decide) hc (by rw [←xc2 x8,←xc2 x8];omega)⟩,(by omega)⟩
  ·
   refine A9 ?_
   refine A2 ?_
   exact x4 Plain.mk' rfl rfl (Le.bool (decide_eq_false (by have h0:=hc;rw [show k=0 by omega] at h0;simp at h0;omega)).symm)
theorem len_ne {v:Nat}:(0:Int) < ((dig 65536 v).length:Nat)↔v≠0:=by
  have h:(dig 65536 v).length=0↔v=0:=by rw [List.length_eq_zero_iff,xh6 x8]
  omega
theorem iquo64 {a b:Nat} (ha:a < 9223372036854775808):IntKind.i64.wrap ((a:Int).tdiv (b:Int))=((a / b:Nat):Int):=by
  rw [Int.tdiv_eq_ediv_of_nonneg (by omega)]
  have h:(a:Int) / (b:Int)=((a / b:Nat):Int):=(Int.natCast_ediv a b).symm
  rw [h]
  have:=Nat.div_le_self a b
  generalize a / b=q at*
  exact wr64 (by omega) (by omega)
theorem c_RShort (a d:Nat) (ha:(dig 65536 a).length≤100000) (hd:0 < d) (hdW:d < 65536):
  Ct Tryz.prog 254 [tM a,tI d] (tT [tM (a / d),tM (a%d)]):=by
 refine Ct.intro Tryz.func254 rfl Tryz.ntmps254 rfl ?_
 intro w F
 refine A9 ?_
 refine A1 ?_
 refine RE (xg3 (k:=11) (t:=tE (.int .u16 0)) (ts:=rW .u16 (List.replicate ((dig 65536 a).length) 0)) ((dig 65536 a).length) ((dig 65536 a).length) Tryz.underlying37 el64 (fun _ _=>rfl) rfl (by omega) (by omega) (Nat.le_refl _) (by omega) (by omega) (rW_rep _)) ⟨rfl,rfl,trivial⟩ trivial ⟨rfl,trivial⟩ ?_
 refine A9 ?_
 refine A9 ?_
 refine cL (fun (fm:(Nat)×(List Nat))=>(fun (k:Nat) (qs:List Nat)=>k≤(dig 65536 a).length∧qs.length=(dig 65536 a).length∧Dig 65536 qs∧val 65536 (qs.drop k)=a / 65536 ^ k / d) fm.1 fm.2) (fun (fm:(Nat)×(List Nat))=>(fun (k:Nat) (qs:List Nat)=>upd (upd (upd (upd (upd (fun _=>none) 0 (some (.val (tM a)))) 1 (some (.val (tI d)))) 6 (some (.own (.sl 11 1 0 (dig 65536 a).length)))) 7 (some (.val (tI ((a / 65536 ^ k%d:Nat):Int))))) 8 (some (.val (tI ((k:Int) - 1))))) fm.1 fm.2) (fun (fm:(Nat)×(List Nat))=>(fun (k:Nat) (qs:List Nat)=>upd (fun _=>none) 11 (some (⟨64,1,false,rW .u16 qs⟩))) fm.1 fm.2) [11] (fun (fm:(Nat)×(List Nat))=>(fun (k:Nat) (qs:List Nat)=>k) fm.1 fm.2) (((dig 65536 a).length,List.replicate (dig 65536 a).length 0)) (by dsimp only;exact ⟨Nat.le_refl _,by simp,Dig.rep (by decide) _,by rw [Nat.div_eq_of_lt (lt_len x8 a),Nat.zero_div,List.drop_replicate,xg4]⟩) (hg:=(sI (Sub.le rfl (Le.int (by dsimp only;rw [Nat.div_eq_of_lt (lt_len x8 a),Nat.zero_mod];rfl)) (sC (sI (sC Sub.nil)))))) (hh:=((SubK.consI rfl ImpK.refl) SubK.nil)) ?_
 intro fm hI
 obtain ⟨k,qs⟩:=fm
 replace hI:k≤(dig 65536 a).length∧qs.length=(dig 65536 a).length∧Dig 65536 qs∧val 65536 (qs.drop k)=a / 65536 ^ k / d:=hI
 show wc _ _ _ _ (upd (upd (upd (upd (upd (fun _=>none) 0 (some (.val (tM a)))) 1 (some (.val (tI d)))) 6 (some (.own (.sl 11 1 0 (dig 65536 a).length)))) 7 (some (.val (tI ((a / 65536 ^ k%d:Nat):Int))))) 8 (some (.val (tI ((k:Int) - 1))))) (upd (fun _=>none) 11 (some (⟨64,1,false,rW .u16 qs⟩))) _
 obtain ⟨hk,hl,hD,hv⟩:=hI
 have hr:a / 65536 ^ k%d < d:=Nat.mod_lt _ hd
 refine A7 ?_
 refine x9 rfl (fun h93=> ?_) (fun h93=> ?_)
 ·
  obtain ⟨j,rfl⟩: ∃j,k=j+1:=⟨k - 1,by omega⟩
  have hx:=xc2 x8 a j
  have hx1:=(xc5 x8 a).getD (by decide) j
  obtain ⟨n1,n2,n3,n4,n5⟩:=short_in (k:=j) (by omega) hl hD hd rfl hv (by rw [←hx])
  have hq0:=Nat.zero_le (((a / 65536 ^ (j+1)%d)*65536+(dig 65536 a).getD j 0) / d)
  refine A7 ?_
  refine R2 (d_mul (r:=(((a / 65536 ^ (j+1)%d)*65536:Nat):Int)) (by rw [wr64 (by omega) (by omega)];omega)) rfl rfl ?_
  refine A2 ?_
  refine R2 (x5 sl37 (j) (by omega) (gN (by omega))) rfl rfl ?_
  refine A1 ?_
  refine R1 (x6 Tryz.underlying3 (isS Tryz.underlying64) (wr64 (by omega) (by omega))) rfl (R2 (xd1 (r:=((((a / 65536 ^ (j+1)%d)*65536+(dig 65536 a).getD j 0):Nat):Int)) (by rw [wr64 (by omega) (by omega)];omega)) rfl rfl ?_)
  refine A9 ?_
  refine R2 (d_quo (r:=((((a / 65536 ^ (j+1)%d)*65536+(dig 65536 a).getD j 0) / d:Nat):Int)) (by omega) (iquo64 (by omega))) rfl rfl (R1 (x6 Tryz.underlying64 (isS Tryz.underlying3) (wu16 (by omega) (by omega))) rfl (R2 (xa5 sl37 (by omega) (by omega) rfl) rfl rfl (RE (xc1 (j) ti64 (rW_lt (by omega)) (by omega) (rW_set (m:=_) rfl)) ⟨rfl,rfl,trivial⟩ ⟨rfl,trivial⟩ trivial ?_)))
  refine A5 ?_
  refine R2 (d_rem (by omega) wrem64) rfl rfl ?_
  refine A9 ?_
  exact kF ((j,qs.set j (((a / 65536 ^ (j+1)%d)*65536+(dig 65536 a).getD j 0) / d))) ⟨(by dsimp only;exact ⟨by omega,n1,n2,n4⟩),(by dsimp only;omega)⟩ (hg:=(sI (Sub.le rfl (Le.int (by dsimp only;rw [hx,n3])) (sC (sI (sC Sub.nil)))))) (hh:=((SubK.consI rfl ImpK.refl) SubK.nil))
 ·
  have hk0:k=0:=by omega
  subst hk0
  rw [List.drop_zero,Nat.pow_zero,Nat.div_one] at hv
  refine A7 ?_
  refine RE (xf2 (f:=fun n:Nat=>tE (.int .u16 n)) (fun _ h=>h) (rW_all hl) hl) ⟨rfl,trivial⟩ ⟨rfl,trivial⟩ trivial (R1 (x3 (c_RTrim _) fi284 rfl) rfl ?_)
  refine A1 ?_
  refine R1 (x6 Tryz.underlying64 (isS Tryz.underlying3) (wu16 (by omega) (by omega))) rfl (R1 (d_nums (n:=1) [a / 65536 ^ 0%d] Tryz.underlying37 el64 zf64 rfl rfl rfl) rfl (R1 (x3 (c_RTrim _) fi284 rfl) rfl ?_))
  refine A5 ?_
  exact xc4 Plain.mk' rfl rfl rfl (Le.of (congrArg tLm (by rw [xe7 x8 hD,hv]))) (Le.of (congrArg tLm (by rw [trim1L (by omega),Nat.pow_zero,Nat.div_one])))
end An.S

/- The reference of layer 1: sums, differences. -/
namespace An.S
open Go Go.Proofs An
set_option maxHeartbeats 2000000
theorem c_RPlus (a b:Nat) (ha:(dig 65536 a).length≤100000) (hb:(dig 65536 b).length≤100000):
  Ct Tryz.prog 224 [tM a,tM b] (tM (a+b)):=by
 have hab:=len_dbl ha hb
 refine Ct.intro Tryz.func224 rfl Tryz.ntmps224 rfl ?_
 intro w F
 refine A7 ?_
 refine RE (xf9 (k:=5) 64 1 false rfl (fun _=>rfl)) trivial trivial ⟨rfl,trivial⟩ ?_
 refine A9 ?_
 refine A5 ?_
 refine cL (fun (fm:(Nat)×(Nat)×(List Nat))=>(fun (i:Nat) (n:Nat) (cs:List Nat)=>i≤(dig 65536 (a+b)).length∧n=(a%65536 ^ i+b%65536 ^ i) / 65536 ^ i∧cs=dgs 65536 i (a+b)) fm.1 fm.2.1 fm.2.2) (fun (fm:(Nat)×(Nat)×(List Nat))=>(fun (i:Nat) (n:Nat) (cs:List Nat)=>upd (upd (upd (upd (upd (fun _=>none) 0 (some (.val (tM a)))) 1 (some (.val (tM b)))) 5 (some (.own (.sl 5 1 0 cs.length)))) 7 (some (.val (tI i)))) 6 (some (.val (tI n)))) fm.1 fm.2.1 fm.2.2) (fun (fm:(Nat)×(Nat)×(List Nat))=>(fun (i:Nat) (n:Nat) (cs:List Nat)=>upd (fun _=>none) 5 (some (⟨64,1,false,rW .u16 cs⟩))) fm.1 fm.2.1 fm.2.2) [5] (fun (fm:(Nat)×(Nat)×(List Nat))=>(fun (i:Nat) (n:Nat) (cs:List Nat)=>(dig 65536 (a+b)).length - i) fm.1 fm.2.1 fm.2.2) ((0,0,[])) (by dsimp only;exact ⟨Nat.zero_le _,by simp [Nat.mod_one],rfl⟩) (hh:=((SubK.consI rfl ImpK.refl) SubK.nil)) ?_
 intro fm hI
 obtain ⟨i,n,cs⟩:=fm
 replace hI:i≤(dig 65536 (a+b)).length∧n=(a%65536 ^ i+b%65536 ^ i) / 65536 ^ i∧cs=dgs 65536 i (a+b):=hI
 show wc _ _ _ _ (upd (upd (upd (upd (upd (fun _=>none) 0 (some (.val (tM a)))) 1 (some (.val (tM b)))) 5 (some (.own (.sl 5 1 0 cs.length)))) 7 (some (.val (tI i)))) 6 (some (.val (tI n)))) (upd (fun _=>none) 5 (some (⟨64,1,false,rW .u16 cs⟩))) _
 obtain ⟨hi,hn,hcs⟩:=hI
 have hcl:cs.length=i:=by rw [hcs,xf5]
 have hn1:=rplus_small hn
 have xa:=xc2 x8 a i
 have xb:=xc2 x8 b i
 have xa1:=(xc5 x8 a).getD (by decide) i
 have xb1:=(xc5 x8 b).getD (by decide) i
 refine A8 ?_
 refine RGcaseD (t:=12) rfl (fun h35=> ?_) (fun h35=> ?_)
 ·
  have hmore:=rplus_more hn (.inl (by omega))
  refine A9 ?_
  refine A7 ?_
  refine xf7 (fun (m1:Nat)=>m1=(n+a / 65536 ^ i%65536)) (fun (m1:Nat)=>upd (upd (upd (upd (upd (fun _=>none) 0 (some (.val (tM a)))) 1 (some (.val (tM b)))) 5 (some (.own (.sl 5 1 0 cs.length)))) 7 (some (.val (tI i)))) 6 (some (.val (tI m1)))) (fun (m1:Nat)=>upd (fun _=>none) 5 (some (⟨64,1,false,rW .u16 cs⟩))) (nm [5]) ?_ ?_
  ·
   refine A8 ?_
   refine x9 rfl (fun h36=> ?_) (fun h36=> ?_)
   ·
    refine A4 ?_
    refine R2 (x5 sl37 (i) (by omega) (gN (by omega))) rfl rfl ?_
    refine A1 ?_
    refine R1 (x6 Tryz.underlying3 (isS Tryz.underlying64) (wr64 (by omega) (by omega))) rfl (R2 (xd1 (r:=((n+(dig 65536 a).getD i 0:Nat):Int)) (by rw [wr64 (by omega) (by omega)];omega)) rfl rfl ?_)
    refine A2 ?_
    exact kF (n+(dig 65536 a).getD i 0) (by rw [xa]) (hh:=((SubK.consI rfl ImpK.refl) SubK.nil))
   ·
    refine A1 ?_
    exact kF (n) (by rw [dig_out x8 (by omega),Nat.add_zero]) (hh:=((SubK.consI rfl ImpK.refl) SubK.nil))
  ·
   intro m1 hm1
   refine xf7 (fun (m2:Nat)=>m2=(m1+b / 65536 ^ i%65536)) (fun (m2:Nat)=>upd (upd (upd (upd (upd (fun _=>none) 0 (some (.val (tM a)))) 1 (some (.val (tM b)))) 5 (some (.own (.sl 5 1 0 cs.length)))) 7 (some (.val (tI i)))) 6 (some (.val (tI m2)))) (fun (m2:Nat)=>upd (fun _=>none) 5 (some (⟨64,1,false,rW .u16 cs⟩))) (nm [5]) ?_ ?_
   ·
    refine A8 ?_
    refine x9 rfl (fun h39=> ?_) (fun h39=> ?_)
    ·
     refine A4 ?_
     refine R2 (x5 sl37 (i) (by omega) (gN (by omega))) rfl rfl ?_
     refine A1 ?_
     refine R1 (x6 Tryz.underlying3 (isS Tryz.underlying64) (wr64 (by omega) (by omega))) rfl (R2 (xd1 (r:=((m1+(dig 65536 b).getD i 0:Nat):Int)) (by rw [wr64 (by omega) (by omega)];omega)) rfl rfl ?_)
     refine A2 ?_
     exact kF (m1+(dig 65536 b).getD i 0) (by rw [xb]) (hh:=((SubK.consI rfl ImpK.refl) SubK.nil))
    ·
     refine A1 ?_
     exact kF (m1) (by rw [dig_out x8 (by omega),Nat.add_zero]) (hh:=((SubK.consI rfl ImpK.refl) SubK.nil))
   ·
    intro m2 hm2
    refine A4 ?_
    refine R2 (d_rem (r:=((m2%65536:Nat):Int)) (by decide) (wrem64 (b:=65536))) rfl rfl (R1 (x6 Tryz.underlying64 (isS Tryz.underlying3) (wu16 (by omega) (by omega))) rfl (R1 (d_nums (n:=1) [m2%65536] Tryz.underlying37 el64 zf64 rfl rfl rfl) rfl (RE (xb7 (k:=5) (k':=51) (ts':=rW .u16 (cs++[m2%65536])) Tryz.underlying37 el64 zf64 rfl rfl (fun _=>inferInstance) rW_len (by simp;omega) (by simp;omega) (by simp [rW]) (n':=cs.length+1) rfl) ⟨rfl,rfl,trivial⟩ ⟨rfl,trivial⟩ ⟨rfl,trivial⟩ ?_)))
    refine A5 ?_
    refine R2 (d_quo (r:=((m2 / 65536:Nat):Int)) (by decide) (iquo64 (b:=65536) (by omega))) rfl rfl ?_
    refine A9 ?_
    obtain ⟨n1,n2⟩:=rplus_in (s:=m2) hn (by rw [hm2,hm1])
    exact xe4 (l:=[5]) (fun j=>cond (Nat.beq j 5) 51 (j)) ((i+1,m2 / 65536,cs++[m2%65536])) ⟨(by dsimp only;exact ⟨hmore,n2,by rw [hcs];exact n1⟩),(by dsimp only;omega)⟩ (SubR.int rfl (by first | omega | rfl | (dsimp only;omega)) (SubR.int rfl (by first | omega | rfl | (dsimp only;omega)) ((SubR.consI rfl (Imp.of (by dsimp only;rw [List.length_append];rfl))) (SubR.cons rfl (SubR.cons rfl SubR.nil))))) ((SubKR.consI rfl (ImpK.of xg5.symm)) SubKR.nil) (SupG.val (SupG.val (SupG.own rfl (SupG.val (SupG.val SupG.nil))))) (SupH.cons rfl (supJ xd8) SupH.nil) (lkOk rfl) rfl rfl (fun _ h=>by cases h)
 ·
  refine A6 ?_
  refine RGcaseD (t:=18) rfl (fun h35_2=> ?_) (fun h35_2=> ?_)
  ·
   have hmore:=rplus_more hn (.inr (.inl (by omega)))
   refine A9 ?_
   refine A1 ?_
   refine xf7 (fun (m1:Nat)=>m1=(n+a / 65536 ^ i%65536)) (fun (m1:Nat)=>upd (upd (upd (upd (upd (fun _=>none) 0 (some (.val (tM a)))) 1 (some (.val (tM b)))) 5 (some (.own (.sl 5 1 0 cs.length)))) 7 (some (.val (tI i)))) 6 (some (.val (tI m1)))) (fun (m1:Nat)=>upd (fun _=>none) 5 (some (⟨64,1,false,rW .u16 cs⟩))) (nm [5]) ?_ ?_
   ·
    refine A8 ?_
    refine x9 rfl (fun h36=> ?_) (fun h36=> ?_)
    ·
     refine A4 ?_
     refine R2 (x5 sl37 (i) (by omega) (gN (by omega))) rfl rfl ?_
     refine A1 ?_
     refine R1 (x6 Tryz.underlying3 (isS Tryz.underlying64) (wr64 (by omega) (by omega))) rfl (R2 (xd1 (r:=((n+(dig 65536 a).getD i 0:Nat):Int)) (by rw [wr64 (by omega) (by omega)];omega)) rfl rfl ?_)
     refine A2 ?_
     exact kF (n+(dig 65536 a).getD i 0) (by rw [xa]) (hh:=((SubK.consI rfl ImpK.refl) SubK.nil))
    ·
     refine A1 ?_
     exact kF (n) (by rw [dig_out x8 (by omega),Nat.add_zero]) (hh:=((SubK.consI rfl ImpK.refl) SubK.nil))
   ·
    intro m1 hm1
    refine xf7 (fun (m2:Nat)=>m2=(m1+b / 65536 ^ i%65536)) (fun (m2:Nat)=>upd (upd (upd (upd (upd (fun _=>none) 0 (some (.val (tM a)))) 1 (some (.val (tM b)))) 5 (some (.own (.sl 5 1 0 cs.length)))) 7 (some (.val (tI i)))) 6 (some (.val (tI m2)))) (fun (m2:Nat)=>upd (fun _=>none) 5 (some (⟨64,1,false,rW .u16 cs⟩))) (nm [5]) ?_ ?_
    ·
     refine A8 ?_
     refine x9 rfl (fun h39=> ?_) (fun h39=> ?_)
     ·
      refine A4 ?_
      refine R2 (x5 sl37 (i) (by omega) (gN (by omega))) rfl rfl ?_
      refine A1 ?_
      refine R1 (x6 Tryz.underlying3 (isS Tryz.underlying64) (wr64 (by omega) (by omega))) rfl (R2 (xd1 (r:=((m1+(dig 65536 b).getD i 0:Nat):Int)) (by rw [wr64 (by omega) (by omega)];omega)) rfl rfl ?_)
      refine A2 ?_
      exact kF (m1+(dig 65536 b).getD i 0) (by rw [xb]) (hh:=((SubK.consI rfl ImpK.refl) SubK.nil))
     ·
      refine A1 ?_
      exact kF (m1) (by rw [dig_out x8 (by omega),Nat.add_zero]) (hh:=((SubK.consI rfl ImpK.refl) SubK.nil))
    ·
     intro m2 hm2
     refine A4 ?_
     refine R2 (d_rem (r:=((m2%65536:Nat):Int)) (by decide) (wrem64 (b:=65536))) rfl rfl (R1 (x6 Tryz.underlying64 (isS Tryz.underlying3) (wu16 (by omega) (by omega))) rfl (R1 (d_nums (n:=1) [m2%65536] Tryz.underlying37 el64 zf64 rfl rfl rfl) rfl (RE (xb7 (k:=5) (k':=51) (ts':=rW .u16 (cs++[m2%65536])) Tryz.underlying37 el64 zf64 rfl rfl (fun _=>inferInstance) rW_len (by simp;omega) (by simp;omega) (by simp [rW]) (n':=cs.length+1) rfl) ⟨rfl,rfl,trivial⟩ ⟨rfl,trivial⟩ ⟨rfl,trivial⟩ ?_)))
     refine A5 ?_
     refine R2 (d_quo (r:=((m2 / 65536:Nat):Int)) (by decide) (iquo64 (b:=65536) (by omega))) rfl rfl ?_
     refine A9 ?_
     obtain ⟨n1,n2⟩:=rplus_in (s:=m2) hn (by rw [hm2,hm1])
     exact xe4 (l:=[5]) (fun j=>cond (Nat.beq j 5) 51 (j)) ((i+1,m2 / 65536,cs++[m2%65536])) ⟨(by dsimp only;exact ⟨hmore,n2,by rw [hcs];exact n1⟩),(by dsimp only;omega)⟩ (SubR.int rfl (by first | omega | rfl | (dsimp only;omega)) (SubR.int rfl (by first | omega | rfl | (dsimp only;omega)) ((SubR.consI rfl (Imp.of (by dsimp only;rw [List.length_append];rfl))) (SubR.cons rfl (SubR.cons rfl SubR.nil))))) ((SubKR.consI rfl (ImpK.of xg5.symm)) SubKR.nil) (SupG.val (SupG.val (SupG.own rfl (SupG.val (SupG.val SupG.nil))))) (SupH.cons rfl (supJ xd8) SupH.nil) (lkOk rfl) rfl rfl (fun _ h=>by cases h)
  ·
   refine A5 ?_
   refine x9 rfl (fun h35_3=> ?_) (fun h35_3=> ?_)
   ·
    have hmore:=rplus_more hn (.inr (.inr (by omega)))
    refine A4 ?_
    refine xf7 (fun (m1:Nat)=>m1=(n+a / 65536 ^ i%65536)) (fun (m1:Nat)=>upd (upd (upd (upd (upd (fun _=>none) 0 (some (.val (tM a)))) 1 (some (.val (tM b)))) 5 (some (.own (.sl 5 1 0 cs.length)))) 7 (some (.val (tI i)))) 6 (some (.val (tI m1)))) (fun (m1:Nat)=>upd (fun _=>none) 5 (some (⟨64,1,false,rW .u16 cs⟩))) (nm [5]) ?_ ?_
    ·
     refine A8 ?_
     refine x9 rfl (fun h36=> ?_) (fun h36=> ?_)
     ·
      refine A4 ?_
      refine R2 (x5 sl37 (i) (by omega) (gN (by omega))) rfl rfl ?_
      refine A1 ?_
      refine R1 (x6 Tryz.underlying3 (isS Tryz.underlying64) (wr64 (by omega) (by omega))) rfl (R2 (xd1 (r:=((n+(dig 65536 a).getD i 0:Nat):Int)) (by rw [wr64 (by omega) (by omega)];omega)) rfl rfl ?_)
      refine A2 ?_
      exact kF (n+(dig 65536 a).getD i 0) (by rw [xa]) (hh:=((SubK.consI rfl ImpK.refl) SubK.nil))
     ·
      refine A1 ?_
      exact kF (n) (by rw [dig_out x8 (by omega),Nat.add_zero]) (hh:=((SubK.consI rfl ImpK.refl) SubK.nil))
    ·
     intro m1 hm1
     refine xf7 (fun (m2:Nat)=>m2=(m1+b / 65536 ^ i%65536)) (fun (m2:Nat)=>upd (upd (upd (upd (upd (fun _=>none) 0 (some (.val (tM a)))) 1 (some (.val (tM b)))) 5 (some (.own (.sl 5 1 0 cs.length)))) 7 (some (.val (tI i)))) 6 (some (.val (tI m2)))) (fun (m2:Nat)=>upd (fun _=>none) 5 (some (⟨64,1,false,rW .u16 cs⟩))) (nm [5]) ?_ ?_
     ·
      refine A8 ?_
      refine x9 rfl (fun h39=> ?_) (fun h39=> ?_)
      ·
       refine A4 ?_
       refine R2 (x5 sl37 (i) (by omega) (gN (by omega))) rfl rfl ?_
       refine A1 ?_
       refine R1 (x6 Tryz.underlying3 (isS Tryz.underlying64) (wr64 (by omega) (by omega))) rfl (R2 (xd1 (r:=((m1+(dig 65536 b).getD i 0:Nat):Int)) (by rw [wr64 (by omega) (by omega)];omega)) rfl rfl ?_)
       refine A2 ?_
       exact kF (m1+(dig 65536 b).getD i 0) (by rw [xb]) (hh:=((SubK.consI rfl ImpK.refl) SubK.nil))
      ·
       refine A1 ?_
       exact kF (m1) (by rw [dig_out x8 (by omega),Nat.add_zero]) (hh:=((SubK.consI rfl ImpK.refl) SubK.nil))
     ·
      intro m2 hm2
      refine A4 ?_
      refine R2 (d_rem (r:=((m2%65536:Nat):Int)) (by decide) (wrem64 (b:=65536))) rfl rfl (R1 (x6 Tryz.underlying64 (isS Tryz.underlying3) (wu16 (by omega) (by omega))) rfl (R1 (d_nums (n:=1) [m2%65536] Tryz.underlying37 el64 zf64 rfl rfl rfl) rfl (RE (xb7 (k:=5) (k':=51) (ts':=rW .u16 (cs++[m2%65536])) Tryz.underlying37 el64 zf64 rfl rfl (fun _=>inferInstance) rW_len (by simp;omega) (by simp;omega) (by simp [rW]) (n':=cs.length+1) rfl) ⟨rfl,rfl,trivial⟩ ⟨rfl,trivial⟩ ⟨rfl,trivial⟩ ?_)))
      refine A5 ?_
      refine R2 (d_quo (r:=((m2 / 65536:Nat):Int)) (by decide) (iquo64 (b:=65536) (by omega))) rfl rfl ?_
      refine A9 ?_
      obtain ⟨n1,n2⟩:=rplus_in (s:=m2) hn (by rw [hm2,hm1])
      exact xe4 (l:=[5]) (fun j=>cond (Nat.beq j 5) 51 (j)) ((i+1,m2 / 65536,cs++[m2%65536])) ⟨(by dsimp only;exact ⟨hmore,n2,by rw [hcs];exact n1⟩),(by dsimp only;omega)⟩ (SubR.int rfl (by first | omega | rfl | (dsimp only;omega)) (SubR.int rfl (by first | omega | rfl | (dsimp only;omega)) ((SubR.consI rfl (Imp.of (by dsimp only;rw [List.length_append];rfl))) (SubR.cons rfl (SubR.cons rfl SubR.nil))))) ((SubKR.consI rfl (ImpK.of xg5.symm)) SubKR.nil) (SupG.val (SupG.val (SupG.own rfl (SupG.val (SupG.val SupG.nil))))) (SupH.cons rfl (supJ xd8) SupH.nil) (lkOk rfl) rfl rfl (fun _ h=>by cases h)
   ·
    refine A7 ?_
    refine RE (xf2 (f:=fun n:Nat=>tE (.int .u16 n)) (xs:=cs) (fun _ h=>h) (rW_all rfl) rfl) ⟨rfl,trivial⟩ ⟨rfl,trivial⟩ trivial ?_
    refine A4 ?_
    exact x4 Plain.mk' rfl rfl (Le.of (congrArg tLm (by rw [hcs,rplus_end hn (by omega) (by omega) (by omega) hi])))
end An.S

/- The reference of layer 1: differences, halves, quotients. -/
namespace An.S
open Go Go.Proofs An
set_option maxHeartbeats 2000000
instance fi155:FnI Tryz.prog 155:=⟨_,Tryz.func155,by kernel_rfl,rfl⟩
theorem c_RMinus (a b:Nat) (hab:b≤a) (ha:(dig 65536 a).length≤100000):
  Ct Tryz.prog 225 [tM a,tM b] (tM (a - b)):=by
 refine Ct.intro Tryz.func225 rfl Tryz.ntmps225 rfl ?_
 intro w F
 refine A7 ?_
 refine RE (xf9 (k:=5) 64 1 false rfl (fun _=>rfl)) trivial trivial ⟨rfl,trivial⟩ ?_
 refine A9 ?_
 refine A5 ?_
 refine cL (fun (fm:(Nat)×(Nat)×(List Nat))=>(fun (i:Nat) (br:Nat) (cs:List Nat)=>i≤(dig 65536 a).length∧cs.length=i∧Dig 65536 cs∧val 65536 cs+b%65536 ^ i=a%65536 ^ i+br*65536 ^ i∧br≤1) fm.1 fm.2.1 fm.2.2) (fun (fm:(Nat)×(Nat)×(List Nat))=>(fun (i:Nat) (br:Nat) (cs:List Nat)=>upd (upd (upd (upd (upd (fun _=>none) 0 (some (.val (tM a)))) 1 (some (.val (tM b)))) 5 (some (.own (.sl 5 1 0 cs.length)))) 6 (some (.val (tI br)))) 7 (some (.val (tI i)))) fm.1 fm.2.1 fm.2.2) (fun (fm:(Nat)×(Nat)×(List Nat))=>(fun (i:Nat) (br:Nat) (cs:List Nat)=>upd (fun _=>none) 5 (some (⟨64,1,false,rW .u16 cs⟩))) fm.1 fm.2.1 fm.2.2) [5] (fun (fm:(Nat)×(Nat)×(List Nat))=>(fun (i:Nat) (br:Nat) (cs:List Nat)=>(dig 65536 a).length - i) fm.1 fm.2.1 fm.2.2) ((0,0,[])) (by dsimp only;exact ⟨Nat.zero_le _,rfl,Dig.nil _,by simp [val,Nat.mod_one],by omega⟩) (hh:=((SubK.consI rfl ImpK.refl) SubK.nil)) ?_
 intro fm hI
 obtain ⟨i,br,cs⟩:=fm
 replace hI:i≤(dig 65536 a).length∧cs.length=i∧Dig 65536 cs∧val 65536 cs+b%65536 ^ i=a%65536 ^ i+br*65536 ^ i∧br≤1:=hI
 show wc _ _ _ _ (upd (upd (upd (upd (upd (fun _=>none) 0 (some (.val (tM a)))) 1 (some (.val (tM b)))) 5 (some (.own (.sl 5 1 0 cs.length)))) 6 (some (.val (tI br)))) 7 (some (.val (tI i)))) (upd (fun _=>none) 5 (some (⟨64,1,false,rW .u16 cs⟩))) _
 obtain ⟨hi,hl,hD,hv,hbr⟩:=hI
 have xa:=xc2 x8 a i
 have xb:=xc2 x8 b i
 have xa1:=(xc5 x8 a).getD (by decide) i
 have xb1:=(xc5 x8 b).getD (by decide) i
 refine A9 ?_
 refine x9 rfl (fun h52=> ?_) (fun h52=> ?_)
 ·
  refine A8 ?_
  refine R2 (x5 sl37 (i) (by omega) (gN (by omega))) rfl rfl ?_
  refine A1 ?_
  refine R1 (x6 Tryz.underlying3 (isS Tryz.underlying64) (wr64 (by omega) (by omega))) rfl (R2 (xd1 (r:=((65536+((dig 65536 a).getD i 0):Nat):Int)) (by rw [wr64 (by omega) (by omega)];omega)) rfl rfl ?_)
  refine A1 ?_
  refine R2 (xe1 (r:=((65536+((dig 65536 a).getD i 0) - br:Nat):Int)) (by rw [wr64 (by omega) (by omega)];omega)) rfl rfl ?_
  refine A3 ?_
  refine xf7 (fun (m:Nat)=>m+br+b / 65536 ^ i%65536=65536+a / 65536 ^ i%65536) (fun (m:Nat)=>upd (upd (upd (upd (upd (upd (fun _=>none) 0 (some (.val (tM a)))) 1 (some (.val (tM b)))) 5 (some (.own (.sl 5 1 0 cs.length)))) 6 (some (.val (tI br)))) 7 (some (.val (tI i)))) 8 (some (.val (tI m)))) (fun (m:Nat)=>upd (fun _=>none) 5 (some (⟨64,1,false,rW .u16 cs⟩))) (nm [5]) ?_ ?_
  ·
   refine A8 ?_
   refine x9 rfl (fun h54=> ?_) (fun h54=> ?_)
   ·
    refine A4 ?_
    refine R2 (x5 sl37 (i) (by omega) (gN (by omega))) rfl rfl ?_
    refine A1 ?_
    refine R1 (x6 Tryz.underlying3 (isS Tryz.underlying64) (wr64 (by omega) (by omega))) rfl (R2 (xe1 (r:=((65536+((dig 65536 a).getD i 0) - br - ((dig 65536 b).getD i 0):Nat):Int)) (by rw [wr64 (by omega) (by omega)];omega)) rfl rfl ?_)
    refine A2 ?_
    exact kF (65536+((dig 65536 a).getD i 0) - br - ((dig 65536 b).getD i 0)) (by omega) (hh:=((SubK.consI rfl ImpK.refl) SubK.nil))
   ·
    refine A1 ?_
    exact kF (65536+((dig 65536 a).getD i 0) - br) (by rw [dig_out x8 (v:=b) (i:=i) (by omega)];omega) (hh:=((SubK.consI rfl ImpK.refl) SubK.nil))
  ·
   intro m hm
   refine A4 ?_
   refine R2 (d_rem (r:=((m%65536:Nat):Int)) (by decide) (wrem64 (b:=65536))) rfl rfl (R1 (x6 Tryz.underlying64 (isS Tryz.underlying3) (wu16 (by omega) (by omega))) rfl (R1 (d_nums (n:=1) [m%65536] Tryz.underlying37 el64 zf64 rfl rfl rfl) rfl (RE (xb7 (k:=5) (k':=39) (ts':=rW .u16 (cs++[m%65536])) Tryz.underlying37 el64 zf64 rfl rfl (fun _=>inferInstance) rW_len (by simp;omega) (by simp;omega) (by simp [rW]) (n':=cs.length+1) rfl) ⟨rfl,rfl,trivial⟩ ⟨rfl,trivial⟩ ⟨rfl,trivial⟩ ?_)))
   refine A5 ?_
   refine R2 (d_quo (r:=((m / 65536:Nat):Int)) (by decide) (iquo64 (b:=65536) (by omega))) rfl rfl (R2 (xe1 (r:=((1 - m / 65536:Nat):Int)) (by rw [wr64 (by omega) (by omega)];omega)) rfl rfl ?_)
   refine A9 ?_
   obtain ⟨n1,n2,n3⟩:=rminus_in hl hv hbr hm
   exact xe4 (l:=[5]) (fun j=>cond (Nat.beq j 5) 39 (j)) ((i+1,1 - m / 65536,cs++[m%65536])) ⟨(by dsimp only;exact ⟨by omega,by rw [List.length_append,hl];rfl,hD.append (Dig.cons (Nat.mod_lt _ (by decide)) (Dig.nil _)),n1,n3⟩),(by dsimp only;omega)⟩ (SubR.int rfl (by first | omega | rfl | (dsimp only;omega)) (SubR.int rfl (by first | omega | rfl | (dsimp only;omega)) ((SubR.consI rfl (Imp.of (by dsimp only;rw [List.length_append];rfl))) (SubR.cons rfl (SubR.cons rfl SubR.nil))))) ((SubKR.consI rfl (ImpK.of xg5.symm)) SubKR.nil) (SupG.val (SupG.val (SupG.own rfl (SupG.val (SupG.val SupG.nil))))) (SupH.cons rfl (supJ xd8) SupH.nil) (lkOk rfl) rfl rfl (fun _ h=>by cases h)
 ·
  refine A7 ?_
  refine RE (xf2 (f:=fun n:Nat=>tE (.int .u16 n)) (xs:=cs) (fun _ h=>h) (rW_all rfl) rfl) ⟨rfl,trivial⟩ ⟨rfl,trivial⟩ trivial (R1 (x3 (c_RTrim _) fi284 rfl) rfl ?_)
  refine A4 ?_
  exact x4 Plain.mk' rfl rfl (Le.of (congrArg tLm (by rw [show i=(dig 65536 a).length by omega] at hv hl;exact rminus_end hl hD (lt_len x8 a) hab hv)))
theorem c_RHalf (a:Nat) (ha:(dig 65536 a).length≤200000):
  Ct Tryz.prog 256 [tM a] (tM (a / 2)):=by
 refine Ct.intro Tryz.func256 rfl Tryz.ntmps256 rfl ?_
 intro w F
 refine A9 ?_
 refine RE (xg3 (k:=8) (t:=tE (.int .u16 0)) (ts:=rW .u16 (List.replicate ((dig 65536 a).length) 0)) ((dig 65536 a).length) ((dig 65536 a).length) Tryz.underlying37 el64 (fun _ _=>rfl) rfl (by omega) (by omega) (Nat.le_refl _) (by omega) (by omega) (rW_rep _)) ⟨rfl,rfl,trivial⟩ trivial ⟨rfl,trivial⟩ ?_
 refine A9 ?_
 refine A9 ?_
 refine cL (fun (fm:(Nat)×(Nat)×(List Nat))=>(fun (k:Nat) (n:Nat) (qs:List Nat)=>k≤(dig 65536 a).length∧qs.length=(dig 65536 a).length∧Dig 65536 qs∧n%2=a / 65536 ^ k%2∧val 65536 (qs.drop k)=a / 65536 ^ k / 2) fm.1 fm.2.1 fm.2.2) (fun (fm:(Nat)×(Nat)×(List Nat))=>(fun (k:Nat) (n:Nat) (qs:List Nat)=>upd (upd (upd (upd (fun _=>none) 0 (some (.val (tM a)))) 3 (some (.own (.sl 8 1 0 (dig 65536 a).length)))) 4 (some (.val (tI n)))) 5 (some (.val (tI ((k:Int) - 1))))) fm.1 fm.2.1 fm.2.2) (fun (fm:(Nat)×(Nat)×(List Nat))=>(fun (k:Nat) (n:Nat) (qs:List Nat)=>upd (fun _=>none) 8 (some (⟨64,1,false,rW .u16 qs⟩))) fm.1 fm.2.1 fm.2.2) [8] (fun (fm:(Nat)×(Nat)×(List Nat))=>(fun (k:Nat) (n:Nat) (qs:List Nat)=>k) fm.1 fm.2.1 fm.2.2) (((dig 65536 a).length,0,List.replicate (dig 65536 a).length 0)) (by dsimp only;exact ⟨Nat.le_refl _,by simp,Dig.rep (by decide) _,by rw [Nat.div_eq_of_lt (lt_len x8 a)],by rw [Nat.div_eq_of_lt (lt_len x8 a),Nat.zero_div,List.drop_replicate,xg4]⟩) (hh:=((SubK.consI rfl ImpK.refl) SubK.nil)) ?_
 intro fm hI
 obtain ⟨k,n,qs⟩:=fm
 replace hI:k≤(dig 65536 a).length∧qs.length=(dig 65536 a).length∧Dig 65536 qs∧n%2=a / 65536 ^ k%2∧val 65536 (qs.drop k)=a / 65536 ^ k / 2:=hI
 show wc _ _ _ _ (upd (upd (upd (upd (fun _=>none) 0 (some (.val (tM a)))) 3 (some (.own (.sl 8 1 0 (dig 65536 a).length)))) 4 (some (.val (tI n)))) 5 (some (.val (tI ((k:Int) - 1))))) (upd (fun _=>none) 8 (some (⟨64,1,false,rW .u16 qs⟩))) _
 obtain ⟨hk,hl,hD,hn,hv⟩:=hI
 refine A7 ?_
 refine x9 rfl (fun h82=> ?_) (fun h82=> ?_)
 ·
  obtain ⟨j,rfl⟩: ∃j,k=j+1:=⟨k - 1,by omega⟩
  have hx:=xc2 x8 a j
  have hx1:=(xc5 x8 a).getD (by decide) j
  obtain ⟨n1,n2,n3,n4,n5⟩:=half_in (k:=j) (by omega) hl hD hn hv rfl
  rw [←hx] at n1 n2 n3 n4 n5
  refine A7 ?_
  refine R2 (d_rem (r:=((n%2:Nat):Int)) (by decide) (wrem64 (b:=2))) rfl rfl (R2 (d_mul (r:=((n%2*65536:Nat):Int)) (by rw [wr64 (by omega) (by omega)];omega)) rfl rfl ?_)
  refine A2 ?_
  refine R2 (x5 sl37 (j) (by omega) (gN (by omega))) rfl rfl ?_
  refine A1 ?_
  refine R1 (x6 Tryz.underlying3 (isS Tryz.underlying64) (wr64 (by omega) (by omega))) rfl (R2 (xd1 (r:=(((n%2*65536+(dig 65536 a).getD j 0):Nat):Int)) (by rw [wr64 (by omega) (by omega)];omega)) rfl rfl ?_)
  refine A7 ?_
  refine R2 (d_quo (r:=(((n%2*65536+(dig 65536 a).getD j 0) / 2:Nat):Int)) (by decide) (iquo64 (b:=2) (by omega))) rfl rfl (R1 (x6 Tryz.underlying64 (isS Tryz.underlying3) (wu16 (by omega) (by omega))) rfl (R2 (xa5 sl37 (by omega) (by omega) rfl) rfl rfl (RE (xc1 (j) ti64 (rW_lt (by omega)) (by omega) (rW_set (m:=_) rfl)) ⟨rfl,rfl,trivial⟩ ⟨rfl,trivial⟩ trivial ?_)))
  refine A8 ?_
  exact kF ((j,(n%2*65536+(dig 65536 a).getD j 0),qs.set j ((n%2*65536+(dig 65536 a).getD j 0) / 2))) ⟨(by dsimp only;exact ⟨by omega,n1,n2,n3,n4⟩),(by dsimp only;omega)⟩ (hh:=((SubK.consI rfl ImpK.refl) SubK.nil))
 ·
  have hk0:k=0:=by omega
  subst hk0
  rw [List.drop_zero,Nat.pow_zero,Nat.div_one] at hv
  refine A7 ?_
  refine RE (xf2 (f:=fun n:Nat=>tE (.int .u16 n)) (xs:=qs) (fun _ h=>h) (rW_all hl) hl) ⟨rfl,trivial⟩ ⟨rfl,trivial⟩ trivial (R1 (x3 (c_RTrim _) fi284 rfl) rfl ?_)
  refine A4 ?_
  exact x4 Plain.mk' rfl rfl (Le.of (congrArg tLm (by rw [xe7 x8 hD,hv])))
end An.S

/- The references: quotients, divisors, quick fractions. -/
namespace An.S
open Go Go.Proofs An
set_option maxHeartbeats 2000000
instance fi156:FnI Tryz.prog 156:=⟨_,Tryz.func156,by kernel_rfl,rfl⟩
instance fi224:FnI Tryz.prog 224:=⟨_,Tryz.func224,by kernel_rfl,rfl⟩
instance fi225:FnI Tryz.prog 225:=⟨_,Tryz.func225,by kernel_rfl,rfl⟩
instance fi254:FnI Tryz.prog 254:=⟨_,Tryz.func254,by kernel_rfl,rfl⟩
instance fi255:FnI Tryz.prog 255:=⟨_,Tryz.func255,by kernel_rfl,rfl⟩
instance fi256:FnI Tryz.prog 256:=⟨_,Tryz.func256,by kernel_rfl,rfl⟩
theorem c_RPlusOne (q:Nat) (h:(dig 65536 q).length≤100000):Ct Tryz.prog 224 [tM q,tLm [1]] (tM (q+1)):=by
  have e:dig 65536 1=[1]:=by rw [dig_pos x8 (by decide),show (1:Nat) / 65536=0 by decide,xc9]
  have:=c_RPlus q 1 h (by rw [e];decide)
  rw [tM,tM,e] at this;exact this
theorem lenM {a b k:Nat} (h:a≤b) (hb:(dig 65536 b).length≤k):(dig 65536 a).length≤k:=Nat.le_trans (xd7 x8 h) hb
theorem one_dec {l:List Nat} (h:l.length=1):decide (((l.getD 0 0:Nat):Int)=1)=decide (l=[1]):=by
  obtain ⟨a,rfl⟩:=List.length_eq_one_iff.1 h
  simp
  omega
theorem c_RDivided (a b:Nat) (hb:0 < b) (ha:(dig 65536 a).length≤4000) (hbl:(dig 65536 b).length≤4000):
    Ct Tryz.prog 156 [tM a,tM b] (tT [tM (a / b),tM (a%b)]):=by
  refine Ct.intro Tryz.func156 rfl Tryz.ntmps156 rfl ?_
  intro w F
  refine A9 ?_
  refine A5 ?_
  refine x9 rfl (fun h103=> ?_) (fun h103=> ?_)
  ·
    have hb0:=one_limb (b:=b) (by omega)
    have hbW:=(xc5 x8 b).getD (by decide) 0
    refine A4 ?_
    refine R2 (x5 sl37 (0) (by omega) (gN (by omega))) rfl rfl ?_
    refine A1 ?_
    refine R1 (x6 Tryz.underlying3 (isS Tryz.underlying64) (wr64 (by omega) (by omega))) rfl (R2 (x3 (c_RShort a _ (by omega) (by omega) (by omega)) fi254 rfl) rfl rfl ?_)
    refine A8 ?_
    exact xc4 Plain.mk' rfl rfl rfl (Le.of (by rw [hb0])) (Le.of (by rw [hb0]))
  ·
    refine A9 ?_
    refine A6 ?_
    refine cL (fun (n:Nat)=>n=0∨b*2 ^ n≤a+a) (fun (n:Nat)=>upd (upd (upd (upd (fun _=>none) 0 (some (.val (tM a)))) 1 (some (.val (tM b)))) 6 (some (.val (tI n)))) 7 (some (.val (tM (b*2 ^ n))))) (fun (n:Nat)=>fun _=>none) [] (fun (n:Nat)=>a+1 - b*2 ^ n) (0) (.inl rfl) (hg:=(Sub.le rfl (Le.of (by first | rw [Nat.pow_zero,Nat.mul_one] | (dsimp only;rw [Nat.pow_zero,Nat.mul_one]))) (sI (sC (sC Sub.nil))))) ?_
    intro n hI
    have hn:n < 16*4001:=by
      rcases hI with h | h
      · omega
      · refine bits_le (a:=a+a) ?_ (by have:=len_dbl ha ha;omega)
        exact Nat.le_trans (Nat.le_mul_of_pos_left _ hb) h
    refine A5 ?_
    refine R2 (x3 (c_RLess a (b*2 ^ n)) fi255 rfl) rfl rfl ?_
    refine A3 ?_
    refine xd3 rfl (fun h107=> ?_) (fun h107=> ?_)
    ·
      have hle:b*2 ^ n≤a:=by
        have h:=h107
        simp at h;exact h
      have hnl:=lenM hle ha
      refine A7 ?_
      refine R2 (x3 (c_RPlus (b*2 ^ n) (b*2 ^ n) (by omega) (by omega)) fi224 rfl) rfl rfl ?_
      refine A9 ?_
      have he:b*2 ^ n+b*2 ^ n=b*2 ^ (n+1):=by rw [Nat.pow_succ,←Nat.mul_assoc,Nat.mul_two]
      have hp:0 < b*2 ^ n:=Nat.mul_pos hb (Nat.pow_pos (by decide))
      exact kF (n+1) ⟨(.inr (by omega)),(by show a+1 - b*2 ^ (n+1) < a+1 - b*2 ^ n;omega)⟩ (hg:=(Sub.le rfl (Le.of (by rw [he])) (sI (sC (sC Sub.nil)))))
    ·
      have hlt:a < b*2 ^ n:=by
        have h:=h107
        simp at h;exact h
      have hnl:(dig 65536 (b*2 ^ n)).length≤4001:=by
        rcases hI with h | h
        · rw [h,Nat.pow_zero,Nat.mul_one];omega
        · exact lenM h (len_dbl ha ha)
      refine A9 ?_
      refine A9 ?_
      refine cL (fun (i:Nat)=>i≤n) (fun (i:Nat)=>upd (upd (upd (upd (upd (fun _=>none) 0 (some (.val (tM a)))) 1 (some (.val (tM b)))) 6 (some (.val (tI n)))) 8 (some (.val (tM (b*2 ^ i))))) 9 (some (.val (tI i)))) (fun (i:Nat)=>fun _=>none) [] (fun (i:Nat)=>n - i) (0) (Nat.zero_le _) (hg:=(sI (Sub.le rfl (Le.of (by first | rw [Nat.pow_zero,Nat.mul_one] | (dsimp only;rw [Nat.pow_zero,Nat.mul_one]))) (sI (sC (sC Sub.nil)))))) ?_
      intro i hJ
      refine A8 ?_
      refine x9 rfl (fun h111=> ?_) (fun h111=> ?_)
      ·
        have hil:(dig 65536 (b*2 ^ i)).length≤4001:=lenM (Nat.mul_le_mul_left _ (Nat.pow_le_pow_right (by decide) (by omega))) hnl
        refine A7 ?_
        refine R2 (x3 (c_RPlus (b*2 ^ i) (b*2 ^ i) (by omega) (by omega)) fi224 rfl) rfl rfl ?_
        refine A9 ?_
        have he:b*2 ^ i+b*2 ^ i=b*2 ^ (i+1):=by rw [Nat.pow_succ,←Nat.mul_assoc,Nat.mul_two]
        exact kF (i+1) ⟨(by omega),(by omega)⟩ (hg:=(sI (Sub.le rfl (Le.of (by rw [he])) (sI (sC (sC Sub.nil))))))
      ·
        refine A9 ?_
        refine A3 ?_
        refine RE (d_sliceOfO (k:=43) (ents:=[]) Tryz.underlying37 el64 zf64 rfl (by simp) rfl rfl rfl) trivial trivial ⟨rfl,trivial⟩ ?_
        refine A1 ?_
        refine RE (xb7 (k:=43) (k':=45) (ts':=rW .u16 (dig 65536 a)) Tryz.underlying37 el64 zf64 rfl rfl (fun _=>inferInstance) rfl (by simp;omega) (by simp;omega) (by simp [rW]) (n':=(dig 65536 a).length) (by simp)) ⟨rfl,rfl,trivial⟩ ⟨rfl,trivial⟩ ⟨rfl,trivial⟩ (RE (d_assignS (f:=fun n:Nat=>tE (.int .u16 n)) (xs:=dig 65536 a) (fun _ h=>h) (rW_all rfl) rfl) ⟨rfl,trivial⟩ ⟨rfl,trivial⟩ trivial ?_)
        refine A9 ?_
        refine cL (fun (fm:(Nat)×(Nat)×(Nat)×(Nat))=>(fun (j:Nat) (q:Nat) (r:Nat) (d:Nat)=>j≤n∧d=b*2 ^ (n - j)∧a=q*d+r∧r < d) fm.1 fm.2.1 fm.2.2.1 fm.2.2.2) (fun (fm:(Nat)×(Nat)×(Nat)×(Nat))=>(fun (j:Nat) (q:Nat) (r:Nat) (d:Nat)=>upd (upd (upd (upd (upd (fun _=>none) 6 (some (.val (tI n)))) 8 (some (.val (tM d)))) 10 (some (.val (tM q)))) 11 (some (.val (tM r)))) 12 (some (.val (tI j)))) fm.1 fm.2.1 fm.2.2.1 fm.2.2.2) (fun (fm:(Nat)×(Nat)×(Nat)×(Nat))=>(fun (j:Nat) (q:Nat) (r:Nat) (d:Nat)=>fun _=>none) fm.1 fm.2.1 fm.2.2.1 fm.2.2.2) [] (fun (fm:(Nat)×(Nat)×(Nat)×(Nat))=>(fun (j:Nat) (q:Nat) (r:Nat) (d:Nat)=>n - j) fm.1 fm.2.1 fm.2.2.1 fm.2.2.2) ((0,0,a,b*2 ^ n)) (by dsimp only;exact ⟨Nat.zero_le _,rfl,by omega,by omega⟩) (hg:=(sI (sC (Sub.le rfl (leNil (xc9 _)) (Sub.le rfl (Le.of (by first | rw [show i=n by omega] | (dsimp only;rw [show i=n by omega]))) (sI Sub.nil)))))) ?_
        intro fm hK
        obtain ⟨j,q,r,d⟩:=fm
        replace hK:j≤n∧d=b*2 ^ (n - j)∧a=q*d+r∧r < d:=hK
        show wc _ _ _ _ (upd (upd (upd (upd (upd (fun _=>none) 6 (some (.val (tI n)))) 8 (some (.val (tM d)))) 10 (some (.val (tM q)))) 11 (some (.val (tM r)))) 12 (some (.val (tI j)))) (fun _=>none) _
        obtain ⟨hj,hd,hq,hr⟩:=hK
        have hqa:q≤a:=by
          have h1:q*1≤q*d:=Nat.mul_le_mul_left _ (by omega)
          omega
        have hql:=lenM hqa ha
        have hdn:b*2 ^ (n - j)≤b*2 ^ n:=Nat.mul_le_mul_left _ (Nat.pow_le_pow_right (by decide) (by omega))
        have hdl:(dig 65536 d).length≤4001:=by rw [←hd] at hdn;exact lenM hdn hnl
        have hqq:=len_dbl hql hql
        refine A8 ?_
        refine x9 rfl (fun h116=> ?_) (fun h116=> ?_)
        ·
          refine A7 ?_
          refine R1 (x3 (c_RHalf d (by omega)) fi256 rfl) rfl ?_
          refine A7 ?_
          refine R2 (x3 (c_RPlus q q (by omega) (by omega)) fi224 rfl) rfl rfl ?_
          refine A7 ?_
          refine R2 (x3 (c_RLess r (d / 2)) fi255 rfl) rfl rfl ?_
          refine A3 ?_
          refine xd3 rfl (fun h119=> ?_) (fun h119=> ?_)
          ·
            have hge:d / 2≤r:=by
              have h:=h119
              simp at h;exact h
            refine A4 ?_
            refine R2 (x3 (c_RMinus r (d / 2) (by omega) (by have:=lenM (Nat.le_of_lt hr) hdl;omega)) fi225 rfl) rfl rfl ?_
            refine A5 ?_
            refine R1 (d_nums (n:=1) [1] Tryz.underlying37 el64 zf64 rfl rfl rfl) rfl (R2 (x3 (c_RPlusOne (q+q) (by omega)) fi224 rfl) rfl rfl ?_)
            refine A9 ?_
            obtain ⟨b1,b2,b3⟩:=div_bit (by omega) hd hq hr
            obtain ⟨b4,b5,b6⟩:=b3 (by omega)
            exact kF ((j+1,q+q+1,r - d / 2,d / 2)) ⟨(by dsimp only;exact ⟨by omega,b1,b4,b5⟩),(by dsimp only;omega)⟩
          ·
            have hge:r < d / 2:=by
              have h:=h119
              simp at h;exact h
            refine A8 ?_
            obtain ⟨b1,b2,b3⟩:=div_bit (by omega) hd hq hr
            exact kF ((j+1,q+q,r,d / 2)) ⟨(by dsimp only;exact ⟨by omega,b1,b2 (by omega),by omega⟩),(by dsimp only;omega)⟩
        ·
          have hdb:d=b:=by rw [hd,show n - j=0 by omega,Nat.pow_zero,Nat.mul_one]
          rw [hdb] at hq hr
          obtain ⟨e1,e2⟩:=div_done hq hr
          refine A9 ?_
          refine A5 ?_
          exact xc4 Plain.mk' rfl rfl rfl (Le.of (by rw [e1])) (Le.of (by rw [e2]))
theorem c_RCommon (a b:Nat) (ha:(dig 65536 a).length≤4000) (hb:(dig 65536 b).length≤4000):
  Ct Tryz.prog 138 [tM a,tM b] (tM (Nat.gcd a b)):=by
 refine Ct.intro Tryz.func138 rfl Tryz.ntmps138 rfl ?_
 intro w F
 refine A7 ?_
 refine cL (fun (fm:(Nat)×(Nat))=>(fun (x:Nat) (y:Nat)=>Nat.gcd x y=Nat.gcd a b∧(dig 65536 x).length≤4000∧(dig 65536 y).length≤4000) fm.1 fm.2) (fun (fm:(Nat)×(Nat))=>(fun (x:Nat) (y:Nat)=>upd (upd (fun _=>none) 0 (some (.val (tM x)))) 1 (some (.val (tM y)))) fm.1 fm.2) (fun (fm:(Nat)×(Nat))=>(fun (x:Nat) (y:Nat)=>fun _=>none) fm.1 fm.2) [] (fun (fm:(Nat)×(Nat))=>(fun (x:Nat) (y:Nat)=>y) fm.1 fm.2) ((a,b)) (by dsimp only;exact ⟨rfl,ha,hb⟩) ?_
 intro fm hI
 obtain ⟨x,y⟩:=fm
 replace hI:Nat.gcd x y=Nat.gcd a b∧(dig 65536 x).length≤4000∧(dig 65536 y).length≤4000:=hI
 show wc _ _ _ _ (upd (upd (fun _=>none) 0 (some (.val (tM x)))) 1 (some (.val (tM y)))) (fun _=>none) _
 obtain ⟨hg,hx,hy⟩:=hI
 refine A8 ?_
 refine x9 rfl (fun h261=> ?_) (fun h261=> ?_)
 ·
  have hy0:0 < y:=by have:=len_ne.1 h261;omega
  refine A7 ?_
  refine R2 (x3 (c_RDivided x y hy0 hx hy) fi156 rfl) rfl rfl ?_
  refine A9 ?_
  refine A9 ?_
  have hlt:x%y < y:=Nat.mod_lt _ hy0
  exact kF ((y,x%y)) ⟨(by dsimp only;exact ⟨by rw [Nat.gcd_comm,←Nat.gcd_rec,Nat.gcd_comm];exact hg,hy,lenM (Nat.le_of_lt hlt) hy⟩),(by dsimp only;omega)⟩
 ·
  have hy0:y=0:=Classical.byContradiction fun h=>h261 (len_ne.2 h)
  refine A9 ?_
  refine A3 ?_
  exact x4 Plain.mk' rfl rfl (Le.of (by rw [←hg,hy0,Nat.gcd_zero_right]))
theorem c_Rone (l:List Nat):
  Ct Tryz.prog 137 [tLm l] (tB (decide (l=[1]))):=by
 refine Ct.intro Tryz.func137 rfl Tryz.ntmps137 rfl ?_
 intro w F
 refine A9 ?_
 refine A2 ?_
 refine RGcaseD (t:=6) rfl (fun h24=> ?_) (fun h24=> ?_)
 ·
  refine A1 ?_
  refine RGon (decide_eq_true h24) rfl (x5 sl37 (0) (by omega) (gN (by omega))) rfl ⟨rfl,rfl,trivial⟩ trivial trivial ?_
  refine A7 ?_
  exact x4 Plain.mk' rfl rfl (Le.bool (one_dec (by omega)))
 ·
  refine A9 ?_
  exact x4 Plain.mk' rfl rfl (Le.bool (decide_eq_false (fun h=>h24 (by rw [h];rfl))).symm)
end An.S

/- The reference of layer 2; small functions of the laws. -/
namespace An.S
open Go Go.Proofs An
set_option maxHeartbeats 2000000
instance fi70:FnI Tryz.prog 70:=⟨_,Tryz.func70,by kernel_rfl,rfl⟩
instance fi71:FnI Tryz.prog 71:=⟨_,Tryz.func71,by kernel_rfl,rfl⟩
instance fi129:FnI Tryz.prog 129:=⟨_,Tryz.func129,by kernel_rfl,rfl⟩
instance fi137:FnI Tryz.prog 137:=⟨_,Tryz.func137,by kernel_rfl,rfl⟩
instance fi138:FnI Tryz.prog 138:=⟨_,Tryz.func138,by kernel_rfl,rfl⟩
/-- A list that is too large. -/
def largeL (l:List Deal) (m k:Int):Bool:=(List.range l.length).any fun i=>decide (m≤(i:Int)) || decide (k < ((l.getD i deal0).share.n.l.length:Int)) || decide (k < ((l.getD i deal0).share.d.l.length:Int))
theorem any_next {i:Nat} {f:Nat→Bool}:(List.range (i+1)).any f=((List.range i).any f || f i):=by
  rw [List.range_succ,List.any_append];simp
end An.S

/- Multiplying limb by limb: plain numbers. -/
namespace An
open Go
end An

/- The references of layers 1 and 2: products, sums, quotients, numbers of 64 bits, fractions. -/
namespace An.S
open Go Go.Proofs An
set_option maxHeartbeats 2000000
set_option maxRecDepth 100000
instance fi52:FnI Tryz.prog 52:=⟨_,Tryz.func52,by kernel_rfl,rfl⟩
instance fi135:FnI Tryz.prog 135:=⟨_,Tryz.func135,by kernel_rfl,rfl⟩
instance fi136:FnI Tryz.prog 136:=⟨_,Tryz.func136,by kernel_rfl,rfl⟩
instance fi139:FnI Tryz.prog 139:=⟨_,Tryz.func139,by kernel_rfl,rfl⟩
instance fi140:FnI Tryz.prog 140:=⟨_,Tryz.func140,by kernel_rfl,rfl⟩
instance fi143:FnI Tryz.prog 143:=⟨_,Tryz.func143,by kernel_rfl,rfl⟩
instance fi148:FnI Tryz.prog 148:=⟨_,Tryz.func148,by kernel_rfl,rfl⟩
instance fi217:FnI Tryz.prog 217:=⟨_,Tryz.func217,by kernel_rfl,rfl⟩
instance fi218:FnI Tryz.prog 218:=⟨_,Tryz.func218,by kernel_rfl,rfl⟩
instance fi219:FnI Tryz.prog 219:=⟨_,Tryz.func219,by kernel_rfl,rfl⟩
instance fi258:FnI Tryz.prog 258:=⟨_,Tryz.func258,by kernel_rfl,rfl⟩
theorem c_RValid (x:Wh):
  Ct Tryz.prog 135 [tWh x] (tB x.valid):=by
 refine Ct.intro Tryz.func135 rfl Tryz.ntmps135 rfl ?_
 intro w F
 refine A9 ?_
 refine A6 ?_
 refine x9 rfl (fun h142=> ?_) (fun h142=> ?_)
 ·
  refine A9 ?_
  refine A1 ?_
  exact x4 Plain.mk' rfl rfl (Le.bool (by simp only [Wh.valid];rw [if_pos (by omega)]))
 ·
  refine A3 ?_
  refine C_len (s:=4) rfl (fun hl4=> ?_)
  refine A6 ?_
  refine RGcaseD (t:=14) rfl (fun h145=> ?_) (fun h145=> ?_)
  ·
   refine A5 ?_
   refine RGon (decide_eq_true h145) rfl (xe1 (wr64 (by omega) (by omega))) rfl ⟨rfl,rfl,trivial⟩ trivial trivial (RGon (decide_eq_true h145) rfl (x5 sl37 (x.l.length - 1) (by omega) (gN (by omega))) rfl ⟨rfl,rfl,trivial⟩ trivial trivial ?_)
   refine A7 ?_
   exact x4 Plain.mk' rfl rfl (Le.bool (by simp only [Wh.valid];rw [if_neg (by omega),decide_eq_true (show x.l.length≤1024 by omega),Bool.true_and];exact decide_eq_decide.2 (by omega)))
  ·
   refine A9 ?_
   refine A5 ?_
   exact x4 Plain.mk' rfl rfl (Le.bool (by simp only [Wh.valid];rw [if_neg (by omega),decide_eq_false (show ¬x.l.length≤1024 by omega),Bool.false_and]))
theorem len_nil {x:Int}:(wh x).l.length=0↔x=0:=by
  show (dig 65536 x.natAbs).length=0↔_
  rw [List.length_eq_zero_iff,xh6 x8];omega
theorem c_RFits (f:Fr):
  Ct Tryz.prog 136 [tFr f] (tB f.sh):=by
 refine Ct.intro Tryz.func136 rfl Tryz.ntmps136 rfl ?_
 intro w F
 refine A9 ?_
 refine A1 ?_
 refine xg8 (0) ti37 rfl rfl rfl (At.t (At.g 0 rfl rfl) (At.g 1 rfl rfl)) rfl ?_
 refine A3 ?_
 refine RGcaseD (t:=8) rfl (fun h27=> ?_) (fun h27=> ?_)
 ·
  refine A2 ?_
  refine xc3 (decide_eq_true h27) rfl rfl (0) ti37 rfl rfl rfl (At.t (At.g 1 rfl rfl) (At.g 1 rfl rfl)) rfl ?_
  refine A7 ?_
  exact x4 Plain.mk' rfl rfl (Le.bool (by rw [Fr.sh,decide_eq_true (show f.n.l.length≤256 by omega),Bool.true_and];exact decide_eq_decide.2 (by omega)))
 ·
  refine A9 ?_
  refine A1 ?_
  exact x4 Plain.mk' rfl rfl (Le.bool (by rw [Fr.sh,decide_eq_false (show ¬f.n.l.length≤256 by omega)];rfl))
theorem one_dec2 {x y:Int}:decide (dig 65536 (Nat.gcd x.natAbs y.natAbs)=[1])=decide (Int.gcd x y=1):=by
  have h1:dig 65536 1=[1]:=by rw [dig_pos x8 (by decide),show (1:Nat) / 65536=0 by decide,xc9]
  refine decide_eq_decide.2 ⟨fun h=> ?_,fun h=> ?_⟩
  · rw [←h1] at h
    have h2:=congrArg (val 65536) h
    rw [val_dig x8,val_dig x8] at h2
    exact h2
  · have h:Nat.gcd x.natAbs y.natAbs=1:=h
    rw [h,h1]
theorem c_R2Valid (f:Fr) (hn:Dig 65536 f.n.l) (hd:Dig 65536 f.d.l):
  Ct Tryz.prog 52 [tFr f] (tB f.valid):=by
 obtain ⟨n,d⟩:=f
 replace hn:Dig 65536 n.l:=hn
 replace hd:Dig 65536 d.l:=hd
 refine Ct.intro Tryz.func52 rfl Tryz.ntmps52 rfl ?_
 intro w F
 refine A9 ?_
 refine A2 ?_
 refine R1 (x3 (c_RValid n) fi135 rfl) rfl ?_
 refine A2 ?_
 refine RGcase (t:=7) rfl (fun h39=> ?_) (fun h39=> ?_)
 ·
  have hv1:n.valid=false:=by simpa using h39
  refine A9 ?_
  refine A9 ?_
  refine A9 ?_
  refine A5 ?_
  exact x4 Plain.mk' rfl rfl (Le.bool (by simp only [Fr.valid,hv1,Bool.and_false,Bool.false_and]))
 ·
  have hv1:n.valid=true:=by simpa using h39
  refine A2 ?_
  refine RGon h39 rfl (x3 (c_RValid d) fi135 rfl) rfl ⟨rfl,trivial⟩ trivial trivial ?_
  refine A3 ?_
  refine RGcase (t:=13) rfl (fun h39_2=> ?_) (fun h39_2=> ?_)
  ·
   have hv2:d.valid=false:=by simpa using h39_2
   refine A9 ?_
   refine A9 ?_
   refine A8 ?_
   exact x4 Plain.mk' rfl rfl (Le.bool (by simp only [Fr.valid,hv2,Bool.and_false,Bool.false_and]))
  ·
   have hv2:d.valid=true:=by simpa using h39_2
   obtain ⟨x,rfl,hxl⟩:=Wh.of_valid hn hv1
   obtain ⟨y,rfl,hyl⟩:=Wh.of_valid hd hv2
   have ix:=int_wh x
   have iy:=int_wh y
   refine A1 ?_
   refine RGon h39_2 rfl (x3 (c_RFits _) fi136 rfl) rfl ⟨rfl,trivial⟩ trivial trivial ?_
   refine A3 ?_
   refine RGcase (t:=18) rfl (fun h39_3=> ?_) (fun h39_3=> ?_)
   ·
    have hs:(⟨wh x,wh y⟩:Fr).sh=false:=by simpa using h39_3
    refine A9 ?_
    refine A9 ?_
    refine A3 ?_
    exact x4 Plain.mk' rfl rfl (Le.bool (by simp only [Fr.valid,hs,Bool.false_and]))
   ·
    have hs:(⟨wh x,wh y⟩:Fr).sh=true:=by simpa using h39_3
    refine A2 ?_
    refine xc3 h39_3 rfl rfl (0) ti4 rfl rfl rfl (At.t (At.g 1 rfl rfl) (At.g 0 rfl rfl)) rfl ?_
    refine A2 ?_
    refine RGcase (t:=23) rfl (fun h39_4=> ?_) (fun h39_4=> ?_)
    ·
     have hy0: ¬0 < y:=by have:y < 0:=of_decide_eq_true h39_4;omega
     refine A9 ?_
     refine A7 ?_
     exact x4 Plain.mk' rfl rfl (Le.bool (by simp only [Fr.valid,ix,iy,decide_eq_false hy0,Bool.and_false,Bool.false_and]))
    ·
     refine A2 ?_
     refine xc3 h39_4 rfl rfl (0) ti37 rfl rfl rfl (At.t (At.g 1 rfl rfl) (At.g 1 rfl rfl)) rfl ?_
     refine A5 ?_
     refine x9 rfl (fun h39_5=> ?_) (fun h39_5=> ?_)
     ·
      have h5:(((wh y).l.length:Nat):Int)=0:=h39_5
      have hy0: ¬0 < y:=fun h=>by have:=len_nil.1 (show (wh y).l.length=0 by omega);omega
      refine A7 ?_
      exact x4 Plain.mk' rfl rfl (Le.bool (by simp only [Fr.valid,ix,iy,decide_eq_false hy0,Bool.and_false,Bool.false_and]))
     ·
      have h5: ¬(((wh y).l.length:Nat):Int)=0:=h39_5
      have hy0:0 < y:=pos_of_wh h39_4 (by omega)
      refine A6 ?_
      refine xg8 (0) ti37 rfl rfl rfl (At.t (At.g 0 rfl rfl) (At.g 1 rfl rfl)) rfl ?_
      refine A2 ?_
      refine xg8 (0) ti37 rfl rfl rfl (At.t (At.g 1 rfl rfl) (At.g 1 rfl rfl)) rfl (R2 (x3 (c_RCommon x.natAbs y.natAbs (by show len16 x≤4000;omega) (by show len16 y≤4000;omega)) fi138 rfl) rfl rfl (R1 (x3 (c_Rone _) fi137 rfl) rfl ?_))
      refine A4 ?_
      exact x4 Plain.mk' rfl rfl (Le.bool (by simp only [Fr.valid,ix,iy,hs,hv1,hv2,decide_eq_true hy0,Bool.true_and];exact one_dec2))
end An.S

/- What is lent to a call: steps; whether it is kept; what is written over it. -/
namespace An.S
open Go Go.Proofs An
set_option maxHeartbeats 2000000
set_option maxRecDepth 100000
instance fi75:FnI Tryz.prog 75:=⟨_,Tryz.func75,by kernel_rfl,rfl⟩
instance fi120:FnI Tryz.prog 120:=⟨_,Tryz.func120,by kernel_rfl,rfl⟩
instance fi146:FnI Tryz.prog 146:=⟨_,Tryz.func146,by kernel_rfl,rfl⟩
instance fi157:FnI Tryz.prog 157:=⟨_,Tryz.func157,by kernel_rfl,rfl⟩
instance fi158:FnI Tryz.prog 158:=⟨_,Tryz.func158,by kernel_rfl,rfl⟩
instance fi159:FnI Tryz.prog 159:=⟨_,Tryz.func159,by kernel_rfl,rfl⟩
instance fi257:FnI Tryz.prog 257:=⟨_,Tryz.func257,by kernel_rfl,rfl⟩
/-- The marks behind lent limbs. -/
def mk16:List Nat:=(List.range 12).map fun i=>(8000024+i)%65536
theorem mk16_len:mk16.length=12:=rfl
theorem mk16_at {j:Nat} (h:j < 12):mk16.getD j 0=(8000024+j)%65536:=by
  have: ∀j,j < 12→mk16.getD j 0=(8000024+j)%65536:=by decide
  exact this j h
theorem mk16_take {i:Nat} (h:i < 12):mk16.take (i+1)=mk16.take i++[(8000024+i)%65536]:=by
  rw [List.take_succ_eq_append_getElem (by rw [mk16_len];exact h)]
  congr 2
  have:=mk16_at h
  rw [List.getD_eq_getElem?_getD,List.getElem?_eq_getElem (by rw [mk16_len];exact h)] at this
  exact this
theorem cutM {i:Nat}:IntKind.u16.wrap (1000003*(1+7)+(i:Int))=(((8000024+i)%65536:Nat):Int):=by rw [mu16];omega
abbrev tLmK (l:List Nat):Ty:=tLK 1 false (fun n:Nat=>tE (.int .u16 (n:Int))) l mk16
abbrev tWhK (x:Wh):Ty:=tS [⟨1,false,tB x.neg⟩,⟨1,false,tLmK x.l⟩]
abbrev tFrK (f:Fr):Ty:=tS [⟨2,true,tWhK f.n⟩,⟨2,true,tWhK f.d⟩]
abbrev tVaK (v:Va):Ty:=tS [⟨1,false,tE (.int .u8 (v.kind:Int))⟩,⟨4,true,tFrK v.f⟩,⟨1,false,tI v.i⟩]
theorem whK_le {x:Wh}:Le (tWhK x) (tWh x):=Le.tS ⟨⟨rfl,rfl,Le.refl⟩,⟨rfl,rfl,tLK_le⟩,trivial⟩
theorem frK_le {f:Fr}:Le (tFrK f) (tFr f):=Le.tS ⟨⟨rfl,rfl,whK_le⟩,⟨rfl,rfl,whK_le⟩,trivial⟩
theorem vaK_le {v:Va}:Le (tVaK v) (tVa v):=Le.tS ⟨⟨rfl,rfl,Le.refl⟩,⟨rfl,rfl,frK_le⟩,⟨rfl,rfl,Le.refl⟩,trivial⟩
theorem app_l {l m:List Nat} {i:Nat} (h:i < l.length):(l++m).getD i 0=l.getD i 0:=by
  rw [List.getD_eq_getElem?_getD,List.getElem?_append_left h,←List.getD_eq_getElem?_getD]
theorem app_r {l m:List Nat} {i:Nat} (h:l.length≤i):(l++m).getD i 0=m.getD (i - l.length) 0:=by
  rw [List.getD_eq_getElem?_getD,List.getElem?_append_right h,←List.getD_eq_getElem?_getD]
theorem c_mark1 (i:Nat) (h:i < 12):
  Ct Tryz.prog 146 [tI 1,tI i] (tI (1000003*(1+7)+(i:Int))):=by
 refine Ct.intro Tryz.func146 rfl Tryz.ntmps146 rfl ?_
 intro w F
 refine A9 ?_
 refine R2 (d_mul (wr64 (by omega) (by omega))) rfl rfl ?_
 refine A6 ?_
 exact x4 Plain.mk' rfl rfl Le.refl
abbrev tLmW (l:List Nat):Ty:=tLW 64 1 false (fun n:Nat=>tE (.int .u16 (n:Int))) l mk16
abbrev tWhW (x:Wh):Ty:=tS [⟨1,false,tB x.neg⟩,⟨1,false,tLmW x.l⟩]
abbrev tFrW (f:Fr):Ty:=tS [⟨2,true,tWhW f.n⟩,⟨2,true,tWhW f.d⟩]
abbrev tVaW (v:Va):Ty:=tS [⟨1,false,tE (.int .u8 (v.kind:Int))⟩,⟨4,true,tFrW v.f⟩,⟨1,false,tI v.i⟩]
abbrev tTsW (s:Tst):Ty:=tS [⟨1,false,tI s.lo⟩,⟨1,false,tI s.hi⟩,⟨6,true,tVaW s.v⟩]
theorem whWK {x:Wh}:Le (tWhW x) (tWhK x):=Le.tS ⟨⟨rfl,rfl,Le.refl⟩,⟨rfl,rfl,tLW_le⟩,trivial⟩
theorem frWK {f:Fr}:Le (tFrW f) (tFrK f):=Le.tS ⟨⟨rfl,rfl,whWK⟩,⟨rfl,rfl,whWK⟩,trivial⟩
theorem vaWK {v:Va}:Le (tVaW v) (tVaK v):=Le.tS ⟨⟨rfl,rfl,Le.refl⟩,⟨rfl,rfl,frWK⟩,⟨rfl,rfl,Le.refl⟩,trivial⟩
theorem vaW_le {v:Va}:Le (tVaW v) (tVa v):=Le.trans vaWK vaK_le
theorem tsW_le {s:Tst}:Le (tTsW s) (tTs s):=Le.tS ⟨⟨rfl,rfl,Le.refl⟩,⟨rfl,rfl,Le.refl⟩,⟨rfl,rfl,vaW_le⟩,trivial⟩
/-- A lent step, or a mark behind them. -/
abbrev tTsM (x:Tst×Bool):Ty:=cond x.2 (tTsW x.1) (tTs x.1)
instance {x:Tst×Bool}:Shape (tTsM x) 8 true:=by
  obtain ⟨s,b⟩:=x
  cases b
  · exact (inferInstance:Shape (tTs s) 8 true)
  · exact (inferInstance:Shape (tTsW s) 8 true)
theorem tsM_le {x:Tst×Bool}:Le (tTsM x) (tTs x.1):=by
  obtain ⟨s,b⟩:=x
  cases b
  · exact Le.refl
  · exact tsW_le
def va00:Va:=⟨0,fr0,0⟩
def smk (k i:Nat):Tst:=⟨1000003*((k:Int)+7)+(i:Int),0,va00⟩
def mkT:List Tst:=(List.range 12).map (smk 1)
theorem mkT_len:mkT.length=12:=rfl
theorem mkT_at {j:Nat} (h:j < 12):mkT.getD j tst0=smk 1 j:=by
  have hl:j < mkT.length:=by rw [mkT_len];exact h
  rw [List.getD_eq_getElem?_getD,List.getElem?_eq_getElem hl,Option.getD_some]
  simp [mkT]
theorem mkT_take {i:Nat} (h:i < 12):mkT.take (i+1)=mkT.take i++[smk 1 i]:=by
  rw [List.take_succ_eq_append_getElem (by rw [mkT_len];exact h)]
  congr 2
  have:=mkT_at h
  rw [List.getD_eq_getElem?_getD,List.getElem?_eq_getElem (by rw [mkT_len];exact h)] at this
  exact this
/-- Lent steps and the marks behind them. -/
def lmT (l:List Tst):List (Tst×Bool):=l.map (·,true)
def mmT (m:List Tst):List (Tst×Bool):=m.map (·,false)
abbrev tStW (l:List Tst):Ty:=tLW 59 8 true tTsM (lmT l) (mmT mkT)
theorem xh3 {l:List Tst}:(lmT l).length=l.length:=List.length_map ..
theorem mmT_len {l:List Tst}:(mmT l).length=l.length:=List.length_map ..
theorem lmT_take {l:List Tst} {i:Nat} (h:i < l.length):lmT (l.take (i+1))=lmT (l.take i)++[(l.getD i tst0,true)]:=by
  rw [lmT,lmT,List.take_succ_eq_append_getElem h,List.map_append,List.getD_eq_getElem?_getD,List.getElem?_eq_getElem h];rfl
theorem mmT_snoc {l:List Tst} {x:Tst}:mmT (l++[x])=mmT l++[(x,false)]:=by rw [mmT,List.map_append];rfl
def tm0:Tst×Bool:=(tst0,false)
theorem lm_l {l m:List Tst} {i:Nat} (h:i < l.length):(lmT l++mmT m).getD i tm0=(l.getD i tst0,true):=by
  rw [List.getD_eq_getElem?_getD,List.getElem?_append_left (by rw [xh3];exact h),lmT,List.getElem?_map,List.getElem?_eq_getElem h,List.getD_eq_getElem?_getD,List.getElem?_eq_getElem h];rfl
theorem lm_r {l m:List Tst} {i:Nat} (h:l.length≤i) (h2:i - l.length < m.length):(lmT l++mmT m).getD i tm0=(m.getD (i - l.length) tst0,false):=by
  rw [List.getD_eq_getElem?_getD,List.getElem?_append_right (by rw [xh3];exact h),xh3,mmT,List.getElem?_map,List.getElem?_eq_getElem h2,List.getD_eq_getElem?_getD,List.getElem?_eq_getElem h2];rfl
theorem va00N {G:Dom}:Le (tVa va00) (tG G (tVa va00)):=leG_S ⟨⟨rfl,rfl,tG_E⟩,⟨rfl,rfl,fr0N⟩,⟨rfl,rfl,tG_E⟩,trivial⟩
theorem stW_le {l:List Tst}:Le (tStW l) (tL 8 true tTs l):=fun F w v h=>by
  obtain ⟨A,c,h1,h2,h3,h4⟩:=le_L (fun x=>tsM_le) _ _ _ (tLW_leL _ _ _ h)
  rw [xh3] at h1 h2
  refine ⟨A,c,h1,h2,h3,h4.imp (fun h=>by rw [lmT] at h;exact List.map_eq_nil_iff.1 h) fun ⟨b,o,e,hb,hx⟩=>⟨b,o,e,hb,fun i x hi=>hx i (x,true) (by rw [lmT,List.getElem?_map,hi];rfl)⟩⟩
theorem c_LentLimbsN (l:List Nat) (hl:l.length≤1048576):
    CtN Tryz.prog 257 [tLm l] (fun nw=>tG (up nw) (tLmW l)):=by
  refine CtN.intro Tryz.func257 rfl Tryz.ntmps257 rfl ?_
  intro w F
  refine A9 ?_
  refine A1 ?_
  refine RE (xg3 (k:=8) (t:=tE (.int .u16 0)) (ts:=([]:List Ent)) (0) (l.length+12) Tryz.underlying37 el64 (fun _ _=>rfl) rfl (by omega) (by omega) (by omega) (by omega) (by omega) rfl) ⟨rfl,rfl,trivial⟩ trivial ⟨rfl,trivial⟩ ?_
  refine A7 ?_
  refine RE (xb7 (k:=8) (k':=11) (ys:=l) (ts':=rW .u16 l) Tryz.underlying37 el64 zf64 rfl rfl (fun _=>inferInstance) rfl (by simp;omega) (by simp;omega) (by simp [rW]) (n':=l.length) (by simp)) ⟨rfl,rfl,trivial⟩ ⟨rfl,trivial⟩ ⟨rfl,trivial⟩ ?_
  refine A9 ?_
  refine A1 ?_
  refine cL (fun (i:Nat)=>i≤12) (fun (i:Nat)=>upd (upd (upd (fun _=>none) 0 (some (.val (tLm l)))) 3 (some (.own (.sl 11 1 0 (l.length+i))))) 4 (some (.val (tI i)))) (fun (i:Nat)=>upd (fun _=>none) 11 (some (⟨64,1,false,rW .u16 (l++mk16.take i)⟩))) [11] (fun (i:Nat)=>12 - i) (0) (Nat.zero_le _) (hh:=((SubK.consI rfl (ImpK.of (by rw [List.take_zero,List.append_nil]))) SubK.nil)) ?_
  intro i hI
  have htl:(l++mk16.take i).length=l.length+i:=by rw [List.length_append,List.length_take,mk16_len];omega
  refine A7 ?_
  refine x9 rfl (fun h64=> ?_) (fun h64=> ?_)
  ·
    refine A7 ?_
    refine R2 (x3 (c_mark1 i (by omega)) fi146 rfl) rfl rfl ?_
    refine R1 (x6 Tryz.underlying64 (isS Tryz.underlying3) cutM) rfl ?_
    refine R1 (d_nums (n:=1) [((8000024+i)%65536)] Tryz.underlying37 el64 zf64 rfl rfl rfl) rfl ?_
    refine RE (xb7 (k:=11) (k':=21) (ys:=[((8000024+i)%65536)]) (ts':=rW .u16 (l++mk16.take i++[((8000024+i)%65536)])) Tryz.underlying37 el64 zf64 rfl rfl (fun _=>inferInstance) (rW_len.trans htl) (by simp;omega) (by simp;omega) (by simp [rW]) (n':=l.length+i+1) rfl) ⟨rfl,rfl,trivial⟩ ⟨rfl,trivial⟩ ⟨rfl,trivial⟩ ?_
    refine A9 ?_
    exact xe4 (l:=[11]) (fun j=>cond (Nat.beq j 11) 21 (j)) (i+1) ⟨(by omega),(by omega)⟩ (SubR.int rfl (by first | omega | rfl | (dsimp only;omega)) (SubR.cons rfl (SubR.cons rfl SubR.nil))) ((SubKR.consI rfl (ImpK.of (by rw [mk16_take (by omega),←List.append_assoc];exact xg5.symm))) SubKR.nil) (SupG.val (SupG.own rfl (SupG.val SupG.nil))) (SupH.cons rfl (supJ xd8) SupH.nil) (lkOk rfl) rfl rfl (fun _ h=>by cases h)
  ·
    refine A9 ?_
    refine A1 ?_
    refine RE (d_keepOW (k:=11) (f:=fun n:Nat=>tE (.int .u16 (n:Int))) (xs:=l) (ms:=mk16) (up w.heap.size) (fun _ h=>h) sl37 (fun _ h=>h) (fun _ _=>tG_E) (by rw [rW,show i=12 by omega,show mk16.take 12=mk16 from rfl]) (by rw [mk16_len];omega) (by omega) rfl) ⟨rfl,rfl,trivial⟩ ⟨rfl,trivial⟩ trivial ?_
    refine A4 ?_
    exact x4 Plain.mk' rfl rfl Le.refl
theorem c_KeptLimbs (l:List Nat) (hl:l.length≤1048576):
  Ct Tryz.prog 260 [tLmK l,tLm l] (tB true):=by
 have hml:(l++mk16).length=l.length+12:=by rw [List.length_append,mk16_len]
 refine Ct.intro Tryz.func260 rfl Tryz.ntmps260 rfl ?_
 intro w F
 refine A9 ?_
 refine R1 (d_lenK Tryz.underlying37) rfl ?_
 refine A5 ?_
 refine C_bF rfl (decide_eq_false (by omega)) ?_
 refine A8 ?_
 refine R2 (d_sliceK sl37 (by rw [mk16_len];omega)) rfl rfl ?_
 refine A9 ?_
 refine A1 ?_
 refine cL (fun (i:Nat)=>i≤(l++mk16).length) (fun (i:Nat)=>upd (upd (upd (fun _=>none) 1 (some (.val (tLm l)))) 5 (some (.val (tLm (l++mk16))))) 6 (some (.val (tI i)))) (fun (i:Nat)=>fun _=>none) [] (fun (i:Nat)=>(l++mk16).length - i) (0) (Nat.zero_le _) ?_
 intro i hI
 refine A9 ?_
 refine x9 rfl (fun h75=> ?_) (fun h75=> ?_)
 ·
  refine A9 ?_
  refine A2 ?_
  refine RGcaseD (t:=27) rfl (fun h76=> ?_) (fun h76=> ?_)
  ·
   refine A2 ?_
   refine RGon (decide_eq_true h76) rfl (x5 sl37 (i) (by omega) (gN (by omega))) rfl ⟨rfl,rfl,trivial⟩ trivial trivial ?_
   refine A3 ?_
   refine RGon (decide_eq_true h76) rfl (x5 sl37 (i) (by omega) (gN (by omega))) rfl ⟨rfl,rfl,trivial⟩ trivial trivial ?_
   refine A5 ?_
   refine RGon (xb3 (by rw [app_l (by omega)])) rfl xa2 rfl ⟨rfl,trivial⟩ trivial trivial (RGon (xb3 (by rw [app_l (by omega)])) rfl xa2 rfl ⟨rfl,trivial⟩ trivial trivial (RGon (xb3 (by rw [app_l (by omega)])) rfl (d_len Tryz.underlying37) rfl ⟨rfl,trivial⟩ trivial trivial (RGon (xb3 (by rw [app_l (by omega)])) rfl d_geq rfl ⟨rfl,rfl,trivial⟩ trivial trivial (RGon (xb3 (by rw [app_l (by omega)])) rfl xa2 rfl ⟨rfl,trivial⟩ trivial trivial (RGoff (decide_eq_false (by omega)) rfl rfl (RGoff (decide_eq_false (by omega)) rfl rfl (RGoff (decide_eq_false (by omega)) rfl rfl ?_)))))))
   refine RGoff (decide_eq_false (by omega)) rfl rfl (RGoff (decide_eq_false (by omega)) rfl rfl (RGoff (decide_eq_false (by omega)) rfl rfl (RGoff (decide_eq_false (by omega)) rfl rfl (RGoff (decide_eq_false (by omega)) rfl rfl (RGoff (decide_eq_false (by omega)) rfl rfl (RGoff (decide_eq_false (by omega)) rfl rfl (RGoff (decide_eq_false (by omega)) rfl rfl ?_)))))))
   refine RGoff (decide_eq_false (by omega)) rfl rfl (RGon (xb3 (by rw [app_l (by omega)])) rfl (xd2 (decide_eq_false (by omega))) rfl ⟨rfl,rfl,trivial⟩ trivial trivial (R2 (xd2 (xb3 (by rw [app_l (by omega)]))) rfl rfl ?_))
   refine A9 ?_
   refine A2 ?_
   exact kF (i+1) ⟨(by omega),(by omega)⟩
  ·
   refine A9 ?_
   refine A8 ?_
   refine RGon (decide_eq_true (by omega)) rfl xa2 rfl ⟨rfl,trivial⟩ trivial trivial (RGon (decide_eq_true (by omega)) rfl xa2 rfl ⟨rfl,trivial⟩ trivial trivial (RGon (decide_eq_true (by omega)) rfl (x5 sl37 (i) (by omega) (gN (by omega))) rfl ⟨rfl,rfl,trivial⟩ trivial trivial (RGon (decide_eq_true (by omega)) rfl (xf3 ti64) rfl ⟨rfl,trivial⟩ trivial trivial (RGon (decide_eq_true (by omega)) rfl xa2 rfl ⟨rfl,trivial⟩ trivial trivial (RGon (decide_eq_true (by omega)) rfl xa2 rfl ⟨rfl,trivial⟩ trivial trivial (RGon (decide_eq_true (by omega)) rfl (d_len Tryz.underlying37) rfl ⟨rfl,trivial⟩ trivial trivial (RGon (decide_eq_true (by omega)) rfl (xe1 (r:=((i - l.length:Nat):Int)) (by rw [wr64 (by omega) (by omega)];omega)) rfl ⟨rfl,rfl,trivial⟩ trivial trivial ?_)))))))
   refine RGon (decide_eq_true (by omega)) rfl (x3 (c_mark1 (i - l.length) (by omega)) fi146 rfl) rfl ⟨rfl,rfl,trivial⟩ trivial trivial (RGon (decide_eq_true (by omega)) rfl (x6 Tryz.underlying64 (isS Tryz.underlying3) cutM) rfl ⟨rfl,trivial⟩ trivial trivial (RGon (decide_eq_true (by omega)) rfl d_eql rfl ⟨rfl,rfl,trivial⟩ trivial trivial (RGon (decide_eq_true (by omega)) rfl d_not rfl ⟨rfl,trivial⟩ trivial trivial (RGon rfl rfl (xe6 (decide_eq_true (by omega))) rfl ⟨rfl,rfl,trivial⟩ trivial trivial ?_))))
   refine A3 ?_
   refine C_bF rfl (xb3 (by rw [app_r (by omega),mk16_at (by omega)])) ?_
   refine A8 ?_
   exact kF (i+1) ⟨(by omega),(by omega)⟩
 ·
  refine A9 ?_
  refine A2 ?_
  exact x4 Plain.mk' rfl rfl Le.refl
theorem c_LentWholeN (x:Wh) (hl:x.l.length≤1048576):
    CtN Tryz.prog 159 [tWh x] (fun nw=>tG (up nw) (tWhW x)):=by
  refine CtN.intro Tryz.func159 rfl Tryz.ntmps159 rfl ?_
  intro w F
  refine A3 ?_
  refine RE (xa3 (k:=2) (n:=2) (agg:=true) zr39.1 zr39.2 rfl) trivial trivial ⟨rfl,trivial⟩ ?_
  refine A6 ?_
  refine R1 (xh4 (ts:=[_]) (r:=tG (up w.heap.size) _) (c_LentLimbsN x.l hl) fi257 (fun m hm=>tG_up hm) ⟨Le.refl,trivial⟩ rfl) rfl ?_
  refine A1 ?_
  refine xi1 (0) ti37 rfl rfl rfl rfl (Up.g 1 rfl rfl rfl) rfl rfl ?_
  refine A3 ?_
  refine C_key (k:=1) (e':=⟨39,2,true,[.val (tS [⟨1,false,tB x.neg⟩,⟨1,false,tG (up w.heap.size) (tLmW x.l)⟩])]⟩) rfl rfl ?_
  refine A6 ?_
  exact xe9 Plain.mk' rfl ⟨_,_,_,_,_,rfl,rfl,ti39,(leG_S ⟨⟨rfl,rfl,tG_E⟩,⟨rfl,rfl,Le.refl⟩,trivial⟩)⟩
theorem c_LentFracN (f:Fr) (h1:f.n.l.length≤1048576) (h2:f.d.l.length≤1048576):
    CtN Tryz.prog 75 [tFr f] (fun nw=>tG (up nw) (tFrW f)):=by
  refine CtN.intro Tryz.func75 rfl Tryz.ntmps75 rfl ?_
  intro w F
  refine A3 ?_
  refine RE (xa3 (k:=2) (n:=4) (agg:=true) zr41.1 zr41.2 rfl) trivial trivial ⟨rfl,trivial⟩ ?_
  refine A6 ?_
  refine R1 (xh4 (ts:=[_]) (r:=tG (up w.heap.size) _) (c_LentWholeN f.n h1) fi159 (fun m hm=>tG_up hm) ⟨Le.refl,trivial⟩ rfl) rfl ?_
  refine A1 ?_
  refine xi1 (0) ti39 rfl rfl rfl rfl (Up.g 0 rfl rfl rfl) rfl rfl ?_
  refine A6 ?_
  refine R1 (xh4 (ts:=[_]) (r:=tG (up w.heap.size) _) (c_LentWholeN f.d h2) fi159 (fun m hm=>tG_up hm) ⟨Le.refl,trivial⟩ rfl) rfl ?_
  refine A1 ?_
  refine xi1 (0) ti39 rfl rfl rfl rfl (Up.g 1 rfl rfl rfl) rfl rfl ?_
  refine A3 ?_
  refine C_key (k:=1) (e':=⟨41,4,true,[.val (tS [⟨2,true,tG (up w.heap.size) (tWhW f.n)⟩,⟨2,true,tG (up w.heap.size) (tWhW f.d)⟩])]⟩) rfl rfl ?_
  refine A6 ?_
  exact xe9 Plain.mk' rfl ⟨_,_,_,_,_,rfl,rfl,ti41,(leG_S ⟨⟨rfl,rfl,Le.refl⟩,⟨rfl,rfl,Le.refl⟩,trivial⟩)⟩
theorem c_LentValueN (v:Va) (h1:v.f.n.l.length≤1048576) (h2:v.f.d.l.length≤1048576):
    CtN Tryz.prog 120 [tVa v] (fun nw=>tG (up nw) (tVaW v)):=by
  refine CtN.intro Tryz.func120 rfl Tryz.ntmps120 rfl ?_
  intro w F
  refine A3 ?_
  refine RE (xa3 (k:=2) (n:=6) (agg:=true) zr57.1 zr57.2 rfl) trivial trivial ⟨rfl,trivial⟩ ?_
  refine A6 ?_
  refine R1 (xh4 (ts:=[_]) (r:=tG (up w.heap.size) _) (c_LentFracN v.f h1 h2) fi75 (fun m hm=>tG_up hm) ⟨Le.refl,trivial⟩ rfl) rfl ?_
  refine A1 ?_
  refine xi1 (0) ti41 rfl rfl rfl rfl (Up.g 1 rfl rfl rfl) rfl rfl ?_
  refine A3 ?_
  refine C_key (k:=1) (e':=⟨57,6,true,[.val (tS [⟨1,false,tE (.int .u8 (v.kind:Int))⟩,⟨4,true,tG (up w.heap.size) (tFrW v.f)⟩,⟨1,false,tI v.i⟩])]⟩) rfl rfl ?_
  refine A6 ?_
  exact xe9 Plain.mk' rfl ⟨_,_,_,_,_,rfl,rfl,ti57,(leG_S ⟨⟨rfl,rfl,tG_E⟩,⟨rfl,rfl,Le.refl⟩,⟨rfl,rfl,tG_E⟩,trivial⟩)⟩
theorem c_LentStepN (s:Tst) (h1:s.v.f.n.l.length≤1048576) (h2:s.v.f.d.l.length≤1048576):
    CtN Tryz.prog 157 [tTs s] (fun nw=>tG (up nw) (tTsW s)):=by
  refine CtN.intro Tryz.func157 rfl Tryz.ntmps157 rfl ?_
  intro w F
  refine A3 ?_
  refine RE (xa3 (k:=2) (n:=8) (agg:=true) zr59.1 zr59.2 rfl) trivial trivial ⟨rfl,trivial⟩ ?_
  refine A6 ?_
  refine R1 (xh4 (ts:=[_]) (r:=tG (up w.heap.size) _) (c_LentValueN s.v h1 h2) fi120 (fun m hm=>tG_up hm) ⟨Le.refl,trivial⟩ rfl) rfl ?_
  refine A1 ?_
  refine xi1 (0) ti57 rfl rfl rfl rfl (Up.g 2 rfl rfl rfl) rfl rfl ?_
  refine A3 ?_
  refine C_key (k:=1) (e':=⟨59,8,true,[.val (tS [⟨1,false,tI s.lo⟩,⟨1,false,tI s.hi⟩,⟨6,true,tG (up w.heap.size) (tVaW s.v)⟩])]⟩) rfl rfl ?_
  refine A6 ?_
  exact xe9 Plain.mk' rfl ⟨_,_,_,_,_,rfl,rfl,ti59,(leG_S ⟨⟨rfl,rfl,tG_E⟩,⟨rfl,rfl,tG_E⟩,⟨rfl,rfl,Le.refl⟩,trivial⟩)⟩
theorem c_markK (k i:Nat) (hk:k < 1000) (hi:i < 10000000):
  Ct Tryz.prog 146 [tI k,tI i] (tI (1000003*((k:Int)+7)+(i:Int))):=by
 refine Ct.intro Tryz.func146 rfl Tryz.ntmps146 rfl ?_
 intro w F
 refine A9 ?_
 refine R2 (d_mul (wr64 (by omega) (by omega))) rfl rfl ?_
 refine A6 ?_
 exact x4 Plain.mk' rfl rfl Le.refl
theorem c_markStep (k i:Nat) (hk:k < 1000) (hi:i < 10000000):
    CtN Tryz.prog 158 [tI k,tI i] (fun nw=>tG (up nw) (tTs (smk k i))):=by
  refine CtN.intro Tryz.func158 rfl Tryz.ntmps158 rfl ?_
  intro w F
  refine A2 ?_
  refine RE (xa3 (k:=4) (n:=8) (agg:=true) zr59.1 zr59.2 rfl) trivial trivial ⟨rfl,trivial⟩ ?_
  refine A6 ?_
  refine R2 (x3 (c_markK k i hk hi) fi146 rfl) rfl rfl ?_
  refine R1 (xa7 (r:=tS [⟨1,false,tI (1000003*((k:Int)+7)+(i:Int))⟩,⟨1,false,(tE (.int .i64 0))⟩,⟨6,true,(tS [⟨1,false,(tE (.int .u8 0))⟩,⟨4,true,(tS [⟨2,true,(tS [⟨1,false,(tE (.bool false))⟩,⟨1,false,(tLm [])⟩])⟩,⟨2,true,(tS [⟨1,false,(tE (.bool false))⟩,⟨1,false,(tLm [])⟩])⟩])⟩,⟨1,false,(tE (.int .i64 0))⟩])⟩]) (ts:=[(0,tI (1000003*((k:Int)+7)+(i:Int)))]) bu59 zr59.2 ⟨_,rfl⟩ rfl ⟨_,_,_,_,rfl,Up.f (fs:=[⟨1,false,(tE (.int .i64 0))⟩,⟨1,false,(tE (.int .i64 0))⟩,⟨6,true,(tS [⟨1,false,(tE (.int .u8 0))⟩,⟨4,true,(tS [⟨2,true,(tS [⟨1,false,(tE (.bool false))⟩,⟨1,false,(tLm [])⟩])⟩,⟨2,true,(tS [⟨1,false,(tE (.bool false))⟩,⟨1,false,(tLm [])⟩])⟩])⟩,⟨1,false,(tE (.int .i64 0))⟩])⟩]) (f:=⟨1,false,(tE (.int .i64 0))⟩) (fs':=[⟨1,false,tI (1000003*((k:Int)+7)+(i:Int))⟩,⟨1,false,(tE (.int .i64 0))⟩,⟨6,true,(tS [⟨1,false,(tE (.int .u8 0))⟩,⟨4,true,(tS [⟨2,true,(tS [⟨1,false,(tE (.bool false))⟩,⟨1,false,(tLm [])⟩])⟩,⟨2,true,(tS [⟨1,false,(tE (.bool false))⟩,⟨1,false,(tLm [])⟩])⟩])⟩,⟨1,false,(tE (.int .i64 0))⟩])⟩]) 0 rfl rfl rfl,inferInstance,Le.refl⟩) rfl ?_
  refine A4 ?_
  exact xe9 Plain.mk' rfl ⟨_,_,_,_,_,rfl,rfl,ti59,(leG_S ⟨⟨rfl,rfl,tG_E⟩,⟨rfl,rfl,tG_E⟩,⟨rfl,rfl,va00N⟩,trivial⟩)⟩
theorem c_LentStepsN (l:List Tst) (hl:l.length≤60) (hs: ∀s∈l,s.v.f.n.l.length≤1048576∧s.v.f.d.l.length≤1048576):
    CtN Tryz.prog 74 [tL 8 true tTs l] (fun nw=>tG (up nw) (tStW l)):=by
  refine CtN.intro Tryz.func74 rfl Tryz.ntmps74 rfl ?_
  intro w F
  refine A9 ?_
  refine A1 ?_
  refine RE (xg3 (k:=10) (t:=(tS [⟨1,false,(tE (.int .i64 0))⟩,⟨1,false,(tE (.int .i64 0))⟩,⟨6,true,(tS [⟨1,false,(tE (.int .u8 0))⟩,⟨4,true,(tS [⟨2,true,(tS [⟨1,false,(tE (.bool false))⟩,⟨1,false,(tLm [])⟩])⟩,⟨2,true,(tS [⟨1,false,(tE (.bool false))⟩,⟨1,false,(tLm [])⟩])⟩])⟩,⟨1,false,(tE (.int .i64 0))⟩])⟩])) (ts:=([]:List Ent)) (0) (l.length+12) Tryz.underlying51 el59 (fun _ _=>⟨_,rfl,rfl,⟨fun _=>rfl,rfl⟩,⟨fun _=>rfl,rfl⟩,⟨fun h=>Bool.noConfusion h,⟨_,rfl,rfl,⟨fun _=>rfl,rfl⟩,⟨fun h=>Bool.noConfusion h,⟨_,rfl,rfl,⟨fun h=>Bool.noConfusion h,⟨_,rfl,rfl,⟨fun _=>rfl,rfl⟩,⟨fun _=>rfl,⟨none,0,rfl,Nat.le_refl _,by decide,.inl rfl⟩⟩,trivial⟩⟩,⟨fun h=>Bool.noConfusion h,⟨_,rfl,rfl,⟨fun _=>rfl,rfl⟩,⟨fun _=>rfl,⟨none,0,rfl,Nat.le_refl _,by decide,.inl rfl⟩⟩,trivial⟩⟩,trivial⟩⟩,⟨fun _=>rfl,rfl⟩,trivial⟩⟩,trivial⟩) rfl (by omega) (by omega) (by omega) (by omega) (by omega) rfl) ⟨rfl,rfl,trivial⟩ trivial ⟨rfl,trivial⟩ ?_
  refine A9 ?_
  refine A1 ?_
  refine cL (fun (i:Nat)=>i≤l.length) (fun (i:Nat)=>upd (upd (upd (fun _=>none) 0 (some (.val (tL 8 true tTs l)))) 3 (some (.own (.sl 10 8 0 i)))) 4 (some (.val (tI i)))) (fun (i:Nat)=>upd (fun _=>none) 10 (some (⟨59,8,true,rV (fun x=>tG (up w.heap.size) (tTsM x)) (lmT (l.take i))⟩))) [10] (fun (i:Nat)=>l.length - i) (0) (Nat.zero_le _) (hh:=((SubK.consI rfl (ImpK.of rfl)) SubK.nil)) ?_
  intro i hI
  have hxl:(lmT (l.take i)).length=i:=by rw [xh3,List.length_take];omega
  refine A9 ?_
  refine x9 rfl (fun h379=> ?_) (fun h379=> ?_)
  ·
    refine A8 ?_
    refine R2 (x5 sl51 i (by omega) (gD (l:=l) (n:=i) (d:=tst0) (by omega))) rfl rfl ?_
    refine A1 ?_
    refine R1 (xh4 (ts:=[_]) (r:=tG (up w.heap.size) _) (c_LentStepN (l.getD i tst0) (hs _ (xb6 (l:=l) (by omega))).1 (hs _ (xb6 (l:=l) (by omega))).2) fi157 (fun m hm=>tG_up hm) ⟨Le.refl,trivial⟩ rfl) rfl ?_
    refine RE (xa3 (k:=5) (n:=8) (agg:=true) zr59.1 zr59.2 rfl) trivial trivial ⟨rfl,trivial⟩ ?_
    refine A6 ?_
    refine R1 (xc0 (n:=1) (f:=(fun x=>tG (up w.heap.size) (tTsM x))) [((l.getD i tst0,true):Tst×Bool)] Tryz.underlying51 el59 zf59 rfl (fun _=>inferInstance) rfl rfl rfl) rfl ?_
    refine RE (xb7 (k:=10) (k':=25) (f:=(fun x=>tG (up w.heap.size) (tTsM x))) (ys:=[((l.getD i tst0,true):Tst×Bool)]) (ts':=rV (fun x=>tG (up w.heap.size) (tTsM x)) ((lmT (l.take i))++[((l.getD i tst0,true):Tst×Bool)])) Tryz.underlying51 el59 zf59 rfl rfl (fun _=>inferInstance) (xc8.trans hxl) (by simp;omega) (by simp;omega) (by simp [rV]) (n':=i+1) rfl) ⟨rfl,rfl,trivial⟩ ⟨rfl,trivial⟩ ⟨rfl,trivial⟩ ?_
    refine A9 ?_
    exact xe4 (l:=[10]) (fun j=>cond (Nat.beq j 10) 25 (j)) (i+1) ⟨(by omega),(by omega)⟩ (SubR.int rfl (by first | omega | rfl | (dsimp only;omega)) (SubR.cons rfl (SubR.cons rfl SubR.nil))) ((SubKR.consI rfl (ImpK.of (by rw [lmT_take (by omega)];exact xb9.symm))) SubKR.nil) (SupG.val (SupG.own rfl (SupG.val SupG.nil))) (SupH.cons rfl (supJ xb0) SupH.nil) (lkOk rfl) rfl rfl (fun _ h=>by cases h)
  ·
    refine A9 ?_
    refine A3 ?_
    have hil:i=l.length:=by omega
    subst hil
    refine cL (fun (i:Nat)=>i≤12) (fun (i:Nat)=>upd (upd (upd (fun _=>none) 0 (some (.val (tL 8 true tTs l)))) 3 (some (.own (.sl 10 8 0 (l.length+i))))) 6 (some (.val (tI i)))) (fun (i:Nat)=>upd (fun _=>none) 10 (some (⟨59,8,true,rV (fun x=>tG (up w.heap.size) (tTsM x)) (lmT l++mmT (mkT.take i))⟩))) [10] (fun (i:Nat)=>12 - i) (0) (Nat.zero_le _) (hh:=((SubK.consI rfl (ImpK.of (by rw [List.take_length,List.take_zero,mmT,List.map_nil,List.append_nil]))) SubK.nil)) ?_
    intro i hI
    have hxl:(lmT l++mmT (mkT.take i)).length=l.length+i:=by rw [List.length_append,xh3,mmT_len,List.length_take,mkT_len];omega
    refine A7 ?_
    refine x9 rfl (fun h383=> ?_) (fun h383=> ?_)
    ·
      refine A7 ?_
      refine R2 (xh4 (ts:=[_,_]) (r:=tG (up w.heap.size) _) (c_markStep 1 i (by decide) (by omega)) fi158 (fun m hm=>tG_up hm) ⟨Le.refl,Le.refl,trivial⟩ rfl) rfl rfl ?_
      refine R1 (xc0 (n:=1) (f:=(fun x=>tG (up w.heap.size) (tTsM x))) [((smk 1 i,false):Tst×Bool)] Tryz.underlying51 el59 zf59 rfl (fun _=>inferInstance) rfl rfl rfl) rfl ?_
      refine RE (xb7 (k:=10) (k':=34) (f:=(fun x=>tG (up w.heap.size) (tTsM x))) (ys:=[((smk 1 i,false):Tst×Bool)]) (ts':=rV (fun x=>tG (up w.heap.size) (tTsM x)) ((lmT l++mmT (mkT.take i))++[((smk 1 i,false):Tst×Bool)])) Tryz.underlying51 el59 zf59 rfl rfl (fun _=>inferInstance) (xc8.trans hxl) (by simp;omega) (by simp;omega) (by simp [rV]) (n':=l.length+i+1) rfl) ⟨rfl,rfl,trivial⟩ ⟨rfl,trivial⟩ ⟨rfl,trivial⟩ ?_
      refine A9 ?_
      exact xe4 (l:=[10]) (fun j=>cond (Nat.beq j 10) 34 (j)) (i+1) ⟨(by omega),(by omega)⟩ (SubR.int rfl (by first | omega | rfl | (dsimp only;omega)) (SubR.cons rfl (SubR.cons rfl SubR.nil))) ((SubKR.consI rfl (ImpK.of (by rw [mkT_take (by omega),mmT_snoc,←List.append_assoc];exact xb9.symm))) SubKR.nil) (SupG.val (SupG.own rfl (SupG.val SupG.nil))) (SupH.cons rfl (supJ xb0) SupH.nil) (lkOk rfl) rfl rfl (fun _ h=>by cases h)
    ·
      refine A9 ?_
      refine A1 ?_
      refine RE (d_keepOW (k:=10) (f:=(fun x=>tG (up w.heap.size) (tTsM x))) (xs:=lmT l) (ms:=mmT mkT) (up w.heap.size) (fun _ h=>h) sl51 (fun _ h=>h) (fun _ _=>tG_idem) (by rw [rV,show i=12 by omega,show mkT.take 12=mkT from rfl]) (by rw [xh3,mmT_len,mkT_len];omega) (by omega) (by rw [xh3])) ⟨rfl,rfl,trivial⟩ ⟨rfl,trivial⟩ trivial ?_
      refine A4 ?_
      exact x4 Plain.mk' rfl rfl (tG_mono (leLW fun _=>tG_le))
end An.S

/- Whether what was lent is kept; what is written over it. -/
namespace An.S
open Go Go.Proofs An
set_option maxHeartbeats 2000000
set_option maxRecDepth 100000
instance fi83:FnI Tryz.prog 83:=⟨_,Tryz.func83,by kernel_rfl,rfl⟩
instance fi125:FnI Tryz.prog 125:=⟨_,Tryz.func125,by kernel_rfl,rfl⟩
instance fi168:FnI Tryz.prog 168:=⟨_,Tryz.func168,by kernel_rfl,rfl⟩
instance fi170:FnI Tryz.prog 170:=⟨_,Tryz.func170,by kernel_rfl,rfl⟩
instance fi260:FnI Tryz.prog 260:=⟨_,Tryz.func260,by kernel_rfl,rfl⟩
theorem c_KeptWhole (x:Wh) (hl:x.l.length≤1048576):
  Ct Tryz.prog 170 [tWhK x,tWh x] (tB true):=by
 refine Ct.intro Tryz.func170 rfl Tryz.ntmps170 rfl ?_
 intro w F
 refine A9 ?_
 refine A2 ?_
 refine R2 (d_callL (ts:=[tWhK x,tWh x]) (c_SameWhole x x) fi173 rfl ⟨whK_le,Le.refl,trivial⟩) rfl rfl ?_
 refine A1 ?_
 refine RGon (decide_eq_true (by rfl)) rfl (xg7 fo39_1.h rfl) rfl ⟨rfl,trivial⟩ trivial trivial (xc3 (decide_eq_true (by rfl)) rfl rfl (0) ti37 rfl rfl rfl (At.g 1 rfl rfl) rfl (RGon (decide_eq_true (by rfl)) rfl (xg7 fo39_1.h rfl) rfl ⟨rfl,trivial⟩ trivial trivial (xc3 (decide_eq_true (by rfl)) rfl rfl (0) ti37 rfl rfl rfl (At.g 1 rfl rfl) rfl (RGon (decide_eq_true (by rfl)) rfl (x3 (c_KeptLimbs x.l hl) fi260 rfl) rfl ⟨rfl,rfl,trivial⟩ trivial trivial (R2 (xe6 (decide_eq_true (by rfl))) rfl rfl ?_)))))
 refine A4 ?_
 exact x4 Plain.mk' rfl rfl Le.refl
theorem c_KeptFrac (f:Fr) (h1:f.n.l.length≤1048576) (h2:f.d.l.length≤1048576):
  Ct Tryz.prog 83 [tFrK f,tFr f] (tB true):=by
 refine Ct.intro Tryz.func83 rfl Tryz.ntmps83 rfl ?_
 intro w F
 refine A9 ?_
 refine A2 ?_
 refine R2 (d_callL (ts:=[tFrK f,tFr f]) (c_SameFrac f f) fi86 rfl ⟨frK_le,Le.refl,trivial⟩) rfl rfl ?_
 refine A1 ?_
 refine RGon (decide_eq_true (by rfl)) rfl (xg7 fo41_0.h rfl) rfl ⟨rfl,trivial⟩ trivial trivial (xc3 (decide_eq_true (by rfl)) rfl rfl (0) ti39 rfl rfl rfl (At.g 0 rfl rfl) rfl (RGon (decide_eq_true (by rfl)) rfl (xg7 fo41_0.h rfl) rfl ⟨rfl,trivial⟩ trivial trivial (xc3 (decide_eq_true (by rfl)) rfl rfl (0) ti39 rfl rfl rfl (At.g 0 rfl rfl) rfl (RGon (decide_eq_true (by rfl)) rfl (x3 (c_KeptWhole f.n h1) fi170 rfl) rfl ⟨rfl,rfl,trivial⟩ trivial trivial (R2 (xe6 (decide_eq_true (by rfl))) rfl rfl ?_)))))
 refine A5 ?_
 refine RGon rfl rfl (x3 (c_KeptWhole f.d h2) fi170 rfl) rfl ⟨rfl,rfl,trivial⟩ trivial trivial ?_
 refine A5 ?_
 exact x4 Plain.mk' rfl rfl Le.refl
theorem c_KeptValue (v:Va) (h1:v.f.n.l.length≤1048576) (h2:v.f.d.l.length≤1048576):
  Ct Tryz.prog 125 [tVaK v,tVa v] (tB true):=by
 refine Ct.intro Tryz.func125 rfl Tryz.ntmps125 rfl ?_
 intro w F
 refine A9 ?_
 refine A2 ?_
 refine R2 (d_callL (ts:=[tVaK v,tVa v]) (c_SameValue v v) fi29 rfl ⟨vaK_le,Le.refl,trivial⟩) rfl rfl ?_
 refine A1 ?_
 refine RGon (decide_eq_true (by rfl)) rfl (xg7 fo57_1.h rfl) rfl ⟨rfl,trivial⟩ trivial trivial (xc3 (decide_eq_true (by rfl)) rfl rfl (0) ti41 rfl rfl rfl (At.g 1 rfl rfl) rfl (RGon (decide_eq_true (by rfl)) rfl (xg7 fo57_1.h rfl) rfl ⟨rfl,trivial⟩ trivial trivial (xc3 (decide_eq_true (by rfl)) rfl rfl (0) ti41 rfl rfl rfl (At.g 1 rfl rfl) rfl (RGon (decide_eq_true (by rfl)) rfl (x3 (c_KeptFrac v.f h1 h2) fi83 rfl) rfl ⟨rfl,rfl,trivial⟩ trivial trivial (R2 (xe6 (decide_eq_true (by rfl))) rfl rfl ?_)))))
 refine A4 ?_
 exact x4 Plain.mk' rfl rfl Le.refl
theorem c_KeptStep (s:Tst) (h1:s.v.f.n.l.length≤1048576) (h2:s.v.f.d.l.length≤1048576):
  Ct Tryz.prog 168 [tTsW s,tTs s] (tB true):=by
 refine Ct.intro Tryz.func168 rfl Tryz.ntmps168 rfl ?_
 intro w F
 refine A9 ?_
 refine A2 ?_
 refine R2 (d_callL (ts:=[_,_]) (c_SameStep s s) fi169 rfl ⟨tsW_le,Le.refl,trivial⟩) rfl rfl ?_
 refine A1 ?_
 refine RGon (decide_eq_true (by rfl)) rfl (xg7 fo59_2.h rfl) rfl ⟨rfl,trivial⟩ trivial trivial (xc3 (decide_eq_true (by rfl)) rfl rfl (0) ti57 rfl rfl rfl (At.g 2 rfl rfl) rfl (RGon (decide_eq_true (by rfl)) rfl (xg7 fo59_2.h rfl) rfl ⟨rfl,trivial⟩ trivial trivial (xc3 (decide_eq_true (by rfl)) rfl rfl (0) ti57 rfl rfl rfl (At.g 2 rfl rfl) rfl (RGon (decide_eq_true (by rfl)) rfl (d_callL (ts:=[_,_]) (c_KeptValue s.v h1 h2) fi125 rfl ⟨vaWK,Le.refl,trivial⟩) rfl ⟨rfl,rfl,trivial⟩ trivial trivial (R2 (xe6 (decide_eq_true (by rfl))) rfl rfl ?_)))))
 refine A4 ?_
 exact x4 Plain.mk' rfl rfl Le.refl
theorem c_markStep1 (i:Nat) (hi:i < 10000000):Ct Tryz.prog 158 [tI 1,tI i] (tTs (smk 1 i)):=(c_markStep 1 i (by decide) hi).toCt fun _=>tG_le
theorem c_KeptSteps (l:List Tst) (hl:l.length≤60) (hs: ∀s∈l,s.v.f.n.l.length≤1048576∧s.v.f.d.l.length≤1048576):
  Ct Tryz.prog 82 [tStW l,tL 8 true tTs l] (tB true):=by
 have hml:(lmT l++mmT mkT).length=l.length+12:=by rw [List.length_append,xh3,mmT_len,mkT_len]
 have hll:(lmT l).length=l.length:=xh3
 refine Ct.intro Tryz.func82 rfl Tryz.ntmps82 rfl ?_
 intro w F
 refine A9 ?_
 refine R1 (d_lenW Tryz.underlying51 hll) rfl ?_
 refine A5 ?_
 refine C_bF rfl (decide_eq_false (by omega)) ?_
 refine A8 ?_
 refine R2 (d_sliceW sl51 (by rw [hll,mmT_len,mkT_len];omega)) rfl rfl ?_
 refine A9 ?_
 refine A1 ?_
 refine cL (fun (i:Nat)=>i≤(lmT l++mmT mkT).length) (fun (i:Nat)=>upd (upd (upd (fun _=>none) 1 (some (.val (tL 8 true tTs l)))) 5 (some (.val (tL 8 true tTsM (lmT l++mmT mkT))))) 6 (some (.val (tI i)))) (fun (i:Nat)=>fun _=>none) [] (fun (i:Nat)=>(lmT l++mmT mkT).length - i) (0) (Nat.zero_le _) ?_
 intro i hI
 refine A9 ?_
 refine x9 rfl (fun h394=> ?_) (fun h394=> ?_)
 ·
  refine A9 ?_
  refine A2 ?_
  refine RGcaseD (t:=27) rfl (fun h395=> ?_) (fun h395=> ?_)
  ·
   refine A2 ?_
   refine RGon (decide_eq_true h395) rfl (x5 sl51 i (by omega) (gD (l:=(lmT l++mmT mkT)) (n:=i) (d:=tm0) (by omega))) rfl ⟨rfl,rfl,trivial⟩ trivial trivial ?_
   refine A3 ?_
   refine RGon (decide_eq_true h395) rfl (x5 sl51 i (by omega) (gD (l:=l) (n:=i) (d:=tst0) (by omega))) rfl ⟨rfl,rfl,trivial⟩ trivial trivial ?_
   refine A1 ?_
   refine RGon (decide_eq_true h395) rfl (d_callL (ts:=[_,_]) (c_KeptStep (l.getD i tst0) (hs _ (xb6 (l:=l) (by omega))).1 (hs _ (xb6 (l:=l) (by omega))).2) fi168 rfl ⟨(by rw [lm_l (by omega)];exact Le.refl),Le.refl,trivial⟩) rfl ⟨rfl,rfl,trivial⟩ trivial trivial ?_
   refine A8 ?_
   refine RGoff (decide_eq_false (by omega)) rfl rfl (RGoff (decide_eq_false (by omega)) rfl rfl (RGoff (decide_eq_false (by omega)) rfl rfl (RGoff (decide_eq_false (by omega)) rfl rfl (RGoff (decide_eq_false (by omega)) rfl rfl (RGoff (decide_eq_false (by omega)) rfl rfl (RGoff (decide_eq_false (by omega)) rfl rfl (RGoff (decide_eq_false (by omega)) rfl rfl ?_)))))))
   refine RGoff (decide_eq_false (by omega)) rfl rfl (RGoff (decide_eq_false (by omega)) rfl rfl (RGoff (decide_eq_false (by omega)) rfl rfl (RGon rfl rfl (xd2 (decide_eq_false (by omega))) rfl ⟨rfl,rfl,trivial⟩ trivial trivial ?_)))
   refine A9 ?_
   refine A3 ?_
   exact kF (i+1) ⟨(by omega),(by omega)⟩
  ·
   refine A9 ?_
   refine A8 ?_
   refine RGon (decide_eq_true (by omega)) rfl xa2 rfl ⟨rfl,trivial⟩ trivial trivial (RGon (decide_eq_true (by omega)) rfl xa2 rfl ⟨rfl,trivial⟩ trivial trivial (RGon (decide_eq_true (by omega)) rfl (x5 sl51 i (by omega) (gD (l:=(lmT l++mmT mkT)) (n:=i) (d:=tm0) (by omega))) rfl ⟨rfl,rfl,trivial⟩ trivial trivial (RGon (decide_eq_true (by omega)) rfl (xf3 ti59) rfl ⟨rfl,trivial⟩ trivial trivial (RGon (decide_eq_true (by omega)) rfl xa2 rfl ⟨rfl,trivial⟩ trivial trivial (RGon (decide_eq_true (by omega)) rfl xa2 rfl ⟨rfl,trivial⟩ trivial trivial (RGon (decide_eq_true (by omega)) rfl (d_len Tryz.underlying51) rfl ⟨rfl,trivial⟩ trivial trivial (RGon (decide_eq_true (by omega)) rfl (xe1 (r:=((i - l.length:Nat):Int)) (by rw [wr64 (by omega) (by omega)];omega)) rfl ⟨rfl,rfl,trivial⟩ trivial trivial ?_)))))))
   refine RGon (decide_eq_true (by omega)) rfl (d_callL (ts:=[_,_]) (c_markStep1 (i - l.length) (by omega)) fi158 rfl ⟨Le.refl,Le.refl,trivial⟩) rfl ⟨rfl,rfl,trivial⟩ trivial trivial (RGon (decide_eq_true (by omega)) rfl (d_callL (ts:=[_,_]) (c_SameStep (smk 1 (i - l.length)) (smk 1 (i - l.length))) fi169 rfl ⟨(by rw [lm_r (by omega) (by rw [mkT_len];omega),mkT_at (by omega)];exact Le.refl),Le.refl,trivial⟩) rfl ⟨rfl,rfl,trivial⟩ trivial trivial (RGon (decide_eq_true (by omega)) rfl d_not rfl ⟨rfl,trivial⟩ trivial trivial (RGon rfl rfl (xe6 (decide_eq_true (by omega))) rfl ⟨rfl,rfl,trivial⟩ trivial trivial ?_)))
   refine A3 ?_
   refine C_bF rfl (xb3 (by rfl)) ?_
   refine A8 ?_
   exact kF (i+1) ⟨(by omega),(by omega)⟩
 ·
  refine A9 ?_
  refine A2 ?_
  exact x4 Plain.mk' rfl rfl Le.refl
end An.S

/- What is written over lent steps and numbers. -/
namespace An.S
open Go Go.Proofs An
set_option maxHeartbeats 2000000
set_option maxRecDepth 100000
instance fi85:FnI Tryz.prog 85:=⟨_,Tryz.func85,by kernel_rfl,rfl⟩
instance fi171:FnI Tryz.prog 171:=⟨_,Tryz.func171,by kernel_rfl,rfl⟩
instance fi172:FnI Tryz.prog 172:=⟨_,Tryz.func172,by kernel_rfl,rfl⟩
instance fi261:FnI Tryz.prog 261:=⟨_,Tryz.func261,by kernel_rfl,rfl⟩
instance fi262:FnI Tryz.prog 262:=⟨_,Tryz.func262,by kernel_rfl,rfl⟩
/-- The first k limbs are written over. -/
def ovr (l:List Nat):Nat→List Nat
  | 0=>l
  | k+1=>(ovr l k).set k ((9000027+k)%65536)
theorem ovr_len {l:List Nat}: ∀{k:Nat},(ovr l k).length=l.length
  | 0=>rfl
  | k+1=>by rw [ovr,List.length_set,ovr_len]
theorem cutM2 {i:Nat}:IntKind.u16.wrap (1000003*(((2:Nat):Int)+7)+(i:Int))=(((9000027+i)%65536:Nat):Int):=by rw [mu16];omega
theorem c_mark2 (i:Nat) (hi:i < 10000000):Ct Tryz.prog 146 [tI 2,tI i] (tI (1000003*(((2:Nat):Int)+7)+(i:Int))):=c_markK 2 i (by decide) hi
theorem c_markStep2 (i:Nat) (hi:i < 10000000):Ct Tryz.prog 158 [tI 2,tI i] (tTs (smk 2 i)):=(c_markStep 2 i (by decide) hi).toCt fun _=>tG_le
theorem c_OverLimbsG (l:List Nat) (n:Nat) (hn:n+12≤l.length) (hb:n≤9000000):
  CtG Tryz.prog 262 [(1,⟨64,1,false,rW .u16 l⟩)] [.own (.sl 1 1 0 n)] (.val (tT [])) [(1,⟨64,1,false,rW .u16 (ovr l (n+12))⟩)] []:=by
 refine CtG.intro [1] Tryz.func262 rfl Tryz.ntmps262 rfl rfl ⟨⟨rfl,xd8⟩,trivial⟩ ?_
 intro w F η
 refine A4 ?_
 refine RE (d_capO Tryz.underlying37) ⟨rfl,trivial⟩ ⟨rfl,trivial⟩ trivial ?_
 refine A3 ?_
 refine R2 (d_minX (v:=((n+12:Nat):Int)) (fun q hq=>by rw [rW_len] at hq;omega)) rfl rfl (RE (d_sliceOX sl37 (n+12) rfl (by rw [rW_len];omega)) ⟨rfl,rfl,trivial⟩ ⟨rfl,trivial⟩ trivial ?_)
 refine A9 ?_
 refine cL (fun (i:Nat)=>i≤n+12) (fun (i:Nat)=>upd (upd (fun _=>none) 2 (some (.own (.sl 1 1 0 (n+12))))) 3 (some (.val (tI i)))) (fun (i:Nat)=>upd (fun _=>none) 1 (some (⟨64,1,false,rW .u16 (ovr l i)⟩))) [1] (fun (i:Nat)=>n+12 - i) (0) (Nat.zero_le _) (hh:=((SubK.consI rfl (ImpK.of rfl)) SubK.nil)) ?_
 intro i hI
 refine A9 ?_
 refine x9 rfl (fun h85=> ?_) (fun h85=> ?_)
 ·
  refine A8 ?_
  refine R2 (x3 (c_mark2 i (by omega)) fi146 rfl) rfl rfl (R1 (x6 Tryz.underlying64 (isS Tryz.underlying3) cutM2) rfl (R2 (xa5 sl37 (by omega) (by omega) rfl) rfl rfl (RE (xc1 (i) ti64 (rW_lt (by rw [ovr_len];omega)) (by omega) (rW_set (m:=_) rfl)) ⟨rfl,rfl,trivial⟩ ⟨rfl,trivial⟩ trivial ?_)))
  refine A8 ?_
  exact kF (i+1) ⟨(by omega),(by omega)⟩ (hh:=((SubK.consI rfl (ImpK.of rfl)) SubK.nil))
 ·
  have him:i=n+12:=by omega
  subst him
  refine A4 ?_
  exact E_retG0 LentC.mk' rfl (.inr rfl) ⟨rfl,trivial⟩ ⟨⟨rfl,xd8⟩,trivial⟩ rfl
/-- A slice of limbs in a block that may be written over. -/
theorem v_OverLimbs (V:VM) (n:Nat) (hb:n≤9000000):CtV Tryz.prog (XV 64 V) 262 [] [.val (tSlV V n)] 0 0:=by
  intro w η vs hvs _ _ hD hJ
  match vs,hvs with
  | [v],hvs=>
  obtain ⟨b,m,c,rfl,hV,hm⟩:=hvs.1
  have hJ:JV _ V w:=hJ
  obtain ⟨cs,h1,h2,h3,h4,h5⟩:=hJ b m c hV
  obtain ⟨xs,x1,x2⟩:=list_of (α:=Nat) (p:=fun i x=>cs[i]? =some (.int .u16 x)) m h5
  have hown: ∀b',OwnK (⟨fun _=>b,fun _=>c,fun _=>False⟩:Env) [(1,⟨64,1,false,rW .u16 xs⟩)] b'→b'=b:=by
    rintro b' ⟨x,hx,_,rfl⟩
    rfl
  refine (c_OverLimbsG xs n (by omega) hb (fun _=>False) w ⟨fun _=>b,fun _=>c,fun _=>False⟩ [.slice (some ⟨b,0,none⟩) n c] ⟨⟨_,rfl,?_,fun _=> ?_⟩,trivial⟩ ?_ ?_ (fun _ h=>h.elim)).mono ?_
  · show 0+n≤c;omega
  · simp
  · intro x hx
    rw [List.mem_singleton] at hx
    subst hx
    refine ⟨by rw [rW_len,x1];exact h3,(show 0 < 1 by decide),fun _=>rfl,h4,fun _=>⟨cs,h1,by rw [h2,Nat.mul_one],fun i e he=> ?_⟩⟩
    rw [rW,List.getElem?_map] at he
    obtain ⟨y,hy,rfl⟩:=Option.map_eq_some_iff.1 he
    show pick false 1 cs (i*1)=_
    have:=x2 i y hy
    rw [Nat.mul_one,pick,cond_false,Array.getD_eq_getD_getElem?,this];rfl
  · intro x hx y hy hne
    rw [List.mem_singleton] at hx hy
    subst hx hy;exact absurd rfl hne
  · rintro e w' ⟨u,η',rfl,ho⟩
    have hu:u= .tuple #[]:=by
      obtain ⟨us,e1,e2⟩:=ho.res
      cases us with
      | nil=>exact e1
      | cons _ _=>exact e2.elim
    have es:=ho.same 1 (by simp)
    refine ⟨by rw [hu],ho.stp.mono fun b' _ hb'=> .inr ?_,fun b' m' c' hV'=> ?_⟩
    · rw [hown b' hb'];exact ⟨_,hV⟩
    · by_cases hbb:b'=b
      · subst hbb
        rw [hV] at hV'
        cases hV'
        have hk:=ho.keys _ (List.mem_singleton.2 rfl)
        obtain ⟨k1,k2,k3,k4,k5⟩:=hk
        have ec:η'.c 1=c:=es.2
        have eb:η'.b 1=b':=es.1
        simp only at k1 k4 k5
        rw [ec] at k1 k4 k5
        rw [eb] at k5
        rw [rW_len,ovr_len,x1] at k1
        obtain ⟨cs',g1,g2,g3⟩:=k5 (by omega)
        refine ⟨cs',g1,by rw [g2,Nat.mul_one],h3,h4,fun i hi=> ?_⟩
        have:=g3 i _ (rW_get (by rw [ovr_len,x1];exact hi))
        have h0:pick false 1 cs' (i*1)= .int .u16 ((ovr xs (n+12)).getD i 0:Nat):=this
        rw [Nat.mul_one,pick,cond_false,Array.getD_eq_getD_getElem?] at h0
        cases hg:cs'[i]? with
        | none=>rw [Array.getElem?_eq_none_iff] at hg;rw [g2] at hg;omega
        | some z=>rw [hg] at h0;exact ⟨_,by rw [show z=_ from h0]⟩
      · obtain ⟨cs0,z1,z2⟩:=hJ b' m' c' hV'
        exact ⟨cs0,(ho.stp.block b' (xa6 z1) fun h=>hbb (hown b' h)).trans z1,z2⟩
abbrev tWhV (V:VM) (x:Wh):Ty:=tS [⟨1,false,tB x.neg⟩,⟨1,false,tSlV V x.l.length⟩]
abbrev tFrV (V:VM) (f:Fr):Ty:=tS [⟨2,true,tWhV V f.n⟩,⟨2,true,tWhV V f.d⟩]
abbrev tVaV (V:VM) (v:Va):Ty:=tS [⟨1,false,tE (.int .u8 (v.kind:Int))⟩,⟨4,true,tFrV V v.f⟩,⟨1,false,tI v.i⟩]
abbrev tTsV (V:VM) (s:Tst):Ty:=tS [⟨1,false,tI s.lo⟩,⟨1,false,tI s.hi⟩,⟨6,true,tVaV V s.v⟩]
theorem free_wh {V:VM} {x:Wh}:Free (tWhV V x):=Free.S ⟨Free.E,free_tSlV,trivial⟩
theorem free_fr {V:VM} {f:Fr}:Free (tFrV V f):=Free.S ⟨free_wh,free_wh,trivial⟩
theorem free_va {V:VM} {v:Va}:Free (tVaV V v):=Free.S ⟨Free.E,free_fr,Free.E,trivial⟩
theorem free_ts {V:VM} {s:Tst}:Free (tTsV V s):=Free.S ⟨Free.E,Free.E,free_va,trivial⟩
/-- A lent step, or a mark behind them. -/
abbrev tTsVM (V:VM) (x:Tst×Bool):Ty:=cond x.2 (tTsV V x.1) (tTs x.1)
instance {V:VM} {x:Tst×Bool}:Shape (tTsVM V x) 8 true:=by
  obtain ⟨s,b⟩:=x
  cases b
  · exact (inferInstance:Shape (tTs s) 8 true)
  · exact (inferInstance:Shape (tTsV V s) 8 true)
theorem rowV {V:VM} {l:List Tst} {m:List Tst} {i:Nat} (h:i < l.length):(rV (tTsVM V) (lmT l++mmT m))[i]? =some (.val (tTsV V (l.getD i tst0))):=by
  have:=rV_getD (f:=tTsVM V) (xs:=lmT l++mmT m) (i:=i) (d:=tm0) (by rw [List.length_append,xh3];omega)
  rw [lm_l h] at this;exact this
theorem v_OverWhole (V:VM) (x:Wh) (hb:x.l.length≤9000000):
    CtV Tryz.prog (XV 64 V) 172 [] [.val (tWhV V x)] 0 0:=by
  refine CtV.intro 99 [] Tryz.func172 rfl Tryz.ntmps172 rfl rfl trivial rfl ?_
  intro w η hV
  refine A8 ?_
  refine RE (d_callV hV (us:=[_]) (v_OverLimbs V _ hb) fi262 ⟨free_tSlV,trivial⟩ rfl) ⟨rfl,trivial⟩ ⟨rfl,trivial⟩ trivial ?_
  refine A1 ?_
  exact E_retV hV rfl (.inr rfl) rfl
theorem v_OverFrac (V:VM) (f:Fr) (h1:f.n.l.length≤9000000) (h2:f.d.l.length≤9000000):
    CtV Tryz.prog (XV 64 V) 85 [] [.val (tFrV V f)] 0 0:=by
  refine CtV.intro 99 [] Tryz.func85 rfl Tryz.ntmps85 rfl rfl trivial rfl ?_
  intro w η hV
  refine A9 ?_
  refine RE (d_callV hV (us:=[_]) (v_OverWhole V _ h1) fi172 ⟨free_wh,trivial⟩ rfl) ⟨rfl,trivial⟩ ⟨rfl,trivial⟩ trivial ?_
  refine A5 ?_
  refine RE (d_callV hV (us:=[_]) (v_OverWhole V _ h2) fi172 ⟨free_wh,trivial⟩ rfl) ⟨rfl,trivial⟩ ⟨rfl,trivial⟩ trivial ?_
  refine A1 ?_
  exact E_retV hV rfl (.inr rfl) rfl
theorem v_OverValue (V:VM) (v:Va) (h1:v.f.n.l.length≤9000000) (h2:v.f.d.l.length≤9000000):
    CtV Tryz.prog (XV 64 V) 261 [] [.val (tVaV V v)] 0 0:=by
  refine CtV.intro 99 [] Tryz.func261 rfl Tryz.ntmps261 rfl rfl trivial rfl ?_
  intro w η hV
  refine A8 ?_
  refine RE (d_callV hV (us:=[_]) (v_OverFrac V _ h1 h2) fi85 ⟨free_fr,trivial⟩ rfl) ⟨rfl,trivial⟩ ⟨rfl,trivial⟩ trivial ?_
  refine A1 ?_
  exact E_retV hV rfl (.inr rfl) rfl
theorem v_OverStep (V:VM) (s:Tst) (h1:s.v.f.n.l.length≤9000000) (h2:s.v.f.d.l.length≤9000000):
    CtV Tryz.prog (XV 64 V) 171 [] [.val (tTsV V s)] 0 0:=by
  refine CtV.intro 99 [] Tryz.func171 rfl Tryz.ntmps171 rfl rfl trivial rfl ?_
  intro w η hV
  refine A8 ?_
  refine RE (d_callV hV (us:=[_]) (v_OverValue V _ h1 h2) fi261 ⟨free_va,trivial⟩ rfl) ⟨rfl,trivial⟩ ⟨rfl,trivial⟩ trivial ?_
  refine A1 ?_
  exact E_retV hV rfl (.inr rfl) rfl
theorem v_OverSteps (V:VM) (l:List Tst) (hl:l.length≤60) (hs: ∀s∈l,s.v.f.n.l.length≤9000000∧s.v.f.d.l.length≤9000000):
    CtV Tryz.prog (XV 64 V) 84 [(1,⟨59,8,true,rV (tTsVM V) (lmT l++mmT mkT)⟩)] [.own (.sl 1 8 0 l.length)] 0 0:=by
  have hml:(lmT l++mmT mkT).length=l.length+12:=by rw [List.length_append,xh3,mmT_len,mkT_len]
  refine CtV.intro 99 [1] Tryz.func84 rfl Tryz.ntmps84 rfl rfl ⟨⟨rfl,xb0⟩,trivial⟩ rfl ?_
  intro w η hV
  refine A7 ?_
  refine cL (fun (i:Nat)=>i≤l.length) (fun (i:Nat)=>upd (upd (fun _=>none) 0 (some (.own (.sl 1 8 0 l.length)))) 2 (some (.val (tI i)))) (fun (i:Nat)=>upd (upd (fun _=>none) 1 (some (⟨59,8,true,rV (tTsVM V) (lmT l++mmT mkT)⟩))) 99 (some (⟨0,1,false,[]⟩))) [1,99] (fun (i:Nat)=>l.length - i) (0) (Nat.zero_le _) (hh:=((SubK.consI rfl ImpK.refl) ((SubK.consI rfl ImpK.refl) SubK.nil))) ?_
  intro i hI
  refine A9 ?_
  refine x9 rfl (fun h403=> ?_) (fun h403=> ?_)
  ·
    refine A7 ?_
    refine R2 (xa5 sl51 (by omega) (by omega) rfl) rfl rfl ?_
    refine RE (xd0 (i) ti59 (rowV (by omega)) (by omega)) ⟨rfl,trivial⟩ ⟨rfl,trivial⟩ trivial ?_
    refine RE (d_callV hV (us:=[_]) (v_OverStep V (l.getD i tst0) (hs _ (xb6 (l:=l) (by omega))).1 (hs _ (xb6 (l:=l) (by omega))).2) fi171 ⟨free_ts,trivial⟩ rfl) ⟨rfl,trivial⟩ ⟨rfl,trivial⟩ trivial ?_
    refine A8 ?_
    exact kF (i+1) ⟨(by omega),(by omega)⟩ (hh:=((SubK.consI rfl ImpK.refl) ((SubK.consI rfl ImpK.refl) SubK.nil)))
  ·
    refine A9 ?_
    refine RE (d_capO Tryz.underlying51) ⟨rfl,trivial⟩ ⟨rfl,trivial⟩ trivial ?_
    refine A3 ?_
    refine R2 (d_minX (v:=((l.length+12:Nat):Int)) (fun q hq=>by rw [xc8,hml] at hq;omega)) rfl rfl ?_
    refine RE (d_sliceOX sl51 (l.length+12) rfl (by have:=hml;rw [xc8];omega)) ⟨rfl,rfl,trivial⟩ ⟨rfl,trivial⟩ trivial ?_
    refine A9 ?_
    refine cL (fun (fm:(Nat)×(List (Tst×Bool)))=>(fun (i:Nat) (xs:List (Tst×Bool))=>i≤l.length+12∧xs.length=l.length+12) fm.1 fm.2) (fun (fm:(Nat)×(List (Tst×Bool)))=>(fun (i:Nat) (xs:List (Tst×Bool))=>upd (upd (fun _=>none) 3 (some (.own (.sl 1 8 0 (l.length+12))))) 4 (some (.val (tI i)))) fm.1 fm.2) (fun (fm:(Nat)×(List (Tst×Bool)))=>(fun (i:Nat) (xs:List (Tst×Bool))=>upd (upd (fun _=>none) 1 (some (⟨59,8,true,rV (tTsVM V) xs⟩))) 99 (some (⟨0,1,false,[]⟩))) fm.1 fm.2) [1,99] (fun (fm:(Nat)×(List (Tst×Bool)))=>(fun (i:Nat) (xs:List (Tst×Bool))=>l.length+12 - i) fm.1 fm.2) ((0,(lmT l++mmT mkT))) (by dsimp only;exact ⟨Nat.zero_le _,hml⟩) (hh:=((SubK.consI rfl ImpK.refl) ((SubK.consI rfl ImpK.refl) SubK.nil))) ?_
    intro fm hI
    obtain ⟨i,xs⟩:=fm
    replace hI:i≤l.length+12∧xs.length=l.length+12:=hI
    show wc _ _ _ _ (upd (upd (fun _=>none) 3 (some (.own (.sl 1 8 0 (l.length+12))))) 4 (some (.val (tI i)))) (upd (upd (fun _=>none) 1 (some (⟨59,8,true,rV (tTsVM V) xs⟩))) 99 (some (⟨0,1,false,[]⟩))) _
    obtain ⟨hi,hxl⟩:=hI
    refine A9 ?_
    refine x9 rfl (fun h407=> ?_) (fun h407=> ?_)
    ·
      refine A8 ?_
      refine R2 (x3 (c_markStep2 i (by omega)) fi158 rfl) rfl rfl ?_
      refine R2 (xa5 sl51 (by omega) (by omega) rfl) rfl rfl ?_
      refine RE (xc1 (e:= .val (tTs (smk 2 i))) (i) ti59 (rV_lt (f:=tTsVM V) (xs:=xs) (by omega)) (by omega) (rV_set (f:=tTsVM V) (xs:=xs) (t:=tTs (smk 2 i)) (m:=(smk 2 i,false)) rfl)) ⟨rfl,rfl,trivial⟩ ⟨rfl,trivial⟩ trivial ?_
      refine A8 ?_
      exact kF ((i+1,xs.set i (smk 2 i,false))) ⟨(by dsimp only;exact ⟨by omega,by rw [List.length_set];exact hxl⟩),(by dsimp only;omega)⟩ (hh:=((SubK.consI rfl ImpK.refl) ((SubK.consI rfl ImpK.refl) SubK.nil)))
    ·
      refine A4 ?_
      exact E_retV hV rfl (.inr rfl) rfl
end An.S

/- Laws that overwrite what they have lent. For any program. -/
namespace An
open Go
section
variable {P:Program} {g:Slots} {h:Keys} {al:Names} {Q:Exit→Act→World→Prop}
abbrev ovb (N:Nat) (w0:World) (F:Dom) (K:Nat) (X:OvJ):Base:=Base.over N w0 F ⟨fun _=>0,fun _=>0,fun _=>False⟩ [] [] K X
theorem RBase.ov {N:Nat} {w0:World} {F:Dom} {K:Nat} {X:OvJ} (h: ∀b,X.D b→w0.heap.size≤b):RBase (ovb N w0 F K X) w0:=⟨Ext.refl w0,fun _ ⟨_,hx,_⟩=>(by cases hx),h⟩
end
theorem tG_old {n:Nat} {L:Dom} {t:Ty} (h: ∀b,L b→n≤b):Le (tG (fun b=>b < n) t) (tG (fun b=> ¬L b) t):=tG_sub fun b hb hl=>by have:=h b hl;omega
/-- What was lent is handed to a call. -/
theorem XL_hand {T:Nat} {L F:Dom} {w1 w:World} {W:Ty} {v:Value} (hW:W.p L w1 v) (hJ:(XL T L w1).J 0 w):W.p (fun b=>F b∨L b) w v:=W.mono hW fun b _ hb hl _=>⟨.inr hb,(hJ.1 rfl b hb).trans hl⟩
/-- Arguments: what was lent, or others. -/
def HandL (T:Nat) (L:Dom) (w1:World):List Ty→List Ty→Prop
  | [],[]=>True
  | t::r,u::s=>(Le t u∨ ∃v,t=tE v∧u.p L w1 v)∧HandL T L w1 r s
  | _,_=>False
theorem HandL.all {T:Nat} {L F:Dom} {w1 w:World} (hJ:(XL T L w1).J 0 w): ∀{ts us:List Ty} {vs:List Value},HandL T L w1 ts us→Tup.all F w ts vs→Tup.all (fun b=>F b∨L b) w us vs
  | [],[],[],_,_=>trivial
  | t::r,u::s,v::vs,h,hv=>by
    refine ⟨?_,HandL.all hJ h.2 hv.2⟩
    rcases h.1 with h1 | ⟨v',rfl,h2⟩
    · exact u.mono (h1 _ _ _ hv.1) fun b _ hb hl _=>⟨.inl hb,hl⟩
    · have e:v=v':=hv.1
      subst e;exact XL_hand h2 hJ
  | [],[],_::_,_,hv=>hv.elim
  | _::_,_::_,[],_,hv=>hv.elim
  | [],_::_,_,h,_=>h.elim
  | _::_,[],_,h,_=>h.elim
section
variable {P:Program} {c:Base} {d ty:Nat} {pos:String} {af:Array Edge} {gd:Option (Nat×Bool)}
/-- A call that is handed what was lent, and hands back what is new. -/
theorem d_callH {T K:Nat} {L:Dom} {w1:World} {f:FuncId} {xs:List Operand} {aT:Array TypeId} {us us':List Ty} {rr:Nat→Ty} {r:Ty} {w0:World} {η0:Env} {H:List (Nat×HEnt)} (hp:OvC c w0 η0 H K (XL T L w1)) (hc:CtN P f us rr) (hf:FnI P f) (hr: ∀m F w v,(rr m).p F w v→r.p (fun b=>F b∧m≤b) w v)
    (ha:HandL T L w1 us' us) (hl:xs.length=us'.length):
    Does P c ⟨some d,.call {callee:= .value (.func f),args:=xs.toArray,argTypes:=aT},ty,pos,af,gd⟩ ⟨xs.zip (us'.map Ent.val),[(K,⟨0,1,false,[]⟩)],some (d,some (.val r)),[],[]⟩:=
  d_callX hp hc hf hr (fun _ _ _ hJ hv=>HandL.all hJ ha hv) hl
end
theorem hrE {rr:Nat→Ty} {u:Value} (h: ∀m,rr m=tE u) (m:Nat) (F:Dom) (w:World) (v:Value) (hp:(rr m).p F w v):(tE u).p (fun b=>F b∧m≤b) w v:=by rw [h m] at hp;exact hp
theorem hrT {t:Ty} {u:Value} (m:Nat) (F:Dom) (w:World) (v:Value) (hp:(tT [tG (up m) t,tE u]).p F w v):(tT [t,tE u]).p (fun b=>F b∧m≤b) w v:=by
  obtain ⟨vs,h1,h2⟩:=hp
  refine ⟨vs,h1,?_⟩
  match vs,h2 with
  | [a,b],h2=>exact ⟨h2.1,h2.2.1,trivial⟩
  | [],h2=>exact h2.elim
  | [_],h2=>exact h2.2.elim
  | _::_::_::_,h2=>exact h2.2.2.elim
end An

/- What was lent to a law is written over. -/
namespace An.S
open Go Go.Proofs An
set_option maxHeartbeats 2000000
set_option maxRecDepth 100000
/-- Structs, field by field, from one memory to the other. -/
def Trs (F F':Dom) (w w':World):List Fd→List Fd→Prop
  | [],[]=>True
  | f::r,g::s=>(f.n=g.n∧f.agg=g.agg∧ ∀v,f.t.p F w v→g.t.p F' w' v)∧Trs F F' w w' r s
  | _,_=>False
theorem Trs.sum {F F':Dom} {w w':World}: ∀{fs gs:List Fd},Trs F F' w w' fs gs→Fd.sum fs=Fd.sum gs
  | [],[],_=>rfl
  | _::_,_::_,h=>by rw [Fd.sum,Fd.sum,h.1.1,Trs.sum h.2]
  | [],_::_,h=>h.elim
  | _::_,[],h=>h.elim
theorem Trs.all {F F':Dom} {w w':World} {cs:Array Value}: ∀{fs gs:List Fd} {o:Nat},Trs F F' w w' fs gs→Fd.all F w cs o fs→Fd.all F' w' cs o gs
  | [],[],_,_,_=>trivial
  | f::r,g::s,o,h,ha=>by
    obtain ⟨⟨h1,h2,h3⟩,h4⟩:=h
    refine ⟨⟨by rw [←h1,←h2];exact ha.1.1,by rw [←h1,←h2];exact h3 _ ha.1.2⟩,?_⟩
    rw [←h1];exact Trs.all h4 ha.2
  | [],_::_,_,h,_=>h.elim
  | _::_,[],_,h,_=>h.elim
theorem Trs.S {F F':Dom} {w w':World} {fs gs:List Fd} (h:Trs F F' w w' fs gs): ∀v,(tS fs).p F w v→(tS gs).p F' w' v:=fun _ ⟨cs,h1,h2,h3⟩=>⟨cs,h1,h2.trans h.sum,h.all h3⟩
theorem lmW_V {L F:Dom} {w1 w:World} {l:List Nat} (v:Value) (h:(tLmW l).p L w1 v):(tSlV (vOf 64 L w1) l.length).p F w v:=by
  obtain ⟨b,c,cs,h1,hF,hh,h2,h3,h4,h5,h6,hx⟩:=h
  rw [Nat.mul_one] at h2
  obtain ⟨m,hm,hle⟩:=vOf_mk (n:=l.length+12) hF hh (by omega) (fun i hi=>by
    have hlt:i < (l++mk16).length:=by rw [List.length_append,mk16_len];omega
    have:=hx i _ (List.getElem?_eq_getElem hlt)
    have h0:pick false 1 cs (i*1)= .int .u16 (((l++mk16)[i]:Nat):Int):=this
    rw [Nat.mul_one,pick,cond_false,Array.getD_eq_getD_getElem?] at h0
    rw [mk16_len] at h5
    cases hg:cs[i]? with
    | none=>rw [Array.getElem?_eq_none_iff] at hg;omega
    | some z=>rw [hg] at h0;exact ⟨_,by rw [show z=_ from h0]⟩)
  exact ⟨b,m,cs.size,by rw [h1,h2],hm,hle⟩
theorem whW_V {L F:Dom} {w1 w:World} {x:Wh}: ∀v,(tWhW x).p L w1 v→(tWhV (vOf 64 L w1) x).p F w v:=Trs.S ⟨⟨rfl,rfl,fun _ h=>h⟩,⟨rfl,rfl,lmW_V⟩,trivial⟩
theorem frW_V {L F:Dom} {w1 w:World} {f:Fr}: ∀v,(tFrW f).p L w1 v→(tFrV (vOf 64 L w1) f).p F w v:=Trs.S ⟨⟨rfl,rfl,whW_V⟩,⟨rfl,rfl,whW_V⟩,trivial⟩
theorem vaW_V {L F:Dom} {w1 w:World} {x:Va}: ∀v,(tVaW x).p L w1 v→(tVaV (vOf 64 L w1) x).p F w v:=Trs.S ⟨⟨rfl,rfl,fun _ h=>h⟩,⟨rfl,rfl,frW_V⟩,⟨rfl,rfl,fun _ h=>h⟩,trivial⟩
theorem tsW_V {L F:Dom} {w1 w:World} {s:Tst}: ∀v,(tTsW s).p L w1 v→(tTsV (vOf 64 L w1) s).p F w v:=Trs.S ⟨⟨rfl,rfl,fun _ h=>h⟩,⟨rfl,rfl,fun _ h=>h⟩,⟨rfl,rfl,vaW_V⟩,trivial⟩
theorem Free.nil {α:Type} {es:Nat} {agg:Bool} {f:α→Ty}:Free (tL es agg f []):=fun _ _ _ _ _ ⟨A,c,h1,h2,h3,_⟩=>⟨A,c,h1,h2,h3,.inl rfl⟩
theorem free_smk {k i:Nat}:Free (tTs (smk k i)):=Free.S ⟨Free.E,Free.E,Free.S ⟨Free.E,Free.S ⟨Free.S ⟨Free.E,Free.nil,trivial⟩,Free.S ⟨Free.E,Free.nil,trivial⟩,trivial⟩,Free.E,trivial⟩,trivial⟩
theorem lm_mem {l:List Tst} {i:Nat} {x:Tst×Bool} (h:(lmT l++mmT mkT)[i]? =some x):x.2=true∨ ∃j,x=(smk 1 j,false):=by
  have hm:=List.mem_of_getElem? h
  rcases List.mem_append.1 hm with h1 | h1
  · obtain ⟨s,_,rfl⟩:=List.mem_map.1 h1;exact .inl rfl
  · obtain ⟨s,hs,rfl⟩:=List.mem_map.1 h1
    obtain ⟨j,_,rfl⟩:=List.mem_map.1 hs
    exact .inr ⟨j,rfl⟩
theorem tsM_V {L F:Dom} {w1 w:World} {x:Tst×Bool} (hx:x.2=true∨ ∃j,x=(smk 1 j,false)) {v:Value} (h:(tTsM x).p L w1 v):(tTsVM (vOf 64 L w1) x).p F w v:=by
  rcases hx with hx | ⟨j,rfl⟩
  · obtain ⟨s,b⟩:=x
    have hx:b=true:=hx
    subst hx;exact tsW_V v h
  · exact free_smk _ _ _ _ _ h
theorem v_OverStepsL (L:Dom) (w1:World) (l:List Tst) (hl:l.length≤60) (hs: ∀s∈l,s.v.f.n.l.length≤9000000∧s.v.f.d.l.length≤9000000) (v:Value) (hv:(tStW l).p L w1 v):CtV Tryz.prog (XL 64 L w1) 84 [] [.val (tE v)] 0 1:=by
  intro w η vs hvs _ _ hD hJ
  match vs,hvs with
  | [u],hvs=>
  have hu:u=v:=hvs.1
  subst hu
  obtain ⟨b,c,cs,e,hLb,hh,h2,h3,h4,h5,h6,hx⟩:=hv
  have hJ:(∀_:0=0,∀b,L b→w.heap[b]? =w1.heap[b]?)∧_:=hJ
  have hw:=(hJ.1 rfl b hLb).trans hh
  rw [xh3,mmT_len,mkT_len] at h5
  rw [xh3] at e
  have hown: ∀b',OwnK (⟨fun _=>b,fun _=>c,fun _=>False⟩:Env) [(1,⟨59,8,true,rV (tTsVM (vOf 64 (fun b'=>L b'∧b'≠b) w1)) (lmT l++mmT mkT)⟩)] b'→b'=b:=by
    rintro b' ⟨x,hx,_,rfl⟩
    rfl
  refine (v_OverSteps (vOf 64 (fun b'=>L b'∧b'≠b) w1) l hl hs w ⟨fun _=>b,fun _=>c,fun _=>False⟩ [u] ⟨⟨_,e,?_,fun _=> ?_⟩,trivial⟩ ?_ ?_ (fun b' hb'=> ?_) (vOf_JV fun b' hb=>hJ.1 rfl b' hb.1)).mono ?_
  · show 0+l.length≤c;omega
  · simp
  · intro y hy
    rw [List.mem_singleton] at hy
    subst hy
    refine ⟨by rw [xc8,List.length_append,xh3,mmT_len,mkT_len];exact h5,h3,h4,h6,fun _=>⟨cs,hw,h2,fun i ent he=> ?_⟩⟩
    rw [rV,List.getElem?_map] at he
    obtain ⟨y,hy,rfl⟩:=Option.map_eq_some_iff.1 he
    exact tsM_V (lm_mem hy) (hx i y hy)
  · intro x hx y hy hne
    rw [List.mem_singleton] at hx hy
    subst hx hy;exact absurd rfl hne
  · obtain ⟨x,hxb⟩:=hb'
    have h7:=(vOf_some (m:=x.1) (c:=x.2) hxb).1
    exact ⟨(hD b' h7.1).1,fun ho=>h7.2 (hown b' ho)⟩
  · rintro e' w' ⟨r1,r2,r3⟩
    refine ⟨r1,r2.mono fun b' _ hb'=> .inr ?_,fun h=>(by cases h),fun _ b' m c' hV=> ?_,fun b' hb'=>Nat.lt_of_lt_of_le (hD b' hb').1 r2.size⟩
    · rcases hb' with hb' | ⟨x,hxb⟩
      · rw [hown b' hb'];exact hLb
      · exact (vOf_some (m:=x.1) (c:=x.2) hxb).1.1
    · obtain ⟨k1,cs1,k2,_⟩:=vOf_some hV
      have hne:b'≠b:=by
        rintro rfl
        rw [hh] at k2
        have k3:(59:Nat)=64:=by injection k2 with k2;injection k2
        exact absurd k3 (by decide)
      refine r3 b' m c' ?_
      rw [←hV];unfold vOf;rw [if_pos k1,if_pos ⟨k1,hne⟩]
end An.S

/- The reference of layer 5 for values. -/
namespace An.S
open Go Go.Proofs An
set_option maxHeartbeats 2000000
set_option maxRecDepth 100000
instance fi199:FnI Tryz.prog 199:=⟨_,Tryz.func199,by kernel_rfl,rfl⟩
theorem fr0_eq {f:Fr} (h1:f.n.neg=false) (h2:f.d.neg=false) (h3:f.n.l.length=0) (h4:f.d.l.length=0):f=fr0:=by
  obtain ⟨⟨n1,l1⟩,⟨n2,l2⟩⟩:=f
  simp only at h1 h2 h3 h4
  rw [h1,h2,List.length_eq_zero_iff.1 h3,List.length_eq_zero_iff.1 h4];rfl
theorem fr0_ne {f:Fr} (h:f.n.neg=true∨f.d.neg=true∨0 < f.n.l.length∨0 < f.d.l.length):f≠fr0:=by
  rintro rfl
  rcases h with h | h | h | h <;> cases h
theorem va_no {v:Va} (h1: ¬(v.kind=2∨v.kind=3)) (h2:v.f≠fr0):v.valid=false:=by
  simp only [Va.valid]
  rw [if_neg h1,decide_eq_false h2]
  simp
theorem va_eq {u v:Va}:u=v↔u.kind=v.kind∧u.i=v.i∧u.f.n=v.f.n∧u.f.d=v.f.d:=by
  constructor
  · rintro rfl;exact ⟨rfl,rfl,rfl,rfl⟩
  · obtain ⟨k,⟨n,d⟩,i⟩:=u
    obtain ⟨k2,⟨n2,d2⟩,i2⟩:=v
    rintro ⟨h1,h2,h3,h4⟩
    simp only at h1 h2 h3 h4
    rw [h1,h2,h3,h4]
theorem c_R5Valid (v:Va) (hD:v.f.dig) (h1:v.f.n.l.length≤1048576) (h2:v.f.d.l.length≤1048576):
  Ct Tryz.prog 122 [tVa v] (tB v.valid):=by
 refine Ct.intro Tryz.func122 rfl Tryz.ntmps122 rfl ?_
 intro w F
 refine A9 ?_
 refine A4 ?_
 refine RGcaseD (t:=6) rfl (fun h14=> ?_) (fun h14=> ?_)
 ·
  refine A9 ?_
  refine A4 ?_
  refine RGcaseD (t:=14) rfl (fun h15=> ?_) (fun h15=> ?_)
  ·
   refine A2 ?_
   refine RGon (decide_eq_true h15) rfl (x3 (c_R2Valid v.f hD.1 hD.2) fi52 rfl) rfl ⟨rfl,trivial⟩ trivial trivial ?_
   refine A6 ?_
   exact x4 Plain.mk' rfl rfl (Le.bool (by simp only [Va.valid];rw [if_pos (show v.kind=2∨v.kind=3 by omega),decide_eq_true h15,Bool.true_and]))
  ·
   refine A9 ?_
   exact x4 Plain.mk' rfl rfl (Le.bool (by simp only [Va.valid];rw [if_pos (show v.kind=2∨v.kind=3 by omega),decide_eq_false h15];rfl))
 ·
  refine A6 ?_
  refine x9 rfl (fun h14_2=> ?_) (fun h14_2=> ?_)
  ·
   refine A6 ?_
   refine RGcaseD (t:=14) rfl (fun h15=> ?_) (fun h15=> ?_)
   ·
    refine A2 ?_
    refine RGon (decide_eq_true h15) rfl (x3 (c_R2Valid v.f hD.1 hD.2) fi52 rfl) rfl ⟨rfl,trivial⟩ trivial trivial ?_
    refine A6 ?_
    exact x4 Plain.mk' rfl rfl (Le.bool (by simp only [Va.valid];rw [if_pos (show v.kind=2∨v.kind=3 by omega),decide_eq_true h15,Bool.true_and]))
   ·
    refine A9 ?_
    exact x4 Plain.mk' rfl rfl (Le.bool (by simp only [Va.valid];rw [if_pos (show v.kind=2∨v.kind=3 by omega),decide_eq_false h15];rfl))
  ·
   refine A8 ?_
   refine xg8 (0) ti4 rfl rfl rfl (At.t (At.g 1 rfl rfl) (At.t (At.g 0 rfl rfl) (At.g 0 rfl rfl))) rfl ?_
   refine A1 ?_
   refine RGcase (t:=23) rfl (fun h17=> ?_) (fun h17=> ?_)
   ·
    have hnf:v.f≠fr0:=fr0_ne (.inl h17)
    refine A9 ?_
    refine A9 ?_
    refine A9 ?_
    refine A2 ?_
    exact x4 Plain.mk' rfl rfl (Le.bool (va_no (by omega) hnf).symm)
   ·
    refine A3 ?_
    refine xc3 h17 rfl rfl (0) ti4 rfl rfl rfl (At.t (At.g 1 rfl rfl) (At.t (At.g 1 rfl rfl) (At.g 0 rfl rfl))) rfl ?_
    refine A2 ?_
    refine RGcase (t:=29) rfl (fun h17_2=> ?_) (fun h17_2=> ?_)
    ·
     have hnf:v.f≠fr0:=fr0_ne (.inr (.inl h17_2))
     refine A9 ?_
     refine A9 ?_
     refine A5 ?_
     exact x4 Plain.mk' rfl rfl (Le.bool (va_no (by omega) hnf).symm)
    ·
     refine A3 ?_
     refine xc3 h17_2 rfl rfl (0) ti37 rfl rfl rfl (At.t (At.g 1 rfl rfl) (At.t (At.g 0 rfl rfl) (At.g 1 rfl rfl))) rfl ?_
     refine A4 ?_
     refine xc3 h17_2 rfl rfl (0) ti37 rfl rfl rfl (At.t (At.g 1 rfl rfl) (At.t (At.g 1 rfl rfl) (At.g 1 rfl rfl))) rfl ?_
     refine A1 ?_
     refine RGon h17_2 rfl (xd1 (wr64 (by omega) (by omega))) rfl ⟨rfl,rfl,trivial⟩ trivial trivial ?_
     refine A4 ?_
     refine x9 rfl (fun h17_3=> ?_) (fun h17_3=> ?_)
     ·
      have hnf:v.f≠fr0:=fr0_ne (by omega)
      refine A7 ?_
      exact x4 Plain.mk' rfl rfl (Le.bool (va_no (by omega) hnf).symm)
     ·
      have hf0:v.f=fr0:=fr0_eq h17 h17_2 (by omega) (by omega)
      refine A9 ?_
      refine A7 ?_
      refine x9 rfl (fun h21=> ?_) (fun h21=> ?_)
      ·
       refine A6 ?_
       refine RGcaseD (t:=50) rfl (fun h22=> ?_) (fun h22=> ?_)
       ·
        refine A9 ?_
        refine A1 ?_
        exact x4 Plain.mk' rfl rfl (Le.bool (by simp only [Va.valid];rw [if_neg (show ¬(v.kind=2∨v.kind=3) by omega),if_pos (show v.kind=1 by omega),decide_eq_true hf0,Bool.true_and,decide_eq_true (show 0≤v.i by omega),decide_eq_true (show v.i≤1 by omega)];rfl))
       ·
        refine A9 ?_
        refine A1 ?_
        exact x4 Plain.mk' rfl rfl (Le.bool (by simp only [Va.valid];rw [if_neg (show ¬(v.kind=2∨v.kind=3) by omega),if_pos (show v.kind=1 by omega),decide_eq_true hf0,Bool.true_and,←Bool.decide_and];exact decide_eq_decide.2 (by omega)))
      ·
       refine A6 ?_
       refine x9 rfl (fun h23=> ?_) (fun h23=> ?_)
       ·
        refine A6 ?_
        refine RGcaseD (t:=60) rfl (fun h24=> ?_) (fun h24=> ?_)
        ·
         refine A9 ?_
         refine A1 ?_
         exact x4 Plain.mk' rfl rfl (Le.bool (by simp only [Va.valid];rw [if_neg (show ¬(v.kind=2∨v.kind=3) by omega),if_neg (show ¬v.kind=1 by omega),if_pos (show v.kind=4 by omega),decide_eq_true hf0,Bool.true_and,←Bool.decide_and];exact decide_eq_decide.2 (by omega)))
        ·
         refine A9 ?_
         refine A1 ?_
         exact x4 Plain.mk' rfl rfl (Le.bool (by simp only [Va.valid];rw [if_neg (show ¬(v.kind=2∨v.kind=3) by omega),if_neg (show ¬v.kind=1 by omega),if_pos (show v.kind=4 by omega),decide_eq_true hf0,Bool.true_and,decide_eq_false (show ¬0≤v.i by omega)];rfl))
       ·
        refine A7 ?_
        refine x9 rfl (fun h25=> ?_) (fun h25=> ?_)
        ·
         refine A2 ?_
         refine C_bT rfl (decide_eq_true (by omega)) ?_
         refine A6 ?_
         refine RGcaseD (t:=71) rfl (fun h26=> ?_) (fun h26=> ?_)
         ·
          refine A9 ?_
          refine A1 ?_
          exact x4 Plain.mk' rfl rfl (Le.bool (by simp only [Va.valid];rw [if_neg (show ¬(v.kind=2∨v.kind=3) by omega),if_neg (show ¬v.kind=1 by omega),if_neg (show ¬v.kind=4 by omega),if_pos (show v.kind=5∨v.kind=6 by omega),decide_eq_true hf0,Bool.true_and,←Bool.decide_and];exact decide_eq_decide.2 (by omega)))
         ·
          refine A9 ?_
          refine A1 ?_
          exact x4 Plain.mk' rfl rfl (Le.bool (by simp only [Va.valid];rw [if_neg (show ¬(v.kind=2∨v.kind=3) by omega),if_neg (show ¬v.kind=1 by omega),if_neg (show ¬v.kind=4 by omega),if_pos (show v.kind=5∨v.kind=6 by omega),decide_eq_true hf0,Bool.true_and,decide_eq_false (show ¬ -1048576≤v.i by omega)];rfl))
        ·
         refine A5 ?_
         refine x9 rfl (fun h25_2=> ?_) (fun h25_2=> ?_)
         ·
          refine A6 ?_
          refine RGcaseD (t:=71) rfl (fun h26=> ?_) (fun h26=> ?_)
          ·
           refine A9 ?_
           refine A1 ?_
           exact x4 Plain.mk' rfl rfl (Le.bool (by simp only [Va.valid];rw [if_neg (show ¬(v.kind=2∨v.kind=3) by omega),if_neg (show ¬v.kind=1 by omega),if_neg (show ¬v.kind=4 by omega),if_pos (show v.kind=5∨v.kind=6 by omega),decide_eq_true hf0,Bool.true_and,←Bool.decide_and];exact decide_eq_decide.2 (by omega)))
          ·
           refine A9 ?_
           refine A1 ?_
           exact x4 Plain.mk' rfl rfl (Le.bool (by simp only [Va.valid];rw [if_neg (show ¬(v.kind=2∨v.kind=3) by omega),if_neg (show ¬v.kind=1 by omega),if_neg (show ¬v.kind=4 by omega),if_pos (show v.kind=5∨v.kind=6 by omega),decide_eq_true hf0,Bool.true_and,decide_eq_false (show ¬ -1048576≤v.i by omega)];rfl))
         ·
          refine A9 ?_
          exact x4 Plain.mk' rfl rfl (Le.bool (by simp only [Va.valid];rw [if_neg (show ¬(v.kind=2∨v.kind=3) by omega),if_neg (show ¬v.kind=1 by omega),if_neg (show ¬v.kind=4 by omega),if_neg (show ¬(v.kind=5∨v.kind=6) by omega)]))
theorem c_R5whole (x y:Wh) (hx:x.l.length≤1048576):
  Ct Tryz.prog 199 [tWh x,tWh y] (tB (decide (x=y))):=by
 refine Ct.intro Tryz.func199 rfl Tryz.ntmps199 rfl ?_
 intro w F
 refine A9 ?_
 refine A7 ?_
 refine RGcase (t:=11) rfl (fun h33=> ?_) (fun h33=> ?_)
 ·
  have hn:x.neg≠y.neg:=fun h=>by rw [h] at h33;simp at h33
  refine A9 ?_
  refine A9 ?_
  exact x4 Plain.mk' rfl rfl (Le.bool (decide_eq_false (fun h=>hn (by rw [h]))).symm)
 ·
  have hn:x.neg=y.neg:=by simpa using h33
  refine A9 ?_
  refine A1 ?_
  refine x9 rfl (fun h33_2=> ?_) (fun h33_2=> ?_)
  ·
   refine A7 ?_
   exact x4 Plain.mk' rfl rfl (Le.bool (decide_eq_false (fun h=>by rw [h] at h33_2;omega)).symm)
  ·
   have hll:x.l.length=y.l.length:=by omega
   refine A9 ?_
   refine cL (fun (i:Nat)=>i≤x.l.length∧x.l.take i=y.l.take i) (fun (i:Nat)=>upd (upd (upd (fun _=>none) 2 (some (.own (.ptr 2 0)))) 3 (some (.own (.ptr 3 0)))) 5 (some (.val (tI i)))) (fun (i:Nat)=>upd (upd (fun _=>none) 2 (some (⟨39,2,true,[.val (tWh x)]⟩))) 3 (some (⟨39,2,true,[.val (tWh y)]⟩))) [2,3] (fun (i:Nat)=>x.l.length - i) (0) ⟨Nat.zero_le _,rfl⟩ (hh:=((SubK.consI rfl ImpK.refl) ((SubK.consI rfl ImpK.refl) SubK.nil))) ?_
   intro i hI
   obtain ⟨hi,ht⟩:=hI
   refine A9 ?_
   refine A1 ?_
   refine x9 rfl (fun h36=> ?_) (fun h36=> ?_)
   ·
    refine A9 ?_
    refine R2 (x5 sl37 (i) (by omega) (gN (by omega))) rfl rfl ?_
    refine A4 ?_
    refine R2 (x5 sl37 (i) (by omega) (gN (by omega))) rfl rfl ?_
    refine A4 ?_
    refine x9 rfl (fun h37=> ?_) (fun h37=> ?_)
    ·
     refine A9 ?_
     refine A2 ?_
     exact x4 Plain.mk' rfl rfl (Le.bool (decide_eq_false (fun h=>by rw [h] at h37;omega)).symm)
    ·
     refine A8 ?_
     exact kF (i+1) ⟨⟨by omega,by rw [xf0 x.l i (by omega),xf0 y.l i (by omega),ht,show x.l.getD i 0=y.l.getD i 0 by omega]⟩,(by omega)⟩ (hh:=((SubK.consI rfl ImpK.refl) ((SubK.consI rfl ImpK.refl) SubK.nil)))
   ·
    refine A9 ?_
    refine A2 ?_
    exact x4 Plain.mk' rfl rfl (Le.bool (decide_eq_true (by rw [show i=x.l.length by omega,List.take_length,hll,List.take_length] at ht;obtain ⟨a,b⟩:=x;obtain ⟨c,d⟩:=y;simp only at hn ht;rw [hn,ht])).symm)
theorem c_R5Same (u v:Va) (h1:u.f.n.l.length≤1048576) (h2:u.f.d.l.length≤1048576):
  Ct Tryz.prog 124 [tVa u,tVa v] (tB (decide (u=v))):=by
 refine Ct.intro Tryz.func124 rfl Tryz.ntmps124 rfl ?_
 intro w F
 refine A9 ?_
 refine A6 ?_
 refine RGcaseD (t:=10) rfl (fun h46=> ?_) (fun h46=> ?_)
 ·
  refine A7 ?_
  refine RGcaseD (t:=17) rfl (fun h46_2=> ?_) (fun h46_2=> ?_)
  ·
   refine A2 ?_
   refine xc3 (decide_eq_true h46_2) rfl rfl (0) ti39 rfl rfl rfl (At.t (At.g 1 rfl rfl) (At.g 0 rfl rfl)) rfl ?_
   refine A2 ?_
   refine xc3 (decide_eq_true h46_2) rfl rfl (0) ti39 rfl rfl rfl (At.t (At.g 1 rfl rfl) (At.g 0 rfl rfl)) rfl (RGon (decide_eq_true h46_2) rfl (x3 (c_R5whole _ _ h1) fi199 rfl) rfl ⟨rfl,rfl,trivial⟩ trivial trivial ?_)
   refine A2 ?_
   refine RGcaseD (t:=26) rfl (fun h46_3=> ?_) (fun h46_3=> ?_)
   ·
    refine A2 ?_
    refine xc3 (decide_eq_true h46_3) rfl rfl (0) ti39 rfl rfl rfl (At.t (At.g 1 rfl rfl) (At.g 1 rfl rfl)) rfl ?_
    refine A2 ?_
    refine xc3 (decide_eq_true h46_3) rfl rfl (0) ti39 rfl rfl rfl (At.t (At.g 1 rfl rfl) (At.g 1 rfl rfl)) rfl (RGon (decide_eq_true h46_3) rfl (x3 (c_R5whole _ _ h2) fi199 rfl) rfl ⟨rfl,rfl,trivial⟩ trivial trivial ?_)
    refine A5 ?_
    exact x4 Plain.mk' rfl rfl (Le.bool (decide_eq_decide.2 (by rw [va_eq];exact ⟨fun h=>⟨by omega,by omega,h46_3,h⟩,fun h=>h.2.2.2⟩)))
   ·
    refine A9 ?_
    refine A3 ?_
    exact x4 Plain.mk' rfl rfl (Le.bool (decide_eq_false (fun h=>h46_3 (va_eq.1 h).2.2.1)).symm)
  ·
   refine A9 ?_
   refine A9 ?_
   refine A3 ?_
   exact x4 Plain.mk' rfl rfl (Le.bool (decide_eq_false (fun h=>h46_2 (va_eq.1 h).2.1)).symm)
 ·
  refine A9 ?_
  refine A9 ?_
  refine A9 ?_
  refine A1 ?_
  exact x4 Plain.mk' rfl rfl (Le.bool (decide_eq_false (fun h=>h46 (by rw [h]))).symm)
end An.S

/- Layer 5, as the reference tells it: what a timeline is, parts. Plain data. -/
namespace An.S
open Go
/-- A step, as the reference looks at it. -/
def rOk (l:List Tst) (i:Nat):Prop:=((0≤(l.getD i tst0).lo∧(l.getD i tst0).lo < (l.getD i tst0).hi∧(l.getD i tst0).hi≤65536)∧(l.getD i tst0).v.valid=true∧(l.getD i tst0).v.kind=(l.getD 0 tst0).v.kind)∧
  (i=0∨(l.getD (i - 1) tst0).hi≤(l.getD i tst0).lo∧ ¬((l.getD (i - 1) tst0).hi=(l.getD i tst0).lo∧(l.getD (i - 1) tst0).v=(l.getD i tst0).v))
theorem right_R {l:List Tst}:tRight l=true↔ ∀i,i < l.length→rOk l i:=by
  constructor
  · intro h i hi
    have h1:=xg0 h hi
    exact ⟨⟨⟨h1.1,h1.2.1,h1.2.2.1⟩,xi0 h _ (xb6 hi),kind_at h hi⟩,h1.2.2.2.imp id fun h2=>⟨h2.1,h2.2.2⟩⟩
  · intro h
    refine tRight_iff.2 ⟨fun i hi=>tOk_iff.2 ?_,fun s hs=> ?_⟩
    · have h1:=h i hi
      refine ⟨h1.1.1.1,h1.1.1.2.1,h1.1.1.2.2,h1.2.imp id fun h2=>⟨h2.1,?_,h2.2⟩⟩
      rw [h1.1.2.2]
      by_cases h0:i=0
      · subst h0;rfl
      · exact (h (i - 1) (by omega)).1.2.2
    · obtain ⟨i,hi,rfl⟩:=xi3 hs
      exact (h i hi).1.2.1
theorem right_no {l:List Tst} {i:Nat} (hi:i < l.length) (h: ¬rOk l i):false=tRight l:=by
  cases hr:tRight l with
  | false=>rfl
  | true=>exact absurd (right_R.1 hr i hi) h
def parR (acc:List Tst) (s:Tst):List Tst:=if s.lo < s.hi then acc++[s] else acc
def cutR (l:List Tst) (a b:Int):List Tst:=(l.map (clip a b)).foldl parR []
end An.S

/- The reference of layer 5: what a timeline is, parts, sums. -/
namespace An.S
open Go Go.Proofs An
set_option maxHeartbeats 2000000
set_option maxRecDepth 100000
instance fi23:FnI Tryz.prog 23:=⟨_,Tryz.func23,by kernel_rfl,rfl⟩
instance fi107:FnI Tryz.prog 107:=⟨_,Tryz.func107,by kernel_rfl,rfl⟩
instance fi116:FnI Tryz.prog 116:=⟨_,Tryz.func116,by kernel_rfl,rfl⟩
instance fi122:FnI Tryz.prog 122:=⟨_,Tryz.func122,by kernel_rfl,rfl⟩
instance fi124:FnI Tryz.prog 124:=⟨_,Tryz.func124,by kernel_rfl,rfl⟩
instance fi163:FnI Tryz.prog 163:=⟨_,Tryz.func163,by kernel_rfl,rfl⟩
instance fi193:FnI Tryz.prog 193:=⟨_,Tryz.func193,by kernel_rfl,rfl⟩
instance fi194:FnI Tryz.prog 194:=⟨_,Tryz.func194,by kernel_rfl,rfl⟩
instance fi195:FnI Tryz.prog 195:=⟨_,Tryz.func195,by kernel_rfl,rfl⟩
instance fi227:FnI Tryz.prog 227:=⟨_,Tryz.func227,by kernel_rfl,rfl⟩
theorem c_R5Right (l:List Tst) (hl:l.length≤500000) (hD: ∀s∈l,s.v.f.dig) (hs: ∀s∈l,s.v.f.n.l.length≤1048576∧s.v.f.d.l.length≤1048576):
    Ct Tryz.prog 107 [tL 8 true tTs l] (tB (tRight l)):=by
  refine Ct.intro Tryz.func107 rfl Tryz.ntmps107 rfl ?_
  intro w F
  refine A9 ?_
  refine A3 ?_
  refine cL (fun (i:Nat)=>i≤l.length∧ ∀j,j < i→rOk l j) (fun (i:Nat)=>upd (upd (fun _=>none) 0 (some (.val (tL 8 true tTs l)))) 3 (some (.val (tI i)))) (fun (i:Nat)=>fun _=>none) [] (fun (i:Nat)=>l.length - i) (0) ⟨Nat.zero_le _,fun j hj=>by omega⟩ ?_
  intro i hI
  obtain ⟨hi,hok⟩:=hI
  refine A9 ?_
  refine x9 rfl (fun h51=> ?_) (fun h51=> ?_)
  ·
    refine A9 ?_
    refine R2 (x5 sl51 (i) (by omega) (gD (l:=l) (n:=i) (d:=tst0) (by omega))) rfl rfl (R1 (xa8 fo59_0.h (At.f 0 rfl rfl) rfl) rfl ?_)
    refine A3 ?_
    refine RGcaseD (t:=16) rfl (fun h52=> ?_) (fun h52=> ?_)
    ·
      refine A9 ?_
      refine A9 ?_
      refine A9 ?_
      refine A9 ?_
      refine A9 ?_
      refine A9 ?_
      refine A4 ?_
      exact x4 Plain.mk' rfl rfl (Le.bool (right_no (i:=i) (by omega) (fun h=>by have q1:=h.1.1;have q2:=h.1.2.1;have q3:=h.1.2.2;first | omega | (rw [q2] at h52_4;cases h52_4))))
    ·
      refine A2 ?_
      refine RGon (decide_eq_false h52) rfl (x5 sl51 (i) (by omega) (gD (l:=l) (n:=i) (d:=tst0) (by omega))) rfl ⟨rfl,rfl,trivial⟩ trivial trivial (RGon (decide_eq_false h52) rfl (xa8 fo59_0.h (At.f 0 rfl rfl) rfl) rfl ⟨rfl,trivial⟩ trivial trivial ?_)
      refine A3 ?_
      refine RGon (decide_eq_false h52) rfl (x5 sl51 (i) (by omega) (gD (l:=l) (n:=i) (d:=tst0) (by omega))) rfl ⟨rfl,rfl,trivial⟩ trivial trivial (RGon (decide_eq_false h52) rfl (xa8 fo59_1.h (At.f 1 rfl rfl) rfl) rfl ⟨rfl,trivial⟩ trivial trivial ?_)
      refine A4 ?_
      refine RGcaseD (t:=29) rfl (fun h52_2=> ?_) (fun h52_2=> ?_)
      ·
        refine A9 ?_
        refine A9 ?_
        refine A9 ?_
        refine A9 ?_
        refine A9 ?_
        exact x4 Plain.mk' rfl rfl (Le.bool (right_no (i:=i) (by omega) (fun h=>by have q1:=h.1.1;have q2:=h.1.2.1;have q3:=h.1.2.2;first | omega | (rw [q2] at h52_4;cases h52_4))))
      ·
        refine A2 ?_
        refine RGon (decide_eq_false h52_2) rfl (x5 sl51 (i) (by omega) (gD (l:=l) (n:=i) (d:=tst0) (by omega))) rfl ⟨rfl,rfl,trivial⟩ trivial trivial (RGon (decide_eq_false h52_2) rfl (xa8 fo59_1.h (At.f 1 rfl rfl) rfl) rfl ⟨rfl,trivial⟩ trivial trivial ?_)
        refine A4 ?_
        refine RGcaseD (t:=37) rfl (fun h52_3=> ?_) (fun h52_3=> ?_)
        ·
          refine A9 ?_
          refine A9 ?_
          refine A9 ?_
          refine A9 ?_
          refine A1 ?_
          exact x4 Plain.mk' rfl rfl (Le.bool (right_no (i:=i) (by omega) (fun h=>by have q1:=h.1.1;have q2:=h.1.2.1;have q3:=h.1.2.2;first | omega | (rw [q2] at h52_4;cases h52_4))))
        ·
          refine A2 ?_
          refine RGon (decide_eq_false h52_3) rfl (x5 sl51 (i) (by omega) (gD (l:=l) (n:=i) (d:=tst0) (by omega))) rfl ⟨rfl,rfl,trivial⟩ trivial trivial (RGon (decide_eq_false h52_3) rfl (xa8 fo59_2.h (At.f 2 rfl rfl) rfl) rfl ⟨rfl,trivial⟩ trivial trivial ?_)
          refine A1 ?_
          refine RGon (decide_eq_false h52_3) rfl (x3 (c_R5Valid _ (hD _ (xb6 (l:=l) (i:=i) (by omega))) (hs _ (xb6 (l:=l) (i:=i) (by omega))).1 (hs _ (xb6 (l:=l) (i:=i) (by omega))).2) fi122 rfl) rfl ⟨rfl,trivial⟩ trivial trivial ?_
          refine A3 ?_
          refine RGcase (t:=46) rfl (fun h52_4=> ?_) (fun h52_4=> ?_)
          ·
            refine A9 ?_
            refine A9 ?_
            refine A9 ?_
            refine A1 ?_
            exact x4 Plain.mk' rfl rfl (Le.bool (right_no (i:=i) (by omega) (fun h=>by have q1:=h.1.1;have q2:=h.1.2.1;have q3:=h.1.2.2;first | omega | (rw [q2] at h52_4;cases h52_4))))
          ·
            have hv:(l.getD i tst0).v.valid=true:=by simpa using h52_4
            refine A2 ?_
            refine RGon h52_4 rfl (x5 sl51 (i) (by omega) (gD (l:=l) (n:=i) (d:=tst0) (by omega))) rfl ⟨rfl,rfl,trivial⟩ trivial trivial (RGon h52_4 rfl (xa8 fo59_2.h (At.f 2 rfl rfl) rfl) rfl ⟨rfl,trivial⟩ trivial trivial (RGon h52_4 rfl (xa8 fo57_0.h (At.f 0 rfl rfl) rfl) rfl ⟨rfl,trivial⟩ trivial trivial ?_))
            refine A2 ?_
            refine RGon h52_4 rfl (x5 sl51 (0) (by omega) (gD (l:=l) (n:=0) (d:=tst0) (by omega))) rfl ⟨rfl,rfl,trivial⟩ trivial trivial (RGon h52_4 rfl (xa8 fo59_2.h (At.f 2 rfl rfl) rfl) rfl ⟨rfl,trivial⟩ trivial trivial (RGon h52_4 rfl (xa8 fo57_0.h (At.f 0 rfl rfl) rfl) rfl ⟨rfl,trivial⟩ trivial trivial ?_))
            refine A5 ?_
            refine x9 rfl (fun h52_5=> ?_) (fun h52_5=> ?_)
            ·
              refine A9 ?_
              refine A3 ?_
              exact x4 Plain.mk' rfl rfl (Le.bool (right_no (i:=i) (by omega) (fun h=>by have q1:=h.1.1;have q2:=h.1.2.1;have q3:=h.1.2.2;first | omega | (rw [q2] at h52_4;cases h52_4))))
            ·
              refine A7 ?_
              refine RGcaseD (t:=62) rfl (fun h55=> ?_) (fun h55=> ?_)
              ·
                refine A2 ?_
                refine RGon (decide_eq_true h55) rfl (xe1 (wr64 (by omega) (by omega))) rfl ⟨rfl,rfl,trivial⟩ trivial trivial (RGon (decide_eq_true h55) rfl (x5 sl51 (i - 1) (by omega) (gD (l:=l) (n:=i - 1) (d:=tst0) (by omega))) rfl ⟨rfl,rfl,trivial⟩ trivial trivial (RGon (decide_eq_true h55) rfl (xa8 fo59_1.h (At.f 1 rfl rfl) rfl) rfl ⟨rfl,trivial⟩ trivial trivial ?_))
                refine A3 ?_
                refine RGon (decide_eq_true h55) rfl (x5 sl51 (i) (by omega) (gD (l:=l) (n:=i) (d:=tst0) (by omega))) rfl ⟨rfl,rfl,trivial⟩ trivial trivial (RGon (decide_eq_true h55) rfl (xa8 fo59_0.h (At.f 0 rfl rfl) rfl) rfl ⟨rfl,trivial⟩ trivial trivial ?_)
                refine A3 ?_
                refine RGcaseD (t:=75) rfl (fun h55_2=> ?_) (fun h55_2=> ?_)
                ·
                  refine A9 ?_
                  refine A9 ?_
                  refine A8 ?_
                  refine RGon (decide_eq_true h55) rfl (xe6 (decide_eq_true h55_2)) rfl ⟨rfl,rfl,trivial⟩ trivial trivial ?_
                  refine A9 ?_
                  refine A6 ?_
                  exact x4 Plain.mk' rfl rfl (Le.bool (right_no (i:=i) (by omega) (fun h=>by have q:=h.2;first | omega | exact (q.resolve_left (by omega)).2 ⟨by omega,by assumption⟩)))
                ·
                  refine A2 ?_
                  refine RGon (decide_eq_false h55_2) rfl (xe1 (wr64 (by omega) (by omega))) rfl ⟨rfl,rfl,trivial⟩ trivial trivial (RGon (decide_eq_false h55_2) rfl (x5 sl51 (i - 1) (by omega) (gD (l:=l) (n:=i - 1) (d:=tst0) (by omega))) rfl ⟨rfl,rfl,trivial⟩ trivial trivial (RGon (decide_eq_false h55_2) rfl (xa8 fo59_1.h (At.f 1 rfl rfl) rfl) rfl ⟨rfl,trivial⟩ trivial trivial ?_))
                  refine A3 ?_
                  refine RGon (decide_eq_false h55_2) rfl (x5 sl51 (i) (by omega) (gD (l:=l) (n:=i) (d:=tst0) (by omega))) rfl ⟨rfl,rfl,trivial⟩ trivial trivial (RGon (decide_eq_false h55_2) rfl (xa8 fo59_0.h (At.f 0 rfl rfl) rfl) rfl ⟨rfl,trivial⟩ trivial trivial ?_)
                  refine A3 ?_
                  refine RGcaseD (t:=88) rfl (fun h55_3=> ?_) (fun h55_3=> ?_)
                  ·
                    refine A2 ?_
                    refine RGon (decide_eq_true h55_3) rfl (xe1 (wr64 (by omega) (by omega))) rfl ⟨rfl,rfl,trivial⟩ trivial trivial (RGon (decide_eq_true h55_3) rfl (x5 sl51 (i - 1) (by omega) (gD (l:=l) (n:=i - 1) (d:=tst0) (by omega))) rfl ⟨rfl,rfl,trivial⟩ trivial trivial (RGon (decide_eq_true h55_3) rfl (xa8 fo59_2.h (At.f 2 rfl rfl) rfl) rfl ⟨rfl,trivial⟩ trivial trivial ?_))
                    refine A3 ?_
                    refine RGon (decide_eq_true h55_3) rfl (x5 sl51 (i) (by omega) (gD (l:=l) (n:=i) (d:=tst0) (by omega))) rfl ⟨rfl,rfl,trivial⟩ trivial trivial (RGon (decide_eq_true h55_3) rfl (xa8 fo59_2.h (At.f 2 rfl rfl) rfl) rfl ⟨rfl,trivial⟩ trivial trivial ?_)
                    refine A1 ?_
                    refine RGon (decide_eq_true h55_3) rfl (x3 (c_R5Same _ _ (hs _ (xb6 (l:=l) (i:=i - 1) (by omega))).1 (hs _ (xb6 (l:=l) (i:=i - 1) (by omega))).2) fi124 rfl) rfl ⟨rfl,rfl,trivial⟩ trivial trivial (RGon (decide_eq_false h55_2) rfl (xe6 (decide_eq_true h55_3)) rfl ⟨rfl,rfl,trivial⟩ trivial trivial (RGon (decide_eq_true h55) rfl (xd2 (decide_eq_false h55_2)) rfl ⟨rfl,rfl,trivial⟩ trivial trivial ?_))
                    refine A3 ?_
                    refine x9 rfl (fun h55_4=> ?_) (fun h55_4=> ?_)
                    ·
                      refine A9 ?_
                      refine A2 ?_
                      exact x4 Plain.mk' rfl rfl (Le.bool (right_no (i:=i) (by omega) (fun h=>by have q:=h.2;first | omega | exact (q.resolve_left (by omega)).2 ⟨by omega,by assumption⟩)))
                    ·
                      refine A8 ?_
                      exact K_fam (i+1) ⟨⟨by omega,fun j hj=>by
    by_cases hji:j=i
    · subst hji;exact ⟨⟨⟨by omega,by omega,by omega⟩,hv,by omega⟩,.inr ⟨by omega,fun h=>h55_4 h.2⟩⟩
    · exact hok j (by omega)⟩, (by omega)⟩ (Sub.int rfl (by first | omega | rfl | (dsimp only; omega)) (Sub.cons rfl Sub.nil)) SubK.nil (SupG.val (SupG.val SupG.nil)) SupH.nil (lkOk rfl)
                  ·
                    refine A9 ?_
                    refine A3 ?_
                    refine RGon (decide_eq_false h55_2) rfl (xd2 (decide_eq_false h55_3)) rfl ⟨rfl,rfl,trivial⟩ trivial trivial (RGon (decide_eq_true h55) rfl (xd2 (decide_eq_false h55_2)) rfl ⟨rfl,rfl,trivial⟩ trivial trivial ?_)
                    refine A9 ?_
                    refine A3 ?_
                    exact K_fam (i+1) ⟨⟨by omega,fun j hj=>by
    by_cases hji:j=i
    · subst hji;exact ⟨⟨⟨by omega,by omega,by omega⟩,hv,by omega⟩,.inr ⟨by omega,fun h=>by omega⟩⟩
    · exact hok j (by omega)⟩, (by omega)⟩ (Sub.int rfl (by first | omega | rfl | (dsimp only; omega)) (Sub.cons rfl Sub.nil)) SubK.nil (SupG.val (SupG.val SupG.nil)) SupH.nil (lkOk rfl)
              ·
                refine A9 ?_
                refine A9 ?_
                refine A9 ?_
                refine A9 ?_
                refine A9 ?_
                refine A7 ?_
                exact K_fam (i+1) ⟨⟨by omega,fun j hj=>by
    by_cases hji:j=i
    · subst hji;exact ⟨⟨⟨by omega,by omega,by omega⟩,hv,by omega⟩,.inl (by omega)⟩
    · exact hok j (by omega)⟩,(by omega)⟩ (Sub.int rfl (by first | omega | rfl | (dsimp only;omega)) (Sub.cons rfl Sub.nil)) SubK.nil (SupG.val (SupG.val SupG.nil)) SupH.nil (lkOk rfl)
  ·
    refine A9 ?_
    refine A2 ?_
    exact x4 Plain.mk' rfl rfl (Le.bool (right_R.2 (fun j hj=>hok j (by omega))).symm)
end An.S

/- Law 5: TimelineSums: the program and the reference agree on sums. -/
namespace An.S
open Go Go.Proofs An
set_option maxHeartbeats 2000000
set_option maxRecDepth 100000
instance fi24:FnI Tryz.prog 24:=⟨_,Tryz.func24,by kernel_rfl,rfl⟩
instance fi25:FnI Tryz.prog 25:=⟨_,Tryz.func25,by kernel_rfl,rfl⟩
instance fi36:FnI Tryz.prog 36:=⟨_,Tryz.func36,by kernel_rfl,rfl⟩
instance fi37:FnI Tryz.prog 37:=⟨_,Tryz.func37,by kernel_rfl,rfl⟩
instance fi74:FnI Tryz.prog 74:=⟨_,Tryz.func74,by kernel_rfl,rfl⟩
instance fi82:FnI Tryz.prog 82:=⟨_,Tryz.func82,by kernel_rfl,rfl⟩
instance fi84:FnI Tryz.prog 84:=⟨_,Tryz.func84,by kernel_rfl,rfl⟩
instance fi115:FnI Tryz.prog 115:=⟨_,Tryz.func115,by kernel_rfl,rfl⟩
/-- How many limbs steps have. -/
def limS (l:List Tst):Nat:=(l.map fun s=>s.v.f.n.l.length+s.v.f.d.l.length).sum
def fewB (l:List Tst):Bool:=decide (l.length≤60) && decide (limS l≤1200)
theorem limS_next {l:List Tst} {i:Nat} (hi:i < l.length):limS (l.take (i+1))=limS (l.take i)+((l.getD i tst0).v.f.n.l.length+(l.getD i tst0).v.f.d.l.length):=by
  rw [limS,limS,List.take_succ_eq_append_getElem hi,List.map_append,List.sum_append_nat,List.getD_eq_getElem?_getD,List.getElem?_eq_getElem hi];simp
theorem limS_le {l:List Tst} (h: ∀s∈l,s.v.f.n.l.length≤70368744177664∧s.v.f.d.l.length≤70368744177664): ∀{i:Nat},i≤l.length→limS (l.take i)≤i*140737488355328
  | 0,_=>by simp [limS]
  | i+1,hi=>by
    have h1:=limS_le h (i:=i) (by omega)
    have h2:=h _ (xb6 (l:=l) (i:=i) (by omega))
    rw [limS_next (by omega)];omega
theorem limS_mem {l:List Tst}: ∀s∈l,s.v.f.n.l.length+s.v.f.d.l.length≤limS l:=by
  induction l with
  | nil=>intro s hs;cases hs
  | cons x r ih=>
    intro s hs
    rw [limS,List.map_cons,List.sum_cons]
    rcases List.mem_cons.1 hs with rfl | hs
    · omega
    · have:=ih s hs;rw [limS] at this;omega
theorem few_of {l:List Tst} (h:fewB l=true):l.length≤60∧ ∀s∈l,s.v.f.n.l.length≤1200∧s.v.f.d.l.length≤1200:=by
  simp only [fewB,Bool.and_eq_true,decide_eq_true_eq] at h
  exact ⟨h.1,fun s hs=>by have:=limS_mem s hs;omega⟩
theorem few_1 {l:List Tst} {i:Nat} (h:l.length≤60) (hi:i=l.length):decide ((limS (l.take i):Int)≤1200)=fewB l:=by
  subst hi
  rw [fewB,decide_eq_true h,Bool.true_and,List.take_length]
  exact decide_eq_decide.2 (by omega)
theorem few_0 {l:List Tst} (h: ¬l.length≤60):false=fewB l:=by rw [fewB,decide_eq_false h,Bool.false_and]
theorem c_Few (l:List Tst) (hr: ∀s∈l,s.v.f.n.l.length≤70368744177664∧s.v.f.d.l.length≤70368744177664):
  Ct Tryz.prog 24 [tL 8 true tTs l] (tB (fewB l)):=by
 refine Ct.intro Tryz.func24 rfl Tryz.ntmps24 rfl ?_
 intro w F
 refine A9 ?_
 refine A8 ?_
 refine cL (fun (i:Nat)=>i≤l.length∧i≤60) (fun (i:Nat)=>upd (upd (upd (fun _=>none) 0 (some (.val (tL 8 true tTs l)))) 3 (some (.val (tI (limS (l.take i)))))) 4 (some (.val (tI i)))) (fun (i:Nat)=>fun _=>none) [] (fun (i:Nat)=>60 - i) (0) ⟨Nat.zero_le _,by decide⟩ (hg:=(sI (Sub.le rfl (Le.int rfl) (sC Sub.nil)))) ?_
 intro i hI
 obtain ⟨hi,hi2⟩:=hI
 have hb:=limS_le hr hi
 refine A8 ?_
 refine RGcaseD (t:=9) rfl (fun h14=> ?_) (fun h14=> ?_)
 ·
  refine A5 ?_
  refine x9 rfl (fun h14_2=> ?_) (fun h14_2=> ?_)
  ·
   refine A8 ?_
   have hsr:=hr _ (xb6 (l:=l) (i:=i) (by omega))
   refine R2 (x5 sl51 (i) (by omega) (gD (l:=l) (n:=i) (d:=tst0) (by omega))) rfl rfl (R1 (xa8 fo59_2.h (At.f 2 rfl rfl) rfl) rfl (R1 (xa8 fo57_1.h (At.f 1 rfl rfl) rfl) rfl ?_))
   refine A1 ?_
   refine R1 (x3 (c_Limbs _ (by omega) (by omega)) fi25 rfl) rfl ?_
   refine A9 ?_
   refine A1 ?_
   exact kF (i+1) ⟨⟨by omega,by omega⟩,(by omega)⟩ (hg:=(sI (Sub.le rfl (Le.int (by rw [limS_next (by omega)];omega)) (sC Sub.nil))))
  ·
   refine A9 ?_
   refine A2 ?_
   refine RGcaseD (t:=27) rfl (fun h17=> ?_) (fun h17=> ?_)
   ·
    refine A7 ?_
    exact x4 Plain.mk' rfl rfl (Le.bool (few_1 (by omega) (by omega)))
   ·
    refine A7 ?_
    exact x4 Plain.mk' rfl rfl (Le.bool (few_0 (by omega)))
 ·
  refine A9 ?_
  refine A8 ?_
  refine RGcaseD (t:=27) rfl (fun h17=> ?_) (fun h17=> ?_)
  ·
   refine A7 ?_
   exact x4 Plain.mk' rfl rfl (Le.bool (few_1 (by omega) (by omega)))
  ·
   refine A7 ?_
   exact x4 Plain.mk' rfl rfl (Le.bool (few_0 (by omega)))
end An.S

/- What the readers of law 5 read, within the reach: steps, numbers. -/
namespace An.S
open Go Go.Proofs An
open Go.ChangeShapes Go.WideShapes Go.ChangeAt Go.RowKit
set_option maxRecDepth 100000
theorem own:ownKnob Tryz.prog.godebug=none:=by kernel_rfl
theorem laidOut:laidOutB Tryz.prog=true:=by kernel_rfl
theorem oBool:Opn Tryz.prog 4 1 false (fun b:Bool=>tB b) (fun _=>True):=Opn.bool Tryz.underlying4 (by kernel_rfl)
theorem oInt:Opn Tryz.prog 3 1 false (fun n:Int=>tI n) (fun n=>IntKind.i64.min≤n∧n≤IntKind.i64.max):=Opn.int Tryz.underlying3 (by kernel_rfl)
theorem oU16:Opn Tryz.prog 64 1 false (fun n:Nat=>tE (.int .u16 n)) (fun n=>n < 65536):=Opn.nat Tryz.underlying64 (by kernel_rfl) rfl rfl
theorem oU8:Opn Tryz.prog 5 1 false (fun n:Nat=>tE (.int .u8 n)) (fun n=>n < 256):=Opn.nat Tryz.underlying5 (by kernel_rfl) rfl rfl
theorem oLm:OpnW Tryz.prog 37 1 false (fun l:List Nat=>tLm l) (fun l=>Dig 65536 l∧l.length≤70368744177664):=(OpnW.slice (by_:=2) Tryz.underlying37 (by kernel_rfl) (by kernel_rfl) (OpnW.of oU16)).as id (fun _=>rfl) (fun l h=>⟨h.1,by have h2:l.length*2≤140737488351232:=h.2;show l.length≤_;omega⟩)
/-- Numbers whose limbs are within the reach. -/
def whFits (x:Wh):Prop:=Dig 65536 x.l∧x.l.length≤70368744177664
def frFits (x:Fr):Prop:=whFits x.n∧whFits x.d
theorem oWh:OpnW Tryz.prog 39 2 true (fun x:Wh=>tWh x) whFits:=
  (OpnW.struct Tryz.underlying39 (by kernel_rfl) (by decide) (OpnWF.cons (OpnW.of oBool) rfl rfl (OpnWF.cons oLm rfl rfl OpnWF.nil rfl) rfl)).as (fun x=>⟨x.1,x.2.1⟩) (fun _=>rfl) (fun _ h=>h.2.1)
theorem oFr:OpnW Tryz.prog 41 4 true (fun x:Fr=>tFr x) frFits:=
  (OpnW.struct Tryz.underlying41 (by kernel_rfl) (by decide) (OpnWF.cons oWh rfl rfl (OpnWF.cons oWh rfl rfl OpnWF.nil rfl) rfl)).as (fun x=>⟨x.1,x.2.1⟩) (fun _=>rfl) (fun _ h=>⟨h.1,h.2.1⟩)
theorem oVa:OpnW Tryz.prog 57 6 true (fun x:Va=>tVa x) (fun x=>frFits x.f):=
  (OpnW.struct Tryz.underlying57 (by kernel_rfl) (by decide) (OpnWF.cons (OpnW.of oU8) rfl rfl (OpnWF.cons oFr rfl rfl (OpnWF.cons (OpnW.of oInt) rfl rfl OpnWF.nil rfl) rfl) rfl)).as (fun x=>⟨x.1,x.2.1,x.2.2.1⟩) (fun _=>rfl) (fun _ h=>h.2.1)
theorem oTs:OpnW Tryz.prog 59 8 true (fun x:Tst=>tTs x) (fun x=>frFits x.v.f):=
  (OpnW.struct Tryz.underlying59 (by kernel_rfl) (by decide) (OpnWF.cons (OpnW.of oInt) rfl rfl (OpnWF.cons (OpnW.of oInt) rfl rfl (OpnWF.cons oVa rfl rfl OpnWF.nil rfl) rfl) rfl)).as (fun x=>⟨x.1,x.2.1,x.2.2.1⟩) (fun _=>rfl) (fun _ h=>h.2.2.1)
theorem oSteps:OpnW Tryz.prog 51 1 false (fun l:List Tst=>tL 8 true tTs l) (fun l=> ∀s∈l,frFits s.v.f):=(OpnW.slice (by_:=96) Tryz.underlying51 (by kernel_rfl) (by kernel_rfl) oTs).as id (fun _=>rfl) (fun l h=>h.1)
theorem oIntW:OpnW Tryz.prog 3 1 false (fun n:Int=>tI n) (fun n=>IntKind.i64.min≤n∧n≤IntKind.i64.max):=OpnW.of oInt
theorem digs {l:List Tst} (h: ∀s∈l,frFits s.v.f): ∀s∈l,s.v.f.dig:=fun s hs=>⟨(h s hs).1.1,(h s hs).2.1⟩
theorem lens {l:List Tst} (h: ∀s∈l,frFits s.v.f): ∀s∈l,s.v.f.n.l.length≤70368744177664∧s.v.f.d.l.length≤70368744177664:=fun s hs=>⟨(h s hs).1.2,(h s hs).2.2⟩
/-- What a contract says, as the frame of a statement wants it. -/
theorem walked {f:FuncId} {ts:List Ty} (h:Ct Tryz.prog f ts (tB true)) {vs:List Value} {W:World} (ha:Tup.all (Old W) W ts vs):Calls Tryz.prog f vs.toArray W fun e W'=>e= .returned (.bool true)∧Ext W W':=
  (h (Old W) W vs ha).mono fun e W' ⟨v,h1,h2,h3⟩=>by
    have h3:v= .bool true:=h3
    subst h3;exact ⟨h1,h2⟩
end An.S

/- Layers 4 and 5, as the references tell them: day by day. Plain data. -/
namespace An.S
open Go
/-- A row of one entry a day. -/
@[irreducible] def rowD {α:Type} (f:Nat→α):List α:=(List.range 65536).map f
theorem xf1 {α:Type} {f:Nat→α}:(rowD f).length=65536:=by unfold rowD;rw [List.length_map,List.length_range]
theorem xf8 {α:Type} {f:Nat→α} {d:Nat} (h:d < 65536):(rowD f)[d]? =some (f d):=by
  unfold rowD;rw [List.getElem?_map,List.getElem?_range h];rfl
theorem rowD_set {α:Type} {f g:Nat→α} {d:Nat} {v:α} (hv:g d=v) (hg: ∀e,e≠d→g e=f e):(rowD f).set d v=rowD g:=by
  apply List.ext_getElem?
  intro e
  rw [List.getElem?_set]
  by_cases he:d=e
  · subst he
    rw [if_pos rfl]
    by_cases h:d < 65536
    · rw [if_pos (by rw [xf1];exact h),xf8 h,hv]
    · rw [if_neg (by rw [xf1];exact h),List.getElem?_eq_none (by rw [xf1];omega)]
  · rw [if_neg he]
    by_cases h:e < 65536
    · rw [xf8 h,xf8 h,hg e (fun h'=>he h'.symm)]
    · rw [List.getElem?_eq_none (by rw [xf1];omega),List.getElem?_eq_none (by rw [xf1];omega)]
theorem rowD_rep {α:Type} (x:α):List.replicate 65536 x=rowD fun _=>x:=by
  unfold rowD
  rw [List.map_const',List.length_range]
/-- The table of the first i steps. -/
def tabI (l:List Tst):Nat→Nat→Int
  | 0,_=>0
  | i+1,d=>if (l.getD i tst0).lo≤d∧(d:Int) < (l.getD i tst0).hi then (i:Int)+1 else tabI l i d
def tabF (l:List Tst) (i:Nat) (e:Int) (d:Nat):Int:=if (l.getD i tst0).lo≤d∧(d:Int) < e then (i:Int)+1 else tabI l i d
theorem tabF_0 {l:List Tst} {i:Nat}:tabF l i (l.getD i tst0).lo=tabI l i:=by
  funext d;rw [tabF,if_neg (by omega)]
theorem tabF_1 {l:List Tst} {i:Nat} {e:Int} (h:e=(l.getD i tst0).hi):tabF l i e=tabI l (i+1):=by
  subst h;funext d;rfl
theorem tab_set {l:List Tst} {i d:Nat} {e:Int} (he:e=(d:Int)) (h:(l.getD i tst0).lo≤d):(rowD (tabF l i e)).set d ((i:Int)+1)=rowD (tabF l i (e+1)):=by
  subst he
  refine rowD_set (by rw [tabF,if_pos (by omega)]) fun x hx=> ?_
  rw [tabF,tabF]
  by_cases h1:(l.getD i tst0).lo≤x∧(x:Int) < d
  · rw [if_pos h1,if_pos (by omega)]
  · rw [if_neg h1,if_neg (by omega)]
theorem valT_take {l:List Tst} {i:Nat} (hi:i < l.length) (d:Int):valT (l.take (i+1)) d=(valT (l.take i) d).or (if (l.getD i tst0).lo≤d∧d < (l.getD i tst0).hi then some (l.getD i tst0).v else none):=by
  rw [List.take_succ_eq_append_getElem hi,valT_append,xd6,List.getD_eq_getElem?_getD,List.getElem?_eq_getElem hi];rfl
theorem tab_val {l:List Tst} (h:tRight l=true) (d:Nat): ∀i,i≤l.length→(tabI l i d=0∧valT (l.take i) d=none)∨ ∃j,j < i∧tabI l i d=(j:Int)+1∧valT (l.take i) d=some (l.getD j tst0).v
  | 0,_=> .inl ⟨rfl,by simp [valT]⟩
  | i+1,hi=>by
    have ih:=tab_val h d i (by omega)
    rw [valT_take (by omega)]
    by_cases hd:(l.getD i tst0).lo≤d∧(d:Int) < (l.getD i tst0).hi
    · refine .inr ⟨i,by omega,by rw [tabI,if_pos hd],?_⟩
      have hn:valT (l.take i) d=none:=valT_none.2 fun s hs hsd=>by
        obtain ⟨j,hj,e⟩:=List.getElem_of_mem hs
        rw [List.length_take] at hj
        have h1:=tRight_lt h (i:=j) (j:=i) (by omega) (by omega)
        rw [List.getElem_take] at e
        have e2:l.getD j tst0=s:=by rw [List.getD_eq_getElem?_getD,List.getElem?_eq_getElem (by omega)];exact e
        rw [e2] at h1;omega
      rw [hn,if_pos hd];rfl
    · rw [tabI,if_neg hd,if_neg hd,Option.or_none]
      rcases ih with ih | ⟨j,hj,h1,h2⟩
      · exact .inl ih
      · exact .inr ⟨j,by omega,h1,h2⟩
abbrev tabT (l:List Tst):Nat→Int:=tabI l l.length
theorem tabT_val {l:List Tst} (h:tRight l=true) (d:Nat):(tabT l d=0∧valT l d=none)∨ ∃j,j < l.length∧tabT l d=(j:Int)+1∧valT l d=some (l.getD j tst0).v:=by
  have:=tab_val h d l.length (Nat.le_refl _)
  rwa [List.take_length] at this
/-- The set of the first days that are marked. -/
def setK (f:Nat→Bool):Nat→List Sn
  | 0=>[]
  | d+1=>if f d then (if 0 < d∧f (d - 1)=true then (setK f d).set ((setK f d).length - 1) ⟨(lastS (setK f d)).lo,(d:Int)+1⟩ else setK f d++[⟨(d:Int),(d:Int)+1⟩]) else setK f d
theorem setK_no {f:Nat→Bool} {d:Nat} (h:f d=false):setK f (d+1)=setK f d:=by rw [setK,h];rfl
theorem setK_long {f:Nat→Bool} {d:Nat} (h:f d=true) (h0:0 < d∧f (d - 1)=true):setK f (d+1)=(setK f d).set ((setK f d).length - 1) ⟨(lastS (setK f d)).lo,(d:Int)+1⟩:=by rw [setK,if_pos h,if_pos h0]
theorem setK_new {f:Nat→Bool} {d:Nat} (h:f d=true) (h0: ¬(0 < d∧f (d - 1)=true)):setK f (d+1)=setK f d++[⟨(d:Int),(d:Int)+1⟩]:=by rw [setK,if_pos h,if_neg h0]
theorem lastS_snoc {l:List Sn} {s:Sn}:lastS (l++[s])=s:=by rw [lastS,getD_snocS,List.length_append];simp
theorem setK_all {f:Nat→Bool}: ∀d,d≤65536→sVal (setK f d)=true∧(∀x:Int,mem (setK f d) x=true↔0≤x∧x < d∧f x.toNat=true)∧(0 < (setK f d).length→(lastS (setK f d)).hi≤d)∧(0 < d∧f (d - 1)=true→0 < (setK f d).length∧(lastS (setK f d)).hi=d)∧(setK f d).length≤d∧(0 < (setK f d).length→ ¬(0 < d∧f (d - 1)=true)→(lastS (setK f d)).hi < d)
  | 0,_=>⟨rfl,fun x=>by simp [setK,mem];omega,fun h=>by simp [setK] at h,fun h=>by omega,by simp [setK],fun h=>by simp [setK] at h⟩
  | d+1,hd=>by
    obtain ⟨h1,h2,h3,h4,h5,h6⟩:=setK_all (f:=f) d (by omega)
    cases hf:f d with
    | false=>
      rw [setK_no hf]
      refine ⟨h1,fun x=> ?_,fun h=>by have:=h3 h;omega,fun h=>(by rw [Nat.add_sub_cancel,hf] at h;cases h.2),by omega,fun h _=>by have:=h3 h;omega⟩
      rw [h2]
      constructor
      · rintro ⟨q1,q2,q3⟩;exact ⟨q1,by omega,q3⟩
      · rintro ⟨q1,q2,q3⟩
        refine ⟨q1,?_,q3⟩
        by_cases hx:x.toNat=d
        · rw [hx,hf] at q3;cases q3
        · omega
    | true=>
      have hlast:0 < d+1∧f (d+1 - 1)=true:=⟨by omega,hf⟩
      by_cases h0:0 < d∧f (d - 1)=true
      · obtain ⟨k1,k2⟩:=h4 h0
        rw [setK_long hf h0]
        have hl:lastS ((setK f d).set ((setK f d).length - 1) ⟨(lastS (setK f d)).lo,(d:Int)+1⟩)=⟨(lastS (setK f d)).lo,(d:Int)+1⟩:=by
          rw [set_lastE k1];exact lastS_snoc
        refine ⟨sVal_long h1 k1 (by omega) (by omega),fun x=> ?_,fun _=>by rw [hl];dsimp only;omega,fun _=>⟨by rw [List.length_set];exact k1,by rw [hl];dsimp only;omega⟩,by rw [List.length_set];omega,fun _ h=>absurd hlast h⟩
        have e1:=split_last k1
        have e2: ∀x,mem (setK f d) x=(mem ((setK f d).take ((setK f d).length - 1)) x || (decide ((lastS (setK f d)).lo≤x) && decide (x < (lastS (setK f d)).hi))):=fun x=>by
          conv=>lhs;rw [e1]
          exact mem_snoc
        have hok:=sVal_at h1 (i:=(setK f d).length - 1) (by omega)
        have hlo:(lastS (setK f d)).lo < (lastS (setK f d)).hi:=hok.2.1
        rw [set_lastE k1,mem_snoc]
        have h2x:=h2 x
        rw [e2,Bool.or_eq_true,Bool.and_eq_true,decide_eq_true_eq,decide_eq_true_eq] at h2x
        rw [Bool.or_eq_true,Bool.and_eq_true,decide_eq_true_eq,decide_eq_true_eq]
        by_cases hx:x=d
        · subst hx
          refine ⟨fun _=>⟨by omega,by omega,by simpa using hf⟩,fun _=> .inr ⟨by dsimp only;omega,by dsimp only;omega⟩⟩
        · constructor
          · intro hq
            have:=h2x.1 (hq.imp id fun h=>⟨h.1,by dsimp only at h;omega⟩)
            exact ⟨this.1,by omega,this.2.2⟩
          · intro hq
            exact (h2x.2 ⟨hq.1,by omega,hq.2.2⟩).imp id fun h=>⟨h.1,by dsimp only;omega⟩
      · rw [setK_new hf h0]
        refine ⟨sVal_snoc h1 ⟨by dsimp only;omega,by dsimp only;omega,by dsimp only;omega⟩ (fun h=>by have:=h6 h h0;dsimp only;omega),fun x=> ?_,fun _=>by rw [lastS_snoc];dsimp only;omega,fun _=>⟨by rw [List.length_append];simp,by rw [lastS_snoc];dsimp only;omega⟩,by rw [List.length_append];simp;omega,fun _ h=>absurd hlast h⟩
        rw [mem_snoc,Bool.or_eq_true,Bool.and_eq_true,decide_eq_true_eq,decide_eq_true_eq,h2]
        by_cases hx:x=d
        · subst hx
          exact ⟨fun _=>⟨by omega,by omega,by simpa using hf⟩,fun _=> .inr ⟨by dsimp only;omega,by dsimp only;omega⟩⟩
        · constructor
          · rintro (q | q)
            · exact ⟨q.1,by omega,q.2.2⟩
            · dsimp only at q;omega
          · rintro ⟨q1,q2,q3⟩;exact .inl ⟨q1,by omega,q3⟩
abbrev setT (f:Nat→Bool):List Sn:=setK f 65536
theorem set_is {f:Nat→Bool} {S:List Sn} (h:sVal S=true) (hm: ∀d:Nat,d < 65536→f d=mem S d):setT f=S:=by
  obtain ⟨h1,h2,_⟩:=setK_all (f:=f) 65536 (Nat.le_refl _)
  refine set_same h1 h fun x=> ?_
  have h2x:=h2 x
  by_cases hx:0≤x∧x < 65536
  · have e:((x.toNat:Nat):Int)=x:=by omega
    have:=hm x.toNat (by omega)
    rw [e] at this
    rw [←this]
    cases hfx:f x.toNat with
    | true=>exact h2x.2 ⟨hx.1,by omega,hfx⟩
    | false=>exact Bool.eq_false_iff.2 fun h=>by have:=(h2x.1 h).2.2;rw [hfx] at this;cases this
  · rw [Bool.eq_false_iff.2 fun h=>hx ⟨(h2x.1 h).1,by have:=(h2x.1 h).2.1;omega⟩]
    refine (mem_no.2 fun s hs hsd=> ?_).symm
    obtain ⟨i,hi,rfl⟩:=exists_getS hs
    have:=sVal_at h hi
    omega
theorem cover_R {l:List Tst} (h:tRight l=true):setT (fun d=>decide (0 < tabT l d))=cvT l:=by
  obtain ⟨h1,h2⟩:=cvT_set h
  refine set_is h1 fun d hd=> ?_
  rw [h2]
  rcases tabT_val h d with ⟨e1,e2⟩ | ⟨j,_,e1,e2⟩
  · rw [e1,e2];rfl
  · rw [e1,e2,decide_eq_true (by omega)];rfl
/-- Whether the days differ, as the reference tells it. -/
def dfR (a b:List Tst) (d:Nat):Bool:=if 0 < tabT a d∧0 < tabT b d then !decide ((a.getD (tabT a d - 1).toNat tst0).v=(b.getD (tabT b d - 1).toNat tst0).v) else decide (0 < tabT a d+tabT b d)
theorem diff_R {a b:List Tst} (ha:tRight a=true) (hb:tRight b=true):setT (dfR a b)=dfS a b:=by
  obtain ⟨h1,h2⟩:=dfS_set ha hb
  refine set_is h1 fun d hd=> ?_
  rw [h2,dfB,dfR]
  rcases tabT_val ha d with ⟨e1,e2⟩ | ⟨i,_,e1,e2⟩ <;> rcases tabT_val hb d with ⟨f1,f2⟩ | ⟨j,_,f1,f2⟩
  · rw [if_neg (by omega),e1,e2,f1,f2];rfl
  · rw [if_neg (by omega),e1,e2,f1,f2,decide_eq_true (by omega)];simp
  · rw [if_neg (by omega),e1,e2,f1,f2,decide_eq_true (by omega)];simp
  · rw [if_pos ⟨by omega,by omega⟩,e1,e2,f1,f2,show ((i:Int)+1 - 1).toNat=i by omega,show ((j:Int)+1 - 1).toNat=j by omega]
    simp
/-- The days at which a value changes, as the reference tells it. -/
def chR (l:List Tst):Nat→List Int
  | 0=>[]
  | i+1=>(if i=0∨(l.getD (i - 1) tst0).hi≠(l.getD i tst0).lo then chR l i++[(l.getD i tst0).lo] else chR l i)++[(l.getD i tst0).hi]
theorem chR_len {l:List Tst}: ∀i,(chR l i).length≤2*i
  | 0=>by simp [chR]
  | i+1=>by
    have:=chR_len (l:=l) i
    rw [chR,List.length_append]
    split
    · rw [List.length_append];simp;omega
    · simp;omega
theorem chR_all {l:List Tst} (h:tRight l=true): ∀i,i≤l.length→(chR l i).Pairwise (· < ·)∧(∀x∈chR l i,0 < i∧x≤(l.getD (i - 1) tst0).hi)∧ ∀x,x∈chR l i↔ ∃j,j < i∧(x=(l.getD j tst0).lo∨x=(l.getD j tst0).hi)
  | 0,_=>⟨.nil,fun x hx=>(by cases hx),fun x=>⟨fun h=>(by cases h),fun ⟨j,hj,_⟩=>(by omega)⟩⟩
  | i+1,hi=>by
    obtain ⟨h1,h2,h3⟩:=chR_all h i (by omega)
    have h4:=xg0 h (i:=i) (by omega)
    have hb: ∀x∈chR l i,x≤(l.getD i tst0).lo:=fun x hx=>by
      obtain ⟨q1,q2⟩:=h2 x hx
      rcases h4.2.2.2 with h0 | h0
      · omega
      · omega
    have key: ∀zs:List Int,zs.Pairwise (· < ·)→(∀x∈zs,x≤(l.getD i tst0).lo)→(∀x,x∈zs↔(∃j,j < i∧(x=(l.getD j tst0).lo∨x=(l.getD j tst0).hi))∨x=(l.getD i tst0).lo)→
        (zs++[(l.getD i tst0).hi]).Pairwise (· < ·)∧(∀x∈zs++[(l.getD i tst0).hi],0 < i+1∧x≤(l.getD (i+1 - 1) tst0).hi)∧ ∀x,x∈zs++[(l.getD i tst0).hi]↔ ∃j,j < i+1∧(x=(l.getD j tst0).lo∨x=(l.getD j tst0).hi):=fun zs z1 z2 z3=>by
      refine ⟨List.pairwise_append.2 ⟨z1,List.pairwise_singleton ..,fun x hx y hy=> ?_⟩,fun x hx=>⟨by omega,?_⟩,fun x=> ?_⟩
      · rw [List.mem_singleton.1 hy]
        have:=z2 x hx;omega
      · rw [Nat.add_sub_cancel]
        rcases List.mem_append.1 hx with hx | hx
        · have:=z2 x hx;omega
        · rw [List.mem_singleton.1 hx];omega
      · rw [List.mem_append,z3,List.mem_singleton]
        constructor
        · rintro ((⟨j,hj,hx⟩ | hx) | hx)
          · exact ⟨j,by omega,hx⟩
          · exact ⟨i,by omega,.inl hx⟩
          · exact ⟨i,by omega,.inr hx⟩
        · rintro ⟨j,hj,hx⟩
          by_cases hji:j=i
          · subst hji
            rcases hx with hx | hx
            · exact .inl (.inr hx)
            · exact .inr hx
          · exact .inl (.inl ⟨j,by omega,hx⟩)
    rw [chR]
    split
    · rename_i hc
      refine key _ (List.pairwise_append.2 ⟨h1,List.pairwise_singleton ..,fun x hx y hy=> ?_⟩) (fun x hx=> ?_) fun x=> ?_
      · rw [List.mem_singleton.1 hy]
        obtain ⟨q1,q2⟩:=h2 x hx
        rcases h4.2.2.2 with h0 | h0
        · omega
        · rcases hc with hc | hc
          · omega
          · omega
      · rcases List.mem_append.1 hx with hx | hx
        · exact hb x hx
        · rw [List.mem_singleton.1 hx];omega
      · rw [List.mem_append,List.mem_singleton,h3]
    · rename_i hc
      refine key _ h1 hb fun x=> ?_
      rw [h3]
      constructor
      · exact .inl
      · rintro (hx | hx)
        · exact hx
        · have hi0:i≠0:=fun h=>hc (.inl h)
          have he:(l.getD (i - 1) tst0).hi=(l.getD i tst0).lo:=Classical.byContradiction fun h=>hc (.inr h)
          exact ⟨i - 1,by omega,.inr (by omega)⟩
theorem pw_ext: ∀{xs ys:List Int},xs.Pairwise (· < ·)→ys.Pairwise (· < ·)→(∀x,x∈xs↔x∈ys)→xs=ys
  | [],[],_,_,_=>rfl
  | [],y::_,_,_,h=>by have:=(h y).2 (List.mem_cons_self ..);cases this
  | x::_,[],_,_,h=>by have:=(h x).1 (List.mem_cons_self ..);cases this
  | x::xs,y::ys,hx,hy,h=>by
    obtain ⟨hx1,hx2⟩:=List.pairwise_cons.1 hx
    obtain ⟨hy1,hy2⟩:=List.pairwise_cons.1 hy
    have e:x=y:=by
      have q1:=(h x).1 (List.mem_cons_self ..)
      have q2:=(h y).2 (List.mem_cons_self ..)
      rcases List.mem_cons.1 q1 with q1 | q1
      · exact q1
      · rcases List.mem_cons.1 q2 with q2 | q2
        · exact q2.symm
        · have:=hx1 y q2;have:=hy1 x q1;omega
    subst e
    congr 1
    refine pw_ext hx2 hy2 fun z=>⟨fun hz=> ?_,fun hz=> ?_⟩
    · rcases List.mem_cons.1 ((h z).1 (List.mem_cons_of_mem _ hz)) with q | q
      · have:=hx1 z hz;omega
      · exact q
    · rcases List.mem_cons.1 ((h z).2 (List.mem_cons_of_mem _ hz)) with q | q
      · have:=hy1 z hz;omega
      · exact q
theorem chg_R {l:List Tst} (h:tRight l=true):chR l l.length=bds [l]:=by
  obtain ⟨h1,_,h3⟩:=chR_all h l.length (Nat.le_refl _)
  refine pw_ext h1 bds_pw fun x=> ?_
  rw [h3,bds_mem]
  constructor
  · rintro ⟨j,hj,hx⟩;exact ⟨l,by simp,_,xb6 hj,hx⟩
  · rintro ⟨m,hm,s,hs,hx⟩
    rw [List.mem_singleton] at hm
    subst hm
    obtain ⟨j,hj,rfl⟩:=xi3 hs
    exact ⟨j,hj,hx⟩
theorem tab0 {l:List Tst}:tabI l 0=fun _=>0:=rfl
theorem tabT_bd {l:List Tst} (h:tRight l=true) (d:Nat):0≤tabT l d∧tabT l d≤l.length:=by
  rcases tabT_val h d with ⟨e,_⟩ | ⟨j,hj,e,_⟩ <;> rw [e] <;> omega
/-- The marks of the first days. -/
def mk (f:Nat→Bool) (d e:Nat):Bool:=decide (e < d) && f e
theorem mkD0 {f:Nat→Bool}:mk f 0=fun _=>false:=by funext e;simp [mk]
theorem mkD_set {f:Nat→Bool} {d:Nat}:(rowD (mk f d)).set d (f d)=rowD (mk f (d+1)):=
  rowD_set (by simp [mk]) fun e he=>by
    rw [mk,mk]
    congr 1
    exact decide_eq_decide.2 (by omega)
theorem mkD_all {f:Nat→Bool}:rowD (mk f 65536)=rowD f:=by
  apply List.ext_getElem?
  intro e
  by_cases h:e < 65536
  · rw [xf8 h,xf8 h,mk,decide_eq_true h,Bool.true_and]
  · rw [List.getElem?_eq_none (by rw [xf1];omega),List.getElem?_eq_none (by rw [xf1];omega)]
theorem at_hit {l:List Tst} {i:Nat} {d:Int} (hi:i < l.length) (hn:valT (l.take i) d=none) (h:(l.getD i tst0).lo≤d∧d < (l.getD i tst0).hi):valT l d=some (l.getD i tst0).v:=by
  have e:valT l d=(valT (l.take (i+1)) d).or (valT (l.drop (i+1)) d):=by rw [←valT_append,List.take_append_drop]
  rw [e,valT_take hi,hn,if_pos h];rfl
theorem at_miss {l:List Tst} {d:Int} (h:tRight l=true→valT l d=none):atR l d=none:=by
  rw [atR]
  split
  · rename_i hr;exact h hr
  · rfl
theorem right_nil {l:List Tst} {i:Nat} (h:0 < i→tRight l=true) (hi:i=l.length):tRight l=true:=by
  rcases Nat.eq_zero_or_pos i with h0 | h0
  · have:l=[]:=List.length_eq_zero_iff.1 (by omega)
    subst this;rfl
  · exact h h0
attribute [irreducible] setK tabI
end An.S

/- The references of layers 4 and 5, day by day. -/
namespace An.S
open Go Go.Proofs An
set_option maxHeartbeats 2000000
set_option maxRecDepth 100000
instance sl210:SlI Tryz.prog 210 4 1 false:=⟨Tryz.underlying210,ti4⟩
instance fi178:FnI Tryz.prog 178:=⟨_,Tryz.func178,by kernel_rfl,rfl⟩
instance fi188:FnI Tryz.prog 188:=⟨_,Tryz.func188,by kernel_rfl,rfl⟩
theorem el4:ElI Tryz.prog 4 1 1 false (.bool false):=⟨ti4,by kernel_rfl,by kernel_rfl⟩
instance un210:UnI Tryz.prog 210 (.slice 4):=⟨Tryz.underlying210⟩
theorem c_R5Table (l:List Tst) (hl:l.length≤500000) (hok:tRight l=true):
  Ct Tryz.prog 188 [tL 8 true tTs l] (tL 1 false tI (rowD (tabT l))):=by
 obtain ⟨n,hn⟩: ∃n:Nat,n=65536:=⟨_,rfl⟩
 refine Ct.intro Tryz.func188 rfl Tryz.ntmps188 rfl ?_
 intro w F
 refine A7 ?_
 refine RE (xg3 (k:=6) (t:=tI 0) (ts:=rV tI (List.replicate n 0)) n n Tryz.underlying23 el3 (fun _ _=>rfl) rfl (by omega) (by omega) (Nat.le_refl _) (by omega) (by omega) (rV_rep _ _ rfl)) ⟨rfl,rfl,trivial⟩ trivial ⟨rfl,trivial⟩ ?_
 refine A9 ?_
 refine A1 ?_
 refine cL (fun (i:Nat)=>i≤l.length) (fun (i:Nat)=>upd (upd (upd (fun _=>none) 0 (some (.val (tL 8 true tTs l)))) 3 (some (.own (.sl 6 1 0 n)))) 4 (some (.val (tI i)))) (fun (i:Nat)=>upd (fun _=>none) 6 (some (⟨3,1,false,rV tI (rowD (tabI l i))⟩))) [6] (fun (i:Nat)=>l.length - i) (0) (Nat.zero_le _) (hh:=((SubK.consI rfl (ImpK.of (by rw [hn,rowD_rep,tab0]))) SubK.nil)) ?_
 intro i hI
 refine A9 ?_
 refine x9 rfl (fun h65=> ?_) (fun h65=> ?_)
 ·
  refine A8 ?_
  refine R2 (x5 sl51 (i) (by omega) (gD (l:=l) (n:=i) (d:=tst0) (by omega))) rfl rfl (R1 (xa8 fo59_0.h (At.f 0 rfl rfl) rfl) rfl ?_)
  refine A5 ?_
  have hat:=xg0 hok (i:=i) (by omega)
  refine cL (fun (e:Int)=>(l.getD i tst0).lo≤e∧e≤(l.getD i tst0).hi) (fun (e:Int)=>upd (upd (upd (upd (fun _=>none) 0 (some (.val (tL 8 true tTs l)))) 3 (some (.own (.sl 6 1 0 n)))) 4 (some (.val (tI i)))) 5 (some (.val (tI e)))) (fun (e:Int)=>upd (fun _=>none) 6 (some (⟨3,1,false,rV tI (rowD (tabF l i e))⟩))) [6] (fun (e:Int)=>((l.getD i tst0).hi - e).toNat) ((l.getD i tst0).lo) ⟨by omega,by omega⟩ (hh:=((SubK.consI rfl (ImpK.of (by rw [tabF_0]))) SubK.nil)) ?_
  intro e hI2
  obtain ⟨he1,he2⟩:=hI2
  refine A6 ?_
  refine R2 (x5 sl51 (i) (by omega) (gD (l:=l) (n:=i) (d:=tst0) (by omega))) rfl rfl (R1 (xa8 fo59_1.h (At.f 1 rfl rfl) rfl) rfl ?_)
  refine A4 ?_
  refine x9 rfl (fun h66=> ?_) (fun h66=> ?_)
  ·
   refine A9 ?_
   refine R2 (xa5 sl23 (by omega) (by omega) rfl) rfl rfl (RE (xc1 (e.toNat) ti3 (rV_lt (by rw [xf1];omega)) (by omega) (rV_set (f:=tI) (m:=(i:Int)+1) rfl)) ⟨rfl,rfl,trivial⟩ ⟨rfl,trivial⟩ trivial ?_)
   refine A8 ?_
   exact kF (e+1) ⟨⟨by omega,by omega⟩,(by omega)⟩ (hh:=((SubK.consI rfl (ImpK.of (by rw [tab_set (by omega) (by omega)]))) SubK.nil))
  ·
   refine A9 ?_
   refine A2 ?_
   exact kF (i+1) ⟨(by omega),(by omega)⟩ (hh:=((SubK.consI rfl (ImpK.of (by rw [tabF_1 (by omega)]))) SubK.nil))
 ·
  refine A7 ?_
  refine RE (xf2 (f:=tI) (xs:=rowD (tabI l i)) (fun _ h=>h) (rV_all (by rw [xf1];omega)) (by rw [xf1];omega)) ⟨rfl,trivial⟩ ⟨rfl,trivial⟩ trivial ?_
  refine A4 ?_
  exact x4 Plain.mk' rfl rfl (Le.of (by rw [show i=l.length by omega]))
theorem c_R4Set (f:Nat→Bool):
  Ct Tryz.prog 178 [tL 1 false tB (rowD f)] (tL 2 true tSn (setT f)):=by
 refine Ct.intro Tryz.func178 rfl Tryz.ntmps178 rfl ?_
 intro w F
 refine xd4 ?_
 refine xd5 ?_
 refine R1 xb5 rfl (xc6 (by kernel_rfl) (xb4 (xd4 ?_)))
 refine xd5 ?_
 refine RE (xf9 (k:=3) 119 2 true rfl (fun h=>by cases h)) trivial trivial ⟨rfl,trivial⟩ (xc6 (by kernel_rfl) (xb4 (xd4 (xd4 ?_))))
 refine xd5 ?_
 refine R1 xb5 rfl (xc6 (by kernel_rfl) (xb4 (C_block ?_)))
 refine cL (fun (fm:(Nat)×(List Sn))=>(fun (d:Nat) (xs:List Sn)=>d≤65536∧xs=setK f d) fm.1 fm.2) (fun (fm:(Nat)×(List Sn))=>(fun (d:Nat) (xs:List Sn)=>upd (upd (upd (fun _=>none) 0 (some (.val (tL 1 false tB (rowD f))))) 3 (some (.own (.sl 3 2 0 xs.length)))) 4 (some (.val (tI d)))) fm.1 fm.2) (fun (fm:(Nat)×(List Sn))=>(fun (d:Nat) (xs:List Sn)=>upd (fun _=>none) 3 (some (⟨119,2,true,rV tSn xs⟩))) fm.1 fm.2) [3] (fun (fm:(Nat)×(List Sn))=>(fun (d:Nat) (xs:List Sn)=>65536 - d) fm.1 fm.2) ((0,[])) (by dsimp only;exact ⟨Nat.zero_le _,by rw [setK]⟩) (hh:=((SubK.consI rfl ImpK.refl) SubK.nil)) ?_
 intro fm hI
 obtain ⟨d,xs⟩:=fm
 replace hI:d≤65536∧xs=setK f d:=hI
 show wc _ _ _ _ (upd (upd (upd (fun _=>none) 0 (some (.val (tL 1 false tB (rowD f))))) 3 (some (.own (.sl 3 2 0 xs.length)))) 4 (some (.val (tI d)))) (upd (fun _=>none) 3 (some (⟨119,2,true,rV tSn xs⟩))) _
 obtain ⟨hd,hx⟩:=hI
 have hxl:xs.length≤d:=by rw [hx];exact (setK_all d hd).2.2.2.2.1
 refine xd4 (xd4 ?_)
 refine xd5 ?_
 refine R1 xa2 rfl (R2 d_lss rfl rfl (xc6 (by kernel_rfl) (xb4 ?_)))
 refine x9 rfl (fun h35=> ?_) (fun h35=> ?_)
 ·
  refine C_skip (xb4 (xd4 (C_block (xd4 (xd4 ?_)))))
  refine xd5 ?_
  refine R1 xa2 rfl (R1 xa2 rfl (R2 (x5 sl210 (d) (by omega) (xf8 (by omega))) rfl rfl (R1 (xf3 ti4) rfl (R1 d_not rfl (xc6 (by kernel_rfl) (xb4 ?_))))))
  refine xd3 rfl (fun h36=> ?_) (fun h36=> ?_)
  ·
   have hf:f d=false:=by simpa using h36
   refine C_exit (K_exT (K_exB (xb4 ?_)))
   refine xd5 ?_
   refine R1 xa2 rfl (R2 (xd1 (wr64 (by omega) (by omega))) rfl rfl (R1 xb5 rfl (xc6 (by kernel_rfl) ?_)))
   exact kF ((d+1,xs)) ⟨(by dsimp only;exact ⟨by omega,by rw [setK_no hf,←hx]⟩),(by dsimp only;omega)⟩ (hh:=((SubK.consI rfl ImpK.refl) SubK.nil))
  ·
   have hf:f d=true:=by simpa using h36
   refine C_skip (xb4 (xd4 ?_))
   refine xd5 ?_
   refine R1 xa2 rfl (R2 d_gtr rfl rfl (R1 xa2 rfl ?_))
   refine RGcaseD (t:=16) rfl (fun h39=> ?_) (fun h39=> ?_)
   ·
    refine RGon (decide_eq_true h39) rfl xa2 rfl ⟨rfl,trivial⟩ trivial trivial (RGon (decide_eq_true h39) rfl xa2 rfl ⟨rfl,trivial⟩ trivial trivial (RGon (decide_eq_true h39) rfl (xe1 (wr64 (by omega) (by omega))) rfl ⟨rfl,rfl,trivial⟩ trivial trivial (RGon (decide_eq_true h39) rfl (x5 sl210 (d - 1) (by omega) (xf8 (by omega))) rfl ⟨rfl,rfl,trivial⟩ trivial trivial (RGon (decide_eq_true h39) rfl (xf3 ti4) rfl ⟨rfl,trivial⟩ trivial trivial (R2 (xe6 (decide_eq_true h39)) rfl rfl (xc6 (by kernel_rfl) (xb4 ?_)))))))
    refine xd3 rfl (fun h39_2=> ?_) (fun h39_2=> ?_)
    ·
     have hk:=(setK_all (f:=f) d (by omega)).2.2.2.1 ⟨by omega,h39_2⟩
     rw [←hx] at hk
     refine xd5 ?_
     refine R1 xa2 rfl (R1 xa2 rfl (R1 (d_lenO Tryz.underlying113) rfl (R2 (xe1 (wr64 (by omega) (by omega))) rfl rfl (R1 xa2 rfl (R2 (xd1 (wr64 (by omega) (by omega))) rfl rfl (R2 (xa5 sl113 (by omega) (by omega) rfl) rfl rfl (R1 (xg7 fo119_1.h rfl) rfl ?_)))))))
     refine RE (d_storeF (es:=2) (o:=1) (t2:=tSn ⟨(xs.getD (xs.length - 1) sn0).lo,(d:Int)+1⟩) (xs.length - 1) ti3 (rV_getD (d:=sn0) (by omega)) (Up.g 1 rfl rfl rfl) (by omega) (rV_set rfl)) ⟨rfl,rfl,trivial⟩ ⟨rfl,trivial⟩ trivial (xc6 (by kernel_rfl) (K_norB (xb4 ?_)))
     refine xd5 ?_
     refine R1 xa2 rfl (R2 (xd1 (wr64 (by omega) (by omega))) rfl rfl (R1 xb5 rfl (xc6 (by kernel_rfl) ?_)))
     exact kF ((d+1,(xs.set (xs.length - 1) ⟨(xs.getD (xs.length - 1) sn0).lo,(d:Int)+1⟩))) ⟨(by dsimp only;exact ⟨by omega,by rw [setK_long hf ⟨by omega,h39_2⟩,←hx];rfl⟩),(by dsimp only;omega)⟩ (hg:=(sI ((Sub.consI rfl (Imp.of (by dsimp only;rw [List.length_set]))) (sC Sub.nil)))) (hh:=((SubK.consI rfl ImpK.refl) SubK.nil))
    ·
     refine xd5 ?_
     refine R1 xa2 rfl (R1 xa2 rfl (R1 xa2 rfl (R2 (xd1 (wr64 (by omega) (by omega))) rfl rfl (R2 (xa7 (r:=tS [⟨1,false,tI (d:Int)⟩,⟨1,false,tI ((d:Int)+1)⟩]) (ts:=[(0,tI (d:Int)),(1,tI ((d:Int)+1))]) bu119 zr119.2 ⟨_,rfl⟩ rfl ⟨_,_,_,_,rfl,Up.f (fs:=[⟨1,false,(tE (.int .i64 0))⟩,⟨1,false,(tE (.int .i64 0))⟩]) (f:=⟨1,false,(tE (.int .i64 0))⟩) (fs':=[⟨1,false,tI (d:Int)⟩,⟨1,false,(tE (.int .i64 0))⟩]) 0 rfl rfl rfl,inferInstance,⟨_,_,_,_,rfl,Up.f (fs:=[⟨1,false,tI (d:Int)⟩,⟨1,false,(tE (.int .i64 0))⟩]) (f:=⟨1,false,(tE (.int .i64 0))⟩) (fs':=[⟨1,false,tI (d:Int)⟩,⟨1,false,tI ((d:Int)+1)⟩]) 1 rfl rfl rfl,inferInstance,Le.refl⟩⟩) rfl rfl (R1 (xc0 (n:=1) (f:=tSn) [(⟨(d:Int),(d:Int)+1⟩:Sn)] Tryz.underlying113 el119 zf119 rfl (fun _=>inferInstance) rfl rfl rfl) rfl (RE (xb7 (k:=3) (k':=37) (f:=tSn) (ys:=[(⟨(d:Int),(d:Int)+1⟩:Sn)]) (ts':=rV tSn (xs++[(⟨(d:Int),(d:Int)+1⟩:Sn)])) Tryz.underlying113 el119 zf119 rfl rfl (fun _=>inferInstance) xc8 (by simp;omega) (by simp;omega) (by simp [rV]) (n':=xs.length+1) rfl) ⟨rfl,rfl,trivial⟩ ⟨rfl,trivial⟩ ⟨rfl,trivial⟩ (R1 xb5 rfl ?_)))))))
     refine xc6 (by kernel_rfl) (K_norB (xb4 ?_))
     refine xd5 ?_
     refine R1 xa2 rfl (R2 (xd1 (wr64 (by omega) (by omega))) rfl rfl (R1 xb5 rfl (xc6 (by kernel_rfl) ?_)))
     exact xe4 (l:=[3]) (fun j=>cond (Nat.beq j 3) 37 (j)) ((d+1,xs++[(⟨(d:Int),(d:Int)+1⟩:Sn)])) ⟨(by dsimp only;exact ⟨by omega,by rw [setK_new hf (fun h=>by rw [h39_2] at h;cases h.2),←hx]⟩),(by dsimp only;omega)⟩ (SubR.int rfl (by first | omega | rfl | (dsimp only;omega)) ((SubR.consI rfl (Imp.of (by dsimp only;rw [List.length_append];rfl))) (SubR.cons rfl SubR.nil))) ((SubKR.consI rfl (ImpK.of xb9.symm)) SubKR.nil) (SupG.val (SupG.own rfl (SupG.val SupG.nil))) (SupH.cons rfl (supJ xb0) SupH.nil) (lkOk rfl) rfl rfl (fun _ h=>by cases h)
   ·
    refine RGoff (decide_eq_false h39) rfl rfl (RGoff (decide_eq_false h39) rfl rfl (RGoff (decide_eq_false h39) rfl rfl (RGoff (decide_eq_false h39) rfl rfl (RGoff (decide_eq_false h39) rfl rfl (R2 (xd2 (decide_eq_false h39)) rfl rfl (xc6 (by kernel_rfl) (xb4 ?_)))))))
    refine C_bF rfl rfl ?_
    refine xd5 ?_
    refine R1 xa2 rfl (R1 xa2 rfl (R1 xa2 rfl (R2 (xd1 (wr64 (by omega) (by omega))) rfl rfl (R2 (xa7 (r:=tS [⟨1,false,tI (d:Int)⟩,⟨1,false,tI ((d:Int)+1)⟩]) (ts:=[(0,tI (d:Int)),(1,tI ((d:Int)+1))]) bu119 zr119.2 ⟨_,rfl⟩ rfl ⟨_,_,_,_,rfl,Up.f (fs:=[⟨1,false,(tE (.int .i64 0))⟩,⟨1,false,(tE (.int .i64 0))⟩]) (f:=⟨1,false,(tE (.int .i64 0))⟩) (fs':=[⟨1,false,tI (d:Int)⟩,⟨1,false,(tE (.int .i64 0))⟩]) 0 rfl rfl rfl,inferInstance,⟨_,_,_,_,rfl,Up.f (fs:=[⟨1,false,tI (d:Int)⟩,⟨1,false,(tE (.int .i64 0))⟩]) (f:=⟨1,false,(tE (.int .i64 0))⟩) (fs':=[⟨1,false,tI (d:Int)⟩,⟨1,false,tI ((d:Int)+1)⟩]) 1 rfl rfl rfl,inferInstance,Le.refl⟩⟩) rfl rfl (R1 (xc0 (n:=1) (f:=tSn) [(⟨(d:Int),(d:Int)+1⟩:Sn)] Tryz.underlying113 el119 zf119 rfl (fun _=>inferInstance) rfl rfl rfl) rfl (RE (xb7 (k:=3) (k':=37) (f:=tSn) (ys:=[(⟨(d:Int),(d:Int)+1⟩:Sn)]) (ts':=rV tSn (xs++[(⟨(d:Int),(d:Int)+1⟩:Sn)])) Tryz.underlying113 el119 zf119 rfl rfl (fun _=>inferInstance) xc8 (by simp;omega) (by simp;omega) (by simp [rV]) (n':=xs.length+1) rfl) ⟨rfl,rfl,trivial⟩ ⟨rfl,trivial⟩ ⟨rfl,trivial⟩ (R1 xb5 rfl ?_)))))))
    refine xc6 (by kernel_rfl) (K_norB (xb4 ?_))
    refine xd5 ?_
    refine R1 xa2 rfl (R2 (xd1 (wr64 (by omega) (by omega))) rfl rfl (R1 xb5 rfl (xc6 (by kernel_rfl) ?_)))
    exact xe4 (l:=[3]) (fun j=>cond (Nat.beq j 3) 37 (j)) ((d+1,xs++[(⟨(d:Int),(d:Int)+1⟩:Sn)])) ⟨(by dsimp only;exact ⟨by omega,by rw [setK_new hf (fun h=>by omega),←hx]⟩),(by dsimp only;omega)⟩ (SubR.int rfl (by first | omega | rfl | (dsimp only;omega)) ((SubR.consI rfl (Imp.of (by dsimp only;rw [List.length_append];rfl))) (SubR.cons rfl SubR.nil))) ((SubKR.consI rfl (ImpK.of xb9.symm)) SubKR.nil) (SupG.val (SupG.own rfl (SupG.val SupG.nil))) (SupH.cons rfl (supJ xb0) SupH.nil) (lkOk rfl) rfl rfl (fun _ h=>by cases h)
 ·
  refine C_exit (K_exT (K_exT (K_exB (xb4 (xd4 ?_)))))
  refine xd5 ?_
  refine RE (xf2 (f:=tSn) (xs:=xs) (fun _ h=>h) (rV_all rfl) rfl) ⟨rfl,trivial⟩ ⟨rfl,trivial⟩ trivial (R1 xb5 rfl (xc6 (by kernel_rfl) (xb4 (C_ret ?_))))
  exact x4 Plain.mk' rfl rfl (Le.of (by rw [hx,show d=65536 by omega]))
theorem c_R5Covers (l:List Tst) (hl:l.length≤500000) (hD: ∀s∈l,s.v.f.dig) (hs: ∀s∈l,s.v.f.n.l.length≤1048576∧s.v.f.d.l.length≤1048576):
  Ct Tryz.prog 108 [tL 8 true tTs l] (tL 2 true tSn (if tRight l=true then cvT l else [])):=by
 obtain ⟨n,hn⟩: ∃n:Nat,n=65536:=⟨_,rfl⟩
 refine Ct.intro Tryz.func108 rfl Tryz.ntmps108 rfl ?_
 intro w F
 refine A9 ?_
 refine R1 (x3 (c_R5Right l hl hD hs) fi107 rfl) rfl ?_
 refine A3 ?_
 refine xd3 rfl (fun h175=> ?_) (fun h175=> ?_)
 ·
  refine A7 ?_
  exact x4 Plain.mk' rfl rfl (leNil (by rw [if_neg (by simpa using h175)]))
 ·
  have hok:tRight l=true:=by simpa using h175
  refine A5 ?_
  refine R1 (x3 (c_R5Table l hl hok) fi188 rfl) rfl ?_
  refine A5 ?_
  refine RE (xg3 (k:=11) (t:=tB false) (ts:=rV tB (List.replicate n false)) n n Tryz.underlying210 el4 (fun _ _=>rfl) rfl (by omega) (by omega) (Nat.le_refl _) (by omega) (by omega) (rV_rep _ _ rfl)) ⟨rfl,rfl,trivial⟩ trivial ⟨rfl,trivial⟩ ?_
  refine A9 ?_
  refine A1 ?_
  refine cL (fun (d:Nat)=>d≤65536) (fun (d:Nat)=>upd (upd (upd (fun _=>none) 3 (some (.val (tL 1 false tI (rowD (tabT l)))))) 4 (some (.own (.sl 11 1 0 n)))) 5 (some (.val (tI d)))) (fun (d:Nat)=>upd (fun _=>none) 11 (some (⟨4,1,false,rV tB (rowD (mk (fun d=>decide (0 < tabT l d)) d))⟩))) [11] (fun (d:Nat)=>65536 - d) (0) (Nat.zero_le _) (hh:=((SubK.consI rfl (ImpK.of (by rw [hn,rowD_rep,mkD0]))) SubK.nil)) ?_
  intro d hI
  refine A7 ?_
  refine x9 rfl (fun h180=> ?_) (fun h180=> ?_)
  ·
   refine A9 ?_
   refine R2 (x5 sl23 (d) (by omega) (xf8 (by omega))) rfl rfl ?_
   refine A2 ?_
   refine R2 (xa5 sl210 (by omega) (by omega) rfl) rfl rfl (RE (xc1 (d) ti4 (rV_lt (by rw [xf1];omega)) (by omega) (rV_set (f:=tB) (m:=decide (0 < tabT l d)) rfl)) ⟨rfl,rfl,trivial⟩ ⟨rfl,trivial⟩ trivial ?_)
   refine A8 ?_
   exact kF (d+1) ⟨(by omega),(by omega)⟩ (hh:=((SubK.consI rfl (ImpK.of (by rw [mkD_set (f:=(fun d=>decide (0 < tabT l d)))]))) SubK.nil))
  ·
   refine A6 ?_
   have hd6:d=65536:=by omega
   refine C_key (k:=11) (e':=⟨4,1,false,rV tB (rowD (fun d=>decide (0 < tabT l d)))⟩) rfl (by rw [hd6,mkD_all]) ?_
   refine A1 ?_
   refine RE (xf2 (f:=tB) (xs:=rowD (fun d=>decide (0 < tabT l d))) (fun _ h=>h) (rV_all (by rw [xf1];omega)) (by rw [xf1];omega)) ⟨rfl,trivial⟩ ⟨rfl,trivial⟩ trivial (R1 (x3 (c_R4Set (fun d=>decide (0 < tabT l d))) fi178 rfl) rfl ?_)
   refine A4 ?_
   exact x4 Plain.mk' rfl rfl (Le.of (by rw [if_pos hok,cover_R hok]))
theorem c_R5Diff (a b:List Tst) (hla:a.length≤200000) (hlb:b.length≤200000) (hDa: ∀s∈a,s.v.f.dig) (hDb: ∀s∈b,s.v.f.dig) (hsa: ∀s∈a,s.v.f.n.l.length≤1048576∧s.v.f.d.l.length≤1048576) (hsb: ∀s∈b,s.v.f.n.l.length≤1048576∧s.v.f.d.l.length≤1048576):
  Ct Tryz.prog 103 [tL 8 true tTs a,tL 8 true tTs b] (tT [tL 2 true tSn (if tRight a=true∧tRight b=true then dfS a b else []),tI (if tRight a=true∧tRight b=true then 0 else 2)]):=by
 obtain ⟨n,hn⟩: ∃n:Nat,n=65536:=⟨_,rfl⟩
 refine Ct.intro Tryz.func103 rfl Tryz.ntmps103 rfl ?_
 intro w F
 refine xd4 ?_
 refine xd5 ?_
 refine R1 xb5 rfl (R1 xb5 rfl (xc6 (by kernel_rfl) (xb4 (xd4 (xd4 ?_)))))
 refine xd5 ?_
 refine R1 xa2 rfl (R1 (x3 (c_R5Right a (by omega) hDa hsa) fi107 rfl) rfl (R1 d_not rfl (R1 xa2 rfl ?_)))
 refine RGcase (t:=13) rfl (fun h200=> ?_) (fun h200=> ?_)
 ·
  refine RGoff h200 rfl rfl (RGoff h200 rfl rfl (RGoff h200 rfl rfl (R2 (xe6 h200) rfl rfl (xc6 (by kernel_rfl) (xb4 (C_bT rfl rfl (xd4 ?_)))))))
  refine xd5 ?_
  refine R1 xb5 rfl (R1 xb5 rfl (xc6 (by kernel_rfl) (xb4 (C_ret (K_retT ?_)))))
  exact xc4 Plain.mk' rfl rfl rfl (leNil (if_neg (fun h=>by simp [h.1] at*))) (Le.int (if_neg (fun h=>by simp [h.1] at*)).symm)
 ·
  refine RGon h200 rfl xa2 rfl ⟨rfl,trivial⟩ trivial trivial (RGon h200 rfl (x3 (c_R5Right b (by omega) hDb hsb) fi107 rfl) rfl ⟨rfl,trivial⟩ trivial trivial (RGon h200 rfl d_not rfl ⟨rfl,trivial⟩ trivial trivial (R2 (xd2 h200) rfl rfl (xc6 (by kernel_rfl) (xb4 ?_)))))
  refine xd3 rfl (fun h200_2=> ?_) (fun h200_2=> ?_)
  ·
   refine xd4 ?_
   refine xd5 ?_
   refine R1 xb5 rfl (R1 xb5 rfl (xc6 (by kernel_rfl) (xb4 (C_ret (K_retT ?_)))))
   exact xc4 Plain.mk' rfl rfl rfl (leNil (if_neg (fun h=>by simp [h.1,h.2] at*))) (Le.int (if_neg (fun h=>by simp [h.1,h.2] at*)).symm)
  ·
   refine C_skip (xb4 (xd4 ?_))
   have hok:tRight a=true∧tRight b=true:=⟨by simpa using h200,by simpa using h200_2⟩
   refine xd5 ?_
   refine R1 xa2 rfl (R1 (x3 (c_R5Table a (by omega) hok.1) fi188 rfl) rfl (R1 xa2 rfl (R1 (x3 (c_R5Table b (by omega) hok.2) fi188 rfl) rfl (R1 xb5 rfl (R1 xb5 rfl (xc6 (by kernel_rfl) (xb4 ?_)))))))
   refine xd4 ?_
   refine xd5 ?_
   refine RE (xg3 (k:=22) (t:=tB false) (ts:=rV tB (List.replicate n false)) n n Tryz.underlying210 el4 (fun _ _=>rfl) rfl (by omega) (by omega) (Nat.le_refl _) (by omega) (by omega) (rV_rep _ _ rfl)) ⟨rfl,rfl,trivial⟩ trivial ⟨rfl,trivial⟩ (R1 xb5 rfl (xc6 (by kernel_rfl) (xb4 (xd4 (xd4 ?_)))))
   refine xd5 ?_
   refine R1 xb5 rfl (xc6 (by kernel_rfl) (xb4 (C_block ?_)))
   refine cL (fun (d:Nat)=>d≤65536) (fun (d:Nat)=>upd (upd (upd (upd (upd (upd (fun _=>none) 0 (some (.val (tL 8 true tTs a)))) 1 (some (.val (tL 8 true tTs b)))) 6 (some (.val (tL 1 false tI (rowD (tabT a)))))) 7 (some (.val (tL 1 false tI (rowD (tabT b)))))) 8 (some (.own (.sl 22 1 0 n)))) 9 (some (.val (tI d)))) (fun (d:Nat)=>upd (fun _=>none) 22 (some (⟨4,1,false,rV tB (rowD (mk (dfR a b) d))⟩))) [22] (fun (d:Nat)=>65536 - d) (0) (Nat.zero_le _) (hh:=((SubK.consI rfl (ImpK.of (by rw [hn,rowD_rep,mkD0]))) SubK.nil)) ?_
   intro d hI
   have qa:=tabT_bd hok.1 d
   have qb:=tabT_bd hok.2 d
   refine xd4 (xd4 ?_)
   refine xd5 ?_
   refine R1 xa2 rfl (R2 d_lss rfl rfl (xc6 (by kernel_rfl) (xb4 ?_)))
   refine x9 rfl (fun h205=> ?_) (fun h205=> ?_)
   ·
    refine C_skip (xb4 (xd4 (C_block (xd4 ?_))))
    refine xd5 ?_
    refine R1 xa2 rfl (R1 xa2 rfl (R2 (x5 sl23 (d) (by omega) (xf8 (by omega))) rfl rfl (R1 (xf3 ti3) rfl (R2 d_gtr rfl rfl (R1 xa2 rfl ?_)))))
    refine RGcaseD (t:=32) rfl (fun h206=> ?_) (fun h206=> ?_)
    ·
     refine RGon (decide_eq_true h206) rfl xa2 rfl ⟨rfl,trivial⟩ trivial trivial (RGon (decide_eq_true h206) rfl xa2 rfl ⟨rfl,trivial⟩ trivial trivial (RGon (decide_eq_true h206) rfl (x5 sl23 (d) (by omega) (xf8 (by omega))) rfl ⟨rfl,rfl,trivial⟩ trivial trivial (RGon (decide_eq_true h206) rfl (xf3 ti3) rfl ⟨rfl,trivial⟩ trivial trivial (RGon (decide_eq_true h206) rfl d_gtr rfl ⟨rfl,rfl,trivial⟩ trivial trivial (R2 (xe6 (decide_eq_true h206)) rfl rfl (xc6 (by kernel_rfl) (xb4 ?_)))))))
     refine x9 rfl (fun h206_2=> ?_) (fun h206_2=> ?_)
     ·
      refine C_draw mixed ?_
      refine R1 xa2 rfl (R1 xa2 rfl (R1 xa2 rfl (R1 xa2 rfl (R1 xa2 rfl (R2 (x5 sl23 (d) (by omega) (xf8 (by omega))) rfl rfl (R1 (xf3 ti3) rfl (R2 (xe1 (wr64 (by omega) (by omega))) rfl rfl ?_)))))))
      refine R2 (x5 sl51 ((tabT a d - 1).toNat) (by omega) (gD (l:=a) (n:=(tabT a d - 1).toNat) (d:=tst0) (by omega))) rfl rfl (R1 (xa8 fo59_2.h (At.f 2 rfl rfl) rfl) rfl (R1 (xf3 ti57) rfl (R1 xa2 rfl (R1 xa2 rfl (R1 xa2 rfl (R2 (x5 sl23 (d) (by omega) (xf8 (by omega))) rfl rfl (R1 (xf3 ti3) rfl ?_)))))))
      refine R2 (xe1 (wr64 (by omega) (by omega))) rfl rfl (R2 (x5 sl51 ((tabT b d - 1).toNat) (by omega) (gD (l:=b) (n:=(tabT b d - 1).toNat) (d:=tst0) (by omega))) rfl rfl (R1 (xa8 fo59_2.h (At.f 2 rfl rfl) rfl) rfl (R1 (xf3 ti57) rfl (R2 (x3 (c_R5Same _ _ (hsa _ (xb6 (by omega))).1 (hsa _ (xb6 (by omega))).2) fi124 rfl) rfl rfl (R1 d_not rfl (R2 (xa5 sl210 (by omega) (by omega) rfl) rfl rfl (RE (xc1 (d) ti4 (rV_lt (by rw [xf1];omega)) (by omega) (rV_set (f:=tB) (m:=dfR a b d) (by rw [dfR,if_pos ⟨by omega,by omega⟩]))) ⟨rfl,rfl,trivial⟩ ⟨rfl,trivial⟩ trivial ?_)))))))
      refine R_end (by kernel_rfl) (K_norB (xb4 ?_))
      refine xd5 ?_
      refine R1 xa2 rfl (R2 (xd1 (wr64 (by omega) (by omega))) rfl rfl (R1 xb5 rfl (xc6 (by kernel_rfl) ?_)))
      exact kF (d+1) ⟨(by omega),(by omega)⟩ (hh:=((SubK.consI rfl (ImpK.of (by rw [mkD_set (f:=(dfR a b))]))) SubK.nil))
     ·
      refine C_draw mixed ?_
      refine R1 xa2 rfl (R1 xa2 rfl (R1 xa2 rfl (R1 xa2 rfl (R2 (x5 sl23 (d) (by omega) (xf8 (by omega))) rfl rfl (R1 (xf3 ti3) rfl (R1 xa2 rfl (R1 xa2 rfl ?_)))))))
      refine R2 (x5 sl23 (d) (by omega) (xf8 (by omega))) rfl rfl (R1 (xf3 ti3) rfl (R2 (xd1 (wr64 (by omega) (by omega))) rfl rfl (R2 d_gtr rfl rfl (R2 (xa5 sl210 (by omega) (by omega) rfl) rfl rfl (RE (xc1 (d) ti4 (rV_lt (by rw [xf1];omega)) (by omega) (rV_set (f:=tB) (m:=dfR a b d) (by rw [dfR,if_neg (by omega)]))) ⟨rfl,rfl,trivial⟩ ⟨rfl,trivial⟩ trivial (R_end (by kernel_rfl) (K_norB ?_)))))))
      refine xb4 ?_
      refine xd5 ?_
      refine R1 xa2 rfl (R2 (xd1 (wr64 (by omega) (by omega))) rfl rfl (R1 xb5 rfl (xc6 (by kernel_rfl) ?_)))
      exact kF (d+1) ⟨(by omega),(by omega)⟩ (hh:=((SubK.consI rfl (ImpK.of (by rw [mkD_set (f:=(dfR a b))]))) SubK.nil))
    ·
     refine RGoff (decide_eq_false h206) rfl rfl (RGoff (decide_eq_false h206) rfl rfl (RGoff (decide_eq_false h206) rfl rfl (RGoff (decide_eq_false h206) rfl rfl (RGoff (decide_eq_false h206) rfl rfl (R2 (xd2 (decide_eq_false h206)) rfl rfl (xc6 (by kernel_rfl) (xb4 ?_)))))))
     refine C_bF rfl rfl ?_
     refine C_draw mixed ?_
     refine R1 xa2 rfl (R1 xa2 rfl (R1 xa2 rfl (R1 xa2 rfl (R2 (x5 sl23 (d) (by omega) (xf8 (by omega))) rfl rfl (R1 (xf3 ti3) rfl (R1 xa2 rfl (R1 xa2 rfl ?_)))))))
     refine R2 (x5 sl23 (d) (by omega) (xf8 (by omega))) rfl rfl (R1 (xf3 ti3) rfl (R2 (xd1 (wr64 (by omega) (by omega))) rfl rfl (R2 d_gtr rfl rfl (R2 (xa5 sl210 (by omega) (by omega) rfl) rfl rfl (RE (xc1 (d) ti4 (rV_lt (by rw [xf1];omega)) (by omega) (rV_set (f:=tB) (m:=dfR a b d) (by rw [dfR,if_neg (by omega)]))) ⟨rfl,rfl,trivial⟩ ⟨rfl,trivial⟩ trivial (R_end (by kernel_rfl) (K_norB ?_)))))))
     refine xb4 ?_
     refine xd5 ?_
     refine R1 xa2 rfl (R2 (xd1 (wr64 (by omega) (by omega))) rfl rfl (R1 xb5 rfl (xc6 (by kernel_rfl) ?_)))
     exact kF (d+1) ⟨(by omega),(by omega)⟩ (hh:=((SubK.consI rfl (ImpK.of (by rw [mkD_set (f:=(dfR a b))]))) SubK.nil))
   ·
    refine C_exit (K_exT (K_exT (K_exB (xb4 (xd4 ?_)))))
    have hd6:d=65536:=by omega
    refine C_key (k:=22) (e':=⟨4,1,false,rV tB (rowD (dfR a b))⟩) rfl (by rw [hd6,mkD_all]) ?_
    refine xd5 ?_
    refine RE (xf2 (f:=tB) (xs:=rowD (dfR a b)) (fun _ h=>h) (rV_all (by rw [xf1];omega)) (by rw [xf1];omega)) ⟨rfl,trivial⟩ ⟨rfl,trivial⟩ trivial (R1 (x3 (c_R4Set (dfR a b)) fi178 rfl) rfl (R1 xb5 rfl (R1 xb5 rfl (xc6 (by kernel_rfl) (xb4 (C_ret ?_))))))
    exact xc4 Plain.mk' rfl rfl rfl (Le.of (by rw [if_pos hok,diff_R hok.1 hok.2])) (Le.int (by rw [if_pos hok]))
theorem c_R5At (l:List Tst) (d:Int) (hl:l.length≤500000) (hD: ∀s∈l,s.v.f.dig) (hs: ∀s∈l,s.v.f.n.l.length≤1048576∧s.v.f.d.l.length≤1048576):
  Ct Tryz.prog 101 [tL 8 true tTs l,tI d] (tT [tVa ((atR l d).getD An.va0),tB (atR l d).isSome]):=by
 refine Ct.intro Tryz.func101 rfl Tryz.ntmps101 rfl ?_
 intro w F
 refine A2 ?_
 refine RE (xa3 (k:=4) (n:=6) (agg:=true) zr57.1 zr57.2 rfl) trivial trivial ⟨rfl,trivial⟩ ?_
 refine A9 ?_
 refine A1 ?_
 refine cL (fun (i:Nat)=>i≤l.length∧valT (l.take i) d=none) (fun (i:Nat)=>upd (upd (upd (upd (fun _=>none) 0 (some (.val (tL 8 true tTs l)))) 1 (some (.val (tI d)))) 4 (some (.own (.ptr 4 0)))) 6 (some (.val (tI i)))) (fun (i:Nat)=>upd (fun _=>none) 4 (some (⟨57,6,true,[.val (tVa An.va0)]⟩))) [4] (fun (i:Nat)=>l.length - i) (0) ⟨Nat.zero_le _,rfl⟩ (hh:=((SubK.consI rfl ImpK.refl) SubK.nil)) ?_
 intro i hI
 obtain ⟨hi,hn⟩:=hI
 refine A8 ?_
 refine RGcaseD (t:=11) rfl (fun h95=> ?_) (fun h95=> ?_)
 ·
  refine A1 ?_
  refine RGon (decide_eq_true h95) rfl (x3 (c_R5Right l hl hD hs) fi107 rfl) rfl ⟨rfl,trivial⟩ trivial trivial ?_
  refine A3 ?_
  refine xd3 rfl (fun h95_2=> ?_) (fun h95_2=> ?_)
  ·
   refine A8 ?_
   refine R2 (x5 sl51 (i) (by omega) (gD (l:=l) (n:=i) (d:=tst0) (by omega))) rfl rfl (R1 (xa8 fo59_0.h (At.f 0 rfl rfl) rfl) rfl ?_)
   refine A4 ?_
   refine RGcaseD (t:=24) rfl (fun h96=> ?_) (fun h96=> ?_)
   ·
    refine A3 ?_
    refine RGon (decide_eq_true h96) rfl (x5 sl51 (i) (by omega) (gD (l:=l) (n:=i) (d:=tst0) (by omega))) rfl ⟨rfl,rfl,trivial⟩ trivial trivial (RGon (decide_eq_true h96) rfl (xa8 fo59_1.h (At.f 1 rfl rfl) rfl) rfl ⟨rfl,trivial⟩ trivial trivial ?_)
    refine A5 ?_
    refine x9 rfl (fun h96_2=> ?_) (fun h96_2=> ?_)
    ·
     refine A4 ?_
     refine R2 (x5 sl51 (i) (by omega) (gD (l:=l) (n:=i) (d:=tst0) (by omega))) rfl rfl (R1 (xa8 fo59_2.h (At.f 2 rfl rfl) rfl) rfl ?_)
     refine A9 ?_
     refine A2 ?_
     exact xd9 Plain.mk' (rs:=[.cell 4 57,.tmp 5]) rfl rfl ⟨⟨_,_,_,_,_,rfl,rfl,ti57,(Le.of (by rw [atR,if_pos h95_2,at_hit (by omega) hn ⟨by omega,by omega⟩];rfl))⟩,⟨_,rfl,(Le.bool (by rw [atR,if_pos h95_2,at_hit (by omega) hn ⟨by omega,by omega⟩];rfl))⟩,trivial⟩
    ·
     refine A8 ?_
     exact kF (i+1) ⟨⟨by omega,by rw [valT_take (by omega),hn,if_neg (by omega)];rfl⟩,(by omega)⟩ (hh:=((SubK.consI rfl ImpK.refl) SubK.nil))
   ·
    refine A9 ?_
    refine A9 ?_
    refine A1 ?_
    exact kF (i+1) ⟨⟨by omega,by rw [valT_take (by omega),hn,if_neg (by omega)];rfl⟩,(by omega)⟩ (hh:=((SubK.consI rfl ImpK.refl) SubK.nil))
  ·
   refine A7 ?_
   refine R0 (xa7 (r:=tS [⟨1,false,(tE (.int .u8 0))⟩,⟨4,true,(tS [⟨2,true,(tS [⟨1,false,(tE (.bool false))⟩,⟨1,false,(tLm [])⟩])⟩,⟨2,true,(tS [⟨1,false,(tE (.bool false))⟩,⟨1,false,(tLm [])⟩])⟩])⟩,⟨1,false,(tE (.int .i64 0))⟩]) (ts:=[]) bu57 zr57.2 ⟨_,rfl⟩ rfl Le.refl) ?_
   refine A5 ?_
   exact xd9 Plain.mk' (rs:=[.cell 4 57,.tmp 5]) rfl rfl ⟨⟨_,_,_,_,_,rfl,rfl,ti57,(Le.of (by rw [at_miss (fun h=>by rw [h] at h95_2;cases h95_2)];rfl))⟩,⟨_,rfl,(Le.bool (by rw [at_miss (fun h=>by rw [h] at h95_2;cases h95_2)];rfl))⟩,trivial⟩
 ·
  refine A9 ?_
  refine A4 ?_
  refine R0 (xa7 (r:=tS [⟨1,false,(tE (.int .u8 0))⟩,⟨4,true,(tS [⟨2,true,(tS [⟨1,false,(tE (.bool false))⟩,⟨1,false,(tLm [])⟩])⟩,⟨2,true,(tS [⟨1,false,(tE (.bool false))⟩,⟨1,false,(tLm [])⟩])⟩])⟩,⟨1,false,(tE (.int .i64 0))⟩]) (ts:=[]) bu57 zr57.2 ⟨_,rfl⟩ rfl Le.refl) ?_
  refine A5 ?_
  exact xd9 Plain.mk' (rs:=[.cell 4 57,.tmp 5]) rfl rfl ⟨⟨_,_,_,_,_,rfl,rfl,ti57,(Le.of (by rw [at_miss (fun _=>by rw [show i=l.length by omega,List.take_length] at hn;exact hn)];rfl))⟩,⟨_,rfl,(Le.bool (by rw [at_miss (fun _=>by rw [show i=l.length by omega,List.take_length] at hn;exact hn)];rfl))⟩,trivial⟩
theorem leNil2 {l:List Tst} {xs:List Int} {i:Nat} (hx:xs=chR l i) (h:tRight l=false) (hr:0 < i→tRight l=true):Le (tL 1 false tI xs) (tL 1 false tI (if tRight l=true then bds [l] else [])):=by
  have h0:i=0:=by
    rcases Nat.eq_zero_or_pos i with h0 | h0
    · exact h0
    · rw [hr h0] at h;cases h
  subst h0
  rw [if_neg (by rw [h];decide),hx]
  exact Le.refl
theorem c_R5Changes (l:List Tst) (hl:l.length≤500000) (hD: ∀s∈l,s.v.f.dig) (hs: ∀s∈l,s.v.f.n.l.length≤1048576∧s.v.f.d.l.length≤1048576):
    Ct Tryz.prog 109 [tL 8 true tTs l] (tL 1 false tI (if tRight l=true then bds [l] else [])):=by
  refine Ct.intro Tryz.func109 rfl Tryz.ntmps109 rfl ?_
  intro w F
  refine A7 ?_
  refine RE (xf9 (k:=3) 3 1 false rfl (fun _=>rfl)) trivial trivial ⟨rfl,trivial⟩ ?_
  refine A9 ?_
  refine cL (fun (fm:(Nat)×(List Int))=>(fun (i:Nat) (xs:List Int)=>i≤l.length∧(0 < i→tRight l=true)∧xs=chR l i) fm.1 fm.2) (fun (fm:(Nat)×(List Int))=>(fun (i:Nat) (xs:List Int)=>upd (upd (upd (fun _=>none) 0 (some (.val (tL 8 true tTs l)))) 3 (some (.own (.sl 3 1 0 xs.length)))) 4 (some (.val (tI i)))) fm.1 fm.2) (fun (fm:(Nat)×(List Int))=>(fun (i:Nat) (xs:List Int)=>upd (fun _=>none) 3 (some (⟨3,1,false,rV tI xs⟩))) fm.1 fm.2) [3] (fun (fm:(Nat)×(List Int))=>(fun (i:Nat) (xs:List Int)=>l.length - i) fm.1 fm.2) ((0,[])) (by dsimp only;exact ⟨Nat.zero_le _,fun h=>absurd h (by decide),rfl⟩) (hh:=((SubK.consI rfl ImpK.refl) SubK.nil)) ?_
  intro fm hI
  obtain ⟨i,xs⟩:=fm
  replace hI:i≤l.length∧(0 < i→tRight l=true)∧xs=chR l i:=hI
  show wc _ _ _ _ (upd (upd (upd (fun _=>none) 0 (some (.val (tL 8 true tTs l)))) 3 (some (.own (.sl 3 1 0 xs.length)))) 4 (some (.val (tI i)))) (upd (fun _=>none) 3 (some (⟨3,1,false,rV tI xs⟩))) _
  obtain ⟨hi,hr,hx⟩:=hI
  have hxl:xs.length≤2*i:=by rw [hx];exact chR_len i
  refine A8 ?_
  refine RGcaseD (t:=9) rfl (fun h189=> ?_) (fun h189=> ?_)
  ·
    refine A1 ?_
    refine RGon (decide_eq_true h189) rfl (x3 (c_R5Right l hl hD hs) fi107 rfl) rfl ⟨rfl,trivial⟩ trivial trivial ?_
    refine A3 ?_
    refine xd3 rfl (fun h189_2=> ?_) (fun h189_2=> ?_)
    ·
      refine A4 ?_
      refine xf7 (fun (ys:List Int)=>ys=(if i=0∨(l.getD (i - 1) tst0).hi≠(l.getD i tst0).lo then chR l i++[(l.getD i tst0).lo] else chR l i)) (fun (ys:List Int)=>upd (upd (upd (fun _=>none) 0 (some (.val (tL 8 true tTs l)))) 3 (some (.own (.sl 3 1 0 ys.length)))) 4 (some (.val (tI i)))) (fun (ys:List Int)=>upd (fun _=>none) 3 (some (⟨3,1,false,rV tI ys⟩))) (nm [3]) ?_ ?_
      ·
        refine A5 ?_
        refine RGcaseD (t:=17) rfl (fun h190=> ?_) (fun h190=> ?_)
        ·
          refine A9 ?_
          refine A9 ?_
          refine A2 ?_
          refine R2 (x5 sl51 (i) (by omega) (gD (l:=l) (n:=i) (d:=tst0) (by omega))) rfl rfl (R1 (xa8 fo59_0.h (At.f 0 rfl rfl) rfl) rfl ?_)
          refine A1 ?_
          refine R1 (xc0 (n:=1) (f:=fun n:Int=>tI n) [(l.getD i tst0).lo] Tryz.underlying23 el3 zf3 rfl (fun _=>inferInstance) rfl rfl rfl) rfl (RE (xb7 (k:=3) (k':=38) (f:=fun n:Int=>tI n) (ys:=[(l.getD i tst0).lo]) (ts':=rV tI (xs++[(l.getD i tst0).lo])) Tryz.underlying23 el3 zf3 rfl rfl (fun _=>inferInstance) xc8 (by simp;omega) (by simp;omega) (by simp [rV]) (n':=xs.length+1) rfl) ⟨rfl,rfl,trivial⟩ ⟨rfl,trivial⟩ ⟨rfl,trivial⟩ ?_)
          refine A2 ?_
          exact xe4 (l:=[3]) (fun j=>cond (Nat.beq j 3) 38 (j)) ((xs++[(l.getD i tst0).lo])) (by rw [if_pos (.inl (by omega)),hx]) (SubR.int rfl (by first | omega | rfl | (dsimp only;omega)) ((SubR.consI rfl (Imp.of (by rw [List.length_append];rfl))) (SubR.cons rfl SubR.nil))) ((SubKR.consI rfl (ImpK.of xb9.symm)) SubKR.nil) (SupG.val (SupG.own rfl (SupG.val SupG.nil))) (SupH.cons rfl (supJ xb0) SupH.nil) (lkOk rfl) rfl rfl (fun _ h=>by cases h)
        ·
          refine A2 ?_
          refine RGon (decide_eq_false h190) rfl (xe1 (wr64 (by omega) (by omega))) rfl ⟨rfl,rfl,trivial⟩ trivial trivial (RGon (decide_eq_false h190) rfl (x5 sl51 (i - 1) (by omega) (gD (l:=l) (n:=i - 1) (d:=tst0) (by omega))) rfl ⟨rfl,rfl,trivial⟩ trivial trivial (RGon (decide_eq_false h190) rfl (xa8 fo59_1.h (At.f 1 rfl rfl) rfl) rfl ⟨rfl,trivial⟩ trivial trivial ?_))
          refine A3 ?_
          refine RGon (decide_eq_false h190) rfl (x5 sl51 (i) (by omega) (gD (l:=l) (n:=i) (d:=tst0) (by omega))) rfl ⟨rfl,rfl,trivial⟩ trivial trivial (RGon (decide_eq_false h190) rfl (xa8 fo59_0.h (At.f 0 rfl rfl) rfl) rfl ⟨rfl,trivial⟩ trivial trivial ?_)
          refine A5 ?_
          refine x9 rfl (fun h190_2=> ?_) (fun h190_2=> ?_)
          ·
            refine A4 ?_
            refine R2 (x5 sl51 (i) (by omega) (gD (l:=l) (n:=i) (d:=tst0) (by omega))) rfl rfl (R1 (xa8 fo59_0.h (At.f 0 rfl rfl) rfl) rfl ?_)
            refine A1 ?_
            refine R1 (xc0 (n:=1) (f:=fun n:Int=>tI n) [(l.getD i tst0).lo] Tryz.underlying23 el3 zf3 rfl (fun _=>inferInstance) rfl rfl rfl) rfl (RE (xb7 (k:=3) (k':=38) (f:=fun n:Int=>tI n) (ys:=[(l.getD i tst0).lo]) (ts':=rV tI (xs++[(l.getD i tst0).lo])) Tryz.underlying23 el3 zf3 rfl rfl (fun _=>inferInstance) xc8 (by simp;omega) (by simp;omega) (by simp [rV]) (n':=xs.length+1) rfl) ⟨rfl,rfl,trivial⟩ ⟨rfl,trivial⟩ ⟨rfl,trivial⟩ ?_)
            refine A2 ?_
            exact xe4 (l:=[3]) (fun j=>cond (Nat.beq j 3) 38 (j)) ((xs++[(l.getD i tst0).lo])) (by rw [if_pos (.inr (by omega)),hx]) (SubR.int rfl (by first | omega | rfl | (dsimp only;omega)) ((SubR.consI rfl (Imp.of (by rw [List.length_append];rfl))) (SubR.cons rfl SubR.nil))) ((SubKR.consI rfl (ImpK.of xb9.symm)) SubKR.nil) (SupG.val (SupG.own rfl (SupG.val SupG.nil))) (SupH.cons rfl (supJ xb0) SupH.nil) (lkOk rfl) rfl rfl (fun _ h=>by cases h)
          ·
            refine A1 ?_
            exact kF (xs) (by rw [if_neg (by omega),hx]) (hh:=((SubK.consI rfl ImpK.refl) SubK.nil))
      ·
        intro ys hj190
        have hyl:ys.length≤2*i+1:=by
          rw [hj190]
          have:=chR_len (l:=l) i
          split
          · rw [List.length_append];simp;omega
          · omega
        refine A4 ?_
        refine R2 (x5 sl51 (i) (by omega) (gD (l:=l) (n:=i) (d:=tst0) (by omega))) rfl rfl (R1 (xa8 fo59_1.h (At.f 1 rfl rfl) rfl) rfl ?_)
        refine A1 ?_
        refine R1 (xc0 (n:=1) (f:=fun n:Int=>tI n) [(l.getD i tst0).hi] Tryz.underlying23 el3 zf3 rfl (fun _=>inferInstance) rfl rfl rfl) rfl (RE (xb7 (k:=3) (k':=46) (f:=fun n:Int=>tI n) (ys:=[(l.getD i tst0).hi]) (ts':=rV tI (ys++[(l.getD i tst0).hi])) Tryz.underlying23 el3 zf3 rfl rfl (fun _=>inferInstance) xc8 (by simp;omega) (by simp;omega) (by simp [rV]) (n':=ys.length+1) rfl) ⟨rfl,rfl,trivial⟩ ⟨rfl,trivial⟩ ⟨rfl,trivial⟩ ?_)
        refine A9 ?_
        exact xe4 (l:=[3]) (fun j=>cond (Nat.beq j 3) 46 (j)) ((i+1,ys++[(l.getD i tst0).hi])) ⟨(by dsimp only;exact ⟨by omega,fun _=>h189_2,by rw [chR,←hj190]⟩),(by dsimp only;omega)⟩ (SubR.int rfl (by first | omega | rfl | (dsimp only;omega)) ((SubR.consI rfl (Imp.of (by dsimp only;rw [List.length_append];rfl))) (SubR.cons rfl SubR.nil))) ((SubKR.consI rfl (ImpK.of xb9.symm)) SubKR.nil) (SupG.val (SupG.own rfl (SupG.val SupG.nil))) (SupH.cons rfl (supJ xb0) SupH.nil) (lkOk rfl) rfl rfl (fun _ h=>by cases h)
    ·
      refine A7 ?_
      refine RE (xf2 (f:=tI) (xs:=xs) (fun _ h=>h) (rV_all rfl) rfl) ⟨rfl,trivial⟩ ⟨rfl,trivial⟩ trivial ?_
      refine A4 ?_
      exact x4 Plain.mk' rfl rfl (leNil2 hx h189_2 hr)
  ·
    refine A9 ?_
    refine A4 ?_
    refine RE (xf2 (f:=tI) (xs:=xs) (fun _ h=>h) (rV_all rfl) rfl) ⟨rfl,trivial⟩ ⟨rfl,trivial⟩ trivial ?_
    refine A4 ?_
    exact x4 Plain.mk' rfl rfl (Le.of (by rw [if_pos (right_nil hr (by omega)),hx,show i=l.length by omega,chg_R (right_nil hr (by omega))]))
end An.S

/- More of calls whose results lie in new memory. For any program. -/
namespace An
open Go
section
variable {P:Program} {c:Base} {d ty:Nat} {pos:String} {af:Array Edge} {gd:Option (Nat×Bool)}
theorem d_assignSN {x:Operand} {k T es off len:Nat} {agg:Bool} {ts:List Ent} {α:Type} {f:α→Ty} {xs:List α} (G:Dom) (hG: ∀b,c.w0.heap.size≤b→G b) (hfr: ∀x,Free (f x)) (hlb:NoLb c) (hts:(ts.drop off).take len=xs.map fun x=> .val (f x)) (hl:xs.length=len):
    Does P c ⟨some d,.assign x,ty,pos,af,gd⟩ ⟨[(x,.own (.sl k es off len))],[(k,⟨T,es,agg,ts⟩)],some (d,some (.val (tG G (tL es agg f xs)))),[(k,none)],[]⟩:=
  Does.give rfl fun g h al a w η hr hk s=>⟨a.eval x,by simp [execOp,go_sem],by
    have hv:=(xa0 s hr.1).1
    have hp:=s.give hk hlb hts hl hv
    obtain ⟨A,cc,h1,h2,h3,h4⟩:=hp
    refine ⟨A,cc,h1,h2,h3,?_⟩
    cases xs with
    | nil=>exact .inl rfl
    | cons x0 xr=>
      rcases h4 with h4 | ⟨b,o,e,hb,hx⟩
      · cases h4
      · obtain ⟨A',e1,e2,e3⟩:=hv
        have hlen:0 < len:=by rw [←hl];simp
        have hc:0 < η.c k:=by omega
        have hb0:=((s.key k _ hk).2.2.2 hc).1.resolve_right (hlb _)
        have e4:=e3 (by omega)
        rw [h1] at e1
        have e1:A=A':=by injection e1
        rw [←e1,e] at e4
        have eb:b=η.b k:=by injection e4 with e4;injection e4
        refine .inr ⟨b,o,e,⟨hb,hG b (by rw [eb];exact hb0)⟩,fun i y hi=> ?_⟩
        obtain ⟨u,hm,hu⟩:=hx i y hi
        exact ⟨u,hm,hfr y _ _ _ _ _ hu⟩⟩
end
theorem CtN.ofG {P:Program} {f:FuncId} {t:Ty} {k es T n:Nat} {agg:Bool} {α:Type} {fx:α→Ty} {xs:List α} (h:CtG P f [] [.val t] (.own (.sl k es 0 n)) [(k,⟨T,es,agg,xs.map fun x=> .val (fx x)⟩)] [k]) (hl:xs.length=n) (hfr: ∀x,Free (fx x)):CtN P f [t] (fun nw=>tG (up nw) (tL es agg fx xs)):=by
  intro F w vs hvs
  cases vs with
  | nil=>exact hvs.elim
  | cons v r=>
    cases r with
    | cons _ _=>exact hvs.2.elim
    | nil=>
      refine Calls.mono (h F w ⟨fun _=>0,fun _=>0,fun _=>False⟩ [v] ⟨hvs.1,trivial⟩ (fun x hx=>by cases hx) (fun x hx=>by cases hx) (fun b _ hb=>by obtain ⟨x,hx,_⟩:=hb;cases hx)) ?_
      rintro e w' ⟨u,η',he,ho⟩
      refine ⟨u,he,⟨ho.stp.os,ho.stp.tape,ho.stp.output,ho.stp.size,fun b hb=>ho.stp.block b hb fun hk=>by obtain ⟨x,hx,_⟩:=hk;cases hx⟩,?_⟩
      obtain ⟨A,h1,h2,h3⟩:=ho.res
      have hk:=ho.keys _ (List.mem_singleton.2 rfl)
      obtain ⟨k1,k2,k3,k4,k5⟩:=hk
      have k1:xs.length≤η'.c k:=by simpa using k1
      refine ⟨A,η'.c k - 0,by rw [h1,hl],by omega,by omega,?_⟩
      cases xs with
      | nil=>exact .inl rfl
      | cons x0 xr=>
        have hc:0 < η'.c k:=by simp at k1;omega
        obtain ⟨cs,m1,m2,m3⟩:=k5 hc
        have hA:=h3 (by omega)
        have hnew:w.heap.size≤η'.b k:=by
          rcases ho.new (η'.b k) ⟨_,List.mem_singleton.2 rfl,hc,rfl⟩ with hh | hh
          · obtain ⟨x,hx,_⟩:=hh;cases hx
          · exact hh
        refine .inr ⟨η'.b k,0*es,hA,⟨.inl hnew,hnew⟩,?_⟩
        intro i x hi
        have hm:=m3 i (.val (fx x)) (by rw [List.getElem?_map,hi];rfl)
        have hlt:i < (x0::xr).length:=(List.getElem?_eq_some_iff.1 hi).1
        refine ⟨_,⟨cs,T,(0,0),m1,?_,k2,k3,rfl⟩,?_⟩
        · have h5:(i+1)*es≤η'.c k*es:=Nat.mul_le_mul_right _ (by omega)
          rw [Nat.add_mul,Nat.one_mul] at h5
          rw [m2,Nat.zero_mul,Nat.zero_add];exact h5
        · rw [Nat.zero_mul,Nat.zero_add];exact hfr x _ _ _ _ _ hm
/-- What two slots hold was lent. -/
theorem C_lent2 {P:Program} {g:Slots} {h:Keys} {al:Names} {Q:Exit→Act→World→Prop} {N:Nat} {w0:World} {F:Dom} {x:Code} (K T s t:Nat) {W U:Ty} {g':Value→Value→Slots} {h':Keys} (hs:g s=some (.val (tG (up w0.heap.size) W))) (ht:g t=some (.val (tG (up w0.heap.size) U))) (hK:al K=false)
    (hg: ∀(a:Act) (L:Dom),(∀b,L b→w0.heap.size≤b)→SlC (fun b=> ¬L b) a g (g' (a.tmps.getD s undef) (a.tmps.getD t undef)))
    (hh: ∀(w:World) (η:Env) (L:Dom),(∀b,L b→w0.heap.size≤b)→KyC (fun b=> ¬L b) w η h h')
    (H: ∀(L:Dom) (w1:World) (v u:Value),W.p L w1 v→U.p L w1 u→(∀b,L b→b < w1.heap.size)→(∀b,L b→w0.heap.size≤b)→wc P (ovb N w0 F K (XL T L w1)) x Q (g' v u) (upd h' K (some ⟨0,1,false,[]⟩)) (fun j=>al j || Nat.beq j K)):
    wc P (Base.plain N w0 F) x Q g h al:=by
  refine C_at fun a w hs'=> ?_
  obtain ⟨η,st⟩:=hs'
  have hv:=st.slotv hs
  have hu:=st.slotv ht
  exact ⟨ovb N w0 F K (XL T (fun b=>(b < w.heap.size∧ ¬Own h η b)∧up w0.heap.size b) w),g' (a.tmps.getD s undef) (a.tmps.getD t undef),_,_,rfl,st.over K (XL T (fun b=>(b < w.heap.size∧ ¬Own h η b)∧up w0.heap.size b) w) (fun b hb=>⟨hb.2,hb.1.1,hb.1.2⟩) ⟨fun _ b _=>rfl,fun h=>(by cases h),fun b hb=>hb.1.1⟩ hK (hg a _ fun b hb=>hb.2) (hh w η _ fun b hb=>hb.2),H _ w _ _ hv hu (fun b hb=>hb.1.1) fun b hb=>hb.2⟩
theorem leNilG {α:Type} {G:Dom} {es:Nat} {agg:Bool} {f:α→Ty} {xs:List α} (h:xs=[]):Le (tE (.slice none 0 0)) (tG G (tL es agg f xs)):=fun _ _ _ hv=>leNil h _ _ _ hv
theorem hrG {t:Ty} (m:Nat) (F:Dom) (w:World) (v:Value) (hp:(tG (up m) t).p F w v):t.p (fun b=>F b∧m≤b) w v:=hp
end An
