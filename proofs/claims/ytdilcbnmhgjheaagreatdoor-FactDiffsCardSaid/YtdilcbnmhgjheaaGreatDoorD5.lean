/- Part 5 of a proof: S17, S18, Sv2, Fz, F12, Mk, F13. -/
import Derived.Test.YtdilcbnmhgjheaaGreatDoorD4
set_option maxHeartbeats 4000000
set_option maxRecDepth 100000
namespace An.S
open Go Go.Proofs An
instance ti127:TyI Tryz.prog 127 2 true:=⟨by kernel_rfl,by kernel_rfl⟩
instance ti128:TyI Tryz.prog 128 1 false:=⟨by kernel_rfl,by kernel_rfl⟩
instance fo127_0:FoI Tryz.prog 127 0 0:=⟨by kernel_rfl⟩
instance fo127_1:FoI Tryz.prog 127 1 1:=⟨by kernel_rfl⟩
instance fi64:FnI Tryz.prog 64:=⟨_,Tryz.func64,by kernel_rfl,rfl⟩
instance fi72:FnI Tryz.prog 72:=⟨_,Tryz.func72,by kernel_rfl,rfl⟩
instance fi73:FnI Tryz.prog 73:=⟨_,Tryz.func73,by kernel_rfl,rfl⟩
instance fi101:FnI Tryz.prog 101:=⟨_,Tryz.func101,by kernel_rfl,rfl⟩
instance fi122:FnI Tryz.prog 122:=⟨_,Tryz.func122,by kernel_rfl,rfl⟩
instance fi123:FnI Tryz.prog 123:=⟨_,Tryz.func123,by kernel_rfl,rfl⟩
theorem zr3:(Tryz.prog.info? 3).bind (·.zero)=some (.int .i64 0)∧ ∀F w,(tE (.int .i64 0)).p F w (.int .i64 0):=⟨by kernel_rfl,fun _ _=>rfl⟩
theorem zr4:(Tryz.prog.info? 4).bind (·.zero)=some (.bool false)∧ ∀F w,(tE (.bool false)).p F w (.bool false):=⟨by kernel_rfl,fun _ _=>rfl⟩
theorem zr127:(Tryz.prog.info? 127).bind (·.zero)=some (.agg #[.bool false,.bool false])∧ ∀F w,(tS [⟨1,false,(tE (.bool false))⟩,⟨1,false,(tE (.bool false))⟩]).p F w (.agg #[.bool false,.bool false]):=⟨by kernel_rfl,fun _ _=>⟨_,rfl,rfl,⟨fun _=>rfl,rfl⟩,⟨fun _=>rfl,rfl⟩,trivial⟩⟩
theorem bu127:BuI Tryz.prog 127 (fun i=>[(0,1),(1,1)][i]?) (.agg #[.bool false,.bool false]):=BuI.struct Tryz.underlying127 (by kernel_rfl) (by kernel_rfl)
theorem xj9 (l:List Sn) (i:Nat) (hi:i < 2*l.length) (hl:l.length≤1000000):
  Ct Tryz.prog 123 [tL 2 true tSn l,tI i] (tI (bd l i)):=by
 refine Ct.intro Tryz.func123 rfl Tryz.ntmps123 rfl ?_
 intro w F
 refine A9 ?_
 refine R2 (xj6 (by omega) (by omega)) rfl rfl ?_
 refine A3 ?_
 refine x9 rfl (fun h53=> ?_) (fun h53=> ?_)
 ·
  refine A4 ?_
  refine R2 (d_quoP (by omega) (by omega) (wr64 (by omega) (by omega))) rfl rfl (R2 (x6 sl44 (i / 2) (by omega) (gD (l:=l) (n:=i / 2) (d:=sn0) (by omega))) rfl rfl (R1 (xc2 fo72_0.h (At.f 0 rfl rfl) rfl) rfl ?_))
  refine A6 ?_
  exact x3 Plain.mk' rfl rfl (Le.int (by rw [bd,if_pos (by omega)]))
 ·
  refine A6 ?_
  refine R2 (d_quoP (by omega) (by omega) (wr64 (by omega) (by omega))) rfl rfl (R2 (x6 sl44 (i / 2) (by omega) (gD (l:=l) (n:=i / 2) (d:=sn0) (by omega))) rfl rfl (R1 (xc2 fo72_1.h (At.f 1 rfl rfl) rfl) rfl ?_))
  refine A5 ?_
  exact x3 Plain.mk' rfl rfl (Le.int (by rw [bd,if_neg (by omega)]))
theorem c_changes (a b:List Sn):
  CtG Tryz.prog 101 [] [.val (tL 2 true tSn a),.val (tL 2 true tSn b)] (.own (.fn 122 [.ptr 2 0,.ptr 3 0])) [(2,⟨44,1,false,[.val (tL 2 true tSn a)]⟩),(3,⟨44,1,false,[.val (tL 2 true tSn b)]⟩)] [2,3]:=by
 refine CtG.intro [] Tryz.func101 rfl Tryz.ntmps101 rfl rfl trivial ?_
 intro w F η
 refine A9 ?_
 refine R2 (xi8 (ps:=[.ptr 2 0,.ptr 3 0]) rfl) rfl rfl ?_
 refine A4 ?_
 exact xc5 LentC.mk' rfl rfl Imp.refl ⟨rfl,rfl,trivial⟩ rfl ⟨⟨rfl,(SupX.lit rfl)⟩,⟨rfl,(SupX.lit rfl)⟩,trivial⟩ rfl
abbrev tMem (x y:Bool):Ty:=tS [⟨1,false,tB x⟩,⟨1,false,tB y⟩]
def chY (a b:List Sn) (k:Nat):List Ty:=[tI ((chAll a b).getD k ch0).1,tMem (((chAll a b).getD k ch0).2.1%2==1) (((chAll a b).getD k ch0).2.2%2==1)]
theorem mod_eq {n:Nat}:decide ((n:Int)%2=1)=(n%2==1):=by
 rw [Bool.eq_iff_iff];simp;omega
theorem ch_le {a b:List Sn} {k:Nat} {c:Ch} (h:(chAll a b).getD k ch0=c):LeL [tI c.1,tMem (decide ((c.2.1:Int)%2=1)) (decide ((c.2.2:Int)%2=1))] (chY a b k):=by
 rw [chY,h,mod_eq,mod_eq];exact ⟨Le.refl,Le.refl,trivial⟩
theorem i_changes (a b:List Sn) (ha:sVal a=true) (hb:sVal b=true) (hla:a.length≤1000000) (hlb:b.length≤1000000):
  ItC Tryz.prog 122 [(1,⟨44,1,false,[.val (tL 2 true tSn a)]⟩),(2,⟨44,1,false,[.val (tL 2 true tSn b)]⟩)] [.ptr 1 0,.ptr 2 0] ((chAll a b).length) (chY a b):=by
 refine ItC.intro (K:=99) [1,2] Tryz.func122 rfl Tryz.ntmps122 rfl rfl ⟨⟨rfl,(SupX.lit rfl)⟩,⟨rfl,(SupX.lit rfl)⟩,trivial⟩ rfl ?_
 intro w F η l V J Jc hB
 refine xd7 ?_
 refine xd4 ?_
 refine R1 xb3 rfl (R1 xb3 rfl (xc0 (by kernel_rfl) (xb1 (C_block ?_))))
 refine cL (fun (fm:(Nat)×(Nat)×(Nat))=>(fun (k:Nat) (i:Nat) (j:Nat)=>CI a b k i j) fm.1 fm.2.1 fm.2.2) (fun (fm:(Nat)×(Nat)×(Nat))=>(fun (k:Nat) (i:Nat) (j:Nat)=>upd (upd (upd (upd (upd (fun _=>none) 0 (some (.val (tE (.func (.yield l) #[] #[]))))) 1 (some (.own (.ptr 1 0)))) 2 (some (.own (.ptr 2 0)))) 4 (some (.val (tI i)))) 5 (some (.val (tI j)))) fm.1 fm.2.1 fm.2.2) (fun (fm:(Nat)×(Nat)×(Nat))=>(fun (k:Nat) (i:Nat) (j:Nat)=>upd (upd (upd (fun _=>none) 1 (some (⟨44,1,false,[.val (tL 2 true tSn a)]⟩))) 2 (some (⟨44,1,false,[.val (tL 2 true tSn b)]⟩))) 99 (some (⟨2*k,1,false,[]⟩))) fm.1 fm.2.1 fm.2.2) [1,2,99] (fun (fm:(Nat)×(Nat)×(Nat))=>(fun (k:Nat) (i:Nat) (j:Nat)=>2*a.length+2*b.length - (i+j)) fm.1 fm.2.1 fm.2.2) ((0,0,0)) (by dsimp only;exact CI.zero) (hh:=((SubK.consI rfl ImpK.refl) ((SubK.consI rfl ImpK.refl) ((SubK.consI rfl ImpK.refl) SubK.nil)))) ?_
 intro fm hI
 obtain ⟨k,i,j⟩:=fm
 replace hI:CI a b k i j:=hI
 show wc _ _ _ _ (upd (upd (upd (upd (upd (fun _=>none) 0 (some (.val (tE (.func (.yield l) #[] #[]))))) 1 (some (.own (.ptr 1 0)))) 2 (some (.own (.ptr 2 0)))) 4 (some (.val (tI i)))) 5 (some (.val (tI j)))) (upd (upd (upd (fun _=>none) 1 (some (⟨44,1,false,[.val (tL 2 true tSn a)]⟩))) 2 (some (⟨44,1,false,[.val (tL 2 true tSn b)]⟩))) 99 (some (⟨2*k,1,false,[]⟩))) _
 have hCI:=hI
 have hi2:=hI.1
 have hj2:=hI.2.1
 refine xd7 (xd7 ?_)
 refine xd4 ?_
 refine R1 xa2 rfl (RE (xa6 (0) ti44 rfl rfl) ⟨rfl,trivial⟩ ⟨rfl,trivial⟩ trivial (R1 (xi6 Tryz.underlying44) rfl (R2 (xe0 (wr64 (by omega) (by omega))) rfl rfl (R2 d_lss rfl rfl (R1 xa2 rfl ?_)))))
 refine RGcaseD (t:=12) rfl (fun h66=> ?_) (fun h66=> ?_)
 ·
  refine RGoff (decide_eq_true h66) rfl rfl (RGoff (decide_eq_true h66) rfl rfl (RGoff (decide_eq_true h66) rfl rfl (RGoff (decide_eq_true h66) rfl rfl (RGoff (decide_eq_true h66) rfl rfl (R2 (xg0 (decide_eq_true h66)) rfl rfl (xc0 (by kernel_rfl) (xb1 ?_)))))))
  refine C_bT rfl rfl (xd8 (xb1 (C_block (xd7 ?_))))
  have hij:i < 2*a.length∨j < 2*b.length:=by omega
  refine xd4 ?_
  refine R1 xb3 rfl (xc0 (by kernel_rfl) (xb1 ?_))
  refine xe7 (fun (d1:Int)=>d1=cday1 a i) (fun (d1:Int)=>upd (upd (upd (upd (upd (upd (fun _=>none) 0 (some (.val (tE (.func (.yield l) #[] #[]))))) 1 (some (.own (.ptr 1 0)))) 2 (some (.own (.ptr 2 0)))) 4 (some (.val (tI i)))) 5 (some (.val (tI j)))) 6 (some (.val (tI d1)))) (fun (d1:Int)=>upd (upd (upd (fun _=>none) 1 (some (⟨44,1,false,[.val (tL 2 true tSn a)]⟩))) 2 (some (⟨44,1,false,[.val (tL 2 true tSn b)]⟩))) 99 (some (⟨2*k,1,false,[]⟩))) (nm [1,2,99]) ?_ ?_
  ·
   refine xd7 ?_
   refine xd4 ?_
   refine R1 xa2 rfl (RE (xa6 (0) ti44 rfl rfl) ⟨rfl,trivial⟩ ⟨rfl,trivial⟩ trivial (R1 (xi6 Tryz.underlying44) rfl (R2 (xe0 (wr64 (by omega) (by omega))) rfl rfl (R2 d_lss rfl rfl (xc0 (by kernel_rfl) (xb1 ?_))))))
   refine x9 rfl (fun h68=> ?_) (fun h68=> ?_)
   ·
    refine xd4 ?_
    refine R1 xa2 rfl (RE (xa6 (0) ti44 rfl rfl) ⟨rfl,trivial⟩ ⟨rfl,trivial⟩ trivial (R1 xa2 rfl (R2 (x4 (xj9 a i (by omega) (by omega)) fi123 rfl) rfl rfl (R2 d_min2 rfl rfl (R1 xb3 rfl (xc0 (by kernel_rfl) ?_))))))
    exact kF (min 65536 (bd a i)) (by rw [cday1,if_pos (by omega)]) (hh:=((SubK.consI rfl ImpK.refl) ((SubK.consI rfl ImpK.refl) ((SubK.consI rfl ImpK.refl) SubK.nil))))
   ·
    refine xd8 ?_
    exact kF (65536) (by rw [cday1,if_neg (by omega)]) (hh:=((SubK.consI rfl ImpK.refl) ((SubK.consI rfl ImpK.refl) ((SubK.consI rfl ImpK.refl) SubK.nil))))
  ·
   intro d1 hj68
   refine xe7 (fun (d2:Int)=>d2=(cday a b i j)) (fun (d2:Int)=>upd (upd (upd (upd (upd (upd (fun _=>none) 0 (some (.val (tE (.func (.yield l) #[] #[]))))) 1 (some (.own (.ptr 1 0)))) 2 (some (.own (.ptr 2 0)))) 4 (some (.val (tI i)))) 5 (some (.val (tI j)))) 6 (some (.val (tI d2)))) (fun (d2:Int)=>upd (upd (upd (fun _=>none) 1 (some (⟨44,1,false,[.val (tL 2 true tSn a)]⟩))) 2 (some (⟨44,1,false,[.val (tL 2 true tSn b)]⟩))) 99 (some (⟨2*k,1,false,[]⟩))) (nm [1,2,99]) ?_ ?_
   ·
    refine xd7 ?_
    refine xd4 ?_
    refine R1 xa2 rfl (RE (xa6 (0) ti44 rfl rfl) ⟨rfl,trivial⟩ ⟨rfl,trivial⟩ trivial (R1 (xi6 Tryz.underlying44) rfl (R2 (xe0 (wr64 (by omega) (by omega))) rfl rfl (R2 d_lss rfl rfl (xc0 (by kernel_rfl) (xb1 ?_))))))
    refine x9 rfl (fun h71=> ?_) (fun h71=> ?_)
    ·
     refine xd4 ?_
     refine R1 xa2 rfl (RE (xa6 (0) ti44 rfl rfl) ⟨rfl,trivial⟩ ⟨rfl,trivial⟩ trivial (R1 xa2 rfl (R2 (x4 (xj9 b j (by omega) (by omega)) fi123 rfl) rfl rfl (R2 d_min2 rfl rfl (R1 xb3 rfl (xc0 (by kernel_rfl) ?_))))))
     exact kF (min d1 (bd b j)) (by rw [cday,if_pos (by omega),←hj68]) (hh:=((SubK.consI rfl ImpK.refl) ((SubK.consI rfl ImpK.refl) ((SubK.consI rfl ImpK.refl) SubK.nil))))
    ·
     refine xd8 ?_
     exact kF (d1) (by rw [cday,if_neg (by omega),←hj68]) (hh:=((SubK.consI rfl ImpK.refl) ((SubK.consI rfl ImpK.refl) ((SubK.consI rfl ImpK.refl) SubK.nil))))
   ·
    intro d2 hj71
    subst hj71
    refine xe7 (fun (i2:Nat)=>i2=cnxt a i (cday a b i j)) (fun (i2:Nat)=>upd (upd (upd (upd (upd (upd (fun _=>none) 0 (some (.val (tE (.func (.yield l) #[] #[]))))) 1 (some (.own (.ptr 1 0)))) 2 (some (.own (.ptr 2 0)))) 4 (some (.val (tI i2)))) 5 (some (.val (tI j)))) 6 (some (.val (tI (cday a b i j))))) (fun (i2:Nat)=>upd (upd (upd (fun _=>none) 1 (some (⟨44,1,false,[.val (tL 2 true tSn a)]⟩))) 2 (some (⟨44,1,false,[.val (tL 2 true tSn b)]⟩))) 99 (some (⟨2*k,1,false,[]⟩))) (nm [1,2,99]) ?_ ?_
    ·
     refine xd7 ?_
     refine xd4 ?_
     refine R1 xa2 rfl (RE (xa6 (0) ti44 rfl rfl) ⟨rfl,trivial⟩ ⟨rfl,trivial⟩ trivial (R1 (xi6 Tryz.underlying44) rfl (R2 (xe0 (wr64 (by omega) (by omega))) rfl rfl (R2 d_lss rfl rfl (R1 xa2 rfl ?_)))))
     refine RGcaseD (t:=44) rfl (fun h74=> ?_) (fun h74=> ?_)
     ·
      refine RGon (decide_eq_true h74) rfl (xa6 (0) ti44 rfl rfl) rfl ⟨rfl,trivial⟩ ⟨rfl,trivial⟩ trivial (RGon (decide_eq_true h74) rfl xa2 rfl ⟨rfl,trivial⟩ trivial trivial (RGon (decide_eq_true h74) rfl (x4 (xj9 a i (by omega) (by omega)) fi123 rfl) rfl ⟨rfl,rfl,trivial⟩ trivial trivial (RGon (decide_eq_true h74) rfl xa2 rfl ⟨rfl,trivial⟩ trivial trivial (RGon (decide_eq_true h74) rfl d_eql rfl ⟨rfl,rfl,trivial⟩ trivial trivial (R2 (xg0 (decide_eq_true h74)) rfl rfl (xc0 (by kernel_rfl) (xb1 ?_)))))))
      refine x9 rfl (fun h74_2=> ?_) (fun h74_2=> ?_)
      ·
       refine xd4 ?_
       refine R1 xa2 rfl (R2 (xg1 (wr64 (by omega) (by omega))) rfl rfl (R1 xb3 rfl (xc0 (by kernel_rfl) ?_)))
       exact kF (i+1) (by rw [cnxt,if_pos ⟨by omega,h74_2⟩]) (hh:=((SubK.consI rfl ImpK.refl) ((SubK.consI rfl ImpK.refl) ((SubK.consI rfl ImpK.refl) SubK.nil))))
      ·
       refine xd8 ?_
       exact kF (i) (by rw [cnxt,if_neg (fun h=>h74_2 h.2)]) (hh:=((SubK.consI rfl ImpK.refl) ((SubK.consI rfl ImpK.refl) ((SubK.consI rfl ImpK.refl) SubK.nil))))
     ·
      refine RGoff (decide_eq_false h74) rfl rfl (RGoff (decide_eq_false h74) rfl rfl (RGoff (decide_eq_false h74) rfl rfl (RGoff (decide_eq_false h74) rfl rfl (RGoff (decide_eq_false h74) rfl rfl (R2 (xe5 (decide_eq_false h74)) rfl rfl (xc0 (by kernel_rfl) (xb1 ?_)))))))
      refine C_bF rfl rfl (xd8 ?_)
      exact kF (i) (by rw [cnxt,if_neg (fun h=>by have:=h.1;omega)]) (hh:=((SubK.consI rfl ImpK.refl) ((SubK.consI rfl ImpK.refl) ((SubK.consI rfl ImpK.refl) SubK.nil))))
    ·
     intro i2 hj74
     subst hj74
     refine xe7 (fun (j2:Nat)=>j2=cnxt b j (cday a b i j)) (fun (j2:Nat)=>upd (upd (upd (upd (upd (upd (fun _=>none) 0 (some (.val (tE (.func (.yield l) #[] #[]))))) 1 (some (.own (.ptr 1 0)))) 2 (some (.own (.ptr 2 0)))) 4 (some (.val (tI (cnxt a i (cday a b i j):Nat))))) 5 (some (.val (tI j2)))) 6 (some (.val (tI (cday a b i j))))) (fun (j2:Nat)=>upd (upd (upd (fun _=>none) 1 (some (⟨44,1,false,[.val (tL 2 true tSn a)]⟩))) 2 (some (⟨44,1,false,[.val (tL 2 true tSn b)]⟩))) 99 (some (⟨2*k,1,false,[]⟩))) (nm [1,2,99]) ?_ ?_
     ·
      refine xd7 ?_
      refine xd4 ?_
      refine R1 xa2 rfl (RE (xa6 (0) ti44 rfl rfl) ⟨rfl,trivial⟩ ⟨rfl,trivial⟩ trivial (R1 (xi6 Tryz.underlying44) rfl (R2 (xe0 (wr64 (by omega) (by omega))) rfl rfl (R2 d_lss rfl rfl (R1 xa2 rfl ?_)))))
      refine RGcaseD (t:=58) rfl (fun h77=> ?_) (fun h77=> ?_)
      ·
       refine RGon (decide_eq_true h77) rfl (xa6 (0) ti44 rfl rfl) rfl ⟨rfl,trivial⟩ ⟨rfl,trivial⟩ trivial (RGon (decide_eq_true h77) rfl xa2 rfl ⟨rfl,trivial⟩ trivial trivial (RGon (decide_eq_true h77) rfl (x4 (xj9 b j (by omega) (by omega)) fi123 rfl) rfl ⟨rfl,rfl,trivial⟩ trivial trivial (RGon (decide_eq_true h77) rfl xa2 rfl ⟨rfl,trivial⟩ trivial trivial (RGon (decide_eq_true h77) rfl d_eql rfl ⟨rfl,rfl,trivial⟩ trivial trivial (R2 (xg0 (decide_eq_true h77)) rfl rfl (xc0 (by kernel_rfl) (xb1 ?_)))))))
       refine x9 rfl (fun h77_2=> ?_) (fun h77_2=> ?_)
       ·
        refine xd4 ?_
        refine R1 xa2 rfl (R2 (xg1 (wr64 (by omega) (by omega))) rfl rfl (R1 xb3 rfl (xc0 (by kernel_rfl) ?_)))
        exact kF (j+1) (by rw [cnxt,if_pos ⟨by omega,h77_2⟩]) (hh:=((SubK.consI rfl ImpK.refl) ((SubK.consI rfl ImpK.refl) ((SubK.consI rfl ImpK.refl) SubK.nil))))
       ·
        refine xd8 ?_
        exact kF (j) (by rw [cnxt,if_neg (fun h=>h77_2 h.2)]) (hh:=((SubK.consI rfl ImpK.refl) ((SubK.consI rfl ImpK.refl) ((SubK.consI rfl ImpK.refl) SubK.nil))))
      ·
       refine RGoff (decide_eq_false h77) rfl rfl (RGoff (decide_eq_false h77) rfl rfl (RGoff (decide_eq_false h77) rfl rfl (RGoff (decide_eq_false h77) rfl rfl (RGoff (decide_eq_false h77) rfl rfl (R2 (xe5 (decide_eq_false h77)) rfl rfl (xc0 (by kernel_rfl) (xb1 ?_)))))))
       refine C_bF rfl rfl (xd8 ?_)
       exact kF (j) (by rw [cnxt,if_neg (fun h=>by have:=h.1;omega)]) (hh:=((SubK.consI rfl ImpK.refl) ((SubK.consI rfl ImpK.refl) ((SubK.consI rfl ImpK.refl) SubK.nil))))
     ·
      intro j2 hj77
      subst hj77
      refine xd7 ?_
      refine C_regY ?_
      refine xb0 xa2 ⟨rfl,trivial⟩ trivial trivial rfl (xb0 xa2 ⟨rfl,trivial⟩ trivial trivial rfl (xb0 xa2 ⟨rfl,trivial⟩ trivial trivial rfl (xb0 (xj6 (by omega) (by omega)) ⟨rfl,rfl,trivial⟩ trivial trivial rfl (xb0 d_eql ⟨rfl,rfl,trivial⟩ trivial trivial rfl (xb0 xa2 ⟨rfl,trivial⟩ trivial trivial rfl (xb0 (xj6 (by omega) (by omega)) ⟨rfl,rfl,trivial⟩ trivial trivial rfl (xb0 d_eql ⟨rfl,rfl,trivial⟩ trivial trivial rfl ?_)))))))
      refine xb0 (xb6 (r:=tS [⟨1,false,tB (decide ((cnxt a i (cday a b i j):Nat)%2=(1:Int)))⟩,⟨1,false,tB (decide ((cnxt b j (cday a b i j):Nat)%2=(1:Int)))⟩]) (ts:=[(0,tB (decide ((cnxt a i (cday a b i j):Nat)%2=(1:Int)))),(1,tB (decide ((cnxt b j (cday a b i j):Nat)%2=(1:Int))))]) bu127 zr127.2 (Bc 0 rfl rfl rfl (Bc 1 rfl rfl rfl Le.refl))) ⟨rfl,rfl,trivial⟩ trivial trivial rfl ?_
      obtain ⟨hkN,hkc,hnx,hadv⟩:=hCI.next ha hb hij
      refine wl_yield (ts:=[tI (cday a b i j),tMem (decide ((cnxt a i (cday a b i j):Nat)%2=(1:Int))) (decide ((cnxt b j (cday a b i j):Nat)%2=(1:Int)))]) hB (xf6 rfl) rfl rfl ⟨rfl,rfl,trivial⟩ rfl rfl hkN (ch_le hkc) ?_ ?_
      ·
       refine xb0 d_not ⟨rfl,trivial⟩ trivial trivial rfl (xh8 (xb1 (C_bF rfl rfl (xd8 (K_norB ?_)))))
       exact kF ((k+1,cnxt a i (cday a b i j),cnxt b j (cday a b i j))) ⟨(by dsimp only;exact hnx),(by dsimp only;have:=hnx.1;have:=hnx.2.1;omega)⟩ (hh:=((SubK.consI rfl ImpK.refl) ((SubK.consI rfl ImpK.refl) ((SubK.consI rfl ImpK.refl) SubK.nil))))
      ·
       refine xb0 d_not ⟨rfl,trivial⟩ trivial trivial rfl (xh8 (xb1 (C_bT rfl rfl (C_ret (K_retB (K_retT (K_retB ?_)))))))
       exact E_it hB rfl trivial rfl (.inl rfl) rfl (.inr ⟨k,hkN,rfl⟩)
 ·
  refine RGon (decide_eq_false h66) rfl xa2 rfl ⟨rfl,trivial⟩ trivial trivial (RGon (decide_eq_false h66) rfl (xa6 (0) ti44 rfl rfl) rfl ⟨rfl,trivial⟩ ⟨rfl,trivial⟩ trivial (RGon (decide_eq_false h66) rfl (xi6 Tryz.underlying44) rfl ⟨rfl,trivial⟩ trivial trivial (RGon (decide_eq_false h66) rfl (xe0 (wr64 (by omega) (by omega))) rfl ⟨rfl,rfl,trivial⟩ trivial trivial (RGon (decide_eq_false h66) rfl d_lss rfl ⟨rfl,rfl,trivial⟩ trivial trivial (R2 (xe5 (decide_eq_false h66)) rfl rfl (xc0 (by kernel_rfl) (xb1 ?_)))))))
  refine x9 rfl (fun h66_2=> ?_) (fun h66_2=> ?_)
  ·
   refine xd8 (xb1 (C_block (xd7 ?_)))
   have hij:i < 2*a.length∨j < 2*b.length:=by omega
   refine xd4 ?_
   refine R1 xb3 rfl (xc0 (by kernel_rfl) (xb1 ?_))
   refine xe7 (fun (d1:Int)=>d1=cday1 a i) (fun (d1:Int)=>upd (upd (upd (upd (upd (upd (fun _=>none) 0 (some (.val (tE (.func (.yield l) #[] #[]))))) 1 (some (.own (.ptr 1 0)))) 2 (some (.own (.ptr 2 0)))) 4 (some (.val (tI i)))) 5 (some (.val (tI j)))) 6 (some (.val (tI d1)))) (fun (d1:Int)=>upd (upd (upd (fun _=>none) 1 (some (⟨44,1,false,[.val (tL 2 true tSn a)]⟩))) 2 (some (⟨44,1,false,[.val (tL 2 true tSn b)]⟩))) 99 (some (⟨2*k,1,false,[]⟩))) (nm [1,2,99]) ?_ ?_
   ·
    refine xd7 ?_
    refine xd4 ?_
    refine R1 xa2 rfl (RE (xa6 (0) ti44 rfl rfl) ⟨rfl,trivial⟩ ⟨rfl,trivial⟩ trivial (R1 (xi6 Tryz.underlying44) rfl (R2 (xe0 (wr64 (by omega) (by omega))) rfl rfl (R2 d_lss rfl rfl (xc0 (by kernel_rfl) (xb1 ?_))))))
    refine x9 rfl (fun h68=> ?_) (fun h68=> ?_)
    ·
     refine xd4 ?_
     refine R1 xa2 rfl (RE (xa6 (0) ti44 rfl rfl) ⟨rfl,trivial⟩ ⟨rfl,trivial⟩ trivial (R1 xa2 rfl (R2 (x4 (xj9 a i (by omega) (by omega)) fi123 rfl) rfl rfl (R2 d_min2 rfl rfl (R1 xb3 rfl (xc0 (by kernel_rfl) ?_))))))
     exact kF (min 65536 (bd a i)) (by rw [cday1,if_pos (by omega)]) (hh:=((SubK.consI rfl ImpK.refl) ((SubK.consI rfl ImpK.refl) ((SubK.consI rfl ImpK.refl) SubK.nil))))
    ·
     refine xd8 ?_
     exact kF (65536) (by rw [cday1,if_neg (by omega)]) (hh:=((SubK.consI rfl ImpK.refl) ((SubK.consI rfl ImpK.refl) ((SubK.consI rfl ImpK.refl) SubK.nil))))
   ·
    intro d1 hj68
    refine xe7 (fun (d2:Int)=>d2=(cday a b i j)) (fun (d2:Int)=>upd (upd (upd (upd (upd (upd (fun _=>none) 0 (some (.val (tE (.func (.yield l) #[] #[]))))) 1 (some (.own (.ptr 1 0)))) 2 (some (.own (.ptr 2 0)))) 4 (some (.val (tI i)))) 5 (some (.val (tI j)))) 6 (some (.val (tI d2)))) (fun (d2:Int)=>upd (upd (upd (fun _=>none) 1 (some (⟨44,1,false,[.val (tL 2 true tSn a)]⟩))) 2 (some (⟨44,1,false,[.val (tL 2 true tSn b)]⟩))) 99 (some (⟨2*k,1,false,[]⟩))) (nm [1,2,99]) ?_ ?_
    ·
     refine xd7 ?_
     refine xd4 ?_
     refine R1 xa2 rfl (RE (xa6 (0) ti44 rfl rfl) ⟨rfl,trivial⟩ ⟨rfl,trivial⟩ trivial (R1 (xi6 Tryz.underlying44) rfl (R2 (xe0 (wr64 (by omega) (by omega))) rfl rfl (R2 d_lss rfl rfl (xc0 (by kernel_rfl) (xb1 ?_))))))
     refine x9 rfl (fun h71=> ?_) (fun h71=> ?_)
     ·
      refine xd4 ?_
      refine R1 xa2 rfl (RE (xa6 (0) ti44 rfl rfl) ⟨rfl,trivial⟩ ⟨rfl,trivial⟩ trivial (R1 xa2 rfl (R2 (x4 (xj9 b j (by omega) (by omega)) fi123 rfl) rfl rfl (R2 d_min2 rfl rfl (R1 xb3 rfl (xc0 (by kernel_rfl) ?_))))))
      exact kF (min d1 (bd b j)) (by rw [cday,if_pos (by omega),←hj68]) (hh:=((SubK.consI rfl ImpK.refl) ((SubK.consI rfl ImpK.refl) ((SubK.consI rfl ImpK.refl) SubK.nil))))
     ·
      refine xd8 ?_
      exact kF (d1) (by rw [cday,if_neg (by omega),←hj68]) (hh:=((SubK.consI rfl ImpK.refl) ((SubK.consI rfl ImpK.refl) ((SubK.consI rfl ImpK.refl) SubK.nil))))
    ·
     intro d2 hj71
     subst hj71
     refine xe7 (fun (i2:Nat)=>i2=cnxt a i (cday a b i j)) (fun (i2:Nat)=>upd (upd (upd (upd (upd (upd (fun _=>none) 0 (some (.val (tE (.func (.yield l) #[] #[]))))) 1 (some (.own (.ptr 1 0)))) 2 (some (.own (.ptr 2 0)))) 4 (some (.val (tI i2)))) 5 (some (.val (tI j)))) 6 (some (.val (tI (cday a b i j))))) (fun (i2:Nat)=>upd (upd (upd (fun _=>none) 1 (some (⟨44,1,false,[.val (tL 2 true tSn a)]⟩))) 2 (some (⟨44,1,false,[.val (tL 2 true tSn b)]⟩))) 99 (some (⟨2*k,1,false,[]⟩))) (nm [1,2,99]) ?_ ?_
     ·
      refine xd7 ?_
      refine xd4 ?_
      refine R1 xa2 rfl (RE (xa6 (0) ti44 rfl rfl) ⟨rfl,trivial⟩ ⟨rfl,trivial⟩ trivial (R1 (xi6 Tryz.underlying44) rfl (R2 (xe0 (wr64 (by omega) (by omega))) rfl rfl (R2 d_lss rfl rfl (R1 xa2 rfl ?_)))))
      refine RGcaseD (t:=44) rfl (fun h74=> ?_) (fun h74=> ?_)
      ·
       refine RGon (decide_eq_true h74) rfl (xa6 (0) ti44 rfl rfl) rfl ⟨rfl,trivial⟩ ⟨rfl,trivial⟩ trivial (RGon (decide_eq_true h74) rfl xa2 rfl ⟨rfl,trivial⟩ trivial trivial (RGon (decide_eq_true h74) rfl (x4 (xj9 a i (by omega) (by omega)) fi123 rfl) rfl ⟨rfl,rfl,trivial⟩ trivial trivial (RGon (decide_eq_true h74) rfl xa2 rfl ⟨rfl,trivial⟩ trivial trivial (RGon (decide_eq_true h74) rfl d_eql rfl ⟨rfl,rfl,trivial⟩ trivial trivial (R2 (xg0 (decide_eq_true h74)) rfl rfl (xc0 (by kernel_rfl) (xb1 ?_)))))))
       refine x9 rfl (fun h74_2=> ?_) (fun h74_2=> ?_)
       ·
        refine xd4 ?_
        refine R1 xa2 rfl (R2 (xg1 (wr64 (by omega) (by omega))) rfl rfl (R1 xb3 rfl (xc0 (by kernel_rfl) ?_)))
        exact kF (i+1) (by rw [cnxt,if_pos ⟨by omega,h74_2⟩]) (hh:=((SubK.consI rfl ImpK.refl) ((SubK.consI rfl ImpK.refl) ((SubK.consI rfl ImpK.refl) SubK.nil))))
       ·
        refine xd8 ?_
        exact kF (i) (by rw [cnxt,if_neg (fun h=>h74_2 h.2)]) (hh:=((SubK.consI rfl ImpK.refl) ((SubK.consI rfl ImpK.refl) ((SubK.consI rfl ImpK.refl) SubK.nil))))
      ·
       refine RGoff (decide_eq_false h74) rfl rfl (RGoff (decide_eq_false h74) rfl rfl (RGoff (decide_eq_false h74) rfl rfl (RGoff (decide_eq_false h74) rfl rfl (RGoff (decide_eq_false h74) rfl rfl (R2 (xe5 (decide_eq_false h74)) rfl rfl (xc0 (by kernel_rfl) (xb1 ?_)))))))
       refine C_bF rfl rfl (xd8 ?_)
       exact kF (i) (by rw [cnxt,if_neg (fun h=>by have:=h.1;omega)]) (hh:=((SubK.consI rfl ImpK.refl) ((SubK.consI rfl ImpK.refl) ((SubK.consI rfl ImpK.refl) SubK.nil))))
     ·
      intro i2 hj74
      subst hj74
      refine xe7 (fun (j2:Nat)=>j2=cnxt b j (cday a b i j)) (fun (j2:Nat)=>upd (upd (upd (upd (upd (upd (fun _=>none) 0 (some (.val (tE (.func (.yield l) #[] #[]))))) 1 (some (.own (.ptr 1 0)))) 2 (some (.own (.ptr 2 0)))) 4 (some (.val (tI (cnxt a i (cday a b i j):Nat))))) 5 (some (.val (tI j2)))) 6 (some (.val (tI (cday a b i j))))) (fun (j2:Nat)=>upd (upd (upd (fun _=>none) 1 (some (⟨44,1,false,[.val (tL 2 true tSn a)]⟩))) 2 (some (⟨44,1,false,[.val (tL 2 true tSn b)]⟩))) 99 (some (⟨2*k,1,false,[]⟩))) (nm [1,2,99]) ?_ ?_
      ·
       refine xd7 ?_
       refine xd4 ?_
       refine R1 xa2 rfl (RE (xa6 (0) ti44 rfl rfl) ⟨rfl,trivial⟩ ⟨rfl,trivial⟩ trivial (R1 (xi6 Tryz.underlying44) rfl (R2 (xe0 (wr64 (by omega) (by omega))) rfl rfl (R2 d_lss rfl rfl (R1 xa2 rfl ?_)))))
       refine RGcaseD (t:=58) rfl (fun h77=> ?_) (fun h77=> ?_)
       ·
        refine RGon (decide_eq_true h77) rfl (xa6 (0) ti44 rfl rfl) rfl ⟨rfl,trivial⟩ ⟨rfl,trivial⟩ trivial (RGon (decide_eq_true h77) rfl xa2 rfl ⟨rfl,trivial⟩ trivial trivial (RGon (decide_eq_true h77) rfl (x4 (xj9 b j (by omega) (by omega)) fi123 rfl) rfl ⟨rfl,rfl,trivial⟩ trivial trivial (RGon (decide_eq_true h77) rfl xa2 rfl ⟨rfl,trivial⟩ trivial trivial (RGon (decide_eq_true h77) rfl d_eql rfl ⟨rfl,rfl,trivial⟩ trivial trivial (R2 (xg0 (decide_eq_true h77)) rfl rfl (xc0 (by kernel_rfl) (xb1 ?_)))))))
        refine x9 rfl (fun h77_2=> ?_) (fun h77_2=> ?_)
        ·
         refine xd4 ?_
         refine R1 xa2 rfl (R2 (xg1 (wr64 (by omega) (by omega))) rfl rfl (R1 xb3 rfl (xc0 (by kernel_rfl) ?_)))
         exact kF (j+1) (by rw [cnxt,if_pos ⟨by omega,h77_2⟩]) (hh:=((SubK.consI rfl ImpK.refl) ((SubK.consI rfl ImpK.refl) ((SubK.consI rfl ImpK.refl) SubK.nil))))
        ·
         refine xd8 ?_
         exact kF (j) (by rw [cnxt,if_neg (fun h=>h77_2 h.2)]) (hh:=((SubK.consI rfl ImpK.refl) ((SubK.consI rfl ImpK.refl) ((SubK.consI rfl ImpK.refl) SubK.nil))))
       ·
        refine RGoff (decide_eq_false h77) rfl rfl (RGoff (decide_eq_false h77) rfl rfl (RGoff (decide_eq_false h77) rfl rfl (RGoff (decide_eq_false h77) rfl rfl (RGoff (decide_eq_false h77) rfl rfl (R2 (xe5 (decide_eq_false h77)) rfl rfl (xc0 (by kernel_rfl) (xb1 ?_)))))))
        refine C_bF rfl rfl (xd8 ?_)
        exact kF (j) (by rw [cnxt,if_neg (fun h=>by have:=h.1;omega)]) (hh:=((SubK.consI rfl ImpK.refl) ((SubK.consI rfl ImpK.refl) ((SubK.consI rfl ImpK.refl) SubK.nil))))
      ·
       intro j2 hj77
       subst hj77
       refine xd7 ?_
       refine C_regY ?_
       refine xb0 xa2 ⟨rfl,trivial⟩ trivial trivial rfl (xb0 xa2 ⟨rfl,trivial⟩ trivial trivial rfl (xb0 xa2 ⟨rfl,trivial⟩ trivial trivial rfl (xb0 (xj6 (by omega) (by omega)) ⟨rfl,rfl,trivial⟩ trivial trivial rfl (xb0 d_eql ⟨rfl,rfl,trivial⟩ trivial trivial rfl (xb0 xa2 ⟨rfl,trivial⟩ trivial trivial rfl (xb0 (xj6 (by omega) (by omega)) ⟨rfl,rfl,trivial⟩ trivial trivial rfl (xb0 d_eql ⟨rfl,rfl,trivial⟩ trivial trivial rfl ?_)))))))
       refine xb0 (xb6 (r:=tS [⟨1,false,tB (decide ((cnxt a i (cday a b i j):Nat)%2=(1:Int)))⟩,⟨1,false,tB (decide ((cnxt b j (cday a b i j):Nat)%2=(1:Int)))⟩]) (ts:=[(0,tB (decide ((cnxt a i (cday a b i j):Nat)%2=(1:Int)))),(1,tB (decide ((cnxt b j (cday a b i j):Nat)%2=(1:Int))))]) bu127 zr127.2 (Bc 0 rfl rfl rfl (Bc 1 rfl rfl rfl Le.refl))) ⟨rfl,rfl,trivial⟩ trivial trivial rfl ?_
       obtain ⟨hkN,hkc,hnx,hadv⟩:=hCI.next ha hb hij
       refine wl_yield (ts:=[tI (cday a b i j),tMem (decide ((cnxt a i (cday a b i j):Nat)%2=(1:Int))) (decide ((cnxt b j (cday a b i j):Nat)%2=(1:Int)))]) hB (xf6 rfl) rfl rfl ⟨rfl,rfl,trivial⟩ rfl rfl hkN (ch_le hkc) ?_ ?_
       ·
        refine xb0 d_not ⟨rfl,trivial⟩ trivial trivial rfl (xh8 (xb1 (C_bF rfl rfl (xd8 (K_norB ?_)))))
        exact kF ((k+1,cnxt a i (cday a b i j),cnxt b j (cday a b i j))) ⟨(by dsimp only;exact hnx),(by dsimp only;have:=hnx.1;have:=hnx.2.1;omega)⟩ (hh:=((SubK.consI rfl ImpK.refl) ((SubK.consI rfl ImpK.refl) ((SubK.consI rfl ImpK.refl) SubK.nil))))
       ·
        refine xb0 d_not ⟨rfl,trivial⟩ trivial trivial rfl (xh8 (xb1 (C_bT rfl rfl (C_ret (K_retB (K_retT (K_retB ?_)))))))
        exact E_it hB rfl trivial rfl (.inl rfl) rfl (.inr ⟨k,hkN,rfl⟩)
  ·
   refine C_exit (K_exT (K_exT (K_exB ?_)))
   exact E_it hB rfl trivial rfl (.inr rfl) rfl (.inl (by have:=hCI.stop (by omega);have h2:=hCI.2.2.1;rw [show k=(chAll a b).length by omega]))
theorem c_choose (a b:List Sn) (fk:Nat) (kp:Bool→Bool→Bool) (hfk:FnI Tryz.prog fk) (hkp: ∀x y,Ct Tryz.prog fk [tMem x y] (tB (kp x y))) (hla:a.length≤100000) (hlb:b.length≤100000):
  Ct Tryz.prog 72 [tL 2 true tSn a,tL 2 true tSn b,tE (.func (.func fk) #[] #[])] (tT [tL 2 true tSn (if sVal a=true∧sVal b=true then (ckRun kp a b).xs else []),tI (if sVal a=true∧sVal b=true then 0 else 2)]):=by
 refine Ct.intro Tryz.func72 rfl Tryz.ntmps72 rfl ?_
 intro w F
 refine A11 ?_
 refine R1 (x4 (c_SValid a) fi64 rfl) rfl ?_
 refine A2 ?_
 refine RGcase (t:=17) rfl (fun h89=> ?_) (fun h89=> ?_)
 ·
  refine A15 ?_
  exact xd0 Plain.mk' rfl rfl rfl (leNil (by rw [if_neg (fun h=>by rw [h.1] at h89;cases h89)])) (Le.int (by rw [if_neg (fun h=>by rw [h.1] at h89;cases h89)]))
 ·
  refine A1 ?_
  refine RGon h89 rfl (x4 (c_SValid b) fi64 rfl) rfl ⟨rfl,trivial⟩ trivial trivial ?_
  refine A4 ?_
  refine xd1 rfl (fun h89_2=> ?_) (fun h89_2=> ?_)
  ·
   refine A8 ?_
   exact xd0 Plain.mk' rfl rfl rfl (leNil (by rw [if_neg (fun h=>by rw [h.2] at h89_2;cases h89_2)])) (Le.int (by rw [if_neg (fun h=>by rw [h.2] at h89_2;cases h89_2)]))
  ·
   refine A4 ?_
   refine RE (xa8 (k:=8) (n:=1) (agg:=false) zr44.1 zr44.2 rfl) trivial trivial ⟨rfl,trivial⟩ ?_
   refine A4 ?_
   refine RE (xa8 (k:=9) (n:=1) (agg:=false) zr3.1 zr3.2 rfl) trivial trivial ⟨rfl,trivial⟩ (RE (xa8 (k:=10) (n:=1) (agg:=false) zr4.1 zr4.2 rfl) trivial trivial ⟨rfl,trivial⟩ ?_)
   refine A6 ?_
   have hok:sVal a=true∧sVal b=true:=⟨by simpa using h89,by simpa using h89_2⟩
   refine C_nilC (q:=8) 60 72 2 true 0 rfl rfl rfl rfl (fun h=>by cases h) rfl rfl ?_
   refine A3 ?_
   refine RE (xa9 (fun j=>cond (Nat.beq j 2) 24 (1024)) (c_changes a b) fi101 rfl (krN (ρ:=fun j=>cond (Nat.beq j 2) 24 (1024))) (krC (ρ:=fun j=>cond (Nat.beq j 2) 24 (1024)) (k:=2) rfl (krC (ρ:=fun j=>cond (Nat.beq j 2) 24 (1024)) (k:=3) rfl (krN (ρ:=fun j=>cond (Nat.beq j 2) 24 (1024))))) ⟨⟨rfl,(SupX.lit rfl)⟩,⟨rfl,(SupX.lit rfl)⟩,trivial⟩ rfl) ⟨rfl,rfl,trivial⟩ trivial ⟨rfl,rfl,trivial⟩ ?_
   refine A3 ?_
   refine C_range (caps:=[.ptr 1 0,.ptr 2 0]) (κ:=Empty) (fun j=>cond (Nat.beq j 2) 1024 (cond (Nat.beq j 1) 24 (j))) rfl (fun _ h=>h) trivial (i_changes a b hok.1 hok.2 (by omega) (by omega)) fi122 rfl ⟨rfl,rfl,trivial⟩ rfl rfl (fun _ _=>rfl) (upd (upd (upd (upd (fun _=>none) 5 (some (.own (.ptr 5 0)))) 8 (some (.own (.ptr 8 0)))) 9 (some (.own (.ptr 9 0)))) 10 (some (.own (.ptr 10 0)))) [5,8,9,10,60] [5,8,9,10] (Sub.cons rfl (Sub.cons rfl (Sub.cons rfl (Sub.cons rfl Sub.nil)))) (SupG.own rfl (SupG.own rfl (SupG.own rfl (SupG.own rfl SupG.nil)))) rfl (lkOk rfl) (fun (k:Nat) (s:Ck)=>((chAll a b).drop k).foldl (ck1 kp) s=(ckRun kp a b)∧s.xs.length≤k) (fun (k:Nat) (s:Ck)=>upd (upd (upd (upd (upd (fun _=>none) 5 (some (⟨128,1,false,[.val (tE (.func (.func fk) #[] #[]))]⟩))) 8 (some (⟨44,1,false,[.own (.sl 60 2 0 s.xs.length)]⟩))) 9 (some (⟨3,1,false,[.val (tI s.lo)]⟩))) 10 (some (⟨4,1,false,[.val (tB s.ins)]⟩))) 60 (some (⟨72,2,true,rV tSn s.xs⟩))) (fun k x=>(SupH.cons rfl (supJ x8) (SupH.cons rfl (supJL rfl) (SupH.cons rfl (supJL rfl) (SupH.cons rfl (supJL rfl) (SupH.cons rfl (supJL rfl) SupH.nil)))))) (fun k x y hy=>by simp only [List.mem_cons,List.not_mem_nil,or_false] at hy;rcases hy with rfl | rfl <;> rfl) (fun _ _=>False) (fun i=>i.elim) (fun _ _ h=>h.elim) (⟨[],0,false⟩) ⟨rfl,Nat.le_refl _⟩ ((SubK.consI rfl ImpK.refl) ((SubK.consI rfl ImpK.refl) ((SubK.consI rfl ImpK.refl) ((SubK.consI rfl ImpK.refl) ((SubK.consI rfl ImpK.refl) SubK.nil))))) ?_ ?_ ?_
   ·
    intro D lp o1 o2 O W lη lb V0 k s hk hI
    obtain ⟨hrun,hxl⟩:=hI
    have hN:=chAll_len (a:=a) (b:=b)
    apply rnd_mk
    ·
     refine A6 ?_
     refine RE (xa8 (k:=12) (n:=2) (agg:=true) zr127.1 zr127.2 rfl) trivial trivial ⟨rfl,trivial⟩ ?_
     refine A2 ?_
     exact K_thenF fun _ _ h=>h
    ·
     refine A5 ?_
     refine R2 (xj1 (hkp _ _) hfk rfl) rfl rfl ?_
     refine A3 ?_
     refine xe7 (fun (f1:Int)=>f1=(if (kp (((chAll a b).getD k ch0).2.1%2==1) (((chAll a b).getD k ch0).2.2%2==1)) && !s.ins then ((chAll a b).getD k ch0).1 else s.lo)) (fun (f1:Int)=>upd (upd (upd (upd (upd (upd (fun _=>none) 5 (some (.own (.ptr 5 0)))) 8 (some (.own (.ptr 8 0)))) 9 (some (.own (.ptr 9 0)))) 10 (some (.own (.ptr 10 0)))) 11 (some (.val (tI ((chAll a b).getD k ch0).1)))) 13 (some (.val (tB (kp (((chAll a b).getD k ch0).2.1%2==1) (((chAll a b).getD k ch0).2.2%2==1)))))) (fun (f1:Int)=>upd (upd (upd (upd (upd (fun _=>none) 5 (some (⟨128,1,false,[.val (tE (.func (.func fk) #[] #[]))]⟩))) 8 (some (⟨44,1,false,[.own (.sl 60 2 0 s.xs.length)]⟩))) 9 (some (⟨3,1,false,[.val (tI f1)]⟩))) 10 (some (⟨4,1,false,[.val (tB s.ins)]⟩))) 60 (some (⟨72,2,true,rV tSn s.xs⟩))) (nm [5,8,9,10,60]) ?_ ?_
     ·
      refine A4 ?_
      refine RGcase (t:=31) rfl (fun h96=> ?_) (fun h96=> ?_)
      ·
       refine A5 ?_
       refine xd1 rfl (fun h96_2=> ?_) (fun h96_2=> ?_)
       ·
        refine A4 ?_
        exact kF (((chAll a b).getD k ch0).1) (by rw [h96,show s.ins=false by simpa using h96_2];rfl) (hh:=((SubK.consI rfl ImpK.refl) ((SubK.consI rfl ImpK.refl) ((SubK.consI rfl ImpK.refl) ((SubK.consI rfl ImpK.refl) ((SubK.consI rfl ImpK.refl) SubK.nil))))))
       ·
        refine A1 ?_
        exact kF (s.lo) (by rw [h96,show s.ins=true by simpa using h96_2];rfl) (hh:=((SubK.consI rfl ImpK.refl) ((SubK.consI rfl ImpK.refl) ((SubK.consI rfl ImpK.refl) ((SubK.consI rfl ImpK.refl) ((SubK.consI rfl ImpK.refl) SubK.nil))))))
      ·
       refine A7 ?_
       exact kF (s.lo) (by rw [h96];rfl) (hh:=((SubK.consI rfl ImpK.refl) ((SubK.consI rfl ImpK.refl) ((SubK.consI rfl ImpK.refl) ((SubK.consI rfl ImpK.refl) ((SubK.consI rfl ImpK.refl) SubK.nil))))))
     ·
      intro f1 hf1
      refine A5 ?_
      refine RGcase (t:=37) rfl (fun h99=> ?_) (fun h99=> ?_)
      ·
       refine A5 ?_
       refine xd1 rfl (fun h99_2=> ?_) (fun h99_2=> ?_)
       ·
        refine A1 ?_
        refine RE (xa6 (ts:=[.own (.sl 60 2 0 s.xs.length)]) (0) ti44 rfl rfl) ⟨rfl,trivial⟩ ⟨rfl,trivial⟩ trivial ?_
        refine A2 ?_
        refine R2 (xb6 (r:=tS [⟨1,false,tI f1⟩,⟨1,false,tI ((chAll a b).getD k ch0).1⟩]) (ts:=[(0,tI f1),(1,tI ((chAll a b).getD k ch0).1)]) bu72 zr72.2 (Bc 0 rfl rfl rfl (Bc 1 rfl rfl rfl Le.refl))) rfl rfl (R1 (xc7 (n:=1) (f:=tSn) [(⟨f1,((chAll a b).getD k ch0).1⟩:Sn)] Tryz.underlying44 el72 zf72 rfl (fun _=>inferInstance) rfl rfl rfl) rfl (RE (xb4 (k:=60) (k':=46) (f:=tSn) (ys:=[(⟨f1,((chAll a b).getD k ch0).1⟩:Sn)]) (ts':=rV tSn (s.xs++[⟨f1,((chAll a b).getD k ch0).1⟩])) Tryz.underlying44 el72 zf72 rfl rfl (fun _=>inferInstance) xc1 (by simp;omega) (by simp;omega) (by simp [rV]) (n':=s.xs.length+1) rfl) ⟨rfl,rfl,trivial⟩ ⟨rfl,trivial⟩ ⟨rfl,trivial⟩ ?_))
        refine A8 ?_
        have hn:(ck1 kp s ((chAll a b).getD k ch0))=⟨s.xs++[⟨(if (kp (((chAll a b).getD k ch0).2.1%2==1) (((chAll a b).getD k ch0).2.2%2==1)) && !s.ins then ((chAll a b).getD k ch0).1 else s.lo),((chAll a b).getD k ch0).1⟩],(if (kp (((chAll a b).getD k ch0).2.1%2==1) (((chAll a b).getD k ch0).2.2%2==1)) && !s.ins then ((chAll a b).getD k ch0).1 else s.lo),(kp (((chAll a b).getD k ch0).2.1%2==1) (((chAll a b).getD k ch0).2.2%2==1))⟩:=by rw [ck1,h99,h99_2];rfl
        exact K_ren (g':=fun _=>none) [5,8,9,10,60] (fun j=>cond (Nat.beq j 60) 46 (j)) SubR.nil ((SubKR.consI rfl (ImpK.of (by rw [←hf1];exact xa4.symm))) ((SubKR.consI rfl ImpK.refl) ((SubKR.consI rfl (ImpK.of (by rw [hf1];rfl))) ((SubKR.consI rfl (ImpK.of (by dsimp only;rw [List.length_append];rfl))) ((SubKR.consI rfl ImpK.refl) SubKR.nil))))) SupG.nil (SupH.cons rfl (supJ x8) (SupH.cons rfl (supJL rfl) (SupH.cons rfl (supJL rfl) (SupH.cons rfl (supJL rfl) (SupH.cons rfl (supJL rfl) SupH.nil))))) (lkOk rfl) rfl rfl (fun _ h=>by cases h) (K_rnd (⟨s.xs++[⟨(if (kp (((chAll a b).getD k ch0).2.1%2==1) (((chAll a b).getD k ch0).2.2%2==1)) && !s.ins then ((chAll a b).getD k ch0).1 else s.lo),((chAll a b).getD k ch0).1⟩],(if (kp (((chAll a b).getD k ch0).2.1%2==1) (((chAll a b).getD k ch0).2.2%2==1)) && !s.ins then ((chAll a b).getD k ch0).1 else s.lo),(kp (((chAll a b).getD k ch0).2.1%2==1) (((chAll a b).getD k ch0).2.2%2==1))⟩) ⟨by rw [←hn];exact ck_next hk hrun,by rw [List.length_append];simp;omega⟩ SubK.refl (SupH.cons rfl (supJ x8) (SupH.cons rfl (supJL rfl) (SupH.cons rfl (supJL rfl) (SupH.cons rfl (supJL rfl) (SupH.cons rfl (supJL rfl) SupH.nil))))) (lkOk rfl))
       ·
        refine A7 ?_
        have hn:(ck1 kp s ((chAll a b).getD k ch0))=⟨s.xs,(if (kp (((chAll a b).getD k ch0).2.1%2==1) (((chAll a b).getD k ch0).2.2%2==1)) && !s.ins then ((chAll a b).getD k ch0).1 else s.lo),(kp (((chAll a b).getD k ch0).2.1%2==1) (((chAll a b).getD k ch0).2.2%2==1))⟩:=by rw [ck1,h99,h99_2];rfl
        exact K_rnd (⟨s.xs,(if (kp (((chAll a b).getD k ch0).2.1%2==1) (((chAll a b).getD k ch0).2.2%2==1)) && !s.ins then ((chAll a b).getD k ch0).1 else s.lo),(kp (((chAll a b).getD k ch0).2.1%2==1) (((chAll a b).getD k ch0).2.2%2==1))⟩) ⟨by rw [←hn];exact ck_next hk hrun,by show s.xs.length≤k+1;omega⟩ ((SubK.consI rfl ImpK.refl) ((SubK.consI rfl ImpK.refl) ((SubK.consI rfl (ImpK.of (by rw [hf1]))) ((SubK.consI rfl ImpK.refl) ((SubK.consI rfl ImpK.refl) SubK.nil))))) (SupH.cons rfl (supJ x8) (SupH.cons rfl (supJL rfl) (SupH.cons rfl (supJL rfl) (SupH.cons rfl (supJL rfl) (SupH.cons rfl (supJL rfl) SupH.nil))))) (lkOk rfl)
      ·
       refine A13 ?_
       have hn:(ck1 kp s ((chAll a b).getD k ch0))=⟨s.xs,(if (kp (((chAll a b).getD k ch0).2.1%2==1) (((chAll a b).getD k ch0).2.2%2==1)) && !s.ins then ((chAll a b).getD k ch0).1 else s.lo),(kp (((chAll a b).getD k ch0).2.1%2==1) (((chAll a b).getD k ch0).2.2%2==1))⟩:=by rw [ck1,h99];rfl
       exact K_rnd (⟨s.xs,(if (kp (((chAll a b).getD k ch0).2.1%2==1) (((chAll a b).getD k ch0).2.2%2==1)) && !s.ins then ((chAll a b).getD k ch0).1 else s.lo),(kp (((chAll a b).getD k ch0).2.1%2==1) (((chAll a b).getD k ch0).2.2%2==1))⟩) ⟨by rw [←hn];exact ck_next hk hrun,by show s.xs.length≤k+1;omega⟩ ((SubK.consI rfl ImpK.refl) ((SubK.consI rfl ImpK.refl) ((SubK.consI rfl (ImpK.of (by rw [hf1]))) ((SubK.consI rfl ImpK.refl) ((SubK.consI rfl ImpK.refl) SubK.nil))))) (SupH.cons rfl (supJ x8) (SupH.cons rfl (supJL rfl) (SupH.cons rfl (supJL rfl) (SupH.cons rfl (supJL rfl) (SupH.cons rfl (supJL rfl) SupH.nil))))) (lkOk rfl)
   ·
    intro D hD s hI
    obtain ⟨hrun,hxl⟩:=hI
    rw [List.drop_length] at hrun
    have hR:s=(ckRun kp a b):=hrun
    refine A4 ?_
    refine RE (Does.giveL (k:=60) (es:=2) (off:=0) (len:=s.xs.length) (xs:=s.xs) (f:=tSn) (ts:=rV tSn s.xs) (xa6 (ts:=[.own (.sl 60 2 0 s.xs.length)]) (0) ti44 rfl rfl) (fun _ h=>h) (xg4 rfl) rfl) ⟨rfl,trivial⟩ ⟨rfl,rfl,trivial⟩ trivial ?_
    refine A5 ?_
    exact xd0 (Plain.loop Plain.mk' hD) rfl rfl rfl (Le.of (by rw [if_pos hok,hR])) (Le.int (by rw [if_pos hok]))
   ·
    intro D hD e i;exact i.elim
theorem c_Union1 (x y:Bool):
  Ct Tryz.prog 73 [tMem x y] (tB (x || y)):=by
 refine Ct.intro Tryz.func73 rfl Tryz.ntmps73 rfl ?_
 intro w F
 refine A11 ?_
 refine RGcase (t:=5) rfl (fun h109=> ?_) (fun h109=> ?_)
 ·
  refine A7 ?_
  exact x3 Plain.mk' rfl rfl (Le.bool (by simp [*]))
 ·
  refine A7 ?_
  exact x3 Plain.mk' rfl rfl (Le.bool (by simp [*]))
theorem c_Union (a b:List Sn) (hla:a.length≤100000) (hlb:b.length≤100000):
  Ct Tryz.prog 33 [tL 2 true tSn a,tL 2 true tSn b] (tT [tL 2 true tSn (if sVal a=true∧sVal b=true then (ckRun (fun x y=>x || y) a b).xs else []),tI (if sVal a=true∧sVal b=true then 0 else 2)]):=by
 refine Ct.intro Tryz.func33 rfl Tryz.ntmps33 rfl ?_
 intro w F
 refine A10 ?_
 refine R3 (x4 (c_choose a b 73 (fun x y=>x || y) fi73 c_Union1 hla hlb) fi72 rfl) rfl rfl rfl ?_
 refine A7 ?_
 exact xd0 Plain.mk' rfl rfl rfl Le.refl Le.refl
instance fi65:FnI Tryz.prog 65:=⟨_,Tryz.func65,by kernel_rfl,rfl⟩
instance fi97:FnI Tryz.prog 97:=⟨_,Tryz.func97,by kernel_rfl,rfl⟩
def fnd (l:List Sn) (d:Int):Nat:=(l.takeWhile fun s=>decide (s.hi≤d)).length
theorem fnd_is {d:Int}: ∀{l:List Sn} {p:Nat},p≤l.length→(∀i,i < p→(l.getD i sn0).hi≤d)→(p < l.length→d < (l.getD p sn0).hi)→p=fnd l d
 | [],p,hp,_,_=>by simp at hp;subst hp;rfl
 | s::r,0,_,_,h=>by
  have h1:d < s.hi:=h (by simp)
  rw [fnd,List.takeWhile_cons,if_neg (by simp;omega)];rfl
 | s::r,p+1,hp,h1,h2=>by
  have h3:s.hi≤d:=h1 0 (by omega)
  have ih:=fnd_is (d:=d) (l:=r) (p:=p) (by simpa using hp) (fun i hi=>by have:=h1 (i+1) (by omega);simpa using this) (fun hp2=>by have:=h2 (by simpa using hp2);simpa using this)
  rw [fnd,List.takeWhile_cons,if_pos (by simp;omega),List.length_cons,←fnd,←ih]
theorem hi_mono {l:List Sn} (h:sVal l=true) {i j:Nat} (hij:i≤j) (hj:j < l.length):(l.getD i sn0).hi≤(l.getD j sn0).hi:=by
 rcases Nat.lt_or_ge i j with h1 | h1
 ·have:=sVal_lt h h1 hj
  have:=xf3 h hj;omega
 ·rw [show i=j by omega];exact Int.le_refl _
theorem fnd_le {l:List Sn} {d:Int}:fnd l d≤l.length:=(List.takeWhile_sublist _).length_le
def hasB (l:List Sn) (d:Int):Bool:=decide (fnd l d < l.length) && decide ((l.getD (fnd l d) sn0).lo≤d)
def wi (b:List Sn) (s:Sn):Bool:=decide (fnd b s.lo < b.length) && decide ((b.getD (fnd b s.lo) sn0).lo≤s.lo) && decide (s.hi≤(b.getD (fnd b s.lo) sn0).hi)
theorem c_find1 (l:List Sn) (d:Int) (i:Nat) (hi:i < l.length):
  CtG Tryz.prog 97 [(2,⟨44,1,false,[.val (tL 2 true tSn l)]⟩),(3,⟨3,1,false,[.val (tI d)]⟩)] [.val (tI i),.own (.ptr 2 0),.own (.ptr 3 0)] (.val (tB (decide (d < (l.getD i sn0).hi)))) [(2,⟨44,1,false,[.val (tL 2 true tSn l)]⟩),(3,⟨3,1,false,[.val (tI d)]⟩)] []:=by
 refine CtG.intro [2,3] Tryz.func97 rfl Tryz.ntmps97 rfl rfl ⟨⟨rfl,(SupX.lit rfl)⟩,⟨rfl,(SupX.lit rfl)⟩,trivial⟩ ?_
 intro w F η
 refine A9 ?_
 refine R2 (x6 sl44 (i) (by omega) (gD (l:=l) (n:=i) (d:=sn0) (by omega))) rfl rfl (R1 (xc2 fo72_1.h (At.f 1 rfl rfl) rfl) rfl ?_)
 refine A7 ?_
 exact xc5 LentC.mk' rfl rfl Imp.refl ⟨rfl,rfl,trivial⟩ rfl ⟨⟨rfl,(SupX.lit rfl)⟩,⟨rfl,(SupX.lit rfl)⟩,trivial⟩ rfl
theorem c_Search (l:List Sn) (d:Int) (hv:sVal l=true) (hl:l.length≤1000000):
  CtG Tryz.prog 51 [(2,⟨44,1,false,[.val (tL 2 true tSn l)]⟩),(3,⟨3,1,false,[.val (tI d)]⟩)] [.val (tI l.length),.own (.fn 97 [.ptr 2 0,.ptr 3 0])] (.val (tI (fnd l d))) [(2,⟨44,1,false,[.val (tL 2 true tSn l)]⟩),(3,⟨3,1,false,[.val (tI d)]⟩)] []:=by
 refine CtG.intro [2,3] Tryz.func51 rfl Tryz.ntmps51 rfl rfl ⟨⟨rfl,(SupX.lit rfl)⟩,⟨rfl,(SupX.lit rfl)⟩,trivial⟩ ?_
 intro w F η
 refine A14 ?_
 refine cL (fun (fm:(Nat)×(Nat))=>(fun (p:Nat) (q:Nat)=>p≤q∧q≤l.length∧(∀i,i < p→(l.getD i sn0).hi≤d)∧ ∀i,q≤i→i < l.length→d < (l.getD i sn0).hi) fm.1 fm.2) (fun (fm:(Nat)×(Nat))=>(fun (p:Nat) (q:Nat)=>upd (upd (upd (fun _=>none) 1 (some (.own (.fn 97 [.ptr 2 0,.ptr 3 0])))) 5 (some (.val (tI p)))) 6 (some (.val (tI q)))) fm.1 fm.2) (fun (fm:(Nat)×(Nat))=>(fun (p:Nat) (q:Nat)=>upd (upd (fun _=>none) 2 (some (⟨44,1,false,[.val (tL 2 true tSn l)]⟩))) 3 (some (⟨3,1,false,[.val (tI d)]⟩))) fm.1 fm.2) [2,3] (fun (fm:(Nat)×(Nat))=>(fun (p:Nat) (q:Nat)=>q - p) fm.1 fm.2) ((0,l.length)) (by dsimp only;exact ⟨Nat.zero_le _,Nat.le_refl _,fun i hi=>by omega,fun i hi hi2=>by omega⟩) (hh:=((SubK.consI rfl ImpK.refl) ((SubK.consI rfl ImpK.refl) SubK.nil))) ?_
 intro fm hI
 obtain ⟨p,q⟩:=fm
 replace hI:p≤q∧q≤l.length∧(∀i,i < p→(l.getD i sn0).hi≤d)∧ ∀i,q≤i→i < l.length→d < (l.getD i sn0).hi:=hI
 show wc _ _ _ _ (upd (upd (upd (fun _=>none) 1 (some (.own (.fn 97 [.ptr 2 0,.ptr 3 0])))) 5 (some (.val (tI p)))) 6 (some (.val (tI q)))) (upd (upd (fun _=>none) 2 (some (⟨44,1,false,[.val (tL 2 true tSn l)]⟩))) 3 (some (⟨3,1,false,[.val (tI d)]⟩))) _
 obtain ⟨hp,hq,h1,h2⟩:=hI
 refine A8 ?_
 refine x9 rfl (fun h62=> ?_) (fun h62=> ?_)
 ·
  refine A8 ?_
  refine R1 (x5 Tryz.underlying143 (isS Tryz.underlying3) (by first | exact wu64 (by omega) (by omega) | exact mu64)) rfl (R2 (xe8 (r:=((((p+q) / 2):Nat):Int)) (by decide) ((shrN (s:=1) rfl (by decide)).trans (by simp))) rfl rfl (R1 (x5 Tryz.underlying3 (isS Tryz.underlying143) (wr64 (by omega) (by omega))) rfl ?_))
  refine A7 ?_
  refine RE (d_callCX (ps:=[.val (tI _)]) (caps:=[.ptr 2 0,.ptr 3 0]) (fun j=>cond (Nat.beq j 2) 2 (3)) (c_find1 l d ((p+q) / 2) (by omega)) fi97 rfl (krC (ρ:=fun j=>cond (Nat.beq j 2) 2 (3)) (k:=2) rfl (krC (ρ:=fun j=>cond (Nat.beq j 2) 2 (3)) (k:=3) rfl (krN (ρ:=fun j=>cond (Nat.beq j 2) 2 (3))))) (krC (ρ:=fun j=>cond (Nat.beq j 2) 2 (3)) (k:=2) rfl (krC (ρ:=fun j=>cond (Nat.beq j 2) 2 (3)) (k:=3) rfl (krN (ρ:=fun j=>cond (Nat.beq j 2) 2 (3))))) ⟨⟨rfl,(SupX.lit rfl)⟩,⟨rfl,(SupX.lit rfl)⟩,trivial⟩ rfl) ⟨rfl,rfl,trivial⟩ ⟨rfl,rfl,trivial⟩ trivial ?_
  refine A3 ?_
  refine C_ifn rfl (fun h65=> ?_) (fun h65=> ?_)
  ·
   refine A6 ?_
   exact kF ((((p+q) / 2)+1,q)) ⟨(by dsimp only;exact ⟨by omega,hq,fun i hi=>by have:=hi_mono hv (show i≤((p+q) / 2) by omega) (by omega);omega,h2⟩),(by dsimp only;omega)⟩ (hh:=((SubK.consI rfl ImpK.refl) ((SubK.consI rfl ImpK.refl) SubK.nil)))
  ·
   refine A5 ?_
   exact kF ((p,((p+q) / 2))) ⟨(by dsimp only;exact ⟨by omega,by omega,h1,fun i hi hi2=>by have:=hi_mono hv hi hi2;omega⟩),(by dsimp only;omega)⟩ (hh:=((SubK.consI rfl ImpK.refl) ((SubK.consI rfl ImpK.refl) SubK.nil)))
 ·
  refine A12 ?_
  exact xc5 LentC.mk' rfl rfl (Imp.int (congrArg Int.ofNat (fnd_is (by omega) h1 (fun hp2=>h2 p (by omega) hp2)))) ⟨rfl,rfl,trivial⟩ rfl ⟨⟨rfl,(SupX.lit rfl)⟩,⟨rfl,(SupX.lit rfl)⟩,trivial⟩ rfl
theorem c_find (l:List Sn) (d:Int) (hv:sVal l=true) (hl:l.length≤1000000):
  Ct Tryz.prog 65 [tL 2 true tSn l,tI d] (tI (fnd l d)):=by
 refine Ct.intro Tryz.func65 rfl Tryz.ntmps65 rfl ?_
 intro w F
 refine A11 ?_
 refine R2 (xi8 (ps:=[.ptr 2 0,.ptr 3 0]) rfl) rfl rfl (RE (xa9 (fun j=>cond (Nat.beq j 2) 2 (3)) (c_Search l d hv hl) fi51 rfl (krC (ρ:=fun j=>cond (Nat.beq j 2) 2 (3)) (k:=2) rfl (krC (ρ:=fun j=>cond (Nat.beq j 2) 2 (3)) (k:=3) rfl (krN (ρ:=fun j=>cond (Nat.beq j 2) 2 (3))))) (krC (ρ:=fun j=>cond (Nat.beq j 2) 2 (3)) (k:=2) rfl (krC (ρ:=fun j=>cond (Nat.beq j 2) 2 (3)) (k:=3) rfl (krN (ρ:=fun j=>cond (Nat.beq j 2) 2 (3))))) ⟨⟨rfl,(SupX.lit rfl)⟩,⟨rfl,(SupX.lit rfl)⟩,trivial⟩ rfl) ⟨rfl,rfl,trivial⟩ ⟨rfl,rfl,trivial⟩ trivial ?_)
 refine A4 ?_
 exact x3 Plain.mk' rfl rfl Le.refl
theorem c_Within (a b:List Sn) (hla:a.length≤1000000) (hlb:b.length≤1000000):
  Ct Tryz.prog 29 [tL 2 true tSn a,tL 2 true tSn b] (tB (sVal a && sVal b && a.all (wi b))):=by
 refine Ct.intro Tryz.func29 rfl Tryz.ntmps29 rfl ?_
 intro w F
 refine A9 ?_
 refine R1 (x4 (c_SValid a) fi64 rfl) rfl ?_
 refine A2 ?_
 refine RGcase (t:=11) rfl (fun h154=> ?_) (fun h154=> ?_)
 ·
  refine A14 ?_
  exact x3 Plain.mk' rfl rfl (Le.bool (by rw [show sVal a=false by simpa using h154];rfl))
 ·
  refine A1 ?_
  refine RGon h154 rfl (x4 (c_SValid b) fi64 rfl) rfl ⟨rfl,trivial⟩ trivial trivial ?_
  refine A4 ?_
  refine xd1 rfl (fun h154_2=> ?_) (fun h154_2=> ?_)
  ·
   refine A7 ?_
   exact x3 Plain.mk' rfl rfl (Le.bool (by rw [show sVal b=false by simpa using h154_2];simp))
  ·
   refine A11 ?_
   have hv:sVal a=true:=by simpa using h154
   have hv2:sVal b=true:=by simpa using h154_2
   refine cL (fun (i:Nat)=>i≤a.length∧(a.take i).all (wi b)=true) (fun (i:Nat)=>upd (upd (upd (upd (fun _=>none) 1 (some (.val (tL 2 true tSn b)))) 16 (some (.val (tL 2 true tSn a)))) 17 (some (.val (tI a.length)))) 18 (some (.val (tI i)))) (fun (i:Nat)=>fun _=>none) [] (fun (i:Nat)=>a.length - i) (0) ⟨Nat.zero_le _,rfl⟩ ?_
   intro i hI
   obtain ⟨hi,ha⟩:=hI
   have hfl:=fnd_le (l:=b) (d:=(a.getD i sn0).lo)
   refine A6 ?_
   refine x9 rfl (fun h157=> ?_) (fun h157=> ?_)
   ·
    refine A6 ?_
    refine R2 (x6 sl44 (i) (by omega) (gD (l:=a) (n:=i) (d:=sn0) (by omega))) rfl rfl ?_
    refine A1 ?_
    refine RE (xa8 (k:=6) (n:=2) (agg:=true) zr72.1 zr72.2 rfl) trivial trivial ⟨rfl,trivial⟩ ?_
    refine A8 ?_
    refine R2 (x4 (c_find b (a.getD i sn0).lo hv2 hlb) fi65 rfl) rfl rfl ?_
    refine A10 ?_
    refine RGcaseD (t:=30) rfl (fun h159=> ?_) (fun h159=> ?_)
    ·
     refine A18 ?_
     refine A15 ?_
     exact x3 Plain.mk' rfl rfl (Le.bool (by rw [allS_stop (i:=i) (by omega) (show wi b (a.getD i sn0)=false by simp only [wi,Bool.and_eq_false_iff,decide_eq_false_iff_not];omega),Bool.and_false]))
    ·
     refine A2 ?_
     refine RGon (decide_eq_false h159) rfl (x6 sl44 ((fnd b (a.getD i sn0).lo)) (by omega) (gD (l:=b) (n:=(fnd b (a.getD i sn0).lo)) (d:=sn0) (by omega))) rfl ⟨rfl,rfl,trivial⟩ trivial trivial (RGon (decide_eq_false h159) rfl (xc2 fo72_0.h (At.f 0 rfl rfl) rfl) rfl ⟨rfl,trivial⟩ trivial trivial ?_)
     refine A6 ?_
     refine RGcaseD (t:=40) rfl (fun h159_2=> ?_) (fun h159_2=> ?_)
     ·
      refine A18 ?_
      refine A5 ?_
      exact x3 Plain.mk' rfl rfl (Le.bool (by rw [allS_stop (i:=i) (by omega) (show wi b (a.getD i sn0)=false by simp only [wi,Bool.and_eq_false_iff,decide_eq_false_iff_not];omega),Bool.and_false]))
     ·
      refine A2 ?_
      refine RGon (decide_eq_false h159_2) rfl (x6 sl44 ((fnd b (a.getD i sn0).lo)) (by omega) (gD (l:=b) (n:=(fnd b (a.getD i sn0).lo)) (d:=sn0) (by omega))) rfl ⟨rfl,rfl,trivial⟩ trivial trivial (RGon (decide_eq_false h159_2) rfl (xc2 fo72_1.h (At.f 1 rfl rfl) rfl) rfl ⟨rfl,trivial⟩ trivial trivial ?_)
      refine A7 ?_
      refine x9 rfl (fun h159_3=> ?_) (fun h159_3=> ?_)
      ·
       refine A11 ?_
       exact x3 Plain.mk' rfl rfl (Le.bool (by rw [allS_stop (i:=i) (by omega) (show wi b (a.getD i sn0)=false by simp only [wi,Bool.and_eq_false_iff,decide_eq_false_iff_not];omega),Bool.and_false]))
      ·
       refine A7 ?_
       have hw:wi b (a.getD i sn0)=true:=by simp only [wi,Bool.and_eq_true,decide_eq_true_eq];omega
       exact kF (i+1) ⟨⟨by omega,by rw [allS_next (by omega),ha,hw];rfl⟩,(by omega)⟩
   ·
    refine A11 ?_
    exact x3 Plain.mk' rfl rfl (Le.bool (by rw [hv,hv2,←List.take_length (l:=a),←show i=a.length by omega,ha];rfl))
end An.S
namespace An.S
open Go
theorem fnd_spec {d:Int}: ∀l:List Sn,(∀i,i < fnd l d→(l.getD i sn0).hi≤d)∧(fnd l d < l.length→d < (l.getD (fnd l d) sn0).hi)
 | []=>⟨fun i hi=>by simp [fnd] at hi,fun h=>by simp at h⟩
 | s::r=>by
  have ih:=fnd_spec (d:=d) r
  by_cases h:s.hi≤d
  ·have e:fnd (s::r) d=fnd r d+1:=by rw [fnd,List.takeWhile_cons,if_pos (by simpa using h)];rfl
   rw [e]
   refine ⟨fun i hi=> ?_,fun hl=> ?_⟩
   ·cases i with
    | zero=>exact h
    | succ i=>have:=ih.1 i (by omega);simpa using this
   ·have:=ih.2 (by simpa using hl);simpa using this
  ·have e:fnd (s::r) d=0:=by rw [fnd,List.takeWhile_cons,if_neg (by simpa using h)];rfl
   rw [e]
   exact ⟨fun i hi=>by omega,fun _=>by show d < s.hi;omega⟩
theorem lo_mono {l:List Sn} (h:sVal l=true) {i j:Nat} (hij:i≤j) (hj:j < l.length):(l.getD i sn0).lo≤(l.getD j sn0).lo:=by
 rcases Nat.lt_or_ge i j with h1 | h1
 ·have:=sVal_lt h h1 hj
  have:=xf3 h (i:=i) (by omega);omega
 ·rw [show i=j by omega];exact Int.le_refl _
theorem mem_at {l:List Sn} {d:Int} (h:mem l d=true): ∃i,i < l.length∧(l.getD i sn0).lo≤d∧d < (l.getD i sn0).hi:=by
 obtain ⟨s,hs,h1⟩:=mem_iff.1 h
 obtain ⟨i,hi,rfl⟩:=xi0 hs
 exact ⟨i,hi,h1⟩
theorem at_mem {l:List Sn} {d:Int} {i:Nat} (hi:i < l.length) (h1:(l.getD i sn0).lo≤d) (h2:d < (l.getD i sn0).hi):mem l d=true:=mem_iff.2 ⟨_,mem_getS hi,h1,h2⟩
theorem hasB_mem {l:List Sn} {d:Int} (h:sVal l=true):hasB l d=mem l d:=by
 have hf:=fnd_spec (d:=d) l
 rw [Bool.eq_iff_iff,hasB,Bool.and_eq_true,decide_eq_true_eq,decide_eq_true_eq]
 constructor
 ·rintro ⟨h1,h2⟩;exact at_mem h1 h2 (hf.2 h1)
 ·intro hm
  obtain ⟨i,hi,h1,h2⟩:=mem_at hm
  have h3: ¬i < fnd l d:=fun h'=>by have:=hf.1 i h';omega
  exact ⟨by omega,by have:=lo_mono h (show fnd l d≤i by omega) hi;omega⟩
theorem wi_iff {b:List Sn} {s:Sn} (h:sVal b=true) (hs:s.lo < s.hi):wi b s=true↔ ∀x,s.lo≤x→x < s.hi→mem b x=true:=by
 have hf:=fnd_spec (d:=s.lo) b
 rw [wi,Bool.and_eq_true,Bool.and_eq_true,decide_eq_true_eq,decide_eq_true_eq,decide_eq_true_eq]
 constructor
 ·rintro ⟨⟨h1,h2⟩,h3⟩ x hx hx2
  exact at_mem h1 (by omega) (by omega)
 ·intro ha
  have h0:=ha s.lo (Int.le_refl _) hs
  rw [←hasB_mem h,hasB,Bool.and_eq_true,decide_eq_true_eq,decide_eq_true_eq] at h0
  refine ⟨h0,?_⟩
  rcases Int.lt_or_le (b.getD (fnd b s.lo) sn0).hi s.hi with h1 | h1
  ·have h2:=hf.2 h0.1
   obtain ⟨j,hj,h3,h4⟩:=mem_at (ha (b.getD (fnd b s.lo) sn0).hi (by omega) h1)
   rcases Nat.lt_or_ge (fnd b s.lo) j with h5 | h5
   ·have:=sVal_lt h h5 hj;omega
   ·have:=hi_mono h h5 h0.1;omega
  ·exact h1
theorem sub_all {u v:List Sn} (hu:sVal u=true) (hv:sVal v=true) (h: ∀d,mem u d=true→mem v d=true):u.all (wi v)=true:=by
 refine List.all_eq_true.2 fun s hs=> ?_
 obtain ⟨i,hi,rfl⟩:=xi0 hs
 have:=xf3 hu hi
 exact (wi_iff hv this.2.1).2 fun x h1 h2=>h x (at_mem hi h1 h2)
theorem sVal_lo {l:List Sn} (h:sVal l=true): ∀i,i < l.length→(i:Int)≤(l.getD i sn0).lo
 | 0,hi=>(xf3 h hi).1
 | i+1,hi=>by
  have ih:=sVal_lo h i (by omega)
  have h1:=xf3 h (i:=i) (by omega)
  have h2:=sVal_lt h (show i < i+1 by omega) hi
  omega
theorem sVal_len {l:List Sn} (h:sVal l=true):l.length≤65536:=by
 rcases Nat.eq_zero_or_pos l.length with h0 | h0
 ·omega
 ·have h1:=sVal_lo h (l.length - 1) (by omega)
  have h2:=xf3 h (i:=l.length - 1) (by omega)
  omega
section
variable {D B:Int} {a b:List Fa} {f:Fa} {key:ByteArray} {kn:Int}
theorem xh4 (h:gR D B a) (g:gR D B b) {k1 k2:Int}:sVal (dfS (vwT (toldT a key k1)) (vwT (toldT b key k2)))=true∧ ∀d,mem (dfS (vwT (toldT a key k1)) (vwT (toldT b key k2))) d=true↔gF (toldT a key k1) d≠gF (toldT b key k2) d:=by
 have:=dfS_set (h.view (key:=key) k1).1.1 (g.view (key:=key) k2).1.1
 refine ⟨this.1,fun d=> ?_⟩
 rw [this.2 d,dfB,decide_eq_true_eq,vw_val,vw_val]
end
end An.S
namespace An.S
open Go Go.Proofs An
instance fi29:FnI Tryz.prog 29:=⟨_,Tryz.func29,by kernel_rfl,rfl⟩
theorem c_TDiffV {D B:Int} {a b:List Fa} (h:gR D B a) (g:gR D B b) (key:ByteArray) (k1 k2:Int):Ct Tryz.prog 28 [tL 8 true tTs (vwT (toldT a key k1)),tL 8 true tTs (vwT (toldT b key k2))] (tT [tL 2 true tSn (dfS (vwT (toldT a key k1)) (vwT (toldT b key k2))),tI 0]):=by
 have v1:=h.view (key:=key) k1
 have v2:=g.view (key:=key) k2
 have:=c_TDiff _ _ (by omega) (by omega) v1.1.dig v2.1.dig
 rw [if_pos ⟨v1.1.1,v2.1.1⟩,if_pos ⟨v1.1.1,v2.1.1⟩] at this;exact this
theorem c_WithinT (u v:List Sn) (hu:sVal u=true) (hv:sVal v=true) (h: ∀d,mem u d=true→mem v d=true):Ct Tryz.prog 29 [tL 2 true tSn u,tL 2 true tSn v] (tB true):=by
 have h1:=sVal_len hu
 have h2:=sVal_len hv
 have h3:=c_Within u v (by omega) (by omega)
 rw [hu,hv,sub_all hu hv h] at h3;exact h3
end An.S
namespace An.S
open Go
theorem mrg_any {d:Int}: ∀(xs acc:List Sn),(∀s∈xs,okS s)→(xs.Pairwise fun s t=>s.lo≤t.lo)→sVal acc=true→(0 < acc.length→ ∀s∈xs,(lastS acc).lo≤s.lo)→sVal (xs.foldl mrg1 acc)=true∧mem (xs.foldl mrg1 acc) d=(mem acc d || mem xs d)
 | [],acc,_,_,hv,_=>⟨hv,by simp [mem]⟩
 | s::r,acc,hx,ho,hv,hl=>by
  have hs:=hx s (List.mem_cons_self ..)
  have hp:=List.pairwise_cons.1 ho
  have key:sVal (mrg1 acc s)=true∧mem (mrg1 acc s) d=(mem acc d || (decide (s.lo≤d) && decide (d < s.hi)))∧(lastS (mrg1 acc s)).lo≤s.lo:=by
   rw [mrg1]
   split
   ·rename_i hm
    have hm1:=hm.1
    have hm2:s.lo≤(lastS acc).hi:=hm.2
    have h4:=xf3 hv (i:=acc.length - 1) (by omega)
    have h4':0≤(lastS acc).lo∧(lastS acc).lo < (lastS acc).hi∧(lastS acc).hi≤65536:=h4
    have h5:=hl hm1 s (List.mem_cons_self ..)
    have e6:(acc.getD (acc.length - 1) sn0).lo=(lastS acc).lo:=rfl
    have e7:(acc.getD (acc.length - 1) sn0).hi=(lastS acc).hi:=rfl
    rw [e6,e7]
    refine ⟨sVal_long hv hm1 (by omega) (by have:=hs.2.2;omega),?_,?_⟩
    ·rw [set_lastE hm1,xm8]
     have e3:mem acc d=(mem (acc.take (acc.length - 1)) d || (decide ((lastS acc).lo≤d) && decide (d < (lastS acc).hi))):=by rw [←xm8,←split_last hm1]
     rw [e3,Bool.or_assoc]
     have:=hs.2.1
     dsimp only
     congr 1
     rw [Bool.eq_iff_iff];simp;omega
    ·rw [lastS,List.length_set,xq0 (by omega),if_pos rfl];exact h5
   ·rename_i hm
    refine ⟨sVal_snoc hv hs fun h0=> ?_,xm8,?_⟩
    ·have h2: ¬s.lo≤(lastS acc).hi:=fun h'=>hm ⟨h0,h'⟩
     omega
    ·rw [lastS,xk3,List.length_append,List.length_singleton,if_neg (by omega),if_pos (by omega)];exact Int.le_refl _
  have ih:=mrg_any (d:=d) r (mrg1 acc s) (fun t ht=>hx t (List.mem_cons_of_mem _ ht)) hp.2 key.1 fun _ t ht=>by have:=hp.1 t ht;have:=key.2.2;omega
  rw [List.foldl_cons]
  exact ⟨ih.1,by rw [ih.2,key.2.1,mem_cons,Bool.or_assoc]⟩
theorem mk_any {l:List Sn} (h: ∀s∈l,okS s):sVal (mkS l)=true∧ ∀d,mem (mkS l) d=mem l d:=by
 have hf:l.filter pos=l:=List.filter_eq_self.2 fun s hs=>by
  have:=(h s hs).2.1
  exact decide_eq_true this
 have hs:=srt_spec swoSn l
 have hm: ∀s,s∈srt cfSn l↔s∈l:=fun s=>hs.2.1.mem_iff
 have ho:(srt cfSn l).Pairwise fun s t=>s.lo≤t.lo:=hs.2.2.imp fun {a b} hab=>by
  rw [ltSn] at hab
  simpa using hab
 have key:=fun d=>mrg_any (d:=d) (srt cfSn l) [] (fun s hs=>h s ((hm s).1 hs)) ho rfl fun h'=>by cases h'
 rw [mkS,hf,mrg]
 refine ⟨(key 0).1,fun d=> ?_⟩
 rw [(key d).2,Bool.eq_iff_iff]
 show (mem [] d || mem (srt cfSn l) d)=true↔_
 rw [show mem [] d=false from rfl,Bool.false_or,mem_iff,mem_iff]
 exact ⟨fun ⟨s,h1,h2⟩=>⟨s,(hm s).1 h1,h2⟩,fun ⟨s,h1,h2⟩=>⟨s,(hm s).2 h1,h2⟩⟩
def unS (u v:List Sn):List Sn:=(ckRun (fun x y=>x || y) u v).xs
theorem unS_spec {u v:List Sn} (hu:sVal u=true) (hv:sVal v=true):sVal (unS u v)=true∧ ∀d,mem (unS u v) d=(mem u d || mem v d):=ck_all (kp:=fun x y=>x || y) hu hv rfl
def lnS (key:ByteArray) (k1 k2:Int) (a:List Fa):List Sn:=(a.filter fun x=>decide (x.key=key) && (decide (x.kn≤k1) != decide (x.kn≤k2))).map fun x=>⟨x.lo,x.hi⟩
theorem lnS_next {key:ByteArray} {k1 k2:Int} {a:List Fa} {i:Nat} (hi:i < a.length):lnS key k1 k2 (a.take (i+1))=lnS key k1 k2 (a.take i)++if (decide ((a.getD i fa0).key=key) && (decide ((a.getD i fa0).kn≤k1) != decide ((a.getD i fa0).kn≤k2)))=true then [⟨(a.getD i fa0).lo,(a.getD i fa0).hi⟩] else []:=by
 rw [lnS,List.take_succ_eq_append_getElem hi,List.filter_append,List.map_append,List.filter_cons,List.filter_nil,List.getD_eq_getElem?_getD,List.getElem?_eq_getElem hi,lnS]
 congr 1
 simp only [Option.getD_some]
 split <;> rfl
theorem lnS_len {key:ByteArray} {k1 k2:Int} {a:List Fa}:(lnS key k1 k2 a).length≤a.length:=by
 rw [lnS,List.length_map];exact List.length_filter_le ..
theorem ln_df {D B:Int} {a:List Fa} (_h:gR D B a) {key:ByteArray} {k1 k2 d:Int} (hd:gF (toldT a key k1) d≠gF (toldT a key k2) d):mem (lnS key k1 k2 a) d=true:=by
 rw [mem_iff]
 refine Decidable.byContradiction fun hc=>hd ?_
 have e:onT a key k1 d=onT a key k2 d:=by
  rw [onT,onT,List.filter_filter,List.filter_filter]
  refine List.filter_congr fun x hx=> ?_
  rw [Bool.eq_iff_iff]
  simp only [Bool.and_eq_true,decide_eq_true_eq,xo8]
  by_cases hk:x.kn≤k1
  ·by_cases hk2:x.kn≤k2
   ·exact ⟨fun hh=>⟨hh.1,hh.2.1,hk2⟩,fun hh=>⟨hh.1,hh.2.1,hk⟩⟩
   ·refine ⟨fun hh=>absurd ⟨⟨x.lo,x.hi⟩,List.mem_map.2 ⟨x,List.mem_filter.2 ⟨hx,?_⟩,rfl⟩,hh.1⟩ hc,fun hh=>absurd hh.2.2 hk2⟩
    simp [hh.2.1,hk,hk2]
  ·by_cases hk2:x.kn≤k2
   ·refine ⟨fun hh=>absurd hh.2.2 hk,fun hh=>absurd ⟨⟨x.lo,x.hi⟩,List.mem_map.2 ⟨x,List.mem_filter.2 ⟨hx,?_⟩,rfl⟩,hh.1⟩ hc⟩
    simp [hh.2.1,hk,hk2]
   ·exact ⟨fun hh=>absurd hh.2.2 hk,fun hh=>absurd hh.2.2 hk2⟩
 rw [gF,gF,last_told,last_told,e]
theorem lnS_ok {D B:Int} {a:List Fa} (h:gR D B a) {key:ByteArray} {k1 k2:Int}: ∀s∈lnS key k1 k2 a,okS s:=fun s hs=>by
 obtain ⟨x,hx,rfl⟩:=List.mem_map.1 hs
 exact (h.2 x (List.mem_filter.1 hx).1).gd.1
end An.S
namespace An.S
open Go Go.Proofs An
instance fi33:FnI Tryz.prog 33:=⟨_,Tryz.func33,by kernel_rfl,rfl⟩
theorem df_sym {D B:Int} {a:List Fa} (h:gR D B a) {key:ByteArray} {k1 k2:Int}:dfS (vwT (toldT a key k2)) (vwT (toldT a key k1))=dfS (vwT (toldT a key k1)) (vwT (toldT a key k2)):=by
 have h1:=xh4 h h (key:=key) (k1:=k2) (k2:=k1)
 have h2:=xh4 h h (key:=key) (k1:=k1) (k2:=k2)
 exact set_same h1.1 h2.1 fun d=>by
  rw [Bool.eq_iff_iff,h1.2,h2.2];exact ⟨Ne.symm,Ne.symm⟩
theorem c_MakeL (l:List Sn) (h: ∀s∈l,okS s) (hl:l.length≤1000000):Ct Tryz.prog 32 [tL 2 true tSn l] (tT [tL 2 true tSn (mkS l),tI 0]):=by
 have h1:=c_SnMake l hl
 have h2:l.all Sn.ok=true:=List.all_eq_true.2 fun s hs=>by
  have:=h s hs
  simp only [okS] at this
  simp [Sn.ok];omega
 rw [if_pos h2,if_pos h2] at h1;exact h1
theorem c_UnionT (u v:List Sn) (hu:sVal u=true) (hv:sVal v=true):Ct Tryz.prog 33 [tL 2 true tSn u,tL 2 true tSn v] (tT [tL 2 true tSn (unS u v),tI 0]):=by
 have h1:=sVal_len hu
 have h2:=sVal_len hv
 have h:=c_Union u v (by omega) (by omega)
 rw [if_pos ⟨hu,hv⟩,if_pos ⟨hu,hv⟩] at h;exact h
theorem c_FaDiffs (m:List Nt) (k1 k2 k3:Int) (hm: ∀n∈m,ntOk n):
  Ct Tryz.prog 9 [tL 5 true tNt m,tI k1,tI k2,tI k3] (tB true):=by
 have hR:=btT_ok hm
 have hbl:=btT_len (m:=m)
 have hB:=c_Built06 m hm
 generalize btT m=a at*
 refine Ct.intro Tryz.func9 rfl Tryz.ntmps9 rfl ?_
 intro w F
 refine A8 ?_
 refine R0 (x4 c_awake06 fi10 rfl) ?_
 refine A9 ?_
 refine R1 (x4 hB fi11 rfl) rfl ?_
 refine A7 ?_
 refine R3 (x4 (c_ViewG hR kPay k1) fi12 rfl) rfl rfl rfl ?_
 refine A11 ?_
 refine R3 (x4 (c_ViewG hR kPay k2) fi12 rfl) rfl rfl rfl ?_
 refine A12 ?_
 refine RE (x4 (c_FDiffG hR kPay k1 k2) fi15 rfl) ⟨rfl,rfl,rfl,rfl,trivial⟩ trivial trivial ?_
 refine A12 ?_
 refine RE (x4 (c_FDiffG hR kPay k2 k1) fi15 rfl) ⟨rfl,rfl,rfl,rfl,trivial⟩ trivial trivial ?_
 refine A11 ?_
 refine R2 (x4 (c_TDiffV hR hR kPay k1 k2) fi28 rfl) rfl rfl ?_
 refine A18 ?_
 refine A3 ?_
 refine RGon (decide_eq_false (by omega)) rfl xa2 rfl ⟨rfl,trivial⟩ trivial trivial (RGon (decide_eq_false (by omega)) rfl xa2 rfl ⟨rfl,trivial⟩ trivial trivial (RGon (decide_eq_false (by omega)) rfl (x4 (c_sameSv _ _ rfl) fi31 rfl) rfl ⟨rfl,rfl,trivial⟩ trivial trivial (RGon (decide_eq_false (by omega)) rfl d_not rfl ⟨rfl,trivial⟩ trivial trivial (R2 (xe5 (decide_eq_false (by omega))) rfl rfl ?_))))
 refine A3 ?_
 refine RGon rfl rfl (x4 (c_sameSv _ _ (df_sym hR)) fi31 rfl) rfl ⟨rfl,rfl,trivial⟩ trivial trivial ?_
 refine A9 ?_
 refine RE (xf7 (k:=20) 72 2 true rfl (fun h=>by cases h)) trivial trivial ⟨rfl,trivial⟩ ?_
 refine A11 ?_
 refine cL (fun (fm:(Nat)×(List Sn))=>(fun (i:Nat) (xs:List Sn)=>i≤a.length∧xs=lnS kPay k1 k2 (a.take i)) fm.1 fm.2) (fun (fm:(Nat)×(List Sn))=>(fun (i:Nat) (xs:List Sn)=>upd (upd (upd (upd (upd (upd (upd (upd (upd (fun _=>none) 1 (some (.val (tI k1)))) 2 (some (.val (tI k2)))) 3 (some (.val (tI k3)))) 9 (some (.val (tL 11 true tFa a)))) 14 (some (.val (tL 2 true tSn (dfS (vwT (toldT a kPay k1)) (vwT (toldT a kPay k2))))))) 20 (some (.own (.sl 20 2 0 xs.length)))) 89 (some (.val (tL 11 true tFa a)))) 90 (some (.val (tI a.length)))) 91 (some (.val (tI i)))) fm.1 fm.2) (fun (fm:(Nat)×(List Sn))=>(fun (i:Nat) (xs:List Sn)=>upd (fun _=>none) 20 (some (⟨72,2,true,rV tSn xs⟩))) fm.1 fm.2) [20] (fun (fm:(Nat)×(List Sn))=>(fun (i:Nat) (xs:List Sn)=>a.length - i) fm.1 fm.2) ((0,[])) (by dsimp only;exact ⟨Nat.zero_le _,rfl⟩) (hh:=((SubK.consI rfl ImpK.refl) SubK.nil)) ?_
 intro fm hI
 obtain ⟨i,xs⟩:=fm
 replace hI:i≤a.length∧xs=lnS kPay k1 k2 (a.take i):=hI
 show wc _ _ _ _ (upd (upd (upd (upd (upd (upd (upd (upd (upd (fun _=>none) 1 (some (.val (tI k1)))) 2 (some (.val (tI k2)))) 3 (some (.val (tI k3)))) 9 (some (.val (tL 11 true tFa a)))) 14 (some (.val (tL 2 true tSn (dfS (vwT (toldT a kPay k1)) (vwT (toldT a kPay k2))))))) 20 (some (.own (.sl 20 2 0 xs.length)))) 89 (some (.val (tL 11 true tFa a)))) 90 (some (.val (tI a.length)))) 91 (some (.val (tI i)))) (upd (fun _=>none) 20 (some (⟨72,2,true,rV tSn xs⟩))) _
 obtain ⟨hi,hx⟩:=hI
 have hxl:xs.length≤a.length:=by
  rw [hx]
  have:=lnS_len (key:=kPay) (k1:=k1) (k2:=k2) (a:=a.take i)
  rw [List.length_take] at this;omega
 refine A6 ?_
 refine x9 rfl (fun h154=> ?_) (fun h154=> ?_)
 ·
  refine A6 ?_
  refine R2 (x6 sl24 (i) (by omega) (gD (l:=a) (n:=i) (d:=fa0) (by omega))) rfl rfl ?_
  refine A1 ?_
  refine RE (xa8 (k:=22) (n:=11) (agg:=true) zr34.1 zr34.2 rfl) trivial trivial ⟨rfl,trivial⟩ ?_
  refine A7 ?_
  refine R2 (d_eqlS) rfl rfl ?_
  refine A1 ?_
  refine RGcaseD (t:=98) rfl (fun h155=> ?_) (fun h155=> ?_)
  ·
   refine A8 ?_
   refine RGon (decide_eq_true h155) rfl (d_neqB Tryz.underlying4) rfl ⟨rfl,rfl,trivial⟩ trivial trivial ?_
   refine A3 ?_
   refine xd1 rfl (fun h155_2=> ?_) (fun h155_2=> ?_)
   ·
    refine A6 ?_
    refine R2 (xb6 (r:=tS [⟨1,false,tI (a.getD i fa0).lo⟩,⟨1,false,tI (a.getD i fa0).hi⟩]) (ts:=[(0,tI (a.getD i fa0).lo),(1,tI (a.getD i fa0).hi)]) bu72 zr72.2 (Bc 0 rfl rfl rfl (Bc 1 rfl rfl rfl Le.refl))) rfl rfl (R1 (xc7 (n:=1) (f:=tSn) [(⟨(a.getD i fa0).lo,(a.getD i fa0).hi⟩:Sn)] Tryz.underlying44 el72 zf72 rfl (fun _=>inferInstance) rfl rfl rfl) rfl (RE (xb4 (k:=20) (k':=116) (f:=tSn) (ys:=[(⟨(a.getD i fa0).lo,(a.getD i fa0).hi⟩:Sn)]) (ts':=rV tSn (xs++[(⟨(a.getD i fa0).lo,(a.getD i fa0).hi⟩:Sn)])) Tryz.underlying44 el72 zf72 rfl rfl (fun _=>inferInstance) xc1 (by simp;omega) (by simp;omega) (by simp [rV]) (n':=xs.length+1) rfl) ⟨rfl,rfl,trivial⟩ ⟨rfl,trivial⟩ ⟨rfl,trivial⟩ ?_))
    refine A8 ?_
    have hnx:=lnS_next (key:=kPay) (k1:=k1) (k2:=k2) (a:=a) (i:=i) (by omega)
    rw [if_pos (by rw [decide_eq_true h155];exact h155_2)] at hnx
    exact xf8 (l:=[20]) (fun j=>cond (Nat.beq j 20) 116 (j)) ((i+1,xs++[(⟨(a.getD i fa0).lo,(a.getD i fa0).hi⟩:Sn)])) ⟨(by dsimp only;exact ⟨by omega,by rw [hnx,hx]⟩),(by dsimp only;omega)⟩ (SubR.int rfl (by first | omega | rfl | (dsimp only;omega)) (SubR.int rfl (by first | omega | rfl | (dsimp only;omega)) (SubR.cons rfl ((SubR.consI rfl (Imp.of (by dsimp only;rw [List.length_append];rfl))) (SubR.cons rfl (SubR.cons rfl (SubR.int rfl (by first | omega | rfl | (dsimp only;omega)) (SubR.int rfl (by first | omega | rfl | (dsimp only;omega)) (SubR.int rfl (by first | omega | rfl | (dsimp only;omega)) SubR.nil))))))))) ((SubKR.consI rfl (ImpK.of xa4.symm)) SubKR.nil) (SupG.val (SupG.val (SupG.val (SupG.own rfl (SupG.val (SupG.val (SupG.val (SupG.val (SupG.val SupG.nil))))))))) (SupH.cons rfl (supJ x8) SupH.nil) (lkOk rfl) rfl rfl (fun _ h=>by cases h)
   ·
    refine A7 ?_
    have hnx:=lnS_next (key:=kPay) (k1:=k1) (k2:=k2) (a:=a) (i:=i) (by omega)
    rw [if_neg (by rw [decide_eq_true h155];intro hh;exact Bool.false_ne_true (h155_2.symm.trans hh)),List.append_nil] at hnx
    exact kF ((i+1,xs)) ⟨(by dsimp only;exact ⟨by omega,by rw [hnx,hx]⟩),(by dsimp only;omega)⟩ (hh:=((SubK.consI rfl ImpK.refl) SubK.nil))
  ·
   refine A18 ?_
   refine A2 ?_
   have hnx:=lnS_next (key:=kPay) (k1:=k1) (k2:=k2) (a:=a) (i:=i) (by omega)
   rw [if_neg (by rw [decide_eq_false h155];exact fun hh=>Bool.false_ne_true hh),List.append_nil] at hnx
   exact kF ((i+1,xs)) ⟨(by dsimp only;exact ⟨by omega,by rw [hnx,hx]⟩),(by dsimp only;omega)⟩ (hh:=((SubK.consI rfl ImpK.refl) SubK.nil))
 ·
  refine A6 ?_
  have hia:i=a.length:=by omega
  subst hia
  rw [List.take_length] at hx
  subst hx
  have hmk:=mk_any (lnS_ok hR (key:=kPay) (k1:=k1) (k2:=k2))
  have hun:=unS_spec (xh4 hR hR (key:=kPay) (k1:=k1) (k2:=k3)).1 (xh4 hR hR (key:=kPay) (k1:=k3) (k2:=k2)).1
  have hsub: ∀d,mem (dfS (vwT (toldT a kPay k1)) (vwT (toldT a kPay k2))) d=true→mem (unS (dfS (vwT (toldT a kPay k1)) (vwT (toldT a kPay k3))) (dfS (vwT (toldT a kPay k3)) (vwT (toldT a kPay k2)))) d=true:=fun d hd=>by
   rw [hun.2,Bool.or_eq_true,(xh4 hR hR (key:=kPay) (k1:=k1) (k2:=k3)).2,(xh4 hR hR (key:=kPay) (k1:=k3) (k2:=k2)).2]
   have h1:=((xh4 hR hR (key:=kPay) (k1:=k1) (k2:=k2)).2 d).1 hd
   exact Decidable.byContradiction fun hc=>h1 ((Decidable.not_not.1 fun h2=>hc (.inl h2)).trans (Decidable.not_not.1 fun h2=>hc (.inr h2)))
  refine C_give (t:=20) (k:=20) (f:=tSn) (xs:=(lnS kPay k1 k2 a)) rfl rfl (fun _ h=>h) (xg4 rfl) rfl ?_
  refine A2 ?_
  refine R1 (x4 (c_MakeL (lnS kPay k1 k2 a) (lnS_ok hR) (by have:=lnS_len (key:=kPay) (k1:=k1) (k2:=k2) (a:=a);omega)) fi32 rfl) rfl ?_
  refine A12 ?_
  refine RE (x4 (c_FDiffG hR kPay k1 k3) fi15 rfl) ⟨rfl,rfl,rfl,rfl,trivial⟩ trivial trivial ?_
  refine A12 ?_
  refine RE (x4 (c_FDiffG hR kPay k3 k2) fi15 rfl) ⟨rfl,rfl,rfl,rfl,trivial⟩ trivial trivial ?_
  refine A11 ?_
  refine R2 (x4 (c_UnionT _ _ (xh4 hR hR (key:=kPay) (k1:=k1) (k2:=k3)).1 (xh4 hR hR (key:=kPay) (k1:=k3) (k2:=k2)).1) fi33 rfl) rfl rfl ?_
  refine A18 ?_
  refine RGon (decide_eq_true (by omega)) rfl xa2 rfl ⟨rfl,trivial⟩ trivial trivial (RGon (decide_eq_true (by omega)) rfl xa2 rfl ⟨rfl,trivial⟩ trivial trivial (RGon (decide_eq_true (by omega)) rfl (x4 (c_WithinT _ _ (xh4 hR hR (key:=kPay) (k1:=k1) (k2:=k2)).1 hmk.1 (fun d hd=>by rw [hmk.2];exact ln_df hR (((xh4 hR hR (key:=kPay) (k1:=k1) (k2:=k2)).2 d).1 hd))) fi29 rfl) rfl ⟨rfl,rfl,trivial⟩ trivial trivial (R2 (xg0 (decide_eq_true (by omega))) rfl rfl ?_)))
  refine A3 ?_
  refine RGon rfl rfl (x4 (c_WithinT _ _ (xh4 hR hR (key:=kPay) (k1:=k1) (k2:=k2)).1 hun.1 hsub) fi29 rfl) rfl ⟨rfl,rfl,trivial⟩ trivial trivial ?_
  refine A5 ?_
  exact x3 Plain.mk' rfl rfl Le.refl
end An.S
