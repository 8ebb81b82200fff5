/- Part 5 of a proof: F11. -/
import Derived.Test.YtdilcbnmhgjheaaGreatDoorO4
set_option maxHeartbeats 4000000
set_option maxRecDepth 100000
namespace An.S
open Go Go.Proofs An
theorem gR.perm {D B:Int} {a b:List Fa} (h:gR D B a) (hl:b.length=a.length) (hm: ∀f∈b,f∈a):gR D B b:=⟨by rw [hl];exact h.1,fun f hf=>h.2 f (hm f hf)⟩
def dsA (ys:List Fa):Nat→Bool
 | 0=>true
 | i+1=>dsA ys i && (decide (i=0) || decide ((ys.getD i fa0).kn≠(ys.getD (i - 1) fa0).kn))
theorem dsA_at {ys:List Fa}: ∀{n i:Nat},dsA ys n=true→0 < i→i < n→(ys.getD i fa0).kn≠(ys.getD (i - 1) fa0).kn
 | n+1,i,h,h0,hi=>by
  rw [dsA,Bool.and_eq_true,Bool.or_eq_true,decide_eq_true_eq,decide_eq_true_eq] at h
  rcases Nat.lt_or_ge i n with h1 | h1
  ·exact dsA_at h.1 h0 h1
  ·have e:i=n:=by omega
   subst e
   exact h.2.resolve_left (by omega)
theorem ds_lt {ys:List Fa} (hs:SrtP Fa.kn fa0 0 ys.length ys) (hd:dsA ys ys.length=true) {i j:Nat} (hij:i < j) (hj:j < ys.length):(ys.getD i fa0).kn < (ys.getD j fa0).kn:=by
 have h1:=hs (j - 1) j (by omega) (by omega) hj
 have h2:=dsA_at hd (i:=j) (by omega) hj
 rcases Nat.lt_or_ge i (j - 1) with h3 | h3
 ·have h4:=hs i (j - 1) (by omega) h3 (by omega)
  omega
 ·rw [show i=j - 1 by omega];omega
theorem filt_one {ys:List Fa} {v:Int} (h:ys.Pairwise fun x y=>x.kn < y.kn):(ys.filter fun x=>decide (x.kn=v)).length≤1:=by
 have h2:=h.sublist (List.filter_sublist (p:=fun x:Fa=>decide (x.kn=v)))
 match hx:ys.filter fun x=>decide (x.kn=v) with
 | []=>rw [hx];exact Nat.zero_le _
 | [x]=>rw [hx];exact Nat.le_refl _
 | x::y::r=>
  rw [hx] at h2
  have hk:=(List.pairwise_cons.1 h2).1 y (List.mem_cons_self ..)
  have hxm:x∈ys.filter fun x=>decide (x.kn=v):=by rw [hx];exact List.mem_cons_self ..
  have hym:y∈ys.filter fun x=>decide (x.kn=v):=by rw [hx];exact List.mem_cons_of_mem _ (List.mem_cons_self ..)
  have e1:=of_decide_eq_true (List.mem_filter.1 hxm).2
  have e2:=of_decide_eq_true (List.mem_filter.1 hym).2
  omega
theorem sbl_rev {a S:List Fa} (hS:S=ssort Fa.kn a) (hd:dsA S S.length=true):Sbl Fa.kn a.reverse a:=by
 have hp:S.Pairwise fun x y=>x.kn < y.kn:=by
  rw [List.pairwise_iff_getElem]
  intro i j hi hj hij
  have:=ds_lt (ys:=S) (fun i j _ h1 h2=>by
   have h3:=List.pairwise_iff_getElem.1 (hS▸xo7 (k:=Fa.kn) a:Srt Fa.kn S) i j (by omega) h2 h1
   rw [List.getD_eq_getElem?_getD,List.getD_eq_getElem?_getD,List.getElem?_eq_getElem (by omega),List.getElem?_eq_getElem h2];exact h3) hd hij hj
  rw [List.getD_eq_getElem?_getD,List.getD_eq_getElem?_getD,List.getElem?_eq_getElem hi,List.getElem?_eq_getElem hj] at this;exact this
 intro v
 have h1:=xi8 (k:=Fa.kn) a v
 rw [←hS] at h1
 have h2:=filt_one (v:=v) hp
 rw [←h1] at h2
 rw [List.filter_reverse]
 match hx:a.filter fun x=>decide (x.kn=v) with
 | []=>rw [hx];rfl
 | [x]=>rw [hx];rfl
 | x::y::r=>rw [hx] at h2;simp at h2
theorem rev_next {a:List Fa} {i:Nat} (hi:i < a.length):a.reverse.take (i+1)=a.reverse.take i++[a.getD (a.length - 1 - i) fa0]:=by
 rw [List.take_succ_eq_append_getElem (by simpa using hi),List.getElem_reverse,List.getD_eq_getElem?_getD,List.getElem?_eq_getElem (by omega)];rfl
theorem c_FaOrder (m:List Nt) (known:Int) (hm: ∀n∈m,ntOk n):
  Ct Tryz.prog 3 [tL 5 true tNt m,tI known] (tB true):=by
 have hR:=btT_ok hm
 have hbl:=btT_len (m:=m)
 have hB:=c_Built06 m hm
 have hk2:kys.length=2:=rfl
 generalize btT m=a at*
 refine Ct.intro Tryz.func3 rfl Tryz.ntmps3 rfl ?_
 intro w F
 refine A8 ?_
 refine R0 (x4 c_awake06 fi10 rfl) ?_
 refine A9 ?_
 refine R1 (x4 hB fi11 rfl) rfl ?_
 refine A5 ?_
 refine RE (d_empty (k:=24) Tryz.underlying24 el34 rfl (fun h=>by cases h)) trivial trivial ⟨rfl,trivial⟩ ?_
 refine A1 ?_
 refine RE (xa9 (k:=24) (k':=26) (f:=tFa) (ys:=a) (ts':=rV tFa a) Tryz.underlying24 el34 zf34 rfl rfl (fun _=>inferInstance) rfl (by simp;omega) (by simp;omega) (by simp [rV]) (n':=a.length) (by simp)) ⟨rfl,rfl,trivial⟩ ⟨rfl,trivial⟩ ⟨rfl,trivial⟩ ?_
 refine A12 ?_
 refine cL (fun (fm:(List Fa)×(Nat))=>(fun (ys:List Fa) (i:Nat)=>ys.length=a.length∧i≤a.length∧Prt Fa.kn fa0 0 a.length a ys∧SrtP Fa.kn fa0 0 i ys) fm.1 fm.2) (fun (fm:(List Fa)×(Nat))=>(fun (ys:List Fa) (i:Nat)=>upd (upd (upd (upd (upd (fun _=>none) 1 (some (.val (tI known)))) 5 (some (.val (tL 11 true tFa a)))) 6 (some (.own (.sl 26 11 0 a.length)))) 28 (some (.val (tI a.length)))) 29 (some (.val (tI i)))) fm.1 fm.2) (fun (fm:(List Fa)×(Nat))=>(fun (ys:List Fa) (i:Nat)=>upd (fun _=>none) 26 (some (⟨34,11,true,rV tFa ys⟩))) fm.1 fm.2) [26] (fun (fm:(List Fa)×(Nat))=>(fun (ys:List Fa) (i:Nat)=>a.length - i) fm.1 fm.2) ((a,0)) (by dsimp only;exact ⟨rfl,Nat.zero_le _,Prt.refl ..,fun i j g1 g2 g3=>by omega⟩) (hh:=((SubK.consI rfl ImpK.refl) SubK.nil)) ?_
 intro fm hI
 obtain ⟨ys,i⟩:=fm
 replace hI:ys.length=a.length∧i≤a.length∧Prt Fa.kn fa0 0 a.length a ys∧SrtP Fa.kn fa0 0 i ys:=hI
 show wc _ _ _ _ (upd (upd (upd (upd (upd (fun _=>none) 1 (some (.val (tI known)))) 5 (some (.val (tL 11 true tFa a)))) 6 (some (.own (.sl 26 11 0 a.length)))) 28 (some (.val (tI a.length)))) 29 (some (.val (tI i)))) (upd (fun _=>none) 26 (some (⟨34,11,true,rV tFa ys⟩))) _
 obtain ⟨hl,hi,hp,hs⟩:=hI
 refine A6 ?_
 refine x9 rfl (fun h117=> ?_) (fun h117=> ?_)
 ·
  refine A17 ?_
  refine cL (fun (fm:(List Fa)×(Nat))=>(fun (zs:List Fa) (j:Nat)=>zs.length=a.length∧j≤i∧Prt Fa.kn fa0 0 a.length a zs∧InsP Fa.kn fa0 0 i j zs) fm.1 fm.2) (fun (fm:(List Fa)×(Nat))=>(fun (zs:List Fa) (j:Nat)=>upd (upd (upd (upd (upd (upd (fun _=>none) 1 (some (.val (tI known)))) 5 (some (.val (tL 11 true tFa a)))) 6 (some (.own (.sl 26 11 0 a.length)))) 8 (some (.val (tI j)))) 28 (some (.val (tI a.length)))) 29 (some (.val (tI i)))) fm.1 fm.2) (fun (fm:(List Fa)×(Nat))=>(fun (zs:List Fa) (j:Nat)=>upd (fun _=>none) 26 (some (⟨34,11,true,rV tFa zs⟩))) fm.1 fm.2) [26] (fun (fm:(List Fa)×(Nat))=>(fun (zs:List Fa) (j:Nat)=>j) fm.1 fm.2) ((ys,i)) (by dsimp only;exact ⟨hl,Nat.le_refl _,hp,ins_begin hs⟩) (hh:=((SubK.consI rfl ImpK.refl) SubK.nil)) ?_
  intro fm hI
  obtain ⟨zs,j⟩:=fm
  replace hI:zs.length=a.length∧j≤i∧Prt Fa.kn fa0 0 a.length a zs∧InsP Fa.kn fa0 0 i j zs:=hI
  show wc _ _ _ _ (upd (upd (upd (upd (upd (upd (fun _=>none) 1 (some (.val (tI known)))) 5 (some (.val (tL 11 true tFa a)))) 6 (some (.own (.sl 26 11 0 a.length)))) 8 (some (.val (tI j)))) 28 (some (.val (tI a.length)))) 29 (some (.val (tI i)))) (upd (fun _=>none) 26 (some (⟨34,11,true,rV tFa zs⟩))) _
  obtain ⟨hzl,hji,hzp,hzi⟩:=hI
  refine A6 ?_
  refine RGcaseD (t:=35) rfl (fun h118=> ?_) (fun h118=> ?_)
  ·
   refine A2 ?_
   refine RGon (decide_eq_true h118) rfl (xa0 sl24 (by omega) (by omega) rfl) rfl ⟨rfl,rfl,trivial⟩ trivial trivial ?_
   refine A1 ?_
   refine RGon (decide_eq_true h118) rfl (xh1 (es:=11) (o:=3) (j) ti3 (xb2 (f:=tFa) (xs:=zs) (d:=fa0) (by omega)) (At.g 3 rfl rfl) (by omega)) rfl ⟨rfl,trivial⟩ ⟨rfl,trivial⟩ trivial ?_
   refine A2 ?_
   refine RGon (decide_eq_true h118) rfl (xe6 (wr64 (by omega) (by omega))) rfl ⟨rfl,rfl,trivial⟩ trivial trivial (RGon (decide_eq_true h118) rfl (xa0 sl24 (by omega) (by omega) rfl) rfl ⟨rfl,rfl,trivial⟩ trivial trivial ?_)
   refine A1 ?_
   refine RGon (decide_eq_true h118) rfl (xh1 (es:=11) (o:=3) (j - 1) ti3 (xb2 (f:=tFa) (xs:=zs) (d:=fa0) (by omega)) (At.g 3 rfl rfl) (by omega)) rfl ⟨rfl,trivial⟩ ⟨rfl,trivial⟩ trivial ?_
   refine A4 ?_
   refine x9 rfl (fun h118_2=> ?_) (fun h118_2=> ?_)
   ·
    refine A13 ?_
    refine R2 (xa0 sl24 (by omega) (by omega) rfl) rfl rfl (RE (xa8 (j - 1) ti34 (xb2 (f:=tFa) (xs:=zs) (d:=fa0) (by omega)) (by omega)) ⟨rfl,trivial⟩ ⟨rfl,trivial⟩ trivial ?_)
    refine A2 ?_
    refine R2 (xa0 sl24 (by omega) (by omega) rfl) rfl rfl (RE (xa8 (j) ti34 (xb2 (f:=tFa) (xs:=zs) (d:=fa0) (by omega)) (by omega)) ⟨rfl,trivial⟩ ⟨rfl,trivial⟩ trivial (R2 (xa0 sl24 (by omega) (by omega) rfl) rfl rfl (RE (xb3 (j) ti34 (rV_lt (by omega)) (by omega) (xg4 (m:=(zs.getD (j - 1) fa0)) rfl)) ⟨rfl,rfl,trivial⟩ ⟨rfl,trivial⟩ trivial (R2 (xa0 sl24 (by omega) (by omega) rfl) rfl rfl (RE (xb3 (j - 1) ti34 (rV_lt (by rw [List.length_set];omega)) (by omega) (xg4 (m:=(zs.getD j fa0)) rfl)) ⟨rfl,rfl,trivial⟩ ⟨rfl,trivial⟩ trivial ?_)))))
    refine A8 ?_
    obtain ⟨q,rfl⟩: ∃q,j=q+1:=⟨j - 1,by omega⟩
    rw [show q+1 - 1=q by omega] at*
    have e1:((zs.set (q+1) (zs.getD q fa0)).set q (zs.getD (q+1) fa0))=swp1 fa0 q zs:=by rw [swp1,List.set_comm _ _ (by omega)]
    exact kF ((swp1 fa0 q zs,q)) ⟨(by dsimp only;exact ⟨by rw [swp1_len,hzl],by omega,hzp.trans (swp1_prt (by omega) (by omega) (by omega) (by omega)),ins_step hzi (by omega) (by omega) (by omega) (by omega)⟩),(by dsimp only;omega)⟩ (hg:=(sI (sI ((Sub.consI rfl (Imp.int (by dsimp only;omega))) (sC (sC (sI Sub.nil))))))) (hh:=((SubK.consI rfl (ImpK.of (by rw [e1]))) SubK.nil))
   ·
    refine A10 ?_
    exact kF ((zs,i+1)) ⟨(by dsimp only;exact ⟨hzl,by omega,hzp,ins_end hzi (by omega) (fun hh=>by omega)⟩),(by dsimp only;omega)⟩ (hh:=((SubK.consI rfl ImpK.refl) SubK.nil))
  ·
   refine A18 ?_
   refine A8 ?_
   exact kF ((zs,i+1)) ⟨(by dsimp only;exact ⟨hzl,by omega,hzp,ins_end hzi (by omega) (fun hh=>by omega)⟩),(by dsimp only;omega)⟩ (hh:=((SubK.consI rfl ImpK.refl) SubK.nil))
 ·
  refine A6 ?_
  have hia:i=a.length:=by omega
  subst hia
  have hys:ys=(ssort Fa.kn a):=by rw [xn8 (Nat.zero_le _) (Nat.le_refl _) hp hs,srtR_all]
  subst hys
  have hsl:=xi9 (k:=Fa.kn) a
  have hRS:gR 84 fB (ssort Fa.kn a):=hR.perm hsl (fun f hf=>ssort_mem.1 hf)
  have hRr:gR 84 fB a.reverse:=hR.perm List.length_reverse (fun f hf=>List.mem_reverse.1 hf)
  refine A6 ?_
  refine RE (xe9 (k:=10) 34 11 true rfl (fun h=>by cases h)) trivial trivial ⟨rfl,trivial⟩ ?_
  refine A11 ?_
  refine cL (fun (fm:(Nat)×(List Fa)×(Bool))=>(fun (i:Nat) (xs:List Fa) (b:Bool)=>i≤a.length∧xs=a.reverse.take i∧b=dsA (ssort Fa.kn a) i) fm.1 fm.2.1 fm.2.2) (fun (fm:(Nat)×(List Fa)×(Bool))=>(fun (i:Nat) (xs:List Fa) (b:Bool)=>upd (upd (upd (upd (upd (upd (upd (fun _=>none) 1 (some (.val (tI known)))) 5 (some (.val (tL 11 true tFa a)))) 6 (some (.own (.sl 26 11 0 a.length)))) 9 (some (.val (tB b)))) 10 (some (.own (.sl 10 11 0 xs.length)))) 69 (some (.val (tI a.length)))) 70 (some (.val (tI i)))) fm.1 fm.2.1 fm.2.2) (fun (fm:(Nat)×(List Fa)×(Bool))=>(fun (i:Nat) (xs:List Fa) (b:Bool)=>upd (upd (fun _=>none) 26 (some (⟨34,11,true,rV tFa (ssort Fa.kn a)⟩))) 10 (some (⟨34,11,true,rV tFa xs⟩))) fm.1 fm.2.1 fm.2.2) [26,10] (fun (fm:(Nat)×(List Fa)×(Bool))=>(fun (i:Nat) (xs:List Fa) (b:Bool)=>a.length - i) fm.1 fm.2.1 fm.2.2) ((0,[],true)) (by dsimp only;exact ⟨Nat.zero_le _,rfl,rfl⟩) (hh:=((SubK.consI rfl ImpK.refl) ((SubK.consI rfl ImpK.refl) SubK.nil))) ?_
  intro fm hI
  obtain ⟨i,xs,b⟩:=fm
  replace hI:i≤a.length∧xs=a.reverse.take i∧b=dsA (ssort Fa.kn a) i:=hI
  show wc _ _ _ _ (upd (upd (upd (upd (upd (upd (upd (fun _=>none) 1 (some (.val (tI known)))) 5 (some (.val (tL 11 true tFa a)))) 6 (some (.own (.sl 26 11 0 a.length)))) 9 (some (.val (tB b)))) 10 (some (.own (.sl 10 11 0 xs.length)))) 69 (some (.val (tI a.length)))) 70 (some (.val (tI i)))) (upd (upd (fun _=>none) 26 (some (⟨34,11,true,rV tFa (ssort Fa.kn a)⟩))) 10 (some (⟨34,11,true,rV tFa xs⟩))) _
  obtain ⟨hi,hx,hd⟩:=hI
  have hxl:xs.length=i:=by rw [hx,List.length_take,List.length_reverse];omega
  refine A6 ?_
  refine x9 rfl (fun h124=> ?_) (fun h124=> ?_)
  ·
   refine A14 ?_
   refine RGcase (t:=74) rfl (fun h125=> ?_) (fun h125=> ?_)
   ·
    refine A3 ?_
    refine RGcaseD (t:=77) rfl (fun h125_2=> ?_) (fun h125_2=> ?_)
    ·
     refine A12 ?_
     refine RGon h125 rfl (xj5 (decide_eq_true h125_2)) rfl ⟨rfl,rfl,trivial⟩ trivial trivial ?_
     refine A12 ?_
     refine R2 (x7 sl24 (a.length - 1 - i) (by omega) (gD (l:=a) (n:=a.length - 1 - i) (d:=fa0) (by omega))) rfl rfl ?_
     refine A1 ?_
     refine R1 (xc0 (n:=1) (f:=tFa) [(a.getD (a.length - 1 - i) fa0)] Tryz.underlying24 el34 zf34 rfl (fun _=>inferInstance) rfl rfl rfl) rfl (RE (xa9 (k:=10) (k':=102) (f:=tFa) (ys:=[(a.getD (a.length - 1 - i) fa0)]) (ts':=rV tFa (xs++[(a.getD (a.length - 1 - i) fa0)])) Tryz.underlying24 el34 zf34 rfl rfl (fun _=>inferInstance) xb6 (by simp;omega) (by simp;omega) (by simp [rV]) (n':=xs.length+1) rfl) ⟨rfl,rfl,trivial⟩ ⟨rfl,trivial⟩ ⟨rfl,trivial⟩ ?_)
     refine A8 ?_
     have hnx:=rev_next (a:=a) (i:=i) (by omega)
     exact xe0 (l:=[26,10]) (fun j=>cond (Nat.beq j 10) 102 (j)) ((i+1,xs++[(a.getD (a.length - 1 - i) fa0)],true)) ⟨(by dsimp only;exact ⟨by omega,by rw [hnx,hx],by rw [dsA,←hd];simp_all⟩),(by dsimp only;omega)⟩ (SubR.int rfl (by first | omega | rfl | (dsimp only;omega)) (SubR.int rfl (by first | omega | rfl | (dsimp only;omega)) ((SubR.consI rfl (Imp.of (by dsimp only;rw [List.length_append];rfl))) (SubR.cons rfl (SubR.cons rfl (SubR.cons rfl (SubR.int rfl (by first | omega | rfl | (dsimp only;omega)) SubR.nil))))))) ((SubKR.consI rfl (ImpK.of xa3.symm)) ((SubKR.consI rfl (ImpK.of xa3.symm)) SubKR.nil)) (SupG.val (SupG.val (SupG.own rfl (SupG.val (SupG.own rfl (SupG.val (SupG.val SupG.nil))))))) (SupH.cons rfl (supJ x8) (SupH.cons rfl (supJ x8) SupH.nil)) (lkOk rfl) rfl rfl (fun _ h=>by cases h)
    ·
     refine A2 ?_
     refine RGon (decide_eq_false h125_2) rfl (xa0 sl24 (by omega) (by omega) rfl) rfl ⟨rfl,rfl,trivial⟩ trivial trivial ?_
     refine A1 ?_
     refine RGon (decide_eq_false h125_2) rfl (xh1 (es:=11) (o:=3) (i) ti3 (xb2 (f:=tFa) (xs:=(ssort Fa.kn a)) (d:=fa0) (by omega)) (At.g 3 rfl rfl) (by omega)) rfl ⟨rfl,trivial⟩ ⟨rfl,trivial⟩ trivial ?_
     refine A2 ?_
     refine RGon (decide_eq_false h125_2) rfl (xe6 (wr64 (by omega) (by omega))) rfl ⟨rfl,rfl,trivial⟩ trivial trivial (RGon (decide_eq_false h125_2) rfl (xa0 sl24 (by omega) (by omega) rfl) rfl ⟨rfl,rfl,trivial⟩ trivial trivial ?_)
     refine A1 ?_
     refine RGon (decide_eq_false h125_2) rfl (xh1 (es:=11) (o:=3) (i - 1) ti3 (xb2 (f:=tFa) (xs:=(ssort Fa.kn a)) (d:=fa0) (by omega)) (At.g 3 rfl rfl) (by omega)) rfl ⟨rfl,trivial⟩ ⟨rfl,trivial⟩ trivial ?_
     refine A1 ?_
     refine RGon h125 rfl (xf6 (decide_eq_false h125_2)) rfl ⟨rfl,rfl,trivial⟩ trivial trivial ?_
     refine A12 ?_
     refine R2 (x7 sl24 (a.length - 1 - i) (by omega) (gD (l:=a) (n:=a.length - 1 - i) (d:=fa0) (by omega))) rfl rfl ?_
     refine A1 ?_
     refine R1 (xc0 (n:=1) (f:=tFa) [(a.getD (a.length - 1 - i) fa0)] Tryz.underlying24 el34 zf34 rfl (fun _=>inferInstance) rfl rfl rfl) rfl (RE (xa9 (k:=10) (k':=102) (f:=tFa) (ys:=[(a.getD (a.length - 1 - i) fa0)]) (ts':=rV tFa (xs++[(a.getD (a.length - 1 - i) fa0)])) Tryz.underlying24 el34 zf34 rfl rfl (fun _=>inferInstance) xb6 (by simp;omega) (by simp;omega) (by simp [rV]) (n':=xs.length+1) rfl) ⟨rfl,rfl,trivial⟩ ⟨rfl,trivial⟩ ⟨rfl,trivial⟩ ?_)
     refine A8 ?_
     have hnx:=rev_next (a:=a) (i:=i) (by omega)
     exact xe0 (l:=[26,10]) (fun j=>cond (Nat.beq j 10) 102 (j)) ((i+1,xs++[(a.getD (a.length - 1 - i) fa0)],decide (((ssort Fa.kn a).getD i fa0).kn≠((ssort Fa.kn a).getD (i - 1) fa0).kn))) ⟨(by dsimp only;exact ⟨by omega,by rw [hnx,hx],by rw [dsA,←hd];simp_all⟩),(by dsimp only;omega)⟩ (SubR.int rfl (by first | omega | rfl | (dsimp only;omega)) (SubR.int rfl (by first | omega | rfl | (dsimp only;omega)) ((SubR.consI rfl (Imp.of (by dsimp only;rw [List.length_append];rfl))) (SubR.cons rfl (SubR.cons rfl (SubR.cons rfl (SubR.int rfl (by first | omega | rfl | (dsimp only;omega)) SubR.nil))))))) ((SubKR.consI rfl (ImpK.of xa3.symm)) ((SubKR.consI rfl (ImpK.of xa3.symm)) SubKR.nil)) (SupG.val (SupG.val (SupG.own rfl (SupG.val (SupG.own rfl (SupG.val (SupG.val SupG.nil))))))) (SupH.cons rfl (supJ x8) (SupH.cons rfl (supJ x8) SupH.nil)) (lkOk rfl) rfl rfl (fun _ h=>by cases h)
   ·
    refine A18 ?_
    refine A10 ?_
    refine R2 (x7 sl24 (a.length - 1 - i) (by omega) (gD (l:=a) (n:=a.length - 1 - i) (d:=fa0) (by omega))) rfl rfl ?_
    refine A1 ?_
    refine R1 (xc0 (n:=1) (f:=tFa) [(a.getD (a.length - 1 - i) fa0)] Tryz.underlying24 el34 zf34 rfl (fun _=>inferInstance) rfl rfl rfl) rfl (RE (xa9 (k:=10) (k':=102) (f:=tFa) (ys:=[(a.getD (a.length - 1 - i) fa0)]) (ts':=rV tFa (xs++[(a.getD (a.length - 1 - i) fa0)])) Tryz.underlying24 el34 zf34 rfl rfl (fun _=>inferInstance) xb6 (by simp;omega) (by simp;omega) (by simp [rV]) (n':=xs.length+1) rfl) ⟨rfl,rfl,trivial⟩ ⟨rfl,trivial⟩ ⟨rfl,trivial⟩ ?_)
    refine A8 ?_
    have hnx:=rev_next (a:=a) (i:=i) (by omega)
    exact xe0 (l:=[26,10]) (fun j=>cond (Nat.beq j 10) 102 (j)) ((i+1,xs++[(a.getD (a.length - 1 - i) fa0)],false)) ⟨(by dsimp only;exact ⟨by omega,by rw [hnx,hx],by rw [dsA,←hd];simp_all⟩),(by dsimp only;omega)⟩ (SubR.int rfl (by first | omega | rfl | (dsimp only;omega)) (SubR.int rfl (by first | omega | rfl | (dsimp only;omega)) ((SubR.consI rfl (Imp.of (by dsimp only;rw [List.length_append];rfl))) (SubR.cons rfl (SubR.cons rfl (SubR.cons rfl (SubR.int rfl (by first | omega | rfl | (dsimp only;omega)) SubR.nil))))))) ((SubKR.consI rfl (ImpK.of xa3.symm)) ((SubKR.consI rfl (ImpK.of xa3.symm)) SubKR.nil)) (SupG.val (SupG.val (SupG.own rfl (SupG.val (SupG.own rfl (SupG.val (SupG.val SupG.nil))))))) (SupH.cons rfl (supJ x8) (SupH.cons rfl (supJ x8) SupH.nil)) (lkOk rfl) rfl rfl (fun _ h=>by cases h)
  ·
   refine A7 ?_
   have hia:i=a.length:=by omega
   subst hia
   have hxa:xs=a.reverse:=by rw [hx,List.take_of_length_le (by rw [List.length_reverse];omega)]
   subst hxa
   subst hd
   refine C_give (t:=6) (k:=26) (f:=tFa) (xs:=(ssort Fa.kn a)) rfl rfl (fun _ h=>h) (xf3 hsl) hsl (C_give (t:=10) (k:=10) (f:=tFa) (xs:=a.reverse) rfl rfl (fun _ h=>h) (xf3 rfl) rfl ?_)
   refine A1 ?_
   refine R2 (xc0 (n:=2) (f:=fun s:ByteArray=>tSt s) kys Tryz.underlying35 el9 zf9 rfl (fun _=>inferInstance) rfl rfl rfl) rfl rfl ?_
   refine A5 ?_
   refine cL (fun (i:Nat)=>i≤2) (fun (i:Nat)=>upd (upd (upd (upd (upd (upd (upd (upd (fun _=>none) 1 (some (.val (tI known)))) 5 (some (.val (tL 11 true tFa a)))) 6 (some (.val (tL 11 true tFa (ssort Fa.kn a))))) 9 (some (.val (tB (dsA (ssort Fa.kn a) a.length))))) 10 (some (.val (tL 11 true tFa a.reverse)))) 104 (some (.val (tL 1 false (fun s:ByteArray=>tSt s) kys)))) 105 (some (.val (tI 2)))) 106 (some (.val (tI i)))) (fun (i:Nat)=>fun _=>none) [] (fun (i:Nat)=>2 - i) (0) (Nat.zero_le _) ?_
   intro i hI2
   refine A6 ?_
   refine x9 rfl (fun h128=> ?_) (fun h128=> ?_)
   ·
    refine A6 ?_
    refine R2 (x7 sl35 (i) (by omega) (gD (l:=kys) (n:=i) (d:=kPay) (by omega))) rfl rfl ?_
    refine A9 ?_
    refine R3 (x4 (c_ViewG hR (kys.getD i kPay) known) fi12 rfl) rfl rfl rfl ?_
    refine A12 ?_
    refine R3 (x4 (c_ViewG hRS (kys.getD i kPay) known) fi12 rfl) rfl rfl rfl ?_
    refine A12 ?_
    refine R3 (x4 (c_ViewG hRr (kys.getD i kPay) known) fi12 rfl) rfl rfl rfl ?_
    refine A16 ?_
    refine RGon (decide_eq_false (by omega)) rfl xb4 rfl ⟨rfl,trivial⟩ trivial trivial (RGon (decide_eq_false (by omega)) rfl xb4 rfl ⟨rfl,trivial⟩ trivial trivial (RGon (decide_eq_false (by omega)) rfl (x4 (c_sameTv _ _ (by rw [told_congr (xi8 a)])) fi13 rfl) rfl ⟨rfl,rfl,trivial⟩ trivial trivial (RGon (decide_eq_false (by omega)) rfl d_not rfl ⟨rfl,trivial⟩ trivial trivial (R2 (xf6 (decide_eq_false (by omega))) rfl rfl ?_))))
    refine A3 ?_
    refine RGcase (t:=145) rfl (fun h132_2=> ?_) (fun h132_2=> ?_)
    ·
     refine A2 ?_
     refine RGon h132_2 rfl (x4 (c_sameTv _ _ (by rw [told_congr (sbl_rev rfl (by rw [hsl];exact h132_2))])) fi13 rfl) rfl ⟨rfl,rfl,trivial⟩ trivial trivial ?_
     refine A1 ?_
     refine RGon rfl rfl (xj5 h132_2) rfl ⟨rfl,rfl,trivial⟩ trivial trivial ?_
     refine A11 ?_
     exact kF (i+1) ⟨(by omega),(by omega)⟩
    ·
     refine A4 ?_
     refine RGon rfl rfl (xf6 h132_2) rfl ⟨rfl,rfl,trivial⟩ trivial trivial ?_
     refine A11 ?_
     exact kF (i+1) ⟨(by omega),(by omega)⟩
   ·
    refine A11 ?_
    exact x3 Plain.mk' rfl rfl Le.refl
end An.S
