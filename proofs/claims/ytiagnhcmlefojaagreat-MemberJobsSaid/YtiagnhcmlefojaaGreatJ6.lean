/- Part 6 of a proof: E15. -/
import Derived.Test.YtiagnhcmlefojaaGreatJ5
set_option maxHeartbeats 4000000
set_option maxRecDepth 100000
namespace An.S
open Go Go.Proofs An
instance fi28:FnI Tryz.prog 28:=⟨_,Tryz.func28,by kernel_rfl,rfl⟩
theorem zr65:(Tryz.prog.info? 65).bind (·.zero)=some (.agg #[.slice none 0 0,.slice none 0 0,.slice none 0 0,.slice none 0 0])∧ ∀F w,(tS [⟨1,false,(tE (.slice none 0 0))⟩,⟨1,false,(tE (.slice none 0 0))⟩,⟨1,false,(tE (.slice none 0 0))⟩,⟨1,false,(tE (.slice none 0 0))⟩]).p F w (.agg #[.slice none 0 0,.slice none 0 0,.slice none 0 0,.slice none 0 0]):=⟨by kernel_rfl,fun _ _=>⟨_,rfl,rfl,⟨fun _=>rfl,rfl⟩,⟨fun _=>rfl,rfl⟩,⟨fun _=>rfl,rfl⟩,⟨fun _=>rfl,rfl⟩,trivial⟩⟩
theorem ar65:ArI Tryz.prog 65 24 4 1 false:=⟨by kernel_rfl,ti24⟩
section
variable {D B:Int} {l:List Ev}
theorem kfr01:kfr 0 1=((0:Int):Rat):=by decide+kernel
theorem xq9 {i:Nat} (hi:i < l.length):jbL (l.take (i+1))=jbL (l.take i)++if (l.getD i ev0).knd≠7 then [l.getD i ev0] else []:=by
 rw [jbL,List.take_succ_eq_append_getElem hi,List.filter_append,List.getD_eq_getElem?_getD,List.getElem?_eq_getElem hi,jbL,List.filter_cons,List.filter_nil]
 simp only [Option.getD_some,decide_eq_true_eq]
theorem xd5 {i:Nat} {j:Int} (hi:i < l.length):jbJ (l.take (i+1)) j=jbJ (l.take i) j++if (l.getD i ev0).knd≠7∧(l.getD i ev0).job=j then [l.getD i ev0] else []:=by
 rw [jbJ,xq9 hi,List.filter_append,←jbJ]
 congr 1
 by_cases h1:(l.getD i ev0).knd≠7
 ·rw [if_pos h1,List.filter_cons,List.filter_nil]
  by_cases h2:(l.getD i ev0).job=j
  ·rw [if_pos (decide_eq_true h2),if_pos ⟨h1,h2⟩]
  ·rw [if_neg (fun hh=>h2 (of_decide_eq_true hh)),if_neg (fun hh=>h2 hh.2)]
 ·rw [if_neg h1,if_neg (fun hh=>h1 hh.1),List.filter_nil]
theorem jbL_len:(jbL l).length≤l.length:=List.length_filter_le ..
theorem jbJ_len {j:Int}:(jbJ l j).length≤l.length:=Nat.le_trans (List.length_filter_le ..) jbL_len
theorem jbL_sub: ∀e∈jbL l,e∈l∧e.knd≠7:=fun e he=>⟨(List.mem_filter.1 he).1,of_decide_eq_true (List.mem_filter.1 he).2⟩
theorem jbJ_sub {j:Int}: ∀e∈jbJ l j,e∈l∧e.knd≠7:=fun e he=>jbL_sub e (List.mem_filter.1 he).1
theorem gr_jbL (h:GR D B l):GR D B (jbL l):=h.sub jbL_sub (Nat.le_trans jbL_len h.len)
theorem gr_jbJ (h:GR D B l) (j:Int):GR D B (jbJ l j):=h.sub jbJ_sub (Nat.le_trans jbJ_len h.len)
theorem jb_inf (h:GR D B l) (j k:Int):inf (jbJ l j) k=(inf (jbL l) k).filter fun e=>decide (e.job=j):=by
 rw [inf_free (gr_jbJ h j).ok (fun e he=>(jbJ_sub e he).2),inf_free (gr_jbL h).ok (fun e he=>(jbL_sub e he).2),jbJ,List.filter_filter,List.filter_filter]
 exact List.filter_congr fun e _=>Bool.and_comm ..
theorem jb_val (h:GR D B l) {j:Nat} (h1:1≤j) (h3:j≤3) (k:Int) {d:Int} (hd:d < 65536):valT (mT 2 (inf (jbJ l (j:Int)) k)) d=(hireE (inf (jbL l) k) (j:Int) d).map fun _=>(⟨3,fr (addJ payE (inf (jbL l) k) d j),0⟩:Va):=by
 rw [mT_val 2 (xp8 (gr_jbJ h _).ok),if_pos hd]
 show (payQ _ _).map _=_
 rw [jb_inf h,job_payQ h1 h3]
 cases hireE (inf (jbL l) k) (j:Int) d <;> rfl
theorem jb_all (h:GR D B l) (k:Int) {d:Int} (hd:d < 65536):valT (mT 2 (inf (jbL l) k)) d=if heldQ (inf (jbL l) k) d 8=true then some ⟨3,fr (sumQ payE (inf (jbL l) k) d 8),0⟩ else none:=by
 rw [mT_val 2 (xp8 (gr_jbL h).ok),if_pos hd]
 show (payQ _ _).map _=_
 rw [payQ]
 split <;> rfl
theorem jb_none (hp:btP l) (k d:Int) {i:Nat} (hi:4≤i):hireE (inf (jbL l) k) (i:Int) d=none:=by
 have e:lastE (pHire (i:Int) d) (inf (jbL l) k)=none:=(xj7 _ _).1.2 fun e he=>by
  obtain ⟨q,hq,_,rfl⟩:=inf_mem he
  have h1:=jbL_sub _ (xo1 hq)
  have h2:=hp _ h1.1
  cases hc:pHire (i:Int) d ((jbL l).getD q ev0) with
  | false=>rfl
  | true=>
   simp only [pHire,Bool.and_eq_true,Bool.or_eq_true,decide_eq_true_eq] at hc
   rcases h2.2.1 with h3 | h3 | h3
   ·exact absurd h3 h1.2
   ·omega
   ·omega
 rw [hireE,e]
theorem jb_short (h:GR D B l) (k d:Int):(∀n,n≤8→short (sumQ payE (inf (jbL l) k) d n))∧ ∀j:Nat,(hireE (inf (jbL l) k) (j:Int) d).isSome=true→short (addJ payE (inf (jbL l) k) d j):=by
 have h0:=sumOk_pay (inf_gE (gr_jbL h).fr) h.d0 h.d1 h.b0 h.b1 (F:=inf (jbL l) k) d
 refine ⟨h0.2,fun j hj=> ?_⟩
 rw [addJ,hire_get hj]
 have hin:=hire_in hj
 exact (h0.1 _ hin.1 hin.2).2
theorem c_AtM (h:GR D B l) (K:Nat) (kn d:Int):Ct Tryz.prog 28 [tL 8 true tTs (mT K (inf l kn)),tI d] (tT [tVa ((valT (mT K (inf l kn)) d).getD An.va0),tB (valT (mT K (inf l kn)) d).isSome]):=by
 have h2:=GR_mlen h K kn
 have:=c_At (mT K (inf l kn)) d (by omega) (h.tl K kn).dig
 rw [atR,if_pos (h.tl K kn).1] at this;exact this
theorem c_sameFv (u v:Fr) (e:u=v):Ct Tryz.prog 31 [tFr u,tFr v] (tB true):=by
 have h:=c_SameFrac u v
 rw [decide_eq_true e] at h;exact h
def jbs (l:List Ev):List (List Ev):=[jbJ l 0,jbJ l 1,jbJ l 2,jbJ l 3]
theorem jbs_at {j:Nat} (hj:j < 3):(rV (fun t:List Ev=>tL 14 true tEv t) (jbs l))[j+1]? =some (.val (tL 14 true tEv (jbJ l (((j+1:Nat):Int))))):=match j,hj with
 | 0,_=>rfl
 | 1,_=>rfl
 | 2,_=>rfl
end
theorem c_MeJobs (m:List Ne) (known d:Int) (hm: ∀n∈m,neOk n):
  Ct Tryz.prog 7 [tL 8 true tNe m,tI known,tI d] (tB true):=by
 obtain ⟨hR,hP⟩:=btE_ok hm
 have hbl:(btE m).length≤12:=by rw [btE_len];omega
 have hB:=c_Built22 m hm
 generalize btE m=l at*
 have hd1:=Int.emod_nonneg d (show (1100:Int)≠0 by decide)
 have hd2:=Int.emod_lt_of_pos d (show (0:Int) < 1100 by decide)
 have hsh:=jb_short hR (known%330 - 5) (d%1100)
 have hal:=jb_all hR (known%330 - 5) (d:=(d%1100)) (by omega)
 have h38:=jb_held (F:=(inf (jbL l) (known%330 - 5))) (d:=(d%1100)) (fun i h4 _=>jb_none hP _ _ h4)
 refine Ct.intro Tryz.func7 rfl Tryz.ntmps7 rfl ?_
 intro w F
 refine A8 ?_
 refine R0 (x3 c_awake22 fi10 rfl) ?_
 refine A9 ?_
 refine R1 (x3 (c_day22 known) fi18 rfl) rfl ?_
 refine A1 ?_
 refine R2 (x3 (c_Pick d 1100 (by decide) (by decide)) fi27 rfl) rfl rfl ?_
 refine A6 ?_
 refine RE (xe0 (k:=7) 32 14 true rfl (fun h=>by cases h)) trivial trivial ⟨rfl,trivial⟩ ?_
 refine A4 ?_
 refine RE (d_allocC (k:=8) (n:=4) [.slice none 0 0,.slice none 0 0,.slice none 0 0,.slice none 0 0] zr65.1 rfl rfl rfl rfl) trivial trivial ⟨rfl,trivial⟩ ?_
 refine A4 ?_
 refine C_nilC (q:=8) 150 32 14 true 0 rfl rfl rfl rfl (fun h=>by cases h) rfl rfl (C_nilC (q:=8) 151 32 14 true 1 rfl rfl rfl rfl (fun h=>by cases h) rfl rfl (C_nilC (q:=8) 152 32 14 true 2 rfl rfl rfl rfl (fun h=>by cases h) rfl rfl (C_nilC (q:=8) 153 32 14 true 3 rfl rfl rfl rfl (fun h=>by cases h) rfl rfl ?_)))
 refine A2 ?_
 refine R1 (x3 hB fi11 rfl) rfl ?_
 refine A5 ?_
 refine cL (fun (i:Nat)=>i≤l.length) (fun (i:Nat)=>upd (upd (upd (upd (upd (upd (upd (fun _=>none) 1 (some (.val (tI (known%330 - 5))))) 2 (some (.val (tI (d%1100))))) 7 (some (.own (.sl 7 14 0 (jbL (l.take i)).length)))) 8 (some (.own (.ptr 8 0)))) 31 (some (.val (tL 14 true tEv l)))) 32 (some (.val (tI l.length)))) 33 (some (.val (tI i)))) (fun (i:Nat)=>upd (upd (upd (upd (upd (upd (fun _=>none) 7 (some (⟨32,14,true,rV tEv (jbL (l.take i))⟩))) 8 (some (⟨65,1,false,[.own (.sl 150 14 0 (jbJ (l.take i) 0).length),.own (.sl 151 14 0 (jbJ (l.take i) 1).length),.own (.sl 152 14 0 (jbJ (l.take i) 2).length),.own (.sl 153 14 0 (jbJ (l.take i) 3).length)]⟩))) 150 (some (⟨32,14,true,rV tEv (jbJ (l.take i) 0)⟩))) 151 (some (⟨32,14,true,rV tEv (jbJ (l.take i) 1)⟩))) 152 (some (⟨32,14,true,rV tEv (jbJ (l.take i) 2)⟩))) 153 (some (⟨32,14,true,rV tEv (jbJ (l.take i) 3)⟩))) [7,8,150,151,152,153] (fun (i:Nat)=>l.length - i) (0) (Nat.zero_le _) (hh:=((SubK.consI rfl ImpK.refl) ((SubK.consI rfl ImpK.refl) ((SubK.consI rfl ImpK.refl) ((SubK.consI rfl ImpK.refl) ((SubK.consI rfl ImpK.refl) ((SubK.consI rfl ImpK.refl) SubK.nil))))))) ?_
 intro i hI
 have hxl:(jbL (l.take i)).length≤i:=by have:=jbL_len (l:=l.take i);rw [List.length_take] at this;omega
 have hj0:(jbJ (l.take i) 0).length≤i:=by have:=jbJ_len (l:=l.take i) (j:=0);rw [List.length_take] at this;omega
 have hj1:(jbJ (l.take i) 1).length≤i:=by have:=jbJ_len (l:=l.take i) (j:=1);rw [List.length_take] at this;omega
 have hj2:(jbJ (l.take i) 2).length≤i:=by have:=jbJ_len (l:=l.take i) (j:=2);rw [List.length_take] at this;omega
 have hj3:(jbJ (l.take i) 3).length≤i:=by have:=jbJ_len (l:=l.take i) (j:=3);rw [List.length_take] at this;omega
 have hjo:i < l.length→(l.getD i ev0).knd≠7→(l.getD i ev0).job=0∨(l.getD i ev0).job=1∨(l.getD i ev0).job=2∨(l.getD i ev0).job=3:=fun h1 h2=>by
  have ho:=hR.ok i h1
  have hq:=(hP _ (xo1 h1)).2.1
  rcases hq with h3 | h3 | h3
  ·exact absurd h3 h2
  ·have:=eNum_no ho.jb (by rw [h3];rfl);omega
  ·omega
 refine A6 ?_
 refine x8 rfl (fun h239=> ?_) (fun h239=> ?_)
 ·
  refine A6 ?_
  refine R2 (x9 sl24 (i) (by omega) (gD (l:=l) (n:=i) (d:=ev0) (by omega))) rfl rfl ?_
  refine A1 ?_
  refine RE (x7 (k:=10) (n:=14) (agg:=true) zr32.1 zr32.2 rfl) trivial trivial ⟨rfl,trivial⟩ ?_
  refine A10 ?_
  refine x8 rfl (fun h240=> ?_) (fun h240=> ?_)
  ·
   refine A4 ?_
   refine R1 (xa7 (n:=1) (f:=tEv) [(l.getD i ev0)] Tryz.underlying24 el32 zf32 rfl (fun _=>inferInstance) rfl rfl rfl) rfl (RE (xd9 (k:=7) (k':=43) (f:=tEv) (jbL (l.take i)) (l.getD i ev0) Tryz.underlying24 el32 zf32 rfl rfl (fun _=>inferInstance) rfl ⟨by omega,by omega⟩ rfl) ⟨rfl,rfl,trivial⟩ ⟨rfl,trivial⟩ ⟨rfl,trivial⟩ ?_)
   refine A3 ?_
   rcases hjo (by omega) (by omega) with hjb | hjb | hjb | hjb
   ·
    refine A5 ?_
    refine R2 (xg9 (p':=0) ar65 (by omega) (by omega) (by omega)) rfl rfl ?_
    refine A2 ?_
    refine R1 (xa7 (n:=1) (f:=tEv) [(l.getD i ev0)] Tryz.underlying24 el32 zf32 rfl (fun _=>inferInstance) rfl rfl rfl) rfl (RE (xd9 (k:=150) (k':=52) (f:=tEv) (jbJ (l.take i) 0) (l.getD i ev0) Tryz.underlying24 el32 zf32 rfl rfl (fun _=>inferInstance) rfl ⟨by omega,by omega⟩ rfl) ⟨rfl,rfl,trivial⟩ ⟨rfl,trivial⟩ ⟨rfl,trivial⟩ (R2 (xg9 (p':=0) ar65 (by omega) (by omega) (by omega)) rfl rfl ?_))
    refine A8 ?_
    have hL:=xq9 (l:=l) (i:=i) (by omega)
    rw [if_pos (by omega)] at hL
    have e0:=xd5 (l:=l) (i:=i) (j:=0) (by omega)
    rw [if_pos ⟨by omega,hjb⟩] at e0
    have e1:=xd5 (l:=l) (i:=i) (j:=1) (by omega)
    rw [if_neg (fun hh=>by have:=hh.2;omega),List.append_nil] at e1
    have e2:=xd5 (l:=l) (i:=i) (j:=2) (by omega)
    rw [if_neg (fun hh=>by have:=hh.2;omega),List.append_nil] at e2
    have e3:=xd5 (l:=l) (i:=i) (j:=3) (by omega)
    rw [if_neg (fun hh=>by have:=hh.2;omega),List.append_nil] at e3
    exact xb5 (l:=[7,8,150,151,152,153]) (fun j=>cond (Nat.beq j 150) 52 (cond (Nat.beq j 7) 43 (j))) (i+1) ⟨(by omega),(by omega)⟩ (SubR.int rfl (by first | omega | rfl | (dsimp only;omega)) (SubR.int rfl (by first | omega | rfl | (dsimp only;omega)) (SubR.cons rfl (SubR.cons rfl ((SubR.consI rfl (Imp.of (by rw [hL,List.length_append];rfl))) (SubR.int rfl (by first | omega | rfl | (dsimp only;omega)) (SubR.int rfl (by first | omega | rfl | (dsimp only;omega)) SubR.nil))))))) ((SubKR.consI rfl (ImpK.of (by rw [e3];exact xa1.symm))) ((SubKR.consI rfl (ImpK.of (by rw [e2];exact xa1.symm))) ((SubKR.consI rfl (ImpK.of (by rw [e1];exact xa1.symm))) ((SubKR.consI rfl (ImpK.of (by rw [e0];exact xa1.symm))) ((SubKR.consI rfl (ImpK.of (by rw [e0,e1,e2,e3,List.length_append];rfl))) ((SubKR.consI rfl (ImpK.of (by rw [hL];exact xa1.symm))) SubKR.nil)))))) (SupG.val (SupG.val (SupG.val (SupG.own rfl (SupG.own rfl (SupG.val (SupG.val SupG.nil))))))) (SupH.cons rfl (supJ xa0) (SupH.cons rfl (supJ xa0) (SupH.cons rfl (supJ xa0) (SupH.cons rfl (supJ xa0) (SupH.cons rfl (supJL rfl) (SupH.cons rfl (supJ xa0) SupH.nil)))))) (lkOk rfl) rfl rfl (fun _ h=>by cases h)
   ·
    refine A5 ?_
    refine R2 (xg9 (p':=1) ar65 (by omega) (by omega) (by omega)) rfl rfl (RE (xb2 (1) ti24 rfl rfl) ⟨rfl,trivial⟩ ⟨rfl,trivial⟩ trivial ?_)
    refine A1 ?_
    refine R1 (xa7 (n:=1) (f:=tEv) [(l.getD i ev0)] Tryz.underlying24 el32 zf32 rfl (fun _=>inferInstance) rfl rfl rfl) rfl (RE (xd9 (k:=151) (k':=52) (f:=tEv) (jbJ (l.take i) 1) (l.getD i ev0) Tryz.underlying24 el32 zf32 rfl rfl (fun _=>inferInstance) rfl ⟨by omega,by omega⟩ rfl) ⟨rfl,rfl,trivial⟩ ⟨rfl,trivial⟩ ⟨rfl,trivial⟩ (R2 (xg9 (p':=1) ar65 (by omega) (by omega) (by omega)) rfl rfl (RE (xb3 (es:=1) (agg:=false) (1) ti24 rfl rfl rfl) ⟨rfl,rfl,trivial⟩ ⟨rfl,trivial⟩ trivial ?_)))
    refine A7 ?_
    have hL:=xq9 (l:=l) (i:=i) (by omega)
    rw [if_pos (by omega)] at hL
    have e0:=xd5 (l:=l) (i:=i) (j:=0) (by omega)
    rw [if_neg (fun hh=>by have:=hh.2;omega),List.append_nil] at e0
    have e1:=xd5 (l:=l) (i:=i) (j:=1) (by omega)
    rw [if_pos ⟨by omega,hjb⟩] at e1
    have e2:=xd5 (l:=l) (i:=i) (j:=2) (by omega)
    rw [if_neg (fun hh=>by have:=hh.2;omega),List.append_nil] at e2
    have e3:=xd5 (l:=l) (i:=i) (j:=3) (by omega)
    rw [if_neg (fun hh=>by have:=hh.2;omega),List.append_nil] at e3
    exact xb5 (l:=[7,8,150,151,152,153]) (fun j=>cond (Nat.beq j 151) 52 (cond (Nat.beq j 7) 43 (j))) (i+1) ⟨(by omega),(by omega)⟩ (SubR.int rfl (by first | omega | rfl | (dsimp only;omega)) (SubR.int rfl (by first | omega | rfl | (dsimp only;omega)) (SubR.cons rfl (SubR.cons rfl ((SubR.consI rfl (Imp.of (by rw [hL,List.length_append];rfl))) (SubR.int rfl (by first | omega | rfl | (dsimp only;omega)) (SubR.int rfl (by first | omega | rfl | (dsimp only;omega)) SubR.nil))))))) ((SubKR.consI rfl (ImpK.of (by rw [e3];exact xa1.symm))) ((SubKR.consI rfl (ImpK.of (by rw [e2];exact xa1.symm))) ((SubKR.consI rfl (ImpK.of (by rw [e1];exact xa1.symm))) ((SubKR.consI rfl (ImpK.of (by rw [e0];exact xa1.symm))) ((SubKR.consI rfl (ImpK.of (by rw [e0,e1,e2,e3,List.length_append];rfl))) ((SubKR.consI rfl (ImpK.of (by rw [hL];exact xa1.symm))) SubKR.nil)))))) (SupG.val (SupG.val (SupG.val (SupG.own rfl (SupG.own rfl (SupG.val (SupG.val SupG.nil))))))) (SupH.cons rfl (supJ xa0) (SupH.cons rfl (supJ xa0) (SupH.cons rfl (supJ xa0) (SupH.cons rfl (supJ xa0) (SupH.cons rfl (supJL rfl) (SupH.cons rfl (supJ xa0) SupH.nil)))))) (lkOk rfl) rfl rfl (fun _ h=>by cases h)
   ·
    refine A5 ?_
    refine R2 (xg9 (p':=2) ar65 (by omega) (by omega) (by omega)) rfl rfl (RE (xb2 (2) ti24 rfl rfl) ⟨rfl,trivial⟩ ⟨rfl,trivial⟩ trivial ?_)
    refine A1 ?_
    refine R1 (xa7 (n:=1) (f:=tEv) [(l.getD i ev0)] Tryz.underlying24 el32 zf32 rfl (fun _=>inferInstance) rfl rfl rfl) rfl (RE (xd9 (k:=152) (k':=52) (f:=tEv) (jbJ (l.take i) 2) (l.getD i ev0) Tryz.underlying24 el32 zf32 rfl rfl (fun _=>inferInstance) rfl ⟨by omega,by omega⟩ rfl) ⟨rfl,rfl,trivial⟩ ⟨rfl,trivial⟩ ⟨rfl,trivial⟩ (R2 (xg9 (p':=2) ar65 (by omega) (by omega) (by omega)) rfl rfl (RE (xb3 (es:=1) (agg:=false) (2) ti24 rfl rfl rfl) ⟨rfl,rfl,trivial⟩ ⟨rfl,trivial⟩ trivial ?_)))
    refine A7 ?_
    have hL:=xq9 (l:=l) (i:=i) (by omega)
    rw [if_pos (by omega)] at hL
    have e0:=xd5 (l:=l) (i:=i) (j:=0) (by omega)
    rw [if_neg (fun hh=>by have:=hh.2;omega),List.append_nil] at e0
    have e1:=xd5 (l:=l) (i:=i) (j:=1) (by omega)
    rw [if_neg (fun hh=>by have:=hh.2;omega),List.append_nil] at e1
    have e2:=xd5 (l:=l) (i:=i) (j:=2) (by omega)
    rw [if_pos ⟨by omega,hjb⟩] at e2
    have e3:=xd5 (l:=l) (i:=i) (j:=3) (by omega)
    rw [if_neg (fun hh=>by have:=hh.2;omega),List.append_nil] at e3
    exact xb5 (l:=[7,8,150,151,152,153]) (fun j=>cond (Nat.beq j 152) 52 (cond (Nat.beq j 7) 43 (j))) (i+1) ⟨(by omega),(by omega)⟩ (SubR.int rfl (by first | omega | rfl | (dsimp only;omega)) (SubR.int rfl (by first | omega | rfl | (dsimp only;omega)) (SubR.cons rfl (SubR.cons rfl ((SubR.consI rfl (Imp.of (by rw [hL,List.length_append];rfl))) (SubR.int rfl (by first | omega | rfl | (dsimp only;omega)) (SubR.int rfl (by first | omega | rfl | (dsimp only;omega)) SubR.nil))))))) ((SubKR.consI rfl (ImpK.of (by rw [e3];exact xa1.symm))) ((SubKR.consI rfl (ImpK.of (by rw [e2];exact xa1.symm))) ((SubKR.consI rfl (ImpK.of (by rw [e1];exact xa1.symm))) ((SubKR.consI rfl (ImpK.of (by rw [e0];exact xa1.symm))) ((SubKR.consI rfl (ImpK.of (by rw [e0,e1,e2,e3,List.length_append];rfl))) ((SubKR.consI rfl (ImpK.of (by rw [hL];exact xa1.symm))) SubKR.nil)))))) (SupG.val (SupG.val (SupG.val (SupG.own rfl (SupG.own rfl (SupG.val (SupG.val SupG.nil))))))) (SupH.cons rfl (supJ xa0) (SupH.cons rfl (supJ xa0) (SupH.cons rfl (supJ xa0) (SupH.cons rfl (supJ xa0) (SupH.cons rfl (supJL rfl) (SupH.cons rfl (supJ xa0) SupH.nil)))))) (lkOk rfl) rfl rfl (fun _ h=>by cases h)
   ·
    refine A5 ?_
    refine R2 (xg9 (p':=3) ar65 (by omega) (by omega) (by omega)) rfl rfl (RE (xb2 (3) ti24 rfl rfl) ⟨rfl,trivial⟩ ⟨rfl,trivial⟩ trivial ?_)
    refine A1 ?_
    refine R1 (xa7 (n:=1) (f:=tEv) [(l.getD i ev0)] Tryz.underlying24 el32 zf32 rfl (fun _=>inferInstance) rfl rfl rfl) rfl (RE (xd9 (k:=153) (k':=52) (f:=tEv) (jbJ (l.take i) 3) (l.getD i ev0) Tryz.underlying24 el32 zf32 rfl rfl (fun _=>inferInstance) rfl ⟨by omega,by omega⟩ rfl) ⟨rfl,rfl,trivial⟩ ⟨rfl,trivial⟩ ⟨rfl,trivial⟩ (R2 (xg9 (p':=3) ar65 (by omega) (by omega) (by omega)) rfl rfl (RE (xb3 (es:=1) (agg:=false) (3) ti24 rfl rfl rfl) ⟨rfl,rfl,trivial⟩ ⟨rfl,trivial⟩ trivial ?_)))
    refine A7 ?_
    have hL:=xq9 (l:=l) (i:=i) (by omega)
    rw [if_pos (by omega)] at hL
    have e0:=xd5 (l:=l) (i:=i) (j:=0) (by omega)
    rw [if_neg (fun hh=>by have:=hh.2;omega),List.append_nil] at e0
    have e1:=xd5 (l:=l) (i:=i) (j:=1) (by omega)
    rw [if_neg (fun hh=>by have:=hh.2;omega),List.append_nil] at e1
    have e2:=xd5 (l:=l) (i:=i) (j:=2) (by omega)
    rw [if_neg (fun hh=>by have:=hh.2;omega),List.append_nil] at e2
    have e3:=xd5 (l:=l) (i:=i) (j:=3) (by omega)
    rw [if_pos ⟨by omega,hjb⟩] at e3
    exact xb5 (l:=[7,8,150,151,152,153]) (fun j=>cond (Nat.beq j 153) 52 (cond (Nat.beq j 7) 43 (j))) (i+1) ⟨(by omega),(by omega)⟩ (SubR.int rfl (by first | omega | rfl | (dsimp only;omega)) (SubR.int rfl (by first | omega | rfl | (dsimp only;omega)) (SubR.cons rfl (SubR.cons rfl ((SubR.consI rfl (Imp.of (by rw [hL,List.length_append];rfl))) (SubR.int rfl (by first | omega | rfl | (dsimp only;omega)) (SubR.int rfl (by first | omega | rfl | (dsimp only;omega)) SubR.nil))))))) ((SubKR.consI rfl (ImpK.of (by rw [e3];exact xa1.symm))) ((SubKR.consI rfl (ImpK.of (by rw [e2];exact xa1.symm))) ((SubKR.consI rfl (ImpK.of (by rw [e1];exact xa1.symm))) ((SubKR.consI rfl (ImpK.of (by rw [e0];exact xa1.symm))) ((SubKR.consI rfl (ImpK.of (by rw [e0,e1,e2,e3,List.length_append];rfl))) ((SubKR.consI rfl (ImpK.of (by rw [hL];exact xa1.symm))) SubKR.nil)))))) (SupG.val (SupG.val (SupG.val (SupG.own rfl (SupG.own rfl (SupG.val (SupG.val SupG.nil))))))) (SupH.cons rfl (supJ xa0) (SupH.cons rfl (supJ xa0) (SupH.cons rfl (supJ xa0) (SupH.cons rfl (supJ xa0) (SupH.cons rfl (supJL rfl) (SupH.cons rfl (supJ xa0) SupH.nil)))))) (lkOk rfl) rfl rfl (fun _ h=>by cases h)
  ·
   refine A7 ?_
   have hL:=xq9 (l:=l) (i:=i) (by omega)
   rw [if_neg (by omega),List.append_nil] at hL
   have e0:=xd5 (l:=l) (i:=i) (j:=0) (by omega)
   rw [if_neg (fun hh=>hh.1 (by omega)),List.append_nil] at e0
   have e1:=xd5 (l:=l) (i:=i) (j:=1) (by omega)
   rw [if_neg (fun hh=>hh.1 (by omega)),List.append_nil] at e1
   have e2:=xd5 (l:=l) (i:=i) (j:=2) (by omega)
   rw [if_neg (fun hh=>hh.1 (by omega)),List.append_nil] at e2
   have e3:=xd5 (l:=l) (i:=i) (j:=3) (by omega)
   rw [if_neg (fun hh=>hh.1 (by omega)),List.append_nil] at e3
   exact kF (i+1) ⟨(by omega),(by omega)⟩ (hg:=(sI (sI (sC (sC ((Sub.consI rfl (Imp.of (by rw [hL]))) (sI (sI Sub.nil)))))))) (hh:=((SubK.consI rfl (ImpK.of (by rw [e3]))) ((SubK.consI rfl (ImpK.of (by rw [e2]))) ((SubK.consI rfl (ImpK.of (by rw [e1]))) ((SubK.consI rfl (ImpK.of (by rw [e0]))) ((SubK.consI rfl (ImpK.of (by rw [e0,e1,e2,e3]))) ((SubK.consI rfl (ImpK.of (by rw [hL]))) SubK.nil)))))))
 ·
  refine A6 ?_
  have hie:l.take i=l:=by rw [show i=l.length by omega,List.take_length]
  rw [hie]
  refine C_give (t:=7) (k:=7) (f:=tEv) (xs:=jbL l) rfl rfl (fun _ h=>h) (xe2 rfl) rfl (xq6 (q:=8) (j:=150) (f:=tEv) (xs:=jbJ l 0) 0 rfl rfl rfl rfl (NoLbK.of fun _ h=>h) (xe2 rfl) rfl rfl (xq6 (q:=8) (j:=151) (f:=tEv) (xs:=jbJ l 1) 1 rfl rfl rfl rfl (NoLbK.of fun _ h=>h) (xe2 rfl) rfl rfl (xq6 (q:=8) (j:=152) (f:=tEv) (xs:=jbJ l 2) 2 rfl rfl rfl rfl (NoLbK.of fun _ h=>h) (xe2 rfl) rfl rfl (xq6 (q:=8) (j:=153) (f:=tEv) (xs:=jbJ l 3) 3 rfl rfl rfl rfl (NoLbK.of fun _ h=>h) (xe2 rfl) rfl rfl (C_key (k:=8) (e':=⟨65,1,false,rV (fun t:List Ev=>tL 14 true tEv t) (jbs l)⟩) rfl rfl ?_)))))
  refine A3 ?_
  refine R3 (x3 (xu0 (jbL l) (known%330 - 5) (gr_jbL hR) 2 (by decide)) fi15 rfl) rfl rfl rfl ?_
  refine A11 ?_
  refine R2 (x3 (c_AtM (gr_jbL hR) 2 (known%330 - 5) (d%1100)) fi28 rfl) rfl rfl ?_
  refine A3 ?_
  refine RE (x7 (k:=13) (n:=6) (agg:=true) zr57.1 zr57.2 rfl) trivial trivial ⟨rfl,trivial⟩ ?_
  refine A6 ?_
  refine R2 (x3 (xp2 0 1 (by decide) (by decide) (by decide) (by decide)) fi29 rfl) rfl rfl (RE (x7 (k:=15) (n:=4) (agg:=true) zr30.1 zr30.2 rfl) trivial trivial ⟨rfl,trivial⟩ ?_)
  refine A11 ?_
  refine cL (fun (j:Nat)=>j≤3) (fun (j:Nat)=>upd (upd (upd (upd (upd (upd (upd (upd (upd (fun _=>none) 1 (some (.val (tI (known%330 - 5))))) 2 (some (.val (tI (d%1100))))) 8 (some (.own (.ptr 8 0)))) 12 (some (.val (tI 0)))) 13 (some (.own (.ptr 13 0)))) 14 (some (.val (tB (valT (mT 2 (inf (jbL l) (known%330 - 5))) (d%1100)).isSome)))) 15 (some (.own (.ptr 15 0)))) 16 (some (.val (tB (heldQ (inf (jbL l) (known%330 - 5)) (d%1100) j))))) 17 (some (.val (tI ((j:Int)+1))))) (fun (j:Nat)=>upd (upd (upd (fun _=>none) 8 (some (⟨65,1,false,rV (fun t:List Ev=>tL 14 true tEv t) (jbs l)⟩))) 13 (some (⟨57,6,true,[.val (tVa ((valT (mT 2 (inf (jbL l) (known%330 - 5))) (d%1100)).getD An.va0))]⟩))) 15 (some (⟨30,4,true,[.val (tFr (fr (sumQ payE (inf (jbL l) (known%330 - 5)) (d%1100) j)))]⟩))) [8,13,15] (fun (j:Nat)=>3 - j) (0) (Nat.zero_le _) (hh:=((SubK.consI rfl (ImpK.of (by rw [kfr01];rfl))) ((SubK.consI rfl ImpK.refl) ((SubK.consI rfl ImpK.refl) SubK.nil)))) ?_
  intro j hI2
  have hjv:=fun (hh:j < 3)=>jb_val hR (j:=j+1) (by omega) (by omega) (known%330 - 5) (d:=(d%1100)) (by omega)
  have hsn:(sumQ payE (inf (jbL l) (known%330 - 5)) (d%1100) (j+1))=(sumQ payE (inf (jbL l) (known%330 - 5)) (d%1100) j)+(addJ payE (inf (jbL l) (known%330 - 5)) (d%1100) (j+1)):=rfl
  have hhn:(heldQ (inf (jbL l) (known%330 - 5)) (d%1100) (j+1))=((heldQ (inf (jbL l) (known%330 - 5)) (d%1100) j) || (hireE (inf (jbL l) (known%330 - 5)) ((j+1:Nat):Int) (d%1100)).isSome):=rfl
  refine A7 ?_
  refine x8 rfl (fun h248=> ?_) (fun h248=> ?_)
  ·
   refine A7 ?_
   refine R2 (xg9 ar65 (by omega) (by omega) rfl) rfl rfl (RE (xb2 (j+1) ti24 (jbs_at (l:=l) (j:=j) (by omega)) (by omega)) ⟨rfl,trivial⟩ ⟨rfl,trivial⟩ trivial ?_)
   refine A1 ?_
   refine R3 (x3 (xu0 (jbJ l (((j+1:Nat):Int))) (known%330 - 5) (gr_jbJ hR _) 2 (by decide)) fi15 rfl) rfl rfl rfl ?_
   refine A11 ?_
   refine R2 (x3 (c_AtM (gr_jbJ hR _) 2 (known%330 - 5) (d%1100)) fi28 rfl) rfl rfl ?_
   refine A3 ?_
   refine RE (x7 (k:=20) (n:=6) (agg:=true) zr57.1 zr57.2 rfl) trivial trivial ⟨rfl,trivial⟩ ?_
   refine A11 ?_
   refine C_bF rfl (decide_eq_false (by omega)) ?_
   refine A7 ?_
   refine xb9 rfl (fun h254=> ?_) (fun h254=> ?_)
   ·
    refine A1 ?_
    have hjv:=hjv (by omega)
    have hho:(hireE (inf (jbL l) (known%330 - 5)) ((j+1:Nat):Int) (d%1100)).isSome=true:=by
     rw [hjv,Option.isSome_map] at h254;exact h254
    have hjf:((valT (mT 2 (inf (jbJ l (((j+1:Nat):Int))) (known%330 - 5))) (d%1100)).getD An.va0).f=fr (addJ payE (inf (jbL l) (known%330 - 5)) (d%1100) (j+1)):=by
     obtain ⟨e,he⟩:=Option.isSome_iff_exists.1 hho
     rw [hjv,he];rfl
    refine A4 ?_
    refine R2 (x3 (c_FAddM (sumQ payE (inf (jbL l) (known%330 - 5)) (d%1100) j) (addJ payE (inf (jbL l) (known%330 - 5)) (d%1100) (j+1)) _ hjf (hsh.1 j (by omega)) (hsh.2 (j+1) hho) (by rw [←hsn];exact hsh.1 (j+1) (by omega))) fi30 rfl) rfl rfl ?_
    refine A3 ?_
    refine RE (x7 (k:=22) (n:=4) (agg:=true) zr30.1 zr30.2 rfl) trivial trivial ⟨rfl,trivial⟩ ?_
    refine A11 ?_
    refine C_bF rfl (decide_eq_false (by omega)) ?_
    refine A14 ?_
    exact kF (j+1) ⟨(by omega),(by omega)⟩ (hg:=(sI ((Sub.consI rfl (Imp.of (by rw [hhn,hho,Bool.or_true]))) (sC (sC (sC (sI (sC (sI (sI Sub.nil)))))))))) (hh:=((SubK.consI rfl (ImpK.of (by rw [hsn];rfl))) ((SubK.consI rfl ImpK.refl) ((SubK.consI rfl ImpK.refl) SubK.nil))))
   ·
    refine A8 ?_
    have hjv:=hjv (by omega)
    have hho:hireE (inf (jbL l) (known%330 - 5)) ((j+1:Nat):Int) (d%1100)=none:=by
     cases hc:hireE (inf (jbL l) (known%330 - 5)) ((j+1:Nat):Int) (d%1100) with
     | none=>rfl
     | some e=>rw [hjv,hc] at h254;cases h254
    exact kF (j+1) ⟨(by omega),(by omega)⟩ (hg:=(sI ((Sub.consI rfl (Imp.of (by rw [hhn,hho,Option.isSome_none,Bool.or_false]))) (sC (sC (sC (sI (sC (sI (sI Sub.nil)))))))))) (hh:=((SubK.consI rfl (ImpK.of (by rw [hsn,add_none hho];exact congrArg (fun q=>(⟨30,4,true,[.val (tFr (fr q))]⟩:HEnt)) (Rat.add_zero _).symm))) ((SubK.consI rfl ImpK.refl) ((SubK.consI rfl ImpK.refl) SubK.nil))))
  ·
   refine A6 ?_
   have hj3:j=3:=by omega
   subst hj3
   have hse:(valT (mT 2 (inf (jbL l) (known%330 - 5))) (d%1100)).isSome=(heldQ (inf (jbL l) (known%330 - 5)) (d%1100) 3):=by rw [hal,h38.1];split <;> simp_all
   have hfe:(valT (mT 2 (inf (jbL l) (known%330 - 5))) (d%1100)).isSome=true→((valT (mT 2 (inf (jbL l) (known%330 - 5))) (d%1100)).getD An.va0).f=fr (sumQ payE (inf (jbL l) (known%330 - 5)) (d%1100) 3):=fun hh=>by
    rw [hal] at hh ⊢
    split at hh
    ·rename_i h1;rw [if_pos h1,←h38.2];rfl
    ·cases hh
   refine A4 ?_
   refine RGon (decide_eq_true (by omega)) rfl xc1 rfl ⟨rfl,trivial⟩ trivial trivial (RGon (decide_eq_true (by omega)) rfl xc1 rfl ⟨rfl,trivial⟩ trivial trivial (RGon (decide_eq_true (by omega)) rfl (d_eqlB Tryz.underlying4) rfl ⟨rfl,rfl,trivial⟩ trivial trivial (R2 (xg4 (decide_eq_true (by omega))) rfl rfl ?_)))
   refine A1 ?_
   refine RGon (by simp [hse]) rfl xc1 rfl ⟨rfl,trivial⟩ trivial trivial (RGon (by simp [hse]) rfl d_not rfl ⟨rfl,trivial⟩ trivial trivial (RGon (by simp [hse]) rfl xc1 rfl ⟨rfl,trivial⟩ trivial trivial ?_))
   refine RGcase (t:=109) rfl (fun h262_3=> ?_) (fun h262_3=> ?_)
   ·
    refine A4 ?_
    refine RGon (by simp [hse]) rfl (xg4 h262_3) rfl ⟨rfl,rfl,trivial⟩ trivial trivial (R2 (xg4 (by simp [hse])) rfl rfl ?_)
    refine A4 ?_
    exact x4 Plain.mk' rfl rfl (Le.bool (by simp_all))
   ·
    refine A3 ?_
    refine RGon h262_3 rfl (x3 (c_sameFv _ _ (hfe (by simpa using h262_3))) fi31 rfl) rfl ⟨rfl,rfl,trivial⟩ trivial trivial (RGon (by simp [hse]) rfl (xg7 h262_3) rfl ⟨rfl,rfl,trivial⟩ trivial trivial (R2 (xg4 (by simp [hse])) rfl rfl ?_))
    refine A4 ?_
    exact x4 Plain.mk' rfl rfl (Le.bool (by simp_all))
end An.S
