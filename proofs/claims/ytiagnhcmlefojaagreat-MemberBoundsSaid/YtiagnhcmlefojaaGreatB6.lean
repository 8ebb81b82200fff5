/- Part 6 of a proof: E16. -/
import Derived.Test.YtiagnhcmlefojaaGreatB5
set_option maxHeartbeats 4000000
set_option maxRecDepth 100000
namespace An.S
open Go Go.Proofs An
instance fi32:FnI Tryz.prog 32:=⟨_,Tryz.func32,by kernel_rfl,rfl⟩
instance fi33:FnI Tryz.prog 33:=⟨_,Tryz.func33,by kernel_rfl,rfl⟩
theorem cmpN {a b:Rat}:cmpQ a b < 0↔a < b:=by
 rw [cmpQ]
 split
 ·rename_i h;exact ⟨fun _=>h,fun _=>by decide⟩
 ·rename_i h
  split
  ·exact ⟨fun hh=>absurd hh (by decide),fun hh=>absurd hh h⟩
  ·exact ⟨fun hh=>absurd hh (by decide),fun hh=>absurd hh h⟩
theorem c_FCmpE (f g:Fr) (hf:f=fr f.rat∧short f.rat) (hg:g=fr g.rat∧short g.rat):Ct Tryz.prog 34 [tFr f,tFr g] (tI (cmpQ f.rat g.rat)):=by
 have h:=c_FCmp f.rat g.rat hf.2 hg.2
 rw [←hf.1,←hg.1] at h;exact h
theorem fr_self {q:Rat} (h:short q):fr q=fr (fr q).rat∧short (fr q).rat:=by rw [xh4];exact ⟨rfl,h⟩
theorem z01:fr (kfr 0 1)=fr (fr (kfr 0 1)).rat∧short (fr (kfr 0 1)).rat:=fr_self (by decide+kernel)
theorem o11:fr (kfr 1 1)=fr (fr (kfr 1 1)).rat∧short (fr (kfr 1 1)).rat:=fr_self (by decide+kernel)
section
variable {D B:Int} {l:List Ev}
theorem st_ok (h:GR D B l) (K:Nat) (kn:Int) {i:Nat} (hi:i < (mT K (inf l kn)).length):(((mT K (inf l kn)).getD i tst0).v.kind=kK K∧(((mT K (inf l kn)).getD i tst0).v.f=fr ((mT K (inf l kn)).getD i tst0).v.f.rat∧short ((mT K (inf l kn)).getD i tst0).v.f.rat))∧ ¬((mT K (inf l kn)).getD i tst0).v.f.rat < (fr (kfr 0 1)).rat:=by
 have hm:=xd7 (l:=mT K (inf l kn)) hi
 have hg:=(h.tl K kn).2 _ hm
 obtain ⟨k,hk,e⟩:=val_in K (xj3 h.ok) (inf_gE h.fr) h.d0 h.b0 (h.inf_len kn) hm
 refine ⟨⟨hg.1.2.1,hg.1.2.2.2.1,hg.1.2.2.2.2⟩,?_⟩
 rw [e]
 show ¬(fr (Rat.divInt k D)).rat < (fr (kfr 0 1)).rat
 rw [xh4,xh4,show kfr 0 1=Rat.divInt 0 1 from by decide+kernel]
 refine Rat.not_lt.2 ?_
 rw [le_dv (by decide) h.d0];omega
theorem ft_ok (h:GR D B l) (kn:Int) {i:Nat} (hi:i < (mT 1 (inf l kn)).length): ¬(fr (kfr 1 1)).rat < ((mT 1 (inf l kn)).getD i tst0).v.f.rat:=by
 obtain ⟨k,hk,e⟩:=fte_in (xj3 h.ok) (inf_gE h.fr) h.d0 h.b0 (h.inf_len kn) (xd7 (l:=mT 1 (inf l kn)) hi)
 rw [e]
 show ¬(fr (kfr 1 1)).rat < (fr (Rat.divInt k D)).rat
 rw [xh4,xh4,show kfr 1 1=Rat.divInt 1 1 from by decide+kernel]
 refine Rat.not_lt.2 ?_
 rw [le_dv h.d0 (by decide)];omega
theorem cr_up (h:GR D B l) (kn:Int) {i:Nat} (hi:i < (mT 0 (inf l kn)).length) (h0:0 < i):((mT 0 (inf l kn)).getD (i - 1) tst0).hi=((mT 0 (inf l kn)).getD i tst0).lo∧ ¬((mT 0 (inf l kn)).getD i tst0).v.f.rat < ((mT 0 (inf l kn)).getD (i - 1) tst0).v.f.rat:=by
 have hc:=xj3 (kn:=kn) h.ok
 have h1:=(crd_next hc (show i - 1 < (mT 0 (inf l kn)).length by omega)).1 (by omega)
 rw [show i - 1+1=i by omega] at h1
 refine ⟨h1,Rat.not_lt.2 ?_⟩
 obtain ⟨_,p,hp,ep⟩:=xq3 0 hc (xd7 (l:=mT 0 (inf l kn)) (show i - 1 < (mT 0 (inf l kn)).length by omega))
 obtain ⟨_,q,hq,eq⟩:=xq3 0 hc (xd7 (l:=mT 0 (inf l kn)) hi)
 have hlt:=(mT_asc 0 hc).1.1 _ (xd7 (l:=mT 0 (inf l kn)) (show i - 1 < (mT 0 (inf l kn)).length by omega))
 rw [ep,eq]
 show (fr p).rat≤(fr q).rat
 rw [xh4,xh4]
 have hp:crdQ _ _=some p:=hp
 have hq:crdQ _ _=some q:=hq
 rw [crdQ] at hp hq
 split at hp
 ·cases hp
 ·split at hq
  ·cases hq
  ·rw [←Option.some.inj hp,←Option.some.inj hq]
   exact crd_mono (inf_gE h.fr) (by omega) h.d0
theorem cr_end (h:GR D B l) (kn:Int) {i:Nat} (hi:i < (mT 0 (inf l kn)).length) (he:i+1=(mT 0 (inf l kn)).length):((mT 0 (inf l kn)).getD i tst0).hi=65536:=(crd_next (xj3 (kn:=kn) h.ok) hi).2 he
theorem cov_eq (h:GR D B l) (kn:Int):cvT (mT 1 (inf l kn))=cvT (mT 2 (inf l kn)):=by
 have h1:=cvT_set (h.tl 1 kn).1
 have h2:=cvT_set (h.tl 2 kn).1
 exact set_same h1.1 h2.1 fun d=>by rw [h1.2,h2.2,cov_same (xj3 h.ok)]
theorem c_CoversM (h:GR D B l) (K:Nat) (kn:Int):Ct Tryz.prog 33 [tL 8 true tTs (mT K (inf l kn))] (tL 2 true tSn (cvT (mT K (inf l kn)))):=by
 have h2:=xp1 h K kn
 have:=c_Covers (mT K (inf l kn)) (by omega) (h.tl K kn).dig
 rw [if_pos (h.tl K kn).1] at this;exact this
theorem hl_none (hp:btP l) (k d:Int) {i:Nat} (hi:4≤i):hireE (inf l k) (i:Int) d=none:=by
 have e:lastE (pHire (i:Int) d) (inf l k)=none:=(xn1 _ _).1.2 fun e he=>by
  obtain ⟨q,hq,_,rfl⟩:=inf_mem he
  have h2:=hp _ (mem_getE hq)
  cases hc:pHire (i:Int) d (l.getD q ev0) with
  | false=>rfl
  | true=>
   simp only [pHire,Bool.and_eq_true,Bool.or_eq_true,decide_eq_true_eq] at hc
   rcases h2.2.1 with h3 | h3 | h3
   ·omega
   ·omega
   ·omega
 rw [hireE,e]
def atOk (l:List Ev) (o:Option Ev) (at1:Int):Prop:=(at1= -1∧o=none)∨((0≤at1∧at1 < l.length)∧o=some (l.getD at1.toNat ev0))
theorem inN_at {k:Int} {q:Nat} (hq:q < (infN l k).length): ∃i:Nat,i < l.length∧(infN l k).getD q 0=(i:Int)+1∧(inf l k).getD q ev0=l.getD i ev0:=by
 have hq2:q < (infI l k).length:=by rw [infN,List.length_map] at hq;exact hq
 refine ⟨(infI l k)[q],List.mem_range.1 (List.mem_filter.1 (List.getElem_mem hq2)).1,?_,?_⟩
 ·rw [infN,List.getD_eq_getElem?_getD,List.getElem?_map,List.getElem?_eq_getElem hq2];rfl
 ·rw [inf,List.getD_eq_getElem?_getD,List.getElem?_map,List.getElem?_eq_getElem hq2];rfl
theorem inN_eq {k:Int}:(infN l k).length=(inf l k).length:=by rw [infN,inf,List.length_map,List.length_map]
end
theorem c_MeBounds (m:List Ne) (known d:Int) (hm: ∀n∈m,neOk n):
  Ct Tryz.prog 8 [tL 8 true tNe m,tI known,tI d] (tB true):=by
 obtain ⟨hR,hP⟩:=btE_ok hm
 have hbl:(btE m).length≤12:=by rw [btE_len];omega
 have hB:=c_Built22 m hm
 generalize btE m=l at*
 have hd1:=Int.emod_nonneg d (show (1100:Int)≠0 by decide)
 have hd2:=Int.emod_lt_of_pos d (show (0:Int) < 1100 by decide)
 have hfi:=fte_is (F:=(inf l (known%330 - 5))) (xj3 hR.ok) (d:=(d%1100)) (by omega)
 have h38:=(jb_held (F:=(inf l (known%330 - 5))) (d:=(d%1100)) (fun i h4 _=>hl_none hP _ _ h4)).1
 have hnl:=inN_eq (l:=l) (k:=(known%330 - 5))
 have hil:=hR.inf_len (known%330 - 5)
 refine Ct.intro Tryz.func8 rfl Tryz.ntmps8 rfl ?_
 intro w F
 refine A8 ?_
 refine R0 (x3 c_awake22 fi10 rfl) ?_
 refine A9 ?_
 refine R1 (x3 hB fi11 rfl) rfl ?_
 refine A6 ?_
 refine R1 (x3 (c_day22 known) fi18 rfl) rfl ?_
 refine A7 ?_
 refine R3 (x3 (xr5 l (known%330 - 5) hR 1 (by decide)) fi15 rfl) rfl rfl rfl ?_
 refine A11 ?_
 refine R3 (x3 (xr5 l (known%330 - 5) hR 2 (by decide)) fi15 rfl) rfl rfl rfl ?_
 refine A11 ?_
 refine R3 (x3 (xr5 l (known%330 - 5) hR 0 (by decide)) fi15 rfl) rfl rfl rfl ?_
 refine A17 ?_
 refine RGon (decide_eq_false (by omega)) rfl xb6 rfl ⟨rfl,trivial⟩ trivial trivial (RGon (decide_eq_false (by omega)) rfl (x3 (c_CoversM hR 1 (known%330 - 5)) fi33 rfl) rfl ⟨rfl,trivial⟩ trivial trivial (RGon (decide_eq_false (by omega)) rfl xb6 rfl ⟨rfl,trivial⟩ trivial trivial (RGon (decide_eq_false (by omega)) rfl (x3 (c_CoversM hR 2 (known%330 - 5)) fi33 rfl) rfl ⟨rfl,trivial⟩ trivial trivial (RGon (decide_eq_false (by omega)) rfl (x3 (c_sameSv _ _ (cov_eq hR (known%330 - 5))) fi32 rfl) rfl ⟨rfl,rfl,trivial⟩ trivial trivial (RGon (decide_eq_false (by omega)) rfl d_not rfl ⟨rfl,trivial⟩ trivial trivial (R2 (xc4 (decide_eq_false (by omega))) rfl rfl ?_))))))
 refine A7 ?_
 refine R2 (x3 (xn5 0 1 (by decide) (by decide) (by decide) (by decide)) fi29 rfl) rfl rfl (R2 (x3 (xn5 1 1 (by decide) (by decide) (by decide) (by decide)) fi29 rfl) rfl rfl (RE (x6 (k:=14) (n:=4) (agg:=true) zr30.1 zr30.2 rfl) trivial trivial ⟨rfl,trivial⟩ (RE (x6 (k:=15) (n:=4) (agg:=true) zr30.1 zr30.2 rfl) trivial trivial ⟨rfl,trivial⟩ ?_)))
 refine A13 ?_
 refine cL (fun (i:Nat)=>i≤(mT 1 (inf l (known%330 - 5))).length) (fun (i:Nat)=>upd (upd (upd (upd (upd (upd (upd (upd (upd (upd (upd (fun _=>none) 1 (some (.val (tI (known%330 - 5))))) 2 (some (.val (tI d)))) 7 (some (.val (tL 14 true tEv l)))) 8 (some (.val (tL 8 true tTs (mT 1 (inf l (known%330 - 5))))))) 10 (some (.val (tL 8 true tTs (mT 2 (inf l (known%330 - 5))))))) 12 (some (.val (tL 8 true tTs (mT 0 (inf l (known%330 - 5))))))) 14 (some (.own (.ptr 14 0)))) 15 (some (.own (.ptr 15 0)))) 71 (some (.val (tL 8 true tTs (mT 1 (inf l (known%330 - 5))))))) 72 (some (.val (tI (mT 1 (inf l (known%330 - 5))).length)))) 73 (some (.val (tI i)))) (fun (i:Nat)=>upd (upd (fun _=>none) 14 (some (⟨30,4,true,[.val (tFr (fr (kfr 0 1)))]⟩))) 15 (some (⟨30,4,true,[.val (tFr (fr (kfr 1 1)))]⟩))) [14,15] (fun (i:Nat)=>(mT 1 (inf l (known%330 - 5))).length - i) (0) (Nat.zero_le _) (hh:=((SubK.consI rfl ImpK.refl) ((SubK.consI rfl ImpK.refl) SubK.nil))) ?_
 intro i hI
 have hml:=xp1 hR 1 (known%330 - 5)
 have hso:=fun hh=>st_ok hR 1 (known%330 - 5) (i:=i) hh
 have hfo:=fun hh=>ft_ok hR (known%330 - 5) (i:=i) hh
 refine A6 ?_
 refine x9 rfl (fun h199=> ?_) (fun h199=> ?_)
 ·
  refine A6 ?_
  refine R2 (x5 sl37 (i) (by omega) (gD (l:=(mT 1 (inf l (known%330 - 5)))) (n:=i) (d:=tst0) (by omega))) rfl rfl ?_
  refine A1 ?_
  refine RE (x6 (k:=17) (n:=8) (agg:=true) zr77.1 zr77.2 rfl) trivial trivial ⟨rfl,trivial⟩ ?_
  refine A4 ?_
  have hso:=hso (by omega)
  have hk2:((mT 1 (inf l (known%330 - 5))).getD i tst0).v.kind=2:=hso.1.1
  have hc1: ¬cmpQ ((mT 1 (inf l (known%330 - 5))).getD i tst0).v.f.rat (fr (kfr 0 1)).rat < 0:=fun hh=>hso.2 (cmpN.1 hh)
  have hc2: ¬0 < cmpQ ((mT 1 (inf l (known%330 - 5))).getD i tst0).v.f.rat (fr (kfr 1 1)).rat:=fun hh=>hfo (by omega) (cmpP.1 hh)
  refine A3 ?_
  refine xg5 (0) ti5 rfl rfl rfl (At.t (At.g 2 rfl rfl) (At.g 0 rfl rfl)) rfl ?_
  refine A2 ?_
  refine RGon (decide_eq_false (by omega)) rfl (xh8 fo77_2.h rfl) rfl ⟨rfl,trivial⟩ trivial trivial (RGon (decide_eq_false (by omega)) rfl (xh8 fo57_1.h rfl) rfl ⟨rfl,trivial⟩ trivial trivial (xc9 (decide_eq_false (by omega)) rfl rfl (0) ti30 rfl rfl rfl (At.t (At.g 2 rfl rfl) (At.g 1 rfl rfl)) rfl (RGon (decide_eq_false (by omega)) rfl (xb2 (0) ti30 rfl rfl) rfl ⟨rfl,trivial⟩ ⟨rfl,trivial⟩ trivial (RGon (decide_eq_false (by omega)) rfl (x3 (c_FCmpE _ _ hso.1.2 z01) fi34 rfl) rfl ⟨rfl,rfl,trivial⟩ trivial trivial (RGon (decide_eq_false (by omega)) rfl d_lss rfl ⟨rfl,rfl,trivial⟩ trivial trivial (R2 (xc4 (decide_eq_false (by omega))) rfl rfl ?_))))))
  refine A1 ?_
  refine RGon (decide_eq_false (by omega)) rfl (xh8 fo77_2.h rfl) rfl ⟨rfl,trivial⟩ trivial trivial (RGon (decide_eq_false (by omega)) rfl (xh8 fo57_1.h rfl) rfl ⟨rfl,trivial⟩ trivial trivial (xc9 (decide_eq_false (by omega)) rfl rfl (0) ti30 rfl rfl rfl (At.t (At.g 2 rfl rfl) (At.g 1 rfl rfl)) rfl (RGon (decide_eq_false (by omega)) rfl (xb2 (0) ti30 rfl rfl) rfl ⟨rfl,trivial⟩ ⟨rfl,trivial⟩ trivial (RGon (decide_eq_false (by omega)) rfl (x3 (c_FCmpE _ _ hso.1.2 o11) fi34 rfl) rfl ⟨rfl,rfl,trivial⟩ trivial trivial (RGon (decide_eq_false (by omega)) rfl d_gtr rfl ⟨rfl,rfl,trivial⟩ trivial trivial (R2 (xc4 (decide_eq_false (by omega))) rfl rfl ?_))))))
  refine A2 ?_
  refine C_bF rfl (decide_eq_false (by omega)) ?_
  refine A7 ?_
  exact kF (i+1) ⟨(by omega),(by omega)⟩ (hh:=((SubK.consI rfl ImpK.refl) ((SubK.consI rfl ImpK.refl) SubK.nil)))
 ·
  refine A14 ?_
  refine cL (fun (i:Nat)=>i≤(mT 2 (inf l (known%330 - 5))).length) (fun (i:Nat)=>upd (upd (upd (upd (upd (upd (upd (upd (upd (upd (upd (fun _=>none) 1 (some (.val (tI (known%330 - 5))))) 2 (some (.val (tI d)))) 7 (some (.val (tL 14 true tEv l)))) 8 (some (.val (tL 8 true tTs (mT 1 (inf l (known%330 - 5))))))) 10 (some (.val (tL 8 true tTs (mT 2 (inf l (known%330 - 5))))))) 12 (some (.val (tL 8 true tTs (mT 0 (inf l (known%330 - 5))))))) 14 (some (.own (.ptr 14 0)))) 15 (some (.own (.ptr 15 0)))) 98 (some (.val (tL 8 true tTs (mT 2 (inf l (known%330 - 5))))))) 99 (some (.val (tI (mT 2 (inf l (known%330 - 5))).length)))) 100 (some (.val (tI i)))) (fun (i:Nat)=>upd (upd (fun _=>none) 14 (some (⟨30,4,true,[.val (tFr (fr (kfr 0 1)))]⟩))) 15 (some (⟨30,4,true,[.val (tFr (fr (kfr 1 1)))]⟩))) [14,15] (fun (i:Nat)=>(mT 2 (inf l (known%330 - 5))).length - i) (0) (Nat.zero_le _) (hh:=((SubK.consI rfl ImpK.refl) ((SubK.consI rfl ImpK.refl) SubK.nil))) ?_
  intro i hI
  have hml:=xp1 hR 2 (known%330 - 5)
  have hso:=fun hh=>st_ok hR 2 (known%330 - 5) (i:=i) hh
  refine A6 ?_
  refine x9 rfl (fun h204=> ?_) (fun h204=> ?_)
  ·
   refine A6 ?_
   refine R2 (x5 sl37 (i) (by omega) (gD (l:=(mT 2 (inf l (known%330 - 5)))) (n:=i) (d:=tst0) (by omega))) rfl rfl ?_
   refine A1 ?_
   refine RE (x6 (k:=19) (n:=8) (agg:=true) zr77.1 zr77.2 rfl) trivial trivial ⟨rfl,trivial⟩ ?_
   refine A4 ?_
   have hso:=hso (by omega)
   have hk2:((mT 2 (inf l (known%330 - 5))).getD i tst0).v.kind=3:=hso.1.1
   have hc1: ¬cmpQ ((mT 2 (inf l (known%330 - 5))).getD i tst0).v.f.rat (fr (kfr 0 1)).rat < 0:=fun hh=>hso.2 (cmpN.1 hh)
   refine A3 ?_
   refine xg5 (0) ti5 rfl rfl rfl (At.t (At.g 2 rfl rfl) (At.g 0 rfl rfl)) rfl ?_
   refine A2 ?_
   refine RGon (decide_eq_false (by omega)) rfl (xh8 fo77_2.h rfl) rfl ⟨rfl,trivial⟩ trivial trivial (RGon (decide_eq_false (by omega)) rfl (xh8 fo57_1.h rfl) rfl ⟨rfl,trivial⟩ trivial trivial (xc9 (decide_eq_false (by omega)) rfl rfl (0) ti30 rfl rfl rfl (At.t (At.g 2 rfl rfl) (At.g 1 rfl rfl)) rfl (RGon (decide_eq_false (by omega)) rfl (xb2 (0) ti30 rfl rfl) rfl ⟨rfl,trivial⟩ ⟨rfl,trivial⟩ trivial (RGon (decide_eq_false (by omega)) rfl (x3 (c_FCmpE _ _ hso.1.2 z01) fi34 rfl) rfl ⟨rfl,rfl,trivial⟩ trivial trivial (RGon (decide_eq_false (by omega)) rfl d_lss rfl ⟨rfl,rfl,trivial⟩ trivial trivial (R2 (xc4 (decide_eq_false (by omega))) rfl rfl ?_))))))
   refine A2 ?_
   refine C_bF rfl (decide_eq_false (by omega)) ?_
   refine A7 ?_
   exact kF (i+1) ⟨(by omega),(by omega)⟩ (hh:=((SubK.consI rfl ImpK.refl) ((SubK.consI rfl ImpK.refl) SubK.nil)))
  ·
   refine A14 ?_
   refine cL (fun (i:Nat)=>i≤(mT 0 (inf l (known%330 - 5))).length) (fun (i:Nat)=>upd (upd (upd (upd (upd (upd (upd (upd (upd (upd (upd (fun _=>none) 1 (some (.val (tI (known%330 - 5))))) 2 (some (.val (tI d)))) 7 (some (.val (tL 14 true tEv l)))) 8 (some (.val (tL 8 true tTs (mT 1 (inf l (known%330 - 5))))))) 10 (some (.val (tL 8 true tTs (mT 2 (inf l (known%330 - 5))))))) 12 (some (.val (tL 8 true tTs (mT 0 (inf l (known%330 - 5))))))) 14 (some (.own (.ptr 14 0)))) 15 (some (.own (.ptr 15 0)))) 117 (some (.val (tL 8 true tTs (mT 0 (inf l (known%330 - 5))))))) 118 (some (.val (tI (mT 0 (inf l (known%330 - 5))).length)))) 119 (some (.val (tI i)))) (fun (i:Nat)=>upd (upd (fun _=>none) 14 (some (⟨30,4,true,[.val (tFr (fr (kfr 0 1)))]⟩))) 15 (some (⟨30,4,true,[.val (tFr (fr (kfr 1 1)))]⟩))) [14,15] (fun (i:Nat)=>(mT 0 (inf l (known%330 - 5))).length - i) (0) (Nat.zero_le _) (hh:=((SubK.consI rfl ImpK.refl) ((SubK.consI rfl ImpK.refl) SubK.nil))) ?_
   intro i hI
   have hml:=xp1 hR 0 (known%330 - 5)
   have hso:=fun hh=>st_ok hR 0 (known%330 - 5) (i:=i) hh
   have hup:=fun h1 h2=>cr_up hR (known%330 - 5) (i:=i) h1 h2
   have hen:=fun h1 h2=>cr_end hR (known%330 - 5) (i:=i) h1 h2
   refine A6 ?_
   refine x9 rfl (fun h209=> ?_) (fun h209=> ?_)
   ·
    refine A7 ?_
    refine R2 (x5 sl37 (i) (by omega) (gD (l:=(mT 0 (inf l (known%330 - 5)))) (n:=i) (d:=tst0) (by omega))) rfl rfl ?_
    refine A1 ?_
    refine RE (x6 (k:=21) (n:=8) (agg:=true) zr77.1 zr77.2 rfl) trivial trivial ⟨rfl,trivial⟩ ?_
    refine A5 ?_
    have hso:=hso (by omega)
    have hk2:((mT 0 (inf l (known%330 - 5))).getD i tst0).v.kind=2:=hso.1.1
    have hc1:0 < i→ ¬cmpQ ((mT 0 (inf l (known%330 - 5))).getD i tst0).v.f.rat ((mT 0 (inf l (known%330 - 5))).getD (i - 1) tst0).v.f.rat < 0:=fun h0 hh=>(hup (by omega) h0).2 (cmpN.1 hh)
    have hc2:0 < i→((mT 0 (inf l (known%330 - 5))).getD (i - 1) tst0).hi=((mT 0 (inf l (known%330 - 5))).getD i tst0).lo:=fun h0=>(hup (by omega) h0).1
    have hc3:i+1=(mT 0 (inf l (known%330 - 5))).length→((mT 0 (inf l (known%330 - 5))).getD i tst0).hi=65536:=fun he=>hen (by omega) he
    refine A3 ?_
    refine xg5 (0) ti5 rfl rfl rfl (At.t (At.g 2 rfl rfl) (At.g 0 rfl rfl)) rfl ?_
    refine A2 ?_
    refine RGon (decide_eq_false (by omega)) rfl xb6 rfl ⟨rfl,trivial⟩ trivial trivial (RGon (decide_eq_false (by omega)) rfl d_gtr rfl ⟨rfl,rfl,trivial⟩ trivial trivial (RGon (decide_eq_false (by omega)) rfl xb6 rfl ⟨rfl,trivial⟩ trivial trivial ?_))
    refine RGcaseD (t:=131) rfl (fun h210_2=> ?_) (fun h210_2=> ?_)
    ·
     refine A2 ?_
     refine RGon (decide_eq_true h210_2) rfl (xe1 (wr64 (by omega) (by omega))) rfl ⟨rfl,rfl,trivial⟩ trivial trivial (RGon (decide_eq_true h210_2) rfl (x5 sl37 (i - 1) (by omega) (gD (l:=(mT 0 (inf l (known%330 - 5)))) (n:=i - 1) (d:=tst0) (by omega))) rfl ⟨rfl,rfl,trivial⟩ trivial trivial (RGon (decide_eq_true h210_2) rfl (xd0 fo77_1.h (At.f 1 rfl rfl) rfl) rfl ⟨rfl,trivial⟩ trivial trivial ?_))
     refine A5 ?_
     refine RGon (decide_eq_false (by omega)) rfl (xh8 fo77_2.h rfl) rfl ⟨rfl,trivial⟩ trivial trivial (RGon (decide_eq_false (by omega)) rfl (xh8 fo57_1.h rfl) rfl ⟨rfl,trivial⟩ trivial trivial (xc9 (decide_eq_false (by omega)) rfl rfl (0) ti30 rfl rfl rfl (At.t (At.g 2 rfl rfl) (At.g 1 rfl rfl)) rfl (RGon (decide_eq_false (by omega)) rfl xb6 rfl ⟨rfl,trivial⟩ trivial trivial (RGon (decide_eq_false (by omega)) rfl xb6 rfl ⟨rfl,trivial⟩ trivial trivial (RGon (decide_eq_false (by omega)) rfl (xe1 (wr64 (by omega) (by omega))) rfl ⟨rfl,rfl,trivial⟩ trivial trivial (RGon (decide_eq_false (by omega)) rfl (x5 sl37 (i - 1) (by omega) (gD (l:=(mT 0 (inf l (known%330 - 5)))) (n:=i - 1) (d:=tst0) (by omega))) rfl ⟨rfl,rfl,trivial⟩ trivial trivial (RGon (decide_eq_false (by omega)) rfl (xd0 fo77_2.h (At.f 2 rfl rfl) rfl) rfl ⟨rfl,trivial⟩ trivial trivial ?_)))))))
     refine RGon (decide_eq_false (by omega)) rfl (xd0 fo57_1.h (At.f 1 rfl rfl) rfl) rfl ⟨rfl,trivial⟩ trivial trivial (RGon (decide_eq_false (by omega)) rfl (xk1 ti30) rfl ⟨rfl,trivial⟩ trivial trivial (RGon (decide_eq_false (by omega)) rfl (x3 (c_FCmpE _ _ hso.1.2 (st_ok hR 0 (known%330 - 5) (i:=i - 1) (by omega)).1.2) fi34 rfl) rfl ⟨rfl,rfl,trivial⟩ trivial trivial (RGon (decide_eq_false (by omega)) rfl d_lss rfl ⟨rfl,rfl,trivial⟩ trivial trivial (RGon (decide_eq_true h210_2) rfl (xc4 (decide_eq_false (by omega))) rfl ⟨rfl,rfl,trivial⟩ trivial trivial (RGon (decide_eq_false (by omega)) rfl (xe9 (decide_eq_true h210_2)) rfl ⟨rfl,rfl,trivial⟩ trivial trivial (R2 (xc4 (decide_eq_false (by omega))) rfl rfl ?_))))))
     refine A1 ?_
     refine RGon (decide_eq_false (by omega)) rfl xb6 rfl ⟨rfl,trivial⟩ trivial trivial (RGon (decide_eq_false (by omega)) rfl xb6 rfl ⟨rfl,trivial⟩ trivial trivial (RGon (decide_eq_false (by omega)) rfl (d_len Tryz.underlying37) rfl ⟨rfl,trivial⟩ trivial trivial (RGon (decide_eq_false (by omega)) rfl (xe1 (wr64 (by omega) (by omega))) rfl ⟨rfl,rfl,trivial⟩ trivial trivial (RGon (decide_eq_false (by omega)) rfl d_eql rfl ⟨rfl,rfl,trivial⟩ trivial trivial (RGon (decide_eq_false (by omega)) rfl xb6 rfl ⟨rfl,trivial⟩ trivial trivial ?_)))))
     refine RGcaseD (t:=163) rfl (fun h210_5=> ?_) (fun h210_5=> ?_)
     ·
      refine A3 ?_
      refine RGon (decide_eq_false (by omega)) rfl (xe9 (decide_eq_true h210_5)) rfl ⟨rfl,rfl,trivial⟩ trivial trivial (R2 (xc4 (decide_eq_false (by omega))) rfl rfl ?_)
      refine A2 ?_
      refine C_bF rfl (decide_eq_false (by omega)) ?_
      refine A7 ?_
      exact kF (i+1) ⟨(by omega),(by omega)⟩ (hh:=((SubK.consI rfl ImpK.refl) ((SubK.consI rfl ImpK.refl) SubK.nil)))
     ·
      refine A3 ?_
      refine RGon (decide_eq_false (by omega)) rfl (xc4 (decide_eq_false h210_5)) rfl ⟨rfl,rfl,trivial⟩ trivial trivial (R2 (xc4 (decide_eq_false (by omega))) rfl rfl ?_)
      refine A10 ?_
      exact kF (i+1) ⟨(by omega),(by omega)⟩ (hh:=((SubK.consI rfl ImpK.refl) ((SubK.consI rfl ImpK.refl) SubK.nil)))
    ·
     refine A18 ?_
     refine A5 ?_
     refine RGon (decide_eq_false (by omega)) rfl (xc4 (decide_eq_false h210_2)) rfl ⟨rfl,rfl,trivial⟩ trivial trivial (R2 (xc4 (decide_eq_false (by omega))) rfl rfl ?_)
     refine A4 ?_
     refine RGon rfl rfl (xe1 (wr64 (by omega) (by omega))) rfl ⟨rfl,rfl,trivial⟩ trivial trivial ?_
     refine A2 ?_
     refine RGcaseD (t:=163) rfl (fun h210_3=> ?_) (fun h210_3=> ?_)
     ·
      refine A3 ?_
      refine RGon rfl rfl (xe9 (decide_eq_true h210_3)) rfl ⟨rfl,rfl,trivial⟩ trivial trivial ?_
      refine A3 ?_
      refine C_bF rfl (decide_eq_false (by omega)) ?_
      refine A7 ?_
      exact kF (i+1) ⟨(by omega),(by omega)⟩ (hh:=((SubK.consI rfl ImpK.refl) ((SubK.consI rfl ImpK.refl) SubK.nil)))
     ·
      refine A3 ?_
      refine RGon rfl rfl (xc4 (decide_eq_false h210_3)) rfl ⟨rfl,rfl,trivial⟩ trivial trivial ?_
      refine A11 ?_
      exact kF (i+1) ⟨(by omega),(by omega)⟩ (hh:=((SubK.consI rfl ImpK.refl) ((SubK.consI rfl ImpK.refl) SubK.nil)))
   ·
    refine A8 ?_
    refine R2 (x3 (c_Pick d 1100 (by decide) (by decide)) fi27 rfl) rfl rfl ?_
    refine A7 ?_
    refine R2 (x3 (c_InForceG hR (known%330 - 5)) fi17 rfl) rfl rfl ?_
    refine A15 ?_
    refine cL (fun (fm:(Nat)×(Bool))=>(fun (j:Nat) (b:Bool)=>j≤3∧b=(heldQ (inf l (known%330 - 5)) (d%1100) j)) fm.1 fm.2) (fun (fm:(Nat)×(Bool))=>(fun (j:Nat) (b:Bool)=>upd (upd (upd (upd (upd (upd (fun _=>none) 2 (some (.val (tI (d%1100))))) 7 (some (.val (tL 14 true tEv l)))) 8 (some (.val (tL 8 true tTs (mT 1 (inf l (known%330 - 5))))))) 22 (some (.val (tL 1 false tI (infN l (known%330 - 5)))))) 23 (some (.val (tB b)))) 24 (some (.val (tI ((j:Int)+1))))) fm.1 fm.2) (fun (fm:(Nat)×(Bool))=>(fun (j:Nat) (b:Bool)=>fun _=>none) fm.1 fm.2) [] (fun (fm:(Nat)×(Bool))=>(fun (j:Nat) (b:Bool)=>3 - j) fm.1 fm.2) ((0,false)) (by dsimp only;exact ⟨Nat.zero_le _,rfl⟩) ?_
    intro fm hI2
    obtain ⟨j,b⟩:=fm
    replace hI2:j≤3∧b=(heldQ (inf l (known%330 - 5)) (d%1100) j):=hI2
    show wc _ _ _ _ (upd (upd (upd (upd (upd (upd (fun _=>none) 2 (some (.val (tI (d%1100))))) 7 (some (.val (tL 14 true tEv l)))) 8 (some (.val (tL 8 true tTs (mT 1 (inf l (known%330 - 5))))))) 22 (some (.val (tL 1 false tI (infN l (known%330 - 5)))))) 23 (some (.val (tB b)))) 24 (some (.val (tI ((j:Int)+1))))) (fun _=>none) _
    obtain ⟨hj,hb⟩:=hI2
    have hhn:(heldQ (inf l (known%330 - 5)) (d%1100) (j+1))=((heldQ (inf l (known%330 - 5)) (d%1100) j) || (hireE (inf l (known%330 - 5)) ((j+1:Nat):Int) (d%1100)).isSome):=rfl
    refine A7 ?_
    refine x9 rfl (fun h217=> ?_) (fun h217=> ?_)
    ·
     refine A18 ?_
     refine cL (fun (fm:(Nat)×(Int))=>(fun (q:Nat) (at1:Int)=>q≤(infN l (known%330 - 5)).length∧atOk l (lastE (pHire ((j:Int)+1) (d%1100)) ((inf l (known%330 - 5)).take q)) at1) fm.1 fm.2) (fun (fm:(Nat)×(Int))=>(fun (q:Nat) (at1:Int)=>upd (upd (upd (upd (upd (upd (upd (upd (upd (upd (fun _=>none) 2 (some (.val (tI (d%1100))))) 7 (some (.val (tL 14 true tEv l)))) 8 (some (.val (tL 8 true tTs (mT 1 (inf l (known%330 - 5))))))) 22 (some (.val (tL 1 false tI (infN l (known%330 - 5)))))) 23 (some (.val (tB b)))) 24 (some (.val (tI ((j:Int)+1))))) 25 (some (.val (tI at1)))) 179 (some (.val (tL 1 false tI (infN l (known%330 - 5)))))) 180 (some (.val (tI (infN l (known%330 - 5)).length)))) 181 (some (.val (tI q)))) fm.1 fm.2) (fun (fm:(Nat)×(Int))=>(fun (q:Nat) (at1:Int)=>fun _=>none) fm.1 fm.2) [] (fun (fm:(Nat)×(Int))=>(fun (q:Nat) (at1:Int)=>(infN l (known%330 - 5)).length - q) fm.1 fm.2) ((0, -1)) (by dsimp only;exact ⟨Nat.zero_le _,.inl ⟨rfl,rfl⟩⟩) ?_
     intro fm hI3
     obtain ⟨q,at1⟩:=fm
     replace hI3:q≤(infN l (known%330 - 5)).length∧atOk l (lastE (pHire ((j:Int)+1) (d%1100)) ((inf l (known%330 - 5)).take q)) at1:=hI3
     show wc _ _ _ _ (upd (upd (upd (upd (upd (upd (upd (upd (upd (upd (fun _=>none) 2 (some (.val (tI (d%1100))))) 7 (some (.val (tL 14 true tEv l)))) 8 (some (.val (tL 8 true tTs (mT 1 (inf l (known%330 - 5))))))) 22 (some (.val (tL 1 false tI (infN l (known%330 - 5)))))) 23 (some (.val (tB b)))) 24 (some (.val (tI ((j:Int)+1))))) 25 (some (.val (tI at1)))) 179 (some (.val (tL 1 false tI (infN l (known%330 - 5)))))) 180 (some (.val (tI (infN l (known%330 - 5)).length)))) 181 (some (.val (tI q)))) (fun _=>none) _
     obtain ⟨hq,hat⟩:=hI3
     have hatl:at1 < l.length:=by rcases hat with ⟨h2,_⟩ | ⟨h2,_⟩ <;> omega
     refine A6 ?_
     refine x9 rfl (fun h219=> ?_) (fun h219=> ?_)
     ·
      refine A6 ?_
      refine R2 (x5 sl42 (q) (by omega) (gD (l:=(infN l (known%330 - 5))) (n:=q) (d:=0) (by omega))) rfl rfl ?_
      refine A5 ?_
      obtain ⟨x,hx1,hx2,hx3⟩:=inN_at (l:=l) (k:=(known%330 - 5)) (q:=q) (by omega)
      rw [hx2]
      refine A4 ?_
      refine R2 (x5 sl24 (x) (by omega) (gD (l:=l) (n:=x) (d:=ev0) (by omega))) rfl rfl ?_
      refine A1 ?_
      refine RE (x6 (k:=28) (n:=14) (agg:=true) zr32.1 zr32.2 rfl) trivial trivial ⟨rfl,trivial⟩ ?_
      refine A9 ?_
      refine RGcaseD (t:=193) rfl (fun h221=> ?_) (fun h221=> ?_)
      ·
       refine A11 ?_
       refine RGcaseD (t:=204) rfl (fun h221_2=> ?_) (fun h221_2=> ?_)
       ·
        refine A6 ?_
        refine RGcaseD (t:=210) rfl (fun h221_3=> ?_) (fun h221_3=> ?_)
        ·
         refine A3 ?_
         refine RGcaseD (t:=213) rfl (fun h221_4=> ?_) (fun h221_4=> ?_)
         ·
          refine A8 ?_
          refine RGon (decide_eq_true h221_3) rfl (xe9 (decide_eq_true h221_4)) rfl ⟨rfl,rfl,trivial⟩ trivial trivial ?_
          refine A15 ?_
          have hst:(lastE (pHire ((j:Int)+1) (d%1100)) ((inf l (known%330 - 5)).take (q+1)))=last1 (pHire ((j:Int)+1) (d%1100)) (lastE (pHire ((j:Int)+1) (d%1100)) ((inf l (known%330 - 5)).take q)) (l.getD x ev0):=by rw [xb3 (by omega),hx3]
          have hdy:((lastE (pHire ((j:Int)+1) (d%1100)) ((inf l (known%330 - 5)).take q))).isSome=true→(((lastE (pHire ((j:Int)+1) (d%1100)) ((inf l (known%330 - 5)).take q))).getD ev0).day≤(l.getD x ev0).day:=fun hs=>by
           rcases hat with ⟨_,h2⟩ | ⟨h2,_⟩
           ·rw [h2] at hs;cases hs
           ·omega
          have hpt:pHire ((j:Int)+1) (d%1100) (l.getD x ev0)=true:=by
           simp only [pHire,Bool.and_eq_true,Bool.or_eq_true,decide_eq_true_eq]
           exact ⟨⟨by omega,by omega⟩,by omega⟩
          exact kF ((q+1,(x:Int))) ⟨(by dsimp only;exact ⟨by omega,.inr ⟨⟨by omega,by omega⟩,by rw [hst,last1,if_pos ⟨hpt,hdy⟩];rfl⟩⟩),(by dsimp only;omega)⟩
         ·
          refine A4 ?_
          refine RGon (decide_eq_false h221_4) rfl (x5 sl24 (at1.toNat) (by omega) (gD (l:=l) (n:=at1.toNat) (d:=ev0) (by omega))) rfl ⟨rfl,rfl,trivial⟩ trivial trivial (RGon (decide_eq_false h221_4) rfl (xd0 fo32_3.h (At.f 3 rfl rfl) rfl) rfl ⟨rfl,trivial⟩ trivial trivial ?_)
          refine A2 ?_
          refine RGon (decide_eq_true h221_3) rfl (xc4 (decide_eq_false h221_4)) rfl ⟨rfl,rfl,trivial⟩ trivial trivial ?_
          refine A3 ?_
          refine x9 rfl (fun h221_5=> ?_) (fun h221_5=> ?_)
          ·
           refine A11 ?_
           have hst:(lastE (pHire ((j:Int)+1) (d%1100)) ((inf l (known%330 - 5)).take (q+1)))=last1 (pHire ((j:Int)+1) (d%1100)) (lastE (pHire ((j:Int)+1) (d%1100)) ((inf l (known%330 - 5)).take q)) (l.getD x ev0):=by rw [xb3 (by omega),hx3]
           have hdy:((lastE (pHire ((j:Int)+1) (d%1100)) ((inf l (known%330 - 5)).take q))).isSome=true→(((lastE (pHire ((j:Int)+1) (d%1100)) ((inf l (known%330 - 5)).take q))).getD ev0).day≤(l.getD x ev0).day:=fun hs=>by
            rcases hat with ⟨h2,_⟩ | ⟨_,h3⟩
            ·omega
            ·rw [h3];show (l.getD at1.toNat ev0).day≤_;omega
           have hpt:pHire ((j:Int)+1) (d%1100) (l.getD x ev0)=true:=by
            simp only [pHire,Bool.and_eq_true,Bool.or_eq_true,decide_eq_true_eq]
            exact ⟨⟨by omega,by omega⟩,by omega⟩
           exact kF ((q+1,(x:Int))) ⟨(by dsimp only;exact ⟨by omega,.inr ⟨⟨by omega,by omega⟩,by rw [hst,last1,if_pos ⟨hpt,hdy⟩];rfl⟩⟩),(by dsimp only;omega)⟩
          ·
           refine A7 ?_
           have hst:(lastE (pHire ((j:Int)+1) (d%1100)) ((inf l (known%330 - 5)).take (q+1)))=last1 (pHire ((j:Int)+1) (d%1100)) (lastE (pHire ((j:Int)+1) (d%1100)) ((inf l (known%330 - 5)).take q)) (l.getD x ev0):=by rw [xb3 (by omega),hx3]
           exact kF ((q+1,at1)) ⟨(by dsimp only;exact ⟨by omega,by rw [hst,last1,if_neg (fun hh=>by rcases hat with ⟨h2,_⟩ | ⟨_,h3⟩;omega;have h4:=hh.2;rw [h3] at h4;have h5:(l.getD at1.toNat ev0).day≤(l.getD x ev0).day:=h4 rfl;omega)];exact hat⟩),(by dsimp only;omega)⟩
        ·
         refine A18 ?_
         refine A5 ?_
         have hst:(lastE (pHire ((j:Int)+1) (d%1100)) ((inf l (known%330 - 5)).take (q+1)))=last1 (pHire ((j:Int)+1) (d%1100)) (lastE (pHire ((j:Int)+1) (d%1100)) ((inf l (known%330 - 5)).take q)) (l.getD x ev0):=by rw [xb3 (by omega),hx3]
         exact kF ((q+1,at1)) ⟨(by dsimp only;exact ⟨by omega,by rw [hst,last1,if_neg (fun hh=>by have h1:=hh.1;simp only [pHire,Bool.and_eq_true,Bool.or_eq_true,decide_eq_true_eq] at h1;omega)];exact hat⟩),(by dsimp only;omega)⟩
       ·
        refine A18 ?_
        refine A11 ?_
        have hst:(lastE (pHire ((j:Int)+1) (d%1100)) ((inf l (known%330 - 5)).take (q+1)))=last1 (pHire ((j:Int)+1) (d%1100)) (lastE (pHire ((j:Int)+1) (d%1100)) ((inf l (known%330 - 5)).take q)) (l.getD x ev0):=by rw [xb3 (by omega),hx3]
        exact kF ((q+1,at1)) ⟨(by dsimp only;exact ⟨by omega,by rw [hst,last1,if_neg (fun hh=>by have h1:=hh.1;simp only [pHire,Bool.and_eq_true,Bool.or_eq_true,decide_eq_true_eq] at h1;omega)];exact hat⟩),(by dsimp only;omega)⟩
      ·
       refine A5 ?_
       refine RGcaseD (t:=198) rfl (fun h221_2=> ?_) (fun h221_2=> ?_)
       ·
        refine A6 ?_
        refine RGcaseD (t:=204) rfl (fun h221_3=> ?_) (fun h221_3=> ?_)
        ·
         refine A6 ?_
         refine RGcaseD (t:=210) rfl (fun h221_4=> ?_) (fun h221_4=> ?_)
         ·
          refine A3 ?_
          refine RGcaseD (t:=213) rfl (fun h221_5=> ?_) (fun h221_5=> ?_)
          ·
           refine A8 ?_
           refine RGon (decide_eq_true h221_4) rfl (xe9 (decide_eq_true h221_5)) rfl ⟨rfl,rfl,trivial⟩ trivial trivial ?_
           refine A15 ?_
           have hst:(lastE (pHire ((j:Int)+1) (d%1100)) ((inf l (known%330 - 5)).take (q+1)))=last1 (pHire ((j:Int)+1) (d%1100)) (lastE (pHire ((j:Int)+1) (d%1100)) ((inf l (known%330 - 5)).take q)) (l.getD x ev0):=by rw [xb3 (by omega),hx3]
           have hdy:((lastE (pHire ((j:Int)+1) (d%1100)) ((inf l (known%330 - 5)).take q))).isSome=true→(((lastE (pHire ((j:Int)+1) (d%1100)) ((inf l (known%330 - 5)).take q))).getD ev0).day≤(l.getD x ev0).day:=fun hs=>by
            rcases hat with ⟨_,h2⟩ | ⟨h2,_⟩
            ·rw [h2] at hs;cases hs
            ·omega
           have hpt:pHire ((j:Int)+1) (d%1100) (l.getD x ev0)=true:=by
            simp only [pHire,Bool.and_eq_true,Bool.or_eq_true,decide_eq_true_eq]
            exact ⟨⟨by omega,by omega⟩,by omega⟩
           exact kF ((q+1,(x:Int))) ⟨(by dsimp only;exact ⟨by omega,.inr ⟨⟨by omega,by omega⟩,by rw [hst,last1,if_pos ⟨hpt,hdy⟩];rfl⟩⟩),(by dsimp only;omega)⟩
          ·
           refine A4 ?_
           refine RGon (decide_eq_false h221_5) rfl (x5 sl24 (at1.toNat) (by omega) (gD (l:=l) (n:=at1.toNat) (d:=ev0) (by omega))) rfl ⟨rfl,rfl,trivial⟩ trivial trivial (RGon (decide_eq_false h221_5) rfl (xd0 fo32_3.h (At.f 3 rfl rfl) rfl) rfl ⟨rfl,trivial⟩ trivial trivial ?_)
           refine A2 ?_
           refine RGon (decide_eq_true h221_4) rfl (xc4 (decide_eq_false h221_5)) rfl ⟨rfl,rfl,trivial⟩ trivial trivial ?_
           refine A3 ?_
           refine x9 rfl (fun h221_6=> ?_) (fun h221_6=> ?_)
           ·
            refine A11 ?_
            have hst:(lastE (pHire ((j:Int)+1) (d%1100)) ((inf l (known%330 - 5)).take (q+1)))=last1 (pHire ((j:Int)+1) (d%1100)) (lastE (pHire ((j:Int)+1) (d%1100)) ((inf l (known%330 - 5)).take q)) (l.getD x ev0):=by rw [xb3 (by omega),hx3]
            have hdy:((lastE (pHire ((j:Int)+1) (d%1100)) ((inf l (known%330 - 5)).take q))).isSome=true→(((lastE (pHire ((j:Int)+1) (d%1100)) ((inf l (known%330 - 5)).take q))).getD ev0).day≤(l.getD x ev0).day:=fun hs=>by
             rcases hat with ⟨h2,_⟩ | ⟨_,h3⟩
             ·omega
             ·rw [h3];show (l.getD at1.toNat ev0).day≤_;omega
            have hpt:pHire ((j:Int)+1) (d%1100) (l.getD x ev0)=true:=by
             simp only [pHire,Bool.and_eq_true,Bool.or_eq_true,decide_eq_true_eq]
             exact ⟨⟨by omega,by omega⟩,by omega⟩
            exact kF ((q+1,(x:Int))) ⟨(by dsimp only;exact ⟨by omega,.inr ⟨⟨by omega,by omega⟩,by rw [hst,last1,if_pos ⟨hpt,hdy⟩];rfl⟩⟩),(by dsimp only;omega)⟩
           ·
            refine A7 ?_
            have hst:(lastE (pHire ((j:Int)+1) (d%1100)) ((inf l (known%330 - 5)).take (q+1)))=last1 (pHire ((j:Int)+1) (d%1100)) (lastE (pHire ((j:Int)+1) (d%1100)) ((inf l (known%330 - 5)).take q)) (l.getD x ev0):=by rw [xb3 (by omega),hx3]
            exact kF ((q+1,at1)) ⟨(by dsimp only;exact ⟨by omega,by rw [hst,last1,if_neg (fun hh=>by rcases hat with ⟨h2,_⟩ | ⟨_,h3⟩;omega;have h4:=hh.2;rw [h3] at h4;have h5:(l.getD at1.toNat ev0).day≤(l.getD x ev0).day:=h4 rfl;omega)];exact hat⟩),(by dsimp only;omega)⟩
         ·
          refine A18 ?_
          refine A5 ?_
          have hst:(lastE (pHire ((j:Int)+1) (d%1100)) ((inf l (known%330 - 5)).take (q+1)))=last1 (pHire ((j:Int)+1) (d%1100)) (lastE (pHire ((j:Int)+1) (d%1100)) ((inf l (known%330 - 5)).take q)) (l.getD x ev0):=by rw [xb3 (by omega),hx3]
          exact kF ((q+1,at1)) ⟨(by dsimp only;exact ⟨by omega,by rw [hst,last1,if_neg (fun hh=>by have h1:=hh.1;simp only [pHire,Bool.and_eq_true,Bool.or_eq_true,decide_eq_true_eq] at h1;omega)];exact hat⟩),(by dsimp only;omega)⟩
        ·
         refine A18 ?_
         refine A11 ?_
         have hst:(lastE (pHire ((j:Int)+1) (d%1100)) ((inf l (known%330 - 5)).take (q+1)))=last1 (pHire ((j:Int)+1) (d%1100)) (lastE (pHire ((j:Int)+1) (d%1100)) ((inf l (known%330 - 5)).take q)) (l.getD x ev0):=by rw [xb3 (by omega),hx3]
         exact kF ((q+1,at1)) ⟨(by dsimp only;exact ⟨by omega,by rw [hst,last1,if_neg (fun hh=>by have h1:=hh.1;simp only [pHire,Bool.and_eq_true,Bool.or_eq_true,decide_eq_true_eq] at h1;omega)];exact hat⟩),(by dsimp only;omega)⟩
       ·
        refine A18 ?_
        refine A17 ?_
        have hst:(lastE (pHire ((j:Int)+1) (d%1100)) ((inf l (known%330 - 5)).take (q+1)))=last1 (pHire ((j:Int)+1) (d%1100)) (lastE (pHire ((j:Int)+1) (d%1100)) ((inf l (known%330 - 5)).take q)) (l.getD x ev0):=by rw [xb3 (by omega),hx3]
        exact kF ((q+1,at1)) ⟨(by dsimp only;exact ⟨by omega,by rw [hst,last1,if_neg (fun hh=>by have h1:=hh.1;simp only [pHire,Bool.and_eq_true,Bool.or_eq_true,decide_eq_true_eq] at h1;omega)];exact hat⟩),(by dsimp only;omega)⟩
     ·
      refine A5 ?_
      have hqe:(inf l (known%330 - 5)).take q=(inf l (known%330 - 5)):=List.take_of_length_le (by omega)
      rw [hqe] at hat
      have hhi:0≤at1→(hireE (inf l (known%330 - 5)) ((j+1:Nat):Int) (d%1100)).isSome=decide (((l.getD at1.toNat ev0).knd:Int)=1):=fun h0=>by
       rcases hat with ⟨h2,_⟩ | ⟨_,h3⟩
       ·omega
       ·rw [hireE,show ((j+1:Nat):Int)=(j:Int)+1 by omega,h3];dsimp only;split <;> rename_i h7
        ·rw [decide_eq_true (by omega)];rfl
        ·rw [decide_eq_false (by omega)];rfl
      have hno: ¬0≤at1→(hireE (inf l (known%330 - 5)) ((j+1:Nat):Int) (d%1100)).isSome=false:=fun h0=>by
       rcases hat with ⟨_,h3⟩ | ⟨h2,_⟩
       ·rw [hireE,show ((j+1:Nat):Int)=(j:Int)+1 by omega,h3];rfl
       ·omega
      refine A3 ?_
      refine RGcase (t:=228) rfl (fun h225=> ?_) (fun h225=> ?_)
      ·
       refine A18 ?_
       refine A2 ?_
       exact kF ((j+1,true)) ⟨(by dsimp only;exact ⟨by omega,by rw [hhn,←hb,h225];rfl⟩),(by dsimp only;omega)⟩
      ·
       refine A3 ?_
       refine RGcaseD (t:=231) rfl (fun h225_2=> ?_) (fun h225_2=> ?_)
       ·
        refine A2 ?_
        refine RGon (decide_eq_true h225_2) rfl (x5 sl24 (at1.toNat) (by omega) (gD (l:=l) (n:=at1.toNat) (d:=ev0) (by omega))) rfl ⟨rfl,rfl,trivial⟩ trivial trivial (RGon (decide_eq_true h225_2) rfl (xd0 fo32_0.h (At.f 0 rfl rfl) rfl) rfl ⟨rfl,trivial⟩ trivial trivial ?_)
        refine A2 ?_
        refine RGon h225 rfl (xe9 (decide_eq_true h225_2)) rfl ⟨rfl,rfl,trivial⟩ trivial trivial ?_
        refine A10 ?_
        exact kF ((j+1,decide (((l.getD at1.toNat ev0).knd:Int)=1))) ⟨(by dsimp only;exact ⟨by omega,by rw [hhn,←hb,h225,hhi (by omega)];rfl⟩),(by dsimp only;omega)⟩
       ·
        refine A6 ?_
        refine RGon h225 rfl (xc4 (decide_eq_false h225_2)) rfl ⟨rfl,rfl,trivial⟩ trivial trivial ?_
        refine A10 ?_
        exact kF ((j+1,false)) ⟨(by dsimp only;exact ⟨by omega,by rw [hhn,←hb,h225,hno (by omega)];rfl⟩),(by dsimp only;omega)⟩
    ·
     refine A6 ?_
     have hj3:j=3:=by omega
     subst hj3
     have hse:(valT (mT 1 (inf l (known%330 - 5))) (d%1100)).isSome=b:=by rw [hfi,h38,hb]
     refine A3 ?_
     refine R2 (x3 (c_AtM hR 1 (known%330 - 5) (d%1100)) fi28 rfl) rfl rfl ?_
     refine A3 ?_
     refine RE (x6 (k:=29) (n:=6) (agg:=true) zr57.1 zr57.2 rfl) trivial trivial ⟨rfl,trivial⟩ ?_
     refine A13 ?_
     exact x4 Plain.mk' rfl rfl (Le.bool (by simp [hse]))
end An.S
