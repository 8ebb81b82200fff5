/- Part 5 of a proof: F15. -/
import Derived.Test.YtdilcbnmhgjheaaGreatDoorE4
set_option maxHeartbeats 4000000
set_option maxRecDepth 100000
namespace An.S
open Go Go.Proofs An
section
variable {D B:Int} {a:List Fa}
theorem told_knw (h:gR D B a) (key:ByteArray) (K:Int):knw (toldT a key 65536) K=toldT a key K:=by
 rw [knw,toldT,ssort_filter,toldT,List.filter_filter]
 congr 1
 refine List.filter_congr fun f hf=> ?_
 have:=(h.2 f hf).1.2
 rw [Bool.eq_iff_iff]
 simp only [Bool.and_eq_true,decide_eq_true_eq]
 exact ⟨fun hh=>⟨hh.2.1,hh.1⟩,fun hh=>⟨hh.2,hh.1,by omega⟩⟩
theorem told_srt (key:ByteArray) (K:Int): ∀i j,i < j→j < (toldT a key K).length→((toldT a key K).getD i fa0).kn≤((toldT a key K).getD j fa0).kn:=fun i j h1 h2=>by
 have h3:=List.pairwise_iff_getElem.1 (xp3 (k:=Fa.kn) (a.filter fun f=>decide (f.key=key) && decide (f.kn≤K))) i j (by rw [toldT] at h2;omega) (by rw [toldT] at h2;exact h2) h1
 rw [List.getD_eq_getElem?_getD,List.getD_eq_getElem?_getD,List.getElem?_eq_getElem (by omega),List.getElem?_eq_getElem h2];exact h3
theorem vw_nil:vwT []=[]:=List.eq_nil_of_length_eq_zero (by have:=vw_len (T:=[]);simpa using this)
theorem lrnLaw (h:gR D B a) (key:ByteArray):(∀k∈lrnT (toldT a key 65536),(0≤k∧k≤65535)∧(∃f∈a,f.kn=k∧f.key=key)∧(dfS (vwT (toldT a key (k - 1))) (vwT (toldT a key k))).length≠0)∧(lrnT (toldT a key 65536)).Pairwise (· < ·)∧ ∀K,vwT (toldT a key K)=vwT (toldT a key ((lst (lrnT (toldT a key 65536)) K).getD (-1)))∧(lst (lrnT (toldT a key 65536)) K=none→(vwT (toldT a key K)).length=0):=by
 have hT: ∀f∈toldT a key 65536,gF1 D B f:=fun f hf=>h.2 f (told_mem.1 hf).1
 have hm:=lrn_ok hT (told_srt key 65536) _ 0 (Nat.le_refl _) fun q hq=>absurd hq (Nat.not_lt_zero q)
 rw [Nat.sub_zero,←lrnT] at hm
 obtain ⟨h1,h2,h3⟩:=hm
 have z: ∀K,vwT (knw (toldT a key 65536) K)=vwT (toldT a key K):=fun K=>by rw [told_knw h]
 refine ⟨fun k hk=> ?_,h2,fun K=> ?_⟩
 ·obtain ⟨_,⟨f,hf,e⟩,hv⟩:=h1 k hk
  have hf2:=told_mem.1 hf
  have hf3:=(h.2 f hf2.1).1.2
  refine ⟨by omega,⟨f,hf2.1,e,hf2.2.1⟩,fun h0=>hv ?_⟩
  rw [z,z]
  have hd:=df_view h h (key:=key) (k1:=k - 1) (k2:=k)
  rw [List.eq_nil_of_length_eq_zero h0] at hd
  exact vw_ext fun d=>Decidable.byContradiction fun hc=>by have:=(hd.2 d).2 hc;cases this
 ·have h4:=h3 K fun q hq=>absurd hq (Nat.not_lt_zero q)
  rw [z,List.take_zero,vw_nil] at h4
  cases hl:lst (lrnT (toldT a key 65536)) K with
  | none=>
   rw [hl] at h4
   have h5:vwT (toldT a key K)=[]:=h4
   have h6:toldT a key (-1)=[]:=List.eq_nil_iff_forall_not_mem.2 fun f hf=>by
    have h7:=told_mem.1 hf
    have:=(h.2 f h7.1).1.2
    omega
   refine ⟨?_,fun _=>by rw [h5];rfl⟩
   show _=vwT (toldT a key (-1))
   rw [h5,h6,vw_nil]
  | some k=>
   rw [hl] at h4
   have h5:vwT (toldT a key K)=vwT (knw (toldT a key 65536) k):=h4
   exact ⟨by rw [h5,z];rfl,fun h=>by cases h⟩
end
theorem lst_next {R:List Int} {i:Nat} {K:Int} (hi:i < R.length):lst (R.take (i+1)) K=if R.getD i 0≤K then some (R.getD i 0) else lst (R.take i) K:=by
 rw [lst,List.take_succ_eq_append_getElem hi,List.filter_append,List.getLast?_append,List.getD_eq_getElem?_getD,List.getElem?_eq_getElem hi,lst,List.filter_cons,List.filter_nil]
 simp only [Option.getD_some,decide_eq_true_eq]
 split
 ·rfl
 ·cases ((R.take i).filter fun k=>decide (k≤K)).getLast? <;> rfl
theorem lst_mem {R:List Int} {K k:Int} (h:lst R K=some k):k∈R:=(List.mem_filter.1 (List.mem_of_getLast? h)).1
theorem lst_none {R:List Int} {K at1:Int} (hA: ∀k∈R,0≤k) (hat:at1=(lst R K).getD (-1)) (h: ¬at1≥0):lst R K=none:=by
 cases hl:lst R K with
 | none=>rfl
 | some k=>
  rw [hl] at hat
  have h1:at1=k:=hat
  have:=hA k (lst_mem hl)
  omega
def anB (a:List Fa) (key:ByteArray) (k:Int):Nat→Bool
 | 0=>false
 | j+1=>anB a key k j || (decide ((a.getD j fa0).kn=k) && decide ((a.getD j fa0).key=key))
theorem anB_at {a:List Fa} {key:ByteArray} {k:Int} {i:Nat} (h1:(a.getD i fa0).kn=k) (h2:(a.getD i fa0).key=key): ∀{n:Nat},i < n→anB a key k n=true
 | 0,h=>absurd h (Nat.not_lt_zero i)
 | n+1,h=>by
  rw [anB,Bool.or_eq_true,Bool.and_eq_true,decide_eq_true_eq,decide_eq_true_eq]
  rcases Nat.lt_or_ge i n with h3 | h3
  ·exact .inl (anB_at h1 h2 h3)
  ·rw [show n=i by omega];exact .inr ⟨h1,h2⟩
theorem anB_all {a:List Fa} {key:ByteArray} {k:Int} (h: ∃f∈a,f.kn=k∧f.key=key):anB a key k a.length=true:=by
 obtain ⟨f,hf,h1,h2⟩:=h
 obtain ⟨i,hi,rfl⟩:=List.mem_iff_getElem.1 hf
 have e:a.getD i fa0=a[i]:=by rw [List.getD_eq_getElem?_getD,List.getElem?_eq_getElem hi];rfl
 exact anB_at (i:=i) (by rw [e];exact h1) (by rw [e];exact h2) hi
theorem c_FaLearns (m:List Nt) (known:Int) (hm: ∀n∈m,ntOk n):
  Ct Tryz.prog 4 [tL 5 true tNt m,tI known] (tB true):=by
 have hR:=btT_ok hm
 have hbl:=btT_len (m:=m)
 have hB:=c_Built06 m hm
 generalize btT m=a at*
 have hLe:=c_LearnsG hR kFte
 obtain ⟨hA,hP,hC⟩:=lrnLaw hR kFte
 generalize lrnT (toldT a kFte 65536)=R at*
 refine Ct.intro Tryz.func4 rfl Tryz.ntmps4 rfl ?_
 intro w F
 refine A8 ?_
 refine R0 (x4 c_awake06 fi10 rfl) ?_
 refine A9 ?_
 refine R1 (x4 hB fi11 rfl) rfl ?_
 refine A6 ?_
 refine R2 (x4 hLe fi14 rfl) rfl rfl ?_
 refine A17 ?_
 refine xf0 (s:=6) rfl (fun hl0=> ?_)
 refine cL (fun (fm:(Nat)×(Int))=>(fun (i:Nat) (at1:Int)=>i≤R.length∧at1=(lst (R.take i) known).getD (-1)) fm.1 fm.2) (fun (fm:(Nat)×(Int))=>(fun (i:Nat) (at1:Int)=>upd (upd (upd (upd (upd (upd (upd (fun _=>none) 1 (some (.val (tI known)))) 5 (some (.val (tL 11 true tFa a)))) 6 (some (.val (tL 1 false tI R)))) 7 (some (.val (tI at1)))) 25 (some (.val (tL 1 false tI R)))) 26 (some (.val (tI R.length)))) 27 (some (.val (tI i)))) fm.1 fm.2) (fun (fm:(Nat)×(Int))=>(fun (i:Nat) (at1:Int)=>fun _=>none) fm.1 fm.2) [] (fun (fm:(Nat)×(Int))=>(fun (i:Nat) (at1:Int)=>R.length - i) fm.1 fm.2) ((0, -1)) (by dsimp only;exact ⟨Nat.zero_le _,rfl⟩) ?_
 intro fm hI
 obtain ⟨i,at1⟩:=fm
 replace hI:i≤R.length∧at1=(lst (R.take i) known).getD (-1):=hI
 show wc _ _ _ _ (upd (upd (upd (upd (upd (upd (upd (fun _=>none) 1 (some (.val (tI known)))) 5 (some (.val (tL 11 true tFa a)))) 6 (some (.val (tL 1 false tI R)))) 7 (some (.val (tI at1)))) 25 (some (.val (tL 1 false tI R)))) 26 (some (.val (tI R.length)))) 27 (some (.val (tI i)))) (fun _=>none) _
 obtain ⟨hi,hat⟩:=hI
 have hln:=fun hh=>lst_next (R:=R) (i:=i) (K:=known) hh
 refine A6 ?_
 refine x9 rfl (fun h174=> ?_) (fun h174=> ?_)
 ·
  refine A7 ?_
  refine R2 (x7 sl42 (i) (by omega) (gD (l:=R) (n:=i) (d:=0) (by omega))) rfl rfl ?_
  refine A12 ?_
  have hkR:(R.getD i 0)∈R:=xm2 (by omega)
  have hAk:=hA _ hkR
  refine A7 ?_
  refine cL (fun (fm:(Nat)×(Bool))=>(fun (j:Nat) (b:Bool)=>j≤a.length∧b=anB a kFte (R.getD i 0) j) fm.1 fm.2) (fun (fm:(Nat)×(Bool))=>(fun (j:Nat) (b:Bool)=>upd (upd (upd (upd (upd (upd (upd (upd (upd (upd (upd (upd (upd (fun _=>none) 1 (some (.val (tI known)))) 5 (some (.val (tL 11 true tFa a)))) 6 (some (.val (tL 1 false tI R)))) 7 (some (.val (tI at1)))) 25 (some (.val (tL 1 false tI R)))) 26 (some (.val (tI R.length)))) 27 (some (.val (tI i)))) 8 (some (.val (tI i)))) 9 (some (.val (tI (R.getD i 0))))) 10 (some (.val (tB b)))) 32 (some (.val (tL 11 true tFa a)))) 33 (some (.val (tI a.length)))) 34 (some (.val (tI j)))) fm.1 fm.2) (fun (fm:(Nat)×(Bool))=>(fun (j:Nat) (b:Bool)=>fun _=>none) fm.1 fm.2) [] (fun (fm:(Nat)×(Bool))=>(fun (j:Nat) (b:Bool)=>a.length - j) fm.1 fm.2) ((0,false)) (by dsimp only;exact ⟨Nat.zero_le _,rfl⟩) ?_
  intro fm hI2
  obtain ⟨j,b⟩:=fm
  replace hI2:j≤a.length∧b=anB a kFte (R.getD i 0) j:=hI2
  show wc _ _ _ _ (upd (upd (upd (upd (upd (upd (upd (upd (upd (upd (upd (upd (upd (fun _=>none) 1 (some (.val (tI known)))) 5 (some (.val (tL 11 true tFa a)))) 6 (some (.val (tL 1 false tI R)))) 7 (some (.val (tI at1)))) 25 (some (.val (tL 1 false tI R)))) 26 (some (.val (tI R.length)))) 27 (some (.val (tI i)))) 8 (some (.val (tI i)))) 9 (some (.val (tI (R.getD i 0))))) 10 (some (.val (tB b)))) 32 (some (.val (tL 11 true tFa a)))) 33 (some (.val (tI a.length)))) 34 (some (.val (tI j)))) (fun _=>none) _
  obtain ⟨hj,hb⟩:=hI2
  refine A1 ?_
  have hkR:(R.getD i 0)∈R:=xm2 (by omega)
  have hAk:=hA _ hkR
  refine A5 ?_
  refine x9 rfl (fun h176=> ?_) (fun h176=> ?_)
  ·
   refine A5 ?_
   have hkR:(R.getD i 0)∈R:=xm2 (by omega)
   have hAk:=hA _ hkR
   refine A1 ?_
   refine R2 (x7 sl24 (j) (by omega) (gD (l:=a) (n:=j) (d:=fa0) (by omega))) rfl rfl ?_
   refine A1 ?_
   refine RE (xa7 (k:=12) (n:=11) (agg:=true) zr34.1 zr34.2 rfl) trivial trivial ⟨rfl,trivial⟩ ?_
   refine A6 ?_
   refine RGcase (t:=39) rfl (fun h177=> ?_) (fun h177=> ?_)
   ·
    refine A14 ?_
    have hkR:(R.getD i 0)∈R:=xm2 (by omega)
    have hAk:=hA _ hkR
    refine A4 ?_
    exact kF ((j+1,true)) ⟨(by dsimp only;exact ⟨by omega,by rw [anB,←hb,h177];rfl⟩),(by dsimp only;omega)⟩
   ·
    refine A5 ?_
    refine RGcaseD (t:=44) rfl (fun h177_2=> ?_) (fun h177_2=> ?_)
    ·
     refine A2 ?_
     refine RGon (decide_eq_true h177_2) rfl (d_eqlS) rfl ⟨rfl,rfl,trivial⟩ trivial trivial (RGon h177 rfl (xh4 (decide_eq_true h177_2)) rfl ⟨rfl,rfl,trivial⟩ trivial trivial ?_)
     refine A5 ?_
     have hkR:(R.getD i 0)∈R:=xm2 (by omega)
     have hAk:=hA _ hkR
     refine A4 ?_
     exact kF ((j+1,decide ((a.getD j fa0).key=kFte))) ⟨(by dsimp only;exact ⟨by omega,by rw [anB,←hb,h177];rw [decide_eq_true (p:=(a.getD j fa0).kn=_) (by omega)];rfl⟩),(by dsimp only;omega)⟩
    ·
     refine A3 ?_
     refine RGon h177 rfl (xe3 (decide_eq_false h177_2)) rfl ⟨rfl,rfl,trivial⟩ trivial trivial ?_
     refine A5 ?_
     have hkR:(R.getD i 0)∈R:=xm2 (by omega)
     have hAk:=hA _ hkR
     refine A4 ?_
     exact kF ((j+1,false)) ⟨(by dsimp only;exact ⟨by omega,by rw [anB,←hb,h177];rw [decide_eq_false (p:=(a.getD j fa0).kn=_) (by omega)];rfl⟩),(by dsimp only;omega)⟩
  ·
   refine A6 ?_
   have hja:j=a.length:=by omega
   subst hja
   have hbt:b=true:=hb.trans (anB_all hAk.2.1)
   subst hbt
   have hdl:=hAk.2.2
   have hkb:=hAk.1
   have hinc:0 < i→R.getD (i - 1) 0 < (R.getD i 0):=fun h=>pw_lt hP (by omega) (by omega)
   refine A5 ?_
   refine RE (x4 (c_FDiffG hR kFte ((R.getD i 0) - 1) (R.getD i 0)) fi15 rfl) ⟨rfl,rfl,rfl,rfl,trivial⟩ trivial trivial ?_
   refine A16 ?_
   refine RGcaseD (t:=64) rfl (fun h180=> ?_) (fun h180=> ?_)
   ·
    refine A2 ?_
    refine RGon (decide_eq_true h180) rfl (xe9 (wr64 (by omega) (by omega))) rfl ⟨rfl,rfl,trivial⟩ trivial trivial (RGon (decide_eq_true h180) rfl (x7 sl42 (i - 1) (by omega) (gD (l:=R) (n:=i - 1) (d:=0) (by omega))) rfl ⟨rfl,rfl,trivial⟩ trivial trivial ?_)
    refine A3 ?_
    refine RGon rfl rfl (xh4 (decide_eq_true h180)) rfl ⟨rfl,rfl,trivial⟩ trivial trivial ?_
    refine A2 ?_
    refine RGon (decide_eq_false (by omega)) rfl xb0 rfl ⟨rfl,trivial⟩ trivial trivial (RGon (decide_eq_false (by omega)) rfl d_neq rfl ⟨rfl,rfl,trivial⟩ trivial trivial (R2 (xe3 (decide_eq_false (by omega))) rfl rfl ?_))
    refine A1 ?_
    refine RGon (decide_eq_false (by omega)) rfl xb0 rfl ⟨rfl,trivial⟩ trivial trivial (RGon (decide_eq_false (by omega)) rfl (d_len Tryz.underlying44) rfl ⟨rfl,trivial⟩ trivial trivial (RGon (decide_eq_false (by omega)) rfl d_eql rfl ⟨rfl,rfl,trivial⟩ trivial trivial (R2 (xe3 (decide_eq_false (by omega))) rfl rfl ?_)))
    refine A2 ?_
    refine C_bF rfl (decide_eq_false (by omega)) ?_
    refine A9 ?_
    refine x9 rfl (fun h183=> ?_) (fun h183=> ?_)
    ·
     refine A10 ?_
     have hln:=hln (by omega)
     rw [if_pos h183] at hln
     exact kF ((i+1,(R.getD i 0))) ⟨(by dsimp only;exact ⟨by omega,by rw [hln];rfl⟩),(by dsimp only;omega)⟩
    ·
     refine A7 ?_
     have hln:=hln (by omega)
     rw [if_neg h183] at hln
     exact kF ((i+1,at1)) ⟨(by dsimp only;exact ⟨by omega,by rw [hln];exact hat⟩),(by dsimp only;omega)⟩
   ·
    refine A7 ?_
    refine RGon rfl rfl (xe3 (decide_eq_false h180)) rfl ⟨rfl,rfl,trivial⟩ trivial trivial ?_
    refine A6 ?_
    refine RGon (decide_eq_false (by omega)) rfl xb0 rfl ⟨rfl,trivial⟩ trivial trivial (RGon (decide_eq_false (by omega)) rfl (d_len Tryz.underlying44) rfl ⟨rfl,trivial⟩ trivial trivial (RGon (decide_eq_false (by omega)) rfl d_eql rfl ⟨rfl,rfl,trivial⟩ trivial trivial (R2 (xe3 (decide_eq_false (by omega))) rfl rfl ?_)))
    refine A2 ?_
    refine C_bF rfl (decide_eq_false (by omega)) ?_
    refine A9 ?_
    refine x9 rfl (fun h183=> ?_) (fun h183=> ?_)
    ·
     refine A10 ?_
     have hln:=hln (by omega)
     rw [if_pos h183] at hln
     exact kF ((i+1,(R.getD i 0))) ⟨(by dsimp only;exact ⟨by omega,by rw [hln];rfl⟩),(by dsimp only;omega)⟩
    ·
     refine A7 ?_
     have hln:=hln (by omega)
     rw [if_neg h183] at hln
     exact kF ((i+1,at1)) ⟨(by dsimp only;exact ⟨by omega,by rw [hln];exact hat⟩),(by dsimp only;omega)⟩
 ·
  refine A6 ?_
  have hia:i=R.length:=by omega
  subst hia
  rw [List.take_length] at hat
  refine A3 ?_
  refine R3 (x4 (c_ViewG hR kFte known) fi12 rfl) rfl rfl rfl ?_
  refine A11 ?_
  refine R3 (x4 (c_ViewG hR kFte at1) fi12 rfl) rfl rfl rfl ?_
  refine A14 ?_
  refine RGon (decide_eq_true (by omega)) rfl xb0 rfl ⟨rfl,trivial⟩ trivial trivial (RGon (decide_eq_true (by omega)) rfl xb0 rfl ⟨rfl,trivial⟩ trivial trivial (RGon (decide_eq_true (by omega)) rfl (x4 (c_sameTv _ _ (by rw [hat];exact (hC known).1)) fi13 rfl) rfl ⟨rfl,rfl,trivial⟩ trivial trivial (R2 (xh4 (decide_eq_true (by omega))) rfl rfl ?_)))
  refine A4 ?_
  refine RGcaseD (t:=112) rfl (fun h189_2=> ?_) (fun h189_2=> ?_)
  ·
   refine A3 ?_
   refine RGon rfl rfl (xh4 (decide_eq_true h189_2)) rfl ⟨rfl,rfl,trivial⟩ trivial trivial ?_
   refine A5 ?_
   exact x3 Plain.mk' rfl rfl (by first | exact Le.refl | exact Le.bool (decide_eq_true (by have:=(hC known).2 (lst_none (fun k hk=>(hA k hk).1.1) hat (by omega));omega)))
  ·
   refine A3 ?_
   refine RGon rfl rfl (xe3 (decide_eq_false h189_2)) rfl ⟨rfl,rfl,trivial⟩ trivial trivial ?_
   refine A5 ?_
   exact x3 Plain.mk' rfl rfl (by first | exact Le.refl | exact Le.bool (decide_eq_true (by have:=(hC known).2 (lst_none (fun k hk=>(hA k hk).1.1) hat (by omega));omega)))
end An.S
