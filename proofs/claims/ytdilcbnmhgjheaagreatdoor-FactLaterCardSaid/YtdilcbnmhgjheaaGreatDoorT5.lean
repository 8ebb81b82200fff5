/- Part 5 of a proof: Fy, F9, F10, F11, S17, S18, Sv2, Fz, F12. -/
import Derived.Test.YtdilcbnmhgjheaaGreatDoorT4
set_option maxHeartbeats 4000000
set_option maxRecDepth 100000
namespace An.S
open Go
section
variable {α β:Type} [DecidableEq α]
theorem getI_succ {a:α}: ∀{l:List (α×β)} {i:Nat},getI a (i+1) l=(getI a i l).map fun x=>(x.1+1,x.2)
 | [],_=>rfl
 | p::r,i=>by
  rw [getI,getI]
  split
  ·rfl
  ·exact getI_succ
theorem xp8 {z:β} {p:α×β} {r:List (α×β)} {a:α}:entV z (p::r) a=if a=p.1 then p.2 else entV z r a:=by
 rw [entV,getI]
 split
 ·rfl
 ·rw [getI_succ,Option.map_map];rfl
theorem putM_cons {p:α×β} {r:List (α×β)} {a:α} {v:β}:putM (p::r) a v=if a=p.1 then (a,v)::r else p::putM r a v:=by
 by_cases h:a=p.1
 ·simp [putM,getI,h]
 ·rw [if_neg h,putM,putM,getI,if_neg h,getI_succ]
  cases getI a 0 r with
  | none=>rfl
  | some x=>rfl
theorem ent_putG {z v:β} {a b:α}: ∀{l:List (α×β)},entV z (putM l a v) b=if a=b then v else entV z l b
 | []=>by
  show entV z [(a,v)] b=_
  rw [xp8]
  by_cases h:a=b
  ·rw [if_pos h.symm,if_pos h]
  ·rw [if_neg (fun h'=>h h'.symm),if_neg h]
 | p::r=>by
  rw [putM_cons]
  by_cases h:a=p.1
  ·rw [if_pos h,xp8,xp8]
   by_cases h2:a=b
   ·rw [if_pos h2.symm,if_pos h2]
   ·rw [if_neg (fun h'=>h2 h'.symm),if_neg h2,if_neg (fun h':b=p.1=>h2 (h.trans h'.symm))]
  ·rw [if_neg h,xp8,xp8,ent_putG]
   by_cases h2:b=p.1
   ·rw [if_pos h2,if_pos h2,if_neg (fun h'=>h (h'.trans h2))]
   ·rw [if_neg h2,if_neg h2]
end
theorem kGet_add {m:List (ByteArray×Nat)} {f:Fa} {key:ByteArray}:kGet (kAdd m f) key=if f.key=key then max (kGet m f.key) f.v.kind else kGet m key:=ent_putG
theorem kM_app {a:List Fa} {f:Fa} {key:ByteArray}:kGet (kM (a++[f])) key=if f.key=key then max (kGet (kM a) f.key) f.v.kind else kGet (kM a) key:=by
 rw [kM,List.foldl_append];exact kGet_add
theorem kM_nil {key:ByteArray}:kGet (kM []) key=0:=rfl
def gF1 (D B:Int) (f:Fa):Prop:=(((1≤f.key.size∧f.key.size≤24)∧(0≤f.lo∧f.lo < f.hi∧f.hi≤65536))∧(0≤f.kn∧f.kn < 65536))∧if f.gone=true then f.v=An.va0 else gOk 2 D B f.v∧txOk f.v
def gR (D B:Int) (a:List Fa):Prop:=a.length≤2000∧ ∀f∈a,gF1 D B f
section
variable {D B:Int} {a:List Fa} {f:Fa} {key:ByteArray}
theorem gF1.right (h:gF1 D B f):fRight f=true:=by
 obtain ⟨⟨⟨h1,h2⟩,h3⟩,h4⟩:=h
 rw [fRight]
 simp only [Bool.and_eq_true,decide_eq_true_eq]
 refine ⟨⟨⟨⟨⟨⟨⟨h1.1,h1.2⟩,h2.1⟩,h2.2.1⟩,h2.2.2⟩,h3.1⟩,h3.2⟩,?_⟩
 by_cases hg:f.gone=true
 ·rw [if_pos hg] at h4 ⊢;exact decide_eq_true h4
 ·rw [if_neg hg] at h4 ⊢;exact h4.1.1.1
theorem gF1.kind (h:gF1 D B f):f.v.kind=if f.gone=true then 0 else 2:=by
 have h4:=h.2
 by_cases hg:f.gone=true
 ·rw [if_pos hg] at h4 ⊢;rw [h4];rfl
 ·rw [if_neg hg] at h4 ⊢;exact h4.1.1.2.1
theorem gF1.lens (h:gF1 D B f):(f.v.f.n.l.length≤1000000∧f.v.f.d.l.length≤1000000)∧f.v.f.dig:=by
 have h4:=h.2
 by_cases hg:f.gone=true
 ·rw [if_pos hg] at h4;rw [h4];exact ⟨⟨Nat.zero_le _,Nat.zero_le _⟩,⟨fun _ h=>absurd h List.not_mem_nil,fun _ h=>absurd h List.not_mem_nil⟩⟩
 ·rw [if_neg hg] at h4
  have:=h4.2.2.2
  exact ⟨⟨by omega,by omega⟩,h4.1.dig⟩
theorem gF1.gd (h:gF1 D B f):(0≤f.lo∧f.lo < f.hi∧f.hi≤65536)∧(f.gone=false→gOk 2 D B f.v):=⟨h.1.1.2,fun hg=>by have h4:=h.2;rw [if_neg (by rw [hg];decide)] at h4;exact h4.1⟩
theorem gR.gd (h:gR D B a):gdF 2 D B a:=fun f hf=>(h.2 f hf).gd
theorem gR.snoc (h:gR D B a) (hl:a.length≤1999) (hf:gF1 D B f):gR D B (a++[f]):=⟨by rw [List.length_append];exact Nat.add_le_add hl (Nat.le_refl 1),fun x hx=>by
 rcases List.mem_append.1 hx with h1 | h1
 ·exact h.2 x h1
 ·rw [List.mem_singleton.1 h1];exact hf⟩
theorem gR.kGet (h: ∀f∈a,gF1 D B f): ∀i,i≤a.length→ ∀key,An.S.kGet (kM (a.take i)) key=if ∃f∈a.take i,f.key=key∧f.gone=false then 2 else 0
 | 0,_,key=>by
  rw [List.take_zero,kM_nil,if_neg]
  rintro ⟨f,hf,_⟩;cases hf
 | i+1,hi,key=>by
  have hx:a.take (i+1)=a.take i++[a.getD i fa0]:=by rw [List.take_succ_eq_append_getElem (by omega),List.getD_eq_getElem?_getD,List.getElem?_eq_getElem (by omega)];rfl
  have ih:=gR.kGet h i (by omega)
  have hk:=(h _ (mem_getDF (l:=a) (i:=i) (by omega))).kind
  rw [hx,kM_app,ih,ih,hk]
  generalize a.getD i fa0=f at*
  by_cases h1:f.key=key
  ·rw [if_pos h1,h1]
   by_cases h2:f.gone=true
   ·rw [if_pos h2]
    by_cases h3: ∃g∈a.take i,g.key=key∧g.gone=false
    ·rw [if_pos h3,if_pos]
     ·rfl
     ·obtain ⟨g,hg,hh⟩:=h3;exact ⟨g,List.mem_append.2 (.inl hg),hh⟩
    ·rw [if_neg h3,if_neg]
     ·rfl
     ·rintro ⟨g,hg,hh⟩
      rcases List.mem_append.1 hg with h4 | h4
      ·exact h3 ⟨g,h4,hh⟩
      ·rw [List.mem_singleton.1 h4,h2] at hh;exact absurd hh.2 (by decide)
   ·have h2':f.gone=false:=by simpa using h2
    rw [if_neg h2,if_pos (⟨f,List.mem_append.2 (.inr (List.mem_singleton.2 rfl)),h1,h2'⟩: ∃g∈a.take i++[f],g.key=key∧g.gone=false)]
    split <;> rfl
  ·rw [if_neg h1]
   by_cases h3: ∃g∈a.take i,g.key=key∧g.gone=false
   ·rw [if_pos h3,if_pos]
    obtain ⟨g,hg,hh⟩:=h3;exact ⟨g,List.mem_append.2 (.inl hg),hh⟩
   ·rw [if_neg h3,if_neg]
    rintro ⟨g,hg,hh⟩
    rcases List.mem_append.1 hg with h4 | h4
    ·exact h3 ⟨g,h4,hh⟩
    ·rw [List.mem_singleton.1 h4] at hh;exact h1 hh.1
theorem gR.rec (h:gR D B a):recOk a=true:=by
 rw [recOk,Bool.and_eq_true,Bool.and_eq_true]
 refine ⟨⟨decide_eq_true h.1,List.all_eq_true.2 fun f hf=>(h.2 f hf).right⟩,?_⟩
 rw [kOk,List.all_eq_true]
 intro i hi
 have hi':=List.mem_range.1 hi
 rw [Bool.not_eq_true',←Bool.not_eq_true,kBad_iff]
 rintro ⟨h1,h2,h3⟩
 have hk:=(h.2 _ (mem_getDF hi')).kind
 rw [h2,if_neg (by decide)] at hk
 rw [gR.kGet h.2 i (by omega)] at h1 h3
 rw [hk] at h3
 split at h3
 ·exact h3 rfl
 ·rename_i hn;rw [if_neg hn] at h1;exact h1 rfl
theorem gR.view (h:gR D B a) (kn:Int):isG 2 D B (vwT (toldT a key kn))∧(vwT (toldT a key kn)).length≤4000:=by
 refine ⟨vw_ok (told_gd h.gd),?_⟩
 have h1:=vw_len (T:=toldT a key kn)
 have h2:=told_len2 (a:=a) (key:=key) (kn:=kn)
 have h3:=h.1
 omega
end
end An.S
namespace An.S
open Go Go.Proofs An
instance fi12:FnI Tryz.prog 12:=⟨_,Tryz.func12,by kernel_rfl,rfl⟩
instance fi13:FnI Tryz.prog 13:=⟨_,Tryz.func13,by kernel_rfl,rfl⟩
instance fi14:FnI Tryz.prog 14:=⟨_,Tryz.func14,by kernel_rfl,rfl⟩
instance fi15:FnI Tryz.prog 15:=⟨_,Tryz.func15,by kernel_rfl,rfl⟩
instance fi19:FnI Tryz.prog 19:=⟨_,Tryz.func19,by kernel_rfl,rfl⟩
instance fi31:FnI Tryz.prog 31:=⟨_,Tryz.func31,by kernel_rfl,rfl⟩
instance fi34:FnI Tryz.prog 34:=⟨_,Tryz.func34,by kernel_rfl,rfl⟩
instance fi35:FnI Tryz.prog 35:=⟨_,Tryz.func35,by kernel_rfl,rfl⟩
instance fi36:FnI Tryz.prog 36:=⟨_,Tryz.func36,by kernel_rfl,rfl⟩
section
variable {D B:Int} {a:List Fa}
theorem gR.sm (h:gR D B a):smF a:=fun f hf=>(h.2 f hf).lens.1
theorem gR.dg (h:gR D B a): ∀f∈a,f.v.f.dig:=fun f hf=>(h.2 f hf).lens.2
theorem gR.tx (h:gR D B a): ∀f∈a,f.gone=false→txOk f.v:=fun f hf hg=>by
 have h4:=(h.2 f hf).2
 rw [if_neg (by rw [hg];decide)] at h4;exact h4.2
theorem c_ViewG (h:gR D B a) (key:ByteArray) (kn:Int):Ct Tryz.prog 12 [tL 11 true tFa a,tSt key,tI kn] (tT [tL 8 true tTs (vwT (toldT a key kn)),tI 0]):=by
 have h1:=c_View a key kn (by have:=h.1;omega) h.sm h.dg
 rw [if_pos h.rec,if_pos h.rec] at h1;exact h1
theorem c_FAtG (h:gR D B a) (key:ByteArray) (d kn:Int):Ct Tryz.prog 19 [tL 11 true tFa a,tSt key,tI d,tI kn] (tT [tVa ((gF (toldT a key kn) d).getD An.va0),tB (gF (toldT a key kn) d).isSome]):=by
 have h1:=c_FAt a key d kn (by have:=h.1;omega) h.sm h.dg
 rw [atF,if_pos h.rec] at h1;exact h1
theorem c_LearnsG (h:gR D B a) (key:ByteArray):Ct Tryz.prog 14 [tL 11 true tFa a,tSt key] (tL 1 false tI (lrnT (toldT a key 65536))):=by
 have h1:=c_Learns a key (by have:=h.1;omega) h.dg h.tx
 rw [lrnA,if_pos h.rec] at h1;exact h1
theorem c_FDiffG (h:gR D B a) (key:ByteArray) (k1 k2:Int):Ct Tryz.prog 15 [tL 11 true tFa a,tSt key,tI k1,tI k2] (tT [tL 2 true tSn (dfS (vwT (toldT a key k1)) (vwT (toldT a key k2))),tI 0]):=by
 have v1:=h.view (key:=key) k1
 have v2:=h.view (key:=key) k2
 have h1:=c_FDiff a key k1 k2 (by have:=h.1;omega) h.sm h.dg v1.1.dig v2.1.dig (by omega) (by omega)
 rw [dfF,dfE,if_pos h.rec,if_pos h.rec,if_pos ⟨v1.1.1,v2.1.1⟩,if_pos ⟨v1.1.1,v2.1.1⟩] at h1;exact h1
end
theorem c_sameVv (u v:Va) (e:u=v):Ct Tryz.prog 21 [tVa u,tVa v] (tB true):=by
 have h:=c_SameValue u v
 rw [decide_eq_true e] at h;exact h
theorem c_sameTv (u v:List Tst) (e:u=v):Ct Tryz.prog 13 [tL 8 true tTs u,tL 8 true tTs v] (tB true):=by
 have h:=c_SameSteps u v
 rw [decide_eq_true e] at h;exact h
theorem c_sameSv (u v:List Sn) (e:u=v):Ct Tryz.prog 31 [tL 2 true tSn u,tL 2 true tSn v] (tB true):=by
 have h:=c_SameSpans u v
 rw [decide_eq_true e] at h;exact h
theorem c_sameIv (u w:List Int) (e:u=w):Ct Tryz.prog 35 [tL 1 false tI u,tL 1 false tI w] (tB true):=by
 have h:=c_SameInts u w
 rw [decide_eq_true e] at h;exact h
theorem nV_ok {n d D B x:Int} (_hd:d≠0) (e:kfr n d=Rat.divInt x D) (hD:0 < D) (hDb:D≤9223372036854775807) (h1: -B≤x) (h2:x≤B) (hB:B≤9223372036854775807):gOk 2 D B (nV n d):=by
 rw [nV,e];exact gOk.mk (.inl rfl) hD hDb h1 h2 hB
theorem exF_ok:gR 2 2 exF:=⟨by decide,fun f hf=>by
 simp only [exF,List.mem_cons,List.not_mem_nil,or_false] at hf
 rcases hf with rfl | rfl | rfl
 ·have h:=nV_ok (n:=1) (d:=1) (D:=2) (B:=2) (x:=2) (by decide) (by decide+kernel) (by decide) (by decide) (by decide) (by decide) (by decide)
  exact ⟨by decide,⟨h,by decide+kernel,by decide+kernel,by decide+kernel,by decide+kernel,h.dig⟩⟩
 ·have h:=nV_ok (n:=1) (d:=2) (D:=2) (B:=2) (x:=1) (by decide) (by decide+kernel) (by decide) (by decide) (by decide) (by decide) (by decide)
  exact ⟨by decide,⟨h,by decide+kernel,by decide+kernel,by decide+kernel,by decide+kernel,h.dig⟩⟩
 ·exact ⟨by decide,by rw [if_pos rfl]⟩⟩
theorem asc_eqF: ∀{a b:List Int},a.Pairwise (· < ·)→b.Pairwise (· < ·)→(∀x,x∈a↔x∈b)→a=b
 | [],[],_,_,_=>rfl
 | [],y::s,_,_,h=>absurd ((h y).2 (List.mem_cons_self ..)) (List.not_mem_nil)
 | x::r,[],_,_,h=>absurd ((h x).1 (List.mem_cons_self ..)) (List.not_mem_nil)
 | x::r,y::s,ha,hb,h=>by
  have pa:=List.pairwise_cons.1 ha
  have pb:=List.pairwise_cons.1 hb
  have hxy:x=y:=by
   rcases List.mem_cons.1 ((h x).1 (List.mem_cons_self ..)) with e | h1
   ·exact e
   ·rcases List.mem_cons.1 ((h y).2 (List.mem_cons_self ..)) with e | h2
    ·exact e.symm
    ·have:=pa.1 y h2;have:=pb.1 x h1;omega
  subst hxy
  congr 1
  refine asc_eqF pa.2 pb.2 fun z=>⟨fun hz=> ?_,fun hz=> ?_⟩
  ·rcases List.mem_cons.1 ((h z).1 (List.mem_cons_of_mem _ hz)) with e | h1
   ·have:=pa.1 z hz;omega
   ·exact h1
  ·rcases List.mem_cons.1 ((h z).2 (List.mem_cons_of_mem _ hz)) with e | h1
   ·have:=pb.1 z hz;omega
   ·exact h1
theorem brd_eqF {xs l:List Int} (h:l.Pairwise (· < ·)) (h1: ∀x∈l,x∈xs) (h2: ∀x∈xs,x∈l):brd xs=l:=asc_eqF (xp0 xs).1 h fun x=>((xp0 xs).2 x).trans ⟨h2 x,h1 x⟩
theorem ex_bd {kn:Int} {ds:List Int} (h:ds.Pairwise (· < ·)) (h1: ∀x∈ds,x∈edF (toldT exF kFte kn)) (h2: ∀x∈edF (toldT exF kFte kn),x∈ds):bdF (toldT exF kFte kn)=ds:=brd_eqF h h1 h2
theorem exV1:vwT (toldT exF kFte 9)=[]:=by
 rw [vwT,ex_bd (ds:=[]) (by decide) (by decide+kernel) (by decide+kernel)];decide+kernel
theorem exV2:vwT (toldT exF kFte 10)=[⟨0,100,nV 1 1⟩]:=by
 rw [vwT,ex_bd (ds:=[0,100]) (by decide) (by decide+kernel) (by decide+kernel)];decide+kernel
theorem exV3:vwT (toldT exF kFte 50)=[⟨0,40,nV 1 1⟩,⟨40,60,nV 1 2⟩,⟨60,100,nV 1 1⟩]:=by
 rw [vwT,ex_bd (ds:=[0,40,60,100]) (by decide) (by decide+kernel) (by decide+kernel)];decide+kernel
theorem exV4:vwT (toldT exF kFte 80)=[⟨0,40,nV 1 1⟩,⟨40,50,nV 1 2⟩,⟨70,100,nV 1 1⟩]:=by
 rw [vwT,ex_bd (ds:=[0,40,50,60,70,100]) (by decide) (by decide+kernel) (by decide+kernel)];decide+kernel
theorem exDf:dfS (vwT (toldT exF kFte 50)) (vwT (toldT exF kFte 80))=[⟨50,70⟩]:=by
 have e:bds [vwT (toldT exF kFte 50),vwT (toldT exF kFte 80)]=[0,40,50,60,70,100]:=by
  rw [exV3,exV4];exact brd_eqF (by decide) (by decide) (by decide)
 rw [dfS,mkS_asc (dfT_asc (exF_ok.view 50).1.1 (exF_ok.view 80).1.1),dfT_map,e,exV3,exV4]
 decide+kernel
theorem exA1:gF (toldT exF kFte 79) 55=some (nV 1 2):=by decide+kernel
theorem exA2:gF (toldT exF kFte 80) 55=none:=by decide+kernel
theorem exLr:lrnT (toldT exF kFte 65536)=[10,50,80]:=by
 rw [lrnT,ex_bd (ds:=[0,40,50,60,70,100]) (by decide) (by decide+kernel) (by decide+kernel)];decide+kernel
theorem c_exV (kn:Int) (l:List Tst) (e:vwT (toldT exF kFte kn)=l):Ct Tryz.prog 12 [tL 11 true tFa exF,tSt kFte,tI kn] (tT [tL 8 true tTs l,tI 0]):=by
 rw [←e];exact c_ViewG exF_ok kFte kn
theorem c_exA (d kn:Int) (o:Option Va) (e:gF (toldT exF kFte kn) d=o):Ct Tryz.prog 19 [tL 11 true tFa exF,tSt kFte,tI d,tI kn] (tT [tVa (o.getD An.va0),tB o.isSome]):=by
 rw [←e];exact c_FAtG exF_ok kFte d kn
theorem c_exD:Ct Tryz.prog 15 [tL 11 true tFa exF,tSt kFte,tI 50,tI 80] (tT [tL 2 true tSn [⟨50,70⟩],tI 0]):=by
 rw [←exDf];exact c_FDiffG exF_ok kFte 50 80
theorem c_exL:Ct Tryz.prog 14 [tL 11 true tFa exF,tSt kFte] (tL 1 false tI [10,50,80]):=by
 rw [←exLr];exact c_LearnsG exF_ok kFte
theorem c_awake06:
  Ct Tryz.prog 10 [] (tB true):=by
 refine Ct.intro Tryz.func10 rfl Tryz.ntmps10 rfl ?_
 intro w F
 refine A7 ?_
 refine R0 (x4 c_example06 fi34 rfl) ?_
 refine A6 ?_
 refine R3 (x4 (c_exV 9 _ exV1) fi12 rfl) rfl rfl rfl ?_
 refine A10 ?_
 refine R3 (x4 (c_exV 10 _ exV2) fi12 rfl) rfl rfl rfl ?_
 refine A10 ?_
 refine R3 (x4 (c_exV 50 _ exV3) fi12 rfl) rfl rfl rfl ?_
 refine A10 ?_
 refine R3 (x4 (c_exV 80 _ exV4) fi12 rfl) rfl rfl rfl ?_
 refine A10 ?_
 refine RE (x4 c_exD fi15 rfl) ⟨rfl,rfl,rfl,rfl,trivial⟩ trivial trivial ?_
 refine A10 ?_
 refine RE (x4 (c_exA 55 79 _ exA1) fi19 rfl) ⟨rfl,rfl,rfl,rfl,trivial⟩ trivial trivial ?_
 refine A3 ?_
 refine RE (xa6 (k:=12) (n:=6) (agg:=true) zr32.1 zr32.2 rfl) trivial trivial ⟨rfl,trivial⟩ ?_
 refine A7 ?_
 refine RE (x4 (c_exA 55 80 _ exA2) fi19 rfl) ⟨rfl,rfl,rfl,rfl,trivial⟩ trivial trivial ?_
 refine A3 ?_
 refine RE (xa6 (k:=14) (n:=6) (agg:=true) zr32.1 zr32.2 rfl) trivial trivial ⟨rfl,trivial⟩ ?_
 refine A18 ?_
 refine RGon (decide_eq_false (by omega)) rfl xb0 rfl ⟨rfl,trivial⟩ trivial trivial (RGon (decide_eq_false (by omega)) rfl (d_len Tryz.underlying36) rfl ⟨rfl,trivial⟩ trivial trivial (RGon (decide_eq_false (by omega)) rfl d_neq rfl ⟨rfl,rfl,trivial⟩ trivial trivial (R2 (xd7 (decide_eq_false (by omega))) rfl rfl ?_)))
 refine A1 ?_
 refine RGon (decide_eq_false (by decide)) rfl xb0 rfl ⟨rfl,trivial⟩ trivial trivial (RGon (decide_eq_false (by decide)) rfl d_not rfl ⟨rfl,trivial⟩ trivial trivial (R2 (xd7 (decide_eq_false (by decide))) rfl rfl ?_))
 refine A5 ?_
 refine RGon rfl rfl (x4 (c_Num 1 2 (by decide) (by decide) (by decide) (by decide)) fi22 rfl) rfl ⟨rfl,rfl,trivial⟩ trivial trivial (RGon rfl rfl (x4 (c_sameVv _ _ rfl) fi21 rfl) rfl ⟨rfl,rfl,trivial⟩ trivial trivial ?_)
 refine A4 ?_
 refine RGon rfl rfl (xb2 (r:=tS [⟨1,false,tI 50⟩,⟨1,false,tI 70⟩]) (ts:=[(0,tI 50),(1,tI 70)]) bu72 zr72.2 (Bc 0 rfl rfl rfl (Bc 1 rfl rfl rfl Le.refl))) rfl ⟨rfl,rfl,trivial⟩ trivial trivial (RGon rfl rfl (xb3 (n:=1) (f:=tSn) [(⟨50,70⟩:Sn)] Tryz.underlying44 el72 zf72 rfl (fun _=>inferInstance) rfl rfl rfl) rfl ⟨rfl,trivial⟩ trivial trivial (RGon rfl rfl (x4 (c_sameSv _ _ rfl) fi31 rfl) rfl ⟨rfl,rfl,trivial⟩ trivial trivial ?_))
 refine A4 ?_
 refine RGon rfl rfl (x4 c_exL fi14 rfl) rfl ⟨rfl,rfl,trivial⟩ trivial trivial (RGon rfl rfl (xb3 (n:=3) (f:=fun n:Int=>tI n) [10,50,80] Tryz.underlying42 el3 zf3 rfl (fun _=>inferInstance) rfl rfl rfl) rfl ⟨rfl,rfl,rfl,trivial⟩ trivial trivial (RGon rfl rfl (x4 (c_sameIv _ _ rfl) fi35 rfl) rfl ⟨rfl,rfl,trivial⟩ trivial trivial ?_))
 refine A16 ?_
 refine RE (x4 (xm5 0 100 1 1 (by decide) (by decide) (by decide) (by decide)) fi36 rfl) ⟨rfl,rfl,rfl,rfl,trivial⟩ trivial trivial (R1 (xb3 (n:=1) (f:=tTs) [(⟨0,100,nV 1 1⟩:Tst)] Tryz.underlying36 el57 zf57 rfl (fun _=>inferInstance) rfl rfl rfl) rfl (R3 (xk1 (c_sameTv _ _ rfl) fi13 rfl) rfl rfl rfl ?_))
 refine A3 ?_
 refine RGon rfl rfl (x4 (xm5 0 40 1 1 (by decide) (by decide) (by decide) (by decide)) fi36 rfl) rfl ⟨rfl,rfl,rfl,rfl,trivial⟩ trivial trivial (RGon rfl rfl (x4 (xm5 40 60 1 2 (by decide) (by decide) (by decide) (by decide)) fi36 rfl) rfl ⟨rfl,rfl,rfl,rfl,trivial⟩ trivial trivial (RGon rfl rfl (x4 (xm5 60 100 1 1 (by decide) (by decide) (by decide) (by decide)) fi36 rfl) rfl ⟨rfl,rfl,rfl,rfl,trivial⟩ trivial trivial (RGon rfl rfl (xb3 (n:=3) (f:=tTs) [(⟨0,40,nV 1 1⟩:Tst),(⟨40,60,nV 1 2⟩:Tst),(⟨60,100,nV 1 1⟩:Tst)] Tryz.underlying36 el57 zf57 rfl (fun _=>inferInstance) rfl rfl rfl) rfl ⟨rfl,rfl,rfl,trivial⟩ trivial trivial (RGon rfl rfl (xk1 (c_sameTv _ _ rfl) fi13 rfl) rfl ⟨rfl,rfl,rfl,trivial⟩ trivial trivial ?_))))
 refine A4 ?_
 refine RGon rfl rfl (x4 (xm5 0 40 1 1 (by decide) (by decide) (by decide) (by decide)) fi36 rfl) rfl ⟨rfl,rfl,rfl,rfl,trivial⟩ trivial trivial (RGon rfl rfl (x4 (xm5 40 50 1 2 (by decide) (by decide) (by decide) (by decide)) fi36 rfl) rfl ⟨rfl,rfl,rfl,rfl,trivial⟩ trivial trivial (RGon rfl rfl (x4 (xm5 70 100 1 1 (by decide) (by decide) (by decide) (by decide)) fi36 rfl) rfl ⟨rfl,rfl,rfl,rfl,trivial⟩ trivial trivial (RGon rfl rfl (xb3 (n:=3) (f:=tTs) [(⟨0,40,nV 1 1⟩:Tst),(⟨40,50,nV 1 2⟩:Tst),(⟨70,100,nV 1 1⟩:Tst)] Tryz.underlying36 el57 zf57 rfl (fun _=>inferInstance) rfl rfl rfl) rfl ⟨rfl,rfl,rfl,trivial⟩ trivial trivial (RGon rfl rfl (xk1 (c_sameTv _ _ rfl) fi13 rfl) rfl ⟨rfl,rfl,rfl,trivial⟩ trivial trivial ?_))))
 refine A5 ?_
 exact x3 Plain.mk' rfl rfl Le.refl
def fB:Int:=92358976733184
theorem plV_gd (n:Nat):gOk 2 84 fB (plV n)∧txOk (plV n):=by
 have key: ∀m:Fin 8,(kfr (plP.getD m.val (0,1)).1 (plP.getD m.val (0,1)).2=Rat.divInt ([0,84,42, -63,140,786444, -84,92358976733184].getD m.val 0) 84∧ -92358976733184≤[0,84,42, -63,140,786444, -84,92358976733184].getD m.val (0:Int)∧[0,84,42, -63,140,786444, -84,92358976733184].getD m.val (0:Int)≤92358976733184)∧(fr (kfr (plP.getD m.val (0,1)).1 (plP.getD m.val (0,1)).2)).n.l.length < 10∧(fr (kfr (plP.getD m.val (0,1)).1 (plP.getD m.val (0,1)).2)).d.l.length < 10:=by decide+kernel
 have h:=key ⟨n%8,Nat.mod_lt _ (by decide)⟩
 have e:kfr (plQ n).1 (plQ n).2=Rat.divInt ([0,84,42, -63,140,786444, -84,92358976733184].getD (n%8) 0) 84:=h.1.1
 have g:gOk 2 84 fB (plV n):=by
  rw [plV,e]
  exact gOk.mk (.inl rfl) (by decide) (by decide) h.1.2.1 h.1.2.2 (by decide)
 exact ⟨g,by show (0:Int)≤0;decide,by show (0:Int) < 100;decide,h.2.1,h.2.2,g.dig⟩
theorem btF_ok {n:Nt} (h:ntOk n):gF1 84 fB (btF n)∧((btF n).key=kPay∨(btF n).key=kFte)∧(btF n).kn≤65535:=by
 obtain ⟨h1,h2,h3,h4,h5⟩:=h
 have hk:(btF n).key=kPay∨(btF n).key=kFte:=by
  show kys.getD (n.key%2) kPay=kPay∨kys.getD (n.key%2) kPay=kFte
  have:n.key%2=0∨n.key%2=1:=by omega
  rcases this with e | e <;> rw [e]
  ·exact .inl rfl
  ·exact .inr rfl
 refine ⟨⟨⟨⟨?_,?_⟩,?_⟩,?_⟩,hk,?_⟩
 ·rcases hk with e | e <;> rw [e] <;> decide
 ·show 0≤(n.fr:Int)%61536∧(n.fr:Int)%61536 < (n.fr:Int)%61536+1+(n.dy:Int)%4000∧(n.fr:Int)%61536+1+(n.dy:Int)%4000≤65536
  omega
 ·show 0≤(n.kn:Int)∧(n.kn:Int) < 65536
  omega
 ·show if decide (n.wh%4=3)=true then (if n.wh%4=3 then An.va0 else plV (n.wh / 4))=An.va0 else gOk 2 84 fB (if n.wh%4=3 then An.va0 else plV (n.wh / 4))∧txOk (if n.wh%4=3 then An.va0 else plV (n.wh / 4))
  by_cases hg:n.wh%4=3
  ·rw [if_pos (decide_eq_true hg),if_pos hg]
  ·rw [if_neg (by rw [decide_eq_false hg];decide),if_neg hg];exact plV_gd _
 ·show (n.kn:Int)≤65535
  omega
theorem btT_ok {m:List Nt} (hm: ∀n∈m,ntOk n):gR 84 fB (btT m):=⟨by have:=btT_len (m:=m);omega,fun f hf=>by
 obtain ⟨n,hn,rfl⟩:=List.mem_map.1 hf
 exact (btF_ok (hm n ((List.take_sublist ..).subset hn))).1⟩
instance fi10:FnI Tryz.prog 10:=⟨_,Tryz.func10,by kernel_rfl,rfl⟩
instance fi11:FnI Tryz.prog 11:=⟨_,Tryz.func11,by kernel_rfl,rfl⟩
instance fi64:FnI Tryz.prog 64:=⟨_,Tryz.func64,by kernel_rfl,rfl⟩
instance fi65:FnI Tryz.prog 65:=⟨_,Tryz.func65,by kernel_rfl,rfl⟩
instance fi97:FnI Tryz.prog 97:=⟨_,Tryz.func97,by kernel_rfl,rfl⟩
def fnd (l:List Sn) (d:Int):Nat:=(l.takeWhile fun s=>decide (s.hi≤d)).length
theorem fnd_is {d:Int}: ∀{l:List Sn} {p:Nat},p≤l.length→(∀i,i < p→(l.getD i sn0).hi≤d)→(p < l.length→d < (l.getD p sn0).hi)→p=fnd l d
 | [],p,hp,_,_=>by simp at hp;subst hp;rfl
 | s::r,0,_,_,h=>by
  have h1:d < s.hi:=h (by simp)
  rw [fnd,List.takeWhile_cons,if_neg (by simp;omega)];rfl
 | s::r,p+1,hp,h1,h2=>by
  have h3:s.hi≤d:=h1 0 (by omega)
  have ih:=fnd_is (d:=d) (l:=r) (p:=p) (by simpa using hp) (fun i hi=>by have:=h1 (i+1) (by omega);simpa using this) (fun hp2=>by have:=h2 (by simpa using hp2);simpa using this)
  rw [fnd,List.takeWhile_cons,if_pos (by simp;omega),List.length_cons,←fnd,←ih]
theorem hi_mono {l:List Sn} (h:sVal l=true) {i j:Nat} (hij:i≤j) (hj:j < l.length):(l.getD i sn0).hi≤(l.getD j sn0).hi:=by
 rcases Nat.lt_or_ge i j with h1 | h1
 ·have:=sVal_lt h h1 hj
  have:=xk3 h hj;omega
 ·rw [show i=j by omega];exact Int.le_refl _
theorem fnd_le {l:List Sn} {d:Int}:fnd l d≤l.length:=(List.takeWhile_sublist _).length_le
def hasB (l:List Sn) (d:Int):Bool:=decide (fnd l d < l.length) && decide ((l.getD (fnd l d) sn0).lo≤d)
def wi (b:List Sn) (s:Sn):Bool:=decide (fnd b s.lo < b.length) && decide ((b.getD (fnd b s.lo) sn0).lo≤s.lo) && decide (s.hi≤(b.getD (fnd b s.lo) sn0).hi)
theorem c_find1 (l:List Sn) (d:Int) (i:Nat) (hi:i < l.length):
  CtG Tryz.prog 97 [(2,⟨44,1,false,[.val (tL 2 true tSn l)]⟩),(3,⟨3,1,false,[.val (tI d)]⟩)] [.val (tI i),.own (.ptr 2 0),.own (.ptr 3 0)] (.val (tB (decide (d < (l.getD i sn0).hi)))) [(2,⟨44,1,false,[.val (tL 2 true tSn l)]⟩),(3,⟨3,1,false,[.val (tI d)]⟩)] []:=by
 refine CtG.intro [2,3] Tryz.func97 rfl Tryz.ntmps97 rfl rfl ⟨⟨rfl,(SupX.lit rfl)⟩,⟨rfl,(SupX.lit rfl)⟩,trivial⟩ ?_
 intro w F η
 refine A9 ?_
 refine R2 (x5 sl44 (i) (by omega) (gD (l:=l) (n:=i) (d:=sn0) (by omega))) rfl rfl (R1 (xc5 fo72_1.h (At.f 1 rfl rfl) rfl) rfl ?_)
 refine A7 ?_
 exact xc4 LentC.mk' rfl rfl Imp.refl ⟨rfl,rfl,trivial⟩ rfl ⟨⟨rfl,(SupX.lit rfl)⟩,⟨rfl,(SupX.lit rfl)⟩,trivial⟩ rfl
theorem c_Search (l:List Sn) (d:Int) (hv:sVal l=true) (hl:l.length≤1000000):
  CtG Tryz.prog 51 [(2,⟨44,1,false,[.val (tL 2 true tSn l)]⟩),(3,⟨3,1,false,[.val (tI d)]⟩)] [.val (tI l.length),.own (.fn 97 [.ptr 2 0,.ptr 3 0])] (.val (tI (fnd l d))) [(2,⟨44,1,false,[.val (tL 2 true tSn l)]⟩),(3,⟨3,1,false,[.val (tI d)]⟩)] []:=by
 refine CtG.intro [2,3] Tryz.func51 rfl Tryz.ntmps51 rfl rfl ⟨⟨rfl,(SupX.lit rfl)⟩,⟨rfl,(SupX.lit rfl)⟩,trivial⟩ ?_
 intro w F η
 refine A14 ?_
 refine cL (fun (fm:(Nat)×(Nat))=>(fun (p:Nat) (q:Nat)=>p≤q∧q≤l.length∧(∀i,i < p→(l.getD i sn0).hi≤d)∧ ∀i,q≤i→i < l.length→d < (l.getD i sn0).hi) fm.1 fm.2) (fun (fm:(Nat)×(Nat))=>(fun (p:Nat) (q:Nat)=>upd (upd (upd (fun _=>none) 1 (some (.own (.fn 97 [.ptr 2 0,.ptr 3 0])))) 5 (some (.val (tI p)))) 6 (some (.val (tI q)))) fm.1 fm.2) (fun (fm:(Nat)×(Nat))=>(fun (p:Nat) (q:Nat)=>upd (upd (fun _=>none) 2 (some (⟨44,1,false,[.val (tL 2 true tSn l)]⟩))) 3 (some (⟨3,1,false,[.val (tI d)]⟩))) fm.1 fm.2) [2,3] (fun (fm:(Nat)×(Nat))=>(fun (p:Nat) (q:Nat)=>q - p) fm.1 fm.2) ((0,l.length)) (by dsimp only;exact ⟨Nat.zero_le _,Nat.le_refl _,fun i hi=>by omega,fun i hi hi2=>by omega⟩) (hh:=((SubK.consI rfl ImpK.refl) ((SubK.consI rfl ImpK.refl) SubK.nil))) ?_
 intro fm hI
 obtain ⟨p,q⟩:=fm
 replace hI:p≤q∧q≤l.length∧(∀i,i < p→(l.getD i sn0).hi≤d)∧ ∀i,q≤i→i < l.length→d < (l.getD i sn0).hi:=hI
 show wc _ _ _ _ (upd (upd (upd (fun _=>none) 1 (some (.own (.fn 97 [.ptr 2 0,.ptr 3 0])))) 5 (some (.val (tI p)))) 6 (some (.val (tI q)))) (upd (upd (fun _=>none) 2 (some (⟨44,1,false,[.val (tL 2 true tSn l)]⟩))) 3 (some (⟨3,1,false,[.val (tI d)]⟩))) _
 obtain ⟨hp,hq,h1,h2⟩:=hI
 refine A8 ?_
 refine x9 rfl (fun h62=> ?_) (fun h62=> ?_)
 ·
  refine A8 ?_
  refine R1 (x6 Tryz.underlying143 (isS Tryz.underlying3) (by first | exact wu64 (by omega) (by omega) | exact mu64)) rfl (R2 (xe5 (r:=((((p+q) / 2):Nat):Int)) (by decide) ((shrN (s:=1) rfl (by decide)).trans (by simp))) rfl rfl (R1 (x6 Tryz.underlying3 (isS Tryz.underlying143) (wr64 (by omega) (by omega))) rfl ?_))
  refine A7 ?_
  refine RE (d_callCX (ps:=[.val (tI _)]) (caps:=[.ptr 2 0,.ptr 3 0]) (fun j=>cond (Nat.beq j 2) 2 (3)) (c_find1 l d ((p+q) / 2) (by omega)) fi97 rfl (krC (ρ:=fun j=>cond (Nat.beq j 2) 2 (3)) (k:=2) rfl (krC (ρ:=fun j=>cond (Nat.beq j 2) 2 (3)) (k:=3) rfl (krN (ρ:=fun j=>cond (Nat.beq j 2) 2 (3))))) (krC (ρ:=fun j=>cond (Nat.beq j 2) 2 (3)) (k:=2) rfl (krC (ρ:=fun j=>cond (Nat.beq j 2) 2 (3)) (k:=3) rfl (krN (ρ:=fun j=>cond (Nat.beq j 2) 2 (3))))) ⟨⟨rfl,(SupX.lit rfl)⟩,⟨rfl,(SupX.lit rfl)⟩,trivial⟩ rfl) ⟨rfl,rfl,trivial⟩ ⟨rfl,rfl,trivial⟩ trivial ?_
  refine A3 ?_
  refine C_ifn rfl (fun h65=> ?_) (fun h65=> ?_)
  ·
   refine A6 ?_
   exact kF ((((p+q) / 2)+1,q)) ⟨(by dsimp only;exact ⟨by omega,hq,fun i hi=>by have:=hi_mono hv (show i≤((p+q) / 2) by omega) (by omega);omega,h2⟩),(by dsimp only;omega)⟩ (hh:=((SubK.consI rfl ImpK.refl) ((SubK.consI rfl ImpK.refl) SubK.nil)))
  ·
   refine A5 ?_
   exact kF ((p,((p+q) / 2))) ⟨(by dsimp only;exact ⟨by omega,by omega,h1,fun i hi hi2=>by have:=hi_mono hv hi hi2;omega⟩),(by dsimp only;omega)⟩ (hh:=((SubK.consI rfl ImpK.refl) ((SubK.consI rfl ImpK.refl) SubK.nil)))
 ·
  refine A12 ?_
  exact xc4 LentC.mk' rfl rfl (Imp.int (congrArg Int.ofNat (fnd_is (by omega) h1 (fun hp2=>h2 p (by omega) hp2)))) ⟨rfl,rfl,trivial⟩ rfl ⟨⟨rfl,(SupX.lit rfl)⟩,⟨rfl,(SupX.lit rfl)⟩,trivial⟩ rfl
theorem c_find (l:List Sn) (d:Int) (hv:sVal l=true) (hl:l.length≤1000000):
  Ct Tryz.prog 65 [tL 2 true tSn l,tI d] (tI (fnd l d)):=by
 refine Ct.intro Tryz.func65 rfl Tryz.ntmps65 rfl ?_
 intro w F
 refine A11 ?_
 refine R2 (xj7 (ps:=[.ptr 2 0,.ptr 3 0]) rfl) rfl rfl (RE (xa7 (fun j=>cond (Nat.beq j 2) 2 (3)) (c_Search l d hv hl) fi51 rfl (krC (ρ:=fun j=>cond (Nat.beq j 2) 2 (3)) (k:=2) rfl (krC (ρ:=fun j=>cond (Nat.beq j 2) 2 (3)) (k:=3) rfl (krN (ρ:=fun j=>cond (Nat.beq j 2) 2 (3))))) (krC (ρ:=fun j=>cond (Nat.beq j 2) 2 (3)) (k:=2) rfl (krC (ρ:=fun j=>cond (Nat.beq j 2) 2 (3)) (k:=3) rfl (krN (ρ:=fun j=>cond (Nat.beq j 2) 2 (3))))) ⟨⟨rfl,(SupX.lit rfl)⟩,⟨rfl,(SupX.lit rfl)⟩,trivial⟩ rfl) ⟨rfl,rfl,trivial⟩ ⟨rfl,rfl,trivial⟩ trivial ?_)
 refine A4 ?_
 exact x3 Plain.mk' rfl rfl Le.refl
theorem c_Within (a b:List Sn) (hla:a.length≤1000000) (hlb:b.length≤1000000):
  Ct Tryz.prog 29 [tL 2 true tSn a,tL 2 true tSn b] (tB (sVal a && sVal b && a.all (wi b))):=by
 refine Ct.intro Tryz.func29 rfl Tryz.ntmps29 rfl ?_
 intro w F
 refine A9 ?_
 refine R1 (x4 (c_SValid a) fi64 rfl) rfl ?_
 refine A2 ?_
 refine RGcase (t:=11) rfl (fun h154=> ?_) (fun h154=> ?_)
 ·
  refine A14 ?_
  exact x3 Plain.mk' rfl rfl (Le.bool (by rw [show sVal a=false by simpa using h154];rfl))
 ·
  refine A1 ?_
  refine RGon h154 rfl (x4 (c_SValid b) fi64 rfl) rfl ⟨rfl,trivial⟩ trivial trivial ?_
  refine A4 ?_
  refine xd2 rfl (fun h154_2=> ?_) (fun h154_2=> ?_)
  ·
   refine A7 ?_
   exact x3 Plain.mk' rfl rfl (Le.bool (by rw [show sVal b=false by simpa using h154_2];simp))
  ·
   refine A11 ?_
   have hv:sVal a=true:=by simpa using h154
   have hv2:sVal b=true:=by simpa using h154_2
   refine cL (fun (i:Nat)=>i≤a.length∧(a.take i).all (wi b)=true) (fun (i:Nat)=>upd (upd (upd (upd (fun _=>none) 1 (some (.val (tL 2 true tSn b)))) 16 (some (.val (tL 2 true tSn a)))) 17 (some (.val (tI a.length)))) 18 (some (.val (tI i)))) (fun (i:Nat)=>fun _=>none) [] (fun (i:Nat)=>a.length - i) (0) ⟨Nat.zero_le _,rfl⟩ ?_
   intro i hI
   obtain ⟨hi,ha⟩:=hI
   have hfl:=fnd_le (l:=b) (d:=(a.getD i sn0).lo)
   refine A6 ?_
   refine x9 rfl (fun h157=> ?_) (fun h157=> ?_)
   ·
    refine A6 ?_
    refine R2 (x5 sl44 (i) (by omega) (gD (l:=a) (n:=i) (d:=sn0) (by omega))) rfl rfl ?_
    refine A1 ?_
    refine RE (xa6 (k:=6) (n:=2) (agg:=true) zr72.1 zr72.2 rfl) trivial trivial ⟨rfl,trivial⟩ ?_
    refine A8 ?_
    refine R2 (x4 (c_find b (a.getD i sn0).lo hv2 hlb) fi65 rfl) rfl rfl ?_
    refine A10 ?_
    refine RGcaseD (t:=30) rfl (fun h159=> ?_) (fun h159=> ?_)
    ·
     refine A18 ?_
     refine A15 ?_
     exact x3 Plain.mk' rfl rfl (Le.bool (by rw [allS_stop (i:=i) (by omega) (show wi b (a.getD i sn0)=false by simp only [wi,Bool.and_eq_false_iff,decide_eq_false_iff_not];omega),Bool.and_false]))
    ·
     refine A2 ?_
     refine RGon (decide_eq_false h159) rfl (x5 sl44 ((fnd b (a.getD i sn0).lo)) (by omega) (gD (l:=b) (n:=(fnd b (a.getD i sn0).lo)) (d:=sn0) (by omega))) rfl ⟨rfl,rfl,trivial⟩ trivial trivial (RGon (decide_eq_false h159) rfl (xc5 fo72_0.h (At.f 0 rfl rfl) rfl) rfl ⟨rfl,trivial⟩ trivial trivial ?_)
     refine A6 ?_
     refine RGcaseD (t:=40) rfl (fun h159_2=> ?_) (fun h159_2=> ?_)
     ·
      refine A18 ?_
      refine A5 ?_
      exact x3 Plain.mk' rfl rfl (Le.bool (by rw [allS_stop (i:=i) (by omega) (show wi b (a.getD i sn0)=false by simp only [wi,Bool.and_eq_false_iff,decide_eq_false_iff_not];omega),Bool.and_false]))
     ·
      refine A2 ?_
      refine RGon (decide_eq_false h159_2) rfl (x5 sl44 ((fnd b (a.getD i sn0).lo)) (by omega) (gD (l:=b) (n:=(fnd b (a.getD i sn0).lo)) (d:=sn0) (by omega))) rfl ⟨rfl,rfl,trivial⟩ trivial trivial (RGon (decide_eq_false h159_2) rfl (xc5 fo72_1.h (At.f 1 rfl rfl) rfl) rfl ⟨rfl,trivial⟩ trivial trivial ?_)
      refine A7 ?_
      refine x9 rfl (fun h159_3=> ?_) (fun h159_3=> ?_)
      ·
       refine A11 ?_
       exact x3 Plain.mk' rfl rfl (Le.bool (by rw [allS_stop (i:=i) (by omega) (show wi b (a.getD i sn0)=false by simp only [wi,Bool.and_eq_false_iff,decide_eq_false_iff_not];omega),Bool.and_false]))
      ·
       refine A7 ?_
       have hw:wi b (a.getD i sn0)=true:=by simp only [wi,Bool.and_eq_true,decide_eq_true_eq];omega
       exact kF (i+1) ⟨⟨by omega,by rw [allS_next (by omega),ha,hw];rfl⟩,(by omega)⟩
   ·
    refine A11 ?_
    exact x3 Plain.mk' rfl rfl (Le.bool (by rw [hv,hv2,←List.take_length (l:=a),←show i=a.length by omega,ha];rfl))
end An.S
namespace An.S
open Go
theorem fnd_spec {d:Int}: ∀l:List Sn,(∀i,i < fnd l d→(l.getD i sn0).hi≤d)∧(fnd l d < l.length→d < (l.getD (fnd l d) sn0).hi)
 | []=>⟨fun i hi=>by simp [fnd] at hi,fun h=>by simp at h⟩
 | s::r=>by
  have ih:=fnd_spec (d:=d) r
  by_cases h:s.hi≤d
  ·have e:fnd (s::r) d=fnd r d+1:=by rw [fnd,List.takeWhile_cons,if_pos (by simpa using h)];rfl
   rw [e]
   refine ⟨fun i hi=> ?_,fun hl=> ?_⟩
   ·cases i with
    | zero=>exact h
    | succ i=>have:=ih.1 i (by omega);simpa using this
   ·have:=ih.2 (by simpa using hl);simpa using this
  ·have e:fnd (s::r) d=0:=by rw [fnd,List.takeWhile_cons,if_neg (by simpa using h)];rfl
   rw [e]
   exact ⟨fun i hi=>by omega,fun _=>by show d < s.hi;omega⟩
theorem lo_mono {l:List Sn} (h:sVal l=true) {i j:Nat} (hij:i≤j) (hj:j < l.length):(l.getD i sn0).lo≤(l.getD j sn0).lo:=by
 rcases Nat.lt_or_ge i j with h1 | h1
 ·have:=sVal_lt h h1 hj
  have:=xk3 h (i:=i) (by omega);omega
 ·rw [show i=j by omega];exact Int.le_refl _
theorem mem_at {l:List Sn} {d:Int} (h:mem l d=true): ∃i,i < l.length∧(l.getD i sn0).lo≤d∧d < (l.getD i sn0).hi:=by
 obtain ⟨s,hs,h1⟩:=mem_iff.1 h
 obtain ⟨i,hi,rfl⟩:=xr7 hs
 exact ⟨i,hi,h1⟩
theorem at_mem {l:List Sn} {d:Int} {i:Nat} (hi:i < l.length) (h1:(l.getD i sn0).lo≤d) (h2:d < (l.getD i sn0).hi):mem l d=true:=mem_iff.2 ⟨_,mem_getS hi,h1,h2⟩
theorem hasB_mem {l:List Sn} {d:Int} (h:sVal l=true):hasB l d=mem l d:=by
 have hf:=fnd_spec (d:=d) l
 rw [Bool.eq_iff_iff,hasB,Bool.and_eq_true,decide_eq_true_eq,decide_eq_true_eq]
 constructor
 ·rintro ⟨h1,h2⟩;exact at_mem h1 h2 (hf.2 h1)
 ·intro hm
  obtain ⟨i,hi,h1,h2⟩:=mem_at hm
  have h3: ¬i < fnd l d:=fun h'=>by have:=hf.1 i h';omega
  exact ⟨by omega,by have:=lo_mono h (show fnd l d≤i by omega) hi;omega⟩
theorem wi_iff {b:List Sn} {s:Sn} (h:sVal b=true) (hs:s.lo < s.hi):wi b s=true↔ ∀x,s.lo≤x→x < s.hi→mem b x=true:=by
 have hf:=fnd_spec (d:=s.lo) b
 rw [wi,Bool.and_eq_true,Bool.and_eq_true,decide_eq_true_eq,decide_eq_true_eq,decide_eq_true_eq]
 constructor
 ·rintro ⟨⟨h1,h2⟩,h3⟩ x hx hx2
  exact at_mem h1 (by omega) (by omega)
 ·intro ha
  have h0:=ha s.lo (Int.le_refl _) hs
  rw [←hasB_mem h,hasB,Bool.and_eq_true,decide_eq_true_eq,decide_eq_true_eq] at h0
  refine ⟨h0,?_⟩
  rcases Int.lt_or_le (b.getD (fnd b s.lo) sn0).hi s.hi with h1 | h1
  ·have h2:=hf.2 h0.1
   obtain ⟨j,hj,h3,h4⟩:=mem_at (ha (b.getD (fnd b s.lo) sn0).hi (by omega) h1)
   rcases Nat.lt_or_ge (fnd b s.lo) j with h5 | h5
   ·have:=sVal_lt h h5 hj;omega
   ·have:=hi_mono h h5 h0.1;omega
  ·exact h1
theorem sub_all {u v:List Sn} (hu:sVal u=true) (hv:sVal v=true) (h: ∀d,mem u d=true→mem v d=true):u.all (wi v)=true:=by
 refine List.all_eq_true.2 fun s hs=> ?_
 obtain ⟨i,hi,rfl⟩:=xr7 hs
 have:=xk3 hu hi
 exact (wi_iff hv this.2.1).2 fun x h1 h2=>h x (at_mem hi h1 h2)
theorem sVal_lo {l:List Sn} (h:sVal l=true): ∀i,i < l.length→(i:Int)≤(l.getD i sn0).lo
 | 0,hi=>(xk3 h hi).1
 | i+1,hi=>by
  have ih:=sVal_lo h i (by omega)
  have h1:=xk3 h (i:=i) (by omega)
  have h2:=sVal_lt h (show i < i+1 by omega) hi
  omega
theorem sVal_len {l:List Sn} (h:sVal l=true):l.length≤65536:=by
 rcases Nat.eq_zero_or_pos l.length with h0 | h0
 ·omega
 ·have h1:=sVal_lo h (l.length - 1) (by omega)
  have h2:=xk3 h (i:=l.length - 1) (by omega)
  omega
theorem one_set {s:Sn} (h:0≤s.lo∧s.lo < s.hi∧s.hi≤65536):sVal [s]=true:=sVal_snoc (l:=[]) rfl h fun h'=>by cases h'
theorem mem_one {s:Sn} {d:Int}:mem [s] d=true↔s.lo≤d∧d < s.hi:=by rw [mem_iff];simp
section
variable {D B:Int} {a b:List Fa} {f:Fa} {key:ByteArray} {kn:Int}
theorem df_view (h:gR D B a) (g:gR D B b) {k1 k2:Int}:sVal (dfS (vwT (toldT a key k1)) (vwT (toldT b key k2)))=true∧ ∀d,mem (dfS (vwT (toldT a key k1)) (vwT (toldT b key k2))) d=true↔gF (toldT a key k1) d≠gF (toldT b key k2) d:=by
 have:=dfS_set (h.view (key:=key) k1).1.1 (g.view (key:=key) k2).1.1
 refine ⟨this.1,fun d=> ?_⟩
 rw [this.2 d,dfB,decide_eq_true_eq,vw_val,vw_val]
theorem later_out (h:f.key≠key∨kn < f.kn):toldT (a++[f]) key kn=toldT a key kn:=by
 have e:[f].filter (fun f=>decide (f.key=key) && decide (f.kn≤kn))=[]:=List.filter_eq_nil_iff.2 fun x hx hh=>by
  rw [List.mem_singleton.1 hx] at hh
  simp only [Bool.and_eq_true,decide_eq_true_eq] at hh
  rcases h with h | h
  ·exact h hh.1
  ·have:=hh.2;omega
 rw [toldT,List.filter_append,e,List.append_nil,toldT]
theorem later_in {d:Int} (h: ¬(f.lo≤d∧d < f.hi)):gF (toldT (a++[f]) key kn) d=gF (toldT a key kn) d:=by
 rw [gF,gF,last_told,last_told,onT_snoc,if_neg (fun hh=>h ⟨hh.1.1.2,hh.1.2⟩),List.append_nil]
theorem onT_sub {d:Int} {x:Fa} (h:x∈onT a key kn d):x∈a∧x.kn≤kn:=by
 have h1:=List.mem_filter.1 (List.mem_filter.1 h).1
 simp only [Bool.and_eq_true,decide_eq_true_eq] at h1
 exact ⟨h1.1,h1.2.2⟩
theorem later_last {d:Int} (h: ∀x∈a,x.kn≤f.kn∨kn < x.kn) (hk:f.kn≤kn) (hd:f.lo≤d∧d < f.hi):lastF (toldT (a++[f]) f.key kn) d=some f:=by
 rw [last_told,onT_snoc,if_pos ⟨⟨⟨rfl,hd.1⟩,hd.2⟩,hk⟩,ssort_snoc fun x hx=> ?_,List.getLast?_append]
 ·rfl
 ·have h1:=onT_sub hx
  have:=h x h1.1
  omega
theorem one_tl {D B:Int} {f:Fa} (h:gF1 D B f) (hg:f.gone=false):isG 2 D B [⟨f.lo,f.hi,f.v⟩]:=by
 have hb:=h.gd
 exact isG_of ⟨fun x hx=>by rw [List.mem_singleton.1 hx];exact hb.1.2.1,List.pairwise_singleton ..⟩ trivial fun x hx=>by rw [List.mem_singleton.1 hx];exact ⟨⟨hb.1.1,hb.1.2.2⟩,hb.2 hg⟩
theorem later_cut (hR:gR D B (a++[f])) (h: ∀x∈a,x.kn≤f.kn∨kn < x.kn) (hk:f.kn≤kn):cutT (vwT (toldT (a++[f]) f.key kn)) f.lo f.hi=if f.gone=true then [] else [⟨f.lo,f.hi,f.v⟩]:=by
 have hv:=(hR.view (key:=f.key) kn).1
 have hf:=hR.2 f (List.mem_append.2 (.inr (List.mem_singleton.2 rfl)))
 by_cases hg:f.gone=true
 ·rw [if_pos hg]
  refine (hv.cut (x:=f.lo) (y:=f.hi)).same (isG_nil (K:=2) (D:=D) (B:=B)) fun d=> ?_
  rw [hv.cutV,vw_val]
  by_cases hd:f.lo≤d∧d < f.hi
  ·rw [if_pos hd,gF,later_last h hk hd,valF,if_pos hg];rfl
  ·rw [if_neg hd];rfl
 ·rw [if_neg hg]
  refine (hv.cut (x:=f.lo) (y:=f.hi)).same (one_tl hf (by simpa using hg)) fun d=> ?_
  rw [hv.cutV,vw_val,xc1]
  by_cases hd:f.lo≤d∧d < f.hi
  ·rw [if_pos hd,if_pos hd,gF,later_last h hk hd,valF,if_neg hg]
  ·rw [if_neg hd,if_neg hd];rfl
end
end An.S
namespace An.S
open Go Go.Proofs An
instance fi29:FnI Tryz.prog 29:=⟨_,Tryz.func29,by kernel_rfl,rfl⟩
instance fi30:FnI Tryz.prog 30:=⟨_,Tryz.func30,by kernel_rfl,rfl⟩
theorem el68:ElI Tryz.prog 68 5 8 true (.agg #[.int .u8 0,.int .u8 0,.int .u16 0,.int .u16 0,.int .u16 0]):=⟨ti68,by kernel_rfl,by kernel_rfl⟩
theorem zf68:Flat 5 true (.agg #[.int .u8 0,.int .u8 0,.int .u16 0,.int .u16 0,.int .u16 0]):=xm3 (by intro u hu;simp at hu;rcases hu with rfl | rfl | rfl | rfl | rfl <;> rfl)
theorem c_TDiffV {D B:Int} {a b:List Fa} (h:gR D B a) (g:gR D B b) (key:ByteArray) (k1 k2:Int):Ct Tryz.prog 28 [tL 8 true tTs (vwT (toldT a key k1)),tL 8 true tTs (vwT (toldT b key k2))] (tT [tL 2 true tSn (dfS (vwT (toldT a key k1)) (vwT (toldT b key k2))),tI 0]):=by
 have v1:=h.view (key:=key) k1
 have v2:=g.view (key:=key) k2
 have:=c_TDiff _ _ (by omega) (by omega) v1.1.dig v2.1.dig
 rw [if_pos ⟨v1.1.1,v2.1.1⟩,if_pos ⟨v1.1.1,v2.1.1⟩] at this;exact this
theorem c_CutV {D B:Int} {a:List Fa} (h:gR D B a) (key:ByteArray) (kn x y:Int) (hxy:Sn.ok ⟨x,y⟩=true) {l:List Tst} (hl:cutT (vwT (toldT a key kn)) x y=l):Ct Tryz.prog 30 [tL 8 true tTs (vwT (toldT a key kn)),tI x,tI y] (tT [tL 8 true tTs l,tI 0]):=by
 have v1:=h.view (key:=key) kn
 have:=c_Cut (vwT (toldT a key kn)) x y (by omega) v1.1.dig
 rw [if_pos ⟨v1.1.1,hxy⟩,if_pos ⟨v1.1.1,hxy⟩,hl] at this;exact this
theorem c_WithinT (u v:List Sn) (hu:sVal u=true) (hv:sVal v=true) (h: ∀d,mem u d=true→mem v d=true):Ct Tryz.prog 29 [tL 2 true tSn u,tL 2 true tSn v] (tB true):=by
 have h1:=sVal_len hu
 have h2:=sVal_len hv
 have h3:=c_Within u v (by omega) (by omega)
 rw [hu,hv,sub_all hu hv h] at h3;exact h3
theorem df_self {D B:Int} {a b:List Fa} (h:gR D B a) (g:gR D B b) {key:ByteArray} {k1 k2:Int} (e:toldT b key k2=toldT a key k1):(dfS (vwT (toldT a key k1)) (vwT (toldT b key k2))).length=0:=by
 have hv:=df_view h g (key:=key) (k1:=k1) (k2:=k2)
 have:dfS (vwT (toldT a key k1)) (vwT (toldT b key k2))=[]:=set_same hv.1 rfl fun d=>by
  rw [Bool.eq_iff_iff,hv.2 d,e]
  exact ⟨fun hh=>absurd rfl hh,fun hh=>by cases hh⟩
 rw [this];rfl
def laB (a:List Fa) (f:Fa) (kn:Int):Nat→Bool
 | 0=>decide (f.kn≤kn)
 | i+1=>laB a f kn i && (decide ((a.getD i fa0).kn≤f.kn) || decide (kn < (a.getD i fa0).kn))
theorem laB_at {a:List Fa} {f:Fa} {kn:Int}: ∀{n:Nat},laB a f kn n=true→f.kn≤kn∧ ∀i,i < n→(a.getD i fa0).kn≤f.kn∨kn < (a.getD i fa0).kn
 | 0,h=>⟨of_decide_eq_true h,fun i hi=>absurd hi (Nat.not_lt_zero i)⟩
 | n+1,h=>by
  rw [laB,Bool.and_eq_true,Bool.or_eq_true,decide_eq_true_eq,decide_eq_true_eq] at h
  have ih:=laB_at h.1
  refine ⟨ih.1,fun i hi=> ?_⟩
  rcases Nat.lt_or_ge i n with h1 | h1
  ·exact ih.2 i h1
  ·rw [show i=n by omega];exact h.2
theorem laB_all {a:List Fa} {f:Fa} {kn:Int} (h:laB a f kn a.length=true):f.kn≤kn∧ ∀x∈a,x.kn≤f.kn∨kn < x.kn:=by
 refine ⟨(laB_at h).1,fun x hx=> ?_⟩
 obtain ⟨i,hi,rfl⟩:=List.mem_iff_getElem.1 hx
 have:=(laB_at h).2 i hi
 rw [List.getD_eq_getElem?_getD,List.getElem?_eq_getElem hi] at this;exact this
theorem c_FaLater (m:List Nt) (n:Nt) (known:Int) (hm: ∀n∈m,ntOk n) (hn:ntOk n):
  Ct Tryz.prog 8 [tL 5 true tNt m,tNt n,tI known] (tB true):=by
 have hR:=btT_ok (m:=(m.take (min m.length 39))) (fun n hn=>hm n ((List.take_sublist ..).subset hn))
 have hbl:=btT_len (m:=(m.take (min m.length 39)))
 have hB:=c_Built06 (m.take (min m.length 39)) (fun n hn=>hm n ((List.take_sublist ..).subset hn))
 have hB2:Ct Tryz.prog 11 [tL 5 true tNt [n]] (tL 11 true tFa [btF n]):=c_Built06 [n] (fun x hx=>by rw [List.mem_singleton.1 hx];exact hn)
 have hf:=(btF_ok hn).1
 have hk2:kys.length=2:=rfl
 generalize btT (m.take (min m.length 39))=a at*
 generalize btF n=f at*
 have hRf:gR 84 fB (a++[f]):=hR.snoc (by omega) hf
 have hlf:(a++[f]).length=a.length+1:=by simp
 have hfs:=hf.gd.1
 refine Ct.intro Tryz.func8 rfl Tryz.ntmps8 rfl ?_
 intro w F
 refine xf1 (s:=0) rfl (fun hl0=> ?_)
 refine A9 ?_
 refine R0 (x4 c_awake06 fi10 rfl) ?_
 refine A11 ?_
 refine R2 d_min2 rfl rfl (R2 (d_sliceTo sl22 (min m.length 39) (by omega) (by omega) rfl) rfl rfl (R1 (x4 hB fi11 rfl) rfl ?_))
 refine A6 ?_
 refine R1 (xb3 (n:=1) (f:=tNt) [n] Tryz.underlying22 el68 zf68 rfl (fun _=>inferInstance) rfl rfl rfl) rfl (R1 (x4 hB2 fi11 rfl) rfl (R2 (x5 sl24 (0) (by omega) (gD (l:=[f]) (n:=0) (d:=fa0) (by simp))) rfl rfl ?_))
 refine A1 ?_
 refine RE (xa6 (k:=8) (n:=11) (agg:=true) zr34.1 zr34.2 rfl) trivial trivial ⟨rfl,trivial⟩ ?_
 refine A5 ?_
 refine RE (d_empty (k:=38) Tryz.underlying24 el34 rfl (fun h=>by cases h)) trivial trivial ⟨rfl,trivial⟩ ?_
 refine A1 ?_
 refine RE (xa8 (k:=38) (k':=40) (f:=tFa) (ys:=a) (ts':=rV tFa a) Tryz.underlying24 el34 zf34 rfl rfl (fun _=>inferInstance) rfl (by simp;omega) (by simp;omega) (by simp [rV]) (n':=a.length) (by simp)) ⟨rfl,rfl,trivial⟩ ⟨rfl,trivial⟩ ⟨rfl,trivial⟩ ?_
 refine A1 ?_
 refine R1 (xb3 (n:=1) (f:=tFa) [f] Tryz.underlying24 el34 zf34 rfl (fun _=>inferInstance) rfl rfl rfl) rfl (RE (xa8 (k:=40) (k':=43) (f:=tFa) (ys:=[f]) (ts':=rV tFa (a++[f])) Tryz.underlying24 el34 zf34 rfl rfl (fun _=>inferInstance) xb7 (by simp;omega) (by simp;omega) (by simp [rV]) (n':=a.length+1) rfl) ⟨rfl,rfl,trivial⟩ ⟨rfl,trivial⟩ ⟨rfl,trivial⟩ ?_)
 refine A5 ?_
 refine C_give (t:=9) (k:=43) (f:=tFa) (xs:=(a++[f])) rfl rfl (fun _ h=>h) (xf7 hlf) hlf ?_
 refine A1 ?_
 refine R2 (xb3 (n:=2) (f:=fun s:ByteArray=>tSt s) kys Tryz.underlying35 el9 zf9 rfl (fun _=>inferInstance) rfl rfl rfl) rfl rfl ?_
 refine A5 ?_
 refine cL (fun (i:Nat)=>i≤2) (fun (i:Nat)=>upd (upd (upd (upd (upd (upd (upd (fun _=>none) 2 (some (.val (tI known)))) 8 (some (.own (.ptr 8 0)))) 9 (some (.val (tL 11 true tFa (a++[f]))))) 7 (some (.val (tL 11 true tFa a)))) 44 (some (.val (tL 1 false (fun s:ByteArray=>tSt s) kys)))) 45 (some (.val (tI 2)))) 46 (some (.val (tI i)))) (fun (i:Nat)=>upd (fun _=>none) 8 (some (⟨34,11,true,[.val (tFa f)]⟩))) [8] (fun (i:Nat)=>2 - i) (0) (Nat.zero_le _) (hh:=((SubK.consI rfl ImpK.refl) SubK.nil)) ?_
 intro i hI
 have hdv:=df_view hR hRf (key:=(kys.getD i kPay)) (k1:=known) (k2:=known)
 have hdz:((kys.getD i kPay)≠f.key∨known < f.kn)→(dfS (vwT (toldT a (kys.getD i kPay) known)) (vwT (toldT (a++[f]) (kys.getD i kPay) known))).length=0:=fun h=>df_self hR hRf (later_out (h.imp Ne.symm id))
 have hdw: ∀d,mem (dfS (vwT (toldT a (kys.getD i kPay) known)) (vwT (toldT (a++[f]) (kys.getD i kPay) known))) d=true→mem [(⟨f.lo,f.hi⟩:Sn)] d=true:=fun d hd=>mem_one.2 (Decidable.byContradiction fun hc=>(hdv.2 d).1 hd (later_in hc).symm)
 refine A6 ?_
 refine x9 rfl (fun h87=> ?_) (fun h87=> ?_)
 ·
  refine A6 ?_
  refine R2 (x5 sl35 (i) (by omega) (gD (l:=kys) (n:=i) (d:=kPay) (by omega))) rfl rfl ?_
  refine A9 ?_
  refine R3 (x4 (c_ViewG hR (kys.getD i kPay) known) fi12 rfl) rfl rfl rfl ?_
  refine A12 ?_
  refine R3 (x4 (c_ViewG hRf (kys.getD i kPay) known) fi12 rfl) rfl rfl rfl ?_
  refine A11 ?_
  refine R2 (x4 (c_TDiffV hR hRf (kys.getD i kPay) known known) fi28 rfl) rfl rfl ?_
  refine A16 ?_
  refine RGon (decide_eq_false (by omega)) rfl xb0 rfl ⟨rfl,trivial⟩ trivial trivial (RGon (decide_eq_false (by omega)) rfl (xd0 fo34_0.h rfl) rfl ⟨rfl,trivial⟩ trivial trivial (xc9 (decide_eq_false (by omega)) rfl rfl (0) ti9 rfl rfl rfl (At.g 0 rfl rfl) rfl (RGon (decide_eq_false (by omega)) rfl (d_neqS) rfl ⟨rfl,rfl,trivial⟩ trivial trivial (RGon (decide_eq_false (by omega)) rfl xb0 rfl ⟨rfl,trivial⟩ trivial trivial ?_))))
  refine RGcaseD (t:=81) rfl (fun h91_2=> ?_) (fun h91_2=> ?_)
  ·
   refine A4 ?_
   refine RGon (decide_eq_false (by omega)) rfl (xf5 (decide_eq_true h91_2)) rfl ⟨rfl,rfl,trivial⟩ trivial trivial (RGon (decide_eq_false (by omega)) rfl xb0 rfl ⟨rfl,trivial⟩ trivial trivial ?_)
   refine A3 ?_
   refine RGon (decide_eq_false (by omega)) rfl (xf5 rfl) rfl ⟨rfl,rfl,trivial⟩ trivial trivial (R2 (xd7 (decide_eq_false (by omega))) rfl rfl ?_)
   refine A1 ?_
   refine RGon (decide_eq_false (by have:=hdz (by first | exact .inl (by assumption) | exact .inr (by omega));omega)) rfl xb0 rfl ⟨rfl,trivial⟩ trivial trivial (RGon (decide_eq_false (by have:=hdz (by first | exact .inl (by assumption) | exact .inr (by omega));omega)) rfl (xd0 fo34_1.h rfl) rfl ⟨rfl,trivial⟩ trivial trivial (xc9 (decide_eq_false (by have:=hdz (by first | exact .inl (by assumption) | exact .inr (by omega));omega)) rfl rfl (0) ti3 rfl rfl rfl (At.g 1 rfl rfl) rfl (RGon (decide_eq_false (by have:=hdz (by first | exact .inl (by assumption) | exact .inr (by omega));omega)) rfl (xd0 fo34_2.h rfl) rfl ⟨rfl,trivial⟩ trivial trivial (xc9 (decide_eq_false (by have:=hdz (by first | exact .inl (by assumption) | exact .inr (by omega));omega)) rfl rfl (0) ti3 rfl rfl rfl (At.g 2 rfl rfl) rfl (RGon (decide_eq_false (by have:=hdz (by first | exact .inl (by assumption) | exact .inr (by omega));omega)) rfl (xb2 (r:=tS [⟨1,false,tI f.lo⟩,⟨1,false,tI f.hi⟩]) (ts:=[(0,tI f.lo),(1,tI f.hi)]) bu72 zr72.2 (Bc 0 rfl rfl rfl (Bc 1 rfl rfl rfl Le.refl))) rfl ⟨rfl,rfl,trivial⟩ trivial trivial (RGon (decide_eq_false (by have:=hdz (by first | exact .inl (by assumption) | exact .inr (by omega));omega)) rfl (xb3 (n:=1) (f:=tSn) [(⟨f.lo,f.hi⟩:Sn)] Tryz.underlying44 el72 zf72 rfl (fun _=>inferInstance) rfl rfl rfl) rfl ⟨rfl,trivial⟩ trivial trivial (RGon (decide_eq_false (by have:=hdz (by first | exact .inl (by assumption) | exact .inr (by omega));omega)) rfl (x4 (c_WithinT _ _ hdv.1 (one_set hfs) hdw) fi29 rfl) rfl ⟨rfl,rfl,trivial⟩ trivial trivial ?_)))))))
   refine RGon (decide_eq_false (by have:=hdz (by first | exact .inl (by assumption) | exact .inr (by omega));omega)) rfl d_not rfl ⟨rfl,trivial⟩ trivial trivial (R2 (xd7 (decide_eq_false (by have:=hdz (by first | exact .inl (by assumption) | exact .inr (by omega));omega))) rfl rfl ?_)
   refine A10 ?_
   exact kF (i+1) ⟨(by omega),(by omega)⟩ (hh:=((SubK.consI rfl ImpK.refl) SubK.nil))
  ·
   refine A4 ?_
   refine RGon (decide_eq_false (by omega)) rfl (xd7 (decide_eq_false h91_2)) rfl ⟨rfl,rfl,trivial⟩ trivial trivial (RGon (decide_eq_false (by omega)) rfl xb0 rfl ⟨rfl,trivial⟩ trivial trivial ?_)
   refine RGcaseD (t:=87) rfl (fun h91_3=> ?_) (fun h91_3=> ?_)
   ·
    refine A3 ?_
    refine RGon (decide_eq_false (by omega)) rfl (xf5 (decide_eq_true h91_3)) rfl ⟨rfl,rfl,trivial⟩ trivial trivial (R2 (xd7 (decide_eq_false (by omega))) rfl rfl ?_)
    refine A1 ?_
    refine RGon (decide_eq_false (by have:=hdz (by first | exact .inl (by assumption) | exact .inr (by omega));omega)) rfl xb0 rfl ⟨rfl,trivial⟩ trivial trivial (RGon (decide_eq_false (by have:=hdz (by first | exact .inl (by assumption) | exact .inr (by omega));omega)) rfl (xd0 fo34_1.h rfl) rfl ⟨rfl,trivial⟩ trivial trivial (xc9 (decide_eq_false (by have:=hdz (by first | exact .inl (by assumption) | exact .inr (by omega));omega)) rfl rfl (0) ti3 rfl rfl rfl (At.g 1 rfl rfl) rfl (RGon (decide_eq_false (by have:=hdz (by first | exact .inl (by assumption) | exact .inr (by omega));omega)) rfl (xd0 fo34_2.h rfl) rfl ⟨rfl,trivial⟩ trivial trivial (xc9 (decide_eq_false (by have:=hdz (by first | exact .inl (by assumption) | exact .inr (by omega));omega)) rfl rfl (0) ti3 rfl rfl rfl (At.g 2 rfl rfl) rfl (RGon (decide_eq_false (by have:=hdz (by first | exact .inl (by assumption) | exact .inr (by omega));omega)) rfl (xb2 (r:=tS [⟨1,false,tI f.lo⟩,⟨1,false,tI f.hi⟩]) (ts:=[(0,tI f.lo),(1,tI f.hi)]) bu72 zr72.2 (Bc 0 rfl rfl rfl (Bc 1 rfl rfl rfl Le.refl))) rfl ⟨rfl,rfl,trivial⟩ trivial trivial (RGon (decide_eq_false (by have:=hdz (by first | exact .inl (by assumption) | exact .inr (by omega));omega)) rfl (xb3 (n:=1) (f:=tSn) [(⟨f.lo,f.hi⟩:Sn)] Tryz.underlying44 el72 zf72 rfl (fun _=>inferInstance) rfl rfl rfl) rfl ⟨rfl,trivial⟩ trivial trivial (RGon (decide_eq_false (by have:=hdz (by first | exact .inl (by assumption) | exact .inr (by omega));omega)) rfl (x4 (c_WithinT _ _ hdv.1 (one_set hfs) hdw) fi29 rfl) rfl ⟨rfl,rfl,trivial⟩ trivial trivial ?_)))))))
    refine RGon (decide_eq_false (by have:=hdz (by first | exact .inl (by assumption) | exact .inr (by omega));omega)) rfl d_not rfl ⟨rfl,trivial⟩ trivial trivial (R2 (xd7 (decide_eq_false (by have:=hdz (by first | exact .inl (by assumption) | exact .inr (by omega));omega))) rfl rfl ?_)
    refine A10 ?_
    exact kF (i+1) ⟨(by omega),(by omega)⟩ (hh:=((SubK.consI rfl ImpK.refl) SubK.nil))
   ·
    refine A3 ?_
    refine RGon (decide_eq_false (by omega)) rfl (xd7 (decide_eq_false h91_3)) rfl ⟨rfl,rfl,trivial⟩ trivial trivial (R2 (xd7 (decide_eq_false (by omega))) rfl rfl ?_)
    refine A6 ?_
    refine RGon rfl rfl (xb2 (r:=tS [⟨1,false,tI f.lo⟩,⟨1,false,tI f.hi⟩]) (ts:=[(0,tI f.lo),(1,tI f.hi)]) bu72 zr72.2 (Bc 0 rfl rfl rfl (Bc 1 rfl rfl rfl Le.refl))) rfl ⟨rfl,rfl,trivial⟩ trivial trivial (RGon rfl rfl (xb3 (n:=1) (f:=tSn) [(⟨f.lo,f.hi⟩:Sn)] Tryz.underlying44 el72 zf72 rfl (fun _=>inferInstance) rfl rfl rfl) rfl ⟨rfl,trivial⟩ trivial trivial (RGon rfl rfl (x4 (c_WithinT _ _ hdv.1 (one_set hfs) hdw) fi29 rfl) rfl ⟨rfl,rfl,trivial⟩ trivial trivial ?_))
    refine A12 ?_
    exact kF (i+1) ⟨(by omega),(by omega)⟩ (hh:=((SubK.consI rfl ImpK.refl) SubK.nil))
 ·
  refine A18 ?_
  refine A5 ?_
  refine cL (fun (fm:(Nat)×(Bool))=>(fun (i:Nat) (b:Bool)=>i≤a.length∧b=laB a f known i) fm.1 fm.2) (fun (fm:(Nat)×(Bool))=>(fun (i:Nat) (b:Bool)=>upd (upd (upd (upd (upd (upd (upd (fun _=>none) 2 (some (.val (tI known)))) 8 (some (.own (.ptr 8 0)))) 9 (some (.val (tL 11 true tFa (a++[f]))))) 18 (some (.val (tB b)))) 109 (some (.val (tL 11 true tFa a)))) 110 (some (.val (tI a.length)))) 111 (some (.val (tI i)))) fm.1 fm.2) (fun (fm:(Nat)×(Bool))=>(fun (i:Nat) (b:Bool)=>upd (fun _=>none) 8 (some (⟨34,11,true,[.val (tFa f)]⟩))) fm.1 fm.2) [8] (fun (fm:(Nat)×(Bool))=>(fun (i:Nat) (b:Bool)=>a.length - i) fm.1 fm.2) ((0,decide (f.kn≤known))) (by dsimp only;exact ⟨Nat.zero_le _,rfl⟩) (hh:=((SubK.consI rfl ImpK.refl) SubK.nil)) ?_
  intro fm hI
  obtain ⟨i,b⟩:=fm
  replace hI:i≤a.length∧b=laB a f known i:=hI
  show wc _ _ _ _ (upd (upd (upd (upd (upd (upd (upd (fun _=>none) 2 (some (.val (tI known)))) 8 (some (.own (.ptr 8 0)))) 9 (some (.val (tL 11 true tFa (a++[f]))))) 18 (some (.val (tB b)))) 109 (some (.val (tL 11 true tFa a)))) 110 (some (.val (tI a.length)))) 111 (some (.val (tI i)))) (upd (fun _=>none) 8 (some (⟨34,11,true,[.val (tFa f)]⟩))) _
  obtain ⟨hi,hb⟩:=hI
  refine A6 ?_
  refine x9 rfl (fun h96=> ?_) (fun h96=> ?_)
  ·
   refine A6 ?_
   refine R2 (x5 sl24 (i) (by omega) (gD (l:=a) (n:=i) (d:=fa0) (by omega))) rfl rfl ?_
   refine A1 ?_
   refine RE (xa6 (k:=20) (n:=11) (agg:=true) zr34.1 zr34.2 rfl) trivial trivial ⟨rfl,trivial⟩ ?_
   refine A6 ?_
   refine RGcase (t:=116) rfl (fun h97=> ?_) (fun h97=> ?_)
   ·
    refine A6 ?_
    refine RGcaseD (t:=122) rfl (fun h97_2=> ?_) (fun h97_2=> ?_)
    ·
     refine A4 ?_
     refine RGon h97 rfl (xf5 (decide_eq_true h97_2)) rfl ⟨rfl,rfl,trivial⟩ trivial trivial ?_
     refine A9 ?_
     exact kF ((i+1,true)) ⟨(by dsimp only;exact ⟨by omega,by rw [laB,←hb,h97];rw [decide_eq_true (p:=(a.getD i fa0).kn≤f.kn) (by omega)];rfl⟩),(by dsimp only;omega)⟩ (hh:=((SubK.consI rfl ImpK.refl) SubK.nil))
    ·
     refine A4 ?_
     refine RGon h97 rfl (xd7 (decide_eq_false h97_2)) rfl ⟨rfl,rfl,trivial⟩ trivial trivial ?_
     refine A9 ?_
     exact kF ((i+1,decide ((a.getD i fa0).kn > known))) ⟨(by dsimp only;exact ⟨by omega,by rw [laB,←hb,h97];rw [decide_eq_false (p:=(a.getD i fa0).kn≤f.kn) (by omega)];rfl⟩),(by dsimp only;omega)⟩ (hh:=((SubK.consI rfl ImpK.refl) SubK.nil))
   ·
    refine A18 ?_
    refine A2 ?_
    exact kF ((i+1,false)) ⟨(by dsimp only;exact ⟨by omega,by rw [laB,←hb,h97];rfl⟩),(by dsimp only;omega)⟩ (hh:=((SubK.consI rfl ImpK.refl) SubK.nil))
  ·
   refine A12 ?_
   refine xd2 rfl (fun h99=> ?_) (fun h99=> ?_)
   ·
    refine A7 ?_
    exact x3 Plain.mk' rfl rfl Le.refl
   ·
    refine A3 ?_
    have hia:i=a.length:=by omega
    subst hia
    have hla:=laB_all (a:=a) (f:=f) (kn:=known) (by rw [←hb];simpa using h99)
    refine A5 ?_
    refine R3 (x4 (c_ViewG hRf f.key known) fi12 rfl) rfl rfl rfl ?_
    refine A14 ?_
    refine R3 (x4 (c_CutV hRf f.key known f.lo f.hi (by simp [Sn.ok];omega) (later_cut hRf hla.2 hla.1)) fi30 rfl) rfl rfl rfl ?_
    refine A14 ?_
    refine xd2 rfl (fun h104=> ?_) (fun h104=> ?_)
    ·
     refine A5 ?_
     refine RGon (decide_eq_true (by omega)) rfl xb0 rfl ⟨rfl,trivial⟩ trivial trivial (RGon (decide_eq_true (by omega)) rfl (d_len Tryz.underlying36) rfl ⟨rfl,trivial⟩ trivial trivial (RGon (decide_eq_true (by omega)) rfl d_eql rfl ⟨rfl,rfl,trivial⟩ trivial trivial (R2 (xf5 (decide_eq_true (by omega))) rfl rfl ?_)))
     refine A5 ?_
     exact x3 Plain.mk' rfl rfl (Le.bool (by simp [h104]))
    ·
     refine A7 ?_
     refine RGon (decide_eq_true (by omega)) rfl xb0 rfl ⟨rfl,trivial⟩ trivial trivial (RGon (decide_eq_true (by omega)) rfl (xd0 fo34_1.h rfl) rfl ⟨rfl,trivial⟩ trivial trivial (xc9 (decide_eq_true (by omega)) rfl rfl (0) ti3 rfl rfl rfl (At.g 1 rfl rfl) rfl (RGon (decide_eq_true (by omega)) rfl (xd0 fo34_2.h rfl) rfl ⟨rfl,trivial⟩ trivial trivial (xc9 (decide_eq_true (by omega)) rfl rfl (0) ti3 rfl rfl rfl (At.g 2 rfl rfl) rfl (RGon (decide_eq_true (by omega)) rfl (xd0 fo34_5.h rfl) rfl ⟨rfl,trivial⟩ trivial trivial (xc9 (decide_eq_true (by omega)) rfl rfl (0) ti32 rfl rfl rfl (At.g 5 rfl rfl) rfl (RGon (decide_eq_true (by omega)) rfl (xb2 (r:=tS [⟨1,false,tI f.lo⟩,⟨1,false,tI f.hi⟩,⟨6,true,tVa f.v⟩]) (ts:=[(0,tI f.lo),(1,tI f.hi),(2,tVa f.v)]) bu57 zr57.2 (Bc 0 rfl rfl rfl (Bc 1 rfl rfl rfl (Bc 2 rfl rfl rfl Le.refl)))) rfl ⟨rfl,rfl,rfl,trivial⟩ trivial trivial ?_)))))))
     refine RGon (decide_eq_true (by omega)) rfl (xb3 (n:=1) (f:=tTs) [(⟨f.lo,f.hi,f.v⟩:Tst)] Tryz.underlying36 el57 zf57 rfl (fun _=>inferInstance) rfl rfl rfl) rfl ⟨rfl,trivial⟩ trivial trivial (RGon (decide_eq_true (by omega)) rfl (x4 (c_sameTv _ _ (by rw [if_neg (by simp_all)])) fi13 rfl) rfl ⟨rfl,rfl,trivial⟩ trivial trivial (R2 (xf5 (decide_eq_true (by omega))) rfl rfl ?_))
     refine A4 ?_
     exact x3 Plain.mk' rfl rfl Le.refl
end An.S
