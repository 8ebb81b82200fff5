/- Part 5 of a proof: F17, F18. -/
import Derived.Test.YtdilcbnmhgjheaaGreatDoorG4
set_option maxHeartbeats 4000000
set_option maxRecDepth 100000
namespace An.S
open Go Go.Proofs An
instance ti103:TyI Tryz.prog 103 1 false:=⟨by kernel_rfl,by kernel_rfl⟩
instance fi58:FnI Tryz.prog 58:=⟨_,Tryz.func58,by kernel_rfl,rfl⟩
instance fi59:FnI Tryz.prog 59:=⟨_,Tryz.func59,by kernel_rfl,rfl⟩
def laySortedR:Go.Shelf.Ren:=⟨fun n=>match n with | 6=>58 | 8=>90 | 9=>91 | 11=>110 | n=>n,fun n=>match n with | 0=>0 | 24=>35 | 26=>9 | 28=>108 | 33=>152 | n=>n,fun n=>n⟩
theorem laySorted:Go.Proofs.SlLaysZ.n6 Tryz.prog laySortedR where
 mixed:=by kernel_rfl
 f6:=⟨Tryz.f58.name,by kernel_rfl,by kernel_rfl⟩
 f8:=⟨Tryz.f90.name,by kernel_rfl,by kernel_rfl⟩
 f11:=⟨Tryz.f110.name,by kernel_rfl,by kernel_rfl⟩
 t0:=by kernel_rfl
 a0:=fun w=>by kernel_rfl
 z0:=fun w=>by kernel_rfl
 v0:=fun w=>by kernel_rfl
 t24:=by kernel_rfl
 a24:=fun w=>by kernel_rfl
 z24:=fun w=>by kernel_rfl
 v24:=fun w=>by kernel_rfl
 t26:=by kernel_rfl
 a26:=fun w=>by kernel_rfl
 z26:=fun w=>by kernel_rfl
 v26:=fun w=>by kernel_rfl
 t28:=by kernel_rfl
 a28:=fun w=>by kernel_rfl
 z28:=fun w=>by kernel_rfl
 v28:=fun w=>by kernel_rfl
 i26:=by kernel_rfl
def layKeys1R:Go.Shelf.Ren:=⟨fun n=>match n with | 10=>92 | n=>n,fun n=>match n with | 0=>0 | 3=>5 | 4=>4 | 23=>103 | 26=>9 | 33=>152 | n=>n,fun n=>n⟩
theorem layKeys1:Go.Proofs.SlLaysZ.n10 Tryz.prog layKeys1R where
 mixed:=by kernel_rfl
 f10:=⟨Tryz.f92.name,by kernel_rfl,by kernel_rfl⟩
 t0:=by kernel_rfl
 a0:=fun w=>by kernel_rfl
 z0:=fun w=>by kernel_rfl
 v0:=fun w=>by kernel_rfl
 t4:=by kernel_rfl
 a4:=fun w=>by kernel_rfl
 z4:=fun w=>by kernel_rfl
 v4:=fun w=>by kernel_rfl
 t23:=by kernel_rfl
 a23:=fun w=>by kernel_rfl
 z23:=fun w=>by kernel_rfl
 v23:=fun w=>by kernel_rfl
 t26:=by kernel_rfl
 a26:=fun w=>by kernel_rfl
 z26:=fun w=>by kernel_rfl
 v26:=fun w=>by kernel_rfl
 t33:=by kernel_rfl
 a33:=fun w=>by kernel_rfl
 z33:=fun w=>by kernel_rfl
 v33:=fun w=>by kernel_rfl
def laySortSR:Go.Shelf.Ren:=⟨fun n=>match n with | 125=>99 | 128=>120 | 129=>121 | 190=>91 | 258=>111 | 302=>142 | 303=>143 | 304=>144 | 305=>145 | 306=>146 | 307=>147 | 308=>148 | 309=>149 | 310=>150 | 329=>152 | 330=>153 | 333=>165 | 334=>166 | 335=>167 | 336=>168 | 344=>180 | n=>n,fun n=>match n with | 0=>0 | 3=>3 | 4=>4 | 5=>5 | 9=>9 | 31=>35 | 46=>143 | 51=>180 | 53=>150 | 131=>177 | 182=>172 | 183=>173 | 218=>199 | 222=>203 | 228=>216 | 229=>92 | n=>n,fun n=>n⟩
theorem laySortS:Go.Proofs.Lays.n190 Tryz.prog laySortSR where
 mixed:=by kernel_rfl
 f125:=by kernel_rfl
 f128:=by kernel_rfl
 f129:=by kernel_rfl
 f190:=by kernel_rfl
 f258:=by kernel_rfl
 f302:=by kernel_rfl
 f303:=by kernel_rfl
 f304:=by kernel_rfl
 f305:=by kernel_rfl
 f306:=by kernel_rfl
 f307:=by kernel_rfl
 f308:=by kernel_rfl
 f309:=by kernel_rfl
 f310:=by kernel_rfl
 f329:=by kernel_rfl
 f330:=by kernel_rfl
 f333:=by kernel_rfl
 f334:=by kernel_rfl
 f335:=by kernel_rfl
 f336:=by kernel_rfl
 f344:=by kernel_rfl
 t0:=by kernel_rfl
 a0:=fun w=>by kernel_rfl
 z0:=fun w=>by kernel_rfl
 v0:=fun w=>by kernel_rfl
 t3:=by kernel_rfl
 a3:=fun w=>by kernel_rfl
 z3:=fun w=>by kernel_rfl
 v3:=fun w=>by kernel_rfl
 t4:=by kernel_rfl
 a4:=fun w=>by kernel_rfl
 z4:=fun w=>by kernel_rfl
 v4:=fun w=>by kernel_rfl
 t5:=by kernel_rfl
 a5:=fun w=>by kernel_rfl
 z5:=fun w=>by kernel_rfl
 v5:=fun w=>by kernel_rfl
 t9:=by kernel_rfl
 a9:=fun w=>by kernel_rfl
 z9:=fun w=>by kernel_rfl
 v9:=fun w=>by kernel_rfl
 t31:=by kernel_rfl
 a31:=fun w=>by kernel_rfl
 z31:=fun w=>by kernel_rfl
 v31:=fun w=>by kernel_rfl
 t46:=by kernel_rfl
 a46:=fun w=>by kernel_rfl
 z46:=fun w=>by kernel_rfl
 v46:=fun w=>by kernel_rfl
 t51:=by kernel_rfl
 a51:=fun w=>by kernel_rfl
 z51:=fun w=>by kernel_rfl
 v51:=fun w=>by kernel_rfl
 t53:=by kernel_rfl
 a53:=fun w=>by kernel_rfl
 z53:=fun w=>by kernel_rfl
 v53:=fun w=>by kernel_rfl
 t131:=by kernel_rfl
 a131:=fun w=>by kernel_rfl
 z131:=fun w=>by kernel_rfl
 v131:=fun w=>by kernel_rfl
 t182:=by kernel_rfl
 a182:=fun w=>by kernel_rfl
 z182:=fun w=>by kernel_rfl
 v182:=fun w=>by kernel_rfl
 t183:=by kernel_rfl
 a183:=fun w=>by kernel_rfl
 z183:=fun w=>by kernel_rfl
 v183:=fun w=>by kernel_rfl
 t218:=by kernel_rfl
 a218:=fun w=>by kernel_rfl
 z218:=fun w=>by kernel_rfl
 v218:=fun w=>by kernel_rfl
 t222:=by kernel_rfl
 a222:=fun w=>by kernel_rfl
 z222:=fun w=>by kernel_rfl
 v222:=fun w=>by kernel_rfl
 t228:=by kernel_rfl
 a228:=fun w=>by kernel_rfl
 z228:=fun w=>by kernel_rfl
 v228:=fun w=>by kernel_rfl
 t229:=by kernel_rfl
 a229:=fun w=>by kernel_rfl
 z229:=fun w=>by kernel_rfl
 v229:=fun w=>by kernel_rfl
open Go.Proofs Go.Shelf Go.Sort Go.RowKit in
theorem sortsS:AnyZ.SortsIn Tryz.prog laySortedR Fence.wide 4:=
 ⟨fun blk off cap ss W hH hblk hsz=>callsIn_wide.2 (Any.slices_Sort_string laySortS blk off cap ss W hH hblk hsz),fun p cap W=>callsIn_wide.2 (Any.slices_Sort_string_none laySortS p cap W)⟩
open Go.Proofs Go.Shelf Go.Sort Go.RowKit in
theorem c_SortedK (l:List (ByteArray×Nat)) (hn:(l.map (·.1)).Nodup) (hz: ∀p∈l,p.1.size≤maxLen) (hl:l.length≤1000000):
  CtG Tryz.prog 58 [(1,⟨103,1,false,[.val (tMp mkSU (some l))]⟩)] [.own (.fn 92 [.ptr 1 0])] (.val (tL 1 false tSt (srtB (l.map (·.1))))) [(1,⟨103,1,false,[.val (tMp mkSU (some l))]⟩)] []:=
 sortedK laySorted layKeys1 rfl rfl sortsS (enters_of laySortS.f190 (by kernel_rfl) rfl) (layKeys1.f10.enters rfl) l hn hz hl
instance {α β:Type} {M:MK α β} {l:List (α×β)}:Shape (tMp M (some l)) 1 false:=⟨fun ⟨_,h,_⟩=>by rw [h];exact xb9 rfl⟩
theorem putM_keys {a:ByteArray} {v:Nat}: ∀{l:List (ByteArray×Nat)},(a∈l.map (·.1)∧(putM l a v).map (·.1)=l.map (·.1))∨(¬a∈l.map (·.1)∧(putM l a v).map (·.1)=l.map (·.1)++[a])
 | []=> .inr ⟨by simp,rfl⟩
 | p::r=>by
  have ih:=putM_keys (a:=a) (v:=v) (l:=r)
  rw [putM_cons,List.map_cons]
  by_cases h:a=p.1
  ·rw [if_pos h,List.map_cons,h]
   exact .inl ⟨List.mem_cons_self ..,rfl⟩
  ·rw [if_neg h,List.map_cons]
   rcases ih with ⟨hm,e⟩ | ⟨hm,e⟩
   ·exact .inl ⟨List.mem_cons_of_mem _ hm,by rw [e]⟩
   ·exact .inr ⟨fun hh=>(List.mem_cons.1 hh).elim h hm,by rw [e];rfl⟩
theorem kM_inv {Q:ByteArray→Prop}: ∀(a:List Fa) (m:List (ByteArray×Nat)),(m.map (·.1)).Nodup→(∀k∈m.map (·.1),Q k)→(∀f∈a,Q f.key)→((a.foldl kAdd m).map (·.1)).Nodup∧(∀k∈(a.foldl kAdd m).map (·.1),Q k)∧(a.foldl kAdd m).length≤m.length+a.length
 | [],m,h1,h2,_=>⟨h1,h2,Nat.le_refl _⟩
 | f::r,m,h1,h2,h3=>by
  have h5:((kAdd m f).map (·.1)).Nodup∧(∀k∈(kAdd m f).map (·.1),Q k)∧((kAdd m f).map (·.1)).length≤m.length+1:=by
   rcases putM_keys (l:=m) (a:=f.key) (v:=max (kGet m f.key) f.v.kind) with ⟨hm,e⟩ | ⟨hm,e⟩
   ·rw [kAdd,e]
    exact ⟨h1,h2,by rw [List.length_map];omega⟩
   ·rw [kAdd,e]
    refine ⟨List.pairwise_append.2 ⟨h1,List.pairwise_singleton ..,fun x hx y hy=> ?_⟩,fun k hk=> ?_,by rw [List.length_append,List.length_map];exact Nat.le_refl _⟩
    ·rw [List.mem_singleton.1 hy];exact fun hh=>hm (hh▸hx)
    ·rcases List.mem_append.1 hk with h | h
     ·exact h2 k h
     ·rw [List.mem_singleton.1 h];exact h3 f (List.mem_cons_self ..)
  rw [List.length_map] at h5
  obtain ⟨i1,i2,i3⟩:=kM_inv r (kAdd m f) h5.1 h5.2.1 fun x hx=>h3 x (List.mem_cons_of_mem _ hx)
  exact ⟨i1,i2,by rw [List.foldl_cons,List.length_cons];omega⟩
theorem gR.keys {D B:Int} {a:List Fa} (h:gR D B a):((kM a).map (·.1)).Nodup∧(∀p∈kM a,p.1.size≤maxLen)∧(kM a).length≤1000000:=by
 obtain ⟨h1,h2,h3⟩:=kM_inv (Q:=fun k=>k.size≤24) a [] List.nodup_nil (fun k hk=>by cases hk) fun f hf=>(h.2 f hf).1.1.1.2
 refine ⟨h1,fun p hp=> ?_,?_⟩
 ·have:=h2 p.1 (List.mem_map_of_mem hp)
  exact Nat.le_trans this (by decide)
 ·have h4:=h.1
  have h5:(kM a).length≤0+a.length:=h3
  omega
def keyB (a:List Fa):List ByteArray:=srtB ((kM a).map (·.1))
theorem keyB_len {D B:Int} {a:List Fa} (h:gR D B a):(keyB a).length≤1000000:=by rw [keyB,srtB_len,List.length_map];exact h.keys.2.2
theorem c_mapsKeys (l:List (ByteArray×Nat)):
  CtG Tryz.prog 59 [] [.val (tMp mkSU (some l))] (.own (.fn 92 [.ptr 1 0])) [(1,⟨103,1,false,[.val (tMp mkSU (some l))]⟩)] [1]:=by
 refine CtG.intro [] Tryz.func59 rfl Tryz.ntmps59 rfl rfl trivial ?_
 intro w F η
 refine A8 ?_
 refine R1 (xj1 (ps:=[.ptr 1 0]) rfl) rfl ?_
 refine A4 ?_
 exact xc4 LentC.mk' rfl rfl Imp.refl ⟨rfl,trivial⟩ rfl ⟨⟨rfl,(SupX.lit rfl)⟩,trivial⟩ rfl
theorem c_KeysG {D B:Int} (a:List Fa) (h:gR D B a):
  Ct Tryz.prog 23 [tL 11 true tFa a] (tL 1 false tSt (keyB a)):=by
 refine Ct.intro Tryz.func23 rfl Tryz.ntmps23 rfl ?_
 intro w F
 refine A9 ?_
 refine R1 (x4 (c_ValidG h) fi26 rfl) rfl ?_
 refine A9 ?_
 refine R1 (x4 (c_kindsG h) fi57 rfl) rfl ?_
 refine A10 ?_
 refine RE (xa6 (fun _=>14) (c_mapsKeys (kM a)) fi59 rfl (krN (ρ:=fun _=>14)) (krC (ρ:=fun _=>14) (k:=1) rfl (krN (ρ:=fun _=>14))) ⟨⟨rfl,(SupX.lit rfl)⟩,trivial⟩ rfl) ⟨rfl,trivial⟩ trivial ⟨rfl,trivial⟩ (RE (xa6 (fun _=>14) (c_SortedK (kM a) h.keys.1 h.keys.2.1 h.keys.2.2) fi58 rfl (krC (ρ:=fun _=>14) (k:=1) rfl (krN (ρ:=fun _=>14))) (krC (ρ:=fun _=>14) (k:=1) rfl (krN (ρ:=fun _=>14))) ⟨⟨rfl,(SupX.lit rfl)⟩,trivial⟩ rfl) ⟨rfl,trivial⟩ ⟨rfl,trivial⟩ trivial ?_)
 refine A4 ?_
 exact x3 Plain.mk' rfl rfl Le.refl
abbrev kNone:ByteArray:=⟨#[110,111,110,101]⟩
def gnF:Fa:=⟨kPay,0,65536,65535,true,An.va0⟩
def agF:Fa:=⟨kPay,5,9,65535,false,nV 7 2⟩
theorem txOk_nV7:txOk (nV 7 2):=⟨by decide+kernel,by decide+kernel,by decide+kernel,by decide+kernel,dig_frG _⟩
theorem gn_ok:gF1 84 fB gnF:=⟨⟨⟨by decide,by decide⟩,by decide⟩,rfl⟩
theorem ag_ok:gF1 84 fB agF:=⟨⟨⟨by decide,by decide⟩,by decide⟩,by rw [if_neg (by decide)];exact ⟨nV_ok (x:=294) (by decide) (by decide+kernel) (by decide) (by decide) (by decide) (by decide) (by decide),txOk_nV7⟩⟩
section
variable {a:List Fa}
theorem gn_none (h:gR 84 fB (a++[gnF])) (d:Int):gF (toldT (a++[gnF]) kPay 65535) d=none:=by
 have ha: ∀x∈a,gF1 84 fB x:=fun x hx=>h.2 x (List.mem_append_left _ hx)
 by_cases hd:gnF.lo≤d∧d < gnF.hi
 ·have h1:lastF (toldT (a++[gnF]) kPay 65535) d=some gnF:=later_last (f:=gnF) (fun x hx=>by have:=(ha x hx).1.2;left;show x.kn≤65535;omega) (by decide) hd
  rw [gF,h1];rfl
 ·rw [later_in hd,gF,lastF_out fun f hf=> ?_]
  ·rfl
  ·have h2:=(ha f (told_mem.1 hf).1).1.1.2
   have hd: ¬(0≤d∧d < 65536):=hd
   omega
theorem vw_none0:vwT []=[]:=List.eq_nil_of_length_eq_zero (by have:=vw_len (T:=[]);simpa using this)
theorem gn_view (h:gR 84 fB (a++[gnF])):vwT (toldT (a++[gnF]) kPay 65535)=[]:=by
 rw [←vw_none0]
 exact vw_ext fun d=>gn_none h d
theorem gn_before:toldT (a++[gnF]) kPay 65534=toldT a kPay 65534:=later_out (.inr (by decide))
theorem ag_view (h:gR 84 fB (a++[gnF])) (h2:gR 84 fB (a++[gnF]++[agF])):vwT (toldT (a++[gnF]++[agF]) kPay 65535)=[⟨5,9,nV 7 2⟩]:=by
 have hall: ∀x∈a++[gnF],x.kn≤agF.kn∨65535 < x.kn:=fun x hx=>by have:=(h.2 x hx).1.2;left;show x.kn≤65535;omega
 refine (h2.view (key:=kPay) 65535).1.same (one_tl ag_ok rfl) fun d=> ?_
 rw [vw_val,xc8]
 by_cases hd:agF.lo≤d∧d < agF.hi
 ·have h1:lastF (toldT (a++[gnF]++[agF]) kPay 65535) d=some agF:=later_last (f:=agF) hall (by decide) hd
  rw [if_pos (show (5:Int)≤d∧d < 9 from hd),gF,h1];rfl
 ·rw [if_neg (show ¬((5:Int)≤d∧d < 9) from hd),later_in hd,gn_none h];rfl
theorem kM_snc (f:Fa):kM (a++[f])=kAdd (kM a) f:=by rw [kM,List.foldl_append];rfl
theorem gn_key:kPay∈keyB (a++[gnF]):=by
 have h1:kPay∈(kM (a++[gnF])).map (·.1):=by
  rw [kM_snc]
  rcases putM_keys (l:=kM a) (a:=kPay) (v:=max (kGet (kM a) kPay) gnF.v.kind) with ⟨hm,e⟩ | ⟨hm,e⟩
  ·show kPay∈(putM (kM a) kPay (max (kGet (kM a) kPay) gnF.v.kind)).map (·.1)
   rw [e];exact hm
  ·show kPay∈(putM (kM a) kPay (max (kGet (kM a) kPay) gnF.v.kind)).map (·.1)
   rw [e];exact List.mem_append_right _ (List.mem_singleton.2 rfl)
 exact srtB_mem.2 h1
theorem gn_kind:kGet (kM (a++[gnF])) kPay=kGet (kM a) kPay:=by
 rw [kM_app,if_pos (show gnF.key=kPay from rfl)]
 show max (kGet (kM a) kPay) 0=_
 omega
theorem kind_le (h:gR 84 fB a) (key:ByteArray):kGet (kM a) key≤2:=by
 have:=gR.kGet h.2 a.length (Nat.le_refl _) key
 rw [List.take_length] at this
 rw [this];split <;> decide
theorem ag_kind (h:gR 84 fB (a++[gnF])):kGet (kM (a++[gnF]++[agF])) kPay=2:=by
 have h1:=kind_le h kPay
 rw [kM_app,if_pos (show agF.key=kPay from rfl)]
 show max (kGet (kM (a++[gnF])) kPay) 2=2
 omega
theorem none_kind (h:gR 84 fB a) (hk: ∀f∈a,f.key=kPay∨f.key=kFte):kGet (kM a) kNone=0:=by
 have h1:=gR.kGet h.2 a.length (Nat.le_refl _) kNone
 rw [List.take_length] at h1
 rw [h1,if_neg]
 rintro ⟨f,hf,e,_⟩
 rcases hk f hf with h2 | h2
 ·rw [h2] at e;exact absurd e (by decide)
 ·rw [h2] at e;exact absurd e (by decide)
end
theorem btT_keys {m:List Nt}: ∀f∈btT m,f.key=kPay∨f.key=kFte:=fun f hf=>by
 obtain ⟨n,_,rfl⟩:=List.mem_map.1 hf
 show kys.getD (n.key%2) kPay=kPay∨kys.getD (n.key%2) kPay=kFte
 have h:n.key%2=0∨n.key%2=1:=by omega
 rcases h with h | h <;> rw [h]
 ·exact .inl rfl
 ·exact .inr rfl
def hasK (ks:List ByteArray) (i:Nat):Bool:=(ks.take i).any fun k=>decide (k=kPay)
theorem hasK_next {ks:List ByteArray} {i:Nat} (hi:i < ks.length):hasK ks (i+1)=(hasK ks i || decide (ks.getD i ⟨#[]⟩=kPay)):=by
 rw [hasK,List.take_succ_eq_append_getElem hi,List.any_append,List.getD_eq_getElem?_getD,List.getElem?_eq_getElem hi]
 simp [hasK]
theorem hasK_all {ks:List ByteArray} (h:kPay∈ks):hasK ks ks.length=true:=by
 rw [hasK,List.take_length,List.any_eq_true];exact ⟨kPay,h,by decide⟩
theorem c_FaGone (m:List Nt) (hm: ∀n∈m,ntOk n):
  Ct Tryz.prog 6 [tL 5 true tNt m] (tB true):=by
 have hR:=btT_ok (m:=(m.take (min m.length 38))) (fun n hn=>hm n ((List.take_sublist ..).subset hn))
 have hbl:=btT_len (m:=(m.take (min m.length 38)))
 have hky:=btT_keys (m:=(m.take (min m.length 38)))
 have hB:=c_Built06 (m.take (min m.length 38)) (fun n hn=>hm n ((List.take_sublist ..).subset hn))
 generalize btT (m.take (min m.length 38))=a at*
 have hG:gR 84 fB (a++[gnF]):=hR.snoc (by omega) gn_ok
 have hlg:(a++[gnF]).length=a.length+1:=by simp
 have hA:gR 84 fB (a++[gnF]++[agF]):=hG.snoc (by omega) ag_ok
 have hla:(a++[gnF]++[agF]).length=(a++[gnF]).length+1:=by simp
 have hgv:(vwT (toldT (a++[gnF]) kPay 65535)).length=0:=by rw [gn_view hG];rfl
 have hk1:=gn_kind (a:=a)
 have hk2:=ag_kind hG
 have hk3:=none_kind hR hky
 have hkl:=keyB_len hG
 refine Ct.intro Tryz.func6 rfl Tryz.ntmps6 rfl ?_
 intro w F
 refine xe7 (s:=0) rfl (fun hl0=> ?_)
 refine A8 ?_
 refine R0 (x4 c_awake06 fi10 rfl) ?_
 refine A11 ?_
 refine R2 d_min2 rfl rfl (R2 (d_sliceTo sl22 (min m.length 38) (by omega) (by omega) rfl) rfl rfl (R1 (x4 hB fi11 rfl) rfl ?_))
 refine A5 ?_
 refine RE (xb3 (r:=tS [⟨1,false,tSt kPay⟩,⟨1,false,tI 0⟩,⟨1,false,tI 65536⟩,⟨1,false,tI 65535⟩,⟨1,false,tB true⟩,⟨6,true,(tS [⟨1,false,(tE (.int .u8 0))⟩,⟨4,true,(tS [⟨2,true,(tS [⟨1,false,(tE (.bool false))⟩,⟨1,false,(tLm [])⟩])⟩,⟨2,true,(tS [⟨1,false,(tE (.bool false))⟩,⟨1,false,(tLm [])⟩])⟩])⟩,⟨1,false,(tE (.int .i64 0))⟩])⟩]) (ts:=[(0,tSt kPay),(1,tI 0),(2,tI 65536),(3,tI 65535),(4,tB true)]) bu34 zr34.2 (Bc 0 rfl rfl rfl (Bc 1 rfl rfl rfl (Bc 2 rfl rfl rfl (Bc 3 rfl rfl rfl (Bc 4 rfl rfl rfl Le.refl)))))) ⟨rfl,rfl,rfl,rfl,rfl,trivial⟩ trivial trivial (RE (xa7 (k:=4) (n:=11) (agg:=true) zr34.1 zr34.2 rfl) trivial trivial ⟨rfl,trivial⟩ ?_)
 refine A5 ?_
 refine RE (d_empty (k:=28) Tryz.underlying24 el34 rfl (fun h=>by cases h)) trivial trivial ⟨rfl,trivial⟩ ?_
 refine A1 ?_
 refine RE (xa8 (k:=28) (k':=30) (f:=tFa) (ys:=a) (ts':=rV tFa a) Tryz.underlying24 el34 zf34 rfl rfl (fun _=>inferInstance) rfl (by simp;omega) (by simp;omega) (by simp [rV]) (n':=a.length) (by simp)) ⟨rfl,rfl,trivial⟩ ⟨rfl,trivial⟩ ⟨rfl,trivial⟩ ?_
 refine A1 ?_
 refine R1 (xc0 (n:=1) (f:=tFa) [gnF] Tryz.underlying24 el34 zf34 rfl (fun _=>inferInstance) rfl rfl rfl) rfl (RE (xa8 (k:=30) (k':=33) (f:=tFa) (ys:=[gnF]) (ts':=rV tFa (a++[gnF])) Tryz.underlying24 el34 zf34 rfl rfl (fun _=>inferInstance) xb7 (by simp;omega) (by simp;omega) (by simp [rV]) (n':=a.length+1) rfl) ⟨rfl,rfl,trivial⟩ ⟨rfl,trivial⟩ ⟨rfl,trivial⟩ ?_)
 refine A4 ?_
 refine C_give (t:=5) (k:=33) (f:=tFa) (xs:=(a++[gnF])) rfl rfl (fun _ h=>h) (xf4 hlg) hlg ?_
 refine A1 ?_
 refine R2 (x4 (c_Num 7 2 (by decide) (by decide) (by decide) (by decide)) fi22 rfl) rfl rfl (RE (xa7 (k:=6) (n:=6) (agg:=true) zr32.1 zr32.2 rfl) trivial trivial ⟨rfl,trivial⟩ ?_)
 refine A5 ?_
 refine RE (d_empty (k:=35) Tryz.underlying24 el34 rfl (fun h=>by cases h)) trivial trivial ⟨rfl,trivial⟩ ?_
 refine A1 ?_
 refine RE (xa8 (k:=35) (k':=37) (f:=tFa) (ys:=(a++[gnF])) (ts':=rV tFa (a++[gnF])) Tryz.underlying24 el34 zf34 rfl rfl (fun _=>inferInstance) rfl (by simp;omega) (by simp;omega) (by simp [rV]) (n':=(a++[gnF]).length) (by simp)) ⟨rfl,rfl,trivial⟩ ⟨rfl,trivial⟩ ⟨rfl,trivial⟩ ?_
 refine A1 ?_
 refine RE (xb3 (r:=tS [⟨1,false,tSt kPay⟩,⟨1,false,tI 5⟩,⟨1,false,tI 9⟩,⟨1,false,tI 65535⟩,⟨1,false,(tE (.bool false))⟩,⟨6,true,tVa (nV 7 2)⟩]) (ts:=[(0,tSt kPay),(1,tI 5),(2,tI 9),(3,tI 65535),(5,tVa (nV 7 2))]) bu34 zr34.2 (Bc 0 rfl rfl rfl (Bc 1 rfl rfl rfl (Bc 2 rfl rfl rfl (Bc 3 rfl rfl rfl (Bc 5 rfl rfl rfl Le.refl)))))) ⟨rfl,rfl,rfl,rfl,rfl,trivial⟩ trivial trivial (R1 (xc0 (n:=1) (f:=tFa) [agF] Tryz.underlying24 el34 zf34 rfl (fun _=>inferInstance) rfl rfl rfl) rfl (RE (xa8 (k:=37) (k':=41) (f:=tFa) (ys:=[agF]) (ts':=rV tFa ((a++[gnF])++[agF])) Tryz.underlying24 el34 zf34 rfl rfl (fun _=>inferInstance) xb7 (by simp;omega) (by simp;omega) (by simp [rV]) (n':=(a++[gnF]).length+1) rfl) ⟨rfl,rfl,trivial⟩ ⟨rfl,trivial⟩ ⟨rfl,trivial⟩ ?_))
 refine A4 ?_
 refine C_give (t:=7) (k:=41) (f:=tFa) (xs:=(a++[gnF]++[agF])) rfl rfl (fun _ h=>h) (xf4 hla) hla ?_
 refine A2 ?_
 refine R3 (x4 (c_ViewG hG kPay 65535) fi12 rfl) rfl rfl rfl ?_
 refine A10 ?_
 refine R3 (x4 (c_ViewG hG kPay 65534) fi12 rfl) rfl rfl rfl ?_
 refine A10 ?_
 refine R3 (x4 (c_ViewG hR kPay 65534) fi12 rfl) rfl rfl rfl ?_
 refine A10 ?_
 refine R3 (x4 (c_ViewG hA kPay 65535) fi12 rfl) rfl rfl rfl ?_
 refine A18 ?_
 refine A1 ?_
 refine RGon (decide_eq_false (by omega)) rfl xb1 rfl ⟨rfl,trivial⟩ trivial trivial (RGon (decide_eq_false (by omega)) rfl (d_len Tryz.underlying36) rfl ⟨rfl,trivial⟩ trivial trivial (RGon (decide_eq_false (by omega)) rfl d_neq rfl ⟨rfl,rfl,trivial⟩ trivial trivial (R2 (xg4 (decide_eq_false (by omega))) rfl rfl ?_)))
 refine A1 ?_
 refine RGon (decide_eq_false (by omega)) rfl xb1 rfl ⟨rfl,trivial⟩ trivial trivial (RGon (decide_eq_false (by omega)) rfl xb1 rfl ⟨rfl,trivial⟩ trivial trivial (RGon (decide_eq_false (by omega)) rfl (x4 (c_sameTv _ _ (by rw [gn_before])) fi13 rfl) rfl ⟨rfl,rfl,trivial⟩ trivial trivial (RGon (decide_eq_false (by omega)) rfl d_not rfl ⟨rfl,trivial⟩ trivial trivial (R2 (xg4 (decide_eq_false (by omega))) rfl rfl ?_))))
 refine A3 ?_
 refine RGon rfl rfl (xb3 (r:=tS [⟨1,false,tI 5⟩,⟨1,false,tI 9⟩,⟨6,true,tVa (nV 7 2)⟩]) (ts:=[(0,tI 5),(1,tI 9),(2,tVa (nV 7 2))]) bu57 zr57.2 (Bc 0 rfl rfl rfl (Bc 1 rfl rfl rfl (Bc 2 rfl rfl rfl Le.refl)))) rfl ⟨rfl,rfl,rfl,trivial⟩ trivial trivial (RGon rfl rfl (xc0 (n:=1) (f:=tTs) [(⟨5,9,nV 7 2⟩:Tst)] Tryz.underlying36 el57 zf57 rfl (fun _=>inferInstance) rfl rfl rfl) rfl ⟨rfl,trivial⟩ trivial trivial (RGon rfl rfl (x4 (c_sameTv _ _ (ag_view hG hA)) fi13 rfl) rfl ⟨rfl,rfl,trivial⟩ trivial trivial ?_))
 refine A16 ?_
 refine R1 (x4 (c_KeysG (a++[gnF]) hG) fi23 rfl) rfl ?_
 refine A5 ?_
 refine cL (fun (fm:(Nat)×(Bool))=>(fun (i:Nat) (b:Bool)=>i≤(keyB (a++[gnF])).length∧b=hasK (keyB (a++[gnF])) i) fm.1 fm.2) (fun (fm:(Nat)×(Bool))=>(fun (i:Nat) (b:Bool)=>upd (upd (upd (upd (upd (upd (upd (fun _=>none) 3 (some (.val (tL 11 true tFa a)))) 5 (some (.val (tL 11 true tFa (a++[gnF]))))) 7 (some (.val (tL 11 true tFa (a++[gnF]++[agF]))))) 16 (some (.val (tB b)))) 90 (some (.val (tL 1 false tSt (keyB (a++[gnF])))))) 91 (some (.val (tI (keyB (a++[gnF])).length)))) 92 (some (.val (tI i)))) fm.1 fm.2) (fun (fm:(Nat)×(Bool))=>(fun (i:Nat) (b:Bool)=>fun _=>none) fm.1 fm.2) [] (fun (fm:(Nat)×(Bool))=>(fun (i:Nat) (b:Bool)=>(keyB (a++[gnF])).length - i) fm.1 fm.2) ((0,false)) (by dsimp only;exact ⟨Nat.zero_le _,rfl⟩) ?_
 intro fm hI
 obtain ⟨i,b⟩:=fm
 replace hI:i≤(keyB (a++[gnF])).length∧b=hasK (keyB (a++[gnF])) i:=hI
 show wc _ _ _ _ (upd (upd (upd (upd (upd (upd (upd (fun _=>none) 3 (some (.val (tL 11 true tFa a)))) 5 (some (.val (tL 11 true tFa (a++[gnF]))))) 7 (some (.val (tL 11 true tFa (a++[gnF]++[agF]))))) 16 (some (.val (tB b)))) 90 (some (.val (tL 1 false tSt (keyB (a++[gnF])))))) 91 (some (.val (tI (keyB (a++[gnF])).length)))) 92 (some (.val (tI i)))) (fun _=>none) _
 obtain ⟨hi,hb⟩:=hI
 refine A6 ?_
 refine x9 rfl (fun h210=> ?_) (fun h210=> ?_)
 ·
  refine A6 ?_
  refine R2 (x7 sl35 (i) (by omega) (gD (l:=(keyB (a++[gnF]))) (n:=i) (d:=⟨#[]⟩) (by omega))) rfl rfl ?_
  refine A7 ?_
  refine RGcase (t:=97) rfl (fun h211=> ?_) (fun h211=> ?_)
  ·
   refine A11 ?_
   exact kF ((i+1,true)) ⟨(by dsimp only;exact ⟨by omega,by rw [hasK_next (by omega),←hb,h211];rfl⟩),(by dsimp only;omega)⟩
  ·
   refine A1 ?_
   refine RGon h211 rfl (d_eqlS) rfl ⟨rfl,rfl,trivial⟩ trivial trivial ?_
   refine A9 ?_
   exact kF ((i+1,decide ((keyB (a++[gnF])).getD i ⟨#[]⟩=kPay))) ⟨(by dsimp only;exact ⟨by omega,by rw [hasK_next (by omega),←hb,h211];rfl⟩),(by dsimp only;omega)⟩
 ·
  refine A6 ?_
  have hia:i=(keyB (a++[gnF])).length:=by omega
  have hbt:b=true:=by rw [hb,hia];exact hasK_all gn_key
  refine A3 ?_
  refine RGon (by exact hbt) rfl xb1 rfl ⟨rfl,trivial⟩ trivial trivial (RGon (by exact hbt) rfl (x4 (c_KindG 84 fB (a++[gnF]) kPay hG) fi24 rfl) rfl ⟨rfl,rfl,trivial⟩ trivial trivial (RGon (by exact hbt) rfl xb1 rfl ⟨rfl,trivial⟩ trivial trivial (RGon (by exact hbt) rfl (x4 (c_KindG 84 fB a kPay hR) fi24 rfl) rfl ⟨rfl,rfl,trivial⟩ trivial trivial (RGon (by exact hbt) rfl d_eql rfl ⟨rfl,rfl,trivial⟩ trivial trivial (R2 (xi0 (by exact hbt)) rfl rfl ?_)))))
  refine A1 ?_
  refine RGon (decide_eq_true (by first | omega | simp [*])) rfl xb1 rfl ⟨rfl,trivial⟩ trivial trivial (RGon (decide_eq_true (by first | omega | simp [*])) rfl (x4 (c_KindG 84 fB (a++[gnF]++[agF]) kPay hA) fi24 rfl) rfl ⟨rfl,rfl,trivial⟩ trivial trivial (RGon (decide_eq_true (by first | omega | simp [*])) rfl d_eql rfl ⟨rfl,rfl,trivial⟩ trivial trivial (R2 (xi0 (decide_eq_true (by first | omega | simp [*]))) rfl rfl ?_)))
  refine A1 ?_
  refine RGon (decide_eq_true (by first | omega | simp [*])) rfl xb1 rfl ⟨rfl,trivial⟩ trivial trivial (RGon (decide_eq_true (by first | omega | simp [*])) rfl (x4 (c_KindG 84 fB a kNone hR) fi24 rfl) rfl ⟨rfl,rfl,trivial⟩ trivial trivial (RGon (decide_eq_true (by first | omega | simp [*])) rfl d_eql rfl ⟨rfl,rfl,trivial⟩ trivial trivial (R2 (xi0 (decide_eq_true (by first | omega | simp [*]))) rfl rfl ?_)))
  refine A4 ?_
  exact x3 Plain.mk' rfl rfl (Le.bool (by simp [*]))
end An.S
