/- Part 6 of a proof: E6, E7, Me9, Me10, E8, O30, E9, E10. -/
import Derived.Test.YtiagnhcmlefojaaGreatChecked
import Derived.Test.YtiagnhcmlefojaaGreatV5
set_option maxHeartbeats 4000000
set_option maxRecDepth 100000
namespace An.S
open Go Go.Proofs An
instance fi45:FnI Tryz.prog 45:=⟨_,Tryz.func45,by kernel_rfl,rfl⟩
instance fi46:FnI Tryz.prog 46:=⟨_,Tryz.func46,by kernel_rfl,rfl⟩
instance fi79:FnI Tryz.prog 79:=⟨_,Tryz.func79,by kernel_rfl,rfl⟩
instance fi80:FnI Tryz.prog 80:=⟨_,Tryz.func80,by kernel_rfl,rfl⟩
instance fi81:FnI Tryz.prog 81:=⟨_,Tryz.func81,by kernel_rfl,rfl⟩
instance fi86:FnI Tryz.prog 86:=⟨_,Tryz.func86,by kernel_rfl,rfl⟩
theorem bu59:BuI Tryz.prog 59 (fun i=>[(0,1),(1,1),(2,1),(3,1),(4,1),(5,6)][i]?) (.agg #[.string ⟨#[]⟩,.int .i64 0,.int .i64 0,.int .i64 0,.bool false,.int .u8 0,.bool false,.slice none 0 0,.bool false,.slice none 0 0,.int .i64 0]):=BuI.struct Tryz.underlying59 (by kernel_rfl) (by kernel_rfl)
section
variable {D B:Int} {l:List Ev}
theorem gr_dig (h:GR D B l): ∀e∈l,e.part.dig∧e.pay.dig:=fun e he=>by
 obtain ⟨i,hi,rfl⟩:=List.mem_iff_getElem.1 he
 have ho:=h.ok i hi
 have hf:=h.fr _ he
 have e0:l.getD i ev0=l[i]:=by rw [List.getD_eq_getElem?_getD,List.getElem?_eq_getElem hi];rfl
 have hp:=ho.pt
 have hy:=ho.py
 rw [e0] at hp hy
 have key: ∀(u:Bool) (f:Fr),eFrc u f=true→(u=true→frB D B f)→f.dig:=fun u f h1 h2=>by
  cases u with
  | true=>obtain ⟨k,_,rfl⟩:=h2 rfl;exact dig_frG _
  | false=>
   rw [eFrc,if_neg (by decide),eBlank,Bool.and_eq_true,Bool.and_eq_true,Bool.and_eq_true,decide_eq_true_eq,decide_eq_true_eq] at h1
   have a1:=List.eq_nil_of_length_eq_zero h1.1.2
   have a2:=List.eq_nil_of_length_eq_zero h1.2.2
   refine ⟨fun x hx=> ?_,fun x hx=> ?_⟩
   ·rw [a1] at hx;cases hx
   ·rw [a2] at hx;cases hx
 exact ⟨key _ _ hp hf.1,key _ _ hy hf.2⟩
theorem gr_val (h:GR D B l):eVal l=true:=by
 rw [eVal,Bool.and_eq_true]
 exact ⟨decide_eq_true h.len,List.all_eq_true.2 fun i hi=>xd4.2 (h.ok i (List.mem_range.1 hi))⟩
theorem c_EValidG (h:GR D B l):Ct Tryz.prog 26 [tL 14 true tEv l] (tB true):=by
 have h1:=c_EValid l (gr_dig h)
 rw [gr_val h] at h1;exact h1
end
def fK (K:Nat):Nat:=match K with
 | 0=>81
 | 1=>79
 | _=>80
def tmL:List (ByteArray×Option Nat):=[(mKey 1,some (fK 1)),(mKey 2,some (fK 2)),(mKey 0,some (fK 0))]
theorem hMF:MapF Tryz.prog 91 mkSF none:=mapF_SF Tryz.underlying91 Tryz.underlying9 (fun w=>by kernel_rfl)
theorem tm_get {K:Nat} (hK:K < 3):entV none tmL (mKey K)=some (fK K)∧(getM tmL (mKey K)).isSome=true:=by
 have key: ∀K:Fin 3,entV none tmL (mKey K.val)=some (fK K.val)∧(getM tmL (mKey K.val)).isSome=true:=by decide
 exact key ⟨K,hK⟩
theorem d_lookK {c:Base} {d ty:Nat} {pos:String} {af:Array Edge} {gd:Option (Nat×Bool)} {x y:Operand} {K:Nat} (hK:K < 3):Does Tryz.prog c ⟨some d,.lookup 91 x y true,ty,pos,af,gd⟩ ⟨[(x,.val (tMp mkSF (some tmL))),(y,.val (tSt (mKey K)))],[],some (d,some (.val (tT [tE (.func (.func (fK K)) #[] #[]),tB true]))),[],[]⟩:=by
 have h:=d_lookupO (c:=c) (d:=d) (ty:=ty) (pos:=pos) (af:=af) (gd:=gd) (x:=x) (y:=y) hMF tmL (mKey K)
 rw [(tm_get hK).1,(tm_get hK).2] at h;exact h
theorem d_lookV {c:Base} {d ty:Nat} {pos:String} {af:Array Edge} {gd:Option (Nat×Bool)} {x y:Operand} {K:Nat} (hK:K < 3):Does Tryz.prog c ⟨some d,.lookup 91 x y false,ty,pos,af,gd⟩ ⟨[(x,.val (tMp mkSF (some tmL))),(y,.val (tSt (mKey K)))],[],some (d,some (.val (tE (.func (.func (fK K)) #[] #[])))),[],[]⟩:=by
 have h:=d_lookupG (c:=c) (d:=d) (ty:=ty) (pos:=pos) (af:=af) (gd:=gd) (x:=x) (y:=y) hMF tmL (mKey K)
 rw [(tm_get hK).1] at h;exact h
theorem fnK {K:Nat} (hK:K < 3):FnI Tryz.prog (fK K):=match K,hK with
 | 0,_=>fi81
 | 1,_=>fi79
 | 2,_=>fi80
theorem c_keyK {D B:Int} {l:List Ev} (h:GR D B l) {K:Nat} (hK:K < 3) (kn:Int):Ct Tryz.prog (fK K) [tVw (inf l kn)] (tL 8 true tTs (mT K (inf l kn))):=match K,hK with
 | 0,_=>c_credit (inf l kn) (h.inf_len kn) (inf_cal h.ok) (crOk_of (inf_cal h.ok) (inf_gE h.fr) h.d0 h.d1 h.b0 h.b1 (h.inf_len kn))
 | 1,_=>c_fte (inf l kn) (h.inf_len kn) (inf_cal h.ok) fun d=>⟨(sumOk_part (inf_gE h.fr) h.d0 h.d1 h.b0 h.b1 d).1,(sumOk_part (inf_gE h.fr) h.d0 h.d1 h.b0 h.b1 d).2⟩
 | 2,_=>c_pay (inf l kn) (h.inf_len kn) (inf_cal h.ok) fun d=>⟨(sumOk_pay (inf_gE h.fr) h.d0 h.d1 h.b0 h.b1 d).1,(sumOk_pay (inf_gE h.fr) h.d0 h.d1 h.b0 h.b1 d).2⟩
theorem c_timelines:
  Ct Tryz.prog 45 [] (tMp mkSF (some tmL)):=by
 refine Ct.introM mkSF 90 Tryz.func45 rfl Tryz.ntmps45 rfl ?_
 intro w F hM
 refine A6 ?_
 refine xm0 ?_
 refine wl_makeM hM (xf6 rfl) rfl rfl (fun bm=> ?_)
 refine wl_insM (b:=bm) (l:=[]) (a:=(mKey 1)) (v:=(some (fK 1))) hMF hM (xf6 rfl) rfl rfl rfl rfl (wl_insM (b:=bm) (l:=[(mKey 1,some (fK 1))]) (a:=(mKey 2)) (v:=(some (fK 2))) hMF hM (xf6 rfl) rfl rfl rfl rfl (wl_insM (b:=bm) (l:=[(mKey 1,some (fK 1)),(mKey 2,some (fK 2))]) (a:=(mKey 0)) (v:=(some (fK 0))) hMF hM (xf6 rfl) rfl rfl rfl rfl (xb9 xc1 ⟨rfl,trivial⟩ trivial trivial rfl (xb9 xd9 ⟨rfl,trivial⟩ trivial trivial rfl (xi1 ?_)))))
 refine A2 ?_
 exact E_ret1M rfl rfl rfl
theorem c_TimelineK {D B:Int} (l:List Ev) (kn:Int) (h:GR D B l) (K:Nat) (hK:K < 3):
  Ct Tryz.prog 15 [tL 14 true tEv l,tSt (mKey K),tI kn] (tT [tL 8 true tTs (mT K (inf l kn)),tI 0]):=by
 refine Ct.intro Tryz.func15 rfl Tryz.ntmps15 rfl ?_
 intro w F
 refine A10 ?_
 refine R1 (x3 (c_EValidG h) fi26 rfl) rfl ?_
 refine A8 ?_
 refine R0 (x3 c_timelines fi45 rfl) ?_
 refine A1 ?_
 refine R2 (d_lookK hK) rfl rfl ?_
 refine A18 ?_
 refine A4 ?_
 refine R2 (x3 (c_viewOf l kn h.ok h.len) fi46 rfl) rfl rfl (R2 (xe9 (c_keyK h hK kn) (fnK hK) rfl) rfl rfl ?_)
 refine A5 ?_
 exact xd7 Plain.mk' rfl rfl rfl Le.refl Le.refl
theorem cutE_len {l:List Tst} {p q:Int}:(cutT l p q).length≤l.length:=by have:=xq7 (l.map (clip p q)) [];simp at this;exact this
theorem nwR_len {key:ByteArray} {kn:Int} {ps:List Tst} {a:Int}: ∀i,i≤ps.length→(nwR key kn (ps.take i) a).1.length≤2*i
 | 0,_=>Nat.le_refl _
 | i+1,h=>by
  have ih:=nwR_len (key:=key) (kn:=kn) (ps:=ps) (a:=a) i (by omega)
  rw [nwR_snoc (ps:=ps) (i:=i) (by omega),nw1]
  dsimp only
  rw [List.length_append,List.length_singleton]
  split
  ·rw [List.length_append,List.length_singleton];omega
  ·omega
theorem nw_yes {key:ByteArray} {kn:Int} {ps:List Tst} {a:Int} {i:Nat} (hi:i < ps.length) (h:(nwR key kn (ps.take i) a).2 < (ps.getD i tst0).lo):nwR key kn (ps.take (i+1)) a=((nwR key kn (ps.take i) a).1++[⟨key,(nwR key kn (ps.take i) a).2,(ps.getD i tst0).lo,kn,true,An.va0⟩]++[⟨key,(ps.getD i tst0).lo,(ps.getD i tst0).hi,kn,false,(ps.getD i tst0).v⟩],(ps.getD i tst0).hi):=by
 rw [nwR_snoc hi,nw1,if_pos h]
theorem nw_no {key:ByteArray} {kn:Int} {ps:List Tst} {a:Int} {i:Nat} (hi:i < ps.length) (h: ¬(nwR key kn (ps.take i) a).2 < (ps.getD i tst0).lo):nwR key kn (ps.take (i+1)) a=((nwR key kn (ps.take i) a).1++[⟨key,(ps.getD i tst0).lo,(ps.getD i tst0).hi,kn,false,(ps.getD i tst0).v⟩],(ps.getD i tst0).hi):=by
 rw [nwR_snoc hi,nw1,if_neg h]
theorem nwR_all {key:ByteArray} {kn:Int} {ps:List Tst} {a:Int} {i:Nat} (h:i=ps.length):nwR key kn (ps.take i) a=nwR key kn ps a:=by rw [h,List.take_length]
theorem c_news {K:Nat} {D B:Int} (now:List Tst) (key:ByteArray) (kn:Int) (s:Sn) (h:isG K D B now) (hl:now.length≤1000) (hs:Sn.ok s=true):
  Ct Tryz.prog 52 [tL 8 true tTs now,tSt key,tI kn,tSn s] (tL 11 true tFa (nwT now key kn s)):=by
 have hcut:=c_Cut now s.lo s.hi (by omega) h.dig
 rw [if_pos ⟨h.1,hs⟩,if_pos ⟨h.1,hs⟩] at hcut
 have hcl:=cutE_len (l:=now) (p:=s.lo) (q:=s.hi)
 refine Ct.intro Tryz.func52 rfl Tryz.ntmps52 rfl ?_
 intro w F
 refine A8 ?_
 refine RE (xd3 (k:=9) 59 11 true rfl (fun h=>by cases h)) trivial trivial ⟨rfl,trivial⟩ ?_
 refine A9 ?_
 refine R3 (x3 hcut fi86 rfl) rfl rfl rfl ?_
 refine A18 ?_
 refine A5 ?_
 refine cL (fun (i:Nat)=>i≤(cutT now s.lo s.hi).length) (fun (i:Nat)=>upd (upd (upd (upd (upd (upd (upd (upd (fun _=>none) 1 (some (.val (tSt key)))) 2 (some (.val (tI kn)))) 7 (some (.own (.ptr 7 0)))) 9 (some (.own (.sl 9 11 0 (nwR key kn ((cutT now s.lo s.hi).take i) s.lo).1.length)))) 12 (some (.val (tI (nwR key kn ((cutT now s.lo s.hi).take i) s.lo).2)))) 26 (some (.val (tL 8 true tTs (cutT now s.lo s.hi))))) 27 (some (.val (tI (cutT now s.lo s.hi).length)))) 28 (some (.val (tI i)))) (fun (i:Nat)=>upd (upd (fun _=>none) 7 (some (⟨106,2,true,[.val (tSn s)]⟩))) 9 (some (⟨59,11,true,rV tFa (nwR key kn ((cutT now s.lo s.hi).take i) s.lo).1⟩))) [7,9] (fun (i:Nat)=>(cutT now s.lo s.hi).length - i) (0) (Nat.zero_le _) (hh:=((SubK.consI rfl ImpK.refl) ((SubK.consI rfl ImpK.refl) SubK.nil))) ?_
 intro i hI
 have hrl:=nwR_len (key:=key) (kn:=kn) (ps:=(cutT now s.lo s.hi)) (a:=s.lo) i hI
 refine A6 ?_
 refine x5 rfl (fun h202=> ?_) (fun h202=> ?_)
 ·
  refine A6 ?_
  refine R2 (x8 sl37 (i) (by omega) (gD (l:=(cutT now s.lo s.hi)) (n:=i) (d:=tst0) (by omega))) rfl rfl ?_
  refine A1 ?_
  refine RE (xa1 (k:=14) (n:=8) (agg:=true) zr77.1 zr77.2 rfl) trivial trivial ⟨rfl,trivial⟩ ?_
  refine A12 ?_
  refine x5 rfl (fun h203=> ?_) (fun h203=> ?_)
  ·
   refine A7 ?_
   refine RE (xa9 (r:=tS [⟨1,false,tSt key⟩,⟨1,false,tI (nwR key kn ((cutT now s.lo s.hi).take i) s.lo).2⟩,⟨1,false,tI ((cutT now s.lo s.hi).getD i tst0).lo⟩,⟨1,false,tI kn⟩,⟨1,false,tB true⟩,⟨6,true,(tS [⟨1,false,(tE (.int .u8 0))⟩,⟨4,true,(tS [⟨2,true,(tS [⟨1,false,(tE (.bool false))⟩,⟨1,false,(tLm [])⟩])⟩,⟨2,true,(tS [⟨1,false,(tE (.bool false))⟩,⟨1,false,(tLm [])⟩])⟩])⟩,⟨1,false,(tE (.int .i64 0))⟩])⟩]) (ts:=[(0,tSt key),(1,tI (nwR key kn ((cutT now s.lo s.hi).take i) s.lo).2),(2,tI ((cutT now s.lo s.hi).getD i tst0).lo),(3,tI kn),(4,tB true)]) bu59 zr59.2 (Bc 0 rfl rfl rfl (Bc 1 rfl rfl rfl (Bc 2 rfl rfl rfl (Bc 3 rfl rfl rfl (Bc 4 rfl rfl rfl Le.refl)))))) ⟨rfl,rfl,rfl,rfl,rfl,trivial⟩ trivial trivial (R1 (xb0 (n:=1) (f:=tFa) [(⟨key,(nwR key kn ((cutT now s.lo s.hi).take i) s.lo).2,((cutT now s.lo s.hi).getD i tst0).lo,kn,true,An.va0⟩:Fa)] Tryz.underlying46 el59 zf59 rfl (fun _=>inferInstance) rfl rfl rfl) rfl (RE (xg0 (k:=9) (k':=44) (f:=tFa) (nwR key kn ((cutT now s.lo s.hi).take i) s.lo).1 (⟨key,(nwR key kn ((cutT now s.lo s.hi).take i) s.lo).2,((cutT now s.lo s.hi).getD i tst0).lo,kn,true,An.va0⟩:Fa) Tryz.underlying46 el59 zf59 rfl rfl (fun _=>inferInstance) rfl ⟨by omega,by omega⟩ rfl) ⟨rfl,rfl,trivial⟩ ⟨rfl,trivial⟩ ⟨rfl,trivial⟩ ?_))
   refine A14 ?_
   refine RE (xa9 (r:=tS [⟨1,false,tSt key⟩,⟨1,false,tI ((cutT now s.lo s.hi).getD i tst0).lo⟩,⟨1,false,tI ((cutT now s.lo s.hi).getD i tst0).hi⟩,⟨1,false,tI kn⟩,⟨1,false,(tE (.bool false))⟩,⟨6,true,tVa ((cutT now s.lo s.hi).getD i tst0).v⟩]) (ts:=[(0,tSt key),(1,tI ((cutT now s.lo s.hi).getD i tst0).lo),(2,tI ((cutT now s.lo s.hi).getD i tst0).hi),(3,tI kn),(5,tVa ((cutT now s.lo s.hi).getD i tst0).v)]) bu59 zr59.2 (Bc 0 rfl rfl rfl (Bc 1 rfl rfl rfl (Bc 2 rfl rfl rfl (Bc 3 rfl rfl rfl (Bc 5 rfl rfl rfl Le.refl)))))) ⟨rfl,rfl,rfl,rfl,rfl,trivial⟩ trivial trivial (R1 (xb0 (n:=1) (f:=tFa) [(⟨key,((cutT now s.lo s.hi).getD i tst0).lo,((cutT now s.lo s.hi).getD i tst0).hi,kn,false,((cutT now s.lo s.hi).getD i tst0).v⟩:Fa)] Tryz.underlying46 el59 zf59 rfl (fun _=>inferInstance) rfl rfl rfl) rfl (RE (xg0 (k:=44) (k':=56) (f:=tFa) ((nwR key kn ((cutT now s.lo s.hi).take i) s.lo).1++[(⟨key,(nwR key kn ((cutT now s.lo s.hi).take i) s.lo).2,((cutT now s.lo s.hi).getD i tst0).lo,kn,true,An.va0⟩:Fa)]) (⟨key,((cutT now s.lo s.hi).getD i tst0).lo,((cutT now s.lo s.hi).getD i tst0).hi,kn,false,((cutT now s.lo s.hi).getD i tst0).v⟩:Fa) Tryz.underlying46 el59 zf59 rfl rfl (fun _=>inferInstance) (by rw [List.length_append];rfl) ⟨by omega,by omega⟩ rfl) ⟨rfl,rfl,trivial⟩ ⟨rfl,trivial⟩ ⟨rfl,trivial⟩ ?_))
   refine A14 ?_
   have hn:=nw_yes (key:=key) (kn:=kn) (ps:=(cutT now s.lo s.hi)) (a:=s.lo) (i:=i) (by omega) h203
   exact xb7 (l:=[7,9]) (fun j=>cond (Nat.beq j 9) 56 (j)) (i+1) ⟨(by omega),(by omega)⟩ (SubR.int rfl (by first | omega | rfl | (dsimp only;omega)) (SubR.int rfl (by first | omega | rfl | (dsimp only;omega)) (SubR.cons rfl ((SubR.consI rfl (Imp.int (by rw [hn]))) ((SubR.consI rfl (Imp.of (by rw [hn,List.length_append,List.length_append];rfl))) (SubR.cons rfl (SubR.int rfl (by first | omega | rfl | (dsimp only;omega)) (SubR.cons rfl SubR.nil)))))))) ((SubKR.consI rfl (ImpK.of (by rw [hn];exact xa2.symm))) ((SubKR.consI rfl ImpK.refl) SubKR.nil)) (SupG.val (SupG.val (SupG.val (SupG.val (SupG.own rfl (SupG.own rfl (SupG.val (SupG.val SupG.nil)))))))) (SupH.cons rfl (supJ x9) (SupH.cons rfl (supJL rfl) SupH.nil)) (lkOk rfl) rfl rfl (fun _ h=>by cases h)
  ·
   refine A13 ?_
   refine RE (xa9 (r:=tS [⟨1,false,tSt key⟩,⟨1,false,tI ((cutT now s.lo s.hi).getD i tst0).lo⟩,⟨1,false,tI ((cutT now s.lo s.hi).getD i tst0).hi⟩,⟨1,false,tI kn⟩,⟨1,false,(tE (.bool false))⟩,⟨6,true,tVa ((cutT now s.lo s.hi).getD i tst0).v⟩]) (ts:=[(0,tSt key),(1,tI ((cutT now s.lo s.hi).getD i tst0).lo),(2,tI ((cutT now s.lo s.hi).getD i tst0).hi),(3,tI kn),(5,tVa ((cutT now s.lo s.hi).getD i tst0).v)]) bu59 zr59.2 (Bc 0 rfl rfl rfl (Bc 1 rfl rfl rfl (Bc 2 rfl rfl rfl (Bc 3 rfl rfl rfl (Bc 5 rfl rfl rfl Le.refl)))))) ⟨rfl,rfl,rfl,rfl,rfl,trivial⟩ trivial trivial (R1 (xb0 (n:=1) (f:=tFa) [(⟨key,((cutT now s.lo s.hi).getD i tst0).lo,((cutT now s.lo s.hi).getD i tst0).hi,kn,false,((cutT now s.lo s.hi).getD i tst0).v⟩:Fa)] Tryz.underlying46 el59 zf59 rfl (fun _=>inferInstance) rfl rfl rfl) rfl (RE (xg0 (k:=9) (k':=56) (f:=tFa) (nwR key kn ((cutT now s.lo s.hi).take i) s.lo).1 (⟨key,((cutT now s.lo s.hi).getD i tst0).lo,((cutT now s.lo s.hi).getD i tst0).hi,kn,false,((cutT now s.lo s.hi).getD i tst0).v⟩:Fa) Tryz.underlying46 el59 zf59 rfl rfl (fun _=>inferInstance) rfl ⟨by omega,by omega⟩ rfl) ⟨rfl,rfl,trivial⟩ ⟨rfl,trivial⟩ ⟨rfl,trivial⟩ ?_))
   refine A14 ?_
   have hn:=nw_no (key:=key) (kn:=kn) (ps:=(cutT now s.lo s.hi)) (a:=s.lo) (i:=i) (by omega) h203
   exact xb7 (l:=[7,9]) (fun j=>cond (Nat.beq j 9) 56 (j)) (i+1) ⟨(by omega),(by omega)⟩ (SubR.int rfl (by first | omega | rfl | (dsimp only;omega)) (SubR.int rfl (by first | omega | rfl | (dsimp only;omega)) (SubR.cons rfl ((SubR.consI rfl (Imp.int (by rw [hn]))) ((SubR.consI rfl (Imp.of (by rw [hn,List.length_append];rfl))) (SubR.cons rfl (SubR.int rfl (by first | omega | rfl | (dsimp only;omega)) (SubR.cons rfl SubR.nil)))))))) ((SubKR.consI rfl (ImpK.of (by rw [hn];exact xa2.symm))) ((SubKR.consI rfl ImpK.refl) SubKR.nil)) (SupG.val (SupG.val (SupG.val (SupG.val (SupG.own rfl (SupG.own rfl (SupG.val (SupG.val SupG.nil)))))))) (SupH.cons rfl (supJ x9) (SupH.cons rfl (supJL rfl) SupH.nil)) (lkOk rfl) rfl rfl (fun _ h=>by cases h)
 ·
  refine A14 ?_
  refine x5 rfl (fun h209=> ?_) (fun h209=> ?_)
  ·
   refine A7 ?_
   refine RE (xa9 (r:=tS [⟨1,false,tSt key⟩,⟨1,false,tI (nwR key kn ((cutT now s.lo s.hi).take i) s.lo).2⟩,⟨1,false,tI s.hi⟩,⟨1,false,tI kn⟩,⟨1,false,tB true⟩,⟨6,true,(tS [⟨1,false,(tE (.int .u8 0))⟩,⟨4,true,(tS [⟨2,true,(tS [⟨1,false,(tE (.bool false))⟩,⟨1,false,(tLm [])⟩])⟩,⟨2,true,(tS [⟨1,false,(tE (.bool false))⟩,⟨1,false,(tLm [])⟩])⟩])⟩,⟨1,false,(tE (.int .i64 0))⟩])⟩]) (ts:=[(0,tSt key),(1,tI (nwR key kn ((cutT now s.lo s.hi).take i) s.lo).2),(2,tI s.hi),(3,tI kn),(4,tB true)]) bu59 zr59.2 (Bc 0 rfl rfl rfl (Bc 1 rfl rfl rfl (Bc 2 rfl rfl rfl (Bc 3 rfl rfl rfl (Bc 4 rfl rfl rfl Le.refl)))))) ⟨rfl,rfl,rfl,rfl,rfl,trivial⟩ trivial trivial (R1 (xb0 (n:=1) (f:=tFa) [(⟨key,(nwR key kn ((cutT now s.lo s.hi).take i) s.lo).2,s.hi,kn,true,An.va0⟩:Fa)] Tryz.underlying46 el59 zf59 rfl (fun _=>inferInstance) rfl rfl rfl) rfl (RE (xg0 (k:=9) (k':=72) (f:=tFa) (nwR key kn ((cutT now s.lo s.hi).take i) s.lo).1 (⟨key,(nwR key kn ((cutT now s.lo s.hi).take i) s.lo).2,s.hi,kn,true,An.va0⟩:Fa) Tryz.underlying46 el59 zf59 rfl rfl (fun _=>inferInstance) rfl ⟨by omega,by omega⟩ rfl) ⟨rfl,rfl,trivial⟩ ⟨rfl,trivial⟩ ⟨rfl,trivial⟩ ?_))
   refine A4 ?_
   have hra:=nwR_all (key:=key) (kn:=kn) (a:=s.lo) (show i=(cutT now s.lo s.hi).length by omega)
   refine C_give (t:=9) (k:=72) (f:=tFa) (xs:=((nwR key kn ((cutT now s.lo s.hi).take i) s.lo).1++[(⟨key,(nwR key kn ((cutT now s.lo s.hi).take i) s.lo).2,s.hi,kn,true,An.va0⟩:Fa)])) rfl rfl (fun _ h=>h) (xf4 (by rw [List.length_append];rfl)) (by rw [List.length_append];rfl) ?_
   refine A6 ?_
   exact x4 Plain.mk' rfl rfl (Le.of (by rw [nwT,nwP,←hra,if_pos h209]))
  ·
   refine A3 ?_
   have hra:=nwR_all (key:=key) (kn:=kn) (a:=s.lo) (show i=(cutT now s.lo s.hi).length by omega)
   refine C_give (t:=9) (k:=9) (f:=tFa) (xs:=(nwR key kn ((cutT now s.lo s.hi).take i) s.lo).1) rfl rfl (fun _ h=>h) (xf4 rfl) rfl ?_
   refine A6 ?_
   exact x4 Plain.mk' rfl rfl (Le.of (by rw [nwT,nwP,←hra,if_neg h209,List.append_nil]))
instance ti100:TyI Tryz.prog 100 3 true:=⟨by kernel_rfl,by kernel_rfl⟩
instance fi51:FnI Tryz.prog 51:=⟨_,Tryz.func51,by kernel_rfl,rfl⟩
instance fi52:FnI Tryz.prog 52:=⟨_,Tryz.func52,by kernel_rfl,rfl⟩
theorem zr100:(Tryz.prog.info? 100).bind (·.zero)=some (.agg #[.string ⟨#[]⟩,.string ⟨#[]⟩,.string ⟨#[]⟩])∧ ∀F w,(tS [⟨1,false,(tE (.string ⟨#[]⟩))⟩,⟨1,false,(tE (.string ⟨#[]⟩))⟩,⟨1,false,(tE (.string ⟨#[]⟩))⟩]).p F w (.agg #[.string ⟨#[]⟩,.string ⟨#[]⟩,.string ⟨#[]⟩]):=⟨by kernel_rfl,fun _ _=>⟨_,rfl,rfl,⟨fun _=>rfl,rfl⟩,⟨fun _=>rfl,rfl⟩,⟨fun _=>rfl,rfl⟩,trivial⟩⟩
theorem zr101:(Tryz.prog.info? 101).bind (·.zero)=some (.agg #[.slice none 0 0,.slice none 0 0,.slice none 0 0])∧ ∀F w,(tS [⟨1,false,(tE (.slice none 0 0))⟩,⟨1,false,(tE (.slice none 0 0))⟩,⟨1,false,(tE (.slice none 0 0))⟩]).p F w (.agg #[.slice none 0 0,.slice none 0 0,.slice none 0 0]):=⟨by kernel_rfl,fun _ _=>⟨_,rfl,rfl,⟨fun _=>rfl,rfl⟩,⟨fun _=>rfl,rfl⟩,⟨fun _=>rfl,rfl⟩,trivial⟩⟩
theorem bu100:BuI Tryz.prog 100 (fun i=>some (i*1,1)) (.agg #[.string ⟨#[]⟩,.string ⟨#[]⟩,.string ⟨#[]⟩]):=BuI.array Tryz.underlying100 ti9 zr100.1
theorem ar101:ArI Tryz.prog 101 37 3 1 false:=⟨by kernel_rfl,ti37⟩
section
variable {D B:Int} {l:List Ev}
theorem c_TDiffG {K:Nat} {D B:Int} {a b:List Tst} (h:isG K D B a) (g:isG K D B b) (ha:a.length≤1000) (hb:b.length≤1000):Ct Tryz.prog 51 [tL 8 true tTs a,tL 8 true tTs b] (tT [tL 2 true tSn (dfS a b),tI 0]):=by
 have:=c_TDiff _ _ (by omega) (by omega) h.dig g.dig
 rw [if_pos ⟨h.1,g.1⟩,if_pos ⟨h.1,g.1⟩] at this;exact this
def mks:List ByteArray:=[mKey 0,mKey 1,mKey 2]
theorem mks_at {K:Nat} (hK:K < 3):At (tS (mks.map fun x=>⟨1,false,tSt x⟩)) (K*1) 1 false (tSt (mKey K)):=match K,hK with
 | 0,_=>At.row (f:=fun x=>tSt x) (l:=mks) (i:=0) ⟨#[]⟩ (by decide)
 | 1,_=>At.row (f:=fun x=>tSt x) (l:=mks) (i:=1) ⟨#[]⟩ (by decide)
 | 2,_=>At.row (f:=fun x=>tSt x) (l:=mks) (i:=2) ⟨#[]⟩ (by decide)
def bfL (l:List Ev) (ks:List Int) (j K:Nat):List (List Tst):=(List.range 3).map fun q=>if q < K then mT q (inf l (ks.getD j 0)) else befT q l ks j
theorem bfL_len {ks:List Int} {j K:Nat}:(bfL l ks j K).length=3:=by rw [bfL,List.length_map,List.length_range]
theorem bfL_get {ks:List Int} {j K:Nat} (hK:K < 3):(bfL l ks j K).getD K []=befT K l ks j:=by
 rw [bfL,List.getD_eq_getElem?_getD,List.getElem?_map,List.getElem?_range hK]
 show (if K < K then _ else _)=_
 rw [if_neg (Nat.lt_irrefl K)]
theorem bfL_at {ks:List Int} {j K:Nat} (hK:K < 3):(rV (fun t:List Tst=>tL 8 true tTs t) (bfL l ks j K))[K]? =some (.val (tL 8 true tTs (befT K l ks j))):=by
 rw [xa8 (d:=[]) (by rw [bfL_len];exact hK),bfL_get hK]
theorem bfL_set {ks:List Int} {j K:Nat} (hK:K < 3):(bfL l ks j K).set K (mT K (inf l (ks.getD j 0)))=bfL l ks j (K+1):=by
 apply List.ext_getElem?
 intro q
 rw [List.getElem?_set,bfL_len,bfL,bfL,List.getElem?_map,List.getElem?_map]
 by_cases hq:q < 3
 ·rw [List.getElem?_range hq]
  by_cases e:K=q
  ·subst e
   rw [if_pos rfl,if_pos hK]
   show _=some (if K < K+1 then _ else _)
   rw [if_pos (Nat.lt_succ_self K)]
  ·rw [if_neg e]
   show some (if q < K then _ else _)=some (if q < K+1 then _ else _)
   by_cases h1:q < K
   ·rw [if_pos h1,if_pos (by omega)]
   ·rw [if_neg h1,if_neg (by omega)]
 ·rw [List.getElem?_eq_none (by rw [List.length_range];omega)]
  by_cases e:K=q
  ·omega
  ·rw [if_neg e];rfl
theorem bfL_next {ks:List Int} {j:Nat}:bfL l ks j 3=bfL l ks (j+1) 0:=by
 rw [bfL,bfL]
 refine List.map_congr_left fun q hq=> ?_
 rw [if_pos (List.mem_range.1 hq),if_neg (Nat.not_lt_zero q),befT,if_neg (by omega)];rfl
theorem bfL_none {ks:List Int}:bfL l ks 0 0=[[],[],[]]:=rfl
theorem fcts_le {ks:List Int} {n m:Nat} (h:n≤m):(fcts l ks n).length≤(fcts l ks m).length:=by
 induction h with
 | refl=>exact Nat.le_refl _
 | step _ ih=>rw [xj2,List.length_append];omega
theorem fcK_le {ks:List Int} {j n m:Nat} (h:n≤m):(fcK l ks j n).length≤(fcK l ks j m).length:=by
 induction h with
 | refl=>exact Nat.le_refl _
 | step _ ih=>rw [xj7,List.length_append];omega
theorem nwD_le {now:List Tst} {key:ByteArray} {kn:Int} {S:List Sn} (q:Nat):(nwD now key kn (S.take q)).length≤(nwD now key kn S).length:=by
 have e:nwD now key kn S=nwD now key kn (S.take q)++nwD now key kn (S.drop q):=by rw [nwD,nwD,nwD,←List.flatMap_append,List.take_append_drop]
 rw [e,List.length_append];omega
theorem fc_room {ks:List Int} {j K q:Nat} (hj:j < ks.length) (hK:K < 3) (hn:(fcts l ks ks.length).length≤2000):(fcts l ks j++fcK l ks j K++nwD (mT K (inf l (ks.getD j 0))) (mKey K) (ks.getD j 0) ((dfS (befT K l ks j) (mT K (inf l (ks.getD j 0)))).take q)).length≤2000:=by
 have h1:=nwD_le (now:=mT K (inf l (ks.getD j 0))) (key:=mKey K) (kn:=ks.getD j 0) (S:=dfS (befT K l ks j) (mT K (inf l (ks.getD j 0)))) q
 have h2:(fcK l ks j (K+1)).length=(fcK l ks j K).length+(fcJ l ks j K).length:=by rw [xj7,List.length_append]
 have h3:=fcK_le (l:=l) (ks:=ks) (j:=j) (show K+1≤3 by omega)
 have h4:(fcts l ks (j+1)).length=(fcts l ks j).length+(fcK l ks j 3).length:=by rw [xj2,List.length_append]
 have h5:=fcts_le (l:=l) (ks:=ks) (show j+1≤ks.length by omega)
 have h6:(fcJ l ks j K).length=(nwD (mT K (inf l (ks.getD j 0))) (mKey K) (ks.getD j 0) (dfS (befT K l ks j) (mT K (inf l (ks.getD j 0))))).length:=rfl
 rw [List.length_append,List.length_append];omega
theorem mapK_next {i:Nat} (hi:i < l.length):(l.take (i+1)).map (·.kn)=(l.take i).map (·.kn)++[(l.getD i ev0).kn]:=by
 rw [List.take_succ_eq_append_getElem hi,List.map_append,List.getD_eq_getElem?_getD,List.getElem?_eq_getElem hi];rfl
theorem mapK_len {i:Nat} (hi:i≤l.length):((l.take i).map (·.kn)).length=i:=by rw [List.length_map,List.length_take];omega
theorem GR_mlen (h:GR D B l) (K:Nat) (k:Int):(mT K (inf l k)).length≤1000:=by
 have h1:=mT_len (F:=inf l k) K
 have h2:=h.inf_len k
 omega
theorem GR_blen (h:GR D B l) (K:Nat) (ks:List Int) (j:Nat):(befT K l ks j).length≤1000:=by
 rw [befT]
 split
 ·exact Nat.zero_le _
 ·exact GR_mlen h K _
theorem sn_okS {S:List Sn} (h:sVal S=true) {q:Nat} (hq:q < S.length):Sn.ok (S.getD q sn0)=true:=by
 have hm:S.getD q sn0∈S:=by rw [List.getD_eq_getElem?_getD,List.getElem?_eq_getElem hq];exact List.getElem_mem hq
 have:=sVal_ok h _ hm
 generalize S.getD q sn0=s at*
 simp [Sn.ok];omega
end
theorem c_Facts {D B:Int} (l:List Ev) (h:GR D B l) (hn:(fctL l).length≤2000):
  Ct Tryz.prog 19 [tL 14 true tEv l] (tT [tL 11 true tFa (fctL l),tI 0]):=by
 have hll:=h.len
 have hkl:=knL_len (l:=l)
 have hn:(fcts l (knL l) (knL l).length).length≤2000:=hn
 refine Ct.intro Tryz.func19 rfl Tryz.ntmps19 rfl ?_
 intro w F
 refine A10 ?_
 refine R1 (x3 (c_EValidG h) fi26 rfl) rfl ?_
 refine A10 ?_
 refine RE (xi6 (k:=26) (t:=tI 0) (ts:=rV tI ([]:List Int)) 0 l.length Tryz.underlying42 el3 (fun _ _=>rfl) rfl rfl rfl (Nat.zero_le _) (by omega) (by omega) rfl) ⟨rfl,rfl,trivial⟩ trivial ⟨rfl,trivial⟩ ?_
 refine A12 ?_
 refine cL (fun (i:Nat)=>i≤l.length) (fun (i:Nat)=>upd (upd (upd (upd (upd (fun _=>none) 0 (some (.val (tL 14 true tEv l)))) 4 (some (.own (.sl 26 1 0 ((l.take i).map (·.kn)).length)))) 27 (some (.val (tL 14 true tEv l)))) 28 (some (.val (tI l.length)))) 29 (some (.val (tI i)))) (fun (i:Nat)=>upd (fun _=>none) 26 (some (⟨3,1,false,rV tI ((l.take i).map (·.kn))⟩))) [26] (fun (i:Nat)=>l.length - i) (0) (Nat.zero_le _) (hh:=((SubK.consI rfl ImpK.refl) SubK.nil)) ?_
 intro i hI
 have hxl:=mapK_len (l:=l) hI
 have hnx:=fun hh=>mapK_next (l:=l) (i:=i) hh
 refine A6 ?_
 refine x5 rfl (fun h172=> ?_) (fun h172=> ?_)
 ·
  refine A6 ?_
  refine R2 (x8 sl24 (i) (by omega) (gD (l:=l) (n:=i) (d:=ev0) (by omega))) rfl rfl ?_
  refine A1 ?_
  refine RE (xa1 (k:=6) (n:=14) (agg:=true) zr32.1 zr32.2 rfl) trivial trivial ⟨rfl,trivial⟩ ?_
  refine A7 ?_
  refine R1 (xb0 (n:=1) (f:=fun n:Int=>tI n) [((l.getD i ev0).kn)] Tryz.underlying42 el3 zf3 rfl (fun _=>inferInstance) rfl rfl rfl) rfl (RE (xg0 (k:=26) (k':=37) (f:=fun n:Int=>tI n) ((l.take i).map (·.kn)) ((l.getD i ev0).kn) Tryz.underlying42 el3 zf3 rfl rfl (fun _=>inferInstance) rfl ⟨by omega,by omega⟩ rfl) ⟨rfl,rfl,trivial⟩ ⟨rfl,trivial⟩ ⟨rfl,trivial⟩ ?_)
  refine A8 ?_
  exact xb7 (l:=[26]) (fun j=>cond (Nat.beq j 26) 37 (j)) (i+1) ⟨(by omega),(by omega)⟩ (SubR.int rfl (by first | omega | rfl | (dsimp only;omega)) (SubR.int rfl (by first | omega | rfl | (dsimp only;omega)) (SubR.cons rfl ((SubR.consI rfl (Imp.of (by rw [hnx (by omega),List.length_append];rfl))) (SubR.cons rfl SubR.nil))))) ((SubKR.consI rfl (ImpK.of (by rw [hnx (by omega)];exact xa2.symm))) SubKR.nil) (SupG.val (SupG.val (SupG.val (SupG.own rfl (SupG.val SupG.nil))))) (SupH.cons rfl (supJ x9) SupH.nil) (lkOk rfl) rfl rfl (fun _ h=>by cases h)
 ·
  refine A6 ?_
  have hie:l.take i=l:=by rw [show i=l.length by omega,List.take_length]
  rw [hie]
  refine A2 ?_
  refine RE (xa5 (fun _=>26) (c_SortI (l.map (·.kn)) (by rw [List.length_map];omega)) fi49 rfl (krC (ρ:=fun _=>26) (k:=1) xa2 (krN (ρ:=fun _=>26))) (krC (ρ:=fun _=>26) (k:=1) xa2 (krN (ρ:=fun _=>26))) ⟨⟨rfl,x9⟩,trivial⟩ rfl) ⟨rfl,trivial⟩ ⟨rfl,trivial⟩ trivial ?_
  refine A4 ?_
  refine R3 (xa9 (r:=tS [⟨1,false,tSt (mKey 0)⟩,⟨1,false,tSt (mKey 1)⟩,⟨1,false,tSt (mKey 2)⟩]) (ts:=[(0,tSt (mKey 0)),(1,tSt (mKey 1)),(2,tSt (mKey 2))]) bu100 zr100.2 (Bc 0 rfl rfl rfl (Bc 1 rfl rfl rfl (Bc 2 rfl rfl rfl Le.refl)))) rfl rfl rfl (RE (xa1 (k:=7) (n:=3) (agg:=true) zr100.1 zr100.2 rfl) trivial trivial ⟨rfl,trivial⟩ ?_)
  refine A5 ?_
  refine R0 (x3 c_timelines fi45 rfl) ?_
  refine A5 ?_
  refine RE (d_allocC (k:=9) (n:=3) [.slice none 0 0,.slice none 0 0,.slice none 0 0] zr101.1 rfl rfl rfl rfl) trivial trivial ⟨rfl,trivial⟩ ?_
  refine A4 ?_
  refine RE (xd3 (k:=10) 59 11 true rfl (fun h=>by cases h)) trivial trivial ⟨rfl,trivial⟩ ?_
  refine A4 ?_
  refine xm0 ?_
  refine xb9 xc1 ⟨rfl,trivial⟩ trivial trivial rfl (xb9 (xa5 (fun _=>26) (xt7 (l.map (·.kn))) fi50 rfl (krC (ρ:=fun _=>26) (k:=1) xa2 (krN (ρ:=fun _=>26))) (krC (ρ:=fun _=>26) (k:=1) xa2 (krN (ρ:=fun _=>26))) ⟨⟨rfl,x9⟩,trivial⟩ rfl) ⟨rfl,trivial⟩ ⟨rfl,trivial⟩ trivial rfl (wl_give (t:=44) (k:=26) (f:=tI) (xs:=(knL l)) rfl rfl (fun _ h=>h) (xf4 rfl) rfl (xb9 (d_len Tryz.underlying42) ⟨rfl,trivial⟩ trivial trivial rfl (xb9 xc1 ⟨rfl,trivial⟩ trivial trivial rfl (xi1 ?_)))))
  refine A2 ?_
  refine cL (fun (j:Nat)=>j≤(knL l).length) (fun (j:Nat)=>upd (upd (upd (upd (upd (upd (upd (upd (fun _=>none) 0 (some (.val (tL 14 true tEv l)))) 7 (some (.own (.ptr 7 0)))) 8 (some (.val (tMp mkSF (some tmL))))) 9 (some (.own (.ptr 9 0)))) 44 (some (.val (tL 1 false tI (knL l))))) 45 (some (.val (tI (knL l).length)))) 46 (some (.val (tI j)))) 10 (some (.own (.sl 10 11 0 (fcts l (knL l) j).length)))) (fun (j:Nat)=>upd (upd (upd (fun _=>none) 7 (some (⟨100,3,true,[.val (tS (mks.map fun x=>⟨1,false,tSt x⟩))]⟩))) 9 (some (⟨101,1,false,rV (fun t:List Tst=>tL 8 true tTs t) (bfL l (knL l) j 0)⟩))) 10 (some (⟨59,11,true,rV tFa (fcts l (knL l) j)⟩))) [7,9,10] (fun (j:Nat)=>(knL l).length - j) (0) (Nat.zero_le _) (hh:=((SubK.consI rfl ImpK.refl) ((SubK.consI rfl (by rw [bfL_none];exact ImpK.three (leNil rfl) (leNil rfl) (leNil rfl))) ((SubK.consI rfl ImpK.refl) SubK.nil)))) ?_
  intro j hI2
  refine A1 ?_
  refine xm0 ?_
  refine xb9 d_lss ⟨rfl,rfl,trivial⟩ trivial trivial rfl (xi1 ?_)
  refine A2 ?_
  refine x5 rfl (fun h180=> ?_) (fun h180=> ?_)
  ·
   refine A5 ?_
   refine xm0 ?_
   refine xb9 (x8 sl42 (j) (by omega) (gD (l:=(knL l)) (n:=j) (d:=0) (by omega))) ⟨rfl,rfl,trivial⟩ trivial trivial rfl (xb9 (xm2 ti3) ⟨rfl,trivial⟩ trivial trivial rfl (xb9 xd9 ⟨rfl,trivial⟩ trivial trivial rfl (xi1 ?_)))
   refine A5 ?_
   refine R2 (x3 (c_viewOf l ((knL l).getD j 0) h.ok h.len) fi46 rfl) rfl rfl (RE (xa1 (k:=13) (n:=1) (agg:=true) zr94.1 zr94.2 rfl) trivial trivial ⟨rfl,trivial⟩ ?_)
   refine A10 ?_
   refine cL (fun (K:Nat)=>K≤3) (fun (K:Nat)=>upd (upd (upd (upd (upd (upd (upd (upd (upd (upd (upd (upd (fun _=>none) 0 (some (.val (tL 14 true tEv l)))) 7 (some (.own (.ptr 7 0)))) 8 (some (.val (tMp mkSF (some tmL))))) 9 (some (.own (.ptr 9 0)))) 44 (some (.val (tL 1 false tI (knL l))))) 45 (some (.val (tI (knL l).length)))) 46 (some (.val (tI j)))) 10 (some (.own (.sl 10 11 0 (fcts l (knL l) j++fcK l (knL l) j K).length)))) 12 (some (.val (tI ((knL l).getD j 0))))) 13 (some (.own (.ptr 13 0)))) 53 (some (.val (tS (mks.map fun x=>⟨1,false,tSt x⟩))))) 54 (some (.val (tI K)))) (fun (K:Nat)=>upd (upd (upd (upd (fun _=>none) 7 (some (⟨100,3,true,[.val (tS (mks.map fun x=>⟨1,false,tSt x⟩))]⟩))) 9 (some (⟨101,1,false,rV (fun t:List Tst=>tL 8 true tTs t) (bfL l (knL l) j K)⟩))) 10 (some (⟨59,11,true,rV tFa (fcts l (knL l) j++fcK l (knL l) j K)⟩))) 13 (some (⟨94,1,true,[.val (tVw (inf l ((knL l).getD j 0)))]⟩))) [7,9,10,13] (fun (K:Nat)=>3 - K) (0) (Nat.zero_le _) (hg:=(sI (sC (sC (sI ((Sub.consI rfl (Imp.of (by rw [show fcK l (knL l) j 0=[] from rfl,List.append_nil]))) (sI (sI (sC (sC (sC (sC (sC Sub.nil))))))))))))) (hh:=((SubK.consI rfl ImpK.refl) ((SubK.consI rfl (ImpK.of (by rw [show fcK l (knL l) j 0=[] from rfl,List.append_nil]))) ((SubK.consI rfl ImpK.refl) ((SubK.consI rfl ImpK.refl) SubK.nil))))) ?_
   intro K hI3
   refine A6 ?_
   refine x5 rfl (fun h182=> ?_) (fun h182=> ?_)
   ·
    refine A7 ?_
    refine R2 (d_indexV (es:=1) (agg:=false) (t:=tS (mks.map fun x=>⟨1,false,tSt x⟩)) (t':=tSt (mKey K)) Tryz.underlying100 ti9 K (by omega) (by omega) (mks_at (by omega))) rfl rfl ?_
    refine A8 ?_
    refine R2 (d_lookV (K:=K) (by omega)) rfl rfl ?_
    refine A1 ?_
    refine R2 (xe9 (c_keyK h (K:=K) (by omega) ((knL l).getD j 0)) (fnK (by omega)) rfl) rfl rfl ?_
    refine A6 ?_
    refine R2 (d_indexA ar101 (by omega) (by omega) rfl) rfl rfl (RE (xa6 (K) ti37 (bfL_at (by omega)) (by omega)) ⟨rfl,trivial⟩ ⟨rfl,trivial⟩ trivial ?_)
    refine A1 ?_
    refine R2 (x3 (c_TDiffG (h.bef K (knL l) j) (h.tl K ((knL l).getD j 0)) (GR_blen h K (knL l) j) (GR_mlen h K ((knL l).getD j 0))) fi51 rfl) rfl rfl ?_
    refine A16 ?_
    refine cL (fun (q:Nat)=>q≤(dfS (befT K l (knL l) j) (mT K (inf l ((knL l).getD j 0)))).length) (fun (q:Nat)=>upd (upd (upd (upd (upd (upd (upd (upd (upd (upd (upd (upd (upd (upd (upd (upd (upd (upd (fun _=>none) 0 (some (.val (tL 14 true tEv l)))) 7 (some (.own (.ptr 7 0)))) 8 (some (.val (tMp mkSF (some tmL))))) 9 (some (.own (.ptr 9 0)))) 44 (some (.val (tL 1 false tI (knL l))))) 45 (some (.val (tI (knL l).length)))) 46 (some (.val (tI j)))) 10 (some (.own (.sl 10 11 0 ((fcts l (knL l) j++fcK l (knL l) j K)++nwD (mT K (inf l ((knL l).getD j 0))) (mKey K) ((knL l).getD j 0) ((dfS (befT K l (knL l) j) (mT K (inf l ((knL l).getD j 0)))).take q)).length)))) 12 (some (.val (tI ((knL l).getD j 0))))) 13 (some (.own (.ptr 13 0)))) 14 (some (.val (tI K)))) 15 (some (.val (tSt (mKey K))))) 16 (some (.val (tL 8 true tTs (mT K (inf l ((knL l).getD j 0))))))) 53 (some (.val (tS (mks.map fun x=>⟨1,false,tSt x⟩))))) 54 (some (.val (tI K)))) 71 (some (.val (tL 2 true tSn (dfS (befT K l (knL l) j) (mT K (inf l ((knL l).getD j 0)))))))) 72 (some (.val (tI (dfS (befT K l (knL l) j) (mT K (inf l ((knL l).getD j 0)))).length)))) 73 (some (.val (tI q)))) (fun (q:Nat)=>upd (upd (upd (upd (fun _=>none) 7 (some (⟨100,3,true,[.val (tS (mks.map fun x=>⟨1,false,tSt x⟩))]⟩))) 9 (some (⟨101,1,false,rV (fun t:List Tst=>tL 8 true tTs t) (bfL l (knL l) j K)⟩))) 10 (some (⟨59,11,true,rV tFa ((fcts l (knL l) j++fcK l (knL l) j K)++nwD (mT K (inf l ((knL l).getD j 0))) (mKey K) ((knL l).getD j 0) ((dfS (befT K l (knL l) j) (mT K (inf l ((knL l).getD j 0)))).take q))⟩))) 13 (some (⟨94,1,true,[.val (tVw (inf l ((knL l).getD j 0)))]⟩))) [7,9,10,13] (fun (q:Nat)=>(dfS (befT K l (knL l) j) (mT K (inf l ((knL l).getD j 0)))).length - q) (0) (Nat.zero_le _) (hg:=(sI (sI (sC (sI (sC (sC (sC (sI (sC (sI ((Sub.consI rfl (Imp.of (by rw [List.take_zero,show nwD (mT K (inf l ((knL l).getD j 0))) (mKey K) ((knL l).getD j 0) []=[] from rfl,List.append_nil]))) (sI (sI (sC (sC (sC (sC (sC Sub.nil))))))))))))))))))) (hh:=((SubK.consI rfl ImpK.refl) ((SubK.consI rfl (ImpK.of (by rw [List.take_zero,show nwD (mT K (inf l ((knL l).getD j 0))) (mKey K) ((knL l).getD j 0) []=[] from rfl,List.append_nil]))) ((SubK.consI rfl ImpK.refl) ((SubK.consI rfl ImpK.refl) SubK.nil))))) ?_
    intro q hI4
    have hsl:=sVal_len (h.df K (knL l) j).1
    have hrm:=fc_room (l:=l) (ks:=(knL l)) (j:=j) (K:=K) (q:=q) (by omega) (by omega) hn
    refine A6 ?_
    refine x5 rfl (fun h185=> ?_) (fun h185=> ?_)
    ·
     refine A6 ?_
     refine R2 (x8 sl74 (q) (by omega) (gD (l:=(dfS (befT K l (knL l) j) (mT K (inf l ((knL l).getD j 0))))) (n:=q) (d:=sn0) (by omega))) rfl rfl ?_
     refine A1 ?_
     refine RE (xa1 (k:=20) (n:=2) (agg:=true) zr106.1 zr106.2 rfl) trivial trivial ⟨rfl,trivial⟩ ?_
     refine A9 ?_
     refine RE (x3 (c_news (mT K (inf l ((knL l).getD j 0))) (mKey K) ((knL l).getD j 0) ((dfS (befT K l (knL l) j) (mT K (inf l ((knL l).getD j 0)))).getD q sn0) (h.tl K ((knL l).getD j 0)) (GR_mlen h K ((knL l).getD j 0)) (sn_okS (h.df K (knL l) j).1 (by omega))) fi52 rfl) ⟨rfl,rfl,rfl,rfl,trivial⟩ trivial trivial ?_
     have hnq:((fcts l (knL l) j++fcK l (knL l) j K)++nwD (mT K (inf l ((knL l).getD j 0))) (mKey K) ((knL l).getD j 0) ((dfS (befT K l (knL l) j) (mT K (inf l ((knL l).getD j 0)))).take q)).length+(nwT (mT K (inf l ((knL l).getD j 0))) (mKey K) ((knL l).getD j 0) ((dfS (befT K l (knL l) j) (mT K (inf l ((knL l).getD j 0)))).getD q sn0)).length≤2000:=by
      have h1:=fc_room (l:=l) (ks:=(knL l)) (j:=j) (K:=K) (q:=q+1) (by omega) (by omega) hn
      have h2:(((fcts l (knL l) j++fcK l (knL l) j K)++nwD (mT K (inf l ((knL l).getD j 0))) (mKey K) ((knL l).getD j 0) ((dfS (befT K l (knL l) j) (mT K (inf l ((knL l).getD j 0)))).take q))++(nwT (mT K (inf l ((knL l).getD j 0))) (mKey K) ((knL l).getD j 0) ((dfS (befT K l (knL l) j) (mT K (inf l ((knL l).getD j 0)))).getD q sn0))).length=((fcts l (knL l) j++fcK l (knL l) j K)++nwD (mT K (inf l ((knL l).getD j 0))) (mKey K) ((knL l).getD j 0) ((dfS (befT K l (knL l) j) (mT K (inf l ((knL l).getD j 0)))).take q)).length+(nwT (mT K (inf l ((knL l).getD j 0))) (mKey K) ((knL l).getD j 0) ((dfS (befT K l (knL l) j) (mT K (inf l ((knL l).getD j 0)))).getD q sn0)).length:=List.length_append
      rw [nwD_snoc (by omega),←List.append_assoc] at h1;omega
     refine RE (xb6 (k:=10) (k':=83) (f:=tFa) (ys:=(nwT (mT K (inf l ((knL l).getD j 0))) (mKey K) ((knL l).getD j 0) ((dfS (befT K l (knL l) j) (mT K (inf l ((knL l).getD j 0)))).getD q sn0))) (ts':=rV tFa (((fcts l (knL l) j++fcK l (knL l) j K)++nwD (mT K (inf l ((knL l).getD j 0))) (mKey K) ((knL l).getD j 0) ((dfS (befT K l (knL l) j) (mT K (inf l ((knL l).getD j 0)))).take q))++(nwT (mT K (inf l ((knL l).getD j 0))) (mKey K) ((knL l).getD j 0) ((dfS (befT K l (knL l) j) (mT K (inf l ((knL l).getD j 0)))).getD q sn0)))) Tryz.underlying46 el59 zf59 rfl rfl (fun _=>inferInstance) xc6 (by omega) (by omega) (by simp only [rV,List.map_append]) (n':=((fcts l (knL l) j++fcK l (knL l) j K)++nwD (mT K (inf l ((knL l).getD j 0))) (mKey K) ((knL l).getD j 0) ((dfS (befT K l (knL l) j) (mT K (inf l ((knL l).getD j 0)))).take q)).length+(nwT (mT K (inf l ((knL l).getD j 0))) (mKey K) ((knL l).getD j 0) ((dfS (befT K l (knL l) j) (mT K (inf l ((knL l).getD j 0)))).getD q sn0)).length) rfl) ⟨rfl,rfl,trivial⟩ ⟨rfl,trivial⟩ ⟨rfl,trivial⟩ ?_
     refine A8 ?_
     have hnx:=nwD_snoc (now:=(mT K (inf l ((knL l).getD j 0)))) (key:=mKey K) (kn:=((knL l).getD j 0)) (S:=(dfS (befT K l (knL l) j) (mT K (inf l ((knL l).getD j 0))))) (i:=q) (by omega)
     exact xb7 (l:=[7,9,10,13]) (fun j=>cond (Nat.beq j 10) 83 (j)) (q+1) ⟨(by omega),(by omega)⟩ (SubR.int rfl (by first | omega | rfl | (dsimp only;omega)) (SubR.int rfl (by first | omega | rfl | (dsimp only;omega)) (SubR.cons rfl (SubR.int rfl (by first | omega | rfl | (dsimp only;omega)) (SubR.cons rfl (SubR.cons rfl (SubR.cons rfl (SubR.int rfl (by first | omega | rfl | (dsimp only;omega)) (SubR.cons rfl (SubR.int rfl (by first | omega | rfl | (dsimp only;omega)) ((SubR.consI rfl (Imp.of (by rw [hnx,←List.append_assoc];exact congrArg (fun n=>Ent.own (.sl 83 11 0 n)) List.length_append.symm))) (SubR.int rfl (by first | omega | rfl | (dsimp only;omega)) (SubR.int rfl (by first | omega | rfl | (dsimp only;omega)) (SubR.cons rfl (SubR.cons rfl (SubR.cons rfl (SubR.cons rfl (SubR.cons rfl SubR.nil)))))))))))))))))) ((SubKR.consI rfl ImpK.refl) ((SubKR.consI rfl (ImpK.of (by rw [hnx,←List.append_assoc];exact xa2.symm))) ((SubKR.consI rfl (ImpK.of xa2.symm)) ((SubKR.consI rfl ImpK.refl) SubKR.nil)))) (SupG.val (SupG.val (SupG.val (SupG.val (SupG.val (SupG.val (SupG.val (SupG.val (SupG.own rfl (SupG.val (SupG.own rfl (SupG.val (SupG.val (SupG.val (SupG.own rfl (SupG.val (SupG.own rfl (SupG.val SupG.nil)))))))))))))))))) (SupH.cons rfl (supJL rfl) (SupH.cons rfl (supJ x9) (SupH.cons rfl (supJ x9) (SupH.cons rfl (supJL rfl) SupH.nil)))) (lkOk rfl) rfl rfl (fun _ h=>by cases h)
    ·
     refine A13 ?_
     refine C_bF rfl (decide_eq_false (by omega)) ?_
     refine A5 ?_
     refine R2 (d_indexA ar101 (by omega) (by omega) rfl) rfl rfl (RE (xb2 (K) ti37 (xh8 (by rw [bfL_len];omega)) (by omega) (xe6 (m:=(mT K (inf l ((knL l).getD j 0)))) rfl)) ⟨rfl,rfl,trivial⟩ ⟨rfl,trivial⟩ trivial ?_)
     refine A7 ?_
     have hqe:q=(dfS (befT K l (knL l) j) (mT K (inf l ((knL l).getD j 0)))).length:=by omega
     have hxe:((fcts l (knL l) j++fcK l (knL l) j K)++nwD (mT K (inf l ((knL l).getD j 0))) (mKey K) ((knL l).getD j 0) ((dfS (befT K l (knL l) j) (mT K (inf l ((knL l).getD j 0)))).take q))=fcts l (knL l) j++fcK l (knL l) j (K+1):=by rw [hqe,List.take_length,xj7,List.append_assoc];rfl
     exact kF (K+1) ⟨(by omega),(by omega)⟩ (hg:=(sI (sC (sC (sI ((Sub.consI rfl (Imp.of (by rw [←hxe]))) (sI (sI (sC (sC (sC (sC (sC Sub.nil))))))))))))) (hh:=((SubK.consI rfl ImpK.refl) ((SubK.consI rfl (ImpK.of (by rw [←hxe]))) ((SubK.consI rfl (ImpK.of (by rw [bfL_set (by omega)]))) ((SubK.consI rfl ImpK.refl) SubK.nil)))))
   ·
    refine A6 ?_
    refine xm0 ?_
    refine xb9 (xh6 (wr64 (by omega) (by omega))) ⟨rfl,rfl,trivial⟩ trivial trivial rfl (xb9 xc1 ⟨rfl,trivial⟩ trivial trivial rfl (xi1 ?_))
    have hK3:K=3:=by omega
    subst hK3
    exact kF (j+1) ⟨(by omega),(by omega)⟩ (hg:=((Sub.consI rfl (Imp.of (by rw [xj2]))) (sI (sI (sC (sC (sC (sC (sC Sub.nil))))))))) (hh:=((SubK.consI rfl (ImpK.of (by rw [xj2]))) ((SubK.consI rfl (ImpK.of (by rw [bfL_next]))) ((SubK.consI rfl ImpK.refl) SubK.nil))))
  ·
   refine A6 ?_
   have hje:j=(knL l).length:=by omega
   subst hje
   refine C_give (t:=10) (k:=10) (f:=tFa) (xs:=fctL l) rfl rfl (fun _ h=>h) (xf4 rfl) rfl ?_
   refine A7 ?_
   exact xd7 Plain.mk' rfl rfl rfl Le.refl Le.refl
end An.S
namespace An
open Go An.S
section
variable {D B:Int} {l:List Ev}
end
section
variable {F:List Ev} {j d:Int}
end
section
variable {D B:Int} {F:List Ev}
end
end An
namespace An.S
open Go Go.Proofs An
instance ti52:TyI Tryz.prog 52 8 true:=⟨by kernel_rfl,by kernel_rfl⟩
instance sl22:SlI Tryz.prog 22 52 8 true:=⟨Tryz.underlying22,ti52⟩
instance fo52_0:FoI Tryz.prog 52 0 0:=⟨by kernel_rfl⟩
instance fo52_1:FoI Tryz.prog 52 1 1:=⟨by kernel_rfl⟩
instance fo52_2:FoI Tryz.prog 52 2 2:=⟨by kernel_rfl⟩
instance fo52_3:FoI Tryz.prog 52 3 3:=⟨by kernel_rfl⟩
instance fo52_4:FoI Tryz.prog 52 4 4:=⟨by kernel_rfl⟩
instance fo52_5:FoI Tryz.prog 52 5 5:=⟨by kernel_rfl⟩
instance fo52_6:FoI Tryz.prog 52 6 6:=⟨by kernel_rfl⟩
instance fo52_7:FoI Tryz.prog 52 7 7:=⟨by kernel_rfl⟩
instance fi12:FnI Tryz.prog 12:=⟨_,Tryz.func12,by kernel_rfl,rfl⟩
instance fi13:FnI Tryz.prog 13:=⟨_,Tryz.func13,by kernel_rfl,rfl⟩
instance fi23:FnI Tryz.prog 23:=⟨_,Tryz.func23,by kernel_rfl,rfl⟩
instance fi24:FnI Tryz.prog 24:=⟨_,Tryz.func24,by kernel_rfl,rfl⟩
instance fi25:FnI Tryz.prog 25:=⟨_,Tryz.func25,by kernel_rfl,rfl⟩
instance fi27:FnI Tryz.prog 27:=⟨_,Tryz.func27,by kernel_rfl,rfl⟩
instance fi40:FnI Tryz.prog 40:=⟨_,Tryz.func40,by kernel_rfl,rfl⟩
instance fi43:FnI Tryz.prog 43:=⟨_,Tryz.func43,by kernel_rfl,rfl⟩
instance fi44:FnI Tryz.prog 44:=⟨_,Tryz.func44,by kernel_rfl,rfl⟩
instance fi53:FnI Tryz.prog 53:=⟨_,Tryz.func53,by kernel_rfl,rfl⟩
instance fi78:FnI Tryz.prog 78:=⟨_,Tryz.func78,by kernel_rfl,rfl⟩
theorem el9:ElI Tryz.prog 9 1 16 false (.string ⟨#[]⟩):=⟨ti9,by kernel_rfl,by kernel_rfl⟩
theorem zr52:(Tryz.prog.info? 52).bind (·.zero)=some (.agg #[.int .u8 0,.int .u8 0,.int .u8 0,.int .u8 0,.int .u8 0,.int .u8 0,.int .u8 0,.int .u8 0])∧ ∀F w,(tS [⟨1,false,(tE (.int .u8 0))⟩,⟨1,false,(tE (.int .u8 0))⟩,⟨1,false,(tE (.int .u8 0))⟩,⟨1,false,(tE (.int .u8 0))⟩,⟨1,false,(tE (.int .u8 0))⟩,⟨1,false,(tE (.int .u8 0))⟩,⟨1,false,(tE (.int .u8 0))⟩,⟨1,false,(tE (.int .u8 0))⟩]).p F w (.agg #[.int .u8 0,.int .u8 0,.int .u8 0,.int .u8 0,.int .u8 0,.int .u8 0,.int .u8 0,.int .u8 0]):=⟨by kernel_rfl,fun _ _=>⟨_,rfl,rfl,⟨fun _=>rfl,rfl⟩,⟨fun _=>rfl,rfl⟩,⟨fun _=>rfl,rfl⟩,⟨fun _=>rfl,rfl⟩,⟨fun _=>rfl,rfl⟩,⟨fun _=>rfl,rfl⟩,⟨fun _=>rfl,rfl⟩,⟨fun _=>rfl,rfl⟩,trivial⟩⟩
theorem zf9:Flat 1 false (.string ⟨#[]⟩):=xc9 rfl
instance un22:UnI Tryz.prog 22 (.slice 52):=⟨Tryz.underlying22⟩
instance un35:UnI Tryz.prog 35 (.slice 9):=⟨Tryz.underlying35⟩
theorem c_eHire (kn job day n d p:Int) (hn: -9223372036854775808≤n∧n≤9223372036854775807) (hd: -9223372036854775808≤d∧d≤9223372036854775807) (hp: -9223372036854775808≤p∧p≤9223372036854775807):
  Ct Tryz.prog 23 [tI kn,tI job,tI day,tI n,tI d,tI p] (tEv (eHire kn job day n d p)):=by
 refine Ct.intro Tryz.func23 rfl Tryz.ntmps23 rfl ?_
 intro w F
 refine A2 ?_
 refine RE (xa1 (k:=12) (n:=14) (agg:=true) zr32.1 zr32.2 rfl) trivial trivial ⟨rfl,trivial⟩ ?_
 refine A9 ?_
 refine R2 (x3 (xr9 n d (by omega) (by omega) (by omega) (by omega)) fi29 rfl) rfl rfl ?_
 refine A1 ?_
 refine R2 (x3 (xr9 p 1 (by omega) (by omega) (by omega) (by omega)) fi29 rfl) rfl rfl (RE (xa9 (r:=tS [⟨1,false,tE (.int .u8 1)⟩,⟨1,false,tI kn⟩,⟨1,false,tI job⟩,⟨1,false,tI day⟩,⟨1,false,(tE (.int .i64 0))⟩,⟨4,true,tFr (fr (kfr n d))⟩,⟨4,true,tFr (fr (kfr p 1))⟩,⟨1,false,(tE (.int .i64 0))⟩]) (ts:=[(0,tE (.int .u8 1)),(1,tI kn),(2,tI job),(3,tI day),(5,tFr (fr (kfr n d))),(6,tFr (fr (kfr p 1)))]) bu32 zr32.2 (Bc 0 rfl rfl rfl (Bc 1 rfl rfl rfl (Bc 2 rfl rfl rfl (Bc 3 rfl rfl rfl (Bc 5 rfl rfl rfl (Bc 6 rfl rfl rfl Le.refl))))))) ⟨rfl,rfl,rfl,rfl,rfl,rfl,trivial⟩ trivial trivial ?_)
 refine A4 ?_
 exact xc3 Plain.mk' rfl ⟨_,_,_,_,_,rfl,rfl,ti32,(Le.of rfl)⟩
theorem c_eLeave (kn job day:Int):
  Ct Tryz.prog 43 [tI kn,tI job,tI day] (tEv (eLeave kn job day)):=by
 refine Ct.intro Tryz.func43 rfl Tryz.ntmps43 rfl ?_
 intro w F
 refine A2 ?_
 refine RE (xa1 (k:=6) (n:=14) (agg:=true) zr32.1 zr32.2 rfl) trivial trivial ⟨rfl,trivial⟩ ?_
 refine A7 ?_
 refine RE (xa9 (r:=tS [⟨1,false,tE (.int .u8 2)⟩,⟨1,false,tI kn⟩,⟨1,false,tI job⟩,⟨1,false,tI day⟩,⟨1,false,(tE (.int .i64 0))⟩,⟨4,true,(tS [⟨2,true,(tS [⟨1,false,(tE (.bool false))⟩,⟨1,false,(tLm [])⟩])⟩,⟨2,true,(tS [⟨1,false,(tE (.bool false))⟩,⟨1,false,(tLm [])⟩])⟩])⟩,⟨4,true,(tS [⟨2,true,(tS [⟨1,false,(tE (.bool false))⟩,⟨1,false,(tLm [])⟩])⟩,⟨2,true,(tS [⟨1,false,(tE (.bool false))⟩,⟨1,false,(tLm [])⟩])⟩])⟩,⟨1,false,(tE (.int .i64 0))⟩]) (ts:=[(0,tE (.int .u8 2)),(1,tI kn),(2,tI job),(3,tI day)]) bu32 zr32.2 (Bc 0 rfl rfl rfl (Bc 1 rfl rfl rfl (Bc 2 rfl rfl rfl (Bc 3 rfl rfl rfl Le.refl))))) ⟨rfl,rfl,rfl,rfl,trivial⟩ trivial trivial ?_
 refine A4 ?_
 exact xc3 Plain.mk' rfl ⟨_,_,_,_,_,rfl,rfl,ti32,(Le.of rfl)⟩
theorem c_eHours (kn job day hi n d:Int) (hn: -9223372036854775808≤n∧n≤9223372036854775807) (hd: -9223372036854775808≤d∧d≤9223372036854775807):
  Ct Tryz.prog 24 [tI kn,tI job,tI day,tI hi,tI n,tI d] (tEv (eHours kn job day hi n d)):=by
 refine Ct.intro Tryz.func24 rfl Tryz.ntmps24 rfl ?_
 intro w F
 refine A2 ?_
 refine RE (xa1 (k:=12) (n:=14) (agg:=true) zr32.1 zr32.2 rfl) trivial trivial ⟨rfl,trivial⟩ ?_
 refine A10 ?_
 refine R2 (x3 (xr9 n d (by omega) (by omega) (by omega) (by omega)) fi29 rfl) rfl rfl (RE (xa9 (r:=tS [⟨1,false,tE (.int .u8 3)⟩,⟨1,false,tI kn⟩,⟨1,false,tI job⟩,⟨1,false,tI day⟩,⟨1,false,tI hi⟩,⟨4,true,tFr (fr (kfr n d))⟩,⟨4,true,(tS [⟨2,true,(tS [⟨1,false,(tE (.bool false))⟩,⟨1,false,(tLm [])⟩])⟩,⟨2,true,(tS [⟨1,false,(tE (.bool false))⟩,⟨1,false,(tLm [])⟩])⟩])⟩,⟨1,false,(tE (.int .i64 0))⟩]) (ts:=[(0,tE (.int .u8 3)),(1,tI kn),(2,tI job),(3,tI day),(4,tI hi),(5,tFr (fr (kfr n d)))]) bu32 zr32.2 (Bc 0 rfl rfl rfl (Bc 1 rfl rfl rfl (Bc 2 rfl rfl rfl (Bc 3 rfl rfl rfl (Bc 4 rfl rfl rfl (Bc 5 rfl rfl rfl Le.refl))))))) ⟨rfl,rfl,rfl,rfl,rfl,rfl,trivial⟩ trivial trivial ?_)
 refine A4 ?_
 exact xc3 Plain.mk' rfl ⟨_,_,_,_,_,rfl,rfl,ti32,(Le.of rfl)⟩
theorem c_ePay (kn job day n d:Int) (hn: -9223372036854775808≤n∧n≤9223372036854775807) (hd: -9223372036854775808≤d∧d≤9223372036854775807):
  Ct Tryz.prog 44 [tI kn,tI job,tI day,tI n,tI d] (tEv (ePay kn job day n d)):=by
 refine Ct.intro Tryz.func44 rfl Tryz.ntmps44 rfl ?_
 intro w F
 refine A2 ?_
 refine RE (xa1 (k:=10) (n:=14) (agg:=true) zr32.1 zr32.2 rfl) trivial trivial ⟨rfl,trivial⟩ ?_
 refine A9 ?_
 refine R2 (x3 (xr9 n d (by omega) (by omega) (by omega) (by omega)) fi29 rfl) rfl rfl (RE (xa9 (r:=tS [⟨1,false,tE (.int .u8 4)⟩,⟨1,false,tI kn⟩,⟨1,false,tI job⟩,⟨1,false,tI day⟩,⟨1,false,(tE (.int .i64 0))⟩,⟨4,true,(tS [⟨2,true,(tS [⟨1,false,(tE (.bool false))⟩,⟨1,false,(tLm [])⟩])⟩,⟨2,true,(tS [⟨1,false,(tE (.bool false))⟩,⟨1,false,(tLm [])⟩])⟩])⟩,⟨4,true,tFr (fr (kfr n d))⟩,⟨1,false,(tE (.int .i64 0))⟩]) (ts:=[(0,tE (.int .u8 4)),(1,tI kn),(2,tI job),(3,tI day),(6,tFr (fr (kfr n d)))]) bu32 zr32.2 (Bc 0 rfl rfl rfl (Bc 1 rfl rfl rfl (Bc 2 rfl rfl rfl (Bc 3 rfl rfl rfl (Bc 6 rfl rfl rfl Le.refl)))))) ⟨rfl,rfl,rfl,rfl,rfl,trivial⟩ trivial trivial ?_)
 refine A4 ?_
 exact xc3 Plain.mk' rfl ⟨_,_,_,_,_,rfl,rfl,ti32,(Le.of rfl)⟩
theorem c_ePause (kn job day hi:Int):
  Ct Tryz.prog 25 [tI kn,tI job,tI day,tI hi] (tEv (ePause kn job day hi)):=by
 refine Ct.intro Tryz.func25 rfl Tryz.ntmps25 rfl ?_
 intro w F
 refine A2 ?_
 refine RE (xa1 (k:=8) (n:=14) (agg:=true) zr32.1 zr32.2 rfl) trivial trivial ⟨rfl,trivial⟩ ?_
 refine A8 ?_
 refine RE (xa9 (r:=tS [⟨1,false,tE (.int .u8 5)⟩,⟨1,false,tI kn⟩,⟨1,false,tI job⟩,⟨1,false,tI day⟩,⟨1,false,tI hi⟩,⟨4,true,(tS [⟨2,true,(tS [⟨1,false,(tE (.bool false))⟩,⟨1,false,(tLm [])⟩])⟩,⟨2,true,(tS [⟨1,false,(tE (.bool false))⟩,⟨1,false,(tLm [])⟩])⟩])⟩,⟨4,true,(tS [⟨2,true,(tS [⟨1,false,(tE (.bool false))⟩,⟨1,false,(tLm [])⟩])⟩,⟨2,true,(tS [⟨1,false,(tE (.bool false))⟩,⟨1,false,(tLm [])⟩])⟩])⟩,⟨1,false,(tE (.int .i64 0))⟩]) (ts:=[(0,tE (.int .u8 5)),(1,tI kn),(2,tI job),(3,tI day),(4,tI hi)]) bu32 zr32.2 (Bc 0 rfl rfl rfl (Bc 1 rfl rfl rfl (Bc 2 rfl rfl rfl (Bc 3 rfl rfl rfl (Bc 4 rfl rfl rfl Le.refl)))))) ⟨rfl,rfl,rfl,rfl,rfl,trivial⟩ trivial trivial ?_
 refine A4 ?_
 exact xc3 Plain.mk' rfl ⟨_,_,_,_,_,rfl,rfl,ti32,(Le.of rfl)⟩
theorem c_eCredit (kn day n d:Int) (hn: -9223372036854775808≤n∧n≤9223372036854775807) (hd: -9223372036854775808≤d∧d≤9223372036854775807):
  Ct Tryz.prog 12 [tI kn,tI day,tI n,tI d] (tEv (eCredit kn day n d)):=by
 refine Ct.intro Tryz.func12 rfl Tryz.ntmps12 rfl ?_
 intro w F
 refine A2 ?_
 refine RE (xa1 (k:=8) (n:=14) (agg:=true) zr32.1 zr32.2 rfl) trivial trivial ⟨rfl,trivial⟩ ?_
 refine A8 ?_
 refine R2 (x3 (xr9 n d (by omega) (by omega) (by omega) (by omega)) fi29 rfl) rfl rfl (RE (xa9 (r:=tS [⟨1,false,tE (.int .u8 6)⟩,⟨1,false,tI kn⟩,⟨1,false,(tE (.int .i64 0))⟩,⟨1,false,tI day⟩,⟨1,false,(tE (.int .i64 0))⟩,⟨4,true,tFr (fr (kfr n d))⟩,⟨4,true,(tS [⟨2,true,(tS [⟨1,false,(tE (.bool false))⟩,⟨1,false,(tLm [])⟩])⟩,⟨2,true,(tS [⟨1,false,(tE (.bool false))⟩,⟨1,false,(tLm [])⟩])⟩])⟩,⟨1,false,(tE (.int .i64 0))⟩]) (ts:=[(0,tE (.int .u8 6)),(1,tI kn),(3,tI day),(5,tFr (fr (kfr n d)))]) bu32 zr32.2 (Bc 0 rfl rfl rfl (Bc 1 rfl rfl rfl (Bc 3 rfl rfl rfl (Bc 5 rfl rfl rfl Le.refl))))) ⟨rfl,rfl,rfl,rfl,trivial⟩ trivial trivial ?_)
 refine A4 ?_
 exact xc3 Plain.mk' rfl ⟨_,_,_,_,_,rfl,rfl,ti32,(Le.of rfl)⟩
theorem c_eVoid (kn nr:Int):
  Ct Tryz.prog 13 [tI kn,tI nr] (tEv (eVoid kn nr)):=by
 refine Ct.intro Tryz.func13 rfl Tryz.ntmps13 rfl ?_
 intro w F
 refine A2 ?_
 refine RE (xa1 (k:=4) (n:=14) (agg:=true) zr32.1 zr32.2 rfl) trivial trivial ⟨rfl,trivial⟩ ?_
 refine A6 ?_
 refine R3 (xa9 (r:=tS [⟨1,false,tE (.int .u8 7)⟩,⟨1,false,tI kn⟩,⟨1,false,(tE (.int .i64 0))⟩,⟨1,false,(tE (.int .i64 0))⟩,⟨1,false,(tE (.int .i64 0))⟩,⟨4,true,(tS [⟨2,true,(tS [⟨1,false,(tE (.bool false))⟩,⟨1,false,(tLm [])⟩])⟩,⟨2,true,(tS [⟨1,false,(tE (.bool false))⟩,⟨1,false,(tLm [])⟩])⟩])⟩,⟨4,true,(tS [⟨2,true,(tS [⟨1,false,(tE (.bool false))⟩,⟨1,false,(tLm [])⟩])⟩,⟨2,true,(tS [⟨1,false,(tE (.bool false))⟩,⟨1,false,(tLm [])⟩])⟩])⟩,⟨1,false,tI nr⟩]) (ts:=[(0,tE (.int .u8 7)),(1,tI kn),(7,tI nr)]) bu32 zr32.2 (Bc 0 rfl rfl rfl (Bc 1 rfl rfl rfl (Bc 7 rfl rfl rfl Le.refl)))) rfl rfl rfl ?_
 refine A4 ?_
 exact xc3 Plain.mk' rfl ⟨_,_,_,_,_,rfl,rfl,ti32,(Le.of rfl)⟩
def vN (n d:Int):Va:=⟨2,fr (kfr n d),0⟩
def vC (n d:Int):Va:=⟨3,fr (kfr n d),0⟩
theorem xm3 (a b n d:Int) (hn: -9223372036854775808≤n∧n≤9223372036854775807) (hd: -9223372036854775808≤d∧d≤9223372036854775807):
  Ct Tryz.prog 41 [tI a,tI b,tI n,tI d] (tTs ⟨a,b,vN n d⟩):=by
 refine Ct.intro Tryz.func41 rfl Tryz.ntmps41 rfl ?_
 intro w F
 refine A2 ?_
 refine RE (xa1 (k:=8) (n:=8) (agg:=true) zr77.1 zr77.2 rfl) trivial trivial ⟨rfl,trivial⟩ ?_
 refine A8 ?_
 refine R2 (x3 (c_Num n d (by omega) (by omega) (by omega) (by omega)) fi40 rfl) rfl rfl (R3 (xa9 (r:=tS [⟨1,false,tI a⟩,⟨1,false,tI b⟩,⟨6,true,tVa (vN n d)⟩]) (ts:=[(0,tI a),(1,tI b),(2,tVa (vN n d))]) bu77 zr77.2 (Bc 0 rfl rfl rfl (Bc 1 rfl rfl rfl (Bc 2 rfl rfl rfl Le.refl)))) rfl rfl rfl ?_)
 refine A4 ?_
 exact xc3 Plain.mk' rfl ⟨_,_,_,_,_,rfl,rfl,ti77,(Le.of rfl)⟩
theorem c_cash22 (a b n:Int) (hn: -9223372036854775808≤n∧n≤9223372036854775807):
  Ct Tryz.prog 42 [tI a,tI b,tI n] (tTs ⟨a,b,vC n 1⟩):=by
 refine Ct.intro Tryz.func42 rfl Tryz.ntmps42 rfl ?_
 intro w F
 refine A2 ?_
 refine RE (xa1 (k:=6) (n:=8) (agg:=true) zr77.1 zr77.2 rfl) trivial trivial ⟨rfl,trivial⟩ ?_
 refine A7 ?_
 refine R2 (x3 (c_Cash n 1 (by omega) (by omega) (by omega) (by omega)) fi78 rfl) rfl rfl (R3 (xa9 (r:=tS [⟨1,false,tI a⟩,⟨1,false,tI b⟩,⟨6,true,tVa (vC n 1)⟩]) (ts:=[(0,tI a),(1,tI b),(2,tVa (vC n 1))]) bu77 zr77.2 (Bc 0 rfl rfl rfl (Bc 1 rfl rfl rfl (Bc 2 rfl rfl rfl Le.refl)))) rfl rfl rfl ?_)
 refine A4 ?_
 exact xc3 Plain.mk' rfl ⟨_,_,_,_,_,rfl,rfl,ti77,(Le.of rfl)⟩
theorem c_keys22:
  Ct Tryz.prog 14 [] (tL 1 false (fun s:ByteArray=>tSt s) mks):=by
 refine Ct.intro Tryz.func14 rfl Tryz.ntmps14 rfl ?_
 intro w F
 refine A7 ?_
 refine R3 (xb0 (n:=3) (f:=fun s:ByteArray=>tSt s) mks Tryz.underlying35 el9 zf9 rfl (fun _=>inferInstance) rfl rfl rfl) rfl rfl rfl ?_
 refine A4 ?_
 exact x4 Plain.mk' rfl rfl Le.refl
theorem c_day22 (n:Int):
  Ct Tryz.prog 18 [tI n] (tI (n%330 - 5)):=by
 have hm1:=Int.emod_nonneg n (show (330:Int)≠0 by decide)
 have hm2:=Int.emod_lt_of_pos n (show (0:Int) < 330 by decide)
 refine Ct.intro Tryz.func18 rfl Tryz.ntmps18 rfl ?_
 intro w F
 refine A8 ?_
 refine R2 (x3 (c_Pick n 330 (by decide) (by decide)) fi27 rfl) rfl rfl ?_
 refine A5 ?_
 exact x4 Plain.mk' rfl rfl Le.refl
theorem c_SameFact (x y:Fa):
  Ct Tryz.prog 53 [tFa x,tFa y] (tB (decide (x=y))):=by
 refine Ct.intro Tryz.func53 rfl Tryz.ntmps53 rfl ?_
 intro w F
 refine A13 ?_
 refine R2 (d_eqlS) rfl rfl ?_
 refine A1 ?_
 refine RGcaseD (t:=10) rfl (fun h228=> ?_) (fun h228=> ?_)
 ·
  refine A7 ?_
  refine RGcaseD (t:=17) rfl (fun h228_2=> ?_) (fun h228_2=> ?_)
  ·
   refine A7 ?_
   refine RGcaseD (t:=24) rfl (fun h228_3=> ?_) (fun h228_3=> ?_)
   ·
    refine A7 ?_
    refine RGcaseD (t:=31) rfl (fun h228_4=> ?_) (fun h228_4=> ?_)
    ·
     refine A4 ?_
     refine RGon (decide_eq_true h228_4) rfl (d_eqlB Tryz.underlying4) rfl ⟨rfl,rfl,trivial⟩ trivial trivial ?_
     refine A2 ?_
     refine RGcase (t:=38) rfl (fun h228_5=> ?_) (fun h228_5=> ?_)
     ·
      refine A4 ?_
      refine RGon h228_5 rfl (x3 (c_SameValue _ _) fi82 rfl) rfl ⟨rfl,rfl,trivial⟩ trivial trivial ?_
      refine A5 ?_
      exact x4 Plain.mk' rfl rfl (Le.bool (by obtain ⟨a1,a2,a3,a4,a5,a6⟩:=x;obtain ⟨b1,b2,b3,b4,b5,b6⟩:=y;simp only [Fa.mk.injEq] at*;simp_all <;> omega))
     ·
      refine A10 ?_
      exact x4 Plain.mk' rfl rfl (Le.bool (by obtain ⟨a1,a2,a3,a4,a5,a6⟩:=x;obtain ⟨b1,b2,b3,b4,b5,b6⟩:=y;simp only [Fa.mk.injEq] at*;simp_all <;> omega))
    ·
     refine A17 ?_
     exact x4 Plain.mk' rfl rfl (Le.bool (by obtain ⟨a1,a2,a3,a4,a5,a6⟩:=x;obtain ⟨b1,b2,b3,b4,b5,b6⟩:=y;simp only [Fa.mk.injEq] at*;simp_all <;> omega))
   ·
    refine A18 ?_
    refine A6 ?_
    exact x4 Plain.mk' rfl rfl (Le.bool (by obtain ⟨a1,a2,a3,a4,a5,a6⟩:=x;obtain ⟨b1,b2,b3,b4,b5,b6⟩:=y;simp only [Fa.mk.injEq] at*;simp_all <;> omega))
  ·
   refine A18 ?_
   refine A13 ?_
   exact x4 Plain.mk' rfl rfl (Le.bool (by obtain ⟨a1,a2,a3,a4,a5,a6⟩:=x;obtain ⟨b1,b2,b3,b4,b5,b6⟩:=y;simp only [Fa.mk.injEq] at*;simp_all <;> omega))
 ·
  refine A18 ?_
  refine A18 ?_
  refine A2 ?_
  exact x4 Plain.mk' rfl rfl (Le.bool (by obtain ⟨a1,a2,a3,a4,a5,a6⟩:=x;obtain ⟨b1,b2,b3,b4,b5,b6⟩:=y;simp only [Fa.mk.injEq] at*;simp_all <;> omega))
theorem xv2 (l:List Fa) (k:Nat) (hk:k < l.length):l.take (k+1)=l.take k++[l.getD k fa0]:=by
 rw [List.take_succ_eq_append_getElem hk,List.getD_eq_getElem?_getD,List.getElem?_eq_getElem hk];rfl
theorem c_SameFacts (xs ys:List Fa):
  Ct Tryz.prog 20 [tL 11 true tFa xs,tL 11 true tFa ys] (tB (decide (xs=ys))):=by
 refine Ct.intro Tryz.func20 rfl Tryz.ntmps20 rfl ?_
 intro w F
 refine xh5 (s:=0) rfl (fun hl0=> ?_)
 refine A15 ?_
 refine x5 rfl (fun h238=> ?_) (fun h238=> ?_)
 ·
  refine A7 ?_
  exact x4 Plain.mk' rfl rfl (Le.bool (decide_eq_false (fun h=>by rw [h] at h238;omega)).symm)
 ·
  have hll:xs.length=ys.length:=by omega
  refine A9 ?_
  refine cL (fun (i:Nat)=>i≤xs.length∧xs.take i=ys.take i) (fun (i:Nat)=>upd (upd (upd (fun _=>none) 0 (some (.val (tL 11 true tFa xs)))) 1 (some (.val (tL 11 true tFa ys)))) 5 (some (.val (tI i)))) (fun (i:Nat)=>fun _=>none) [] (fun (i:Nat)=>xs.length - i) (0) ⟨Nat.zero_le _,rfl⟩ ?_
  intro i hI
  obtain ⟨hi,ht⟩:=hI
  refine A9 ?_
  refine x5 rfl (fun h241=> ?_) (fun h241=> ?_)
  ·
   refine A8 ?_
   refine R2 (x8 sl46 i (by omega) (gD (d:=fa0) (by omega))) rfl rfl ?_
   refine A3 ?_
   refine R2 (x8 sl46 i (by omega) (gD (d:=fa0) (by omega))) rfl rfl ?_
   refine A1 ?_
   refine R2 (x3 (c_SameFact _ _) fi53 rfl) rfl rfl ?_
   refine A3 ?_
   refine C_ifn rfl (fun h242=> ?_) (fun h242=> ?_)
   ·
    refine A11 ?_
    exact x4 Plain.mk' rfl rfl (Le.bool (decide_eq_false (fun h=>by rw [h] at h242;exact (h242 rfl))).symm)
   ·
    refine A8 ?_
    exact kF (i+1) ⟨⟨by omega,by rw [xv2 xs i (by omega),xv2 ys i (by omega),ht,show xs.getD i fa0=ys.getD i fa0 from h242]⟩,(by omega)⟩
  ·
   refine A11 ?_
   exact x4 Plain.mk' rfl rfl (Le.bool (decide_eq_true (by rw [show i=xs.length by omega,List.take_length,hll,List.take_length] at ht;exact ht)).symm)
theorem c_Built22 (m:List Ne) (hm: ∀n∈m,neOk n):
  Ct Tryz.prog 11 [tL 8 true tNe m] (tL 14 true tEv (btE m)):=by
 refine Ct.intro Tryz.func11 rfl Tryz.ntmps11 rfl ?_
 intro w F
 refine xh5 (s:=0) rfl (fun hl0=> ?_)
 refine A7 ?_
 refine RE (xd3 (k:=3) 32 14 true rfl (fun h=>by cases h)) trivial trivial ⟨rfl,trivial⟩ ?_
 refine A9 ?_
 refine cL (fun (k:Nat)=>k≤m.length∧k≤12) (fun (k:Nat)=>upd (upd (upd (fun _=>none) 0 (some (.val (tL 8 true tNe m)))) 3 (some (.own (.sl 3 14 0 (btK m k).length)))) 4 (some (.val (tI k)))) (fun (k:Nat)=>upd (fun _=>none) 3 (some (⟨32,14,true,rV tEv (btK m k)⟩))) [3] (fun (k:Nat)=>12 - k) (0) ⟨Nat.zero_le _,Nat.zero_le _⟩ (hh:=((SubK.consI rfl ImpK.refl) SubK.nil)) ?_
 intro k hI
 obtain ⟨hk1,hk2⟩:=hI
 have hxl:=btK_len (ns:=m) k hk1
 have hnx:=fun hh=>btK_snoc (ns:=m) (k:=k) hh
 refine A8 ?_
 refine RGcaseD (t:=16) rfl (fun h22=> ?_) (fun h22=> ?_)
 ·
  refine A5 ?_
  refine x5 rfl (fun h22_2=> ?_) (fun h22_2=> ?_)
  ·
   refine A8 ?_
   have hn:=hm (m.getD k ne0) (by rw [List.getD_eq_getElem?_getD,List.getElem?_eq_getElem (by omega)];exact List.getElem_mem (by omega))
   obtain ⟨hn1,hn2,hn3,hn4,hn5,hn6,hn7,hn8⟩:=hn
   refine R2 (x8 sl22 (k) (by omega) (gD (l:=m) (n:=k) (d:=ne0) (by omega))) rfl rfl ?_
   refine A1 ?_
   refine RE (xa1 (k:=5) (n:=8) (agg:=true) zr52.1 zr52.2 rfl) trivial trivial ⟨rfl,trivial⟩ ?_
   refine A7 ?_
   refine R2 (d_remP (by omega) (by omega)) rfl rfl (R1 (x6 Tryz.underlying3 (isS Tryz.underlying5) (wr64 (by omega) (by omega))) rfl (R2 (xg8 (wr64 (by omega) (by omega))) rfl rfl ?_))
   refine A2 ?_
   refine R1 (x6 Tryz.underlying3 (isS Tryz.underlying5) (wr64 (by omega) (by omega))) rfl (R2 (xg8 (wr64 (by omega) (by omega))) rfl rfl ?_)
   refine A2 ?_
   refine R2 (d_remP (by omega) (by omega)) rfl rfl (R1 (x6 Tryz.underlying3 (isS Tryz.underlying5) (wr64 (by omega) (by omega))) rfl ?_)
   refine A12 ?_
   refine R1 (x6 Tryz.underlying3 (isS Tryz.underlying5) (wr64 (by omega) (by omega))) rfl ?_
   refine A8 ?_
   refine R2 (d_remP (by omega) (by omega)) rfl rfl ?_
   refine A11 ?_
   refine x5 rfl (fun h27=> ?_) (fun h27=> ?_)
   ·
    refine A5 ?_
    refine R3 (x3 (c_eLeave _ _ _) fi43 rfl) rfl rfl rfl (R1 (xb0 (n:=1) (f:=tEv) [(eLeave (((m.getD k ne0).kn:Int)%32*10) (1+((m.getD k ne0).jb:Int)%3) (((m.getD k ne0).dy:Int)*3))] Tryz.underlying24 el32 zf32 rfl (fun _=>inferInstance) rfl rfl rfl) rfl (RE (xg0 (k:=3) (k':=72) (f:=tEv) (btK m k) (eLeave (((m.getD k ne0).kn:Int)%32*10) (1+((m.getD k ne0).jb:Int)%3) (((m.getD k ne0).dy:Int)*3)) Tryz.underlying24 el32 zf32 rfl rfl (fun _=>inferInstance) rfl ⟨by omega,by omega⟩ rfl) ⟨rfl,rfl,trivial⟩ ⟨rfl,trivial⟩ ⟨rfl,trivial⟩ ?_))
    refine A10 ?_
    have hb:btE1 (btK m k) (m.getD k ne0)=eLeave (((m.getD k ne0).kn:Int)%32*10) (1+((m.getD k ne0).jb:Int)%3) (((m.getD k ne0).dy:Int)*3):=by rw [btE1,if_pos (by omega),nKn,nJb,nDy];rfl
    exact xb7 (l:=[3]) (fun j=>cond (Nat.beq j 3) 72 (j)) (k+1) ⟨⟨by omega,by omega⟩,(by omega)⟩ (SubR.int rfl (by first | omega | rfl | (dsimp only;omega)) ((SubR.consI rfl (Imp.of (by rw [hnx (by omega),List.length_append];rfl))) (SubR.cons rfl SubR.nil))) ((SubKR.consI rfl (ImpK.of (by rw [hnx (by omega),hb];exact xa2.symm))) SubKR.nil) (SupG.val (SupG.own rfl (SupG.val SupG.nil))) (SupH.cons rfl (supJ x9) SupH.nil) (lkOk rfl) rfl rfl (fun _ h=>by cases h)
   ·
    refine A7 ?_
    refine x5 rfl (fun h29=> ?_) (fun h29=> ?_)
    ·
     refine A8 ?_
     refine R2 (d_remP (by omega) (by omega)) rfl rfl (R1 (x6 Tryz.underlying3 (isS Tryz.underlying5) (wr64 (by omega) (by omega))) rfl (RE (x3 (c_eHours _ _ _ _ _ 8 ⟨by omega,by omega⟩ ⟨by decide,by decide⟩) fi24 rfl) ⟨rfl,rfl,rfl,rfl,rfl,rfl,trivial⟩ trivial trivial (R1 (xb0 (n:=1) (f:=tEv) [(eHours (((m.getD k ne0).kn:Int)%32*10) (1+((m.getD k ne0).jb:Int)%3) (((m.getD k ne0).dy:Int)*3) ((((m.getD k ne0).dy:Int)*3)+1+((m.getD k ne0).ds:Int)) (((m.getD k ne0).pt:Int)%9) 8)] Tryz.underlying24 el32 zf32 rfl (fun _=>inferInstance) rfl rfl rfl) rfl (RE (xg0 (k:=3) (k':=87) (f:=tEv) (btK m k) (eHours (((m.getD k ne0).kn:Int)%32*10) (1+((m.getD k ne0).jb:Int)%3) (((m.getD k ne0).dy:Int)*3) ((((m.getD k ne0).dy:Int)*3)+1+((m.getD k ne0).ds:Int)) (((m.getD k ne0).pt:Int)%9) 8) Tryz.underlying24 el32 zf32 rfl rfl (fun _=>inferInstance) rfl ⟨by omega,by omega⟩ rfl) ⟨rfl,rfl,trivial⟩ ⟨rfl,trivial⟩ ⟨rfl,trivial⟩ ?_))))
     refine A10 ?_
     have hb:btE1 (btK m k) (m.getD k ne0)=eHours (((m.getD k ne0).kn:Int)%32*10) (1+((m.getD k ne0).jb:Int)%3) (((m.getD k ne0).dy:Int)*3) ((((m.getD k ne0).dy:Int)*3)+1+((m.getD k ne0).ds:Int)) (((m.getD k ne0).pt:Int)%9) 8:=by rw [btE1,if_neg (by omega),if_pos (by omega),nKn,nJb,nDy,nTo,nDy];rfl
     exact xb7 (l:=[3]) (fun j=>cond (Nat.beq j 3) 87 (j)) (k+1) ⟨⟨by omega,by omega⟩,(by omega)⟩ (SubR.int rfl (by first | omega | rfl | (dsimp only;omega)) ((SubR.consI rfl (Imp.of (by rw [hnx (by omega),List.length_append];rfl))) (SubR.cons rfl SubR.nil))) ((SubKR.consI rfl (ImpK.of (by rw [hnx (by omega),hb];exact xa2.symm))) SubKR.nil) (SupG.val (SupG.own rfl (SupG.val SupG.nil))) (SupH.cons rfl (supJ x9) SupH.nil) (lkOk rfl) rfl rfl (fun _ h=>by cases h)
    ·
     refine A7 ?_
     refine x5 rfl (fun h31=> ?_) (fun h31=> ?_)
     ·
      refine A7 ?_
      refine R1 (x6 Tryz.underlying3 (isS Tryz.underlying5) (wr64 (by omega) (by omega))) rfl (RE (x3 (c_ePay _ _ _ _ 3 ⟨by omega,by omega⟩ ⟨by decide,by decide⟩) fi44 rfl) ⟨rfl,rfl,rfl,rfl,rfl,trivial⟩ trivial trivial (R1 (xb0 (n:=1) (f:=tEv) [(ePay (((m.getD k ne0).kn:Int)%32*10) (1+((m.getD k ne0).jb:Int)%3) (((m.getD k ne0).dy:Int)*3) ((m.getD k ne0).py:Int) 3)] Tryz.underlying24 el32 zf32 rfl (fun _=>inferInstance) rfl rfl rfl) rfl (RE (xg0 (k:=3) (k':=100) (f:=tEv) (btK m k) (ePay (((m.getD k ne0).kn:Int)%32*10) (1+((m.getD k ne0).jb:Int)%3) (((m.getD k ne0).dy:Int)*3) ((m.getD k ne0).py:Int) 3) Tryz.underlying24 el32 zf32 rfl rfl (fun _=>inferInstance) rfl ⟨by omega,by omega⟩ rfl) ⟨rfl,rfl,trivial⟩ ⟨rfl,trivial⟩ ⟨rfl,trivial⟩ ?_)))
      refine A10 ?_
      have hb:btE1 (btK m k) (m.getD k ne0)=ePay (((m.getD k ne0).kn:Int)%32*10) (1+((m.getD k ne0).jb:Int)%3) (((m.getD k ne0).dy:Int)*3) ((m.getD k ne0).py:Int) 3:=by rw [btE1,if_neg (by omega),if_neg (by omega),if_pos (by omega),nKn,nJb,nDy];rfl
      exact xb7 (l:=[3]) (fun j=>cond (Nat.beq j 3) 100 (j)) (k+1) ⟨⟨by omega,by omega⟩,(by omega)⟩ (SubR.int rfl (by first | omega | rfl | (dsimp only;omega)) ((SubR.consI rfl (Imp.of (by rw [hnx (by omega),List.length_append];rfl))) (SubR.cons rfl SubR.nil))) ((SubKR.consI rfl (ImpK.of (by rw [hnx (by omega),hb];exact xa2.symm))) SubKR.nil) (SupG.val (SupG.own rfl (SupG.val SupG.nil))) (SupH.cons rfl (supJ x9) SupH.nil) (lkOk rfl) rfl rfl (fun _ h=>by cases h)
     ·
      refine A7 ?_
      refine x5 rfl (fun h33=> ?_) (fun h33=> ?_)
      ·
       refine A6 ?_
       refine RE (x3 (c_ePause _ _ _ _) fi25 rfl) ⟨rfl,rfl,rfl,rfl,trivial⟩ trivial trivial (R1 (xb0 (n:=1) (f:=tEv) [(ePause (((m.getD k ne0).kn:Int)%32*10) (1+((m.getD k ne0).jb:Int)%3) (((m.getD k ne0).dy:Int)*3) ((((m.getD k ne0).dy:Int)*3)+1+((m.getD k ne0).ds:Int)))] Tryz.underlying24 el32 zf32 rfl (fun _=>inferInstance) rfl rfl rfl) rfl (RE (xg0 (k:=3) (k':=111) (f:=tEv) (btK m k) (ePause (((m.getD k ne0).kn:Int)%32*10) (1+((m.getD k ne0).jb:Int)%3) (((m.getD k ne0).dy:Int)*3) ((((m.getD k ne0).dy:Int)*3)+1+((m.getD k ne0).ds:Int))) Tryz.underlying24 el32 zf32 rfl rfl (fun _=>inferInstance) rfl ⟨by omega,by omega⟩ rfl) ⟨rfl,rfl,trivial⟩ ⟨rfl,trivial⟩ ⟨rfl,trivial⟩ ?_))
       refine A10 ?_
       have hb:btE1 (btK m k) (m.getD k ne0)=ePause (((m.getD k ne0).kn:Int)%32*10) (1+((m.getD k ne0).jb:Int)%3) (((m.getD k ne0).dy:Int)*3) ((((m.getD k ne0).dy:Int)*3)+1+((m.getD k ne0).ds:Int)):=by rw [btE1,if_neg (by omega),if_neg (by omega),if_neg (by omega),if_pos (by omega),nKn,nJb,nDy,nTo,nDy];rfl
       exact xb7 (l:=[3]) (fun j=>cond (Nat.beq j 3) 111 (j)) (k+1) ⟨⟨by omega,by omega⟩,(by omega)⟩ (SubR.int rfl (by first | omega | rfl | (dsimp only;omega)) ((SubR.consI rfl (Imp.of (by rw [hnx (by omega),List.length_append];rfl))) (SubR.cons rfl SubR.nil))) ((SubKR.consI rfl (ImpK.of (by rw [hnx (by omega),hb];exact xa2.symm))) SubKR.nil) (SupG.val (SupG.own rfl (SupG.val SupG.nil))) (SupH.cons rfl (supJ x9) SupH.nil) (lkOk rfl) rfl rfl (fun _ h=>by cases h)
      ·
       refine A7 ?_
       refine x5 rfl (fun h35=> ?_) (fun h35=> ?_)
       ·
        refine A6 ?_
        refine R1 (x6 Tryz.underlying3 (isS Tryz.underlying5) (wr64 (by omega) (by omega))) rfl (RE (x3 (c_eCredit _ _ _ 8 ⟨by omega,by omega⟩ ⟨by decide,by decide⟩) fi12 rfl) ⟨rfl,rfl,rfl,rfl,trivial⟩ trivial trivial (R1 (xb0 (n:=1) (f:=tEv) [(eCredit (((m.getD k ne0).kn:Int)%32*10) (((m.getD k ne0).dy:Int)*3) ((m.getD k ne0).pt:Int) 8)] Tryz.underlying24 el32 zf32 rfl (fun _=>inferInstance) rfl rfl rfl) rfl (RE (xg0 (k:=3) (k':=123) (f:=tEv) (btK m k) (eCredit (((m.getD k ne0).kn:Int)%32*10) (((m.getD k ne0).dy:Int)*3) ((m.getD k ne0).pt:Int) 8) Tryz.underlying24 el32 zf32 rfl rfl (fun _=>inferInstance) rfl ⟨by omega,by omega⟩ rfl) ⟨rfl,rfl,trivial⟩ ⟨rfl,trivial⟩ ⟨rfl,trivial⟩ ?_)))
        refine A10 ?_
        have hb:btE1 (btK m k) (m.getD k ne0)=eCredit (((m.getD k ne0).kn:Int)%32*10) (((m.getD k ne0).dy:Int)*3) ((m.getD k ne0).pt:Int) 8:=by rw [btE1,if_neg (by omega),if_neg (by omega),if_neg (by omega),if_neg (by omega),if_pos (by omega),nKn,nDy];rfl
        exact xb7 (l:=[3]) (fun j=>cond (Nat.beq j 3) 123 (j)) (k+1) ⟨⟨by omega,by omega⟩,(by omega)⟩ (SubR.int rfl (by first | omega | rfl | (dsimp only;omega)) ((SubR.consI rfl (Imp.of (by rw [hnx (by omega),List.length_append];rfl))) (SubR.cons rfl SubR.nil))) ((SubKR.consI rfl (ImpK.of (by rw [hnx (by omega),hb];exact xa2.symm))) SubKR.nil) (SupG.val (SupG.own rfl (SupG.val SupG.nil))) (SupH.cons rfl (supJ x9) SupH.nil) (lkOk rfl) rfl rfl (fun _ h=>by cases h)
       ·
        refine A5 ?_
        refine RGcaseD (t:=127) rfl (fun h37=> ?_) (fun h37=> ?_)
        ·
         refine A6 ?_
         refine x5 rfl (fun h37_2=> ?_) (fun h37_2=> ?_)
         ·
          refine A3 ?_
          refine xh3 (0) ti5 rfl rfl rfl (At.g 7 rfl rfl) rfl (R1 (x6 Tryz.underlying3 (isS Tryz.underlying5) (wr64 (by omega) (by omega))) rfl ?_)
          refine A1 ?_
          refine R2 (d_remP (by omega) (by omega)) rfl rfl ?_
          refine A3 ?_
          have hzc:(((m.getD k ne0).nr%k:Nat):Int)=((m.getD k ne0).nr:Int)%(k:Int):=Int.natCast_emod _ _
          rw [←hzc]
          obtain ⟨z,hze⟩: ∃z,z=(m.getD k ne0).nr%k:=⟨_,rfl⟩
          have hzl:z < k:=by rw [hze];exact Nat.mod_lt _ (by omega)
          rw [←hze]
          refine A5 ?_
          refine R2 (x7 sl24 (by omega) (by omega) rfl) rfl rfl ?_
          refine A1 ?_
          refine RE (xh9 (es:=14) (o:=1) z ti3 (xa8 (d:=ev0) (by rw [hxl];omega)) (At.g 1 rfl rfl) (by omega)) ⟨rfl,trivial⟩ ⟨rfl,trivial⟩ trivial (R2 d_max2 rfl rfl ?_)
          refine A2 ?_
          refine R2 (x3 (c_eVoid _ _) fi13 rfl) rfl rfl (R1 (xb0 (n:=1) (f:=tEv) [(eVoid (max (((m.getD k ne0).kn:Int)%32*10) ((btK m k).getD z ev0).kn) ((z:Int)+1))] Tryz.underlying24 el32 zf32 rfl (fun _=>inferInstance) rfl rfl rfl) rfl (RE (xg0 (k:=3) (k':=148) (f:=tEv) (btK m k) (eVoid (max (((m.getD k ne0).kn:Int)%32*10) ((btK m k).getD z ev0).kn) ((z:Int)+1)) Tryz.underlying24 el32 zf32 rfl rfl (fun _=>inferInstance) rfl ⟨by omega,by omega⟩ rfl) ⟨rfl,rfl,trivial⟩ ⟨rfl,trivial⟩ ⟨rfl,trivial⟩ ?_))
          refine A10 ?_
          have hb:btE1 (btK m k) (m.getD k ne0)=eVoid (max (((m.getD k ne0).kn:Int)%32*10) ((btK m k).getD z ev0).kn) ((z:Int)+1):=by rw [btE1,if_neg (by omega),if_neg (by omega),if_neg (by omega),if_neg (by omega),if_neg (by omega),if_pos ⟨by omega,by omega⟩,hxl,←hze,nKn];rfl
          exact xb7 (l:=[3]) (fun j=>cond (Nat.beq j 3) 148 (j)) (k+1) ⟨⟨by omega,by omega⟩,(by omega)⟩ (SubR.int rfl (by first | omega | rfl | (dsimp only;omega)) ((SubR.consI rfl (Imp.of (by rw [hnx (by omega),List.length_append];rfl))) (SubR.cons rfl SubR.nil))) ((SubKR.consI rfl (ImpK.of (by rw [hnx (by omega),hb];exact xa2.symm))) SubKR.nil) (SupG.val (SupG.own rfl (SupG.val SupG.nil))) (SupH.cons rfl (supJ x9) SupH.nil) (lkOk rfl) rfl rfl (fun _ h=>by cases h)
         ·
          refine A7 ?_
          refine R2 (d_remP (by omega) (by omega)) rfl rfl (R1 (x6 Tryz.underlying3 (isS Tryz.underlying5) (wr64 (by omega) (by omega))) rfl ?_)
          refine A2 ?_
          refine R1 (x6 Tryz.underlying3 (isS Tryz.underlying5) (wr64 (by omega) (by omega))) rfl (RE (x3 (c_eHire _ _ _ _ 8 _ ⟨by omega,by omega⟩ ⟨by decide,by decide⟩ ⟨by omega,by omega⟩) fi23 rfl) ⟨rfl,rfl,rfl,rfl,rfl,rfl,trivial⟩ trivial trivial (R1 (xb0 (n:=1) (f:=tEv) [(eHire (((m.getD k ne0).kn:Int)%32*10) (1+((m.getD k ne0).jb:Int)%3) (((m.getD k ne0).dy:Int)*3) (((m.getD k ne0).pt:Int)%9) 8 ((m.getD k ne0).py:Int))] Tryz.underlying24 el32 zf32 rfl (fun _=>inferInstance) rfl rfl rfl) rfl (RE (xg0 (k:=3) (k':=62) (f:=tEv) (btK m k) (eHire (((m.getD k ne0).kn:Int)%32*10) (1+((m.getD k ne0).jb:Int)%3) (((m.getD k ne0).dy:Int)*3) (((m.getD k ne0).pt:Int)%9) 8 ((m.getD k ne0).py:Int)) Tryz.underlying24 el32 zf32 rfl rfl (fun _=>inferInstance) rfl ⟨by omega,by omega⟩ rfl) ⟨rfl,rfl,trivial⟩ ⟨rfl,trivial⟩ ⟨rfl,trivial⟩ ?_)))
          refine A10 ?_
          have hb:btE1 (btK m k) (m.getD k ne0)=eHire (((m.getD k ne0).kn:Int)%32*10) (1+((m.getD k ne0).jb:Int)%3) (((m.getD k ne0).dy:Int)*3) (((m.getD k ne0).pt:Int)%9) 8 ((m.getD k ne0).py:Int):=by rw [btE1,if_neg (by omega),if_neg (by omega),if_neg (by omega),if_neg (by omega),if_neg (by omega),if_neg (by omega),nKn,nJb,nDy];rfl
          exact xb7 (l:=[3]) (fun j=>cond (Nat.beq j 3) 62 (j)) (k+1) ⟨⟨by omega,by omega⟩,(by omega)⟩ (SubR.int rfl (by first | omega | rfl | (dsimp only;omega)) ((SubR.consI rfl (Imp.of (by rw [hnx (by omega),List.length_append];rfl))) (SubR.cons rfl SubR.nil))) ((SubKR.consI rfl (ImpK.of (by rw [hnx (by omega),hb];exact xa2.symm))) SubKR.nil) (SupG.val (SupG.own rfl (SupG.val SupG.nil))) (SupH.cons rfl (supJ x9) SupH.nil) (lkOk rfl) rfl rfl (fun _ h=>by cases h)
        ·
         refine A14 ?_
         refine R2 (d_remP (by omega) (by omega)) rfl rfl (R1 (x6 Tryz.underlying3 (isS Tryz.underlying5) (wr64 (by omega) (by omega))) rfl ?_)
         refine A2 ?_
         refine R1 (x6 Tryz.underlying3 (isS Tryz.underlying5) (wr64 (by omega) (by omega))) rfl (RE (x3 (c_eHire _ _ _ _ 8 _ ⟨by omega,by omega⟩ ⟨by decide,by decide⟩ ⟨by omega,by omega⟩) fi23 rfl) ⟨rfl,rfl,rfl,rfl,rfl,rfl,trivial⟩ trivial trivial (R1 (xb0 (n:=1) (f:=tEv) [(eHire (((m.getD k ne0).kn:Int)%32*10) (1+((m.getD k ne0).jb:Int)%3) (((m.getD k ne0).dy:Int)*3) (((m.getD k ne0).pt:Int)%9) 8 ((m.getD k ne0).py:Int))] Tryz.underlying24 el32 zf32 rfl (fun _=>inferInstance) rfl rfl rfl) rfl (RE (xg0 (k:=3) (k':=62) (f:=tEv) (btK m k) (eHire (((m.getD k ne0).kn:Int)%32*10) (1+((m.getD k ne0).jb:Int)%3) (((m.getD k ne0).dy:Int)*3) (((m.getD k ne0).pt:Int)%9) 8 ((m.getD k ne0).py:Int)) Tryz.underlying24 el32 zf32 rfl rfl (fun _=>inferInstance) rfl ⟨by omega,by omega⟩ rfl) ⟨rfl,rfl,trivial⟩ ⟨rfl,trivial⟩ ⟨rfl,trivial⟩ ?_)))
         refine A10 ?_
         have hb:btE1 (btK m k) (m.getD k ne0)=eHire (((m.getD k ne0).kn:Int)%32*10) (1+((m.getD k ne0).jb:Int)%3) (((m.getD k ne0).dy:Int)*3) (((m.getD k ne0).pt:Int)%9) 8 ((m.getD k ne0).py:Int):=by rw [btE1,if_neg (by omega),if_neg (by omega),if_neg (by omega),if_neg (by omega),if_neg (by omega),if_neg (by omega),nKn,nJb,nDy];rfl
         exact xb7 (l:=[3]) (fun j=>cond (Nat.beq j 3) 62 (j)) (k+1) ⟨⟨by omega,by omega⟩,(by omega)⟩ (SubR.int rfl (by first | omega | rfl | (dsimp only;omega)) ((SubR.consI rfl (Imp.of (by rw [hnx (by omega),List.length_append];rfl))) (SubR.cons rfl SubR.nil))) ((SubKR.consI rfl (ImpK.of (by rw [hnx (by omega),hb];exact xa2.symm))) SubKR.nil) (SupG.val (SupG.own rfl (SupG.val SupG.nil))) (SupH.cons rfl (supJ x9) SupH.nil) (lkOk rfl) rfl rfl (fun _ h=>by cases h)
  ·
   refine A6 ?_
   refine C_give (t:=3) (k:=3) (f:=tEv) (xs:=(btK m k)) rfl rfl (fun _ h=>h) (xf4 rfl) rfl ?_
   refine A6 ?_
   exact x4 Plain.mk' rfl rfl (Le.of (by rw [btK_end hk1 hk2 (by omega)]))
 ·
  refine A12 ?_
  refine C_give (t:=3) (k:=3) (f:=tEv) (xs:=(btK m k)) rfl rfl (fun _ h=>h) (xf4 rfl) rfl ?_
  refine A6 ?_
  exact x4 Plain.mk' rfl rfl (Le.of (by rw [btK_end hk1 hk2 (by omega)]))
end An.S
namespace An.S
open Go Go.Proofs An
open Go.ChangeShapes Go.WideShapes Go.ChangeAt Go.RowKit
theorem own:ownKnob Tryz.prog.godebug=none:=by kernel_rfl
theorem laidOut:laidOutB Tryz.prog=true:=by kernel_rfl
theorem oInt:Opn Tryz.prog 3 1 false (fun n:Int=>tI n) (fun n=>IntKind.i64.min≤n∧n≤IntKind.i64.max):=Opn.int Tryz.underlying3 (by kernel_rfl)
theorem oU8:Opn Tryz.prog 5 1 false (fun n:Nat=>tE (.int .u8 n)) (fun n=>n < 256):=Opn.nat Tryz.underlying5 (by kernel_rfl) rfl rfl
theorem oNe:Opn Tryz.prog 52 8 true (fun x:Ne=>tNe x) neOk:=
 (Opn.struct Tryz.underlying52 (by kernel_rfl) (by decide) (OpnF.cons oU8 rfl rfl (OpnF.cons oU8 rfl rfl (OpnF.cons oU8 rfl rfl (OpnF.cons oU8 rfl rfl (OpnF.cons oU8 rfl rfl (OpnF.cons oU8 rfl rfl (OpnF.cons oU8 rfl rfl (OpnF.cons oU8 rfl rfl OpnF.nil rfl) rfl) rfl) rfl) rfl) rfl) rfl) rfl)).as (fun x=>⟨x.1,x.2.1,x.2.2.1,x.2.2.2.1,x.2.2.2.2.1,x.2.2.2.2.2.1,x.2.2.2.2.2.2.1,x.2.2.2.2.2.2.2.1⟩) (fun _=>rfl) (fun _ h=>⟨h.1,h.2.1,h.2.2.1,h.2.2.2.1,h.2.2.2.2.1,h.2.2.2.2.2.1,h.2.2.2.2.2.2.1,h.2.2.2.2.2.2.2.1⟩)
theorem oNotes:Opn Tryz.prog 22 1 false (fun l:List Ne=>tL 8 true tNe l) (fun l=> ∀n∈l,neOk n):=(Opn.slice Tryz.underlying22 (by kernel_rfl) oNe).as id (fun _=>rfl) (fun _ h=>h)
theorem walked {f:FuncId} {ts:List Ty} (h:Ct Tryz.prog f ts (tB true)) {vs:List Value} {W:World} (ha:Tup.all (Old W) W ts vs):Calls Tryz.prog f vs.toArray W fun e W'=>e= .returned (.bool true)∧Ext W W':=
 (h (Old W) W vs ha).mono fun e W' ⟨v,h1,h2,h3⟩=>by
  have h3:v= .bool true:=h3
  subst h3;exact ⟨h1,h2⟩
end An.S
namespace An.S
open Go Go.Proofs An
instance fi15:FnI Tryz.prog 15:=⟨_,Tryz.func15,by kernel_rfl,rfl⟩
instance fi16:FnI Tryz.prog 16:=⟨_,Tryz.func16,by kernel_rfl,rfl⟩
instance fi17:FnI Tryz.prog 17:=⟨_,Tryz.func17,by kernel_rfl,rfl⟩
instance fi19:FnI Tryz.prog 19:=⟨_,Tryz.func19,by kernel_rfl,rfl⟩
instance fi20:FnI Tryz.prog 20:=⟨_,Tryz.func20,by kernel_rfl,rfl⟩
instance fi38:FnI Tryz.prog 38:=⟨_,Tryz.func38,by kernel_rfl,rfl⟩
instance fi39:FnI Tryz.prog 39:=⟨_,Tryz.func39,by kernel_rfl,rfl⟩
instance fi41:FnI Tryz.prog 41:=⟨_,Tryz.func41,by kernel_rfl,rfl⟩
instance fi42:FnI Tryz.prog 42:=⟨_,Tryz.func42,by kernel_rfl,rfl⟩
theorem xq5 (u v:List Tst) (e:u=v):Ct Tryz.prog 16 [tL 8 true tTs u,tL 8 true tTs v] (tB true):=by
 have h:=c_SameSteps u v
 rw [decide_eq_true e] at h;exact h
theorem c_sameIv (u v:List Int) (e:u=v):Ct Tryz.prog 39 [tL 1 false tI u,tL 1 false tI v] (tB true):=by
 have h:=c_SameInts u v
 rw [decide_eq_true e] at h;exact h
theorem c_sameFa (u v:List Fa) (e:u=v):Ct Tryz.prog 20 [tL 11 true tFa u,tL 11 true tFa v] (tB true):=by
 have h:=c_SameFacts u v
 rw [decide_eq_true e] at h;exact h
def exE:List Ev:=[eHire 100 1 100 1 1 50,eHours 250 1 200 300 1 2,ePause 300 1 220 230,eVoid 400 2,eLeave 500 1 500]
theorem exE_ok:GR 2 100 exE where
 len:=by decide
 ok:=fun i hi=>xd4.1 (by
  have key: ∀i:Fin 5,eRight exE i.val=true:=by decide+kernel
  exact key ⟨i,hi⟩)
 fr:=fun e he=>by
  have f1:frB 2 100 (fr (kfr 1 1)):=⟨2,by decide,by decide+kernel⟩
  have f2:frB 2 100 (fr (kfr 50 1)):=⟨100,by decide,by decide+kernel⟩
  have f3:frB 2 100 (fr (kfr 1 2)):=⟨1,by decide,by decide+kernel⟩
  simp only [exE,List.mem_cons,List.not_mem_nil,or_false] at he
  rcases he with rfl | rfl | rfl | rfl | rfl
  ·exact ⟨fun _=>f1,fun _=>f2⟩
  ·exact ⟨fun _=>f3,fun h=>by cases h⟩
  ·exact ⟨fun h=>(by cases h),fun h=>by cases h⟩
  ·exact ⟨fun h=>(by cases h),fun h=>by cases h⟩
  ·exact ⟨fun h=>(by cases h),fun h=>by cases h⟩
 d0:=by decide
 d1:=by decide
 b0:=by decide
 b1:=by decide
theorem xg3 {xs l:List Int} (h:l.Pairwise (· < ·)) (h1: ∀x∈l,x∈xs) (h2: ∀x∈xs,x∈l):brd xs=l:=pw_ext (xf2 xs).1 h fun x=>((xf2 xs).2 x).trans ⟨h2 x,h1 x⟩
theorem mT_ev {K:Nat} {F:List Ev} {ds:List Int} {t:List Tst} (h:kD K F=ds) (e:pst [] (segL (kG K F) (ds++[65536]))=t):mT K F=t:=by rw [mT,h,e]
def exA:List Ev:=[eHire 100 1 100 1 1 50]
def exB:List Ev:=[eHire 100 1 100 1 1 50,eHours 250 1 200 300 1 2]
def exC:List Ev:=[eHire 100 1 100 1 1 50,eHours 250 1 200 300 1 2,ePause 300 1 220 230]
def exD:List Ev:=[eHire 100 1 100 1 1 50,ePause 300 1 220 230,eVoid 400 2]
def exG:List Ev:=[eHire 100 1 100 1 1 50,ePause 300 1 220 230,eVoid 400 2,eLeave 500 1 500]
theorem exI:inf exE 249=exA∧inf exE 250=exB∧inf exE 300=exC∧inf exE 400=exD∧inf exE 500=exG:=by decide+kernel
def t249:List Tst:=[⟨100,65536,vN 1 1⟩]
def t250:List Tst:=[⟨100,200,vN 1 1⟩,⟨200,300,vN 1 2⟩,⟨300,65536,vN 1 1⟩]
def t300:List Tst:=[⟨100,200,vN 1 1⟩,⟨200,220,vN 1 2⟩,⟨220,230,vN 0 1⟩,⟨230,300,vN 1 2⟩,⟨300,65536,vN 1 1⟩]
def t400:List Tst:=[⟨100,220,vN 1 1⟩,⟨220,230,vN 0 1⟩,⟨230,65536,vN 1 1⟩]
def t500:List Tst:=[⟨100,220,vN 1 1⟩,⟨220,230,vN 0 1⟩,⟨230,500,vN 1 1⟩]
def p300:List Tst:=[⟨100,220,vC 50 1⟩,⟨220,230,vC 0 1⟩,⟨230,65536,vC 50 1⟩]
def p500:List Tst:=[⟨100,220,vC 50 1⟩,⟨220,230,vC 0 1⟩,⟨230,500,vC 50 1⟩]
theorem exT1:mT 1 (inf exE 249)=t249:=by
 rw [exI.1];exact mT_ev (ds:=[100]) (xg3 (by decide) (by decide+kernel) (by decide+kernel)) (by decide+kernel)
theorem exT2:mT 1 (inf exE 250)=t250:=by
 rw [exI.2.1];exact mT_ev (ds:=[100,200,300]) (xg3 (by decide) (by decide+kernel) (by decide+kernel)) (by decide+kernel)
theorem exT3:mT 1 (inf exE 300)=t300:=by
 rw [exI.2.2.1];exact mT_ev (ds:=[100,200,220,230,300]) (xg3 (by decide) (by decide+kernel) (by decide+kernel)) (by decide+kernel)
theorem exT4:mT 1 (inf exE 400)=t400:=by
 rw [exI.2.2.2.1];exact mT_ev (ds:=[100,220,230]) (xg3 (by decide) (by decide+kernel) (by decide+kernel)) (by decide+kernel)
theorem exT5:mT 1 (inf exE 500)=t500:=by
 rw [exI.2.2.2.2];exact mT_ev (ds:=[100,220,230,500]) (xg3 (by decide) (by decide+kernel) (by decide+kernel)) (by decide+kernel)
theorem exP3:mT 2 (inf exE 300)=p300:=by
 rw [exI.2.2.1];exact mT_ev (ds:=[100,200,220,230,300]) (xg3 (by decide) (by decide+kernel) (by decide+kernel)) (by decide+kernel)
theorem exP4:mT 2 (inf exE 400)=p300:=by
 rw [exI.2.2.2.1];exact mT_ev (ds:=[100,220,230]) (xg3 (by decide) (by decide+kernel) (by decide+kernel)) (by decide+kernel)
theorem exP5:mT 2 (inf exE 500)=p500:=by
 rw [exI.2.2.2.2];exact mT_ev (ds:=[100,220,230,500]) (xg3 (by decide) (by decide+kernel) (by decide+kernel)) (by decide+kernel)
theorem exC0:mT 0 (inf exE 300)=[]∧mT 0 (inf exE 400)=[]∧mT 0 (inf exE 500)=[]:=by
 rw [exI.2.2.1,exI.2.2.2.1,exI.2.2.2.2]
 exact ⟨mT_ev (ds:=[]) (xg3 (by decide) (by decide+kernel) (by decide+kernel)) (by decide+kernel),mT_ev (ds:=[]) (xg3 (by decide) (by decide+kernel) (by decide+kernel)) (by decide+kernel),mT_ev (ds:=[]) (xg3 (by decide) (by decide+kernel) (by decide+kernel)) (by decide+kernel)⟩
theorem df_ev {a b:List Tst} {ds:List Int} {S:List Sn} (ha:tRight a=true) (hb:tRight b=true) (hd:bds [a,b]=ds) (e:mrg (cvS (segL (gdf a b) ds))=S):dfS a b=S:=by rw [dfS,mkS_asc (dfT_asc ha hb),dfT_map,hd,e]
theorem exD1:dfS t300 t400=[⟨200,220⟩,⟨230,300⟩]:=df_ev (ds:=[100,200,220,230,300,65536]) (by decide+kernel) (by decide+kernel) (xg3 (by decide) (by decide+kernel) (by decide+kernel)) (by decide+kernel)
theorem exD2:dfS t400 t500=[⟨500,65536⟩]:=df_ev (ds:=[100,220,230,500,65536]) (by decide+kernel) (by decide+kernel) (xg3 (by decide) (by decide+kernel) (by decide+kernel)) (by decide+kernel)
theorem exD3:dfS p300 p300=[]:=df_ev (ds:=[100,220,230,65536]) (by decide+kernel) (by decide+kernel) (xg3 (by decide) (by decide+kernel) (by decide+kernel)) (by decide+kernel)
theorem exD4:dfS p300 p500=[⟨500,65536⟩]:=df_ev (ds:=[100,220,230,500,65536]) (by decide+kernel) (by decide+kernel) (xg3 (by decide) (by decide+kernel) (by decide+kernel)) (by decide+kernel)
theorem exD0:dfS ([]:List Tst) []=[]:=df_ev (ds:=[]) (by decide+kernel) (by decide+kernel) (xg3 (by decide) (by decide+kernel) (by decide+kernel)) (by decide+kernel)
theorem exK:knL exE=[100,250,300,400,500]:=xg3 (by decide) (by decide+kernel) (by decide+kernel)
def exW:List Fa:=[⟨mKey 1,200,220,400,false,vN 1 1⟩,⟨mKey 1,230,300,400,false,vN 1 1⟩,⟨mKey 1,500,65536,500,true,An.va0⟩,⟨mKey 2,500,65536,500,true,An.va0⟩]
def ks5:List Int:=[100,250,300,400,500]
theorem fcJ_ev {l:List Ev} {j K:Nat} {kn kb:Int} {now bef:List Tst} {S:List Sn} (hj:0 < j) (h1:ks5.getD j 0=kn) (h0:ks5.getD (j - 1) 0=kb) (h2:mT K (inf l kn)=now) (h3:mT K (inf l kb)=bef) (h4:dfS bef now=S):fcJ l ks5 j K=nwD now (mKey K) kn S:=by
 rw [fcJ,befT,if_neg (by omega),h1,h0,h2,h3,h4]
theorem nwD_nil {now:List Tst} {key:ByteArray} {kn:Int}:nwD now key kn []=[]:=List.flatMap_nil
theorem exFc:(fctL exE).filter (fun f=>decide (400≤f.kn))=exW:=by
 have e0:fctL exE=fcts exE ks5 5:=by rw [fctL,exK];rfl
 have e1:fcts exE ks5 5=fcts exE ks5 3++fcK exE ks5 3 3++fcK exE ks5 4 3:=by rw [xj2,xj2]
 have e2:(fcts exE ks5 3).filter (fun f=>decide (400≤f.kn))=[]:=List.filter_eq_nil_iff.2 fun f hf hh=>by
  obtain ⟨j,hj,K,hK,hf⟩:=fcts_mem.1 hf
  have h1:=((exE_ok.fcJ ks5 j K).1 f hf).2.1
  have h2: ∀j:Fin 3,ks5.getD j.val 0≤300:=by decide
  have h3:=h2 ⟨j,hj⟩
  have h4:=of_decide_eq_true hh
  simp only at h3
  omega
 have f30:fcJ exE ks5 3 0=[]:=(fcJ_ev (l:=exE) (j:=3) (K:=0) (kn:=400) (kb:=300) (now:=[]) (bef:=[]) (S:=[]) (by decide) rfl rfl exC0.2.1 exC0.1 exD0).trans nwD_nil
 have f31:=fcJ_ev (l:=exE) (j:=3) (K:=1) (kn:=400) (kb:=300) (now:=t400) (bef:=t300) (S:=[⟨200,220⟩,⟨230,300⟩]) (by decide) rfl rfl exT4 exT3 exD1
 have f32:fcJ exE ks5 3 2=[]:=(fcJ_ev (l:=exE) (j:=3) (K:=2) (kn:=400) (kb:=300) (now:=p300) (bef:=p300) (S:=[]) (by decide) rfl rfl exP4 exP3 exD3).trans nwD_nil
 have f40:fcJ exE ks5 4 0=[]:=(fcJ_ev (l:=exE) (j:=4) (K:=0) (kn:=500) (kb:=400) (now:=[]) (bef:=[]) (S:=[]) (by decide) rfl rfl exC0.2.2 exC0.2.1 exD0).trans nwD_nil
 have f41:=fcJ_ev (l:=exE) (j:=4) (K:=1) (kn:=500) (kb:=400) (now:=t500) (bef:=t400) (S:=[⟨500,65536⟩]) (by decide) rfl rfl exT5 exT4 exD2
 have f42:=fcJ_ev (l:=exE) (j:=4) (K:=2) (kn:=500) (kb:=400) (now:=p500) (bef:=p300) (S:=[⟨500,65536⟩]) (by decide) rfl rfl exP5 exP4 exD4
 have e3: ∀j,fcK exE ks5 j 3=fcJ exE ks5 j 0++fcJ exE ks5 j 1++fcJ exE ks5 j 2:=fun j=>by rw [xj7,xj7,xj7];rfl
 rw [e0,e1,List.filter_append,List.filter_append,e2,e3 3,e3 4,f30,f31,f32,f40,f41,f42]
 decide+kernel
theorem exIn:infN exE 400=[1,3,4]:=by decide+kernel
theorem c_exT (K:Nat) (hK:K < 3) (kn:Int) (t:List Tst) (e:mT K (inf exE kn)=t):Ct Tryz.prog 15 [tL 14 true tEv exE,tSt (mKey K),tI kn] (tT [tL 8 true tTs t,tI 0]):=by
 rw [←e];exact c_TimelineK exE kn exE_ok K hK
theorem c_InForceG {D B:Int} {l:List Ev} (h:GR D B l) (kn:Int):Ct Tryz.prog 17 [tL 14 true tEv l,tI kn] (tL 1 false tI (infN l kn)):=by
 have h1:=c_InForce l kn (gr_dig h)
 rw [if_pos (gr_val h)] at h1;exact h1
theorem c_exI:Ct Tryz.prog 17 [tL 14 true tEv exE,tI 400] (tL 1 false tI [1,3,4]):=by
 rw [←exIn];exact c_InForceG exE_ok 400
theorem c_FactsG {D B:Int} {l:List Ev} (h:GR D B l) (hl:l.length≤16):Ct Tryz.prog 19 [tL 14 true tEv l] (tT [tL 11 true tFa (fctL l),tI 0]):=c_Facts l h (h.rcd hl).1
theorem flt4_next {fs:List Fa} {i:Nat} (hi:i < fs.length):(fs.take (i+1)).filter (fun f=>decide (400≤f.kn))=(fs.take i).filter (fun f=>decide (400≤f.kn))++if 400≤(fs.getD i fa0).kn then [fs.getD i fa0] else []:=by
 rw [List.take_succ_eq_append_getElem hi,List.filter_append,List.getD_eq_getElem?_getD,List.getElem?_eq_getElem hi,List.filter_cons,List.filter_nil]
 simp only [Option.getD_some,decide_eq_true_eq]
theorem c_example22:
  Ct Tryz.prog 38 [] (tL 14 true tEv exE):=by
 refine Ct.intro Tryz.func38 rfl Tryz.ntmps38 rfl ?_
 intro w F
 refine A7 ?_
 refine RE (x3 (c_eHire 100 1 100 1 1 50 (by decide) (by decide) (by decide)) fi23 rfl) ⟨rfl,rfl,rfl,rfl,rfl,rfl,trivial⟩ trivial trivial (RE (x3 (c_eHours 250 1 200 300 1 2 (by decide) (by decide)) fi24 rfl) ⟨rfl,rfl,rfl,rfl,rfl,rfl,trivial⟩ trivial trivial (RE (x3 (c_ePause 300 1 220 230) fi25 rfl) ⟨rfl,rfl,rfl,rfl,trivial⟩ trivial trivial (R2 (x3 (c_eVoid 400 2) fi13 rfl) rfl rfl (R3 (x3 (c_eLeave 500 1 500) fi43 rfl) rfl rfl rfl (RE (xb0 (n:=5) (f:=tEv) exE Tryz.underlying24 el32 zf32 rfl (fun _=>inferInstance) rfl rfl rfl) ⟨rfl,rfl,rfl,rfl,rfl,trivial⟩ trivial trivial ?_)))))
 refine A4 ?_
 exact x4 Plain.mk' rfl rfl Le.refl
theorem c_awake22:
  Ct Tryz.prog 10 [] (tB true):=by
 have hfr:=(exE_ok.rcd (by decide)).1
 refine Ct.intro Tryz.func10 rfl Tryz.ntmps10 rfl ?_
 intro w F
 refine A7 ?_
 refine R0 (x3 c_example22 fi38 rfl) ?_
 refine A7 ?_
 refine R3 (x3 (c_exT 1 (by decide) 249 t249 exT1) fi15 rfl) rfl rfl rfl ?_
 refine A10 ?_
 refine R3 (x3 (c_exT 1 (by decide) 250 t250 exT2) fi15 rfl) rfl rfl rfl ?_
 refine A10 ?_
 refine R3 (x3 (c_exT 1 (by decide) 400 t400 exT4) fi15 rfl) rfl rfl rfl ?_
 refine A10 ?_
 refine R3 (x3 (c_exT 1 (by decide) 500 t500 exT5) fi15 rfl) rfl rfl rfl ?_
 refine A10 ?_
 refine R3 (x3 (c_exT 2 (by decide) 300 p300 exP3) fi15 rfl) rfl rfl rfl ?_
 refine A10 ?_
 refine R1 (x3 (c_FactsG exE_ok (by decide)) fi19 rfl) rfl ?_
 refine A18 ?_
 refine A5 ?_
 refine RGon (decide_eq_false (by omega)) rfl xc1 rfl ⟨rfl,trivial⟩ trivial trivial (RGon (decide_eq_false (by omega)) rfl (x3 c_exI fi17 rfl) rfl ⟨rfl,rfl,trivial⟩ trivial trivial (RGon (decide_eq_false (by omega)) rfl (xb0 (n:=3) (f:=fun n:Int=>tI n) [1,3,4] Tryz.underlying42 el3 zf3 rfl (fun _=>inferInstance) rfl rfl rfl) rfl ⟨rfl,rfl,rfl,trivial⟩ trivial trivial (RGon (decide_eq_false (by omega)) rfl (x3 (c_sameIv _ _ rfl) fi39 rfl) rfl ⟨rfl,rfl,trivial⟩ trivial trivial (RGon (decide_eq_false (by omega)) rfl d_not rfl ⟨rfl,trivial⟩ trivial trivial (R2 (xg6 (decide_eq_false (by omega))) rfl rfl ?_)))))
 refine A7 ?_
 refine RE (xd3 (k:=15) 59 11 true rfl (fun h=>by cases h)) trivial trivial ⟨rfl,trivial⟩ ?_
 refine A11 ?_
 refine cL (fun (i:Nat)=>i≤(fctL exE).length) (fun (i:Nat)=>upd (upd (upd (upd (upd (upd (upd (upd (upd (upd (fun _=>none) 2 (some (.val (tI 65536)))) 3 (some (.val (tL 8 true tTs t249)))) 5 (some (.val (tL 8 true tTs t250)))) 7 (some (.val (tL 8 true tTs t400)))) 9 (some (.val (tL 8 true tTs t500)))) 11 (some (.val (tL 8 true tTs p300)))) 15 (some (.own (.sl 15 11 0 (((fctL exE).take i).filter fun f=>decide (400≤f.kn)).length)))) 70 (some (.val (tL 11 true tFa (fctL exE))))) 71 (some (.val (tI (fctL exE).length)))) 72 (some (.val (tI i)))) (fun (i:Nat)=>upd (fun _=>none) 15 (some (⟨59,11,true,rV tFa (((fctL exE).take i).filter fun f=>decide (400≤f.kn))⟩))) [15] (fun (i:Nat)=>(fctL exE).length - i) (0) (Nat.zero_le _) (hh:=((SubK.consI rfl ImpK.refl) SubK.nil)) ?_
 intro i hI
 have hxl:(((fctL exE).take i).filter fun f=>decide (400≤f.kn)).length≤i:=by have:=List.length_filter_le (fun f:Fa=>decide (400≤f.kn)) ((fctL exE).take i);rw [List.length_take] at this;omega
 have hnx:=fun hh=>flt4_next (fs:=(fctL exE)) (i:=i) hh
 refine A6 ?_
 refine x5 rfl (fun h76=> ?_) (fun h76=> ?_)
 ·
  refine A6 ?_
  refine R2 (x8 sl46 (i) (by omega) (gD (l:=(fctL exE)) (n:=i) (d:=fa0) (by omega))) rfl rfl ?_
  refine A1 ?_
  refine RE (xa1 (k:=17) (n:=11) (agg:=true) zr59.1 zr59.2 rfl) trivial trivial ⟨rfl,trivial⟩ ?_
  refine A10 ?_
  refine x5 rfl (fun h77=> ?_) (fun h77=> ?_)
  ·
   refine A3 ?_
   refine R1 (xb0 (n:=1) (f:=tFa) [((fctL exE).getD i fa0)] Tryz.underlying46 el59 zf59 rfl (fun _=>inferInstance) rfl rfl rfl) rfl (RE (xg0 (k:=15) (k':=82) (f:=tFa) (((fctL exE).take i).filter fun f=>decide (400≤f.kn)) ((fctL exE).getD i fa0) Tryz.underlying46 el59 zf59 rfl rfl (fun _=>inferInstance) rfl ⟨by omega,by omega⟩ rfl) ⟨rfl,rfl,trivial⟩ ⟨rfl,trivial⟩ ⟨rfl,trivial⟩ ?_)
   refine A8 ?_
   have hnx:=hnx (by omega)
   rw [if_pos (by omega)] at hnx
   exact xb7 (l:=[15]) (fun j=>cond (Nat.beq j 15) 82 (j)) (i+1) ⟨(by omega),(by omega)⟩ (SubR.int rfl (by first | omega | rfl | (dsimp only;omega)) (SubR.int rfl (by first | omega | rfl | (dsimp only;omega)) (SubR.cons rfl ((SubR.consI rfl (Imp.of (by rw [hnx,List.length_append];rfl))) (SubR.cons rfl (SubR.cons rfl (SubR.cons rfl (SubR.cons rfl (SubR.cons rfl (SubR.int rfl (by first | omega | rfl | (dsimp only;omega)) SubR.nil)))))))))) ((SubKR.consI rfl (ImpK.of (by rw [hnx];exact xa2.symm))) SubKR.nil) (SupG.val (SupG.val (SupG.val (SupG.own rfl (SupG.val (SupG.val (SupG.val (SupG.val (SupG.val (SupG.val SupG.nil)))))))))) (SupH.cons rfl (supJ x9) SupH.nil) (lkOk rfl) rfl rfl (fun _ h=>by cases h)
  ·
   refine A7 ?_
   have hnx:=hnx (by omega)
   rw [if_neg (by omega),List.append_nil] at hnx
   exact kF (i+1) ⟨(by omega),(by omega)⟩ (hg:=(sI (sI (sC ((Sub.consI rfl (Imp.of (by rw [hnx]))) (sC (sC (sC (sC (sC (sI Sub.nil))))))))))) (hh:=((SubK.consI rfl (ImpK.of (by rw [hnx]))) SubK.nil))
 ·
  refine A6 ?_
  have hfe:(((fctL exE).take i).filter fun f=>decide (400≤f.kn))=exW:=by rw [show i=(fctL exE).length by omega,List.take_length];exact exFc
  refine C_give (t:=15) (k:=15) (f:=tFa) (xs:=(((fctL exE).take i).filter fun f=>decide (400≤f.kn))) rfl rfl (fun _ h=>h) (xf4 rfl) rfl ?_
  refine A1 ?_
  refine R2 (x3 (c_Num 1 1 (by decide) (by decide) (by decide) (by decide)) fi40 rfl) rfl rfl (RE (xa9 (r:=tS [⟨1,false,tSt (mKey 1)⟩,⟨1,false,tI 200⟩,⟨1,false,tI 220⟩,⟨1,false,tI 400⟩,⟨1,false,(tE (.bool false))⟩,⟨6,true,tVa (vN 1 1)⟩]) (ts:=[(0,tSt (mKey 1)),(1,tI 200),(2,tI 220),(3,tI 400),(5,tVa (vN 1 1))]) bu59 zr59.2 (Bc 0 rfl rfl rfl (Bc 1 rfl rfl rfl (Bc 2 rfl rfl rfl (Bc 3 rfl rfl rfl (Bc 5 rfl rfl rfl Le.refl)))))) ⟨rfl,rfl,rfl,rfl,rfl,trivial⟩ trivial trivial (R2 (x3 (c_Num 1 1 (by decide) (by decide) (by decide) (by decide)) fi40 rfl) rfl rfl (RE (xa9 (r:=tS [⟨1,false,tSt (mKey 1)⟩,⟨1,false,tI 230⟩,⟨1,false,tI 300⟩,⟨1,false,tI 400⟩,⟨1,false,(tE (.bool false))⟩,⟨6,true,tVa (vN 1 1)⟩]) (ts:=[(0,tSt (mKey 1)),(1,tI 230),(2,tI 300),(3,tI 400),(5,tVa (vN 1 1))]) bu59 zr59.2 (Bc 0 rfl rfl rfl (Bc 1 rfl rfl rfl (Bc 2 rfl rfl rfl (Bc 3 rfl rfl rfl (Bc 5 rfl rfl rfl Le.refl)))))) ⟨rfl,rfl,rfl,rfl,rfl,trivial⟩ trivial trivial ?_)))
  refine A1 ?_
  refine RE (xa9 (r:=tS [⟨1,false,tSt (mKey 1)⟩,⟨1,false,tI 500⟩,⟨1,false,tI 65536⟩,⟨1,false,tI 500⟩,⟨1,false,tB true⟩,⟨6,true,(tS [⟨1,false,(tE (.int .u8 0))⟩,⟨4,true,(tS [⟨2,true,(tS [⟨1,false,(tE (.bool false))⟩,⟨1,false,(tLm [])⟩])⟩,⟨2,true,(tS [⟨1,false,(tE (.bool false))⟩,⟨1,false,(tLm [])⟩])⟩])⟩,⟨1,false,(tE (.int .i64 0))⟩])⟩]) (ts:=[(0,tSt (mKey 1)),(1,tI 500),(2,tI 65536),(3,tI 500),(4,tB true)]) bu59 zr59.2 (Bc 0 rfl rfl rfl (Bc 1 rfl rfl rfl (Bc 2 rfl rfl rfl (Bc 3 rfl rfl rfl (Bc 4 rfl rfl rfl Le.refl)))))) ⟨rfl,rfl,rfl,rfl,rfl,trivial⟩ trivial trivial ?_
  refine A1 ?_
  refine RE (xa9 (r:=tS [⟨1,false,tSt (mKey 2)⟩,⟨1,false,tI 500⟩,⟨1,false,tI 65536⟩,⟨1,false,tI 500⟩,⟨1,false,tB true⟩,⟨6,true,(tS [⟨1,false,(tE (.int .u8 0))⟩,⟨4,true,(tS [⟨2,true,(tS [⟨1,false,(tE (.bool false))⟩,⟨1,false,(tLm [])⟩])⟩,⟨2,true,(tS [⟨1,false,(tE (.bool false))⟩,⟨1,false,(tLm [])⟩])⟩])⟩,⟨1,false,(tE (.int .i64 0))⟩])⟩]) (ts:=[(0,tSt (mKey 2)),(1,tI 500),(2,tI 65536),(3,tI 500),(4,tB true)]) bu59 zr59.2 (Bc 0 rfl rfl rfl (Bc 1 rfl rfl rfl (Bc 2 rfl rfl rfl (Bc 3 rfl rfl rfl (Bc 4 rfl rfl rfl Le.refl)))))) ⟨rfl,rfl,rfl,rfl,rfl,trivial⟩ trivial trivial (RE (xb0 (n:=4) (f:=tFa) exW Tryz.underlying46 el59 zf59 rfl (fun _=>inferInstance) rfl rfl rfl) ⟨rfl,rfl,rfl,rfl,trivial⟩ trivial trivial ?_)
  refine A13 ?_
  refine RE (x3 (xm3 100 65536 1 1 (by decide) (by decide)) fi41 rfl) ⟨rfl,rfl,rfl,rfl,trivial⟩ trivial trivial (R1 (xb0 (n:=1) (f:=tTs) t249 Tryz.underlying37 el77 zf77 rfl (fun _=>inferInstance) rfl rfl rfl) rfl (R3 (xe9 (xq5 _ _ rfl) fi16 rfl) rfl rfl rfl ?_))
  refine A3 ?_
  refine RGon rfl rfl (x3 (xm3 100 200 1 1 (by decide) (by decide)) fi41 rfl) rfl ⟨rfl,rfl,rfl,rfl,trivial⟩ trivial trivial (RGon rfl rfl (x3 (xm3 200 300 1 2 (by decide) (by decide)) fi41 rfl) rfl ⟨rfl,rfl,rfl,rfl,trivial⟩ trivial trivial ?_)
  refine A1 ?_
  refine RGon rfl rfl (x3 (xm3 300 65536 1 1 (by decide) (by decide)) fi41 rfl) rfl ⟨rfl,rfl,rfl,rfl,trivial⟩ trivial trivial (RGon rfl rfl (xb0 (n:=3) (f:=tTs) t250 Tryz.underlying37 el77 zf77 rfl (fun _=>inferInstance) rfl rfl rfl) rfl ⟨rfl,rfl,rfl,trivial⟩ trivial trivial (RGon rfl rfl (xe9 (xq5 _ _ rfl) fi16 rfl) rfl ⟨rfl,rfl,rfl,trivial⟩ trivial trivial ?_))
  refine A4 ?_
  refine RGon rfl rfl (x3 (xm3 100 220 1 1 (by decide) (by decide)) fi41 rfl) rfl ⟨rfl,rfl,rfl,rfl,trivial⟩ trivial trivial (RGon rfl rfl (x3 (xm3 220 230 0 1 (by decide) (by decide)) fi41 rfl) rfl ⟨rfl,rfl,rfl,rfl,trivial⟩ trivial trivial ?_)
  refine A1 ?_
  refine RGon rfl rfl (x3 (xm3 230 65536 1 1 (by decide) (by decide)) fi41 rfl) rfl ⟨rfl,rfl,rfl,rfl,trivial⟩ trivial trivial (RGon rfl rfl (xb0 (n:=3) (f:=tTs) t400 Tryz.underlying37 el77 zf77 rfl (fun _=>inferInstance) rfl rfl rfl) rfl ⟨rfl,rfl,rfl,trivial⟩ trivial trivial (RGon rfl rfl (xe9 (xq5 _ _ rfl) fi16 rfl) rfl ⟨rfl,rfl,rfl,trivial⟩ trivial trivial ?_))
  refine A4 ?_
  refine RGon rfl rfl (x3 (xm3 100 220 1 1 (by decide) (by decide)) fi41 rfl) rfl ⟨rfl,rfl,rfl,rfl,trivial⟩ trivial trivial (RGon rfl rfl (x3 (xm3 220 230 0 1 (by decide) (by decide)) fi41 rfl) rfl ⟨rfl,rfl,rfl,rfl,trivial⟩ trivial trivial (RGon rfl rfl (x3 (xm3 230 500 1 1 (by decide) (by decide)) fi41 rfl) rfl ⟨rfl,rfl,rfl,rfl,trivial⟩ trivial trivial (RGon rfl rfl (xb0 (n:=3) (f:=tTs) t500 Tryz.underlying37 el77 zf77 rfl (fun _=>inferInstance) rfl rfl rfl) rfl ⟨rfl,rfl,rfl,trivial⟩ trivial trivial (RGon rfl rfl (xe9 (xq5 _ _ rfl) fi16 rfl) rfl ⟨rfl,rfl,rfl,trivial⟩ trivial trivial ?_))))
  refine A4 ?_
  refine RGon rfl rfl (x3 (c_cash22 100 220 50 (by decide)) fi42 rfl) rfl ⟨rfl,rfl,rfl,trivial⟩ trivial trivial (RGon rfl rfl (x3 (c_cash22 220 230 0 (by decide)) fi42 rfl) rfl ⟨rfl,rfl,rfl,trivial⟩ trivial trivial ?_)
  refine A1 ?_
  refine RGon rfl rfl (x3 (c_cash22 230 65536 50 (by decide)) fi42 rfl) rfl ⟨rfl,rfl,rfl,trivial⟩ trivial trivial (RGon rfl rfl (xb0 (n:=3) (f:=tTs) p300 Tryz.underlying37 el77 zf77 rfl (fun _=>inferInstance) rfl rfl rfl) rfl ⟨rfl,rfl,rfl,trivial⟩ trivial trivial (RGon rfl rfl (xe9 (xq5 _ _ rfl) fi16 rfl) rfl ⟨rfl,rfl,rfl,trivial⟩ trivial trivial ?_))
  refine A4 ?_
  refine RGon rfl rfl (x3 (c_sameFa _ _ hfe) fi20 rfl) rfl ⟨rfl,rfl,trivial⟩ trivial trivial ?_
  refine A5 ?_
  exact x4 Plain.mk' rfl rfl Le.refl
instance sl35:SlI Tryz.prog 35 9 1 false:=⟨Tryz.underlying35,ti9⟩
instance fi10:FnI Tryz.prog 10:=⟨_,Tryz.func10,by kernel_rfl,rfl⟩
instance fi11:FnI Tryz.prog 11:=⟨_,Tryz.func11,by kernel_rfl,rfl⟩
instance fi14:FnI Tryz.prog 14:=⟨_,Tryz.func14,by kernel_rfl,rfl⟩
instance fi18:FnI Tryz.prog 18:=⟨_,Tryz.func18,by kernel_rfl,rfl⟩
instance fi36:FnI Tryz.prog 36:=⟨_,Tryz.func36,by kernel_rfl,rfl⟩
theorem fr_lens {q:Rat} (h:short q):(fr q).n.l.length≤1000000∧(fr q).d.l.length≤1000000:=by
 have h1:=sh_fr q
 rw [decide_eq_true h,Fr.sh,Bool.and_eq_true] at h1
 have h2:=of_decide_eq_true h1.1
 have h3:=of_decide_eq_true h1.2
 omega
section
variable {D B:Int} {l:List Ev}
theorem fct_dig (h:GR D B l): ∀f∈fctL l,f.v.f.dig∧f.v.f.n.l.length≤1000000∧f.v.f.d.l.length≤1000000:=fun f hf=>by
 obtain ⟨j,_,K,_,hf⟩:=fcts_mem.1 hf
 have h1:=((h.fcJ (knL l) j K).1 f hf).2.2
 split at h1
 ·rw [h1]
  exact ⟨⟨fun _ h=>absurd h List.not_mem_nil,fun _ h=>absurd h List.not_mem_nil⟩,by decide,by decide⟩
 ·refine ⟨h1.dig,?_⟩
  rw [h1.1.2.2.2.1];exact fr_lens h1.1.2.2.2.2
theorem c_FcValidG (h:GR D B l) (hl:l.length≤16):Ct Tryz.prog 35 [tL 11 true tFa (fctL l)] (tB true):=by
 have h1:=c_FcValid (fctL l) fun f hf=>(fct_dig h f hf).1
 rw [(h.rcd hl).2] at h1;exact h1
theorem c_FcView (h:GR D B l) (hl:l.length≤16) {K:Nat} (hK:K < 3) (kn:Int):Ct Tryz.prog 36 [tL 11 true tFa (fctL l),tSt (mKey K),tI kn] (tT [tL 8 true tTs (mT K (inf l kn)),tI 0]):=by
 have h1:=c_View (fctL l) (mKey K) kn (by have:=(h.rcd hl).1;omega) (fun f hf=>(fct_dig h f hf).2) fun f hf=>(fct_dig h f hf).1
 rw [if_pos (h.rcd hl).2,if_pos (h.rcd hl).2,h.views hK] at h1;exact h1
theorem c_RightM (h:GR D B l) (K:Nat) (kn:Int):Ct Tryz.prog 37 [tL 8 true tTs (mT K (inf l kn))] (tB true):=by
 have h1:=c_TRight (mT K (inf l kn)) (h.tl K kn).dig
 rw [(h.tl K kn).1] at h1;exact h1
theorem fct_asc (h:GR D B l) {i:Nat} (hi:i < (fctL l).length) (h0:0 < i):((fctL l).getD (i - 1) fa0).kn≤((fctL l).getD i fa0).kn:=by
 have h1:=fcts_srt h (knL_pw (l:=l)) (knL l).length (Nat.le_refl _)
 have h2:=List.pairwise_iff_getElem.1 h1 (i - 1) i (by show i - 1 < (fctL l).length;omega) hi (by omega)
 rw [List.getD_eq_getElem?_getD,List.getD_eq_getElem?_getD,List.getElem?_eq_getElem hi,List.getElem?_eq_getElem (by omega)];exact h2
end
theorem mks_len:mks.length=3:=rfl
theorem mks_get {K:Nat} (hK:K < 3):mks[K]? =some (mKey K):=match K,hK with
 | 0,_=>rfl
 | 1,_=>rfl
 | 2,_=>rfl
theorem c_MeViews (m:List Ne) (known:Int) (hm: ∀n∈m,neOk n):
  Ct Tryz.prog 9 [tL 8 true tNe m,tI known] (tB true):=by
 obtain ⟨hR,hP⟩:=btE_ok hm
 have hbl:(btE m).length≤12:=by rw [btE_len];omega
 have hB:=c_Built22 m hm
 generalize btE m=l at*
 have hll:l.length≤16:=by omega
 have hfl:=(hR.rcd hll).1
 have hk3:=mks_len
 refine Ct.intro Tryz.func9 rfl Tryz.ntmps9 rfl ?_
 intro w F
 refine A8 ?_
 refine R0 (x3 c_awake22 fi10 rfl) ?_
 refine A9 ?_
 refine R1 (x3 hB fi11 rfl) rfl ?_
 refine A6 ?_
 refine R1 (x3 (c_FactsG hR hll) fi19 rfl) rfl ?_
 refine A13 ?_
 refine RGon (decide_eq_false (by omega)) rfl xc1 rfl ⟨rfl,trivial⟩ trivial trivial (RGon (decide_eq_false (by omega)) rfl (x3 (c_FcValidG hR hll) fi35 rfl) rfl ⟨rfl,trivial⟩ trivial trivial (RGon (decide_eq_false (by omega)) rfl d_not rfl ⟨rfl,trivial⟩ trivial trivial (R2 (xg6 (decide_eq_false (by omega))) rfl rfl ?_)))
 refine A2 ?_
 refine RGon rfl rfl (x3 (c_EValidG hR) fi26 rfl) rfl ⟨rfl,trivial⟩ trivial trivial ?_
 refine A10 ?_
 refine R0 (x3 c_keys22 fi14 rfl) ?_
 refine A5 ?_
 refine cL (fun (K:Nat)=>K≤3) (fun (K:Nat)=>upd (upd (upd (upd (upd (upd (fun _=>none) 1 (some (.val (tI known)))) 5 (some (.val (tL 14 true tEv l)))) 6 (some (.val (tL 11 true tFa (fctL l))))) 39 (some (.val (tL 1 false (fun s:ByteArray=>tSt s) mks)))) 40 (some (.val (tI 3)))) 41 (some (.val (tI K)))) (fun (K:Nat)=>fun _=>none) [] (fun (K:Nat)=>3 - K) (0) (Nat.zero_le _) ?_
 intro K hI
 refine A6 ?_
 refine x5 rfl (fun h63=> ?_) (fun h63=> ?_)
 ·
  refine A6 ?_
  refine R2 (x8 sl35 (K) (by omega) (mks_get (K:=K) (by omega))) rfl rfl ?_
  refine A5 ?_
  have hd1:=Int.emod_nonneg known (show (330:Int)≠0 by decide)
  have hd2:=Int.emod_lt_of_pos known (show (0:Int) < 330 by decide)
  refine A2 ?_
  refine R1 (x3 (c_day22 known) fi18 rfl) rfl ?_
  refine A1 ?_
  refine R1 (x3 (c_day22 known) fi18 rfl) rfl ?_
  refine A2 ?_
  refine RE (xb0 (n:=4) (f:=fun n:Int=>tI n) [known%330 - 5,known%330 - 5 - 1,65536,known] Tryz.underlying42 el3 zf3 rfl (fun _=>inferInstance) rfl rfl rfl) ⟨rfl,rfl,rfl,rfl,trivial⟩ trivial trivial ?_
  refine A5 ?_
  refine cL (fun (q:Nat)=>q≤4) (fun (q:Nat)=>upd (upd (upd (upd (upd (upd (upd (upd (upd (upd (fun _=>none) 1 (some (.val (tI known)))) 5 (some (.val (tL 14 true tEv l)))) 6 (some (.val (tL 11 true tFa (fctL l))))) 9 (some (.val (tSt (mKey K))))) 39 (some (.val (tL 1 false (fun s:ByteArray=>tSt s) mks)))) 40 (some (.val (tI 3)))) 41 (some (.val (tI K)))) 51 (some (.val (tL 1 false tI [known%330 - 5,known%330 - 5 - 1,65536,known])))) 52 (some (.val (tI 4)))) 53 (some (.val (tI q)))) (fun (q:Nat)=>fun _=>none) [] (fun (q:Nat)=>4 - q) (0) (Nat.zero_le _) ?_
  intro q hI2
  refine A1 ?_
  have hd1:=Int.emod_nonneg known (show (330:Int)≠0 by decide)
  have hd2:=Int.emod_lt_of_pos known (show (0:Int) < 330 by decide)
  refine A5 ?_
  refine x5 rfl (fun h64=> ?_) (fun h64=> ?_)
  ·
   refine A5 ?_
   have hd1:=Int.emod_nonneg known (show (330:Int)≠0 by decide)
   have hd2:=Int.emod_lt_of_pos known (show (0:Int) < 330 by decide)
   refine A1 ?_
   refine R2 (x8 sl42 (q) (by omega) (gD (l:=[known%330 - 5,known%330 - 5 - 1,65536,known]) (n:=q) (d:=0) (by simp;omega))) rfl rfl ?_
   refine A9 ?_
   refine R3 (x3 (c_TimelineK l ([known%330 - 5,known%330 - 5 - 1,65536,known].getD q 0) hR K (by omega)) fi15 rfl) rfl rfl rfl ?_
   refine A12 ?_
   refine R3 (x3 (c_FcView hR hll (K:=K) (by omega) ([known%330 - 5,known%330 - 5 - 1,65536,known].getD q 0)) fi36 rfl) rfl rfl rfl ?_
   refine A14 ?_
   refine RGon (decide_eq_false (by omega)) rfl xc1 rfl ⟨rfl,trivial⟩ trivial trivial (RGon (decide_eq_false (by omega)) rfl (x3 (c_RightM hR K ([known%330 - 5,known%330 - 5 - 1,65536,known].getD q 0)) fi37 rfl) rfl ⟨rfl,trivial⟩ trivial trivial (RGon (decide_eq_false (by omega)) rfl d_not rfl ⟨rfl,trivial⟩ trivial trivial (R2 (xg6 (decide_eq_false (by omega))) rfl rfl ?_)))
   refine A3 ?_
   refine RGon rfl rfl (x3 (xq5 _ _ rfl) fi16 rfl) rfl ⟨rfl,rfl,trivial⟩ trivial trivial ?_
   refine A8 ?_
   have hd1:=Int.emod_nonneg known (show (330:Int)≠0 by decide)
   have hd2:=Int.emod_lt_of_pos known (show (0:Int) < 330 by decide)
   refine A4 ?_
   exact kF (q+1) ⟨(by omega),(by omega)⟩
  ·
   refine A10 ?_
   exact kF (K+1) ⟨(by omega),(by omega)⟩
 ·
  refine A14 ?_
  refine cL (fun (i:Nat)=>i≤(fctL l).length) (fun (i:Nat)=>upd (upd (upd (upd (fun _=>none) 6 (some (.val (tL 11 true tFa (fctL l))))) 88 (some (.val (tL 11 true tFa (fctL l))))) 89 (some (.val (tI (fctL l).length)))) 90 (some (.val (tI i)))) (fun (i:Nat)=>fun _=>none) [] (fun (i:Nat)=>(fctL l).length - i) (0) (Nat.zero_le _) ?_
  intro i hI3
  have hasc:=fun h1 h2=>fct_asc hR (i:=i) h1 h2
  refine A6 ?_
  refine x5 rfl (fun h72=> ?_) (fun h72=> ?_)
  ·
   refine A7 ?_
   refine R2 (x8 sl46 (i) (by omega) (gD (l:=(fctL l)) (n:=i) (d:=fa0) (by omega))) rfl rfl ?_
   refine A1 ?_
   refine RE (xa1 (k:=17) (n:=11) (agg:=true) zr59.1 zr59.2 rfl) trivial trivial ⟨rfl,trivial⟩ ?_
   refine A9 ?_
   refine RGcaseD (t:=97) rfl (fun h73=> ?_) (fun h73=> ?_)
   ·
    refine A4 ?_
    refine RGon (decide_eq_true h73) rfl (xe4 (wr64 (by omega) (by omega))) rfl ⟨rfl,rfl,trivial⟩ trivial trivial (RGon (decide_eq_true h73) rfl (x8 sl46 (i - 1) (by omega) (gD (l:=(fctL l)) (n:=i - 1) (d:=fa0) (by omega))) rfl ⟨rfl,rfl,trivial⟩ trivial trivial (RGon (decide_eq_true h73) rfl (xe5 fo59_3.h (At.f 3 rfl rfl) rfl) rfl ⟨rfl,trivial⟩ trivial trivial ?_))
    refine A5 ?_
    refine C_bF rfl (decide_eq_false (by have hq:=hasc (by omega) (by omega);omega)) ?_
    refine A7 ?_
    exact kF (i+1) ⟨(by omega),(by omega)⟩
   ·
    refine A18 ?_
    refine A2 ?_
    exact kF (i+1) ⟨(by omega),(by omega)⟩
  ·
   refine A11 ?_
   exact x4 Plain.mk' rfl rfl Le.refl
end An.S
