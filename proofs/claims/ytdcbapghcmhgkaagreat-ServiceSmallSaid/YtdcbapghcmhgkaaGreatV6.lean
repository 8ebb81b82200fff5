/- Part 6 of a proof: Z5, Z6, Z7, LibYb, O27. -/
import Derived.SizedLaws
import Derived.Test.YtdcbapghcmhgkaaGreatChecked
import Derived.Test.YtdcbapghcmhgkaaGreatV5
set_option maxHeartbeats 4000000
set_option maxRecDepth 100000
namespace An.S
open Go Go.Proofs An
instance ti53:TyI Tryz.prog 53 1 false:=⟨by kernel_rfl,by kernel_rfl⟩
instance ti83:TyI Tryz.prog 83 1 false:=⟨by kernel_rfl,by kernel_rfl⟩
instance ti84:TyI Tryz.prog 84 1 false:=⟨by kernel_rfl,by kernel_rfl⟩
instance ti85:TyI Tryz.prog 85 1 false:=⟨by kernel_rfl,by kernel_rfl⟩
instance ti86:TyI Tryz.prog 86 1 false:=⟨by kernel_rfl,by kernel_rfl⟩
instance ti87:TyI Tryz.prog 87 1 false:=⟨by kernel_rfl,by kernel_rfl⟩
instance ti88:TyI Tryz.prog 88 1 false:=⟨by kernel_rfl,by kernel_rfl⟩
instance ti89:TyI Tryz.prog 89 1 false:=⟨by kernel_rfl,by kernel_rfl⟩
instance ti90:TyI Tryz.prog 90 1 false:=⟨by kernel_rfl,by kernel_rfl⟩
instance ti91:TyI Tryz.prog 91 1 false:=⟨by kernel_rfl,by kernel_rfl⟩
instance ti92:TyI Tryz.prog 92 1 false:=⟨by kernel_rfl,by kernel_rfl⟩
instance ti93:TyI Tryz.prog 93 1 false:=⟨by kernel_rfl,by kernel_rfl⟩
instance ti94:TyI Tryz.prog 94 1 false:=⟨by kernel_rfl,by kernel_rfl⟩
instance ti95:TyI Tryz.prog 95 1 false:=⟨by kernel_rfl,by kernel_rfl⟩
instance ti96:TyI Tryz.prog 96 1 false:=⟨by kernel_rfl,by kernel_rfl⟩
instance ti97:TyI Tryz.prog 97 1 false:=⟨by kernel_rfl,by kernel_rfl⟩
instance ti98:TyI Tryz.prog 98 1 false:=⟨by kernel_rfl,by kernel_rfl⟩
instance ti99:TyI Tryz.prog 99 1 false:=⟨by kernel_rfl,by kernel_rfl⟩
instance ti100:TyI Tryz.prog 100 1 false:=⟨by kernel_rfl,by kernel_rfl⟩
instance ti101:TyI Tryz.prog 101 1 false:=⟨by kernel_rfl,by kernel_rfl⟩
instance ti102:TyI Tryz.prog 102 1 false:=⟨by kernel_rfl,by kernel_rfl⟩
instance ti103:TyI Tryz.prog 103 1 false:=⟨by kernel_rfl,by kernel_rfl⟩
instance ti104:TyI Tryz.prog 104 1 false:=⟨by kernel_rfl,by kernel_rfl⟩
instance fo106_0:FoI Tryz.prog 106 0 0:=⟨by kernel_rfl⟩
instance fo106_1:FoI Tryz.prog 106 1 1:=⟨by kernel_rfl⟩
instance fo106_2:FoI Tryz.prog 106 2 2:=⟨by kernel_rfl⟩
instance fo106_3:FoI Tryz.prog 106 3 3:=⟨by kernel_rfl⟩
instance fo106_4:FoI Tryz.prog 106 4 4:=⟨by kernel_rfl⟩
instance fo106_5:FoI Tryz.prog 106 5 5:=⟨by kernel_rfl⟩
instance fo106_6:FoI Tryz.prog 106 6 6:=⟨by kernel_rfl⟩
instance fo106_7:FoI Tryz.prog 106 7 7:=⟨by kernel_rfl⟩
instance fo106_8:FoI Tryz.prog 106 8 8:=⟨by kernel_rfl⟩
instance fo106_9:FoI Tryz.prog 106 9 9:=⟨by kernel_rfl⟩
instance fo106_10:FoI Tryz.prog 106 10 10:=⟨by kernel_rfl⟩
instance fo106_11:FoI Tryz.prog 106 11 11:=⟨by kernel_rfl⟩
instance fo106_12:FoI Tryz.prog 106 12 12:=⟨by kernel_rfl⟩
instance fo106_13:FoI Tryz.prog 106 13 13:=⟨by kernel_rfl⟩
instance fo106_14:FoI Tryz.prog 106 14 14:=⟨by kernel_rfl⟩
instance fo106_15:FoI Tryz.prog 106 15 15:=⟨by kernel_rfl⟩
instance fo106_16:FoI Tryz.prog 106 16 16:=⟨by kernel_rfl⟩
instance fo106_17:FoI Tryz.prog 106 17 17:=⟨by kernel_rfl⟩
instance fo106_18:FoI Tryz.prog 106 18 18:=⟨by kernel_rfl⟩
instance fo106_19:FoI Tryz.prog 106 19 19:=⟨by kernel_rfl⟩
instance fo106_20:FoI Tryz.prog 106 20 20:=⟨by kernel_rfl⟩
instance fo106_21:FoI Tryz.prog 106 21 21:=⟨by kernel_rfl⟩
instance fo106_22:FoI Tryz.prog 106 22 22:=⟨by kernel_rfl⟩
instance fi53:FnI Tryz.prog 53:=⟨_,Tryz.func53,by kernel_rfl,rfl⟩
instance fi54:FnI Tryz.prog 54:=⟨_,Tryz.func54,by kernel_rfl,rfl⟩
instance fi92:FnI Tryz.prog 92:=⟨_,Tryz.func92,by kernel_rfl,rfl⟩
instance fi93:FnI Tryz.prog 93:=⟨_,Tryz.func93,by kernel_rfl,rfl⟩
instance fi94:FnI Tryz.prog 94:=⟨_,Tryz.func94,by kernel_rfl,rfl⟩
instance fi95:FnI Tryz.prog 95:=⟨_,Tryz.func95,by kernel_rfl,rfl⟩
instance fi96:FnI Tryz.prog 96:=⟨_,Tryz.func96,by kernel_rfl,rfl⟩
instance fi97:FnI Tryz.prog 97:=⟨_,Tryz.func97,by kernel_rfl,rfl⟩
instance fi98:FnI Tryz.prog 98:=⟨_,Tryz.func98,by kernel_rfl,rfl⟩
instance fi99:FnI Tryz.prog 99:=⟨_,Tryz.func99,by kernel_rfl,rfl⟩
instance fi100:FnI Tryz.prog 100:=⟨_,Tryz.func100,by kernel_rfl,rfl⟩
instance fi101:FnI Tryz.prog 101:=⟨_,Tryz.func101,by kernel_rfl,rfl⟩
instance fi102:FnI Tryz.prog 102:=⟨_,Tryz.func102,by kernel_rfl,rfl⟩
instance fi103:FnI Tryz.prog 103:=⟨_,Tryz.func103,by kernel_rfl,rfl⟩
instance fi104:FnI Tryz.prog 104:=⟨_,Tryz.func104,by kernel_rfl,rfl⟩
instance fi105:FnI Tryz.prog 105:=⟨_,Tryz.func105,by kernel_rfl,rfl⟩
instance fi106:FnI Tryz.prog 106:=⟨_,Tryz.func106,by kernel_rfl,rfl⟩
instance fi107:FnI Tryz.prog 107:=⟨_,Tryz.func107,by kernel_rfl,rfl⟩
instance fi108:FnI Tryz.prog 108:=⟨_,Tryz.func108,by kernel_rfl,rfl⟩
instance fi109:FnI Tryz.prog 109:=⟨_,Tryz.func109,by kernel_rfl,rfl⟩
instance fi110:FnI Tryz.prog 110:=⟨_,Tryz.func110,by kernel_rfl,rfl⟩
instance fi111:FnI Tryz.prog 111:=⟨_,Tryz.func111,by kernel_rfl,rfl⟩
instance fi112:FnI Tryz.prog 112:=⟨_,Tryz.func112,by kernel_rfl,rfl⟩
instance fi113:FnI Tryz.prog 113:=⟨_,Tryz.func113,by kernel_rfl,rfl⟩
instance fi114:FnI Tryz.prog 114:=⟨_,Tryz.func114,by kernel_rfl,rfl⟩
theorem zf45:Flat 1 false (.slice none 0 0):=xf9 rfl
abbrev nlE:Ent:= .val (tE (.slice none 0 0))
abbrev bgR (e:Ent):HEnt:=⟨106,1,false,[nlE,nlE,nlE,nlE,nlE,nlE,nlE,e,nlE,nlE,nlE,nlE,nlE,nlE,nlE,nlE,nlE,nlE,nlE,nlE,nlE,nlE,nlE]⟩
theorem c_putSpans0 (a:List Sn) (b:List Sn) (c:List Sn):
  CtG Tryz.prog 53 [(30,(bgR (.val (tE (.slice none 0 0)))))] [.own (.ptr 30 0),.own (.sl 100 2 0 a.length)] (.val (tT [])) [(30,(bgR (.own (.sl 11 1 0 1)))),(11,⟨45,1,false,[.own (.sl 100 2 0 a.length)]⟩)] [11]:=by
 refine CtG.intro [30,31,100,101,102] Tryz.func53 rfl Tryz.ntmps53 rfl rfl ⟨⟨rfl,(SupX.lit rfl)⟩,trivial⟩ ?_
 intro w F η
 refine C_nilC (q:=30) 33 45 1 false 7 rfl rfl rfl rfl (fun _=>rfl) rfl rfl ?_
 refine A5 ?_
 refine RE (xb7 (7) ti53 rfl rfl) ⟨rfl,trivial⟩ ⟨rfl,trivial⟩ trivial ?_
 refine A1 ?_
 refine RE (xp1 (k:=10) (ents:=[.own (.sl 100 2 0 a.length)]) Tryz.underlying53 el45 zf45 rfl (by intro e he;rw [List.mem_singleton.1 he];infer_instance) rfl rfl rfl) ⟨rfl,trivial⟩ trivial ⟨rfl,trivial⟩ (RE (d_appendOO (k:=33) (k2:=10) (k':=11) (n:=0) (e:= .own (.sl 100 2 0 a.length)) Tryz.underlying53 el45 zf45 rfl rfl rfl (by decide) (by decide) rfl) ⟨rfl,rfl,trivial⟩ ⟨rfl,rfl,trivial⟩ ⟨rfl,trivial⟩ ?_)
 refine A2 ?_
 refine RE (xc9 (es:=1) (agg:=false) (e:= .own (.sl 11 1 0 1)) (7) ti53 rfl rfl rfl) ⟨rfl,rfl,trivial⟩ ⟨rfl,trivial⟩ trivial ?_
 refine A1 ?_
 exact E_retG0 LentC.mk' rfl (.inr rfl) ⟨rfl,rfl,trivial⟩ ⟨⟨rfl,(SupX.lit rfl)⟩,⟨rfl,(SupX.lit rfl)⟩,trivial⟩ rfl
theorem c_putSpans1 (a:List Sn) (b:List Sn) (c:List Sn):
  CtG Tryz.prog 53 [(30,(bgR (.own (.sl 31 1 0 1)))),(31,⟨45,1,false,[.own (.sl 100 2 0 a.length)]⟩),(100,⟨62,2,true,rV tSn a⟩)] [.own (.ptr 30 0),.own (.sl 101 2 0 b.length)] (.val (tT [])) [(30,(bgR (.own (.sl 11 1 0 2)))),(11,⟨45,1,false,[.own (.sl 100 2 0 a.length),.own (.sl 101 2 0 b.length)]⟩),(100,⟨62,2,true,rV tSn a⟩)] [11]:=by
 refine CtG.intro [30,31,100,101,102] Tryz.func53 rfl Tryz.ntmps53 rfl rfl ⟨⟨rfl,(SupX.lit rfl)⟩,⟨rfl,(SupX.lit rfl)⟩,⟨rfl,xb0⟩,trivial⟩ ?_
 intro w F η
 refine A5 ?_
 refine RE (xb7 (7) ti53 rfl rfl) ⟨rfl,trivial⟩ ⟨rfl,trivial⟩ trivial ?_
 refine A1 ?_
 refine RE (xp1 (k:=10) (ents:=[.own (.sl 101 2 0 b.length)]) Tryz.underlying53 el45 zf45 rfl (by intro e he;rw [List.mem_singleton.1 he];infer_instance) rfl rfl rfl) ⟨rfl,trivial⟩ trivial ⟨rfl,trivial⟩ (RE (d_appendOO (k:=31) (k2:=10) (k':=11) (n:=1) (e:= .own (.sl 101 2 0 b.length)) Tryz.underlying53 el45 zf45 rfl rfl rfl (by decide) (by decide) rfl) ⟨rfl,rfl,trivial⟩ ⟨rfl,rfl,trivial⟩ ⟨rfl,trivial⟩ ?_)
 refine A2 ?_
 refine RE (xc9 (es:=1) (agg:=false) (e:= .own (.sl 11 1 0 2)) (7) ti53 rfl rfl rfl) ⟨rfl,rfl,trivial⟩ ⟨rfl,trivial⟩ trivial ?_
 refine A1 ?_
 exact E_retG0 LentC.mk' rfl (.inr rfl) ⟨rfl,rfl,rfl,trivial⟩ ⟨⟨rfl,(SupX.lit rfl)⟩,⟨rfl,(SupX.lit rfl)⟩,⟨rfl,xb0⟩,trivial⟩ rfl
theorem c_putSpans2 (a:List Sn) (b:List Sn) (c:List Sn):
  CtG Tryz.prog 53 [(30,(bgR (.own (.sl 31 1 0 2)))),(31,⟨45,1,false,[.own (.sl 100 2 0 a.length),.own (.sl 101 2 0 b.length)]⟩),(100,⟨62,2,true,rV tSn a⟩),(101,⟨62,2,true,rV tSn b⟩)] [.own (.ptr 30 0),.own (.sl 102 2 0 c.length)] (.val (tT [])) [(30,(bgR (.own (.sl 11 1 0 3)))),(11,⟨45,1,false,[.own (.sl 100 2 0 a.length),.own (.sl 101 2 0 b.length),.own (.sl 102 2 0 c.length)]⟩),(100,⟨62,2,true,rV tSn a⟩),(101,⟨62,2,true,rV tSn b⟩)] [11]:=by
 refine CtG.intro [30,31,100,101,102] Tryz.func53 rfl Tryz.ntmps53 rfl rfl ⟨⟨rfl,(SupX.lit rfl)⟩,⟨rfl,(SupX.lit rfl)⟩,⟨rfl,xb0⟩,⟨rfl,xb0⟩,trivial⟩ ?_
 intro w F η
 refine A5 ?_
 refine RE (xb7 (7) ti53 rfl rfl) ⟨rfl,trivial⟩ ⟨rfl,trivial⟩ trivial ?_
 refine A1 ?_
 refine RE (xp1 (k:=10) (ents:=[.own (.sl 102 2 0 c.length)]) Tryz.underlying53 el45 zf45 rfl (by intro e he;rw [List.mem_singleton.1 he];infer_instance) rfl rfl rfl) ⟨rfl,trivial⟩ trivial ⟨rfl,trivial⟩ (RE (d_appendOO (k:=31) (k2:=10) (k':=11) (n:=2) (e:= .own (.sl 102 2 0 c.length)) Tryz.underlying53 el45 zf45 rfl rfl rfl (by decide) (by decide) rfl) ⟨rfl,rfl,trivial⟩ ⟨rfl,rfl,trivial⟩ ⟨rfl,trivial⟩ ?_)
 refine A2 ?_
 refine RE (xc9 (es:=1) (agg:=false) (e:= .own (.sl 11 1 0 3)) (7) ti53 rfl rfl rfl) ⟨rfl,rfl,trivial⟩ ⟨rfl,trivial⟩ trivial ?_
 refine A1 ?_
 exact E_retG0 LentC.mk' rfl (.inr rfl) ⟨rfl,rfl,rfl,rfl,trivial⟩ ⟨⟨rfl,(SupX.lit rfl)⟩,⟨rfl,(SupX.lit rfl)⟩,⟨rfl,xb0⟩,⟨rfl,xb0⟩,trivial⟩ rfl
theorem c_apart3 (a:List Sn) (b:List Sn) (c:List Sn) (ha:a.length≤1000000) (hb:b.length≤1000000) (hc:c.length≤1000000):
  CtG Tryz.prog 54 [(30,(bgR (.own (.sl 20 1 0 3)))),(20,⟨45,1,false,[.own (.sl 100 2 0 a.length),.own (.sl 101 2 0 b.length),.own (.sl 102 2 0 c.length)]⟩),(100,⟨62,2,true,rV tSn a⟩),(101,⟨62,2,true,rV tSn b⟩),(102,⟨62,2,true,rV tSn c⟩)] [.own (.ptr 30 0)] (.val (tB true)) [] []:=by
 refine CtG.intro [30,20,100,101,102] Tryz.func54 rfl Tryz.ntmps54 rfl rfl ⟨⟨rfl,(SupX.lit rfl)⟩,⟨rfl,(SupX.lit rfl)⟩,⟨rfl,xb0⟩,⟨rfl,xb0⟩,⟨rfl,xb0⟩,trivial⟩ ?_
 intro w F η
 refine A6 ?_
 dsimp only [List.append]
 refine A5 ?_
 refine R1 (xd9 (ts:=[tE (.slice none 0 0)]) c_flat0Limbs fi92 rfl ⟨leNil rfl,trivial⟩) rfl ?_
 refine A2 ?_
 refine RGon rfl rfl xd7 rfl ⟨rfl,trivial⟩ trivial trivial ?_
 refine A1 ?_
 refine RGon rfl rfl (xb7 (1) ti84 rfl rfl) rfl ⟨rfl,trivial⟩ ⟨rfl,trivial⟩ trivial (RGon rfl rfl (xd9 (ts:=[tE (.slice none 0 0)]) c_flat0Ints fi93 rfl ⟨leNil rfl,trivial⟩) rfl ⟨rfl,trivial⟩ trivial trivial ?_)
 refine A3 ?_
 refine RGon rfl rfl xd7 rfl ⟨rfl,trivial⟩ trivial trivial ?_
 refine A1 ?_
 refine RGon rfl rfl (xb7 (2) ti85 rfl rfl) rfl ⟨rfl,trivial⟩ ⟨rfl,trivial⟩ trivial (RGon rfl rfl (xd9 (ts:=[tE (.slice none 0 0)]) c_flat0Texts fi94 rfl ⟨leNil rfl,trivial⟩) rfl ⟨rfl,trivial⟩ trivial trivial ?_)
 refine A3 ?_
 refine RGon rfl rfl xd7 rfl ⟨rfl,trivial⟩ trivial trivial ?_
 refine A1 ?_
 refine RGon rfl rfl (xb7 (3) ti86 rfl rfl) rfl ⟨rfl,trivial⟩ ⟨rfl,trivial⟩ trivial (RGon rfl rfl (xd9 (ts:=[tE (.slice none 0 0)]) c_flat0Bytes fi95 rfl ⟨leNil rfl,trivial⟩) rfl ⟨rfl,trivial⟩ trivial trivial ?_)
 refine A3 ?_
 refine RGon rfl rfl xd7 rfl ⟨rfl,trivial⟩ trivial trivial ?_
 refine A1 ?_
 refine RGon rfl rfl (xb7 (4) ti87 rfl rfl) rfl ⟨rfl,trivial⟩ ⟨rfl,trivial⟩ trivial (RGon rfl rfl (xd9 (ts:=[tE (.slice none 0 0)]) c_flat0Wholes fi96 rfl ⟨leNil rfl,trivial⟩) rfl ⟨rfl,trivial⟩ trivial trivial ?_)
 refine A3 ?_
 refine RGon rfl rfl xd7 rfl ⟨rfl,trivial⟩ trivial trivial ?_
 refine A1 ?_
 refine RGon rfl rfl (xb7 (5) ti88 rfl rfl) rfl ⟨rfl,trivial⟩ ⟨rfl,trivial⟩ trivial (RGon rfl rfl (xd9 (ts:=[tE (.slice none 0 0)]) c_flat0Fracs fi97 rfl ⟨leNil rfl,trivial⟩) rfl ⟨rfl,trivial⟩ trivial trivial ?_)
 refine A3 ?_
 refine RGon rfl rfl xd7 rfl ⟨rfl,trivial⟩ trivial trivial ?_
 refine A1 ?_
 refine RGon rfl rfl (xb7 (6) ti89 rfl rfl) rfl ⟨rfl,trivial⟩ ⟨rfl,trivial⟩ trivial (RGon rfl rfl (xd9 (ts:=[tE (.slice none 0 0)]) c_flat0Values fi98 rfl ⟨leNil rfl,trivial⟩) rfl ⟨rfl,trivial⟩ trivial trivial ?_)
 refine A3 ?_
 refine RGon rfl rfl xd7 rfl ⟨rfl,trivial⟩ trivial trivial ?_
 refine A1 ?_
 refine RGon rfl rfl (xb7 (7) ti53 rfl rfl) rfl ⟨rfl,trivial⟩ ⟨rfl,trivial⟩ trivial (RGon rfl rfl (xe2 (fun j=>cond (Nat.beq j 101) 101 (cond (Nat.beq j 100) 100 (cond (Nat.beq j 20) 20 (102)))) (c_flatSpans3 a b c ha hb hc) fi99 rfl (krC (ρ:=fun j=>cond (Nat.beq j 101) 101 (cond (Nat.beq j 100) 100 (cond (Nat.beq j 20) 20 (102)))) (k:=20) rfl (krC (ρ:=fun j=>cond (Nat.beq j 101) 101 (cond (Nat.beq j 100) 100 (cond (Nat.beq j 20) 20 (102)))) (k:=100) xc2 (krC (ρ:=fun j=>cond (Nat.beq j 101) 101 (cond (Nat.beq j 100) 100 (cond (Nat.beq j 20) 20 (102)))) (k:=101) xc2 (krC (ρ:=fun j=>cond (Nat.beq j 101) 101 (cond (Nat.beq j 100) 100 (cond (Nat.beq j 20) 20 (102)))) (k:=102) xc2 (krN (ρ:=fun j=>cond (Nat.beq j 101) 101 (cond (Nat.beq j 100) 100 (cond (Nat.beq j 20) 20 (102))))))))) (krN (ρ:=fun j=>cond (Nat.beq j 101) 101 (cond (Nat.beq j 100) 100 (cond (Nat.beq j 20) 20 (102))))) trivial rfl) rfl ⟨rfl,trivial⟩ ⟨rfl,rfl,rfl,rfl,trivial⟩ trivial ?_)
 refine A3 ?_
 refine RGon rfl rfl xd7 rfl ⟨rfl,trivial⟩ trivial trivial ?_
 refine A1 ?_
 refine RGon rfl rfl (xb7 (8) ti90 rfl rfl) rfl ⟨rfl,trivial⟩ ⟨rfl,trivial⟩ trivial (RGon rfl rfl (xd9 (ts:=[tE (.slice none 0 0)]) c_flat0Steps fi100 rfl ⟨leNil rfl,trivial⟩) rfl ⟨rfl,trivial⟩ trivial trivial ?_)
 refine A3 ?_
 refine RGon rfl rfl xd7 rfl ⟨rfl,trivial⟩ trivial trivial ?_
 refine A1 ?_
 refine RGon rfl rfl (xb7 (9) ti91 rfl rfl) rfl ⟨rfl,trivial⟩ ⟨rfl,trivial⟩ trivial (RGon rfl rfl (xd9 (ts:=[tE (.slice none 0 0)]) c_flat0Facts fi101 rfl ⟨leNil rfl,trivial⟩) rfl ⟨rfl,trivial⟩ trivial trivial ?_)
 refine A3 ?_
 refine RGon rfl rfl xd7 rfl ⟨rfl,trivial⟩ trivial trivial ?_
 refine A1 ?_
 refine RGon rfl rfl (xb7 (10) ti92 rfl rfl) rfl ⟨rfl,trivial⟩ ⟨rfl,trivial⟩ trivial (RGon rfl rfl (xd9 (ts:=[tE (.slice none 0 0)]) c_flat0Rows fi102 rfl ⟨leNil rfl,trivial⟩) rfl ⟨rfl,trivial⟩ trivial trivial ?_)
 refine A3 ?_
 refine RGon rfl rfl xd7 rfl ⟨rfl,trivial⟩ trivial trivial ?_
 refine A1 ?_
 refine RGon rfl rfl (xb7 (11) ti93 rfl rfl) rfl ⟨rfl,trivial⟩ ⟨rfl,trivial⟩ trivial (RGon rfl rfl (xd9 (ts:=[tE (.slice none 0 0)]) c_flat0Tables fi103 rfl ⟨leNil rfl,trivial⟩) rfl ⟨rfl,trivial⟩ trivial trivial ?_)
 refine A3 ?_
 refine RGon rfl rfl xd7 rfl ⟨rfl,trivial⟩ trivial trivial ?_
 refine A1 ?_
 refine RGon rfl rfl (xb7 (12) ti94 rfl rfl) rfl ⟨rfl,trivial⟩ ⟨rfl,trivial⟩ trivial (RGon rfl rfl (xd9 (ts:=[tE (.slice none 0 0)]) c_flat0Exprs fi104 rfl ⟨leNil rfl,trivial⟩) rfl ⟨rfl,trivial⟩ trivial trivial ?_)
 refine A3 ?_
 refine RGon rfl rfl xd7 rfl ⟨rfl,trivial⟩ trivial trivial ?_
 refine A1 ?_
 refine RGon rfl rfl (xb7 (13) ti95 rfl rfl) rfl ⟨rfl,trivial⟩ ⟨rfl,trivial⟩ trivial (RGon rfl rfl (xd9 (ts:=[tE (.slice none 0 0)]) c_flat0Clauses fi105 rfl ⟨leNil rfl,trivial⟩) rfl ⟨rfl,trivial⟩ trivial trivial ?_)
 refine A3 ?_
 refine RGon rfl rfl xd7 rfl ⟨rfl,trivial⟩ trivial trivial ?_
 refine A1 ?_
 refine RGon rfl rfl (xb7 (14) ti96 rfl rfl) rfl ⟨rfl,trivial⟩ ⟨rfl,trivial⟩ trivial (RGon rfl rfl (xd9 (ts:=[tE (.slice none 0 0)]) c_flat0Defs fi106 rfl ⟨leNil rfl,trivial⟩) rfl ⟨rfl,trivial⟩ trivial trivial ?_)
 refine A3 ?_
 refine RGon rfl rfl xd7 rfl ⟨rfl,trivial⟩ trivial trivial ?_
 refine A1 ?_
 refine RGon rfl rfl (xb7 (15) ti97 rfl rfl) rfl ⟨rfl,trivial⟩ ⟨rfl,trivial⟩ trivial (RGon rfl rfl (xd9 (ts:=[tE (.slice none 0 0)]) c_flat0Plans fi107 rfl ⟨leNil rfl,trivial⟩) rfl ⟨rfl,trivial⟩ trivial trivial ?_)
 refine A3 ?_
 refine RGon rfl rfl xd7 rfl ⟨rfl,trivial⟩ trivial trivial ?_
 refine A1 ?_
 refine RGon rfl rfl (xb7 (16) ti98 rfl rfl) rfl ⟨rfl,trivial⟩ ⟨rfl,trivial⟩ trivial (RGon rfl rfl (xd9 (ts:=[tE (.slice none 0 0)]) c_flat0Postings fi108 rfl ⟨leNil rfl,trivial⟩) rfl ⟨rfl,trivial⟩ trivial trivial ?_)
 refine A3 ?_
 refine RGon rfl rfl xd7 rfl ⟨rfl,trivial⟩ trivial trivial ?_
 refine A1 ?_
 refine RGon rfl rfl (xb7 (17) ti99 rfl rfl) rfl ⟨rfl,trivial⟩ ⟨rfl,trivial⟩ trivial (RGon rfl rfl (xd9 (ts:=[tE (.slice none 0 0)]) c_flat0Orders fi109 rfl ⟨leNil rfl,trivial⟩) rfl ⟨rfl,trivial⟩ trivial trivial ?_)
 refine A3 ?_
 refine RGon rfl rfl xd7 rfl ⟨rfl,trivial⟩ trivial trivial ?_
 refine A1 ?_
 refine RGon rfl rfl (xb7 (18) ti100 rfl rfl) rfl ⟨rfl,trivial⟩ ⟨rfl,trivial⟩ trivial (RGon rfl rfl (xd9 (ts:=[tE (.slice none 0 0)]) c_flat0Events fi110 rfl ⟨leNil rfl,trivial⟩) rfl ⟨rfl,trivial⟩ trivial trivial ?_)
 refine A3 ?_
 refine RGon rfl rfl xd7 rfl ⟨rfl,trivial⟩ trivial trivial ?_
 refine A1 ?_
 refine RGon rfl rfl (xb7 (19) ti101 rfl rfl) rfl ⟨rfl,trivial⟩ ⟨rfl,trivial⟩ trivial (RGon rfl rfl (xd9 (ts:=[tE (.slice none 0 0)]) c_flat0Filings fi111 rfl ⟨leNil rfl,trivial⟩) rfl ⟨rfl,trivial⟩ trivial trivial ?_)
 refine A3 ?_
 refine RGon rfl rfl xd7 rfl ⟨rfl,trivial⟩ trivial trivial ?_
 refine A1 ?_
 refine RGon rfl rfl (xb7 (20) ti102 rfl rfl) rfl ⟨rfl,trivial⟩ ⟨rfl,trivial⟩ trivial (RGon rfl rfl (xd9 (ts:=[tE (.slice none 0 0)]) c_flat0Cases fi112 rfl ⟨leNil rfl,trivial⟩) rfl ⟨rfl,trivial⟩ trivial trivial ?_)
 refine A3 ?_
 refine RGon rfl rfl xd7 rfl ⟨rfl,trivial⟩ trivial trivial ?_
 refine A1 ?_
 refine RGon rfl rfl (xb7 (21) ti103 rfl rfl) rfl ⟨rfl,trivial⟩ ⟨rfl,trivial⟩ trivial (RGon rfl rfl (xd9 (ts:=[tE (.slice none 0 0)]) c_flat0Changes fi113 rfl ⟨leNil rfl,trivial⟩) rfl ⟨rfl,trivial⟩ trivial trivial ?_)
 refine A3 ?_
 refine RGon rfl rfl xd7 rfl ⟨rfl,trivial⟩ trivial trivial ?_
 refine A1 ?_
 refine RGon rfl rfl (xb7 (22) ti104 rfl rfl) rfl ⟨rfl,trivial⟩ ⟨rfl,trivial⟩ trivial (RGon rfl rfl (xd9 (ts:=[tE (.slice none 0 0)]) c_flat0Deltas fi114 rfl ⟨leNil rfl,trivial⟩) rfl ⟨rfl,trivial⟩ trivial trivial ?_)
 refine A5 ?_
 exact xe8 LentC.mk' rfl rfl Imp.refl trivial rfl trivial rfl
theorem c_ApartSpans (a:List Sn) (b:List Sn) (c:List Sn) (ha:a.length≤1000000) (hb:b.length≤1000000) (hc:c.length≤1000000):
  CtG Tryz.prog 25 [(20,⟨45,1,false,[.own (.sl 100 2 0 a.length),.own (.sl 101 2 0 b.length),.own (.sl 102 2 0 c.length)]⟩),(100,⟨62,2,true,rV tSn a⟩),(101,⟨62,2,true,rV tSn b⟩),(102,⟨62,2,true,rV tSn c⟩)] [.own (.sl 20 1 0 3)] (.val (tB true)) [] []:=by
 refine CtG.intro [20,100,101,102] Tryz.func25 rfl Tryz.ntmps25 rfl rfl ⟨⟨rfl,(SupX.lit rfl)⟩,⟨rfl,xb0⟩,⟨rfl,xb0⟩,⟨rfl,xb0⟩,trivial⟩ ?_
 intro w F η
 refine A7 ?_
 refine R0 (d_buildE (vs:=[]) (r:= .agg #[.slice none 0 0,.slice none 0 0,.slice none 0 0,.slice none 0 0,.slice none 0 0,.slice none 0 0,.slice none 0 0,.slice none 0 0,.slice none 0 0,.slice none 0 0,.slice none 0 0,.slice none 0 0,.slice none 0 0,.slice none 0 0,.slice none 0 0,.slice none 0 0,.slice none 0 0,.slice none 0 0,.slice none 0 0,.slice none 0 0,.slice none 0 0,.slice none 0 0,.slice none 0 0]) rfl (fun w=>by kernel_rfl)) (RE (d_boxC (k:=6) (n:=23) _ rfl rfl rfl rfl) ⟨rfl,trivial⟩ trivial ⟨rfl,trivial⟩ ?_)
 refine A10 ?_
 refine C_loopA (ι:=Nat) (fun k=>k≤3) (selS [(upd (upd (upd (fun _=>none) 0 (some (.own (.sl 20 1 0 3)))) 3 (some (.own (.ptr 6 0)))) 4 (some (.val (tI 0)))),(upd (upd (upd (fun _=>none) 0 (some (.own (.sl 20 1 0 3)))) 3 (some (.own (.ptr 6 0)))) 4 (some (.val (tI 1)))),(upd (upd (upd (fun _=>none) 0 (some (.own (.sl 20 1 0 3)))) 3 (some (.own (.ptr 6 0)))) 4 (some (.val (tI 2))))] (upd (upd (upd (fun _=>none) 0 (some (.own (.sl 20 1 0 3)))) 3 (some (.own (.ptr 6 0)))) 4 (some (.val (tI 3))))) (selS [(upd (upd (upd (upd (upd (fun _=>none) 6 (some ((bgR (.val (tE (.slice none 0 0))))))) 20 (some (⟨45,1,false,[.own (.sl 100 2 0 a.length),.own (.sl 101 2 0 b.length),.own (.sl 102 2 0 c.length)]⟩))) 100 (some (⟨62,2,true,rV tSn a⟩))) 101 (some (⟨62,2,true,rV tSn b⟩))) 102 (some (⟨62,2,true,rV tSn c⟩))),(upd (upd (upd (upd (upd (upd (fun _=>none) 6 (some ((bgR (.own (.sl 31 1 0 1)))))) 31 (some (⟨45,1,false,[.own (.sl 100 2 0 a.length)]⟩))) 20 (some (⟨45,1,false,[.own (.sl 100 2 0 a.length),.own (.sl 101 2 0 b.length),.own (.sl 102 2 0 c.length)]⟩))) 100 (some (⟨62,2,true,rV tSn a⟩))) 101 (some (⟨62,2,true,rV tSn b⟩))) 102 (some (⟨62,2,true,rV tSn c⟩))),(upd (upd (upd (upd (upd (upd (fun _=>none) 6 (some ((bgR (.own (.sl 32 1 0 2)))))) 32 (some (⟨45,1,false,[.own (.sl 100 2 0 a.length),.own (.sl 101 2 0 b.length)]⟩))) 20 (some (⟨45,1,false,[.own (.sl 100 2 0 a.length),.own (.sl 101 2 0 b.length),.own (.sl 102 2 0 c.length)]⟩))) 100 (some (⟨62,2,true,rV tSn a⟩))) 101 (some (⟨62,2,true,rV tSn b⟩))) 102 (some (⟨62,2,true,rV tSn c⟩)))] (upd (upd (upd (upd (upd (upd (fun _=>none) 6 (some ((bgR (.own (.sl 33 1 0 3)))))) 33 (some (⟨45,1,false,[.own (.sl 100 2 0 a.length),.own (.sl 101 2 0 b.length),.own (.sl 102 2 0 c.length)]⟩))) 20 (some (⟨45,1,false,[.own (.sl 100 2 0 a.length),.own (.sl 101 2 0 b.length),.own (.sl 102 2 0 c.length)]⟩))) 100 (some (⟨62,2,true,rV tSn a⟩))) 101 (some (⟨62,2,true,rV tSn b⟩))) 102 (some (⟨62,2,true,rV tSn c⟩)))) (selS [((nm [6,20,100,101,102])),((nm [6,31,20,100,101,102])),((nm [6,32,20,100,101,102,31]))] ((nm [6,33,20,100,101,102,31,32]))) (fun k=>3 - k) 0 (Nat.zero_le _) (Sub.int rfl (by first | omega | rfl | (dsimp only;omega)) (Sub.cons rfl (Sub.cons rfl Sub.nil))) (SubK.cons rfl (SubK.cons rfl (SubK.cons rfl (SubK.cons rfl (SubK.cons rfl SubK.nil))))) (SupG.val (SupG.own rfl (SupG.own rfl SupG.nil))) (SupH.cons rfl (supJ xb0) (SupH.cons rfl (supJ xb0) (SupH.cons rfl (supJ xb0) (SupH.cons rfl (supJL rfl) (SupH.cons rfl (supJL rfl) SupH.nil))))) (lkOk rfl) ?_
 intro k hk
 rcases (show k=0∨k=1∨k=2∨k=3 by omega) with rfl | rfl | rfl | rfl
 ·
  show wc _ _ _ _ (upd (upd (upd (fun _=>none) 0 (some (.own (.sl 20 1 0 3)))) 3 (some (.own (.ptr 6 0)))) 4 (some (.val (tI 0)))) (upd (upd (upd (upd (upd (fun _=>none) 6 (some ((bgR (.val (tE (.slice none 0 0))))))) 20 (some (⟨45,1,false,[.own (.sl 100 2 0 a.length),.own (.sl 101 2 0 b.length),.own (.sl 102 2 0 c.length)]⟩))) 100 (some (⟨62,2,true,rV tSn a⟩))) 101 (some (⟨62,2,true,rV tSn b⟩))) 102 (some (⟨62,2,true,rV tSn c⟩))) (nm [6,20,100,101,102])
  refine A9 ?_
  refine C_bT rfl (decide_eq_true (by decide)) ?_
  refine A8 ?_
  refine R2 (xa4 sl53 (by omega) (by omega) rfl) rfl rfl (RE (xb7 (0) ti45 rfl rfl) ⟨rfl,trivial⟩ ⟨rfl,trivial⟩ trivial (RE (xe2 (fun j=>cond (Nat.beq j 101) 101 (cond (Nat.beq j 100) 100 (cond (Nat.beq j 30) 6 (cond (Nat.beq j 11) 31 (102))))) (c_putSpans0 a b c) fi53 rfl (krC (ρ:=fun j=>cond (Nat.beq j 101) 101 (cond (Nat.beq j 100) 100 (cond (Nat.beq j 30) 6 (cond (Nat.beq j 11) 31 (102))))) (k:=30) rfl (krN (ρ:=fun j=>cond (Nat.beq j 101) 101 (cond (Nat.beq j 100) 100 (cond (Nat.beq j 30) 6 (cond (Nat.beq j 11) 31 (102))))))) (krC (ρ:=fun j=>cond (Nat.beq j 101) 101 (cond (Nat.beq j 100) 100 (cond (Nat.beq j 30) 6 (cond (Nat.beq j 11) 31 (102))))) (k:=30) rfl (krC (ρ:=fun j=>cond (Nat.beq j 101) 101 (cond (Nat.beq j 100) 100 (cond (Nat.beq j 30) 6 (cond (Nat.beq j 11) 31 (102))))) (k:=11) rfl (krN (ρ:=fun j=>cond (Nat.beq j 101) 101 (cond (Nat.beq j 100) 100 (cond (Nat.beq j 30) 6 (cond (Nat.beq j 11) 31 (102)))))))) ⟨⟨rfl,(SupX.lit rfl)⟩,⟨rfl,(SupX.lit rfl)⟩,trivial⟩ rfl) ⟨rfl,rfl,trivial⟩ ⟨rfl,trivial⟩ ⟨rfl,trivial⟩ ?_))
  refine A8 ?_
  exact fun _ _ hs=>K_famA 1 ⟨(by decide),(by decide)⟩ (Sub.int rfl (by first | omega | rfl | (dsimp only;omega)) (Sub.cons rfl (Sub.cons rfl Sub.nil))) (SubK.cons rfl (SubK.cons rfl (SubK.cons rfl (SubK.cons rfl (SubK.cons rfl (SubK.cons rfl SubK.nil)))))) (SupG.val (SupG.own rfl (SupG.own rfl SupG.nil))) (SupH.cons rfl (supJ xb0) (SupH.cons rfl (supJ xb0) (SupH.cons rfl (supJ xb0) (SupH.cons rfl (supJL rfl) (SupH.cons rfl (supJL rfl) (SupH.cons rfl (supJL rfl) SupH.nil)))))) (lkOk rfl) hs
 ·
  show wc _ _ _ _ (upd (upd (upd (fun _=>none) 0 (some (.own (.sl 20 1 0 3)))) 3 (some (.own (.ptr 6 0)))) 4 (some (.val (tI 1)))) (upd (upd (upd (upd (upd (upd (fun _=>none) 6 (some ((bgR (.own (.sl 31 1 0 1)))))) 31 (some (⟨45,1,false,[.own (.sl 100 2 0 a.length)]⟩))) 20 (some (⟨45,1,false,[.own (.sl 100 2 0 a.length),.own (.sl 101 2 0 b.length),.own (.sl 102 2 0 c.length)]⟩))) 100 (some (⟨62,2,true,rV tSn a⟩))) 101 (some (⟨62,2,true,rV tSn b⟩))) 102 (some (⟨62,2,true,rV tSn c⟩))) (nm [6,31,20,100,101,102])
  refine A9 ?_
  refine C_bT rfl (decide_eq_true (by decide)) ?_
  refine A8 ?_
  refine R2 (xa4 sl53 (by omega) (by omega) rfl) rfl rfl (RE (xb7 (1) ti45 rfl rfl) ⟨rfl,trivial⟩ ⟨rfl,trivial⟩ trivial (RE (xe2 (fun j=>cond (Nat.beq j 102) 102 (cond (Nat.beq j 101) 101 (cond (Nat.beq j 100) 100 (cond (Nat.beq j 30) 6 (cond (Nat.beq j 11) 32 (31)))))) (c_putSpans1 a b c) fi53 rfl (krC (ρ:=fun j=>cond (Nat.beq j 102) 102 (cond (Nat.beq j 101) 101 (cond (Nat.beq j 100) 100 (cond (Nat.beq j 30) 6 (cond (Nat.beq j 11) 32 (31)))))) (k:=30) rfl (krC (ρ:=fun j=>cond (Nat.beq j 102) 102 (cond (Nat.beq j 101) 101 (cond (Nat.beq j 100) 100 (cond (Nat.beq j 30) 6 (cond (Nat.beq j 11) 32 (31)))))) (k:=31) rfl (krC (ρ:=fun j=>cond (Nat.beq j 102) 102 (cond (Nat.beq j 101) 101 (cond (Nat.beq j 100) 100 (cond (Nat.beq j 30) 6 (cond (Nat.beq j 11) 32 (31)))))) (k:=100) xc2 (krN (ρ:=fun j=>cond (Nat.beq j 102) 102 (cond (Nat.beq j 101) 101 (cond (Nat.beq j 100) 100 (cond (Nat.beq j 30) 6 (cond (Nat.beq j 11) 32 (31)))))))))) (krC (ρ:=fun j=>cond (Nat.beq j 102) 102 (cond (Nat.beq j 101) 101 (cond (Nat.beq j 100) 100 (cond (Nat.beq j 30) 6 (cond (Nat.beq j 11) 32 (31)))))) (k:=30) rfl (krC (ρ:=fun j=>cond (Nat.beq j 102) 102 (cond (Nat.beq j 101) 101 (cond (Nat.beq j 100) 100 (cond (Nat.beq j 30) 6 (cond (Nat.beq j 11) 32 (31)))))) (k:=11) rfl (krC (ρ:=fun j=>cond (Nat.beq j 102) 102 (cond (Nat.beq j 101) 101 (cond (Nat.beq j 100) 100 (cond (Nat.beq j 30) 6 (cond (Nat.beq j 11) 32 (31)))))) (k:=100) xc2 (krN (ρ:=fun j=>cond (Nat.beq j 102) 102 (cond (Nat.beq j 101) 101 (cond (Nat.beq j 100) 100 (cond (Nat.beq j 30) 6 (cond (Nat.beq j 11) 32 (31)))))))))) ⟨⟨rfl,(SupX.lit rfl)⟩,⟨rfl,(SupX.lit rfl)⟩,⟨rfl,xb0⟩,trivial⟩ rfl) ⟨rfl,rfl,trivial⟩ ⟨rfl,rfl,rfl,trivial⟩ ⟨rfl,trivial⟩ ?_))
  refine A8 ?_
  exact fun _ _ hs=>K_famA 2 ⟨(by decide),(by decide)⟩ (Sub.int rfl (by first | omega | rfl | (dsimp only;omega)) (Sub.cons rfl (Sub.cons rfl Sub.nil))) (SubK.cons rfl (SubK.cons rfl (SubK.cons rfl (SubK.cons rfl (SubK.cons rfl (SubK.cons rfl SubK.nil)))))) (SupG.val (SupG.own rfl (SupG.own rfl SupG.nil))) (SupH.cons rfl (supJ xb0) (SupH.cons rfl (supJ xb0) (SupH.cons rfl (supJ xb0) (SupH.cons rfl (supJL rfl) (SupH.cons rfl (supJL rfl) (SupH.cons rfl (supJL rfl) SupH.nil)))))) (lkOk rfl) hs
 ·
  show wc _ _ _ _ (upd (upd (upd (fun _=>none) 0 (some (.own (.sl 20 1 0 3)))) 3 (some (.own (.ptr 6 0)))) 4 (some (.val (tI 2)))) (upd (upd (upd (upd (upd (upd (fun _=>none) 6 (some ((bgR (.own (.sl 32 1 0 2)))))) 32 (some (⟨45,1,false,[.own (.sl 100 2 0 a.length),.own (.sl 101 2 0 b.length)]⟩))) 20 (some (⟨45,1,false,[.own (.sl 100 2 0 a.length),.own (.sl 101 2 0 b.length),.own (.sl 102 2 0 c.length)]⟩))) 100 (some (⟨62,2,true,rV tSn a⟩))) 101 (some (⟨62,2,true,rV tSn b⟩))) 102 (some (⟨62,2,true,rV tSn c⟩))) (nm [6,32,20,100,101,102,31])
  refine A9 ?_
  refine C_bT rfl (decide_eq_true (by decide)) ?_
  refine A8 ?_
  refine R2 (xa4 sl53 (by omega) (by omega) rfl) rfl rfl (RE (xb7 (2) ti45 rfl rfl) ⟨rfl,trivial⟩ ⟨rfl,trivial⟩ trivial (RE (xe2 (fun j=>cond (Nat.beq j 102) 102 (cond (Nat.beq j 101) 101 (cond (Nat.beq j 100) 100 (cond (Nat.beq j 30) 6 (cond (Nat.beq j 11) 33 (32)))))) (c_putSpans2 a b c) fi53 rfl (krC (ρ:=fun j=>cond (Nat.beq j 102) 102 (cond (Nat.beq j 101) 101 (cond (Nat.beq j 100) 100 (cond (Nat.beq j 30) 6 (cond (Nat.beq j 11) 33 (32)))))) (k:=30) rfl (krC (ρ:=fun j=>cond (Nat.beq j 102) 102 (cond (Nat.beq j 101) 101 (cond (Nat.beq j 100) 100 (cond (Nat.beq j 30) 6 (cond (Nat.beq j 11) 33 (32)))))) (k:=31) rfl (krC (ρ:=fun j=>cond (Nat.beq j 102) 102 (cond (Nat.beq j 101) 101 (cond (Nat.beq j 100) 100 (cond (Nat.beq j 30) 6 (cond (Nat.beq j 11) 33 (32)))))) (k:=100) xc2 (krC (ρ:=fun j=>cond (Nat.beq j 102) 102 (cond (Nat.beq j 101) 101 (cond (Nat.beq j 100) 100 (cond (Nat.beq j 30) 6 (cond (Nat.beq j 11) 33 (32)))))) (k:=101) xc2 (krN (ρ:=fun j=>cond (Nat.beq j 102) 102 (cond (Nat.beq j 101) 101 (cond (Nat.beq j 100) 100 (cond (Nat.beq j 30) 6 (cond (Nat.beq j 11) 33 (32))))))))))) (krC (ρ:=fun j=>cond (Nat.beq j 102) 102 (cond (Nat.beq j 101) 101 (cond (Nat.beq j 100) 100 (cond (Nat.beq j 30) 6 (cond (Nat.beq j 11) 33 (32)))))) (k:=30) rfl (krC (ρ:=fun j=>cond (Nat.beq j 102) 102 (cond (Nat.beq j 101) 101 (cond (Nat.beq j 100) 100 (cond (Nat.beq j 30) 6 (cond (Nat.beq j 11) 33 (32)))))) (k:=11) rfl (krC (ρ:=fun j=>cond (Nat.beq j 102) 102 (cond (Nat.beq j 101) 101 (cond (Nat.beq j 100) 100 (cond (Nat.beq j 30) 6 (cond (Nat.beq j 11) 33 (32)))))) (k:=100) xc2 (krC (ρ:=fun j=>cond (Nat.beq j 102) 102 (cond (Nat.beq j 101) 101 (cond (Nat.beq j 100) 100 (cond (Nat.beq j 30) 6 (cond (Nat.beq j 11) 33 (32)))))) (k:=101) xc2 (krN (ρ:=fun j=>cond (Nat.beq j 102) 102 (cond (Nat.beq j 101) 101 (cond (Nat.beq j 100) 100 (cond (Nat.beq j 30) 6 (cond (Nat.beq j 11) 33 (32))))))))))) ⟨⟨rfl,(SupX.lit rfl)⟩,⟨rfl,(SupX.lit rfl)⟩,⟨rfl,xb0⟩,⟨rfl,xb0⟩,trivial⟩ rfl) ⟨rfl,rfl,trivial⟩ ⟨rfl,rfl,rfl,rfl,trivial⟩ ⟨rfl,trivial⟩ ?_))
  refine A8 ?_
  exact fun _ _ hs=>K_famA 3 ⟨(by decide),(by decide)⟩ (Sub.int rfl (by first | omega | rfl | (dsimp only;omega)) (Sub.cons rfl (Sub.cons rfl Sub.nil))) (SubK.cons rfl (SubK.cons rfl (SubK.cons rfl (SubK.cons rfl (SubK.cons rfl (SubK.cons rfl SubK.nil)))))) (SupG.val (SupG.own rfl (SupG.own rfl SupG.nil))) (SupH.cons rfl (supJ xb0) (SupH.cons rfl (supJ xb0) (SupH.cons rfl (supJ xb0) (SupH.cons rfl (supJL rfl) (SupH.cons rfl (supJL rfl) (SupH.cons rfl (supJL rfl) SupH.nil)))))) (lkOk rfl) hs
 ·
  show wc _ _ _ _ (upd (upd (upd (fun _=>none) 0 (some (.own (.sl 20 1 0 3)))) 3 (some (.own (.ptr 6 0)))) 4 (some (.val (tI 3)))) (upd (upd (upd (upd (upd (upd (fun _=>none) 6 (some ((bgR (.own (.sl 33 1 0 3)))))) 33 (some (⟨45,1,false,[.own (.sl 100 2 0 a.length),.own (.sl 101 2 0 b.length),.own (.sl 102 2 0 c.length)]⟩))) 20 (some (⟨45,1,false,[.own (.sl 100 2 0 a.length),.own (.sl 101 2 0 b.length),.own (.sl 102 2 0 c.length)]⟩))) 100 (some (⟨62,2,true,rV tSn a⟩))) 101 (some (⟨62,2,true,rV tSn b⟩))) 102 (some (⟨62,2,true,rV tSn c⟩))) (nm [6,33,20,100,101,102,31,32])
  refine A9 ?_
  refine xb2 rfl (decide_eq_false (by decide)) ?_
  refine A8 ?_
  refine RE (xe2 (fun j=>cond (Nat.beq j 101) 101 (cond (Nat.beq j 100) 100 (cond (Nat.beq j 20) 33 (cond (Nat.beq j 30) 6 (102))))) (c_apart3 a b c ha hb hc) fi54 rfl (krC (ρ:=fun j=>cond (Nat.beq j 101) 101 (cond (Nat.beq j 100) 100 (cond (Nat.beq j 20) 33 (cond (Nat.beq j 30) 6 (102))))) (k:=30) rfl (krC (ρ:=fun j=>cond (Nat.beq j 101) 101 (cond (Nat.beq j 100) 100 (cond (Nat.beq j 20) 33 (cond (Nat.beq j 30) 6 (102))))) (k:=20) rfl (krC (ρ:=fun j=>cond (Nat.beq j 101) 101 (cond (Nat.beq j 100) 100 (cond (Nat.beq j 20) 33 (cond (Nat.beq j 30) 6 (102))))) (k:=100) xc2 (krC (ρ:=fun j=>cond (Nat.beq j 101) 101 (cond (Nat.beq j 100) 100 (cond (Nat.beq j 20) 33 (cond (Nat.beq j 30) 6 (102))))) (k:=101) xc2 (krC (ρ:=fun j=>cond (Nat.beq j 101) 101 (cond (Nat.beq j 100) 100 (cond (Nat.beq j 20) 33 (cond (Nat.beq j 30) 6 (102))))) (k:=102) xc2 (krN (ρ:=fun j=>cond (Nat.beq j 101) 101 (cond (Nat.beq j 100) 100 (cond (Nat.beq j 20) 33 (cond (Nat.beq j 30) 6 (102))))))))))) (krN (ρ:=fun j=>cond (Nat.beq j 101) 101 (cond (Nat.beq j 100) 100 (cond (Nat.beq j 20) 33 (cond (Nat.beq j 30) 6 (102)))))) trivial rfl) ⟨rfl,trivial⟩ ⟨rfl,rfl,rfl,rfl,rfl,trivial⟩ trivial ?_
  refine A4 ?_
  exact xe8 LentC.mk' rfl rfl Imp.refl trivial rfl trivial rfl
instance fi6:FnI Tryz.prog 6:=⟨_,Tryz.func6,by kernel_rfl,rfl⟩
instance fi7:FnI Tryz.prog 7:=⟨_,Tryz.func7,by kernel_rfl,rfl⟩
instance fi21:FnI Tryz.prog 21:=⟨_,Tryz.func21,by kernel_rfl,rfl⟩
instance fi22:FnI Tryz.prog 22:=⟨_,Tryz.func22,by kernel_rfl,rfl⟩
instance fi25:FnI Tryz.prog 25:=⟨_,Tryz.func25,by kernel_rfl,rfl⟩
theorem xz7 (x:List Sn):Ct Tryz.prog 24 [tL 2 true tSn x,tL 2 true tSn x] (tB true):=by
 have:=c_SameSpans x x
 rw [decide_eq_true rfl] at this;exact this
theorem c_LentStepsC (l:List Tst) (hl:l.length≤60) (hs: ∀s∈l,s.v.f.n.l.length≤1048576∧s.v.f.d.l.length≤1048576):Ct Tryz.prog 16 [tL 8 true tTs l] (tStW l):=
 (c_LentStepsN l hl hs).toCt fun _=>tG_le
theorem brk_lenW {w:List Sn}:(brk w).length≤w.length:=by rw [brk];simp
theorem brg_lenW (d:Int): ∀(w acc:List Sn),(w.foldl (brg1 d) acc).length≤acc.length+w.length
 | [],acc=>by simp
 | s::r,acc=>by
  have h:=brg_lenW d r (brg1 d acc s)
  have h2:(brg1 d acc s).length≤acc.length+1:=by
   rw [brg1];split
   ·rw [List.length_set];omega
   ·simp
  rw [List.foldl_cons,List.length_cons];omega
theorem setsLen {l:List Tst} {a b d:Int} (hl:l.length≤60) {c:Prop} [Decidable c]:(if c then wkd l a b else []).length≤1000000∧(if c then brk (wkd l a b) else []).length≤1000000∧(if c then brg d (wkd l a b) else []).length≤1000000:=by
 have h1:=wkd_len (l:=l) (a:=a) (b:=b)
 have h2:=brk_lenW (w:=wkd l a b)
 have h3:=brg_lenW d (wkd l a b) []
 rw [←brg] at h3
 have h4:([]:List Sn).length=0:=rfl
 split
 ·exact ⟨by omega,by omega,by omega⟩
 ·exact ⟨by omega,by omega,by omega⟩
theorem c_sets8 (l:List Tst) (a b d:Int) (hl:l.length≤60) (hD: ∀s∈l,s.v.f.dig) (hs: ∀s∈l,s.v.f.n.l.length≤1200∧s.v.f.d.l.length≤1200):
  Ct Tryz.prog 6 [tL 8 true tTs l,tI a,tI b,tI d] (tB true):=by
 refine Ct.intro Tryz.func6 rfl Tryz.ntmps6 rfl ?_
 intro w F
 refine xb3 ?_
 refine xb6 ?_
 refine R1 xa8 rfl (xb4 (by kernel_rfl) (xa5 (xb3 ?_)))
 refine xb6 ?_
 refine R1 x5 rfl (R1 (x3 (c_LentStepsC l hl (fun s hsm=>by have:=hs s hsm;omega)) fi16 rfl) rfl (R1 xa8 rfl (xb4 (by kernel_rfl) (xa5 (xb3 ?_)))))
 refine xb6 ?_
 refine R1 x5 rfl (R1 x5 rfl (R1 x5 rfl (RE (xe2 (fun _=>28) (CtG.le1 stW_le (c_WorkedO l a b (by omega) hD _ _ rfl rfl)) fi17 rfl (krN (ρ:=fun _=>28)) (krC (ρ:=fun _=>28) (k:=20) xc2 (krN (ρ:=fun _=>28))) ⟨⟨rfl,xb0⟩,trivial⟩ rfl) ⟨rfl,rfl,rfl,trivial⟩ trivial ⟨rfl,trivial⟩ (R1 x5 rfl (R1 (xk1 rfl) rfl (R1 (xk1 rfl) rfl (R1 xa8 rfl ?_)))))))
 refine R1 xa8 rfl (xb4 (by kernel_rfl) (xa5 (xb3 ?_)))
 refine xb6 ?_
 refine R1 x5 rfl (R1 x5 rfl (R1 x5 rfl (RE (xe2 (fun _=>35) (CtG.le1 stW_le (c_BreaksO l a b (by omega) hD _ _ rfl rfl)) fi18 rfl (krN (ρ:=fun _=>35)) (krC (ρ:=fun _=>35) (k:=10) xc2 (krN (ρ:=fun _=>35))) ⟨⟨rfl,xb0⟩,trivial⟩ rfl) ⟨rfl,rfl,rfl,trivial⟩ trivial ⟨rfl,trivial⟩ (R1 x5 rfl (R1 (xk1 rfl) rfl (R1 (xk1 rfl) rfl (R1 xa8 rfl ?_)))))))
 refine R1 xa8 rfl (xb4 (by kernel_rfl) (xa5 (xb3 ?_)))
 refine xb6 ?_
 refine R1 x5 rfl (R1 x5 rfl (R1 x5 rfl (R1 x5 rfl (RE (xe2 (fun _=>43) (CtG.le1 stW_le (c_PeriodsO l a b d (by omega) hD _ _ rfl rfl)) fi19 rfl (krN (ρ:=fun _=>43)) (krC (ρ:=fun _=>43) (k:=28) xc2 (krN (ρ:=fun _=>43))) ⟨⟨rfl,xb0⟩,trivial⟩ rfl) ⟨rfl,rfl,rfl,rfl,trivial⟩ trivial ⟨rfl,trivial⟩ (R1 x5 rfl (R1 (xk1 rfl) rfl (R1 (xk1 rfl) rfl ?_)))))))
 refine R1 xa8 rfl (R1 xa8 rfl (xb4 (by kernel_rfl) (xa5 (xb3 ?_))))
 refine xb6 ?_
 refine R1 x5 rfl (R1 x5 rfl (R1 x5 rfl (R3 (x3 (c_R8Worked l (by omega) a b hD (fun s hsm=>by have:=hs s hsm;omega)) fi20 rfl) rfl rfl rfl (R1 x5 rfl (R1 (xo8 rfl) rfl (R1 (xo8 rfl) rfl (R1 xa8 rfl ?_)))))))
 refine R1 xa8 rfl (xb4 (by kernel_rfl) (xa5 (xb3 ?_)))
 refine xb6 ?_
 refine R1 x5 rfl (R1 x5 rfl (R1 x5 rfl (R3 (x3 (c_R8Breaks l (by omega) a b hD (fun s hsm=>by have:=hs s hsm;omega)) fi21 rfl) rfl rfl rfl (R1 x5 rfl (R1 (xo8 rfl) rfl (R1 (xo8 rfl) rfl (R1 xa8 rfl ?_)))))))
 refine R1 xa8 rfl (xb4 (by kernel_rfl) (xa5 (xb3 ?_)))
 refine xb6 ?_
 refine R1 x5 rfl (R1 x5 rfl (R1 x5 rfl (R1 x5 rfl (RE (x3 (c_R8Periods l (by omega) a b d hD (fun s hsm=>by have:=hs s hsm;omega)) fi22 rfl) ⟨rfl,rfl,rfl,rfl,trivial⟩ trivial trivial (R1 x5 rfl (R1 (xo8 rfl) rfl (R1 (xo8 rfl) rfl ?_)))))))
 refine R1 xa8 rfl (R1 xa8 rfl (xb4 (by kernel_rfl) (xa5 (xb3 (xb3 ?_)))))
 refine xb6 ?_
 refine R1 x5 rfl (R1 x5 rfl (R2 d_neq rfl rfl (R1 x5 rfl (RGon (decide_eq_false (by simp)) rfl x5 rfl ⟨rfl,trivial⟩ trivial trivial (RGon (decide_eq_false (by simp)) rfl x5 rfl ⟨rfl,trivial⟩ trivial trivial (RGon (decide_eq_false (by simp)) rfl d_neq rfl ⟨rfl,rfl,trivial⟩ trivial trivial (R2 (xc7 (decide_eq_false (by simp))) rfl rfl ?_)))))))
 refine R1 x5 rfl (RGon (decide_eq_false (by simp)) rfl x5 rfl ⟨rfl,trivial⟩ trivial trivial (RGon (decide_eq_false (by simp)) rfl x5 rfl ⟨rfl,trivial⟩ trivial trivial (RGon (decide_eq_false (by simp)) rfl d_neq rfl ⟨rfl,rfl,trivial⟩ trivial trivial (R2 (xc7 (decide_eq_false (by simp))) rfl rfl (R1 x5 rfl (RGon (decide_eq_false (by simp)) rfl x5 rfl ⟨rfl,trivial⟩ trivial trivial (RGon (decide_eq_false (by simp)) rfl x5 rfl ⟨rfl,trivial⟩ trivial trivial ?_)))))))
 refine RGon (decide_eq_false (by simp)) rfl (x3 (c_KeptSteps l hl (fun s hsm=>by have:=hs s hsm;omega)) fi23 rfl) rfl ⟨rfl,rfl,trivial⟩ trivial trivial (RGon (decide_eq_false (by simp)) rfl xi1 rfl ⟨rfl,trivial⟩ trivial trivial (R2 (xc7 (decide_eq_false (by simp))) rfl rfl (xb4 (by kernel_rfl) (xa5 (xb2 rfl rfl (xh2 (xa5 ?_)))))))
 refine xb3 ?_
 refine xb6 ?_
 refine R1 x5 rfl (R1 x5 rfl (RE (d_callR 28 62 2 (if askB l a b=true then wkd l a b else []).length [.own (.sl 28 2 0 (if askB l a b=true then wkd l a b else []).length),.val (tL 2 true tSn (if askB l a b=true then wkd l a b else []))] (fun _ _ _ _ h=>h) (xz7 (if askB l a b=true then wkd l a b else [])) fi24 (fun _ h=>h) (xi4 rfl) rfl ⟨.inr ⟨rfl,rfl⟩,.inl rfl,trivial⟩ rfl) ⟨rfl,rfl,trivial⟩ ⟨rfl,trivial⟩ trivial (R1 x5 rfl (RGon rfl rfl x5 rfl ⟨rfl,trivial⟩ trivial trivial (RGon rfl rfl x5 rfl ⟨rfl,trivial⟩ trivial trivial (RGon rfl rfl (d_callR 35 62 2 (if askB l a b=true then brk (wkd l a b) else []).length [.own (.sl 35 2 0 (if askB l a b=true then brk (wkd l a b) else []).length),.val (tL 2 true tSn (if askB l a b=true then brk (wkd l a b) else []))] (fun _ _ _ _ h=>h) (xz7 (if askB l a b=true then brk (wkd l a b) else [])) fi24 (fun _ h=>h) (xi4 rfl) rfl ⟨.inr ⟨rfl,rfl⟩,.inl rfl,trivial⟩ rfl) rfl ⟨rfl,rfl,trivial⟩ ⟨rfl,trivial⟩ trivial (R2 (xe3 rfl) rfl rfl ?_)))))))
 refine R1 x5 rfl (RGon rfl rfl x5 rfl ⟨rfl,trivial⟩ trivial trivial (RGon rfl rfl x5 rfl ⟨rfl,trivial⟩ trivial trivial (RGon rfl rfl (d_callR 43 62 2 (if askB l a b=true∧sVal (wkd l a b)=true∧0≤d then brg d (wkd l a b) else []).length [.own (.sl 43 2 0 (if askB l a b=true∧sVal (wkd l a b)=true∧0≤d then brg d (wkd l a b) else []).length),.val (tL 2 true tSn (if askB l a b=true∧sVal (wkd l a b)=true∧0≤d then brg d (wkd l a b) else []))] (fun _ _ _ _ h=>h) (xz7 (if askB l a b=true∧sVal (wkd l a b)=true∧0≤d then brg d (wkd l a b) else [])) fi24 (fun _ h=>h) (xi4 rfl) rfl ⟨.inr ⟨rfl,rfl⟩,.inl rfl,trivial⟩ rfl) rfl ⟨rfl,rfl,trivial⟩ ⟨rfl,trivial⟩ trivial (R2 (xe3 rfl) rfl rfl (R1 x5 rfl (RGon rfl rfl x5 rfl ⟨rfl,trivial⟩ trivial trivial (RGon rfl rfl x5 rfl ⟨rfl,trivial⟩ trivial trivial ?_)))))))
 refine RGon rfl rfl x5 rfl ⟨rfl,trivial⟩ trivial trivial (RGon rfl rfl (xp1 (k:=104) (ents:=[.own (.sl 28 2 0 (if askB l a b=true then wkd l a b else []).length),.own (.sl 35 2 0 (if askB l a b=true then brk (wkd l a b) else []).length),.own (.sl 43 2 0 (if askB l a b=true∧sVal (wkd l a b)=true∧0≤d then brg d (wkd l a b) else []).length)]) Tryz.underlying53 el45 zf45 rfl (by intro e he;simp only [List.mem_cons,List.not_mem_nil,or_false] at he;rcases he with rfl | rfl | rfl <;> infer_instance) rfl rfl rfl) rfl ⟨rfl,rfl,rfl,trivial⟩ trivial ⟨rfl,trivial⟩ (RGon rfl rfl (xe2 (fun j=>cond (Nat.beq j 101) 35 (cond (Nat.beq j 100) 28 (cond (Nat.beq j 20) 104 (43)))) (c_ApartSpans (if askB l a b=true then wkd l a b else []) (if askB l a b=true then brk (wkd l a b) else []) (if askB l a b=true∧sVal (wkd l a b)=true∧0≤d then brg d (wkd l a b) else []) (setsLen (d:=d) hl).1 (setsLen (d:=d) hl).2.1 (setsLen hl).2.2) fi25 rfl (krC (ρ:=fun j=>cond (Nat.beq j 101) 35 (cond (Nat.beq j 100) 28 (cond (Nat.beq j 20) 104 (43)))) (k:=20) rfl (krC (ρ:=fun j=>cond (Nat.beq j 101) 35 (cond (Nat.beq j 100) 28 (cond (Nat.beq j 20) 104 (43)))) (k:=100) xc2 (krC (ρ:=fun j=>cond (Nat.beq j 101) 35 (cond (Nat.beq j 100) 28 (cond (Nat.beq j 20) 104 (43)))) (k:=101) xc2 (krC (ρ:=fun j=>cond (Nat.beq j 101) 35 (cond (Nat.beq j 100) 28 (cond (Nat.beq j 20) 104 (43)))) (k:=102) xc2 (krN (ρ:=fun j=>cond (Nat.beq j 101) 35 (cond (Nat.beq j 100) 28 (cond (Nat.beq j 20) 104 (43))))))))) (krN (ρ:=fun j=>cond (Nat.beq j 101) 35 (cond (Nat.beq j 100) 28 (cond (Nat.beq j 20) 104 (43))))) trivial rfl) rfl ⟨rfl,trivial⟩ ⟨rfl,rfl,rfl,rfl,trivial⟩ trivial (R2 (xe3 rfl) rfl rfl (R1 xa8 rfl (xb4 (by kernel_rfl) (xa5 (C_ret ?_)))))))
 exact x4 Plain.mk' rfl rfl Le.refl
instance fi11:FnI Tryz.prog 11:=⟨_,Tryz.func11,by kernel_rfl,rfl⟩
instance fi13:FnI Tryz.prog 13:=⟨_,Tryz.func13,by kernel_rfl,rfl⟩
instance fi14:FnI Tryz.prog 14:=⟨_,Tryz.func14,by kernel_rfl,rfl⟩
instance fi41:FnI Tryz.prog 41:=⟨_,Tryz.func41,by kernel_rfl,rfl⟩
instance fi81:FnI Tryz.prog 81:=⟨_,Tryz.func81,by kernel_rfl,rfl⟩
instance fi82:FnI Tryz.prog 82:=⟨_,Tryz.func82,by kernel_rfl,rfl⟩
theorem zf3:Flat 1 false (.int .i64 0):=xf9 rfl
theorem c_R2FloorR (q:Rat) (h:short q):Ct Tryz.prog 81 [tFr (resF q)] (tT [tWh (wh q.floor),tI 0]):=by
 rw [show resF q=fr q from if_pos h];exact c_R2Floor q h
theorem c_R8Months (f:Fr) (hF:f.dig):
  Ct Tryz.prog 41 [tFr f] (tT [tI (if moC f then (m12 f).floor else 0),tI (if moB f then (if moC f then 0 else 3) else 2)]):=by
 refine Ct.intro Tryz.func41 rfl Tryz.ntmps41 rfl ?_
 intro w F
 refine A11 ?_
 refine R1 (x3 (xq6 f hF.1 hF.2) fi71 rfl) rfl ?_
 refine A2 ?_
 refine RGcase (t:=13) rfl (fun h58=> ?_) (fun h58=> ?_)
 ·
  have hk: ¬moB f:=fun h=>by rw [h.1] at h58;cases h58
  refine A15 ?_
  exact xc3 Plain.mk' rfl rfl rfl (Le.int (by rw [if_neg (fun h=>hk h.1)])) (Le.int (by rw [if_neg hk]))
 ·
  have hv:f.valid=true:=by simpa using h58
  refine A2 ?_
  refine xd0 h58 rfl rfl (0) ti4 rfl rfl rfl (At.t (At.g 0 rfl rfl) (At.g 0 rfl rfl)) rfl ?_
  refine A3 ?_
  refine xd4 rfl (fun h58_2=> ?_) (fun h58_2=> ?_)
  ·
   have hk: ¬moB f:=fun h=>by rw [h.2] at h58_2;cases h58_2
   refine A8 ?_
   exact xc3 Plain.mk' rfl rfl rfl (Le.int (by rw [if_neg (fun h=>hk h.1)])) (Le.int (by rw [if_neg hk]))
  ·
   have hb:moB f:=⟨hv,h58_2⟩
   have hf:=Fr.of_valid' hF hv
   refine A5 ?_
   refine R1 (x3 (xv2 12 (by decide) (by decide)) fi76 rfl) rfl (R2 (x3 (c_R2MulT f 12 hf.1 hf.2 (xh6 (len16_small (by decide) (by decide)))) fi69 rfl) rfl rfl ?_)
   refine A3 ?_
   refine RE (x9 (k:=4) (n:=4) (agg:=true) zr30.1 zr30.2 rfl) trivial trivial ⟨rfl,trivial⟩ ?_
   refine A11 ?_
   refine x8 rfl (fun h62=> ?_) (fun h62=> ?_)
   ·
    refine A9 ?_
    exact xc3 Plain.mk' rfl rfl rfl (Le.int (by rw [if_neg (fun h:moC f=>xe0 h62 h.2.1)])) (Le.int (by rw [if_pos hb,if_neg (fun h:moC f=>xe0 h62 h.2.1),resFE,if_neg (xe0 h62)]))
   ·
    have hs:short (m12 f):=xh0 (Decidable.not_not.1 h62)
    have hlen:=len_floor hs
    have hn0:=m12_nonneg hF hb
    refine A5 ?_
    refine R1 (x3 (c_R2FloorR (m12 f) hs) fi81 rfl) rfl ?_
    refine A3 ?_
    refine RE (x9 (k:=6) (n:=2) (agg:=true) zr28.1 zr28.2 rfl) trivial trivial ⟨rfl,trivial⟩ ?_
    refine A7 ?_
    refine R1 (x3 (c_RInt (m12 f).floor (by omega)) fi82 rfl) rfl ?_
    refine A13 ?_
    refine RGcaseD (t:=39) rfl (fun h67=> ?_) (fun h67=> ?_)
    ·
     have hfit:fits (m12 f).floor=false:=by
      cases h:fits (m12 f).floor with
      | false=>rfl
      | true=>exact absurd (by rw [h];rfl) h67
     have hnc: ¬moC f:=fun h=>by
      have h2:=h.2.2
      have h3:fits (m12 f).floor=true:=by simp only [fits,Bool.and_eq_true,decide_eq_true_eq];omega
      rw [hfit] at h3;cases h3
     refine A14 ?_
     exact xc3 Plain.mk' rfl rfl rfl (Le.int (by rw [if_neg hnc])) (Le.int (by rw [if_pos hb,if_neg hnc]))
    ·
     have hfit:fits (m12 f).floor=true:=by
      cases h:fits (m12 f).floor with
      | true=>rfl
      | false=>exact absurd (by rw [h];decide) h67
     refine A5 ?_
     refine x8 rfl (fun h67_2=> ?_) (fun h67_2=> ?_)
     ·
      have hnc: ¬moC f:=fun h=>by
       have h2:=h.2.2
       rw [if_pos hfit] at h67_2;omega
      refine A8 ?_
      exact xc3 Plain.mk' rfl rfl rfl (Le.int (by rw [if_neg hnc])) (Le.int (by rw [if_pos hb,if_neg hnc]))
     ·
      rw [if_pos hfit] at h67_2
      have hc:moC f:=⟨hb,hs,by omega⟩
      refine A10 ?_
      exact xc3 Plain.mk' rfl rfl rfl (Le.int (by rw [if_pos hfit,if_pos hc])) (Le.int (by rw [if_pos hb,if_pos hc]))
theorem xv7 (f:Fr) (hF:f.dig):
  Ct Tryz.prog 14 [tFr f] (tB true):=by
 refine Ct.intro Tryz.func14 rfl Tryz.ntmps14 rfl ?_
 intro w F
 refine A9 ?_
 refine R1 (x3 (c_Months f hF) fi29 rfl) rfl ?_
 refine A10 ?_
 refine R1 (x3 (c_R8Months f hF) fi41 rfl) rfl ?_
 refine A13 ?_
 refine RGon (decide_eq_true (by rfl)) rfl x5 rfl ⟨rfl,trivial⟩ trivial trivial (RGon (decide_eq_true (by rfl)) rfl x5 rfl ⟨rfl,trivial⟩ trivial trivial (RGon (decide_eq_true (by rfl)) rfl d_eql rfl ⟨rfl,rfl,trivial⟩ trivial trivial (R2 (xe3 (decide_eq_true (by rfl))) rfl rfl ?_)))
 refine A4 ?_
 exact x4 Plain.mk' rfl rfl (Le.bool (decide_eq_true rfl))
def gdS (s:Tst):Prop:=s.v.f.dig∧s.v.f.n.l.length≤256∧s.v.f.d.l.length≤256
theorem gd_kfr {n d:Int} (h1: -9223372036854775808≤n) (h2:n≤9223372036854775807) (hd:0 < d) (h3:d≤9223372036854775807):(fr (kfr n d)).dig∧(fr (kfr n d)).n.l.length≤256∧(fr (kfr n d)).d.l.length≤256:=by
 have h:=short_kfr hd h1 h2 h3
 exact ⟨dig_fr _,h.1,h.2⟩
theorem xq9 {a b n d:Int} {k:Nat} (h1: -9223372036854775808≤n) (h2:n≤9223372036854775807) (hd:0 < d) (h3:d≤9223372036854775807):gdS ⟨a,b,⟨k,fr (kfr n d),0⟩⟩:=gd_kfr h1 h2 hd h3
theorem gd_all {l:List Tst} (h: ∀s∈l,gdS s):(∀s∈l,s.v.f.dig)∧ ∀s∈l,s.v.f.n.l.length≤1200∧s.v.f.d.l.length≤1200:=
 ⟨fun s hs=>(h s hs).1,fun s hs=>by have:=(h s hs).2;omega⟩
theorem gd_set {l:List Tst} {i:Nat} {x:Tst} (h: ∀s∈l,gdS s) (hx:gdS x): ∀s∈l.set i x,gdS s:=fun s hs=>by
 rcases List.mem_or_eq_of_mem_set hs with hs | rfl
 ·exact h s hs
 ·exact hx
theorem gd_snoc {l:List Tst} {x:Tst} (h: ∀s∈l,gdS s) (hx:gdS x): ∀s∈l++[x],gdS s:=fun s hs=>by
 rcases List.mem_append.1 hs with hs | hs
 ·exact h s hs
 ·rw [List.mem_singleton.1 hs];exact hx
theorem gd_one {x:Tst} (hx:gdS x): ∀s∈[x],gdS s:=fun s hs=>by rw [List.mem_singleton.1 hs];exact hx
theorem gd_two {x y:Tst} (hx:gdS x) (hy:gdS y): ∀s∈[x,y],gdS s:=fun s hs=>by
 rcases List.mem_cons.1 hs with rfl | hs
 ·exact hx
 ·exact gd_one hy s hs
section
variable (l:List Tst) (hg: ∀s∈l,gdS s)
include hg
theorem c_setsG (a b d:Int) (hl:l.length≤60):Ct Tryz.prog 6 [tL 8 true tTs l,tI a,tI b,tI d] (tB true):=c_sets8 l a b d hl (gd_all hg).1 (gd_all hg).2
theorem c_yearsG (a b:Int) (f:Fr) (hl:l.length≤60) (hF:f.dig) (h1:f.n.l.length≤600) (h2:f.d.l.length≤600):Ct Tryz.prog 11 [tL 8 true tTs l,tI a,tI b,tFr f] (tB true):=c_years8 l a b f hl (gd_all hg).1 (gd_all hg).2 hF h1 h2
theorem c_yearsK (a b n d:Int) (hl:l.length≤60) (h1: -9223372036854775808≤n) (h2:n≤9223372036854775807) (hd:0 < d) (h3:d≤9223372036854775807):Ct Tryz.prog 11 [tL 8 true tTs l,tI a,tI b,tFr (fr (kfr n d))] (tB true):=by
 have h:=gd_kfr h1 h2 hd h3
 exact c_yearsG l hg a b _ hl h.1 (by omega) (by omega)
end
def nums8:List Int:=[-9223372036854775808, -1,0,1,65535,65536,65537,9223372036854775807]
theorem nums8_bd {i:Nat} (h:i < 8): -9223372036854775808≤nums8.getD i 0∧nums8.getD i 0≤9223372036854775807:=by
 rcases (show i=0∨i=1∨i=2∨i=3∨i=4∨i=5∨i=6∨i=7 by omega) with rfl | rfl | rfl | rfl | rfl | rfl | rfl | rfl <;> decide
theorem nums8_len:nums8.length=8:=rfl
def fil (i:Nat):List Nat:=List.replicate i 65535++List.replicate (256 - i) 0
theorem fil_len {i:Nat} (h:i≤256):(fil i).length=256:=by simp [fil];omega
theorem fil_get {i j:Nat} (h:i≤256):(fil i)[j]? =if j < i then some 65535 else if j < 256 then some 0 else none:=by
 rw [fil,List.getElem?_append,List.length_replicate,List.getElem?_replicate,List.getElem?_replicate]
 by_cases h2:j < i
 ·simp [h2]
 ·rw [if_neg h2,if_neg h2]
  by_cases h3:j < 256
  ·rw [if_pos h3,if_pos (by omega)]
  ·rw [if_neg h3,if_neg (by omega)]
theorem fil_set {i:Nat} (h:i < 256):(fil i).set i 65535=fil (i+1):=by
 apply List.ext_getElem?
 intro j
 rw [List.getElem?_set,fil_get (by omega),fil_get (by omega),fil_len (by omega)]
 by_cases h1:i=j
 ·subst h1;rw [if_pos rfl,if_pos h,if_pos (by omega)]
 ·rw [if_neg h1]
  by_cases h2:j < i
  ·rw [if_pos h2,if_pos (by omega)]
  ·rw [if_neg h2,if_neg (show ¬j < i+1 by omega)]
abbrev F11:Fr:=fr (kfr 1 1)
abbrev LNG:Fr:=⟨⟨F11.n.neg,fil 256⟩,F11.d⟩
theorem fil_all:fil 256=List.replicate 256 65535:=by simp [fil]
theorem fil_dig:Dig 65536 (fil 256):=by
 rw [fil_all]
 intro x hx
 rw [List.eq_of_mem_replicate hx];decide
theorem lng_ok:LNG.dig∧LNG.n.l.length≤600∧LNG.d.l.length≤600:=by
 have h:=gd_kfr (n:=1) (d:=1) (by decide) (by decide) (by decide) (by decide)
 exact ⟨⟨fil_dig,h.1.2⟩,by show (fil 256).length≤600;rw [fil_len (Nat.le_refl _)];decide,by have:=h.2.2;show (fr (kfr 1 1)).d.l.length≤600;omega⟩
theorem dig_fr0:fr0.dig:=⟨fun x hx=>(by cases hx),fun x hx=>(by cases hx)⟩
theorem fr_row (f:Fr):Imp (.val (tFr f)) (.own (An.rowV [.val (tB f.n.neg),.val (tLm f.n.l),.val (tB f.d.neg),.val (tLm f.d.l)])):=by
 intro F w η v hv
 obtain ⟨cs,rfl,h2,h3⟩:=hv
 obtain ⟨⟨_,a1⟩,⟨_,a2⟩,_⟩:=h3
 obtain ⟨c1,e1,s1,f1⟩:=a1
 obtain ⟨c2,e2,s2,f2⟩:=a2
 simp only [pick,cond_true,Value.agg.injEq] at e1 e2
 subst e1 e2
 have h4:cs.size=4:=h2
 obtain ⟨⟨_,b1⟩,⟨_,b2⟩,_⟩:=f1
 obtain ⟨⟨_,b3⟩,⟨_,b4⟩,_⟩:=f2
 dsimp only at b1 b2 b3 b4
 rw [xi0 (by omega) (by omega) (fun _=>rfl)] at b1 b2 b3 b4
 refine rowV_sat.2 ⟨cs,rfl,h2,fun i e hi=> ?_⟩
 match i,hi with
 | 0,hi=>cases hi;exact b1
 | 1,hi=>cases hi;exact b2
 | 2,hi=>cases hi;exact b3
 | 3,hi=>cases hi;exact b4
theorem row_fr {a b:Bool} {x y:List Nat}:Le (tS (fdOne [tB a,tLm x,tB b,tLm y])) (tFr ⟨⟨a,x⟩,⟨b,y⟩⟩):=by
 intro F w v hv
 obtain ⟨cs,rfl,h2,h3⟩:=hv
 have h4:cs.size=4:=h2
 obtain ⟨⟨_,b1⟩,⟨_,b2⟩,⟨_,b3⟩,⟨_,b4⟩,_⟩:=h3
 dsimp only at b1 b2 b3 b4
 refine ⟨cs,rfl,h2,⟨fun h=>(by cases h),_,rfl,by simp [Fd.sum];omega,⟨fun _=>rfl,?_⟩,⟨fun _=>rfl,?_⟩,trivial⟩,⟨fun h=>(by cases h),_,rfl,by simp [Fd.sum];omega,⟨fun _=>rfl,?_⟩,⟨fun _=>rfl,?_⟩,trivial⟩,trivial⟩ <;> dsimp only
 ·rw [xi0 (by omega) (by omega) (fun _=>rfl)];exact b1
 ·rw [xi0 (by omega) (by omega) (fun _=>rfl)];exact b2
 ·rw [xi0 (by omega) (by omega) (fun _=>rfl)];exact b3
 ·rw [xi0 (by omega) (by omega) (fun _=>rfl)];exact b4
theorem c_SvcSmall:
  Ct Tryz.prog 4 [] (tB true):=by
 refine Ct.intro Tryz.func4 rfl Tryz.ntmps4 rfl ?_
 intro w F
 refine xb3 ?_
 refine xb6 ?_
 refine R1 xa8 rfl (xb4 (by kernel_rfl) (xa5 (xb3 (xb3 ?_))))
 refine xb6 ?_
 refine R1 xa8 rfl (xb4 (by kernel_rfl) (xa5 (xf7 ?_)))
 refine cL (fun (n:Nat)=>n≤256) (fun (n:Nat)=>upd (fun _=>none) 1 (some (.val (tI n)))) (fun (n:Nat)=>fun _=>none) [] (fun (n:Nat)=>256 - n) (0) (Nat.zero_le _) ?_
 intro n hI
 refine xb3 (xb3 ?_)
 refine xb6 ?_
 refine R1 x5 rfl (R2 d_lss rfl rfl (xb4 (by kernel_rfl) (xa5 ?_)))
 refine x8 rfl (fun h101=> ?_) (fun h101=> ?_)
 ·
  refine xh2 (xa5 (xb3 (xf7 (xb3 ?_))))
  refine xb6 ?_
  refine RE (xd8 (k:=2) 34 8 true rfl (fun h=>by cases h)) trivial trivial ⟨rfl,trivial⟩ (xb4 (by kernel_rfl) (xa5 (xb3 (xb3 ?_))))
  refine xb6 ?_
  refine R1 x5 rfl (R1 xa8 rfl (R1 xa8 rfl (xb4 (by kernel_rfl) (xa5 (xf7 ?_)))))
  refine cL (fun (fm:(Nat)×(Int)×(List Tst))=>(fun (i:Nat) (x:Int) (xs:List Tst)=>i≤4∧(0≤x∧x≤256)∧xs.length≤i∧ ∀s∈xs,gdS s) fm.1 fm.2.1 fm.2.2) (fun (fm:(Nat)×(Int)×(List Tst))=>(fun (i:Nat) (x:Int) (xs:List Tst)=>upd (upd (upd (upd (fun _=>none) 1 (some (.val (tI n)))) 2 (some (.own (.sl 2 8 0 xs.length)))) 3 (some (.val (tI i)))) 4 (some (.val (tI x)))) fm.1 fm.2.1 fm.2.2) (fun (fm:(Nat)×(Int)×(List Tst))=>(fun (i:Nat) (x:Int) (xs:List Tst)=>upd (fun _=>none) 2 (some (⟨34,8,true,rV tTs xs⟩))) fm.1 fm.2.1 fm.2.2) [2] (fun (fm:(Nat)×(Int)×(List Tst))=>(fun (i:Nat) (x:Int) (xs:List Tst)=>4 - i) fm.1 fm.2.1 fm.2.2) ((0,(n:Int),[])) (by dsimp only;exact ⟨Nat.zero_le _,by omega,Nat.le_refl _,fun s hs=>by cases hs⟩) (hh:=((SubK.consI rfl ImpK.refl) SubK.nil)) ?_
  intro fm hI2
  obtain ⟨i,x,xs⟩:=fm
  replace hI2:i≤4∧(0≤x∧x≤256)∧xs.length≤i∧ ∀s∈xs,gdS s:=hI2
  show wc _ _ _ _ (upd (upd (upd (upd (fun _=>none) 1 (some (.val (tI n)))) 2 (some (.own (.sl 2 8 0 xs.length)))) 3 (some (.val (tI i)))) 4 (some (.val (tI x)))) (upd (fun _=>none) 2 (some (⟨34,8,true,rV tTs xs⟩))) _
  obtain ⟨hi,hx,hxl,hg⟩:=hI2
  refine xb3 (xb3 ?_)
  refine xb6 ?_
  refine R1 x5 rfl (R2 d_lss rfl rfl (xb4 (by kernel_rfl) (xa5 ?_)))
  refine x8 rfl (fun h103=> ?_) (fun h103=> ?_)
  ·
   refine xh2 (xa5 (xb3 (xf7 (xb3 ?_))))
   refine xb6 ?_
   refine R1 x5 rfl (R1 (d_lenO Tryz.underlying22) rfl (R2 (xe6 (wr64 (by omega) (by omega))) rfl rfl (R1 xa8 rfl (xb4 (by kernel_rfl) (xa5 (xb3 (xb3 ?_)))))))
   refine C_draw mixed ?_
   refine R1 x5 rfl (R2 (xm9 (by omega) (by omega)) rfl rfl (R2 d_eql rfl rfl (R1 x5 rfl ?_)))
   refine RGcaseD (t:=33) rfl (fun h105=> ?_) (fun h105=> ?_)
   ·
    refine RGoff (decide_eq_true h105) rfl rfl (RGoff (decide_eq_true h105) rfl rfl (RGoff (decide_eq_true h105) rfl rfl (RGoffU rfl rfl (RGoffU rfl rfl (RGoffU rfl rfl (RGoffU rfl rfl (RGoffU rfl rfl ?_)))))))
    refine RGoffU rfl rfl (RGoffU rfl rfl (RGoff (decide_eq_true h105) rfl rfl (RGoff (decide_eq_true h105) rfl rfl (RGoffU rfl rfl (RGoffU rfl rfl (RGoffU rfl rfl (RGoffU rfl rfl ?_)))))))
    refine RGoffU rfl rfl (RGoffU rfl rfl (RGoffU rfl rfl (RGoffU rfl rfl (RGoffU rfl rfl (RGoff (decide_eq_true h105) rfl rfl (R2 (xe3 (decide_eq_true h105)) rfl rfl (R_end (by kernel_rfl) ?_)))))))
    refine xa5 (C_bT rfl rfl (xb3 (xb3 ?_)))
    refine xb6 ?_
    refine R1 x5 rfl (R2 (xm9 (by omega) (by omega)) rfl rfl (R2 d_lss rfl rfl (xb4 (by kernel_rfl) (xa5 ?_))))
    refine x8 rfl (fun h106=> ?_) (fun h106=> ?_)
    ·
     exact absurd h106 (by omega)
    ·
     refine xh2 (xa5 (xn6 (xi6 (K_exB (xa5 ?_)))))
     refine xb6 ?_
     refine R1 x5 rfl (R2 (xc8 (wr64 (by omega) (by omega))) rfl rfl (R1 x5 rfl (R2 (d_quoP (by omega) (by omega) (wr64 (by omega) (by omega))) rfl rfl (R1 xa8 rfl (R1 xa8 rfl (xb4 (by kernel_rfl) ?_))))))
     exact kF ((i+1,x / 4,xs)) ⟨(by dsimp only;exact ⟨by omega,by omega,by omega,hg⟩),(by dsimp only;omega)⟩ (hh:=((SubK.consI rfl ImpK.refl) SubK.nil))
   ·
    refine RGon (decide_eq_false h105) rfl x5 rfl ⟨rfl,trivial⟩ trivial trivial (RGon (decide_eq_false h105) rfl d_geq rfl ⟨rfl,rfl,trivial⟩ trivial trivial (RGon (decide_eq_false h105) rfl x5 rfl ⟨rfl,trivial⟩ trivial trivial ?_))
    refine RGcaseD (t:=36) rfl (fun h105_2=> ?_) (fun h105_2=> ?_)
    ·
     refine RGon (decide_eq_true h105_2) rfl x5 rfl ⟨rfl,trivial⟩ trivial trivial (RGon (decide_eq_true h105_2) rfl x5 rfl ⟨rfl,trivial⟩ trivial trivial (RGon (decide_eq_true h105_2) rfl (xa4 sl22 (by omega) (by omega) rfl) rfl ⟨rfl,rfl,trivial⟩ trivial trivial (RGon (decide_eq_true h105_2) rfl (xf2 fo34_1.h rfl) rfl ⟨rfl,trivial⟩ trivial trivial (RGon (decide_eq_true h105_2) rfl (xm6 (es:=8) (o:=1) (xs.length - 1) ti3 (xg8 (d:=tst0) (by omega)) (At.g 1 rfl rfl) (by omega)) rfl ⟨rfl,trivial⟩ ⟨rfl,trivial⟩ trivial (RGon (decide_eq_true h105_2) rfl x5 rfl ⟨rfl,trivial⟩ trivial trivial (RGon (decide_eq_true h105_2) rfl d_eql rfl ⟨rfl,rfl,trivial⟩ trivial trivial (RGon (decide_eq_false h105) rfl (xe3 (decide_eq_true h105_2)) rfl ⟨rfl,rfl,trivial⟩ trivial trivial ?_)))))))
     refine RGon (decide_eq_false h105) rfl x5 rfl ⟨rfl,trivial⟩ trivial trivial ?_
     refine RGcaseD (t:=45) rfl (fun h105_3=> ?_) (fun h105_3=> ?_)
     ·
      refine RGon (decide_eq_true h105_3) rfl x5 rfl ⟨rfl,trivial⟩ trivial trivial (RGon (decide_eq_true h105_3) rfl x5 rfl ⟨rfl,trivial⟩ trivial trivial (RGon (decide_eq_true h105_3) rfl (xa4 sl22 (by omega) (by omega) rfl) rfl ⟨rfl,rfl,trivial⟩ trivial trivial (RGon (decide_eq_true h105_3) rfl (xf2 fo34_2.h rfl) rfl ⟨rfl,trivial⟩ trivial trivial (RGon (decide_eq_true h105_3) rfl (xm6 (es:=8) (o:=2) (xs.length - 1) ti32 (xg8 (d:=tst0) (by omega)) (At.g 2 rfl rfl) (by omega)) rfl ⟨rfl,trivial⟩ ⟨rfl,trivial⟩ trivial (RGon (decide_eq_true h105_3) rfl x5 rfl ⟨rfl,trivial⟩ trivial trivial (RGon (decide_eq_true h105_3) rfl (xm9 (by omega) (by omega)) rfl ⟨rfl,rfl,trivial⟩ trivial trivial (RGon (decide_eq_true h105_3) rfl (x3 (c_Num (x%4) 2 (by omega) (by omega) (by decide) (by decide)) fi9 rfl) rfl ⟨rfl,rfl,trivial⟩ trivial trivial ?_)))))))
      refine RGon (decide_eq_true h105_3) rfl (x3 (y6 _ _) fi8 rfl) rfl ⟨rfl,rfl,trivial⟩ trivial trivial (RGon (decide_eq_false h105) rfl (xe3 (decide_eq_true h105_3)) rfl ⟨rfl,rfl,trivial⟩ trivial trivial (R2 (xc7 (decide_eq_false h105)) rfl rfl (R_end (by kernel_rfl) (xa5 ?_))))
      refine x8 rfl (fun h105_4=> ?_) (fun h105_4=> ?_)
      ·
       refine xb3 (xb3 ?_)
       refine xb6 ?_
       refine R1 x5 rfl (R2 (xm9 (by omega) (by omega)) rfl rfl (R2 d_lss rfl rfl (xb4 (by kernel_rfl) (xa5 ?_))))
       refine x8 rfl (fun h106=> ?_) (fun h106=> ?_)
       ·
        refine xb6 ?_
        refine R1 x5 rfl (R1 x5 rfl (R2 (xa4 sl22 (by omega) (by omega) rfl) rfl rfl (R1 (xf2 fo34_1.h rfl) rfl (RE (xm6 (es:=8) (o:=1) (xs.length - 1) ti3 (xg8 (d:=tst0) (by omega)) (At.g 1 rfl rfl) (by omega)) ⟨rfl,trivial⟩ ⟨rfl,trivial⟩ trivial (R2 (xc8 (wr64 (by omega) (by omega))) rfl rfl (R2 (xa4 sl22 (by omega) (by omega) rfl) rfl rfl (R1 (xf2 fo34_1.h rfl) rfl ?_)))))))
        refine RE (xn7 (es:=8) (o:=1) (t2:=tTs ⟨(xs.getD (xs.length - 1) tst0).lo,(xs.getD (xs.length - 1) tst0).hi+1,(xs.getD (xs.length - 1) tst0).v⟩) (xs.length - 1) ti3 (xg8 (d:=tst0) (by omega)) (Up.g 1 rfl rfl rfl) (by omega) (xk5 rfl)) ⟨rfl,rfl,trivial⟩ ⟨rfl,trivial⟩ trivial (xb4 (by kernel_rfl) (xa5 (xn6 (xi6 (K_exB (xa5 ?_))))))
        refine xb6 ?_
        refine R1 x5 rfl (R2 (xc8 (wr64 (by omega) (by omega))) rfl rfl (R1 x5 rfl (R2 (d_quoP (by omega) (by omega) (wr64 (by omega) (by omega))) rfl rfl (R1 xa8 rfl (R1 xa8 rfl (xb4 (by kernel_rfl) ?_))))))
        exact kF ((i+1,x / 4,(xs.set (xs.length - 1) ⟨(xs.getD (xs.length - 1) tst0).lo,(xs.getD (xs.length - 1) tst0).hi+1,(xs.getD (xs.length - 1) tst0).v⟩))) ⟨(by dsimp only;exact ⟨by omega,by omega,by rw [List.length_set];omega,gd_set hg (hg (xs.getD (xs.length - 1) tst0) (xd5 (l:=xs) (i:=xs.length - 1) (by omega)))⟩),(by dsimp only;omega)⟩ (hg:=(sI (sI ((Sub.consI rfl (Imp.of (by dsimp only;rw [List.length_set]))) (sI Sub.nil))))) (hh:=((SubK.consI rfl ImpK.refl) SubK.nil))
       ·
        exact absurd h106 (by omega)
      ·
       refine xh2 (xa5 ?_)
       refine xb6 ?_
       refine R1 x5 rfl (R1 x5 rfl (R1 x5 rfl (R2 (xc8 (wr64 (by omega) (by omega))) rfl rfl (R1 x5 rfl (R2 (xm9 (by omega) (by omega)) rfl rfl (RE (x3 (xn9 (i:Int) ((i:Int)+1) (x%4) 2 (by omega) (by omega) (by decide) (by decide)) fi10 rfl) ⟨rfl,rfl,rfl,rfl,trivial⟩ trivial trivial (R1 (xd2 (n:=1) (f:=tTs) [(⟨(i:Int),(i:Int)+1,⟨2,fr (kfr (x%4) 2),0⟩⟩:Tst)] Tryz.underlying22 el34 zf34 rfl (fun _=>inferInstance) rfl rfl rfl) rfl ?_)))))))
       refine RE (xc5 (k:=2) (k':=76) (f:=tTs) (ys:=[(⟨(i:Int),(i:Int)+1,⟨2,fr (kfr (x%4) 2),0⟩⟩:Tst)]) (ts':=rV tTs (xs++[(⟨(i:Int),(i:Int)+1,⟨2,fr (kfr (x%4) 2),0⟩⟩:Tst)])) Tryz.underlying22 el34 zf34 rfl rfl (fun _=>inferInstance) xe5 (by simp;omega) (by simp;omega) (by simp [rV]) (n':=xs.length+1) rfl) ⟨rfl,rfl,trivial⟩ ⟨rfl,trivial⟩ ⟨rfl,trivial⟩ (R1 xa8 rfl (xb4 (by kernel_rfl) (xj7 (xa5 ?_))))
       refine xb6 ?_
       refine R1 x5 rfl (R2 (xc8 (wr64 (by omega) (by omega))) rfl rfl (R1 x5 rfl (R2 (d_quoP (by omega) (by omega) (wr64 (by omega) (by omega))) rfl rfl (R1 xa8 rfl (R1 xa8 rfl (xb4 (by kernel_rfl) ?_))))))
       exact xe4 (l:=[2]) (fun j=>cond (Nat.beq j 2) 76 (j)) ((i+1,x / 4,xs++[(⟨(i:Int),(i:Int)+1,⟨2,fr (kfr (x%4) 2),0⟩⟩:Tst)])) ⟨(by dsimp only;exact ⟨by omega,by omega,by rw [List.length_append];simp;omega,gd_snoc hg (xq9 (by omega) (by omega) (by decide) (by decide))⟩),(by dsimp only;omega)⟩ (SubR.int rfl (by first | omega | rfl | (dsimp only;omega)) (SubR.int rfl (by first | omega | rfl | (dsimp only;omega)) ((SubR.consI rfl (Imp.of (by dsimp only;rw [List.length_append];rfl))) (SubR.int rfl (by first | omega | rfl | (dsimp only;omega)) SubR.nil)))) ((SubKR.consI rfl (ImpK.of xc2.symm)) SubKR.nil) (SupG.val (SupG.val (SupG.own rfl (SupG.val SupG.nil)))) (SupH.cons rfl (supJ xb0) SupH.nil) (lkOk rfl) rfl rfl (fun _ h=>by cases h)
     ·
      refine RGoff (decide_eq_false h105_3) rfl rfl (RGoff (decide_eq_false h105_3) rfl rfl (RGoff (decide_eq_false h105_3) rfl rfl (RGoff (decide_eq_false h105_3) rfl rfl (RGoff (decide_eq_false h105_3) rfl rfl (RGoff (decide_eq_false h105_3) rfl rfl (RGoff (decide_eq_false h105_3) rfl rfl (RGoff (decide_eq_false h105_3) rfl rfl ?_)))))))
      refine RGoff (decide_eq_false h105_3) rfl rfl (RGon (decide_eq_false h105) rfl (xc7 (decide_eq_false h105_3)) rfl ⟨rfl,rfl,trivial⟩ trivial trivial (R2 (xc7 (decide_eq_false h105)) rfl rfl (R_end (by kernel_rfl) (xa5 (xb2 rfl rfl (xh2 (xa5 ?_)))))))
      refine xb6 ?_
      refine R1 x5 rfl (R1 x5 rfl (R1 x5 rfl (R2 (xc8 (wr64 (by omega) (by omega))) rfl rfl (R1 x5 rfl (R2 (xm9 (by omega) (by omega)) rfl rfl (RE (x3 (xn9 (i:Int) ((i:Int)+1) (x%4) 2 (by omega) (by omega) (by decide) (by decide)) fi10 rfl) ⟨rfl,rfl,rfl,rfl,trivial⟩ trivial trivial (R1 (xd2 (n:=1) (f:=tTs) [(⟨(i:Int),(i:Int)+1,⟨2,fr (kfr (x%4) 2),0⟩⟩:Tst)] Tryz.underlying22 el34 zf34 rfl (fun _=>inferInstance) rfl rfl rfl) rfl ?_)))))))
      refine RE (xc5 (k:=2) (k':=76) (f:=tTs) (ys:=[(⟨(i:Int),(i:Int)+1,⟨2,fr (kfr (x%4) 2),0⟩⟩:Tst)]) (ts':=rV tTs (xs++[(⟨(i:Int),(i:Int)+1,⟨2,fr (kfr (x%4) 2),0⟩⟩:Tst)])) Tryz.underlying22 el34 zf34 rfl rfl (fun _=>inferInstance) xe5 (by simp;omega) (by simp;omega) (by simp [rV]) (n':=xs.length+1) rfl) ⟨rfl,rfl,trivial⟩ ⟨rfl,trivial⟩ ⟨rfl,trivial⟩ (R1 xa8 rfl (xb4 (by kernel_rfl) (xj7 (xa5 ?_))))
      refine xb6 ?_
      refine R1 x5 rfl (R2 (xc8 (wr64 (by omega) (by omega))) rfl rfl (R1 x5 rfl (R2 (d_quoP (by omega) (by omega) (wr64 (by omega) (by omega))) rfl rfl (R1 xa8 rfl (R1 xa8 rfl (xb4 (by kernel_rfl) ?_))))))
      exact xe4 (l:=[2]) (fun j=>cond (Nat.beq j 2) 76 (j)) ((i+1,x / 4,xs++[(⟨(i:Int),(i:Int)+1,⟨2,fr (kfr (x%4) 2),0⟩⟩:Tst)])) ⟨(by dsimp only;exact ⟨by omega,by omega,by rw [List.length_append];simp;omega,gd_snoc hg (xq9 (by omega) (by omega) (by decide) (by decide))⟩),(by dsimp only;omega)⟩ (SubR.int rfl (by first | omega | rfl | (dsimp only;omega)) (SubR.int rfl (by first | omega | rfl | (dsimp only;omega)) ((SubR.consI rfl (Imp.of (by dsimp only;rw [List.length_append];rfl))) (SubR.int rfl (by first | omega | rfl | (dsimp only;omega)) SubR.nil)))) ((SubKR.consI rfl (ImpK.of xc2.symm)) SubKR.nil) (SupG.val (SupG.val (SupG.own rfl (SupG.val SupG.nil)))) (SupH.cons rfl (supJ xb0) SupH.nil) (lkOk rfl) rfl rfl (fun _ h=>by cases h)
    ·
     refine RGoff (decide_eq_false h105_2) rfl rfl (RGoff (decide_eq_false h105_2) rfl rfl (RGoff (decide_eq_false h105_2) rfl rfl (RGoff (decide_eq_false h105_2) rfl rfl (RGoff (decide_eq_false h105_2) rfl rfl (RGoff (decide_eq_false h105_2) rfl rfl (RGoff (decide_eq_false h105_2) rfl rfl (RGon (decide_eq_false h105) rfl (xc7 (decide_eq_false h105_2)) rfl ⟨rfl,rfl,trivial⟩ trivial trivial ?_)))))))
     refine RGon (decide_eq_false h105) rfl x5 rfl ⟨rfl,trivial⟩ trivial trivial (RGoff0 rfl rfl (RGoff0 rfl rfl (RGoff0 rfl rfl (RGoff0 rfl rfl (RGoff0 rfl rfl (RGoff0 rfl rfl (RGoff0 rfl rfl ?_)))))))
     refine RGoff0 rfl rfl (RGoff0 rfl rfl (RGon (decide_eq_false h105) rfl (xc7 rfl) rfl ⟨rfl,rfl,trivial⟩ trivial trivial (R2 (xc7 (decide_eq_false h105)) rfl rfl (R_end (by kernel_rfl) (xa5 (xb2 rfl rfl (xh2 ?_)))))))
     refine xa5 ?_
     refine xb6 ?_
     refine R1 x5 rfl (R1 x5 rfl (R1 x5 rfl (R2 (xc8 (wr64 (by omega) (by omega))) rfl rfl (R1 x5 rfl (R2 (xm9 (by omega) (by omega)) rfl rfl (RE (x3 (xn9 (i:Int) ((i:Int)+1) (x%4) 2 (by omega) (by omega) (by decide) (by decide)) fi10 rfl) ⟨rfl,rfl,rfl,rfl,trivial⟩ trivial trivial (R1 (xd2 (n:=1) (f:=tTs) [(⟨(i:Int),(i:Int)+1,⟨2,fr (kfr (x%4) 2),0⟩⟩:Tst)] Tryz.underlying22 el34 zf34 rfl (fun _=>inferInstance) rfl rfl rfl) rfl ?_)))))))
     refine RE (xc5 (k:=2) (k':=76) (f:=tTs) (ys:=[(⟨(i:Int),(i:Int)+1,⟨2,fr (kfr (x%4) 2),0⟩⟩:Tst)]) (ts':=rV tTs (xs++[(⟨(i:Int),(i:Int)+1,⟨2,fr (kfr (x%4) 2),0⟩⟩:Tst)])) Tryz.underlying22 el34 zf34 rfl rfl (fun _=>inferInstance) xe5 (by simp;omega) (by simp;omega) (by simp [rV]) (n':=xs.length+1) rfl) ⟨rfl,rfl,trivial⟩ ⟨rfl,trivial⟩ ⟨rfl,trivial⟩ (R1 xa8 rfl (xb4 (by kernel_rfl) (xj7 (xa5 ?_))))
     refine xb6 ?_
     refine R1 x5 rfl (R2 (xc8 (wr64 (by omega) (by omega))) rfl rfl (R1 x5 rfl (R2 (d_quoP (by omega) (by omega) (wr64 (by omega) (by omega))) rfl rfl (R1 xa8 rfl (R1 xa8 rfl (xb4 (by kernel_rfl) ?_))))))
     exact xe4 (l:=[2]) (fun j=>cond (Nat.beq j 2) 76 (j)) ((i+1,x / 4,xs++[(⟨(i:Int),(i:Int)+1,⟨2,fr (kfr (x%4) 2),0⟩⟩:Tst)])) ⟨(by dsimp only;exact ⟨by omega,by omega,by rw [List.length_append];simp;omega,gd_snoc hg (xq9 (by omega) (by omega) (by decide) (by decide))⟩),(by dsimp only;omega)⟩ (SubR.int rfl (by first | omega | rfl | (dsimp only;omega)) (SubR.int rfl (by first | omega | rfl | (dsimp only;omega)) ((SubR.consI rfl (Imp.of (by dsimp only;rw [List.length_append];rfl))) (SubR.int rfl (by first | omega | rfl | (dsimp only;omega)) SubR.nil)))) ((SubKR.consI rfl (ImpK.of xc2.symm)) SubKR.nil) (SupG.val (SupG.val (SupG.own rfl (SupG.val SupG.nil)))) (SupH.cons rfl (supJ xb0) SupH.nil) (lkOk rfl) rfl rfl (fun _ h=>by cases h)
  ·
   refine xn6 (xi6 (xi6 (K_exB (xa5 (xb3 ?_)))))
   refine xb6 ?_
   refine R1 x5 rfl (R1 x5 rfl (R2 (xm9 (by omega) (by omega)) rfl rfl (R1 x5 rfl (R2 (xm9 (by omega) (by omega)) rfl rfl (R2 (xe6 (wr64 (by omega) (by omega))) rfl rfl (R1 x5 rfl (R2 (xm9 (by omega) (by omega)) rfl rfl ?_)))))))
   refine R2 (xe6 (wr64 (by omega) (by omega))) rfl rfl (RE (d_callR 2 34 8 xs.length [.own (.sl 2 8 0 xs.length),.val _,.val _,.val _] (fun _ _ _ _ h=>h) (c_setsG xs hg _ _ _ (by omega)) fi6 (fun _ h=>h) (xi4 rfl) rfl ⟨.inr ⟨rfl,rfl⟩,.inl rfl,.inl rfl,.inl rfl,trivial⟩ rfl) ⟨rfl,rfl,rfl,rfl,trivial⟩ ⟨rfl,trivial⟩ trivial (R1 xi1 rfl (R1 x5 rfl (RGon rfl rfl x5 rfl ⟨rfl,trivial⟩ trivial trivial (RGon rfl rfl x5 rfl ⟨rfl,trivial⟩ trivial trivial (RGon rfl rfl (xm9 (by omega) (by omega)) rfl ⟨rfl,rfl,trivial⟩ trivial trivial (RGon rfl rfl x5 rfl ⟨rfl,trivial⟩ trivial trivial ?_)))))))
   refine RGon rfl rfl (xm9 (by omega) (by omega)) rfl ⟨rfl,rfl,trivial⟩ trivial trivial (RGon rfl rfl (x3 (xk6 ((n:Int)%4) 200 (by omega) (by omega) (by decide) (by decide)) fi12 rfl) rfl ⟨rfl,rfl,trivial⟩ trivial trivial (RGon rfl rfl (d_callR 2 34 8 xs.length [.own (.sl 2 8 0 xs.length),.val _,.val _,.val _] (fun _ _ _ _ h=>h) (c_yearsK xs hg _ _ _ _ (by omega) (by omega) (by omega) (by decide) (by decide)) fi11 (fun _ h=>h) (xi4 rfl) rfl ⟨.inr ⟨rfl,rfl⟩,.inl rfl,.inl rfl,.inl rfl,trivial⟩ rfl) rfl ⟨rfl,rfl,rfl,rfl,trivial⟩ ⟨rfl,trivial⟩ trivial (RGon rfl rfl xi1 rfl ⟨rfl,trivial⟩ trivial trivial (R2 (xc7 rfl) rfl rfl (R1 x5 rfl (RGon rfl rfl x5 rfl ⟨rfl,trivial⟩ trivial trivial (RGon rfl rfl (xm9 (by omega) (by omega)) rfl ⟨rfl,rfl,trivial⟩ trivial trivial ?_)))))))
   refine RGon rfl rfl d_eql rfl ⟨rfl,rfl,trivial⟩ trivial trivial (RGon rfl rfl x5 rfl ⟨rfl,trivial⟩ trivial trivial ?_)
   refine RGcaseD (t:=102) rfl (fun h113=> ?_) (fun h113=> ?_)
   ·
    refine RGon (decide_eq_true h113) rfl x5 rfl ⟨rfl,trivial⟩ trivial trivial (RGon (decide_eq_true h113) rfl (d_callR 2 34 8 xs.length [.own (.sl 2 8 0 xs.length),.val _,.val _,.val _] (fun _ _ _ _ h=>h) (c_setsG xs hg _ _ _ (by omega)) fi6 (fun _ h=>h) (xi4 rfl) rfl ⟨.inr ⟨rfl,rfl⟩,.inl rfl,.inl rfl,.inl rfl,trivial⟩ rfl) rfl ⟨rfl,rfl,rfl,rfl,trivial⟩ ⟨rfl,trivial⟩ trivial (RGon (decide_eq_true h113) rfl xi1 rfl ⟨rfl,trivial⟩ trivial trivial (RGon rfl rfl (xe3 (decide_eq_true h113)) rfl ⟨rfl,rfl,trivial⟩ trivial trivial (R2 (xc7 rfl) rfl rfl (xb4 (by kernel_rfl) (xa5 (xb2 rfl rfl ?_)))))))
    refine xh2 (xj7 (xa5 ?_))
    refine xb6 ?_
    refine R1 x5 rfl (R2 (xc8 (wr64 (by omega) (by omega))) rfl rfl (R1 xa8 rfl (xb4 (by kernel_rfl) ?_)))
    exact kF (n+1) ⟨(by omega),(by omega)⟩
   ·
    refine RGoff (decide_eq_false h113) rfl rfl (RGoff (decide_eq_false h113) rfl rfl (RGoff (decide_eq_false h113) rfl rfl (RGon rfl rfl (xc7 (decide_eq_false h113)) rfl ⟨rfl,rfl,trivial⟩ trivial trivial (R2 (xc7 rfl) rfl rfl (xb4 (by kernel_rfl) (xa5 (xb2 rfl rfl ?_)))))))
    refine xh2 (xj7 (xa5 ?_))
    refine xb6 ?_
    refine R1 x5 rfl (R2 (xc8 (wr64 (by omega) (by omega))) rfl rfl (R1 xa8 rfl (xb4 (by kernel_rfl) ?_)))
    exact kF (n+1) ⟨(by omega),(by omega)⟩
 ·
  refine xn6 (xi6 (xi6 (K_exB (xa5 (xb3 ?_)))))
  refine xb6 ?_
  refine RE (xd2 (n:=8) (f:=(fun n:Int=>tI n)) nums8 Tryz.underlying40 el3 zf3 rfl (fun _=>inferInstance) rfl rfl rfl) ⟨rfl,rfl,rfl,rfl,rfl,rfl,rfl,rfl,trivial⟩ trivial trivial (R1 xa8 rfl (xb4 (by kernel_rfl) (xa5 (xb3 ?_))))
  refine xb6 ?_
  refine RE (x3 (xn9 0 65536 1 1 (by decide) (by decide) (by decide) (by decide)) fi10 rfl) ⟨rfl,rfl,rfl,rfl,trivial⟩ trivial trivial (R1 (xd2 (n:=1) (f:=tTs) [(⟨0,65536,⟨2,fr (kfr 1 1),0⟩⟩:Tst)] Tryz.underlying22 el34 zf34 rfl (fun _=>inferInstance) rfl rfl rfl) rfl (R1 xa8 rfl (xb4 (by kernel_rfl) (xa5 (xb3 (xb3 ?_))))))
  refine xb6 ?_
  refine R1 xa8 rfl (xb4 (by kernel_rfl) (xa5 (xf7 ?_)))
  refine cL (fun (i:Nat)=>i≤8) (fun (i:Nat)=>upd (upd (upd (fun _=>none) 6 (some (.val (tL 1 false (fun n:Int=>tI n) nums8)))) 7 (some (.val (tL 8 true tTs [(⟨0,65536,⟨2,fr (kfr 1 1),0⟩⟩:Tst)])))) 8 (some (.val (tI i)))) (fun (i:Nat)=>fun _=>none) [] (fun (i:Nat)=>8 - i) (0) (Nat.zero_le _) ?_
  intro i hI
  have hn8:=nums8_len
  refine xb3 (xb3 ?_)
  refine xb6 ?_
  refine R1 x5 rfl (R1 x5 rfl (R1 (d_len Tryz.underlying40) rfl (R2 d_lss rfl rfl (xb4 (by kernel_rfl) (xa5 ?_)))))
  refine x8 rfl (fun h119=> ?_) (fun h119=> ?_)
  ·
   refine xh2 (xa5 (xb3 (xf7 (xb3 ?_))))
   refine xb6 ?_
   refine R1 xa8 rfl (xb4 (by kernel_rfl) (xa5 (xf7 ?_)))
   refine cL (fun (k:Nat)=>k≤8) (fun (k:Nat)=>upd (upd (upd (upd (fun _=>none) 6 (some (.val (tL 1 false (fun n:Int=>tI n) nums8)))) 7 (some (.val (tL 8 true tTs [(⟨0,65536,⟨2,fr (kfr 1 1),0⟩⟩:Tst)])))) 8 (some (.val (tI i)))) 9 (some (.val (tI k)))) (fun (k:Nat)=>fun _=>none) [] (fun (k:Nat)=>8 - k) (0) (Nat.zero_le _) ?_
   intro k hI2
   have hbi:=nums8_bd (i:=i) (by omega)
   refine xb3 (xb3 ?_)
   refine xb6 ?_
   refine R1 x5 rfl (R1 x5 rfl (R1 (d_len Tryz.underlying40) rfl (R2 d_lss rfl rfl (xb4 (by kernel_rfl) (xa5 ?_)))))
   refine x8 rfl (fun h120=> ?_) (fun h120=> ?_)
   ·
    refine xh2 (xa5 (xb3 (xf7 (xb3 ?_))))
    refine C_draw mixed ?_
    refine R1 x5 rfl (R1 x5 rfl (R1 x5 rfl (R2 (x6 sl40 (i) (by omega) (gD (l:=nums8) (n:=i) (d:=0) (by rw [nums8_len];omega))) rfl rfl (R1 (xh5 ti3) rfl (R1 x5 rfl (R1 x5 rfl (R2 (x6 sl40 (k) (by omega) (gD (l:=nums8) (n:=k) (d:=0) (by rw [nums8_len];omega))) rfl rfl ?_)))))))
    refine R1 (xh5 ti3) rfl (R1 x5 rfl (R1 x5 rfl (R2 (x6 sl40 (k) (by omega) (gD (l:=nums8) (n:=k) (d:=0) (by rw [nums8_len];omega))) rfl rfl (R1 (xh5 ti3) rfl (RE (x3 (c_setsG [(⟨0,65536,⟨2,fr (kfr 1 1),0⟩⟩:Tst)] (gd_one (xq9 (by decide) (by decide) (by decide) (by decide))) _ _ _ (by decide)) fi6 rfl) ⟨rfl,rfl,rfl,rfl,trivial⟩ trivial trivial (R1 xi1 rfl (R1 x5 rfl ?_)))))))
    refine RGon rfl rfl x5 rfl ⟨rfl,trivial⟩ trivial trivial (RGon rfl rfl x5 rfl ⟨rfl,trivial⟩ trivial trivial (RGon rfl rfl x5 rfl ⟨rfl,trivial⟩ trivial trivial (RGon rfl rfl (x6 sl40 (i) (by omega) (gD (l:=nums8) (n:=i) (d:=0) (by rw [nums8_len];omega))) rfl ⟨rfl,rfl,trivial⟩ trivial trivial (RGon rfl rfl (xh5 ti3) rfl ⟨rfl,trivial⟩ trivial trivial (RGon rfl rfl x5 rfl ⟨rfl,trivial⟩ trivial trivial (RGon rfl rfl x5 rfl ⟨rfl,trivial⟩ trivial trivial (RGon rfl rfl (x6 sl40 (k) (by omega) (gD (l:=nums8) (n:=k) (d:=0) (by rw [nums8_len];omega))) rfl ⟨rfl,rfl,trivial⟩ trivial trivial ?_)))))))
    refine RGon rfl rfl (xh5 ti3) rfl ⟨rfl,trivial⟩ trivial trivial (RGon rfl rfl x5 rfl ⟨rfl,trivial⟩ trivial trivial (RGon rfl rfl x5 rfl ⟨rfl,trivial⟩ trivial trivial (RGon rfl rfl (x6 sl40 (i) (by omega) (gD (l:=nums8) (n:=i) (d:=0) (by rw [nums8_len];omega))) rfl ⟨rfl,rfl,trivial⟩ trivial trivial (RGon rfl rfl (xh5 ti3) rfl ⟨rfl,trivial⟩ trivial trivial (RGon rfl rfl (x3 (xk6 (nums8.getD i 0) 9 (by omega) (by omega) (by decide) (by decide)) fi12 rfl) rfl ⟨rfl,rfl,trivial⟩ trivial trivial (RGon rfl rfl (x3 (c_yearsK [(⟨0,65536,⟨2,fr (kfr 1 1),0⟩⟩:Tst)] (gd_one (xq9 (by decide) (by decide) (by decide) (by decide))) _ _ _ _ (by decide) (by omega) (by omega) (by decide) (by decide)) fi11 rfl) rfl ⟨rfl,rfl,rfl,rfl,trivial⟩ trivial trivial (RGon rfl rfl xi1 rfl ⟨rfl,trivial⟩ trivial trivial ?_)))))))
    refine R2 (xc7 rfl) rfl rfl (R_end (by kernel_rfl) (xa5 (xb2 rfl rfl (xh2 (xj7 (xa5 ?_))))))
    refine xb6 ?_
    refine R1 x5 rfl (R2 (xc8 (wr64 (by omega) (by omega))) rfl rfl (R1 xa8 rfl (xb4 (by kernel_rfl) ?_)))
    exact kF (k+1) ⟨(by omega),(by omega)⟩
   ·
    refine xn6 (xi6 (xi6 (K_exB (xj7 (xa5 ?_)))))
    refine xb6 ?_
    refine R1 x5 rfl (R2 (xc8 (wr64 (by omega) (by omega))) rfl rfl (R1 xa8 rfl (xb4 (by kernel_rfl) ?_)))
    exact kF (i+1) ⟨(by omega),(by omega)⟩
  ·
   refine xn6 (xi6 (xi6 (K_exB (xa5 (xb3 (xb3 ?_))))))
   refine xb6 ?_
   refine R1 xa8 rfl (xb4 (by kernel_rfl) (xa5 (xf7 ?_)))
   refine cL (fun (z:Int)=> -1≤z∧z≤4) (fun (z:Int)=>upd (fun _=>none) 10 (some (.val (tI z)))) (fun (z:Int)=>fun _=>none) [] (fun (z:Int)=>(4 - z).toNat) (-1) ⟨by omega,by omega⟩ ?_
   intro z hI
   obtain ⟨hz1,hz2⟩:=hI
   refine xb3 (xb3 ?_)
   refine xb6 ?_
   refine R1 x5 rfl (R2 d_lss rfl rfl (xb4 (by kernel_rfl) (xa5 ?_)))
   refine x8 rfl (fun h126=> ?_) (fun h126=> ?_)
   ·
    refine xh2 (xa5 (xb3 (xf7 (xb3 ?_))))
    refine xb6 ?_
    refine R1 x5 rfl (RE (x3 (xn9 0 5 z 2 (by omega) (by omega) (by decide) (by decide)) fi10 rfl) ⟨rfl,rfl,rfl,rfl,trivial⟩ trivial trivial (RE (x3 (xn9 7 9 1 3 (by decide) (by decide) (by decide) (by decide)) fi10 rfl) ⟨rfl,rfl,rfl,rfl,trivial⟩ trivial trivial (R2 (xd2 (n:=2) (f:=tTs) [(⟨0,5,⟨2,fr (kfr z 2),0⟩⟩:Tst),(⟨7,9,⟨2,fr (kfr 1 3),0⟩⟩:Tst)] Tryz.underlying22 el34 zf34 rfl (fun _=>inferInstance) rfl rfl rfl) rfl rfl (R1 xa8 rfl (xb4 (by kernel_rfl) (xa5 (xb3 ?_)))))))
    refine xb6 ?_
    refine R1 x5 rfl (R2 (x3 (c_Cash z 2 (by omega) (by omega) (by decide) (by decide)) fi13 rfl) rfl rfl (R3 (xb8 (r:=tS [⟨1,false,tI 0⟩,⟨1,false,tI 5⟩,⟨6,true,tVa ⟨3,fr (kfr z 2),0⟩⟩]) (ts:=[(0,tI 0),(1,tI 5),(2,tVa ⟨3,fr (kfr z 2),0⟩)]) bu34 zr34.2 (Bc 0 rfl rfl rfl (Bc 1 rfl rfl rfl (Bc 2 rfl rfl rfl Le.refl)))) rfl rfl rfl (R1 (xd2 (n:=1) (f:=tTs) [(⟨0,5,⟨3,fr (kfr z 2),0⟩⟩:Tst)] Tryz.underlying22 el34 zf34 rfl (fun _=>inferInstance) rfl rfl rfl) rfl (R1 xa8 rfl (xb4 (by kernel_rfl) (xa5 (xb3 ?_)))))))
    refine xb6 ?_
    refine R1 x5 rfl (R2 (xc8 (wr64 (by omega) (by omega))) rfl rfl (R2 (xk0 (wr64 (by omega) (by omega))) rfl rfl (R2 (xc8 (wr64 (by omega) (by omega))) rfl rfl (R1 x5 rfl (R2 (xe6 (wr64 (by omega) (by omega))) rfl rfl (R2 (x3 (xk6 ((1048576+z)*5+4 - z) 60 (by omega) (by omega) (by decide) (by decide)) fi12 rfl) rfl rfl (RE (x9 (k:=13) (n:=4) (agg:=true) zr30.1 zr30.2 rfl) trivial trivial ⟨rfl,trivial⟩ ?_)))))))
    refine RE (xc9 (es:=4) (agg:=true) (0) ti30 rfl rfl rfl) ⟨rfl,rfl,trivial⟩ ⟨rfl,trivial⟩ trivial (xb4 (by kernel_rfl) (xa5 (xb3 ?_)))
    refine xb6 ?_
    refine R1 x5 rfl (R1 x5 rfl (R2 (x3 (xk6 z 1 (by omega) (by omega) (by decide) (by decide)) fi12 rfl) rfl rfl (RE (x3 (c_yearsK [(⟨0,5,⟨2,fr (kfr z 2),0⟩⟩:Tst),(⟨7,9,⟨2,fr (kfr 1 3),0⟩⟩:Tst)] (gd_two (xq9 (by omega) (by omega) (by decide) (by decide)) (xq9 (by omega) (by omega) (by decide) (by decide))) _ _ _ _ (by simp) (by omega) (by omega) (by decide) (by decide)) fi11 rfl) ⟨rfl,rfl,rfl,rfl,trivial⟩ trivial trivial (R1 xi1 rfl (R1 x5 rfl (RGon rfl rfl x5 rfl ⟨rfl,trivial⟩ trivial trivial (RGon rfl rfl (x3 (c_setsG [(⟨0,5,⟨2,fr (kfr z 2),0⟩⟩:Tst),(⟨7,9,⟨2,fr (kfr 1 3),0⟩⟩:Tst)] (gd_two (xq9 (by omega) (by omega) (by decide) (by decide)) (xq9 (by omega) (by omega) (by decide) (by decide))) _ _ _ (by simp)) fi6 rfl) rfl ⟨rfl,rfl,rfl,rfl,trivial⟩ trivial trivial ?_)))))))
    refine RGon rfl rfl xi1 rfl ⟨rfl,trivial⟩ trivial trivial (R2 (xc7 rfl) rfl rfl (R1 x5 rfl (RGon rfl rfl x5 rfl ⟨rfl,trivial⟩ trivial trivial (RGon rfl rfl (xb8 (r:=tS [⟨2,true,(tS [⟨1,false,(tE (.bool false))⟩,⟨1,false,(tLm [])⟩])⟩,⟨2,true,(tS [⟨1,false,(tE (.bool false))⟩,⟨1,false,(tLm [])⟩])⟩]) (ts:=[]) bu30 zr30.2 Le.refl) rfl trivial trivial trivial (RGon rfl rfl (x3 (c_yearsG [(⟨0,5,⟨3,fr (kfr z 2),0⟩⟩:Tst)] (gd_one (xq9 (by omega) (by omega) (by decide) (by decide))) _ _ fr0 (by simp) dig_fr0 (by decide) (by decide)) fi11 rfl) rfl ⟨rfl,rfl,rfl,rfl,trivial⟩ trivial trivial (RGon rfl rfl xi1 rfl ⟨rfl,trivial⟩ trivial trivial (R2 (xc7 rfl) rfl rfl ?_)))))))
    refine R1 x5 rfl (RGon rfl rfl x5 rfl ⟨rfl,trivial⟩ trivial trivial (RGon rfl rfl (x3 (c_setsG [(⟨0,5,⟨3,fr (kfr z 2),0⟩⟩:Tst)] (gd_one (xq9 (by omega) (by omega) (by decide) (by decide))) _ _ _ (by simp)) fi6 rfl) rfl ⟨rfl,rfl,rfl,rfl,trivial⟩ trivial trivial (RGon rfl rfl xi1 rfl ⟨rfl,trivial⟩ trivial trivial (R2 (xc7 rfl) rfl rfl (R1 x5 rfl (RGon rfl rfl (xb7 (0) ti30 rfl rfl) rfl ⟨rfl,trivial⟩ ⟨rfl,trivial⟩ trivial (RGon rfl rfl (x3 (xv7 _ (dig_fr _)) fi14 rfl) rfl ⟨rfl,trivial⟩ trivial trivial ?_)))))))
    refine RGon rfl rfl xi1 rfl ⟨rfl,trivial⟩ trivial trivial (R2 (xc7 rfl) rfl rfl (R1 x5 rfl (RGon rfl rfl x5 rfl ⟨rfl,trivial⟩ trivial trivial (RGon rfl rfl (x3 (xk6 z 24 (by omega) (by omega) (by decide) (by decide)) fi12 rfl) rfl ⟨rfl,rfl,trivial⟩ trivial trivial (RGon rfl rfl (x3 (xv7 _ (dig_fr _)) fi14 rfl) rfl ⟨rfl,trivial⟩ trivial trivial (RGon rfl rfl xi1 rfl ⟨rfl,trivial⟩ trivial trivial (R2 (xc7 rfl) rfl rfl ?_)))))))
    refine xb4 (by kernel_rfl) (xa5 (xb2 rfl rfl (xh2 (xj7 (xa5 ?_)))))
    refine xb6 ?_
    refine R1 x5 rfl (R2 (xc8 (wr64 (by omega) (by omega))) rfl rfl (R1 xa8 rfl (xb4 (by kernel_rfl) ?_)))
    exact kF (z+1) ⟨⟨by omega,by omega⟩,(by omega)⟩
   ·
    refine xn6 (xi6 (xi6 (K_exB (xa5 (xb3 ?_)))))
    refine C_regY ?_
    refine xk8 (x3 (xk6 1 1 (by omega) (by omega) (by decide) (by decide)) fi12 rfl) ⟨rfl,rfl,trivial⟩ trivial trivial rfl (xk8 (d_allocC (k:=14) (n:=4) [.bool false,.slice none 0 0,.bool false,.slice none 0 0] zr30.1 rfl rfl rfl rfl) trivial trivial ⟨rfl,trivial⟩ rfl (wl_imp (t:=207) rfl (fr_row _) (fun k hk=>by rw [rowV_supp] at hk;cases hk) (xk8 (d_storeM ti30 rfl rfl rfl) ⟨rfl,rfl,trivial⟩ ⟨rfl,trivial⟩ trivial rfl (wl_nil (xa5 (xb3 ?_))))))
    refine xb6 ?_
    refine RE (xg6 (k:=208) (t:=tE (.int .u16 0)) (ts:=rV (fun n:Nat=>tE (.int .u16 (n:Int))) (fil 0)) 256 256 Tryz.underlying26 el42 (fun _ _=>rfl) rfl (by decide) (by decide) (Nat.le_refl _) (by decide) (by decide) (rV_rep (f:=(fun n:Nat=>tE (.int .u16 (n:Int)))) 256 0 rfl)) ⟨rfl,rfl,trivial⟩ trivial ⟨rfl,trivial⟩ (R1 (xf2 fo30_0.h rfl) rfl (R1 (xf2 fo28_1.h rfl) rfl (RE (xc9 (es:=1) (agg:=false) (1) ti26 rfl rfl rfl) ⟨rfl,rfl,trivial⟩ ⟨rfl,trivial⟩ trivial (xb4 (by kernel_rfl) (xa5 (xb3 (xb3 ?_)))))))
    refine xb6 ?_
    refine R1 (xf2 fo30_0.h rfl) rfl (R1 (xf2 fo28_1.h rfl) rfl (RE (xb7 (1) ti26 rfl rfl) ⟨rfl,trivial⟩ ⟨rfl,trivial⟩ trivial (R1 (d_lenO Tryz.underlying26) rfl (R1 x5 rfl (xb4 (by kernel_rfl) (xa5 (xf7 ?_)))))))
    refine cL (fun (i:Nat)=>i≤256) (fun (i:Nat)=>upd (upd (upd (fun _=>none) 14 (some (.own (.ptr 14 0)))) 214 (some (.val (tI 256)))) 215 (some (.val (tI i)))) (fun (i:Nat)=>upd (upd (fun _=>none) 14 (some (⟨30,1,false,[.val (tB F11.n.neg),.own (.sl 208 1 0 256),.val (tB F11.d.neg),.val (tLm F11.d.l)]⟩))) 208 (some (⟨42,1,false,rV (fun n:Nat=>tE (.int .u16 (n:Int))) (fil i)⟩))) [14,208] (fun (i:Nat)=>256 - i) (0) (Nat.zero_le _) (hh:=((SubK.consI rfl ImpK.refl) ((SubK.consI rfl ImpK.refl) SubK.nil))) ?_
    intro i hI
    refine xb3 ?_
    refine xb6 ?_
    refine R2 d_lss rfl rfl (xb4 (by kernel_rfl) (xa5 (xb3 ?_)))
    refine x8 rfl (fun h136=> ?_) (fun h136=> ?_)
    ·
     refine xh2 (xa5 (xb3 (xf7 (xb3 ?_))))
     refine xb6 ?_
     refine R1 x5 rfl (R1 xa8 rfl (xb4 (by kernel_rfl) (xa5 ?_)))
     refine xb6 ?_
     refine R1 (xf2 fo30_0.h rfl) rfl (R1 (xf2 fo28_1.h rfl) rfl (RE (xb7 (1) ti26 rfl rfl) ⟨rfl,trivial⟩ ⟨rfl,trivial⟩ trivial (R1 x5 rfl (R2 (xa4 sl26 (by omega) (by omega) rfl) rfl rfl (RE (xc9 (i) ti42 (rV_lt (by rw [fil_len (by omega)];omega)) (by omega) (xk5 (f:=(fun n:Nat=>tE (.int .u16 (n:Int)))) (m:=65535) rfl)) ⟨rfl,rfl,trivial⟩ ⟨rfl,trivial⟩ trivial (xb4 (by kernel_rfl) (xj7 ?_)))))))
     refine xa5 ?_
     refine xb6 ?_
     refine R2 (xc8 (wr64 (by omega) (by omega))) rfl rfl (R1 x5 rfl (xb4 (by kernel_rfl) ?_))
     exact kF (i+1) ⟨(by omega),(by omega)⟩ (hh:=((SubK.consI rfl (ImpK.of (by rw [←fil_set (by omega)]))) ((SubK.consI rfl ImpK.refl) SubK.nil)))
    ·
     refine xn6 (xi6 (xi6 (K_exB (xa5 (xb3 ?_)))))
     have hi6:i=256:=by omega
     subst hi6
     refine C_giveC (q:=14) (j:=208) (f:=(fun n:Nat=>tE (.int .u16 (n:Int)))) (xs:=fil 256) 1 rfl rfl rfl rfl (NoLbK.of fun _ h=>h) (xi4 (fil_len (Nat.le_refl _))) (fil_len (Nat.le_refl _)) rfl ?_
     refine xb6 ?_
     refine RE (d_loadM (us:=[tB F11.n.neg,tLm (fil 256),tB F11.d.neg,tLm F11.d.l]) (t:=tS (fdOne [tB F11.n.neg,tLm (fil 256),tB F11.d.neg,tLm F11.d.l])) ti30 rfl rfl rfl rfl) ⟨rfl,trivial⟩ ⟨rfl,trivial⟩ trivial (RE (xd9 (ts:=[tE (.slice none 0 0),tI 0,tI 9,tS (fdOne [tB F11.n.neg,tLm (fil 256),tB F11.d.neg,tLm F11.d.l])]) (c_yearsG [] (fun s hs=>by cases hs) 0 9 LNG (by decide) lng_ok.1 lng_ok.2.1 lng_ok.2.2) fi11 rfl ⟨leNil rfl,Le.refl,Le.refl,row_fr,trivial⟩) ⟨rfl,rfl,rfl,rfl,trivial⟩ trivial trivial (R1 x5 rfl (RGon rfl rfl (d_loadM (us:=[tB F11.n.neg,tLm (fil 256),tB F11.d.neg,tLm F11.d.l]) (t:=tS (fdOne [tB F11.n.neg,tLm (fil 256),tB F11.d.neg,tLm F11.d.l])) ti30 rfl rfl rfl rfl) rfl ⟨rfl,trivial⟩ ⟨rfl,trivial⟩ trivial (RGon rfl rfl (xd9 (ts:=[tS (fdOne [tB F11.n.neg,tLm (fil 256),tB F11.d.neg,tLm F11.d.l])]) (xv7 LNG lng_ok.1) fi14 rfl ⟨row_fr,trivial⟩) rfl ⟨rfl,trivial⟩ trivial trivial (R2 (xe3 rfl) rfl rfl (R1 x5 rfl (RGon rfl rfl (xf2 fo30_1.h rfl) rfl ⟨rfl,trivial⟩ trivial trivial ?_)))))))
     refine RGon rfl rfl (d_loadM (us:=[tB F11.d.neg,tLm F11.d.l]) (t:=tWh F11.d) ti28 rfl rfl rfl rfl) rfl ⟨rfl,trivial⟩ ⟨rfl,trivial⟩ trivial (RGon rfl rfl (xf2 fo30_0.h rfl) rfl ⟨rfl,trivial⟩ trivial trivial (RGon rfl rfl (d_loadM (us:=[tB F11.n.neg,tLm (fil 256)]) (t:=tWh ⟨F11.n.neg,fil 256⟩) ti28 rfl rfl rfl rfl) rfl ⟨rfl,trivial⟩ ⟨rfl,trivial⟩ trivial (RGon rfl rfl (xb8 (r:=tS [⟨2,true,tWh F11.d⟩,⟨2,true,tWh ⟨F11.n.neg,fil 256⟩⟩]) (ts:=[(0,tWh F11.d),(1,tWh ⟨F11.n.neg,fil 256⟩)]) bu30 zr30.2 (Bc 0 rfl rfl rfl (Bc 1 rfl rfl rfl Le.refl))) rfl ⟨rfl,rfl,trivial⟩ trivial trivial (RGon rfl rfl (x3 (xv7 ⟨F11.d,⟨F11.n.neg,fil 256⟩⟩ ⟨lng_ok.1.2,lng_ok.1.1⟩) fi14 rfl) rfl ⟨rfl,trivial⟩ trivial trivial (R2 (xe3 rfl) rfl rfl (R1 x5 rfl (RGon rfl rfl (xb8 (r:=tS [⟨2,true,(tS [⟨1,false,(tE (.bool false))⟩,⟨1,false,(tLm [])⟩])⟩,⟨2,true,(tS [⟨1,false,(tE (.bool false))⟩,⟨1,false,(tLm [])⟩])⟩]) (ts:=[]) bu30 zr30.2 Le.refl) rfl trivial trivial trivial ?_)))))))
     refine RGon rfl rfl (x3 (xv7 fr0 dig_fr0) fi14 rfl) rfl ⟨rfl,trivial⟩ trivial trivial (R2 (xe3 rfl) rfl rfl (R1 x5 rfl (RGon rfl rfl (x3 c_awake fi7 rfl) rfl trivial trivial trivial (R2 (xe3 rfl) rfl rfl (R1 xa8 rfl (xb4 (by kernel_rfl) (xa5 ?_)))))))
     refine C_ret ?_
     exact x4 Plain.mk' rfl rfl Le.refl
end An.S
namespace An
open Go Go.ChangeShapes Go.WideShapes Go.ChangeAt Go.RowKit
section
variable {α:Type} {P:Program} {T n:Nat} {f:α→Ty} {ok:α→Prop} {r:Reach} {b0:Nat} {v:Value} {H:Type} {enc:TypeId×Value→H} {w:World} {sp:Nat→Bool} {held:Bool} {d:DataW H} {p:List MemPlace}
end
end An
namespace An.S
open Go Go.Proofs An
open Go.ChangeShapes Go.WideShapes Go.ChangeAt Go.RowKit
theorem own:ownKnob Tryz.prog.godebug=none:=by kernel_rfl
theorem walked {f:FuncId} {ts:List Ty} (h:Ct Tryz.prog f ts (tB true)) {vs:List Value} {W:World} (ha:Tup.all (Old W) W ts vs):Calls Tryz.prog f vs.toArray W fun e W'=>e= .returned (.bool true)∧Ext W W':=
 (h (Old W) W vs ha).mono fun e W' ⟨v,h1,h2,h3⟩=>by
  have h3:v= .bool true:=h3
  subst h3;exact ⟨h1,h2⟩
end An.S
