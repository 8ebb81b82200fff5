/- Part 4 of a proof: P2, LibZg, P3, P4, V16, V17, V18, V19, U20, Ref4, U34, X1, X2, X3, LibAp, Z1, LibAq, Z2, LibLx, LibN2, LibEx, LibEy, LibEz, LibFa, LibFb, LibFc, LibKn, LibAt, LibAw, J1. -/
import Derived.Test.YtjkefpnidicimaaGreatM43
set_option maxHeartbeats 4000000
set_option maxRecDepth 100000
namespace An.S
open Go Go.Proofs An Tryz
instance ti113:TyI Tryz.prog 113 1 false:=⟨by kernel_rfl,by kernel_rfl⟩
instance fi183:FnI Tryz.prog 183:=⟨_,func183,by kernel_rfl,rfl⟩
instance fi184:FnI Tryz.prog 184:=⟨_,func184,by kernel_rfl,rfl⟩
instance fi186:FnI Tryz.prog 186:=⟨_,func186,by kernel_rfl,rfl⟩
instance fi269:FnI Tryz.prog 269:=⟨_,func269,by kernel_rfl,rfl⟩
theorem zr51:(Tryz.prog.info? 51).bind (·.zero)=some (.slice none 0 0)/\ ∀F w,(tE (.slice none 0 0)).p F w (.slice none 0 0):=⟨by kernel_rfl,fun _ _=>rfl⟩
theorem zr113:(Tryz.prog.info? 113).bind (·.zero)=some (.slice none 0 0)/\ ∀F w,(tE (.slice none 0 0)).p F w (.slice none 0 0):=⟨by kernel_rfl,fun _ _=>rfl⟩
theorem yv6 {o:Option Va} (h:(!o.isNone)=true): ∃v,o=some v:=by
 cases o with
 | none=>cases h
 | some v=>exact ⟨v,rfl⟩
theorem jz2 {o:Option Va} (h:(!o.isNone)=false):o=none:=by
 cases o with
 | none=>rfl
 | some v=>cases h
theorem jnG_or {a b:List Tst} {d:Int} (h:(valT b d).isNone=false):jnG a b d=valT b d:=by
 rw [jnG];cases hv:valT b d with
 | none=>rw [hv] at h;cases h
 | some v=>rfl
theorem jw4 {a b:List Tst} {d:Int} {v:Va} (ha:tRight a=true) (hb:tRight b=true) (h:jnG a b d=some v):v.f.n.l.length<=256/\v.f.d.l.length<=256:=by
 rw [jnG] at h;rcases Option.or_eq_some_iff.1 h with h4 | ⟨_,h4⟩
 ·obtain ⟨t,ht,_,e⟩:=yc2 h4;rw [<-e];exact yp3 (y5 hb t ht)
 ·obtain ⟨t,ht,_,e⟩:=yc2 h4;rw [<-e];exact yp3 (y5 ha t ht)
theorem w5 {x y:Int} {l:List Tst} {i:Nat} (hi:i < l.length):(l.take (i+1)).flatMap (woP x y)=(l.take i).flatMap (woP x y)++woP x y (l.getD i tst0):=by
 rw [zby hi,zeu,zbh,zbi hi];simp
theorem qa8 {x y:Int}: ∀{l:List Tst},(l.flatMap (woP x y)).length=2*l.length
 | []=>rfl
 | s::r=>by rw [zex,zbp,qa8 (l:=r)];simp [woP];omega
theorem c_At1 (l:List Tst) (d:Int) (i:Nat) (hi:i < l.length):
  CtG Tryz.prog 184 [(2,⟨51,1,false,[.val (tL 8 true tTs l)]⟩),(3,⟨3,1,false,[.val (tI d)]⟩)] [.val (tI i),.own (.ptr 2 0),.own (.ptr 3 0)] (.val (tB (decide (d < (l.getD i tst0).hi)))) [(2,⟨51,1,false,[.val (tL 8 true tTs l)]⟩),(3,⟨3,1,false,[.val (tI d)]⟩)] []:=by
 refine CtG.intro [2,3] func184 rfl ntmps184 rfl rfl ⟨⟨rfl,(SupX.lit rfl)⟩,⟨rfl,(SupX.lit rfl)⟩,trivial⟩ ?_;intro w F η;refine A9 ?_;refine R2 (x4 sl51 (i) (by omega) (zai (l:=l) (n:=i) (d:=tst0))) rfl rfl (R1 (xf3 fo59_1.h (At.f 1 rfl rfl) rfl) rfl ?_);refine A7 ?_;exact xc5 LentC.mk' rfl rfl Imp.refl qB rfl ⟨⟨rfl,(SupX.lit rfl)⟩,⟨rfl,(SupX.lit rfl)⟩,trivial⟩ rfl
theorem qz6 (l:List Tst) (d:Int) (hv:tRight l=true) (hl:l.length<=1000000):
  CtG Tryz.prog 183 [(2,⟨51,1,false,[.val (tL 8 true tTs l)]⟩),(3,⟨3,1,false,[.val (tI d)]⟩)] [.val (tI l.length),.own (.fn 184 [.ptr 2 0,.ptr 3 0])] (.val (tI (fndT l d))) [(2,⟨51,1,false,[.val (tL 8 true tTs l)]⟩),(3,⟨3,1,false,[.val (tI d)]⟩)] []:=by
 refine CtG.intro [2,3] func183 rfl ntmps183 rfl rfl ⟨⟨rfl,(SupX.lit rfl)⟩,⟨rfl,(SupX.lit rfl)⟩,trivial⟩ ?_;intro w F η;refine A14 ?_;refine cL (fun (fm:(Nat)×(Nat))=>(fun (p:Nat) (q:Nat)=>p<=q/\q<=l.length/\(∀i,i < p->(l.getD i tst0).hi<=d)/\ ∀i,q<=i->i < l.length->d < (l.getD i tst0).hi) fm.1 fm.2) (wB fun (p:Nat) (q:Nat)=>uV (uV (uO uN 1 (.fn 184 [.ptr 2 0,.ptr 3 0])) 5 (tI p)) 6 (tI q)) (wB fun (p:Nat) (q:Nat)=>uK (uK uN 2 51 1 false [.val (tL 8 true tTs l)]) 3 3 1 false [.val (tI d)]) [2,3] (fun (fm:(Nat)×(Nat))=>(fun (p:Nat) (q:Nat)=>q - p) fm.1 fm.2) ((0,l.length)) (by dsimp only;exact ⟨zbq _,zbs _,fun i hi=>by omega,fun i hi hi2=>by omega⟩) ?_;intro fm hI;obtain ⟨p,q⟩:=fm;replace hI:p<=q/\q<=l.length/\(∀i,i < p->(l.getD i tst0).hi<=d)/\ ∀i,q<=i->i < l.length->d < (l.getD i tst0).hi:=hI;show wc _ _ _ _ (uV (uV (uO uN 1 (.fn 184 [.ptr 2 0,.ptr 3 0])) 5 (tI p)) 6 (tI q)) (uK (uK uN 2 51 1 false [.val (tL 8 true tTs l)]) 3 3 1 false [.val (tI d)]) _;obtain ⟨hp,hq,h1,h2⟩:=hI;refine A8 ?_;refine x6 rfl (fun h62=> ?_) (fun h62=> ?_)
 ·
  refine A8 ?_;refine R1 (x5 underlying213 (isS zhg) (by first | exact wu64 (by omega) (by omega) | exact mu64)) rfl (R2 (xh3 (r:=((((p+q) / 2):Nat):Int)) (by decide) ((shrN (s:=1) rfl (by decide)).trans (by simp))) rfl rfl (R1 (x5 zhg (isS underlying213) zah) rfl ?_));refine A7 ?_;refine RE (xi9 (ps:=[.val (tI _)]) (caps:=[.ptr 2 0,.ptr 3 0]) (fun j=>cond (Nat.beq j 2) 2 (3)) (c_At1 l d ((p+q) / 2) (by omega)) fi184 rfl (krC (ρ:=fun j=>cond (Nat.beq j 2) 2 (3)) (k:=2) rfl (krC (ρ:=fun j=>cond (Nat.beq j 2) 2 (3)) (k:=3) rfl (krN (ρ:=fun j=>cond (Nat.beq j 2) 2 (3))))) (krC (ρ:=fun j=>cond (Nat.beq j 2) 2 (3)) (k:=2) rfl (krC (ρ:=fun j=>cond (Nat.beq j 2) 2 (3)) (k:=3) rfl (krN (ρ:=fun j=>cond (Nat.beq j 2) 2 (3))))) ⟨⟨rfl,(SupX.lit rfl)⟩,⟨rfl,(SupX.lit rfl)⟩,trivial⟩ rfl) qB qB trivial ?_;refine A3 ?_;refine C_ifn rfl (fun h65=> ?_) (fun h65=> ?_)
  ·
   refine A6 ?_;exact kF ((((p+q) / 2)+1,q)) ⟨(by dsimp only;exact ⟨by omega,hq,fun i hi=>by have:=qb5 hv (show i<=((p+q) / 2) by omega) (by omega);omega,h2⟩),(by dsimp only;omega)⟩
  ·
   refine A5 ?_;exact kF ((p,((p+q) / 2))) ⟨(by dsimp only;exact ⟨by omega,by omega,h1,fun i hi hi2=>by have:=qb5 hv hi hi2;omega⟩),(by dsimp only;omega)⟩
 ·
  refine A12 ?_;exact xc5 LentC.mk' rfl rfl (Imp.int (congrArg Int.ofNat (qn0 (by omega) h1 (fun hp2=>h2 p (by omega) hp2)))) qB rfl ⟨⟨rfl,(SupX.lit rfl)⟩,⟨rfl,(SupX.lit rfl)⟩,trivial⟩ rfl
theorem qz1 {a b:List Tst} {k:Nat} (h:valT a ((bds [a,b]).getD k 0)=valT b ((bds [a,b]).getD k 0)):dfK a b (k+1)=dfK a b k:=by
 rw [yz7,dfI,if_neg (by rw [dfB,h];simp),zgu]
theorem zt5 {a b:List Tst} {k:Nat} (h:valT a ((bds [a,b]).getD k 0)≠valT b ((bds [a,b]).getD k 0)):dfK a b (k+1)=dfK a b k++[⟨(bds [a,b]).getD k 0,(bds [a,b]).getD (k+1) 0⟩]:=by
 rw [yz7,dfI,if_pos (by rw [dfB];simpa using h)]
theorem jw6 {o:Option Va} (h:o.isNone=false): ∃v,o=some v:=yv6 (by rw [h];rfl)
end An.S
namespace An
open Go
section
variable {P:Program} {c:Base} {d ty:Nat} {pos:String} {af:Array Edge} {gd:Option (Nat×Bool)}
end
end An
namespace An.S
open Go Go.Proofs An Tryz
instance fi29:FnI Tryz.prog 29:=⟨_,func29,by kernel_rfl,rfl⟩
instance fi169:FnI Tryz.prog 169:=⟨_,func169,by kernel_rfl,rfl⟩
theorem yi5 (x y:Tst):
  Ct Tryz.prog 169 [tTs x,tTs y] (tB (decide (x=y))):=by
 refine Ct.intro func169 rfl ntmps169 rfl ?_;intro w F;refine A15 ?_;refine RGcaseD (t:=10) rfl (fun h196=> ?_) (fun h196=> ?_)
 ·
  refine A7 ?_;refine RGcaseD (t:=17) rfl (fun h196_2=> ?_) (fun h196_2=> ?_)
  ·
   refine A4 ?_;refine Rg (zbg h196_2) rfl (x3 (ye3 _ _) fi29 rfl) rfl qB ?_;refine A5 ?_;exact E1 rfl rfl (zau (by obtain ⟨a,b,e⟩:=x;obtain ⟨c,d,f⟩:=y;simp only [Tst.mk.injEq] at*;simp_all <;> omega))
  ·
   refine A10 ?_;exact E1 rfl rfl (zau (by obtain ⟨a,b,e⟩:=x;obtain ⟨c,d,f⟩:=y;simp only [Tst.mk.injEq] at*;simp_all <;> omega))
 ·
  refine A17 ?_;exact E1 rfl rfl (zau (by obtain ⟨a,b,e⟩:=x;obtain ⟨c,d,f⟩:=y;simp only [Tst.mk.injEq] at*;simp_all <;> omega))
theorem xw0 (l:List Tst) (k:Nat) (hk:k < l.length):l.take (k+1)=l.take k++[l.getD k tst0]:=by
 rw [zby hk,zbh,zbi hk];rfl
theorem xw2 (l:List Int) (k:Nat) (hk:k < l.length):l.take (k+1)=l.take k++[l.getD k 0]:=by
 rw [zby hk,zbh,zbi hk];rfl
theorem yv0 (xs ys:List Tst):
  Ct Tryz.prog 114 [tL 8 true tTs xs,tL 8 true tTs ys] (tB (decide (xs=ys))):=by
 refine Ct.intro func114 rfl ntmps114 rfl ?_;intro w F;refine xg9 (s:=0) rfl (fun hl0=> ?_);refine A15 ?_;refine x6 rfl (fun h206=> ?_) (fun h206=> ?_)
 ·
  refine A7 ?_;exact E1 rfl rfl (zau (zbf (fun h=>by rw [h] at h206;omega)).symm)
 ·
  have hll:xs.length=ys.length:=by omega
  refine A9 ?_;refine cL (fun (i:Nat)=>i<=xs.length/\xs.take i=ys.take i) (fun (i:Nat)=>uV (uV (uV uN 0 (tL 8 true tTs xs)) 1 (tL 8 true tTs ys)) 5 (tI i)) (fun (i:Nat)=>fun _=>none) [] (fun (i:Nat)=>xs.length - i) (0) ⟨zbq _,rfl⟩ ?_;intro i hI;obtain ⟨hi,ht⟩:=hI;refine A9 ?_;refine x6 rfl (fun h209=> ?_) (fun h209=> ?_)
  ·
   refine A8 ?_;refine R2 (x4 sl51 i (by omega) (gD (d:=tst0) (by omega))) rfl rfl ?_;refine A3 ?_;refine R2 (x4 sl51 i (by omega) (gD (d:=tst0) (by omega))) rfl rfl ?_;refine A1 ?_;refine R2 (x3 (yi5 _ _) fi169 rfl) rfl rfl ?_;refine A3 ?_;refine C_ifn rfl (fun h210=> ?_) (fun h210=> ?_)
   ·
    refine A11 ?_;exact E1 rfl rfl (zau (zbf (fun h=>by rw [h] at h210;exact (h210 rfl))).symm)
   ·
    refine A8 ?_;exact kF (i+1) ⟨⟨by omega,by rw [xw0 xs i (by omega),xw0 ys i (by omega),ht,show xs.getD i tst0=ys.getD i tst0 from h210]⟩,(by omega)⟩
  ·
   refine A11 ?_;exact E1 rfl rfl (zau (zbg (by rw [show i=xs.length by omega,zbx,hll,zbx] at ht;exact ht)).symm)
theorem zc6 (xs ys:List Int):
  Ct Tryz.prog 64 [tL 1 false tI xs,tL 1 false tI ys] (tB (decide (xs=ys))):=by
 refine Ct.intro func64 rfl ntmps64 rfl ?_;intro w F;refine xg9 (s:=0) rfl (fun hl0=> ?_);refine A15 ?_;refine x6 rfl (fun h27=> ?_) (fun h27=> ?_)
 ·
  refine A7 ?_;exact E1 rfl rfl (zau (zbf (fun h=>by rw [h] at h27;omega)).symm)
 ·
  have hll:xs.length=ys.length:=by omega
  refine A9 ?_;refine cL (fun (i:Nat)=>i<=xs.length/\xs.take i=ys.take i) (fun (i:Nat)=>uV (uV (uV uN 0 (tL 1 false tI xs)) 1 (tL 1 false tI ys)) 5 (tI i)) (fun (i:Nat)=>fun _=>none) [] (fun (i:Nat)=>xs.length - i) (0) ⟨zbq _,rfl⟩ ?_;intro i hI;obtain ⟨hi,ht⟩:=hI;refine A9 ?_;refine x6 rfl (fun h30=> ?_) (fun h30=> ?_)
  ·
   refine A8 ?_;refine R2 (x4 sl23 i (by omega) (gD (d:=0) (by omega))) rfl rfl ?_;refine A3 ?_;refine R2 (x4 sl23 i (by omega) (gD (d:=0) (by omega))) rfl rfl ?_;refine A4 ?_;refine x6 rfl (fun h31=> ?_) (fun h31=> ?_)
   ·
    refine A11 ?_;exact E1 rfl rfl (zau (zbf (fun h=>by rw [h] at h31;exact (h31 rfl))).symm)
   ·
    refine A8 ?_;exact kF (i+1) ⟨⟨by omega,by rw [xw2 xs i (by omega),xw2 ys i (by omega),ht,show xs.getD i 0=ys.getD i 0 from (Decidable.of_not_not h31)]⟩,(by omega)⟩
  ·
   refine A11 ?_;exact E1 rfl rfl (zau (zbg (by rw [show i=xs.length by omega,zbx,hll,zbx] at ht;exact ht)).symm)
theorem xw9 (a b n d:Int) (h1: -9223372036854775808<=n) (h2:n<=9223372036854775807) (h3: -9223372036854775808<=d) (h4:d<=9223372036854775807):
  Ct Tryz.prog 43 [tI a,tI b,tI n,tI d] (tTs ⟨a,b,⟨2,fr (kfr n d),0⟩⟩):=by
 refine Ct.intro func43 rfl ntmps43 rfl ?_;intro w F;refine A2 ?_;refine RE (x7 (k:=8) (n:=8) (agg:=true) zr59.1 zr59.2 rfl) trivial trivial qA ?_;refine A8 ?_;refine R2 (x3 (zq8 n d h1 h2 h3 h4) fi30 rfl) rfl rfl (R3 (xb0 (r:=tS [⟨1,false,tI a⟩,⟨1,false,tI b⟩,⟨6,true,tVa ⟨2,fr (kfr n d),0⟩⟩]) (ts:=[(0,tI a),(1,tI b),(2,tVa ⟨2,fr (kfr n d),0⟩)]) bu59 zr59.2 (Bc 0 rfl rfl rfl (Bc 1 rfl rfl rfl (Bc 2 rfl rfl rfl zao)))) rfl rfl rfl ?_);refine A4 ?_;exact EC rfl ⟨_,_,_,_,_,rfl,rfl,ti59,zao⟩
theorem yc9 (l:List Tst):
  Ct Tryz.prog 42 [tL 8 true tTs l] (tL 8 true tTs l):=by
 refine Ct.intro func42 rfl ntmps42 rfl ?_;intro w F;refine A12 ?_;exact E1 rfl rfl zao
instance fi42:FnI Tryz.prog 42:=⟨_,func42,by kernel_rfl,rfl⟩
instance fi43:FnI Tryz.prog 43:=⟨_,func43,by kernel_rfl,rfl⟩
instance fi64:FnI Tryz.prog 64:=⟨_,func64,by kernel_rfl,rfl⟩
instance fi92:FnI Tryz.prog 92:=⟨_,func92,by kernel_rfl,rfl⟩
instance fi100:FnI Tryz.prog 100:=⟨_,func100,by kernel_rfl,rfl⟩
instance fi102:FnI Tryz.prog 102:=⟨_,func102,by kernel_rfl,rfl⟩
instance fi104:FnI Tryz.prog 104:=⟨_,func104,by kernel_rfl,rfl⟩
instance fi105:FnI Tryz.prog 105:=⟨_,func105,by kernel_rfl,rfl⟩
instance fi112:FnI Tryz.prog 112:=⟨_,func112,by kernel_rfl,rfl⟩
instance fi113:FnI Tryz.prog 113:=⟨_,func113,by kernel_rfl,rfl⟩
instance fi114:FnI Tryz.prog 114:=⟨_,func114,by kernel_rfl,rfl⟩
def tB5:Int:=92358976733184
abbrev isT (l:List Tst):Prop:=isG 2 84 tB5 l
theorem ja6: ∀{a b:List Int},a.Pairwise (· < ·)->b.Pairwise (· < ·)->(∀x,x∈a↔x∈b)->a=b
 | [],[],_,_,_=>rfl
 | [],y::s,_,_,h=>absurd ((h y).2 (zcb ..)) (zdm)
 | x::r,[],_,_,h=>absurd ((h x).1 (zcb ..)) (zdm)
 | x::r,y::s,ha,hb,h=>by
  have pa:=zcv.1 ha;have pb:=zcv.1 hb;have hxy:x=y:=by
   rcases zbr.1 ((h x).1 (zcb ..)) with e | h1
   ·exact e
   ·rcases zbr.1 ((h y).2 (zcb ..)) with e | h2
    ·exact e.symm
    ·have:=pa.1 y h2;have:=pb.1 x h1;omega
  subst hxy
  congr 1
  refine ja6 pa.2 pb.2 fun z=>⟨fun hz=> ?_,fun hz=> ?_⟩
  ·rcases zbr.1 ((h z).1 (zcd _ hz)) with e | h1
   ·have:=pa.1 z hz;omega
   ·exact h1
  ·rcases zbr.1 ((h z).2 (zcd _ hz)) with e | h1
   ·have:=pb.1 z hz;omega
   ·exact h1
theorem zd0 {xs l:List Int} (h:l.Pairwise (· < ·)) (hm: ∀x,x∈l↔x∈xs):brd xs=l:=ja6 (yk8 xs).1 h fun x=>((yk8 xs).2 x).trans (hm x).symm
section
variable {K:Nat} {D B:Int} {l a b:List Tst}
theorem isG.kind (ha:isG K D B a) (hb:isG K D B b):jnC a b:=by
 refine ⟨⟨ha.1,hb.1⟩,fun h=>h.2.2 ?_⟩;rw [(ha.2 _ (xi0 (l:=a) (i:=0) h.1)).1.2.1,(hb.2 _ (xi0 (l:=b) (i:=0) h.2.1)).1.2.1]
end
theorem jq9 (f g:Fr) (e:f=g):Ct Tryz.prog 86 [tFr f,tFr g] (tB true):=by
 have h:=xu1 f g;rw [zbg e] at h;exact h
theorem ym5 (u w:List Tst) (e:u=w):Ct Tryz.prog 114 [tL 8 true tTs u,tL 8 true tTs w] (tB true):=by
 have h:=yv0 u w;rw [zbg e] at h;exact h
theorem qc3 (u w:List Sn) (e:u=w):Ct Tryz.prog 92 [tL 2 true tSn u,tL 2 true tSn w] (tB true):=by
 have h:=yv3 u w;rw [zbg e] at h;exact h
theorem jj9 (u w:List Int) (e:u=w):Ct Tryz.prog 64 [tL 1 false tI u,tL 1 false tI w] (tB true):=by
 have h:=zc6 u w;rw [zbg e] at h;exact h
theorem jk4 (u w:Va) (e:u=w):Ct Tryz.prog 29 [tVa u,tVa w] (tB true):=by
 have h:=ye3 u w;rw [zbg e] at h;exact h
def xv (n d:Int):Va:=⟨2,fr (kfr n d),0⟩
def exA:List Tst:=[⟨0,10,xv 1 2⟩,⟨10,30,xv 1 1⟩]
def exB:List Tst:=[⟨8,12,xv 0 1⟩]
def exC:List Tst:=[⟨10,12,xv 1 2⟩]
theorem zq7:gOk 2 84 tB5 (xv 1 2)/\gOk 2 84 tB5 (xv 1 1)/\gOk 2 84 tB5 (xv 0 1):=by
 have e1:kfr 1 2=Rat.divInt 42 84:=by decide+kernel
 have e2:kfr 1 1=Rat.divInt 84 84:=by decide+kernel
 have e3:kfr 0 1=Rat.divInt 0 84:=by decide+kernel
 rw [xv,xv,xv,e1,e2,e3];exact ⟨gOk.mk (.inl rfl) (by decide) (by decide) (by decide) (by decide) (by decide),gOk.mk (.inl rfl) (by decide) (by decide) (by decide) (by decide) (by decide),gOk.mk (.inl rfl) (by decide) (by decide) (by decide) (by decide) (by decide)⟩
theorem yb0:isT exA:=⟨by decide+kernel,fun s hs=>by
 simp only [exA,zbr,zdm,or_false] at hs;rcases hs with rfl | rfl
 ·exact zq7.1
 ·exact zq7.2.1⟩
theorem exB_ok:isT exB:=⟨by decide+kernel,fun s hs=>by
 simp only [exB,zbr,zdm,or_false] at hs;rcases hs with rfl;exact zq7.2.2⟩
theorem exC_ok:isT exC:=⟨by decide+kernel,fun s hs=>by
 simp only [exC,zbr,zdm,or_false] at hs;rcases hs with rfl;exact zq7.1⟩
theorem exCut:cutT exA 5 20=[⟨5,10,xv 1 2⟩,⟨10,20,xv 1 1⟩]:=by decide+kernel
theorem exCut2:cutT exA 0 12=[⟨0,10,xv 1 2⟩,⟨10,12,xv 1 1⟩]:=by decide+kernel
theorem exWo:woT exA 5 20=[⟨0,5,xv 1 2⟩,⟨20,30,xv 1 1⟩]:=by decide+kernel
theorem ys5 {l xs:List Int} (h1:l.all (fun x=>decide (x∈xs))=true) (h2:xs.all (fun x=>decide (x∈l))=true): ∀x,x∈l↔x∈xs:=fun x=>⟨fun h=>zes (zei.1 h1 x h),fun h=>zes (zei.1 h2 x h)⟩
theorem exJB:jnT exA exB=[⟨0,8,xv 1 2⟩,⟨8,12,xv 0 1⟩,⟨12,30,xv 1 1⟩]:=by
 have e:bds [exA,exB]=[0,8,10,12,30]:=zd0 (by decide) (ys5 (by decide) (by decide));rw [jnT,e];decide+kernel
theorem exJC:jnT exA exC=[⟨0,12,xv 1 2⟩,⟨12,30,xv 1 1⟩]:=by
 have e:bds [exA,exC]=[0,10,12,30]:=zd0 (by decide) (ys5 (by decide) (by decide));rw [jnT,e];decide+kernel
theorem exCh:bds [exA]=[0,10,30]:=zd0 (by decide) (ys5 (by decide) (by decide))
theorem exCv:cvT exA=[⟨0,30⟩]:=by
 rw [cvT,zj3 (zi5 yb0.1)];decide+kernel
theorem exDf:dfS exA (cutT exA 0 12)=[⟨12,30⟩]:=by
 have e:bds [exA,[⟨0,10,xv 1 2⟩,⟨10,12,xv 1 1⟩]]=[0,10,12,30]:=zd0 (by decide) (ys5 (by decide) (by decide));rw [dfS,zj3 (zf4 yb0.1 yb0.cut.1),zg7,exCut2,e];decide+kernel
theorem exSum:fr (Rat.divInt (gS (wt 84) exA 5 20) 84)=fr (kfr 25 2):=congrArg fr (by decide+kernel)
instance fi284:FnI Tryz.prog 284:=⟨_,func284,by kernel_rfl,rfl⟩
theorem yi8 (a:List Nat):
  Ct Tryz.prog 284 [tLm a] (tLm (trimL a)):=by
 refine Ct.intro func284 rfl ntmps284 rfl ?_;intro w F;refine xg9 (s:=0) rfl (fun hl0=> ?_);refine A14 ?_;refine cL (fun (k:Nat)=>k<=a.length/\trimL (a.take k)=trimL a) (fun (k:Nat)=>uV (uV uN 0 (tLm a)) 3 (tI k)) (fun (k:Nat)=>fun _=>none) [] (fun (k:Nat)=>k) (a.length) ⟨zbs _,by rw [zbx]⟩ ?_;intro k hI;obtain ⟨hk,hc⟩:=hI;refine A6 ?_;refine RGcaseD (t:=8) rfl (fun h12=> ?_) (fun h12=> ?_)
 ·
  refine A2 ?_;refine Rg (zbg h12) rfl (xd6 zah) rfl qB (Rg (zbg h12) rfl (x4 sl37 (k - 1) (by omega) (gN (by omega))) rfl qB ?_);refine A5 ?_;refine x6 rfl (fun h12_2=> ?_) (fun h12_2=> ?_)
  ·
   refine A9 ?_;exact kF (k - 1) ⟨⟨by omega,by rw [qt1 hk (by omega) (by omega)];exact hc⟩,(by omega)⟩
  ·
   refine A9 ?_;refine R2 (yh8 sl37 k (by omega) (by omega) rfl) rfl rfl ?_;refine A4 ?_;exact E1 rfl rfl (Le.of (congrArg tLm (by rw [<-hc,qt4 hk (by omega) (by omega)])))
 ·
  refine A18 ?_;refine A1 ?_;refine R2 (yh8 sl37 k (by omega) (by omega) rfl) rfl rfl ?_;refine A4 ?_;exact E1 rfl rfl (Le.of (congrArg tLm (by rw [<-hc,show k=0 by omega,zgo];rfl)))
theorem zg1 (a b:Nat):
  Ct Tryz.prog 255 [tM a,tM b] (tB (decide (a < b))):=by
 refine Ct.intro func255 rfl ntmps255 rfl ?_;intro w F;refine xg9 (s:=0) rfl (fun hl0=> ?_);refine xg9 (s:=1) rfl (fun hl1=> ?_);have ha:=xf6 x8 a;have hb:=xf6 x8 b;refine A15 ?_;refine x6 rfl (fun h20=> ?_) (fun h20=> ?_)
 ·
  refine A12 ?_;exact E1 rfl rfl (zau (zea.2 ⟨fun h=>zu3 x8 (by omega),fun h=>by have:=xd0 x8 (zgj h);omega⟩))
 ·
  refine A12 ?_;have hlen:(dig 65536 a).length=(dig 65536 b).length:=by omega
  rw [<-hlen] at hb;refine cL (fun (k:Nat)=>k<=(dig 65536 a).length/\a / 65536 ^ k=b / 65536 ^ k) (fun (k:Nat)=>uV (uV (uV uN 0 (tM a)) 1 (tM b)) 5 (tI ((k:Int) - 1))) (fun (k:Nat)=>fun _=>none) [] (fun (k:Nat)=>k) ((dig 65536 a).length) ⟨zbs _,by rw [zcz ha,zcz hb]⟩ ?_;intro k hI;obtain ⟨hk,hc⟩:=hI;refine A7 ?_;refine x6 rfl (fun h23=> ?_) (fun h23=> ?_)
  ·
   obtain ⟨j,rfl⟩: ∃j,k=j+1:=⟨k - 1,by omega⟩
   refine A8 ?_;refine R2 (x4 sl37 (j) (by omega) (gN (by omega))) rfl rfl ?_;refine A3 ?_;refine R2 (x4 sl37 (j) (by omega) (gN (by omega))) rfl rfl ?_;refine A4 ?_;refine x6 rfl (fun h24=> ?_) (fun h24=> ?_)
   ·
    refine A4 ?_;refine R2 (x4 sl37 (j) (by omega) (gN (by omega))) rfl rfl ?_;refine A3 ?_;refine R2 (x4 sl37 (j) (by omega) (gN (by omega))) rfl rfl ?_;refine A11 ?_;exact E1 rfl rfl (zau (zea.2 ⟨fun h=>zj9 x8 hc (by omega),fun h=>zgs fun h2=>by have:=zj9 x8 hc.symm (show (dig 65536 b).getD j 0 < (dig 65536 a).getD j 0 by omega);omega⟩))
   ·
    refine A8 ?_;exact kF (j) ⟨⟨by omega,zu1 (by decide) hc (by rw [<-xc0 x8,<-xc0 x8];omega)⟩,(by omega)⟩
  ·
   refine A11 ?_;exact E1 rfl rfl (zau (zbf (by have h0:=hc;rw [show k=0 by omega] at h0;simp at h0;omega)).symm)
theorem zw9 {v:Nat}:(0:Int) < ((dig 65536 v).length:Nat)↔v≠0:=by
 have h:(dig 65536 v).length=0↔v=0:=by rw [zcw,xi1 x8]
 omega
theorem ye1 (p:Bool) (v:Nat):
  Ct Tryz.prog 155 [tB p,tM v] (tWh (wh (sgn p v))):=by
 refine Ct.intro func155 rfl ntmps155 rfl ?_;intro w F;refine A2 ?_;refine RE (x7 (k:=4) (n:=2) (agg:=true) zr39.1 zr39.2 rfl) trivial trivial qA ?_;refine A6 ?_;refine RGcase (t:=6) rfl (fun h129=> ?_) (fun h129=> ?_)
 ·
  refine A5 ?_;refine R2 (xb0 (r:=tS [⟨1,false,tB (decide ((0:Int) < ((dig 65536 v).length:Nat)))⟩,⟨1,false,tM v⟩]) (ts:=[(0,tB (decide ((0:Int) < ((dig 65536 v).length:Nat)))),(1,tM v)]) bu39 zr39.2 (Bc 0 rfl rfl rfl (Bc 1 rfl rfl rfl zao))) rfl rfl ?_;refine A4 ?_;exact EC rfl ⟨_,_,_,_,_,rfl,rfl,ti39,(Le.of (by rw [yj4,h129,zdr,zea.2 (show (0:Int) < ((dig 65536 v).length:Nat)↔v≠0 from zw9)]))⟩
 ·
  refine A5 ?_;refine R2 (xb0 (r:=tS [⟨1,false,tB false⟩,⟨1,false,tM v⟩]) (ts:=[(0,tB false),(1,tM v)]) bu39 zr39.2 (Bc 0 rfl rfl rfl (Bc 1 rfl rfl rfl zao))) rfl rfl ?_;refine A4 ?_;exact EC rfl ⟨_,_,_,_,_,rfl,rfl,ti39,(Le.of (by rw [yj4,h129,zfb]))⟩
theorem iquo64 {a b:Nat} (ha:a < 9223372036854775808):IntKind.i64.wrap ((a:Int).tdiv (b:Int))=((a / b:Nat):Int):=by
 rw [Int.tdiv_eq_ediv_of_nonneg (by omega)];have h:(a:Int) / (b:Int)=((a / b:Nat):Int):=(Int.natCast_ediv a b).symm;rw [h];have:=Nat.div_le_self a b;generalize a / b=q at*
 exact wr64 (by omega) (by omega)
theorem jp1 (a d:Nat) (ha:(dig 65536 a).length<=100000) (hd:0 < d) (hdW:d < 65536):
  Ct Tryz.prog 254 [tM a,tI d] (tT [tM (a / d),tM (a%d)]):=by
 refine Ct.intro func254 rfl ntmps254 rfl ?_;intro w F;refine A10 ?_;refine RE (xg0 (k:=11) (t:=tE (.int .u16 0)) (ts:=rW .u16 (List.replicate ((dig 65536 a).length) 0)) ((dig 65536 a).length) ((dig 65536 a).length) zgy el64 (fun _ _=>rfl) rfl (by omega) (by omega) (zbs _) (by omega) (by omega) (xp5 _)) qB trivial qA ?_;refine A18 ?_;refine cL (fun (fm:(Nat)×(List Nat))=>(fun (k:Nat) (qs:List Nat)=>k<=(dig 65536 a).length/\qs.length=(dig 65536 a).length/\Dig 65536 qs/\val 65536 (qs.drop k)=a / 65536 ^ k / d) fm.1 fm.2) (wB fun (k:Nat) (qs:List Nat)=>uV (uV (uO (uV (uV uN 0 (tM a)) 1 (tI d)) 6 (.sl 11 1 0 (dig 65536 a).length)) 7 (tI ((a / 65536 ^ k%d:Nat):Int))) 8 (tI ((k:Int) - 1))) (wB fun (k:Nat) (qs:List Nat)=>uK uN 11 64 1 false (rW .u16 qs)) [11] (fun (fm:(Nat)×(List Nat))=>(fun (k:Nat) (qs:List Nat)=>k) fm.1 fm.2) (((dig 65536 a).length,List.replicate (dig 65536 a).length 0)) (by dsimp only;exact ⟨zbs _,by simp,Dig.rep (by decide) _,by rw [zcz (xf6 x8 a),Nat.zero_div,zfc,xf1]⟩) (hg:=(sI (Sub.le rfl (zba (by dsimp only;rw [zcz (xf6 x8 a),Nat.zero_mod];rfl)) (sC (sI (sC zay)))))) ?_;intro fm hI;obtain ⟨k,qs⟩:=fm;replace hI:k<=(dig 65536 a).length/\qs.length=(dig 65536 a).length/\Dig 65536 qs/\val 65536 (qs.drop k)=a / 65536 ^ k / d:=hI;show wc _ _ _ _ (uV (uV (uO (uV (uV uN 0 (tM a)) 1 (tI d)) 6 (.sl 11 1 0 (dig 65536 a).length)) 7 (tI ((a / 65536 ^ k%d:Nat):Int))) 8 (tI ((k:Int) - 1))) (uK uN 11 64 1 false (rW .u16 qs)) _;obtain ⟨hk,hl,hD,hv⟩:=hI;have hr:a / 65536 ^ k%d < d:=zck _ hd;refine A7 ?_;refine x6 rfl (fun h93=> ?_) (fun h93=> ?_)
 ·
  obtain ⟨j,rfl⟩: ∃j,k=j+1:=⟨k - 1,by omega⟩
  have hx:=xc0 x8 a j;have hx1:=(xc3 x8 a).getD (by decide) j;obtain ⟨n1,n2,n3,n4,n5⟩:=zv3 (k:=j) (by omega) hl hD hd rfl hv (by rw [<-hx]);have hq0:=zbq (((a / 65536 ^ (j+1)%d)*65536+(dig 65536 a).getD j 0) / d);refine A7 ?_;refine R2 (xi2 (r:=(((a / 65536 ^ (j+1)%d)*65536:Nat):Int)) (by rw [wr64 (by omega) (by omega)];omega)) rfl rfl ?_;refine A2 ?_;refine R2 (x4 sl37 (j) (by omega) (gN (by omega))) rfl rfl ?_;refine A1 ?_;refine R1 (x5 zhg (isS zhc) zah) rfl (R2 (xd8 (r:=((((a / 65536 ^ (j+1)%d)*65536+(dig 65536 a).getD j 0):Nat):Int)) (by rw [wr64 (by omega) (by omega)];omega)) rfl rfl ?_);refine A9 ?_;refine R2 (xe4 (r:=((((a / 65536 ^ (j+1)%d)*65536+(dig 65536 a).getD j 0) / d:Nat):Int)) (by omega) (iquo64 (by omega))) rfl rfl (R1 (x5 zhc (isS zhg) (wu16 (by omega) (by omega))) rfl (R2 (zag sl37 rfl) rfl rfl (RE (xb8 (j) ti64 (xj0 (by omega)) (by omega) (xh1 (m:=_) rfl)) qB qA trivial ?_)));refine A5 ?_;refine R2 (xd9 (by omega) wrem64) rfl rfl ?_;refine A9 ?_;exact kF ((j,qs.set j (((a / 65536 ^ (j+1)%d)*65536+(dig 65536 a).getD j 0) / d))) ⟨(by dsimp only;exact ⟨by omega,n1,n2,n4⟩),(by dsimp only;omega)⟩ (hg:=(sI (Sub.le rfl (zba (by dsimp only;rw [hx,n3])) (sC (sI (sC zay))))))
 ·
  have hk0:k=0:=by omega
  subst hk0;rw [List.drop_zero,zer,Nat.div_one] at hv;refine A7 ?_;refine RE (xi6 (f:=fun n:Nat=>tE (.int .u16 n)) (fun _ h=>h) (xi4 hl) hl) qA qA trivial (R1 (x3 (yi8 _) fi284 rfl) rfl ?_);refine A1 ?_;refine R1 (x5 zhc (isS zhg) (wu16 (by omega) (by omega))) rfl (R1 (xk9 (n:=1) [a / 65536 ^ 0%d] zgy el64 zf64 rfl rfl rfl) rfl (R1 (x3 (yi8 _) fi284 rfl) rfl ?_));refine A5 ?_;exact E2 rfl rfl rfl (Le.of (congrArg tLm (by rw [xd7 x8 hD,hv]))) (Le.of (congrArg tLm (by rw [trim1L (by omega),zer,Nat.div_one])))
theorem ye8 (a b:Nat) (ha:(dig 65536 a).length<=100000) (hb:(dig 65536 b).length<=100000):
  Ct Tryz.prog 224 [tM a,tM b] (tM (a+b)):=by
 have hab:=yt1 ha hb;refine Ct.intro func224 rfl ntmps224 rfl ?_;intro w F;refine A7 ?_;refine RE (xe3 (k:=5) 64 1 false rfl (fun _=>rfl)) trivial trivial qA ?_;refine A14 ?_;refine cL (fun (fm:(Nat)×(Nat)×(List Nat))=>(fun (i:Nat) (n:Nat) (cs:List Nat)=>i<=(dig 65536 (a+b)).length/\n=(a%65536 ^ i+b%65536 ^ i) / 65536 ^ i/\cs=dgs 65536 i (a+b)) fm.1 fm.2.1 fm.2.2) (wC fun (i:Nat) (n:Nat) (cs:List Nat)=>uV (uV (uO (uV (uV uN 0 (tM a)) 1 (tM b)) 5 (.sl 5 1 0 cs.length)) 7 (tI i)) 6 (tI n)) (wC fun (i:Nat) (n:Nat) (cs:List Nat)=>uK uN 5 64 1 false (rW .u16 cs)) [5] (fun (fm:(Nat)×(Nat)×(List Nat))=>(fun (i:Nat) (n:Nat) (cs:List Nat)=>(dig 65536 (a+b)).length - i) fm.1 fm.2.1 fm.2.2) ((0,0,[])) (by dsimp only;exact ⟨zbq _,by simp [Nat.mod_one],rfl⟩) ?_;intro fm hI;obtain ⟨i,n,cs⟩:=fm;replace hI:i<=(dig 65536 (a+b)).length/\n=(a%65536 ^ i+b%65536 ^ i) / 65536 ^ i/\cs=dgs 65536 i (a+b):=hI;show wc _ _ _ _ (uV (uV (uO (uV (uV uN 0 (tM a)) 1 (tM b)) 5 (.sl 5 1 0 cs.length)) 7 (tI i)) 6 (tI n)) (uK uN 5 64 1 false (rW .u16 cs)) _;obtain ⟨hi,hn,hcs⟩:=hI;have hcl:cs.length=i:=by rw [hcs,xe9]
 have hn1:=qf6 hn;have xa:=xc0 x8 a i;have xb:=xc0 x8 b i;have xa1:=(xc3 x8 a).getD (by decide) i;have xb1:=(xc3 x8 b).getD (by decide) i;refine A8 ?_;refine RGcaseD (t:=12) rfl (fun h35=> ?_) (fun h35=> ?_)
 ·
  have hmore:=ym8 hn (.inl (by omega));refine A16 ?_;refine xf0 (fun (m1:Nat)=>m1=(n+a / 65536 ^ i%65536)) (fun (m1:Nat)=>uV (uV (uO (uV (uV uN 0 (tM a)) 1 (tM b)) 5 (.sl 5 1 0 cs.length)) 7 (tI i)) 6 (tI m1)) (fun (m1:Nat)=>uK uN 5 64 1 false (rW .u16 cs)) (nm [5]) ?_ ?_
  ·
   refine A8 ?_;refine x6 rfl (fun h36=> ?_) (fun h36=> ?_)
   ·
    refine A4 ?_;refine R2 (x4 sl37 (i) (by omega) (gN (by omega))) rfl rfl ?_;refine A1 ?_;refine R1 (x5 zhg (isS zhc) zah) rfl (R2 (xd8 (r:=((n+(dig 65536 a).getD i 0:Nat):Int)) (by rw [wr64 (by omega) (by omega)];omega)) rfl rfl ?_);refine A2 ?_;exact kF (n+(dig 65536 a).getD i 0) (by rw [xa])
   ·
    refine A1 ?_;exact kF (n) (by rw [xm2 x8 (by omega),zek])
  ·
   intro m1 hm1;refine xf0 (fun (m2:Nat)=>m2=(m1+b / 65536 ^ i%65536)) (fun (m2:Nat)=>uV (uV (uO (uV (uV uN 0 (tM a)) 1 (tM b)) 5 (.sl 5 1 0 cs.length)) 7 (tI i)) 6 (tI m2)) (fun (m2:Nat)=>uK uN 5 64 1 false (rW .u16 cs)) (nm [5]) ?_ ?_
   ·
    refine A8 ?_;refine x6 rfl (fun h39=> ?_) (fun h39=> ?_)
    ·
     refine A4 ?_;refine R2 (x4 sl37 (i) (by omega) (gN (by omega))) rfl rfl ?_;refine A1 ?_;refine R1 (x5 zhg (isS zhc) zah) rfl (R2 (xd8 (r:=((m1+(dig 65536 b).getD i 0:Nat):Int)) (by rw [wr64 (by omega) (by omega)];omega)) rfl rfl ?_);refine A2 ?_;exact kF (m1+(dig 65536 b).getD i 0) (by rw [xb])
    ·
     refine A1 ?_;exact kF (m1) (by rw [xm2 x8 (by omega),zek])
   ·
    intro m2 hm2;refine A4 ?_;refine R2 (xd9 (r:=((m2%65536:Nat):Int)) (by decide) (wrem64 (b:=65536))) rfl rfl (R1 (x5 zhc (isS zhg) (wu16 (by omega) (by omega))) rfl (R1 (xk9 (n:=1) [m2%65536] zgy el64 zf64 rfl rfl rfl) rfl (RE (xb3 (k:=5) (k':=51) (ts':=rW .u16 (cs++[m2%65536])) zgy el64 zf64 rfl rfl (fun _=>inferInstance) xj4 (by simp;omega) (by simp;omega) (by simp [rW]) (n':=cs.length+1) rfl) ⟨rfl,rfl,trivial⟩ ⟨rfl,trivial⟩ ⟨rfl,trivial⟩ ?_)));refine A5 ?_;refine R2 (xe4 (r:=((m2 / 65536:Nat):Int)) (by decide) (iquo64 (b:=65536) (by omega))) rfl rfl ?_;refine A9 ?_;obtain ⟨n1,n2⟩:=za4 (s:=m2) hn (by rw [hm2,hm1]);exact xc6 (l:=[5]) (zab 5 51) ((i+1,m2 / 65536,cs++[m2%65536])) ⟨(by dsimp only;exact ⟨hmore,n2,by rw [hcs];exact n1⟩),(by dsimp only;omega)⟩ (zaf rfl (zaf rfl ((zbc rfl (zaw (by dsimp only;rw [zbp];rfl))) (zas rfl (zas rfl zbd))))) ((zbb rfl (zat xf7.symm)) zbe) (zaj (zaj (zak rfl (zaj (zaj zar))))) (zam rfl (supJ xd1) zaz) (lkOk rfl) rfl rfl (fun _ h=>by cases h)
 ·
  refine A6 ?_;refine RGcaseD (t:=18) rfl (fun h35_2=> ?_) (fun h35_2=> ?_)
  ·
   have hmore:=ym8 hn (.inr (.inl (by omega)));refine A10 ?_;refine xf0 (fun (m1:Nat)=>m1=(n+a / 65536 ^ i%65536)) (fun (m1:Nat)=>uV (uV (uO (uV (uV uN 0 (tM a)) 1 (tM b)) 5 (.sl 5 1 0 cs.length)) 7 (tI i)) 6 (tI m1)) (fun (m1:Nat)=>uK uN 5 64 1 false (rW .u16 cs)) (nm [5]) ?_ ?_
   ·
    refine A8 ?_;refine x6 rfl (fun h36=> ?_) (fun h36=> ?_)
    ·
     refine A4 ?_;refine R2 (x4 sl37 (i) (by omega) (gN (by omega))) rfl rfl ?_;refine A1 ?_;refine R1 (x5 zhg (isS zhc) zah) rfl (R2 (xd8 (r:=((n+(dig 65536 a).getD i 0:Nat):Int)) (by rw [wr64 (by omega) (by omega)];omega)) rfl rfl ?_);refine A2 ?_;exact kF (n+(dig 65536 a).getD i 0) (by rw [xa])
    ·
     refine A1 ?_;exact kF (n) (by rw [xm2 x8 (by omega),zek])
   ·
    intro m1 hm1;refine xf0 (fun (m2:Nat)=>m2=(m1+b / 65536 ^ i%65536)) (fun (m2:Nat)=>uV (uV (uO (uV (uV uN 0 (tM a)) 1 (tM b)) 5 (.sl 5 1 0 cs.length)) 7 (tI i)) 6 (tI m2)) (fun (m2:Nat)=>uK uN 5 64 1 false (rW .u16 cs)) (nm [5]) ?_ ?_
    ·
     refine A8 ?_;refine x6 rfl (fun h39=> ?_) (fun h39=> ?_)
     ·
      refine A4 ?_;refine R2 (x4 sl37 (i) (by omega) (gN (by omega))) rfl rfl ?_;refine A1 ?_;refine R1 (x5 zhg (isS zhc) zah) rfl (R2 (xd8 (r:=((m1+(dig 65536 b).getD i 0:Nat):Int)) (by rw [wr64 (by omega) (by omega)];omega)) rfl rfl ?_);refine A2 ?_;exact kF (m1+(dig 65536 b).getD i 0) (by rw [xb])
     ·
      refine A1 ?_;exact kF (m1) (by rw [xm2 x8 (by omega),zek])
    ·
     intro m2 hm2;refine A4 ?_;refine R2 (xd9 (r:=((m2%65536:Nat):Int)) (by decide) (wrem64 (b:=65536))) rfl rfl (R1 (x5 zhc (isS zhg) (wu16 (by omega) (by omega))) rfl (R1 (xk9 (n:=1) [m2%65536] zgy el64 zf64 rfl rfl rfl) rfl (RE (xb3 (k:=5) (k':=51) (ts':=rW .u16 (cs++[m2%65536])) zgy el64 zf64 rfl rfl (fun _=>inferInstance) xj4 (by simp;omega) (by simp;omega) (by simp [rW]) (n':=cs.length+1) rfl) ⟨rfl,rfl,trivial⟩ ⟨rfl,trivial⟩ ⟨rfl,trivial⟩ ?_)));refine A5 ?_;refine R2 (xe4 (r:=((m2 / 65536:Nat):Int)) (by decide) (iquo64 (b:=65536) (by omega))) rfl rfl ?_;refine A9 ?_;obtain ⟨n1,n2⟩:=za4 (s:=m2) hn (by rw [hm2,hm1]);exact xc6 (l:=[5]) (zab 5 51) ((i+1,m2 / 65536,cs++[m2%65536])) ⟨(by dsimp only;exact ⟨hmore,n2,by rw [hcs];exact n1⟩),(by dsimp only;omega)⟩ (zaf rfl (zaf rfl ((zbc rfl (zaw (by dsimp only;rw [zbp];rfl))) (zas rfl (zas rfl zbd))))) ((zbb rfl (zat xf7.symm)) zbe) (zaj (zaj (zak rfl (zaj (zaj zar))))) (zam rfl (supJ xd1) zaz) (lkOk rfl) rfl rfl (fun _ h=>by cases h)
  ·
   refine A5 ?_;refine x6 rfl (fun h35_3=> ?_) (fun h35_3=> ?_)
   ·
    have hmore:=ym8 hn (.inr (.inr (by omega)));refine A4 ?_;refine xf0 (fun (m1:Nat)=>m1=(n+a / 65536 ^ i%65536)) (fun (m1:Nat)=>uV (uV (uO (uV (uV uN 0 (tM a)) 1 (tM b)) 5 (.sl 5 1 0 cs.length)) 7 (tI i)) 6 (tI m1)) (fun (m1:Nat)=>uK uN 5 64 1 false (rW .u16 cs)) (nm [5]) ?_ ?_
    ·
     refine A8 ?_;refine x6 rfl (fun h36=> ?_) (fun h36=> ?_)
     ·
      refine A4 ?_;refine R2 (x4 sl37 (i) (by omega) (gN (by omega))) rfl rfl ?_;refine A1 ?_;refine R1 (x5 zhg (isS zhc) zah) rfl (R2 (xd8 (r:=((n+(dig 65536 a).getD i 0:Nat):Int)) (by rw [wr64 (by omega) (by omega)];omega)) rfl rfl ?_);refine A2 ?_;exact kF (n+(dig 65536 a).getD i 0) (by rw [xa])
     ·
      refine A1 ?_;exact kF (n) (by rw [xm2 x8 (by omega),zek])
    ·
     intro m1 hm1;refine xf0 (fun (m2:Nat)=>m2=(m1+b / 65536 ^ i%65536)) (fun (m2:Nat)=>uV (uV (uO (uV (uV uN 0 (tM a)) 1 (tM b)) 5 (.sl 5 1 0 cs.length)) 7 (tI i)) 6 (tI m2)) (fun (m2:Nat)=>uK uN 5 64 1 false (rW .u16 cs)) (nm [5]) ?_ ?_
     ·
      refine A8 ?_;refine x6 rfl (fun h39=> ?_) (fun h39=> ?_)
      ·
       refine A4 ?_;refine R2 (x4 sl37 (i) (by omega) (gN (by omega))) rfl rfl ?_;refine A1 ?_;refine R1 (x5 zhg (isS zhc) zah) rfl (R2 (xd8 (r:=((m1+(dig 65536 b).getD i 0:Nat):Int)) (by rw [wr64 (by omega) (by omega)];omega)) rfl rfl ?_);refine A2 ?_;exact kF (m1+(dig 65536 b).getD i 0) (by rw [xb])
      ·
       refine A1 ?_;exact kF (m1) (by rw [xm2 x8 (by omega),zek])
     ·
      intro m2 hm2;refine A4 ?_;refine R2 (xd9 (r:=((m2%65536:Nat):Int)) (by decide) (wrem64 (b:=65536))) rfl rfl (R1 (x5 zhc (isS zhg) (wu16 (by omega) (by omega))) rfl (R1 (xk9 (n:=1) [m2%65536] zgy el64 zf64 rfl rfl rfl) rfl (RE (xb3 (k:=5) (k':=51) (ts':=rW .u16 (cs++[m2%65536])) zgy el64 zf64 rfl rfl (fun _=>inferInstance) xj4 (by simp;omega) (by simp;omega) (by simp [rW]) (n':=cs.length+1) rfl) ⟨rfl,rfl,trivial⟩ ⟨rfl,trivial⟩ ⟨rfl,trivial⟩ ?_)));refine A5 ?_;refine R2 (xe4 (r:=((m2 / 65536:Nat):Int)) (by decide) (iquo64 (b:=65536) (by omega))) rfl rfl ?_;refine A9 ?_;obtain ⟨n1,n2⟩:=za4 (s:=m2) hn (by rw [hm2,hm1]);exact xc6 (l:=[5]) (zab 5 51) ((i+1,m2 / 65536,cs++[m2%65536])) ⟨(by dsimp only;exact ⟨hmore,n2,by rw [hcs];exact n1⟩),(by dsimp only;omega)⟩ (zaf rfl (zaf rfl ((zbc rfl (zaw (by dsimp only;rw [zbp];rfl))) (zas rfl (zas rfl zbd))))) ((zbb rfl (zat xf7.symm)) zbe) (zaj (zaj (zak rfl (zaj (zaj zar))))) (zam rfl (supJ xd1) zaz) (lkOk rfl) rfl rfl (fun _ h=>by cases h)
   ·
    refine A7 ?_;refine RE (xi6 (f:=fun n:Nat=>tE (.int .u16 n)) (xs:=cs) (fun _ h=>h) (xi4 rfl) rfl) qA qA trivial ?_;refine A4 ?_;exact E1 rfl rfl (Le.of (congrArg tLm (by rw [hcs,jb2 hn (by omega) (by omega) (by omega) hi])))
instance fi155:FnI Tryz.prog 155:=⟨_,func155,by kernel_rfl,rfl⟩
theorem za2 (a b:Nat) (hab:b<=a) (ha:(dig 65536 a).length<=100000):
  Ct Tryz.prog 225 [tM a,tM b] (tM (a - b)):=by
 refine Ct.intro func225 rfl ntmps225 rfl ?_;intro w F;refine A7 ?_;refine RE (xe3 (k:=5) 64 1 false rfl (fun _=>rfl)) trivial trivial qA ?_;refine A14 ?_;refine cL (fun (fm:(Nat)×(Nat)×(List Nat))=>(fun (i:Nat) (br:Nat) (cs:List Nat)=>i<=(dig 65536 a).length/\cs.length=i/\Dig 65536 cs/\val 65536 cs+b%65536 ^ i=a%65536 ^ i+br*65536 ^ i/\br<=1) fm.1 fm.2.1 fm.2.2) (wC fun (i:Nat) (br:Nat) (cs:List Nat)=>uV (uV (uO (uV (uV uN 0 (tM a)) 1 (tM b)) 5 (.sl 5 1 0 cs.length)) 6 (tI br)) 7 (tI i)) (wC fun (i:Nat) (br:Nat) (cs:List Nat)=>uK uN 5 64 1 false (rW .u16 cs)) [5] (fun (fm:(Nat)×(Nat)×(List Nat))=>(fun (i:Nat) (br:Nat) (cs:List Nat)=>(dig 65536 a).length - i) fm.1 fm.2.1 fm.2.2) ((0,0,[])) (by dsimp only;exact ⟨zbq _,rfl,Dig.nil _,by simp [val,Nat.mod_one],by omega⟩) ?_;intro fm hI;obtain ⟨i,br,cs⟩:=fm;replace hI:i<=(dig 65536 a).length/\cs.length=i/\Dig 65536 cs/\val 65536 cs+b%65536 ^ i=a%65536 ^ i+br*65536 ^ i/\br<=1:=hI;show wc _ _ _ _ (uV (uV (uO (uV (uV uN 0 (tM a)) 1 (tM b)) 5 (.sl 5 1 0 cs.length)) 6 (tI br)) 7 (tI i)) (uK uN 5 64 1 false (rW .u16 cs)) _;obtain ⟨hi,hl,hD,hv,hbr⟩:=hI;have xa:=xc0 x8 a i;have xb:=xc0 x8 b i;have xa1:=(xc3 x8 a).getD (by decide) i;have xb1:=(xc3 x8 b).getD (by decide) i;refine A9 ?_;refine x6 rfl (fun h52=> ?_) (fun h52=> ?_)
 ·
  refine A8 ?_;refine R2 (x4 sl37 (i) (by omega) (gN (by omega))) rfl rfl ?_;refine A1 ?_;refine R1 (x5 zhg (isS zhc) zah) rfl (R2 (xd8 (r:=((65536+((dig 65536 a).getD i 0):Nat):Int)) (by rw [wr64 (by omega) (by omega)];omega)) rfl rfl ?_);refine A1 ?_;refine R2 (xd6 (r:=((65536+((dig 65536 a).getD i 0) - br:Nat):Int)) (by rw [wr64 (by omega) (by omega)];omega)) rfl rfl ?_;refine A3 ?_;refine xf0 (fun (m:Nat)=>m+br+b / 65536 ^ i%65536=65536+a / 65536 ^ i%65536) (fun (m:Nat)=>uV (uV (uV (uO (uV (uV uN 0 (tM a)) 1 (tM b)) 5 (.sl 5 1 0 cs.length)) 6 (tI br)) 7 (tI i)) 8 (tI m)) (fun (m:Nat)=>uK uN 5 64 1 false (rW .u16 cs)) (nm [5]) ?_ ?_
  ·
   refine A8 ?_;refine x6 rfl (fun h54=> ?_) (fun h54=> ?_)
   ·
    refine A4 ?_;refine R2 (x4 sl37 (i) (by omega) (gN (by omega))) rfl rfl ?_;refine A1 ?_;refine R1 (x5 zhg (isS zhc) zah) rfl (R2 (xd6 (r:=((65536+((dig 65536 a).getD i 0) - br - ((dig 65536 b).getD i 0):Nat):Int)) (by rw [wr64 (by omega) (by omega)];omega)) rfl rfl ?_);refine A2 ?_;exact kF (65536+((dig 65536 a).getD i 0) - br - ((dig 65536 b).getD i 0)) (by omega)
   ·
    refine A1 ?_;exact kF (65536+((dig 65536 a).getD i 0) - br) (by rw [xm2 x8 (v:=b) (i:=i) (by omega)];omega)
  ·
   intro m hm;refine A4 ?_;refine R2 (xd9 (r:=((m%65536:Nat):Int)) (by decide) (wrem64 (b:=65536))) rfl rfl (R1 (x5 zhc (isS zhg) (wu16 (by omega) (by omega))) rfl (R1 (xk9 (n:=1) [m%65536] zgy el64 zf64 rfl rfl rfl) rfl (RE (xb3 (k:=5) (k':=39) (ts':=rW .u16 (cs++[m%65536])) zgy el64 zf64 rfl rfl (fun _=>inferInstance) xj4 (by simp;omega) (by simp;omega) (by simp [rW]) (n':=cs.length+1) rfl) ⟨rfl,rfl,trivial⟩ ⟨rfl,trivial⟩ ⟨rfl,trivial⟩ ?_)));refine A5 ?_;refine R2 (xe4 (r:=((m / 65536:Nat):Int)) (by decide) (iquo64 (b:=65536) (by omega))) rfl rfl (R2 (xd6 (r:=((1 - m / 65536:Nat):Int)) (by rw [wr64 (by omega) (by omega)];omega)) rfl rfl ?_);refine A9 ?_;obtain ⟨n1,n2,n3⟩:=jh9 hl hv hbr hm;exact xc6 (l:=[5]) (zab 5 39) ((i+1,1 - m / 65536,cs++[m%65536])) ⟨(by dsimp only;exact ⟨by omega,by rw [zbp,hl];rfl,hD.append (Dig.cons (zck _ (by decide)) (Dig.nil _)),n1,n3⟩),(by dsimp only;omega)⟩ (zaf rfl (zaf rfl ((zbc rfl (zaw (by dsimp only;rw [zbp];rfl))) (zas rfl (zas rfl zbd))))) ((zbb rfl (zat xf7.symm)) zbe) (zaj (zaj (zak rfl (zaj (zaj zar))))) (zam rfl (supJ xd1) zaz) (lkOk rfl) rfl rfl (fun _ h=>by cases h)
 ·
  refine A7 ?_;refine RE (xi6 (f:=fun n:Nat=>tE (.int .u16 n)) (xs:=cs) (fun _ h=>h) (xi4 rfl) rfl) qA qA trivial (R1 (x3 (yi8 _) fi284 rfl) rfl ?_);refine A4 ?_;exact E1 rfl rfl (Le.of (congrArg tLm (by rw [show i=(dig 65536 a).length by omega] at hv hl;exact qt6 hl hD (xf6 x8 a) hab hv)))
theorem w7 (a:Nat) (ha:(dig 65536 a).length<=200000):
  Ct Tryz.prog 256 [tM a] (tM (a / 2)):=by
 refine Ct.intro func256 rfl ntmps256 rfl ?_;intro w F;refine A9 ?_;refine RE (xg0 (k:=8) (t:=tE (.int .u16 0)) (ts:=rW .u16 (List.replicate ((dig 65536 a).length) 0)) ((dig 65536 a).length) ((dig 65536 a).length) zgy el64 (fun _ _=>rfl) rfl (by omega) (by omega) (zbs _) (by omega) (by omega) (xp5 _)) qB trivial qA ?_;refine A18 ?_;refine cL (fun (fm:(Nat)×(Nat)×(List Nat))=>(fun (k:Nat) (n:Nat) (qs:List Nat)=>k<=(dig 65536 a).length/\qs.length=(dig 65536 a).length/\Dig 65536 qs/\n%2=a / 65536 ^ k%2/\val 65536 (qs.drop k)=a / 65536 ^ k / 2) fm.1 fm.2.1 fm.2.2) (wC fun (k:Nat) (n:Nat) (qs:List Nat)=>uV (uV (uO (uV uN 0 (tM a)) 3 (.sl 8 1 0 (dig 65536 a).length)) 4 (tI n)) 5 (tI ((k:Int) - 1))) (wC fun (k:Nat) (n:Nat) (qs:List Nat)=>uK uN 8 64 1 false (rW .u16 qs)) [8] (fun (fm:(Nat)×(Nat)×(List Nat))=>(fun (k:Nat) (n:Nat) (qs:List Nat)=>k) fm.1 fm.2.1 fm.2.2) (((dig 65536 a).length,0,List.replicate (dig 65536 a).length 0)) (by dsimp only;exact ⟨zbs _,by simp,Dig.rep (by decide) _,by rw [zcz (xf6 x8 a)],by rw [zcz (xf6 x8 a),Nat.zero_div,zfc,xf1]⟩) ?_;intro fm hI;obtain ⟨k,n,qs⟩:=fm;replace hI:k<=(dig 65536 a).length/\qs.length=(dig 65536 a).length/\Dig 65536 qs/\n%2=a / 65536 ^ k%2/\val 65536 (qs.drop k)=a / 65536 ^ k / 2:=hI;show wc _ _ _ _ (uV (uV (uO (uV uN 0 (tM a)) 3 (.sl 8 1 0 (dig 65536 a).length)) 4 (tI n)) 5 (tI ((k:Int) - 1))) (uK uN 8 64 1 false (rW .u16 qs)) _;obtain ⟨hk,hl,hD,hn,hv⟩:=hI;refine A7 ?_;refine x6 rfl (fun h82=> ?_) (fun h82=> ?_)
 ·
  obtain ⟨j,rfl⟩: ∃j,k=j+1:=⟨k - 1,by omega⟩
  have hx:=xc0 x8 a j;have hx1:=(xc3 x8 a).getD (by decide) j;obtain ⟨n1,n2,n3,n4,n5⟩:=wd1 (k:=j) (by omega) hl hD hn hv rfl;rw [<-hx] at n1 n2 n3 n4 n5;refine A7 ?_;refine R2 (xd9 (r:=((n%2:Nat):Int)) (by decide) (wrem64 (b:=2))) rfl rfl (R2 (xi2 (r:=((n%2*65536:Nat):Int)) (by rw [wr64 (by omega) (by omega)];omega)) rfl rfl ?_);refine A2 ?_;refine R2 (x4 sl37 (j) (by omega) (gN (by omega))) rfl rfl ?_;refine A1 ?_;refine R1 (x5 zhg (isS zhc) zah) rfl (R2 (xd8 (r:=(((n%2*65536+(dig 65536 a).getD j 0):Nat):Int)) (by rw [wr64 (by omega) (by omega)];omega)) rfl rfl ?_);refine A7 ?_;refine R2 (xe4 (r:=(((n%2*65536+(dig 65536 a).getD j 0) / 2:Nat):Int)) (by decide) (iquo64 (b:=2) (by omega))) rfl rfl (R1 (x5 zhc (isS zhg) (wu16 (by omega) (by omega))) rfl (R2 (zag sl37 rfl) rfl rfl (RE (xb8 (j) ti64 (xj0 (by omega)) (by omega) (xh1 (m:=_) rfl)) qB qA trivial ?_)));refine A8 ?_;exact kF ((j,(n%2*65536+(dig 65536 a).getD j 0),qs.set j ((n%2*65536+(dig 65536 a).getD j 0) / 2))) ⟨(by dsimp only;exact ⟨by omega,n1,n2,n3,n4⟩),(by dsimp only;omega)⟩
 ·
  have hk0:k=0:=by omega
  subst hk0;rw [List.drop_zero,zer,Nat.div_one] at hv;refine A7 ?_;refine RE (xi6 (f:=fun n:Nat=>tE (.int .u16 n)) (xs:=qs) (fun _ h=>h) (xi4 hl) hl) qA qA trivial (R1 (x3 (yi8 _) fi284 rfl) rfl ?_);refine A4 ?_;exact E1 rfl rfl (Le.of (congrArg tLm (by rw [xd7 x8 hD,hv])))
theorem zd8 (n:Int) (h1: -9223372036854775808<=n) (h2:n<=9223372036854775807):
  Ct Tryz.prog 71 [tI n] (tWh (wh n)):=by
 refine Ct.intro func71 rfl ntmps71 rfl ?_;intro w F;refine A2 ?_;refine RE (x7 (k:=2) (n:=2) (agg:=true) zr39.1 zr39.2 rfl) trivial trivial qA ?_;refine A5 ?_;refine R1 (x5 zhd (isS zhg) toU64) rfl ?_;refine A3 ?_;refine xf0 (fun (v:Nat)=>v=n.natAbs) (fun (v:Nat)=>uV (uO (uV uN 0 (tI n)) 2 (.ptr 2 0)) 3 (tE (.int .u64 ((v:Nat):Int)))) (fun (v:Nat)=>uK uN 2 39 2 true [.val (tWh ⟨false,[]⟩)]) (nm [2]) ?_ ?_
 ·
  refine A6 ?_;refine x6 rfl (fun h164=> ?_) (fun h164=> ?_)
  ·
   refine A2 ?_;refine R1 (zq6 (negU64 (by omega))) rfl ?_;refine A2 ?_;exact kF ((18446744073709551616 - (n%18446744073709551616).toNat)%18446744073709551616) (by omega)
  ·
   refine A1 ?_;exact kF ((n%18446744073709551616).toNat) (by omega)
 ·
  intro v hv;have hvl:=zu8 v (by omega);refine A2 ?_;refine RE (xe3 (k:=4) 64 1 false rfl (fun _=>rfl)) trivial trivial qA ?_;refine A4 ?_;refine cL (fun (fm:(Nat)×(Nat)×(List Nat))=>(fun (i:Nat) (u:Nat) (cs:List Nat)=>i<=(dig 65536 v).length/\u=v / 65536 ^ i/\cs=dgs 65536 i v/\u < 18446744073709551616) fm.1 fm.2.1 fm.2.2) (wC fun (i:Nat) (u:Nat) (cs:List Nat)=>uO (uV (uO (uV uN 0 (tI n)) 2 (.ptr 2 0)) 3 (tE (.int .u64 ((u:Nat):Int)))) 4 (.sl 4 1 0 cs.length)) (wC fun (i:Nat) (u:Nat) (cs:List Nat)=>uK (uK uN 2 39 2 true [.val (tWh ⟨false,[]⟩)]) 4 64 1 false (rW .u16 cs)) [2,4] (fun (fm:(Nat)×(Nat)×(List Nat))=>(fun (i:Nat) (u:Nat) (cs:List Nat)=>u) fm.1 fm.2.1 fm.2.2) ((0,v,[])) (by dsimp only;exact ⟨zbq _,by simp,rfl,by omega⟩) ?_;intro fm hI;obtain ⟨i,u,cs⟩:=fm;replace hI:i<=(dig 65536 v).length/\u=v / 65536 ^ i/\cs=dgs 65536 i v/\u < 18446744073709551616:=hI;show wc _ _ _ _ (uO (uV (uO (uV uN 0 (tI n)) 2 (.ptr 2 0)) 3 (tE (.int .u64 ((u:Nat):Int)))) 4 (.sl 4 1 0 cs.length)) (uK (uK uN 2 39 2 true [.val (tWh ⟨false,[]⟩)]) 4 64 1 false (rW .u16 cs)) _;obtain ⟨hi,hu,hcs,hu64⟩:=hI;have hcl:cs.length=i:=by rw [hcs,xe9]
  refine A7 ?_;refine x6 rfl (fun h168=> ?_) (fun h168=> ?_)
  ·
   refine A7 ?_;refine R2 (xd9 (r:=((u%65536:Nat):Int)) (by decide) (wrem64 (b:=65536))) rfl rfl (R1 (x5 zhc (isS zhd) (wu16 (by omega) (by omega))) rfl (R1 (xk9 (n:=1) [u%65536] zgy el64 zf64 rfl rfl rfl) rfl (RE (xb3 (k:=4) (k':=18) (ts':=rW .u16 (cs++[u%65536])) zgy el64 zf64 rfl rfl (fun _=>inferInstance) xj4 (by simp;omega) (by simp;omega) (by simp [rW]) (n':=cs.length+1) rfl) ⟨rfl,rfl,trivial⟩ ⟨rfl,trivial⟩ ⟨rfl,trivial⟩ ?_)));refine A5 ?_;refine R2 (xe4 (r:=((u / 65536:Nat):Int)) (by decide) (wquo64 (b:=65536) (by omega))) rfl rfl ?_;refine A3 ?_;obtain ⟨n1,n2,n3⟩:=zo9 hu (by omega);exact xc6 (l:=[2,4]) (zab 4 18) ((i+1,u / 65536,cs++[u%65536])) ⟨(by dsimp only;exact ⟨n1,n2,by rw [hcs];exact n3,by omega⟩),(by dsimp only;omega)⟩ ((zbc rfl (zaw (by dsimp only;rw [zbp];rfl))) (zaf rfl (zas rfl (zaf rfl zbd)))) ((zbb rfl (zat xf7.symm)) ((zbb rfl zap) zbe)) (zak rfl (zaj (zak rfl (zaj zar)))) (zam rfl (supJ xd1) (zam rfl (supJL rfl) zaz)) (lkOk rfl) rfl rfl (fun _ h=>by cases h)
  ·
   refine A9 ?_;have hfin:cs=dig 65536 v:=by rw [hcs];exact zq9 (by rw [<-hu];omega) hi
   subst hfin;refine RE (xi6 (f:=fun n:Nat=>tE (.int .u16 n)) (xs:=(dig 65536 v)) (fun _ h=>h) (xi4 rfl) rfl) qA qA trivial (R2 (x3 (ye1 _ v) fi155 rfl) rfl rfl ?_);refine A4 ?_;exact EC rfl ⟨_,_,_,_,_,rfl,rfl,ti39,(Le.of (by rw [yj4,hv,wh];congr 2;by_cases h:n < 0 <;> simp [h];omega))⟩
instance fi156:FnI Tryz.prog 156:=⟨_,func156,by kernel_rfl,rfl⟩
instance fi224:FnI Tryz.prog 224:=⟨_,func224,by kernel_rfl,rfl⟩
instance fi225:FnI Tryz.prog 225:=⟨_,func225,by kernel_rfl,rfl⟩
instance fi254:FnI Tryz.prog 254:=⟨_,func254,by kernel_rfl,rfl⟩
instance fi255:FnI Tryz.prog 255:=⟨_,func255,by kernel_rfl,rfl⟩
instance fi256:FnI Tryz.prog 256:=⟨_,func256,by kernel_rfl,rfl⟩
theorem qr7 (q:Nat) (h:(dig 65536 q).length<=100000):Ct Tryz.prog 224 [tM q,tLm [1]] (tM (q+1)):=by
 have e:dig 65536 1=[1]:=by rw [xj9 x8 (by decide),show (1:Nat) / 65536=0 by decide,xc8]
 have:=ye8 q 1 h (by rw [e];decide);rw [tM,tM,e] at this;exact this
theorem lenM {a b k:Nat} (h:a<=b) (hb:(dig 65536 b).length<=k):(dig 65536 a).length<=k:=zcj (xd0 x8 h) hb
theorem jz4 {l:List Nat} (h:l.length=1):decide (((l.getD 0 0:Nat):Int)=1)=decide (l=[1]):=by
 obtain ⟨a,rfl⟩:=List.length_eq_one_iff.1 h;simp;omega
theorem qj2 {n d:Int} (hd:d≠0):fr (Rat.divInt n d)=⟨wh (sgn (!((wh n).neg==(wh d).neg)) (n.natAbs / Nat.gcd n.natAbs d.natAbs)),wh (sgn false (d.natAbs / Nat.gcd n.natAbs d.natAbs))⟩:=by
 have key: ∀(n d:Int),0 < d->fr (Rat.divInt n d)=⟨wh (sgn (decide (n < 0)) (n.natAbs / Nat.gcd n.natAbs d.natAbs)),wh (sgn false (d.natAbs / Nat.gcd n.natAbs d.natAbs))⟩:=fun n d h=>by
  rw [yi0 h];have hg:(Int.gcd n d:Nat)=Nat.gcd n.natAbs d.natAbs:=rfl;rw [hg];have hdn:Nat.gcd n.natAbs d.natAbs ∣ n.natAbs:=Nat.gcd_dvd_left _ _;have hdd:Nat.gcd n.natAbs d.natAbs ∣ d.natAbs:=zgx _ _;generalize Nat.gcd n.natAbs d.natAbs=g at*
  have e2:d / (g:Int)=sgn false (d.natAbs / g):=by
   show _=((d.natAbs / g:Nat):Int)
   rw [Int.natCast_ediv];congr 1;omega
  have e1:n / (g:Int)=sgn (decide (n < 0)) (n.natAbs / g):=by
   by_cases hn:n < 0
   ·rw [zbg hn];show _= -((n.natAbs / g:Nat):Int)
    have:n= -(n.natAbs:Int):=by omega
    conv=>lhs;rw [this]
    rw [Int.neg_ediv_of_dvd (zfq.2 hdn),Int.natCast_ediv]
   ·rw [zbf hn];show _=((n.natAbs / g:Nat):Int)
    rw [Int.natCast_ediv];congr 1;omega
  rw [e1,e2]
 rcases Int.lt_or_gt_of_ne hd with h | h
 ·have e:Rat.divInt n d=Rat.divInt (-n) (-d):=(Rat.neg_divInt_neg n d).symm;rw [e,key (-n) (-d) (by omega),Int.natAbs_neg,Int.natAbs_neg];have e3:(wh d).neg=true:=zbg h;have e4:(wh n).neg=decide (n < 0):=rfl;rw [e3,e4];by_cases h0:n=0
  ·subst h0;simp [sgn]
  ·have:decide (-n < 0)= !(decide (n < 0)==true):=by
    by_cases hn:n < 0
    ·simp [hn];omega
    ·simp [hn];omega
   rw [this]
 ·rw [key n d h];have e3:(wh d).neg=false:=zbf (by omega);have e4:(wh n).neg=decide (n < 0):=rfl;rw [e3,e4];simp
theorem yk5 (a b:Nat) (hb:0 < b) (ha:(dig 65536 a).length<=4000) (hbl:(dig 65536 b).length<=4000):
  Ct Tryz.prog 156 [tM a,tM b] (tT [tM (a / b),tM (a%b)]):=by
 refine Ct.intro func156 rfl ntmps156 rfl ?_;intro w F;refine A14 ?_;refine x6 rfl (fun h103=> ?_) (fun h103=> ?_)
 ·
  have hb0:=jr9 (b:=b) (by omega);have hbW:=(xc3 x8 b).getD (by decide) 0;refine A4 ?_;refine R2 (x4 sl37 (0) (by omega) (gN (by omega))) rfl rfl ?_;refine A1 ?_;refine R1 (x5 zhg (isS zhc) zah) rfl (R2 (x3 (jp1 a _ (by omega) (by omega) (by omega)) fi254 rfl) rfl rfl ?_);refine A8 ?_;exact E2 rfl rfl rfl (Le.of (by rw [hb0])) (Le.of (by rw [hb0]))
 ·
  refine A15 ?_;refine cL (fun (n:Nat)=>n=0∨b*2 ^ n<=a+a) (fun (n:Nat)=>uV (uV (uV (uV uN 0 (tM a)) 1 (tM b)) 6 (tI n)) 7 (tM (b*2 ^ n))) (fun (n:Nat)=>fun _=>none) [] (fun (n:Nat)=>a+1 - b*2 ^ n) (0) (.inl rfl) (hg:=(Sub.le rfl (Le.of (by first | rw [zer,zee] | (dsimp only;rw [zer,zee]))) (sI (sC (sC zay))))) ?_;intro n hI;have hn:n < 16*4001:=by
   rcases hI with h | h
   ·omega
   ·refine js8 (a:=a+a) ?_ (by have:=yt1 ha ha;omega);exact zcj (zfh _ hb) h
  refine A5 ?_;refine R2 (x3 (zg1 a (b*2 ^ n)) fi255 rfl) rfl rfl ?_;refine A3 ?_;refine xc2 rfl (fun h107=> ?_) (fun h107=> ?_)
  ·
   have hle:b*2 ^ n<=a:=by
    have h:=h107;simp at h;exact h
   have hnl:=lenM hle ha;refine A7 ?_;refine R2 (x3 (ye8 (b*2 ^ n) (b*2 ^ n) (by omega) (by omega)) fi224 rfl) rfl rfl ?_;refine A9 ?_;have he:b*2 ^ n+b*2 ^ n=b*2 ^ (n+1):=by rw [zch,<-zdf,Nat.mul_two]
   have hp:0 < b*2 ^ n:=Nat.mul_pos hb (zdb (by decide));exact kF (n+1) ⟨(.inr (by omega)),(by show a+1 - b*2 ^ (n+1) < a+1 - b*2 ^ n;omega)⟩ (hg:=(Sub.le rfl (Le.of (by rw [he])) (sI (sC (sC zay)))))
  ·
   have hlt:a < b*2 ^ n:=by
    have h:=h107;simp at h;exact h
   have hnl:(dig 65536 (b*2 ^ n)).length<=4001:=by
    rcases hI with h | h
    ·rw [h,zer,zee];omega
    ·exact lenM h (yt1 ha ha)
   refine A18 ?_;refine cL (fun (i:Nat)=>i<=n) (fun (i:Nat)=>uV (uV (uV (uV (uV uN 0 (tM a)) 1 (tM b)) 6 (tI n)) 8 (tM (b*2 ^ i))) 9 (tI i)) (fun (i:Nat)=>fun _=>none) [] (fun (i:Nat)=>n - i) (0) (zbq _) (hg:=(sI (Sub.le rfl (Le.of (by first | rw [zer,zee] | (dsimp only;rw [zer,zee]))) (sI (sC (sC zay)))))) ?_;intro i hJ;refine A8 ?_;refine x6 rfl (fun h111=> ?_) (fun h111=> ?_)
   ·
    have hil:(dig 65536 (b*2 ^ i)).length<=4001:=lenM (zdi _ (Nat.pow_le_pow_right (by decide) (by omega))) hnl;refine A7 ?_;refine R2 (x3 (ye8 (b*2 ^ i) (b*2 ^ i) (by omega) (by omega)) fi224 rfl) rfl rfl ?_;refine A9 ?_;have he:b*2 ^ i+b*2 ^ i=b*2 ^ (i+1):=by rw [zch,<-zdf,Nat.mul_two]
    exact kF (i+1) ⟨(by omega),(by omega)⟩ (hg:=(sI (Sub.le rfl (Le.of (by rw [he])) (sI (sC (sC zay))))))
   ·
    refine A12 ?_;refine RE (ya6 (k:=43) (ents:=[]) zgy el64 zf64 rfl (by simp) rfl rfl rfl) trivial trivial qA ?_;refine A1 ?_;refine RE (xb3 (k:=43) (k':=45) (ts':=rW .u16 (dig 65536 a)) zgy el64 zf64 rfl rfl (fun _=>inferInstance) rfl (by simp;omega) (by simp;omega) (by simp [rW]) (n':=(dig 65536 a).length) (by simp)) ⟨rfl,rfl,trivial⟩ ⟨rfl,trivial⟩ ⟨rfl,trivial⟩ (RE (xv6 (f:=fun n:Nat=>tE (.int .u16 n)) (xs:=dig 65536 a) (fun _ h=>h) (xi4 rfl) rfl) ⟨rfl,trivial⟩ ⟨rfl,trivial⟩ trivial ?_);refine A9 ?_;refine cL (fun (fm:(Nat)×(Nat)×(Nat)×(Nat))=>(fun (j:Nat) (q:Nat) (r:Nat) (d:Nat)=>j<=n/\d=b*2 ^ (n - j)/\a=q*d+r/\r < d) fm.1 fm.2.1 fm.2.2.1 fm.2.2.2) (wD fun (j:Nat) (q:Nat) (r:Nat) (d:Nat)=>uV (uV (uV (uV (uV uN 6 (tI n)) 8 (tM d)) 10 (tM q)) 11 (tM r)) 12 (tI j)) (wD fun (j:Nat) (q:Nat) (r:Nat) (d:Nat)=>fun _=>none) [] (fun (fm:(Nat)×(Nat)×(Nat)×(Nat))=>(fun (j:Nat) (q:Nat) (r:Nat) (d:Nat)=>n - j) fm.1 fm.2.1 fm.2.2.1 fm.2.2.2) ((0,0,a,b*2 ^ n)) (by dsimp only;exact ⟨zbq _,rfl,by omega,by omega⟩) (hg:=(sI (sC (Sub.le rfl (leNil (xc8 _)) (Sub.le rfl (Le.of (by first | rw [show i=n by omega] | (dsimp only;rw [show i=n by omega]))) (sI zay)))))) ?_;intro fm hK;obtain ⟨j,q,r,d⟩:=fm;replace hK:j<=n/\d=b*2 ^ (n - j)/\a=q*d+r/\r < d:=hK;show wc _ _ _ _ (uV (uV (uV (uV (uV uN 6 (tI n)) 8 (tM d)) 10 (tM q)) 11 (tM r)) 12 (tI j)) (fun _=>none) _;obtain ⟨hj,hd,hq,hr⟩:=hK;have hqa:q<=a:=by
     have h1:q*1<=q*d:=zdi _ (by omega);omega
    have hql:=lenM hqa ha;have hdn:b*2 ^ (n - j)<=b*2 ^ n:=zdi _ (Nat.pow_le_pow_right (by decide) (by omega));have hdl:(dig 65536 d).length<=4001:=by rw [<-hd] at hdn;exact lenM hdn hnl
    have hqq:=yt1 hql hql;refine A8 ?_;refine x6 rfl (fun h116=> ?_) (fun h116=> ?_)
    ·
     refine A7 ?_;refine R1 (x3 (w7 d (by omega)) fi256 rfl) rfl ?_;refine A7 ?_;refine R2 (x3 (ye8 q q (by omega) (by omega)) fi224 rfl) rfl rfl ?_;refine A7 ?_;refine R2 (x3 (zg1 r (d / 2)) fi255 rfl) rfl rfl ?_;refine A3 ?_;refine xc2 rfl (fun h119=> ?_) (fun h119=> ?_)
     ·
      have hge:d / 2<=r:=by
       have h:=h119;simp at h;exact h
      refine A4 ?_;refine R2 (x3 (za2 r (d / 2) (by omega) (by have:=lenM (zgj hr) hdl;omega)) fi225 rfl) rfl rfl ?_;refine A5 ?_;refine R1 (xk9 (n:=1) [1] zgy el64 zf64 rfl rfl rfl) rfl (R2 (x3 (qr7 (q+q) (by omega)) fi224 rfl) rfl rfl ?_);refine A9 ?_;obtain ⟨b1,b2,b3⟩:=qp3 (by omega) hd hq hr;obtain ⟨b4,b5,b6⟩:=b3 (by omega);exact kF ((j+1,q+q+1,r - d / 2,d / 2)) ⟨(by dsimp only;exact ⟨by omega,b1,b4,b5⟩),(by dsimp only;omega)⟩
     ·
      have hge:r < d / 2:=by
       have h:=h119;simp at h;exact h
      refine A8 ?_;obtain ⟨b1,b2,b3⟩:=qp3 (by omega) hd hq hr;exact kF ((j+1,q+q,r,d / 2)) ⟨(by dsimp only;exact ⟨by omega,b1,b2 (by omega),by omega⟩),(by dsimp only;omega)⟩
    ·
     have hdb:d=b:=by rw [hd,show n - j=0 by omega,zer,zee]
     rw [hdb] at hq hr;obtain ⟨e1,e2⟩:=ji6 hq hr;refine A14 ?_;exact E2 rfl rfl rfl (Le.of (by rw [e1])) (Le.of (by rw [e2]))
theorem zn7 (a b:Nat) (ha:(dig 65536 a).length<=4000) (hb:(dig 65536 b).length<=4000):
  Ct Tryz.prog 138 [tM a,tM b] (tM (Nat.gcd a b)):=by
 refine Ct.intro func138 rfl ntmps138 rfl ?_;intro w F;refine A7 ?_;refine cL (fun (fm:(Nat)×(Nat))=>(fun (x:Nat) (y:Nat)=>Nat.gcd x y=Nat.gcd a b/\(dig 65536 x).length<=4000/\(dig 65536 y).length<=4000) fm.1 fm.2) (wB fun (x:Nat) (y:Nat)=>uV (uV uN 0 (tM x)) 1 (tM y)) (wB fun (x:Nat) (y:Nat)=>fun _=>none) [] (fun (fm:(Nat)×(Nat))=>(fun (x:Nat) (y:Nat)=>y) fm.1 fm.2) ((a,b)) (by dsimp only;exact ⟨rfl,ha,hb⟩) ?_;intro fm hI;obtain ⟨x,y⟩:=fm;replace hI:Nat.gcd x y=Nat.gcd a b/\(dig 65536 x).length<=4000/\(dig 65536 y).length<=4000:=hI;show wc _ _ _ _ (uV (uV uN 0 (tM x)) 1 (tM y)) (fun _=>none) _;obtain ⟨hg,hx,hy⟩:=hI;refine A8 ?_;refine x6 rfl (fun h261=> ?_) (fun h261=> ?_)
 ·
  have hy0:0 < y:=by have:=zw9.1 h261;omega
  refine A7 ?_;refine R2 (x3 (yk5 x y hy0 hx hy) fi156 rfl) rfl rfl ?_;refine A18 ?_;have hlt:x%y < y:=zck _ hy0;exact kF ((y,x%y)) ⟨(by dsimp only;exact ⟨by rw [zgk,<-Nat.gcd_rec,zgk];exact hg,hy,lenM (zgj hlt) hy⟩),(by dsimp only;omega)⟩
 ·
  have hy0:y=0:=zgs fun h=>h261 (zw9.2 h);refine A12 ?_;exact E1 rfl rfl (Le.of (by rw [<-hg,hy0,Nat.gcd_zero_right]))
theorem jd8 (l:List Nat):
  Ct Tryz.prog 137 [tLm l] (tB (decide (l=[1]))):=by
 refine Ct.intro func137 rfl ntmps137 rfl ?_;intro w F;refine A11 ?_;refine RGcaseD (t:=6) rfl (fun h24=> ?_) (fun h24=> ?_)
 ·
  refine A1 ?_;refine Rg (zbg h24) rfl (x4 sl37 (0) (by omega) (gN (by omega))) rfl qB ?_;refine A7 ?_;exact E1 rfl rfl (zau (jz4 (by omega)))
 ·
  refine A9 ?_;exact E1 rfl rfl (zau (zbf (fun h=>h24 (by rw [h];rfl))).symm)
instance fi70:FnI Tryz.prog 70:=⟨_,func70,by kernel_rfl,rfl⟩
instance fi71:FnI Tryz.prog 71:=⟨_,func71,by kernel_rfl,rfl⟩
instance fi137:FnI Tryz.prog 137:=⟨_,func137,by kernel_rfl,rfl⟩
instance fi138:FnI Tryz.prog 138:=⟨_,func138,by kernel_rfl,rfl⟩
theorem zo1 (n d:Int) (hn:len16 n<=4000) (hd:len16 d<=4000) (hd0:d≠0):
  Ct Tryz.prog 70 [tWh (wh n),tWh (wh d)] (tFr (fr (Rat.divInt n d))):=by
 have hg0:0 < (Nat.gcd n.natAbs d.natAbs):=Nat.gcd_pos_of_pos_right _ (by omega);have hgl:=lenM (Nat.le_of_dvd (by omega) (zgx n.natAbs d.natAbs)) hd;refine Ct.intro func70 rfl ntmps70 rfl ?_;intro w F;refine A4 ?_;refine RE (x7 (k:=4) (n:=4) (agg:=true) zr41.1 zr41.2 rfl) trivial trivial qA ?_;refine A8 ?_;refine R2 (x3 (zn7 n.natAbs d.natAbs hn hd) fi138 rfl) rfl rfl ?_;refine A7 ?_;refine R1 (x3 (jd8 _) fi137 rfl) rfl ?_;refine A2 ?_;refine xc2 rfl (fun h15=> ?_) (fun h15=> ?_)
 ·
  have hg1:(Nat.gcd n.natAbs d.natAbs)=1:=by
   have h:=zes h15;rw [<-xm9 x8 (Nat.gcd n.natAbs d.natAbs),h];rfl
  refine A9 ?_;refine R2 (x3 (ye1 (!((wh n).neg==(wh d).neg)) n.natAbs) fi155 rfl) rfl rfl ?_;refine A2 ?_;refine R2 (x3 (ye1 false d.natAbs) fi155 rfl) rfl rfl (R2 (xb0 (r:=tS [⟨2,true,tWh (wh (sgn (!((wh n).neg==(wh d).neg)) n.natAbs))⟩,⟨2,true,tWh (wh (sgn false d.natAbs))⟩]) (ts:=[(0,tWh (wh (sgn (!((wh n).neg==(wh d).neg)) n.natAbs))),(1,tWh (wh (sgn false d.natAbs)))]) bu41 zr41.2 (Bc 0 rfl rfl rfl (Bc 1 rfl rfl rfl zao))) rfl rfl ?_);refine A5 ?_;exact EC rfl ⟨_,_,_,_,_,rfl,rfl,ti41,(Le.of (by rw [qj2 hd0,hg1,Nat.div_one,Nat.div_one]))⟩
 ·
  refine A7 ?_;refine R2 (x3 (yk5 n.natAbs (Nat.gcd n.natAbs d.natAbs) hg0 hn hgl) fi156 rfl) rfl rfl ?_;refine A12 ?_;refine R2 (x3 (yk5 d.natAbs (Nat.gcd n.natAbs d.natAbs) hg0 hd hgl) fi156 rfl) rfl rfl ?_;refine A15 ?_;refine R2 (x3 (ye1 (!((wh n).neg==(wh d).neg)) (n.natAbs / (Nat.gcd n.natAbs d.natAbs))) fi155 rfl) rfl rfl ?_;refine A1 ?_;refine R2 (x3 (ye1 false (d.natAbs / (Nat.gcd n.natAbs d.natAbs))) fi155 rfl) rfl rfl (R2 (xb0 (r:=tS [⟨2,true,tWh (wh (sgn (!((wh n).neg==(wh d).neg)) (n.natAbs / (Nat.gcd n.natAbs d.natAbs))))⟩,⟨2,true,tWh (wh (sgn false (d.natAbs / (Nat.gcd n.natAbs d.natAbs))))⟩]) (ts:=[(0,tWh (wh (sgn (!((wh n).neg==(wh d).neg)) (n.natAbs / (Nat.gcd n.natAbs d.natAbs))))),(1,tWh (wh (sgn false (d.natAbs / (Nat.gcd n.natAbs d.natAbs)))))]) bu41 zr41.2 (Bc 0 rfl rfl rfl (Bc 1 rfl rfl rfl zao))) rfl rfl ?_);refine A4 ?_;exact EC rfl ⟨_,_,_,_,_,rfl,rfl,ti41,(Le.of (by rw [qj2 hd0]))⟩
end An.S
namespace An
open Go
theorem zt3 {x y:Nat} (hx:x < 65536) (hy:y < 65536):x*y<=4294836225:=by
 have:=Nat.mul_le_mul (show x<=65535 by omega) (show y<=65535 by omega);omega
theorem qv4 {b i j c x y s la:Nat} {w0 vs:List Nat} (hl:vs.length=la) (hD:Dig 65536 vs) (hw:w0.length=la) (hdr:vs.drop (i+j)=w0.drop (i+j)) (hij:i+j < la) (hc:c < 65536) (hx:x < 65536) (hy:y=b / 65536 ^ j%65536)
  (hs:s=x*y+vs.getD (i+j) 0+c) (h:val 65536 (vs.take (i+j))+c*65536 ^ (i+j)=val 65536 (w0.take (i+j))+x*65536 ^ i*(b%65536 ^ j)):
  (vs.set (i+j) (s%65536)).length=la/\Dig 65536 (vs.set (i+j) (s%65536))/\(vs.set (i+j) (s%65536)).drop (i+(j+1))=w0.drop (i+(j+1))/\s / 65536 < 65536/\
   val 65536 ((vs.set (i+j) (s%65536)).take (i+(j+1)))+s / 65536*65536 ^ (i+(j+1))=val 65536 (w0.take (i+(j+1)))+x*65536 ^ i*(b%65536 ^ (j+1)):=by
 have hyW:y < 65536:=by rw [hy];exact zck _ (by decide)
 have hg:vs.getD (i+j) 0 < 65536:=hD.getD (by decide) _;refine ⟨by simpa using hl,hD.set (zck _ (by decide)),by rw [<-zgm,xe0];exact xi5 hdr (by omega),?_,?_⟩
 ·have:=zt3 hx hyW;refine zdc ?_;show s < 65536*65536;have:vs.getD (i+j) 0 < 65536:=hg;have:c < 65536:=hc;omega
 ·rw [<-zgm,xe7 (by omega),xd4 _ w0 _ (by omega),<-xg5 hdr (zbs _)];exact zv2 h hs hy
theorem qs5 {a b i c la lb:Nat} {w0 vs:List Nat} (hi:i < la) (hw:w0.length=la+lb) (hl:vs.length=la+lb) (hD:Dig 65536 vs) (hdr:vs.drop (i+lb)=w0.drop (i+lb)) (hz:w0.drop (i+lb)=List.replicate (la - i) 0) (hc:c < 65536)
  (h0:val 65536 (w0.take (i+lb))=a%65536 ^ i*b) (hb:b < 65536 ^ lb) (h:val 65536 (vs.take (i+lb))+c*65536 ^ (i+lb)=val 65536 (w0.take (i+lb))+a / 65536 ^ i%65536*65536 ^ i*(b%65536 ^ lb)):
  (vs.set (i+lb) c).length=la+lb/\Dig 65536 (vs.set (i+lb) c)/\(vs.set (i+lb) c).drop (i+1+lb)=List.replicate (la - (i+1)) 0/\val 65536 ((vs.set (i+lb) c).take (i+1+lb))=a%65536 ^ (i+1)*b:=by
 refine ⟨by simpa using hl,hD.set hc,?_,?_⟩
 ·rw [show i+1+lb=i+lb+1 by omega,xe0,xi5 (j:=i+lb+1) hdr (by omega),<-List.drop_drop,hz,zfc];congr 1
 ·rw [show i+1+lb=i+lb+1 by omega,xe7 (by omega),zce _ c,h,h0,xg7,zcc hb,zcn]
  congr 1
  rw [zce (65536 ^ i)]
theorem qr1 {a b la lb:Nat} {ws:List Nat} (hl:ws.length=la+lb) (hD:Dig 65536 ws) (ha:a < 65536 ^ la) (h:val 65536 (ws.take (la+lb))=a%65536 ^ la*b):trimL ws=dig 65536 (a*b):=by
 rw [xd7 x8 hD];rw [<-hl,zbx,zcc ha] at h;rw [h]
end An
namespace An.S
open Go Go.Proofs An Tryz
instance fi52:FnI Tryz.prog 52:=⟨_,func52,by kernel_rfl,rfl⟩
instance fi135:FnI Tryz.prog 135:=⟨_,func135,by kernel_rfl,rfl⟩
instance fi136:FnI Tryz.prog 136:=⟨_,func136,by kernel_rfl,rfl⟩
instance fi140:FnI Tryz.prog 140:=⟨_,func140,by kernel_rfl,rfl⟩
instance fi148:FnI Tryz.prog 148:=⟨_,func148,by kernel_rfl,rfl⟩
instance fi217:FnI Tryz.prog 217:=⟨_,func217,by kernel_rfl,rfl⟩
instance fi219:FnI Tryz.prog 219:=⟨_,func219,by kernel_rfl,rfl⟩
instance fi258:FnI Tryz.prog 258:=⟨_,func258,by kernel_rfl,rfl⟩
theorem jk0 (a b:Nat) (ha:(dig 65536 a).length<=100000) (hb:(dig 65536 b).length<=100000):
  Ct Tryz.prog 219 [tM a,tM b] (tM (a*b)):=by
 refine Ct.intro func219 rfl ntmps219 rfl ?_;intro w F;have hbW:=xf6 x8 b;refine A12 ?_;refine RE (xg0 (k:=14) (t:=tE (.int .u16 0)) (ts:=rW .u16 (List.replicate (((dig 65536 a).length+(dig 65536 b).length)) 0)) (((dig 65536 a).length+(dig 65536 b).length)) (((dig 65536 a).length+(dig 65536 b).length)) zgy el64 (fun _ _=>rfl) rfl (by omega) (by omega) (zbs _) (by omega) (by omega) (xp5 _)) qB trivial qA ?_;refine A10 ?_;refine cL (fun (fm:(Nat)×(List Nat))=>(fun (i:Nat) (ws:List Nat)=>i<=(dig 65536 a).length/\ws.length=(dig 65536 a).length+(dig 65536 b).length/\Dig 65536 ws/\ws.drop (i+(dig 65536 b).length)=List.replicate ((dig 65536 a).length - i) 0/\val 65536 (ws.take (i+(dig 65536 b).length))=a%65536 ^ i*b) fm.1 fm.2) (wB fun (i:Nat) (ws:List Nat)=>uV (uO (uV (uV uN 0 (tM a)) 1 (tM b)) 5 (.sl 14 1 0 ((dig 65536 a).length+(dig 65536 b).length))) 6 (tI i)) (wB fun (i:Nat) (ws:List Nat)=>uK uN 14 64 1 false (rW .u16 ws)) [14] (fun (fm:(Nat)×(List Nat))=>(fun (i:Nat) (ws:List Nat)=>(dig 65536 a).length - i) fm.1 fm.2) ((0,List.replicate ((dig 65536 a).length+(dig 65536 b).length) 0)) (by dsimp only;exact ⟨zbq _,by simp,Dig.rep (by decide) _,by rw [zfc];congr 1;omega,by rw [List.take_replicate,xf1,zer,zfs,zdz]⟩) ?_;intro fm hI;obtain ⟨i,ws⟩:=fm;replace hI:i<=(dig 65536 a).length/\ws.length=(dig 65536 a).length+(dig 65536 b).length/\Dig 65536 ws/\ws.drop (i+(dig 65536 b).length)=List.replicate ((dig 65536 a).length - i) 0/\val 65536 (ws.take (i+(dig 65536 b).length))=a%65536 ^ i*b:=hI;show wc _ _ _ _ (uV (uO (uV (uV uN 0 (tM a)) 1 (tM b)) 5 (.sl 14 1 0 ((dig 65536 a).length+(dig 65536 b).length))) 6 (tI i)) (uK uN 14 64 1 false (rW .u16 ws)) _;obtain ⟨hi,hl,hD,hz,hv⟩:=hI;have hx:=xc0 x8 a i;have hx1:=(xc3 x8 a).getD (by omega) i;refine A9 ?_;refine x6 rfl (fun h66=> ?_) (fun h66=> ?_)
 ·
  refine A16 ?_;refine cL (fun (fm:(Nat)×(List Nat)×(Nat))=>(fun (j:Nat) (vs:List Nat) (c:Nat)=>j<=(dig 65536 b).length/\vs.length=(dig 65536 a).length+(dig 65536 b).length/\Dig 65536 vs/\vs.drop (i+j)=ws.drop (i+j)/\c < 65536/\val 65536 (vs.take (i+j))+c*65536 ^ (i+j)=val 65536 (ws.take (i+j))+(dig 65536 a).getD i 0*65536 ^ i*(b%65536 ^ j)) fm.1 fm.2.1 fm.2.2) (wC fun (j:Nat) (vs:List Nat) (c:Nat)=>uV (uV (uV (uO (uV (uV uN 0 (tM a)) 1 (tM b)) 5 (.sl 14 1 0 ((dig 65536 a).length+(dig 65536 b).length))) 6 (tI i)) 7 (tI c)) 8 (tI j)) (wC fun (j:Nat) (vs:List Nat) (c:Nat)=>uK uN 14 64 1 false (rW .u16 vs)) [14] (fun (fm:(Nat)×(List Nat)×(Nat))=>(fun (j:Nat) (vs:List Nat) (c:Nat)=>(dig 65536 b).length - j) fm.1 fm.2.1 fm.2.2) ((0,ws,0)) (by dsimp only;exact ⟨zbq _,hl,hD,rfl,by omega,by rw [zer,zfs];omega⟩) ?_;intro fm hJ;obtain ⟨j,vs,c⟩:=fm;replace hJ:j<=(dig 65536 b).length/\vs.length=(dig 65536 a).length+(dig 65536 b).length/\Dig 65536 vs/\vs.drop (i+j)=ws.drop (i+j)/\c < 65536/\val 65536 (vs.take (i+j))+c*65536 ^ (i+j)=val 65536 (ws.take (i+j))+(dig 65536 a).getD i 0*65536 ^ i*(b%65536 ^ j):=hJ;show wc _ _ _ _ (uV (uV (uV (uO (uV (uV uN 0 (tM a)) 1 (tM b)) 5 (.sl 14 1 0 ((dig 65536 a).length+(dig 65536 b).length))) 6 (tI i)) 7 (tI c)) 8 (tI j)) (uK uN 14 64 1 false (rW .u16 vs)) _;obtain ⟨hj,kl,kD,kdr,kc,kv⟩:=hJ;have hy:=xc0 x8 b j;have hy1:=(xc3 x8 b).getD (by omega) j;have hw1:=kD.getD (by omega) (i+j);have hxy:=zt3 hx1 hy1;refine A9 ?_;refine x6 rfl (fun h68=> ?_) (fun h68=> ?_)
  ·
   refine A9 ?_;refine R2 (x4 sl37 (i) (by omega) (gN (by omega))) rfl rfl ?_;refine A1 ?_;refine R1 (x5 zhg (isS zhc) zah) rfl ?_;refine A2 ?_;refine R2 (x4 sl37 (j) (by omega) (gN (by omega))) rfl rfl ?_;refine A1 ?_;refine R1 (x5 zhg (isS zhc) zah) rfl (R2 (xi2 (r:=(((dig 65536 a).getD i 0*(dig 65536 b).getD j 0:Nat):Int)) (by rw [<-zed,wr64 (by omega) (by omega)])) rfl rfl (R2 (xd8 (r:=((c+(dig 65536 a).getD i 0*(dig 65536 b).getD j 0:Nat):Int)) (by rw [wr64 (by omega) (by omega)];omega)) rfl rfl ?_));refine A4 ?_;refine R2 (zag sl37 rfl) rfl rfl (RE (xc1 (i+j) ti64 (xn7 (by omega)) (by omega)) qA qA trivial (R1 (x5 zhg (isS zhc) zah) rfl (R2 (xd8 (r:=(((c+(dig 65536 a).getD i 0*(dig 65536 b).getD j 0+vs.getD (i+j) 0):Nat):Int)) (by rw [wr64 (by omega) (by omega)];omega)) rfl rfl ?_)));refine A10 ?_;refine R2 (xd9 (r:=(((c+(dig 65536 a).getD i 0*(dig 65536 b).getD j 0+vs.getD (i+j) 0)%65536:Nat):Int)) (by decide) (wrem64 (b:=65536))) rfl rfl (R1 (x5 zhc (isS zhg) (wu16 (by omega) (by omega))) rfl (R2 (zag sl37 rfl) rfl rfl (RE (xb8 (i+j) ti64 (xj0 (by omega)) (by omega) (xh1 (m:=_) rfl)) qB qA trivial ?_)));refine A4 ?_;refine R2 (xe4 (r:=(((c+(dig 65536 a).getD i 0*(dig 65536 b).getD j 0+vs.getD (i+j) 0) / 65536:Nat):Int)) (by decide) (iquo64 (b:=65536) (by omega))) rfl rfl ?_;refine A9 ?_;obtain ⟨n1,n2,n3,n4,n5⟩:=qv4 (s:=(c+(dig 65536 a).getD i 0*(dig 65536 b).getD j 0+vs.getD (i+j) 0)) kl kD hl kdr (by omega) kc hx1 hy (by omega) kv;exact kF ((j+1,vs.set (i+j) ((c+(dig 65536 a).getD i 0*(dig 65536 b).getD j 0+vs.getD (i+j) 0)%65536),(c+(dig 65536 a).getD i 0*(dig 65536 b).getD j 0+vs.getD (i+j) 0) / 65536)) ⟨(by dsimp only;exact ⟨by omega,n1,n2,n3,n4,n5⟩),(by dsimp only;omega)⟩
  ·
   have hjb:j=(dig 65536 b).length:=by omega
   refine A12 ?_;refine R1 (x5 zhc (isS zhg) (wu16 (by omega) (by omega))) rfl (R2 (zag sl37 rfl) rfl rfl (RE (xb8 (i+(dig 65536 b).length) ti64 (xj0 (by omega)) (by omega) (xh1 (m:=_) rfl)) qB qA trivial ?_));refine A8 ?_;obtain ⟨n1,n2,n3,n4⟩:=qs5 (by omega) hl kl kD (by rw [<-hjb];exact kdr) hz kc hv hbW (by rw [<-hjb,<-hx];exact kv);exact kF ((i+1,vs.set (i+(dig 65536 b).length) c)) ⟨(by dsimp only;exact ⟨by omega,n1,n2,n3,n4⟩),(by dsimp only;omega)⟩
 ·
  refine A7 ?_;refine RE (xi6 (f:=fun n:Nat=>tE (.int .u16 n)) (xs:=ws) (fun _ h=>h) (xi4 hl) hl) qA qA trivial (R1 (x3 (yi8 _) fi284 rfl) rfl ?_);refine A4 ?_;exact E1 rfl rfl (Le.of (congrArg tLm (qr1 hl hD (xf6 x8 a) (by rw [<-show i=(dig 65536 a).length by omega];exact hv))))
theorem zr1 (x:Wh):
  Ct Tryz.prog 135 [tWh x] (tB x.valid):=by
 refine Ct.intro func135 rfl ntmps135 rfl ?_;intro w F;refine A15 ?_;refine x6 rfl (fun h142=> ?_) (fun h142=> ?_)
 ·
  refine A10 ?_;exact E1 rfl rfl (zau (by simp only [Wh.valid];rw [if_pos (by omega)]))
 ·
  refine A3 ?_;refine xg9 (s:=4) rfl (fun hl4=> ?_);refine A6 ?_;refine RGcaseD (t:=14) rfl (fun h145=> ?_) (fun h145=> ?_)
  ·
   refine A5 ?_;refine Rg (zbg h145) rfl (xd6 zah) rfl qB (Rg (zbg h145) rfl (x4 sl37 (x.l.length - 1) (by omega) (gN (by omega))) rfl qB ?_);refine A7 ?_;exact E1 rfl rfl (zau (by simp only [Wh.valid];rw [if_neg (by omega),zbg (show x.l.length<=1024 by omega),zdr];exact zea.2 (by omega)))
  ·
   refine A14 ?_;exact E1 rfl rfl (zau (by simp only [Wh.valid];rw [if_neg (by omega),zbf (show ¬x.l.length<=1024 by omega),zfb]))
theorem rsum1 {x y:Int} (h:((wh x).neg==(wh y).neg)=true):sgn (wh x).neg (x.natAbs+y.natAbs)=x+y:=by
 have h:decide (x < 0)=decide (y < 0):=eq_of_beq h;show sgn (decide (x < 0)) _=_;by_cases hx:x < 0 <;> by_cases hy:y < 0 <;> simp [hx,hy] at h <;> simp [sgn,hx] <;> omega
theorem rsum2 {x y:Int} (h:((wh x).neg==(wh y).neg)=false) (hl:x.natAbs < y.natAbs):sgn (wh y).neg (y.natAbs - x.natAbs)=x+y:=by
 have h:(decide (x < 0)==decide (y < 0))=false:=h;show sgn (decide (y < 0)) _=_;by_cases hx:x < 0 <;> by_cases hy:y < 0 <;> simp [hx,hy] at h <;> simp [sgn,hy] <;> omega
theorem rsum3 {x y:Int} (h:((wh x).neg==(wh y).neg)=false) (hl: ¬x.natAbs < y.natAbs):sgn (wh x).neg (x.natAbs - y.natAbs)=x+y:=by
 have h:(decide (x < 0)==decide (y < 0))=false:=h;show sgn (decide (x < 0)) _=_;by_cases hx:x < 0 <;> by_cases hy:y < 0 <;> simp [hx,hy] at h <;> simp [sgn,hx] <;> omega
theorem wd5 {x:Int}:(wh x).l.length=0↔x=0:=by
 show (dig 65536 x.natAbs).length=0↔_;rw [zcw,xi1 x8];omega
theorem c_RSum (x y:Int) (hx:len16 x<=4001) (hy:len16 y<=4001):
  Ct Tryz.prog 217 [tWh (wh x),tWh (wh y)] (tWh (wh (x+y))):=by
 refine Ct.intro func217 rfl ntmps217 rfl ?_;intro w F;refine A4 ?_;refine RE (x7 (k:=4) (n:=2) (agg:=true) zr39.1 zr39.2 rfl) trivial trivial qA ?_;refine A12 ?_;refine xc2 rfl (fun h198=> ?_) (fun h198=> ?_)
 ·
  refine A8 ?_;refine R2 (x3 (ye8 x.natAbs y.natAbs (by show len16 x<=100000;omega) (by show len16 y<=100000;omega)) fi224 rfl) rfl rfl (R2 (x3 (ye1 _ _) fi155 rfl) rfl rfl ?_);refine A5 ?_;exact EC rfl ⟨_,_,_,_,_,rfl,rfl,ti39,(Le.of (by rw [rsum1 h198]))⟩
 ·
  refine A9 ?_;refine R2 (x3 (zg1 x.natAbs y.natAbs) fi255 rfl) rfl rfl ?_;refine A2 ?_;refine x6 rfl (fun h201=> ?_) (fun h201=> ?_)
  ·
   refine A8 ?_;refine R2 (x3 (za2 y.natAbs x.natAbs (by omega) (by show len16 y<=100000;omega)) fi225 rfl) rfl rfl (R2 (x3 (ye1 _ _) fi155 rfl) rfl rfl ?_);refine A5 ?_;exact EC rfl ⟨_,_,_,_,_,rfl,rfl,ti39,(Le.of (by rw [rsum2 h198 h201]))⟩
  ·
   refine A10 ?_;refine R2 (x3 (za2 x.natAbs y.natAbs (by omega) (by show len16 x<=100000;omega)) fi225 rfl) rfl rfl (R2 (x3 (ye1 _ _) fi155 rfl) rfl rfl ?_);refine A4 ?_;exact EC rfl ⟨_,_,_,_,_,rfl,rfl,ti39,(Le.of (by rw [rsum3 h198 h201]))⟩
theorem yf7 (x y:Int) (hx:len16 x<=4001) (hy:len16 y<=4001):
  Ct Tryz.prog 140 [tWh (wh x),tWh (wh y)] (tWh (wh (x*y))):=by
 refine Ct.intro func140 rfl ntmps140 rfl ?_;intro w F;refine A4 ?_;refine RE (x7 (k:=4) (n:=2) (agg:=true) zr39.1 zr39.2 rfl) trivial trivial qA ?_;refine A13 ?_;refine R2 (x3 (jk0 x.natAbs y.natAbs (by show len16 x<=100000;omega) (by show len16 y<=100000;omega)) fi219 rfl) rfl rfl (R2 (x3 (ye1 _ _) fi155 rfl) rfl rfl ?_);refine A4 ?_;exact EC rfl ⟨_,_,_,_,_,rfl,rfl,ti39,(Le.of (by rw [yh7]))⟩
theorem qo4 (f:Fr):
  Ct Tryz.prog 136 [tFr f] (tB f.sh):=by
 refine Ct.intro func136 rfl ntmps136 rfl ?_;intro w F;refine A10 ?_;refine xe1 (0) ti37 rfl rfl rfl (At.t (At.g 0 rfl rfl) (At.g 1 rfl rfl)) rfl ?_;refine A3 ?_;refine RGcaseD (t:=8) rfl (fun h27=> ?_) (fun h27=> ?_)
 ·
  refine A2 ?_;refine xb2 (zbg h27) rfl rfl (0) ti37 rfl rfl rfl (At.t (At.g 1 rfl rfl) (At.g 1 rfl rfl)) rfl ?_;refine A7 ?_;exact E1 rfl rfl (zau (by rw [Fr.sh,zbg (show f.n.l.length<=256 by omega),zdr];exact zea.2 (by omega)))
 ·
  refine A10 ?_;exact E1 rfl rfl (zau (by rw [Fr.sh,zbf (show ¬f.n.l.length<=256 by omega)];rfl))
theorem jm1 {x y:Int}:decide (dig 65536 (Nat.gcd x.natAbs y.natAbs)=[1])=decide (Int.gcd x y=1):=by
 have h1:dig 65536 1=[1]:=by rw [xj9 x8 (by decide),show (1:Nat) / 65536=0 by decide,xc8]
 refine zea.2 ⟨fun h=> ?_,fun h=> ?_⟩
 ·rw [<-h1] at h;have h2:=congrArg (val 65536) h;rw [xm9 x8,xm9 x8] at h2;exact h2
 ·have h:Nat.gcd x.natAbs y.natAbs=1:=h;rw [h,h1]
theorem we4 {a b:Rat}:Rat.divInt (a.num*b.num) ((a.den:Int)*(b.den:Int))=a*b:=by
 rw [Rat.mul_def,<-zed,Rat.divInt_ofNat,Rat.normalize_eq_mkRat]
theorem yo7 (f:Fr) (hn:Dig 65536 f.n.l) (hd:Dig 65536 f.d.l):
  Ct Tryz.prog 52 [tFr f] (tB f.valid):=by
 obtain ⟨n,d⟩:=f;replace hn:Dig 65536 n.l:=hn;replace hd:Dig 65536 d.l:=hd;refine Ct.intro func52 rfl ntmps52 rfl ?_;intro w F;refine A11 ?_;refine R1 (x3 (zr1 n) fi135 rfl) rfl ?_;refine A2 ?_;refine RGcase (t:=7) rfl (fun h39=> ?_) (fun h39=> ?_)
 ·
  have hv1:n.valid=false:=by simpa using h39
  refine A18 ?_;refine A14 ?_;exact E1 rfl rfl (zau (by simp only [Fr.valid,hv1,Bool.and_false,zfb]))
 ·
  have hv1:n.valid=true:=by simpa using h39
  refine A2 ?_;refine Rg h39 rfl (x3 (zr1 d) fi135 rfl) rfl qA ?_;refine A3 ?_;refine RGcase (t:=13) rfl (fun h39_2=> ?_) (fun h39_2=> ?_)
  ·
   have hv2:d.valid=false:=by simpa using h39_2
   refine A18 ?_;refine A8 ?_;exact E1 rfl rfl (zau (by simp only [Fr.valid,hv2,Bool.and_false,zfb]))
  ·
   have hv2:d.valid=true:=by simpa using h39_2
   obtain ⟨x,rfl,hxl⟩:=Wh.of_valid hn hv1;obtain ⟨y,rfl,hyl⟩:=Wh.of_valid hd hv2;have ix:=xo4 x;have iy:=xo4 y;refine A1 ?_;refine Rg h39_2 rfl (x3 (qo4 _) fi136 rfl) rfl qA ?_;refine A3 ?_;refine RGcase (t:=18) rfl (fun h39_3=> ?_) (fun h39_3=> ?_)
   ·
    have hs:(⟨wh x,wh y⟩:Fr).sh=false:=by simpa using h39_3
    refine A18 ?_;refine A3 ?_;exact E1 rfl rfl (zau (by simp only [Fr.valid,hs,zfb]))
   ·
    have hs:(⟨wh x,wh y⟩:Fr).sh=true:=by simpa using h39_3
    refine A2 ?_;refine xb2 h39_3 rfl rfl (0) ti4 rfl rfl rfl (At.t (At.g 1 rfl rfl) (At.g 0 rfl rfl)) rfl ?_;refine A2 ?_;refine RGcase (t:=23) rfl (fun h39_4=> ?_) (fun h39_4=> ?_)
    ·
     have hy0: ¬0 < y:=by have:y < 0:=zes h39_4;omega
     refine A16 ?_;exact E1 rfl rfl (zau (by simp only [Fr.valid,ix,iy,zbf hy0,Bool.and_false,zfb]))
    ·
     refine A2 ?_;refine xb2 h39_4 rfl rfl (0) ti37 rfl rfl rfl (At.t (At.g 1 rfl rfl) (At.g 1 rfl rfl)) rfl ?_;refine A5 ?_;refine x6 rfl (fun h39_5=> ?_) (fun h39_5=> ?_)
     ·
      have h5:(((wh y).l.length:Nat):Int)=0:=h39_5;have hy0: ¬0 < y:=fun h=>by have:=wd5.1 (show (wh y).l.length=0 by omega);omega
      refine A7 ?_;exact E1 rfl rfl (zau (by simp only [Fr.valid,ix,iy,zbf hy0,Bool.and_false,zfb]))
     ·
      have h5: ¬(((wh y).l.length:Nat):Int)=0:=h39_5;have hy0:0 < y:=zo8 h39_4 (by omega);refine A6 ?_;refine xe1 (0) ti37 rfl rfl rfl (At.t (At.g 0 rfl rfl) (At.g 1 rfl rfl)) rfl ?_;refine A2 ?_;refine xe1 (0) ti37 rfl rfl rfl (At.t (At.g 1 rfl rfl) (At.g 1 rfl rfl)) rfl (R2 (x3 (zn7 x.natAbs y.natAbs (by show len16 x<=4000;omega) (by show len16 y<=4000;omega)) fi138 rfl) rfl rfl (R1 (x3 (jd8 _) fi137 rfl) rfl ?_));refine A4 ?_;exact E1 rfl rfl (zau (by simp only [Fr.valid,ix,iy,hs,hv1,hv2,zbg hy0,zdr];exact jm1))
theorem yi7 (q:Rat) (h:short q):Ct Tryz.prog 52 [tFr (fr q)] (tB true):=by
 have:=yo7 (fr q) (xc3 x8 _) (xc3 x8 _);rw [yv8 h] at this;exact this
theorem qa5 (q:Rat):
  Ct Tryz.prog 258 [tFr (fr q)] (tT [tFr (resF q),tI (resFE q)]):=by
 refine Ct.intro func258 rfl ntmps258 rfl ?_;intro w F;refine A3 ?_;refine RE (x7 (k:=2) (n:=4) (agg:=true) zr41.1 zr41.2 rfl) trivial trivial qA ?_;refine A7 ?_;refine R1 (x3 (qo4 (fr q)) fi136 rfl) rfl ?_;refine A3 ?_;refine xc2 rfl (fun h31=> ?_) (fun h31=> ?_)
 ·
  have hk: ¬short q:=by rw [xh9] at h31;simpa using h31
  refine A2 ?_;refine R0 (xb0 (r:=zad) (ts:=[]) bu41 zr41.2 zao) ?_;refine A6 ?_;exact EN (rs:=[.cell 2 41,.tmp 3]) rfl rfl ⟨⟨_,_,_,_,_,rfl,rfl,ti41,(Le.of (by rw [resF,if_neg hk];rfl))⟩,⟨_,rfl,(zba (by rw [resFE,if_neg hk]))⟩,trivial⟩
 ·
  have hk:short q:=by rw [xh9] at h31;simpa using h31
  refine A10 ?_;exact EN (rs:=[.cell 2 41,.tmp 3]) rfl rfl ⟨⟨_,_,_,_,_,rfl,rfl,ti41,(Le.of (by rw [resF,if_pos hk]))⟩,⟨_,rfl,(zba (by rw [resFE,if_pos hk]))⟩,trivial⟩
theorem jh7 (a b:Rat) (ha:short a) (hb:short b):
  Ct Tryz.prog 148 [tFr (fr a),tFr (fr b)] (tFr (fr (a*b))):=by
 obtain ⟨an,ad⟩:=ha;obtain ⟨bn,bd⟩:=hb;have ha:short a:=⟨an,ad⟩
 have hb:short b:=⟨bn,bd⟩
 have da:=a.den_nz;have db:=b.den_nz;have l1:=len16_mul an bn;have l2:=len16_mul ad bd;refine Ct.intro func148 rfl ntmps148 rfl ?_;intro w F;refine A4 ?_;refine RE (x7 (k:=4) (n:=4) (agg:=true) zr41.1 zr41.2 rfl) trivial trivial qA ?_;refine A8 ?_;refine R2 (x3 (yf7 a.num b.num (by omega) (by omega)) fi140 rfl) rfl rfl ?_;refine A4 ?_;refine R2 (x3 (yf7 (a.den:Int) (b.den:Int) (by omega) (by omega)) fi140 rfl) rfl rfl (R2 (x3 (zo1 (a.num*b.num) ((a.den:Int)*(b.den:Int)) (by omega) (by omega) (Int.mul_ne_zero (by omega) (by omega))) fi70 rfl) rfl rfl ?_);refine A4 ?_;exact EC rfl ⟨_,_,_,_,_,rfl,rfl,ti41,(Le.of (by rw [we4]))⟩
theorem jv9 (a b:Rat) (ha:short a) (hb:short b):
  Ct Tryz.prog 163 [tFr (fr a),tFr (fr b)] (tT [tFr (resF (a*b)),tI (resFE (a*b))]):=by
 refine Ct.intro func163 rfl ntmps163 rfl ?_;intro w F;refine A4 ?_;refine RE (x7 (k:=4) (n:=4) (agg:=true) zr41.1 zr41.2 rfl) trivial trivial qA ?_;refine A7 ?_;refine R1 (x3 (yi7 a ha) fi52 rfl) rfl ?_;refine A3 ?_;refine Rg rfl rfl (x3 (yi7 b hb) fi52 rfl) rfl qA ?_;refine A11 ?_;refine R2 (x3 (jh7 a b ha hb) fi148 rfl) rfl rfl (R1 (x3 (qa5 (a*b)) fi258 rfl) rfl ?_);refine A7 ?_;exact EN (rs:=[.cell 4 41,.tmp 5]) rfl rfl ⟨⟨_,_,_,_,_,rfl,rfl,ti41,zao⟩,⟨_,rfl,zao⟩,trivial⟩
theorem yu1 (n:Int) (h1: -9223372036854775808<=n) (h2:n<=9223372036854775807):
  Ct Tryz.prog 23 [tI n] (tFr (fr (n:Rat))):=by
 refine Ct.intro func23 rfl ntmps23 rfl ?_;intro w F;refine A2 ?_;refine RE (x7 (k:=2) (n:=4) (agg:=true) zr41.1 zr41.2 rfl) trivial trivial qA ?_;refine A5 ?_;refine R1 (x3 (zd8 n h1 h2) fi71 rfl) rfl (R1 (x3 (zd8 1 (by decide) (by decide)) fi71 rfl) rfl (R2 (xb0 (r:=tS [⟨2,true,tWh (wh n)⟩,⟨2,true,tWh (wh 1)⟩]) (ts:=[(0,tWh (wh n)),(1,tWh (wh 1))]) bu41 zr41.2 (Bc 0 rfl rfl rfl (Bc 1 rfl rfl rfl zao))) rfl rfl ?_));refine A4 ?_;exact EC rfl ⟨_,_,_,_,_,rfl,rfl,ti41,(Le.of (by rw [fr,Rat.num_intCast,Rat.den_intCast];rfl))⟩
instance fi75:FnI Tryz.prog 75:=⟨_,func75,by kernel_rfl,rfl⟩
instance fi120:FnI Tryz.prog 120:=⟨_,func120,by kernel_rfl,rfl⟩
instance fi146:FnI Tryz.prog 146:=⟨_,func146,by kernel_rfl,rfl⟩
instance fi157:FnI Tryz.prog 157:=⟨_,func157,by kernel_rfl,rfl⟩
instance fi158:FnI Tryz.prog 158:=⟨_,func158,by kernel_rfl,rfl⟩
instance fi159:FnI Tryz.prog 159:=⟨_,func159,by kernel_rfl,rfl⟩
instance fi257:FnI Tryz.prog 257:=⟨_,func257,by kernel_rfl,rfl⟩
def mk16:List Nat:=(List.range 12).map fun i=>(8000024+i)%65536
theorem mk16_len:mk16.length=12:=rfl
theorem mk16_at {j:Nat} (h:j < 12):mk16.getD j 0=(8000024+j)%65536:=by
 have: ∀j,j < 12->mk16.getD j 0=(8000024+j)%65536:=by decide
 exact this j h
theorem mk16_take {i:Nat} (h:i < 12):mk16.take (i+1)=mk16.take i++[(8000024+i)%65536]:=by
 rw [zby (by rw [mk16_len];exact h)]
 congr 2
 have:=mk16_at h;rw [zbh,zbi (by rw [mk16_len];exact h)] at this;exact this
theorem cutM {i:Nat}:IntKind.u16.wrap (1000003*(1+7)+(i:Int))=(((8000024+i)%65536:Nat):Int):=by rw [mu16];omega
abbrev tLmK (l:List Nat):Ty:=tLK 1 false (fun n:Nat=>tE (.int .u16 (n:Int))) l mk16
abbrev tWhK (x:Wh):Ty:=tS [⟨1,false,tB x.neg⟩,⟨1,false,tLmK x.l⟩]
abbrev tFrK (f:Fr):Ty:=tS [⟨2,true,tWhK f.n⟩,⟨2,true,tWhK f.d⟩]
abbrev tVaK (v:Va):Ty:=tS [⟨1,false,tE (.int .u8 (v.kind:Int))⟩,⟨4,true,tFrK v.f⟩,⟨1,false,tI v.i⟩]
theorem zw2 {x:Wh}:Le (tWhK x) (tWh x):=Le.tS ⟨⟨rfl,rfl,zao⟩,⟨rfl,rfl,qz5⟩,trivial⟩
theorem jg6 {f:Fr}:Le (tFrK f) (tFr f):=Le.tS ⟨⟨rfl,rfl,zw2⟩,⟨rfl,rfl,zw2⟩,trivial⟩
theorem qz3 {v:Va}:Le (tVaK v) (tVa v):=Le.tS ⟨⟨rfl,rfl,zao⟩,⟨rfl,rfl,jg6⟩,⟨rfl,rfl,zao⟩,trivial⟩
theorem yk0 {l m:List Nat} {i:Nat} (h:i < l.length):(l++m).getD i 0=l.getD i 0:=by
 rw [zbh,zdo h,<-zbh]
theorem app_r {l m:List Nat} {i:Nat} (h:l.length<=i):(l++m).getD i 0=m.getD (i - l.length) 0:=by
 rw [zbh,zeg h,<-zbh]
theorem qh6 (i:Nat) (h:i < 12):
  Ct Tryz.prog 146 [tI 1,tI i] (tI (1000003*(1+7)+(i:Int))):=by
 refine Ct.intro func146 rfl ntmps146 rfl ?_;intro w F;refine A9 ?_;refine R2 (xi2 zah) rfl rfl ?_;refine A6 ?_;exact E1 rfl rfl zao
abbrev tLmW (l:List Nat):Ty:=tLW 64 1 false (fun n:Nat=>tE (.int .u16 (n:Int))) l mk16
abbrev tWhW (x:Wh):Ty:=tS [⟨1,false,tB x.neg⟩,⟨1,false,tLmW x.l⟩]
abbrev tFrW (f:Fr):Ty:=tS [⟨2,true,tWhW f.n⟩,⟨2,true,tWhW f.d⟩]
abbrev tVaW (v:Va):Ty:=tS [⟨1,false,tE (.int .u8 (v.kind:Int))⟩,⟨4,true,tFrW v.f⟩,⟨1,false,tI v.i⟩]
abbrev tTsW (s:Tst):Ty:=tS [⟨1,false,tI s.lo⟩,⟨1,false,tI s.hi⟩,⟨6,true,tVaW s.v⟩]
theorem whWK {x:Wh}:Le (tWhW x) (tWhK x):=Le.tS ⟨⟨rfl,rfl,zao⟩,⟨rfl,rfl,ze3⟩,trivial⟩
theorem frWK {f:Fr}:Le (tFrW f) (tFrK f):=Le.tS ⟨⟨rfl,rfl,whWK⟩,⟨rfl,rfl,whWK⟩,trivial⟩
theorem vaWK {v:Va}:Le (tVaW v) (tVaK v):=Le.tS ⟨⟨rfl,rfl,zao⟩,⟨rfl,rfl,frWK⟩,⟨rfl,rfl,zao⟩,trivial⟩
theorem za9 {v:Va}:Le (tVaW v) (tVa v):=Le.trans vaWK qz3
theorem jg8 {s:Tst}:Le (tTsW s) (tTs s):=Le.tS ⟨⟨rfl,rfl,zao⟩,⟨rfl,rfl,zao⟩,⟨rfl,rfl,za9⟩,trivial⟩
abbrev tTsM (x:Tst×Bool):Ty:=cond x.2 (tTsW x.1) (tTs x.1)
instance {x:Tst×Bool}:Shape (tTsM x) 8 true:=by
 obtain ⟨s,b⟩:=x;cases b
 ·exact (inferInstance:Shape (tTs s) 8 true)
 ·exact (inferInstance:Shape (tTsW s) 8 true)
theorem tsM_le {x:Tst×Bool}:Le (tTsM x) (tTs x.1):=by
 obtain ⟨s,b⟩:=x;cases b
 ·exact zao
 ·exact jg8
def va00:Va:=⟨0,fr0,0⟩
def smk (k i:Nat):Tst:=⟨1000003*((k:Int)+7)+(i:Int),0,va00⟩
def mkT:List Tst:=(List.range 12).map (smk 1)
theorem yc0:mkT.length=12:=rfl
theorem qw3 {j:Nat} (h:j < 12):mkT.getD j tst0=smk 1 j:=by
 have hl:j < mkT.length:=by rw [yc0];exact h
 rw [zbh,zbi hl,Option.getD_some];simp [mkT]
theorem jm7 {i:Nat} (h:i < 12):mkT.take (i+1)=mkT.take i++[smk 1 i]:=by
 rw [zby (by rw [yc0];exact h)]
 congr 2
 have:=qw3 h;rw [zbh,zbi (by rw [yc0];exact h)] at this;exact this
def lmT (l:List Tst):List (Tst×Bool):=l.map (·,true)
def mmT (m:List Tst):List (Tst×Bool):=m.map (·,false)
abbrev tStW (l:List Tst):Ty:=tLW 59 8 true tTsM (lmT l) (mmT mkT)
theorem ya3 {l:List Tst}:(lmT l).length=l.length:=zcq ..
theorem yg8 {l:List Tst}:(mmT l).length=l.length:=zcq ..
theorem jr4 {l:List Tst} {i:Nat} (h:i < l.length):lmT (l.take (i+1))=lmT (l.take i)++[(l.getD i tst0,true)]:=by
 rw [lmT,lmT,zby h,zeo,zbh,zbi h];rfl
theorem jp5 {l:List Tst} {x:Tst}:mmT (l++[x])=mmT l++[(x,false)]:=by rw [mmT,zeo];rfl
def tm0:Tst×Bool:=(tst0,false)
theorem lm_l {l m:List Tst} {i:Nat} (h:i < l.length):(lmT l++mmT m).getD i tm0=(l.getD i tst0,true):=by
 rw [zbh,zdo (by rw [ya3];exact h),lmT,zbu,zbi h,zbh,zbi h];rfl
theorem lm_r {l m:List Tst} {i:Nat} (h:l.length<=i) (h2:i - l.length < m.length):(lmT l++mmT m).getD i tm0=(m.getD (i - l.length) tst0,false):=by
 rw [zbh,zeg (by rw [ya3];exact h),ya3,mmT,zbu,zbi h2,zbh,zbi h2];rfl
theorem va00N {G:Dom}:Le (tVa va00) (tG G (tVa va00)):=yb3 ⟨⟨rfl,rfl,y6⟩,⟨rfl,rfl,fr0N⟩,⟨rfl,rfl,y6⟩,trivial⟩
theorem yd4 {l:List Tst}:Le (tStW l) (tL 8 true tTs l):=fun F w v h=>by
 obtain ⟨A,c,h1,h2,h3,h4⟩:=le_L (fun x=>tsM_le) _ _ _ (ju7 _ _ _ h);rw [ya3] at h1 h2;refine ⟨A,c,h1,h2,h3,h4.imp (fun h=>by rw [lmT] at h;exact List.map_eq_nil_iff.1 h) fun ⟨b,o,e,hb,hx⟩=>⟨b,o,e,hb,fun i x hi=>hx i (x,true) (by rw [lmT,zbu,hi];rfl)⟩⟩
theorem zs8 (l:List Nat) (hl:l.length<=1048576):
  CtN Tryz.prog 257 [tLm l] (fun nw=>tG (up nw) (tLmW l)):=by
 refine CtN.intro func257 rfl ntmps257 rfl ?_;intro w F;refine A10 ?_;refine RE (xg0 (k:=8) (t:=tE (.int .u16 0)) (ts:=([]:List Ent)) (0) (l.length+12) zgy el64 (fun _ _=>rfl) rfl (by omega) (by omega) (by omega) (by omega) (by omega) rfl) qB trivial qA ?_;refine A7 ?_;refine RE (xb3 (k:=8) (k':=11) (ys:=l) (ts':=rW .u16 l) zgy el64 zf64 rfl rfl (fun _=>inferInstance) rfl (by simp;omega) (by simp;omega) (by simp [rW]) (n':=l.length) (by simp)) ⟨rfl,rfl,trivial⟩ ⟨rfl,trivial⟩ ⟨rfl,trivial⟩ ?_;refine A10 ?_;refine cL (fun (i:Nat)=>i<=12) (fun (i:Nat)=>uV (uO (uV uN 0 (tLm l)) 3 (.sl 11 1 0 (l.length+i))) 4 (tI i)) (fun (i:Nat)=>uK uN 11 64 1 false (rW .u16 (l++mk16.take i))) [11] (fun (i:Nat)=>12 - i) (0) (zbq _) (hh:=((zaq rfl (zat (by rw [zgo,zgu]))) zax)) ?_;intro i hI;have htl:(l++mk16.take i).length=l.length+i:=by rw [zbp,zde,mk16_len];omega
 refine A7 ?_;refine x6 rfl (fun h64=> ?_) (fun h64=> ?_)
 ·
  refine A7 ?_;refine R2 (x3 (qh6 i (by omega)) fi146 rfl) rfl rfl (R1 (x5 zhc (isS zhg) cutM) rfl (R1 (xk9 (n:=1) [((8000024+i)%65536)] zgy el64 zf64 rfl rfl rfl) rfl (RE (xb3 (k:=11) (k':=21) (ys:=[((8000024+i)%65536)]) (ts':=rW .u16 (l++mk16.take i++[((8000024+i)%65536)])) zgy el64 zf64 rfl rfl (fun _=>inferInstance) (xj4.trans htl) (by simp;omega) (by simp;omega) (by simp [rW]) (n':=l.length+i+1) rfl) qB qA qA ?_)));refine A9 ?_;exact xc6 (l:=[11]) (zab 11 21) (i+1) ⟨(by omega),(by omega)⟩ (zaf rfl (zas rfl (zas rfl zbd))) ((zbb rfl (zat (by rw [mk16_take (by omega),<-zfj];exact xf7.symm))) zbe) (zaj (zak rfl (zaj zar))) (zam rfl (supJ xd1) zaz) (lkOk rfl) rfl rfl (fun _ h=>by cases h)
 ·
  refine A10 ?_;refine RE (q0 (k:=11) (f:=fun n:Nat=>tE (.int .u16 (n:Int))) (xs:=l) (ms:=mk16) (up w.heap.size) (fun _ h=>h) sl37 (fun _ h=>h) (fun _ _=>y6) (by rw [rW,show i=12 by omega,show mk16.take 12=mk16 from rfl]) (by rw [mk16_len];omega) (by omega) rfl) qB qA trivial ?_;refine A4 ?_;exact E1 rfl rfl zao
theorem qe0 (l:List Nat) (hl:l.length<=1048576):
  Ct Tryz.prog 260 [tLmK l,tLm l] (tB true):=by
 have hml:(l++mk16).length=l.length+12:=by rw [zbp,mk16_len]
 refine Ct.intro func260 rfl ntmps260 rfl ?_;intro w F;refine A9 ?_;refine R1 (d_lenK zgy) rfl ?_;refine A5 ?_;refine xw4 rfl (zbf (by omega)) ?_;refine A8 ?_;refine R2 (jq7 sl37 (by rw [mk16_len];omega)) rfl rfl ?_;refine A10 ?_;refine cL (fun (i:Nat)=>i<=(l++mk16).length) (fun (i:Nat)=>uV (uV (uV uN 1 (tLm l)) 5 (tLm (l++mk16))) 6 (tI i)) (fun (i:Nat)=>fun _=>none) [] (fun (i:Nat)=>(l++mk16).length - i) (0) (zbq _) ?_;intro i hI;refine A9 ?_;refine x6 rfl (fun h75=> ?_) (fun h75=> ?_)
 ·
  refine A11 ?_;refine RGcaseD (t:=27) rfl (fun h76=> ?_) (fun h76=> ?_)
  ·
   refine A2 ?_;refine Rg (zbg h76) rfl (x4 sl37 (i) (by omega) (gN (by omega))) rfl qB ?_;refine A3 ?_;refine Rg (zbg h76) rfl (x4 sl37 (i) (by omega) (gN (by omega))) rfl qB ?_;refine A5 ?_;refine Rg (xa3 (by rw [yk0 (by omega)])) rfl xb9 rfl qA (Rg (xa3 (by rw [yk0 (by omega)])) rfl xb9 rfl qA (Rg (xa3 (by rw [yk0 (by omega)])) rfl (xf9 zgy) rfl qA (Rg (xa3 (by rw [yk0 (by omega)])) rfl qr3 rfl qB (Rg (xa3 (by rw [yk0 (by omega)])) rfl xb9 rfl qA (RGoff (zbf (by omega)) rfl rfl (RGoff (zbf (by omega)) rfl rfl (RGoff (zbf (by omega)) rfl rfl (RGoff (zbf (by omega)) rfl rfl (RGoff (zbf (by omega)) rfl rfl (RGoff (zbf (by omega)) rfl rfl (RGoff (zbf (by omega)) rfl rfl (RGoff (zbf (by omega)) rfl rfl (RGoff (zbf (by omega)) rfl rfl (RGoff (zbf (by omega)) rfl rfl (RGoff (zbf (by omega)) rfl rfl ?_)))))))))))))));refine RGoff (zbf (by omega)) rfl rfl (Rg (xa3 (by rw [yk0 (by omega)])) rfl (xc7 (zbf (by omega))) rfl qB (R2 (xc7 (xa3 (by rw [yk0 (by omega)]))) rfl rfl ?_));refine A11 ?_;exact kF (i+1) ⟨(by omega),(by omega)⟩
  ·
   refine A17 ?_;refine Rg (zbg (by omega)) rfl xb9 rfl qA (Rg (zbg (by omega)) rfl xb9 rfl qA (Rg (zbg (by omega)) rfl (x4 sl37 (i) (by omega) (gN (by omega))) rfl qB (Rg (zbg (by omega)) rfl (xm1 ti64) rfl qA (Rg (zbg (by omega)) rfl xb9 rfl qA (Rg (zbg (by omega)) rfl xb9 rfl qA (Rg (zbg (by omega)) rfl (xf9 zgy) rfl qA (Rg (zbg (by omega)) rfl (xd6 (r:=((i - l.length:Nat):Int)) (by rw [wr64 (by omega) (by omega)];omega)) rfl qB (Rg (zbg (by omega)) rfl (x3 (qh6 (i - l.length) (by omega)) fi146 rfl) rfl qB (Rg (zbg (by omega)) rfl (x5 zhc (isS zhg) cutM) rfl qA (Rg (zbg (by omega)) rfl ys3 rfl qB (Rg (zbg (by omega)) rfl xz2 rfl qA (Rg rfl rfl (xc9 (zbg (by omega))) rfl qB ?_))))))))))));refine A3 ?_;refine xw4 rfl (xa3 (by rw [app_r (by omega),mk16_at (by omega)])) ?_;refine A8 ?_;exact kF (i+1) ⟨(by omega),(by omega)⟩
 ·
  refine A11 ?_;exact E1 rfl rfl zao
theorem yr8 (x:Wh) (hl:x.l.length<=1048576):
  CtN Tryz.prog 159 [tWh x] (fun nw=>tG (up nw) (tWhW x)):=by
 refine CtN.intro func159 rfl ntmps159 rfl ?_;intro w F;refine A3 ?_;refine RE (x7 (k:=2) (n:=2) (agg:=true) zr39.1 zr39.2 rfl) trivial trivial qA ?_;refine A6 ?_;refine R1 (xj1 (ts:=[_]) (r:=tG (up w.heap.size) _) (zs8 x.l hl) fi257 (fun m hm=>ya1 hm) ⟨zao,trivial⟩ rfl) rfl ?_;refine A1 ?_;refine xi8 (0) ti37 rfl rfl rfl rfl (Up.g 1 rfl rfl rfl) rfl rfl ?_;refine A3 ?_;refine yb2 (k:=1) (e':=⟨39,2,true,[.val (tS [⟨1,false,tB x.neg⟩,⟨1,false,tG (up w.heap.size) (tLmW x.l)⟩])]⟩) rfl rfl ?_;refine A6 ?_;exact EC rfl ⟨_,_,_,_,_,rfl,rfl,ti39,(yb3 ⟨⟨rfl,rfl,y6⟩,⟨rfl,rfl,zao⟩,trivial⟩)⟩
theorem qd6 (f:Fr) (h1:f.n.l.length<=1048576) (h2:f.d.l.length<=1048576):
  CtN Tryz.prog 75 [tFr f] (fun nw=>tG (up nw) (tFrW f)):=by
 refine CtN.intro func75 rfl ntmps75 rfl ?_;intro w F;refine A3 ?_;refine RE (x7 (k:=2) (n:=4) (agg:=true) zr41.1 zr41.2 rfl) trivial trivial qA ?_;refine A6 ?_;refine R1 (xj1 (ts:=[_]) (r:=tG (up w.heap.size) _) (yr8 f.n h1) fi159 (fun m hm=>ya1 hm) ⟨zao,trivial⟩ rfl) rfl ?_;refine A1 ?_;refine xi8 (0) ti39 rfl rfl rfl rfl (Up.g 0 rfl rfl rfl) rfl rfl ?_;refine A6 ?_;refine R1 (xj1 (ts:=[_]) (r:=tG (up w.heap.size) _) (yr8 f.d h2) fi159 (fun m hm=>ya1 hm) ⟨zao,trivial⟩ rfl) rfl ?_;refine A1 ?_;refine xi8 (0) ti39 rfl rfl rfl rfl (Up.g 1 rfl rfl rfl) rfl rfl ?_;refine A3 ?_;refine yb2 (k:=1) (e':=⟨41,4,true,[.val (tS [⟨2,true,tG (up w.heap.size) (tWhW f.n)⟩,⟨2,true,tG (up w.heap.size) (tWhW f.d)⟩])]⟩) rfl rfl ?_;refine A6 ?_;exact EC rfl ⟨_,_,_,_,_,rfl,rfl,ti41,(yb3 ⟨⟨rfl,rfl,zao⟩,⟨rfl,rfl,zao⟩,trivial⟩)⟩
theorem ys0 (v:Va) (h1:v.f.n.l.length<=1048576) (h2:v.f.d.l.length<=1048576):
  CtN Tryz.prog 120 [tVa v] (fun nw=>tG (up nw) (tVaW v)):=by
 refine CtN.intro func120 rfl ntmps120 rfl ?_;intro w F;refine A3 ?_;refine RE (x7 (k:=2) (n:=6) (agg:=true) zr57.1 zr57.2 rfl) trivial trivial qA ?_;refine A6 ?_;refine R1 (xj1 (ts:=[_]) (r:=tG (up w.heap.size) _) (qd6 v.f h1 h2) fi75 (fun m hm=>ya1 hm) ⟨zao,trivial⟩ rfl) rfl ?_;refine A1 ?_;refine xi8 (0) ti41 rfl rfl rfl rfl (Up.g 1 rfl rfl rfl) rfl rfl ?_;refine A3 ?_;refine yb2 (k:=1) (e':=⟨57,6,true,[.val (tS [⟨1,false,tE (.int .u8 (v.kind:Int))⟩,⟨4,true,tG (up w.heap.size) (tFrW v.f)⟩,⟨1,false,tI v.i⟩])]⟩) rfl rfl ?_;refine A6 ?_;exact EC rfl ⟨_,_,_,_,_,rfl,rfl,ti57,(yb3 ⟨⟨rfl,rfl,y6⟩,⟨rfl,rfl,zao⟩,⟨rfl,rfl,y6⟩,trivial⟩)⟩
theorem qf9 (s:Tst) (h1:s.v.f.n.l.length<=1048576) (h2:s.v.f.d.l.length<=1048576):
  CtN Tryz.prog 157 [tTs s] (fun nw=>tG (up nw) (tTsW s)):=by
 refine CtN.intro func157 rfl ntmps157 rfl ?_;intro w F;refine A3 ?_;refine RE (x7 (k:=2) (n:=8) (agg:=true) zr59.1 zr59.2 rfl) trivial trivial qA ?_;refine A6 ?_;refine R1 (xj1 (ts:=[_]) (r:=tG (up w.heap.size) _) (ys0 s.v h1 h2) fi120 (fun m hm=>ya1 hm) ⟨zao,trivial⟩ rfl) rfl ?_;refine A1 ?_;refine xi8 (0) ti57 rfl rfl rfl rfl (Up.g 2 rfl rfl rfl) rfl rfl ?_;refine A3 ?_;refine yb2 (k:=1) (e':=⟨59,8,true,[.val (tS [⟨1,false,tI s.lo⟩,⟨1,false,tI s.hi⟩,⟨6,true,tG (up w.heap.size) (tVaW s.v)⟩])]⟩) rfl rfl ?_;refine A6 ?_;exact EC rfl ⟨_,_,_,_,_,rfl,rfl,ti59,(yb3 ⟨⟨rfl,rfl,y6⟩,⟨rfl,rfl,y6⟩,⟨rfl,rfl,zao⟩,trivial⟩)⟩
theorem qj0 (k i:Nat) (hk:k < 1000) (hi:i < 10000000):
  Ct Tryz.prog 146 [tI k,tI i] (tI (1000003*((k:Int)+7)+(i:Int))):=by
 refine Ct.intro func146 rfl ntmps146 rfl ?_;intro w F;refine A9 ?_;refine R2 (xi2 zah) rfl rfl ?_;refine A6 ?_;exact E1 rfl rfl zao
theorem yn5 (k i:Nat) (hk:k < 1000) (hi:i < 10000000):
  CtN Tryz.prog 158 [tI k,tI i] (fun nw=>tG (up nw) (tTs (smk k i))):=by
 refine CtN.intro func158 rfl ntmps158 rfl ?_;intro w F;refine A2 ?_;refine RE (x7 (k:=4) (n:=8) (agg:=true) zr59.1 zr59.2 rfl) trivial trivial qA ?_;refine A6 ?_;refine R2 (x3 (qj0 k i hk hi) fi146 rfl) rfl rfl (R1 (xb0 (r:=tS [⟨1,false,tI (1000003*((k:Int)+7)+(i:Int))⟩,⟨1,false,(tE (.int .i64 0))⟩,⟨6,true,(tS [⟨1,false,(tE (.int .u8 0))⟩,⟨4,true,zad⟩,⟨1,false,(tE (.int .i64 0))⟩])⟩]) (ts:=[(0,tI (1000003*((k:Int)+7)+(i:Int)))]) bu59 zr59.2 (Bc 0 rfl rfl rfl zao)) rfl ?_);refine A4 ?_;exact EC rfl ⟨_,_,_,_,_,rfl,rfl,ti59,(yb3 ⟨⟨rfl,rfl,y6⟩,⟨rfl,rfl,y6⟩,⟨rfl,rfl,va00N⟩,trivial⟩)⟩
theorem yd3 (l:List Tst) (hl:l.length<=60) (hs: ∀s∈l,s.v.f.n.l.length<=1048576/\s.v.f.d.l.length<=1048576):
  CtN Tryz.prog 74 [tL 8 true tTs l] (fun nw=>tG (up nw) (tStW l)):=by
 refine CtN.intro func74 rfl ntmps74 rfl ?_;intro w F;refine A10 ?_;refine RE (xg0 (k:=10) (t:=(tS [⟨1,false,(tE (.int .i64 0))⟩,⟨1,false,(tE (.int .i64 0))⟩,⟨6,true,(tS [⟨1,false,(tE (.int .u8 0))⟩,⟨4,true,zad⟩,⟨1,false,(tE (.int .i64 0))⟩])⟩])) (ts:=([]:List Ent)) (0) (l.length+12) zhm el59 (fun _ _=>⟨_,rfl,rfl,⟨fun _=>rfl,rfl⟩,⟨fun _=>rfl,rfl⟩,⟨fun h=>Bool.noConfusion h,⟨_,rfl,rfl,⟨fun _=>rfl,rfl⟩,⟨fun h=>Bool.noConfusion h,⟨_,rfl,rfl,⟨fun h=>Bool.noConfusion h,⟨_,rfl,rfl,⟨fun _=>rfl,rfl⟩,⟨fun _=>rfl,⟨none,0,rfl,zbs _,by decide,.inl rfl⟩⟩,trivial⟩⟩,⟨fun h=>Bool.noConfusion h,⟨_,rfl,rfl,⟨fun _=>rfl,rfl⟩,⟨fun _=>rfl,⟨none,0,rfl,zbs _,by decide,.inl rfl⟩⟩,trivial⟩⟩,trivial⟩⟩,⟨fun _=>rfl,rfl⟩,trivial⟩⟩,trivial⟩) rfl (by omega) (by omega) (by omega) (by omega) (by omega) rfl) qB trivial qA ?_;refine A10 ?_;refine cL (fun (i:Nat)=>i<=l.length) (fun (i:Nat)=>uV (uO (uV uN 0 (tL 8 true tTs l)) 3 (.sl 10 8 0 i)) 4 (tI i)) (fun (i:Nat)=>uK uN 10 59 8 true (rV (fun x=>tG (up w.heap.size) (tTsM x)) (lmT (l.take i)))) [10] (fun (i:Nat)=>l.length - i) (0) (zbq _) (hh:=((zaq rfl (zat rfl)) zax)) ?_;intro i hI;have hxl:(lmT (l.take i)).length=i:=by rw [ya3,zde];omega
 refine A9 ?_;refine x6 rfl (fun h379=> ?_) (fun h379=> ?_)
 ·
  refine A8 ?_;refine R2 (x4 sl51 i (by omega) (zai (l:=l) (n:=i) (d:=tst0))) rfl rfl ?_;refine A1 ?_;refine R1 (xj1 (ts:=[_]) (r:=tG (up w.heap.size) _) (qf9 (l.getD i tst0) (hs _ (xi0 (l:=l) (by omega))).1 (hs _ (xi0 (l:=l) (by omega))).2) fi157 (fun m hm=>ya1 hm) ⟨zao,trivial⟩ rfl) rfl (RE (x7 (k:=5) (n:=8) (agg:=true) zr59.1 zr59.2 rfl) trivial trivial qA ?_);refine A6 ?_;refine R1 (xb5 (n:=1) (f:=(fun x=>tG (up w.heap.size) (tTsM x))) [((l.getD i tst0,true):Tst×Bool)] zhm el59 zf59 rfl (fun _=>inferInstance) rfl rfl rfl) rfl (RE (xb3 (k:=10) (k':=25) (f:=(fun x=>tG (up w.heap.size) (tTsM x))) (ys:=[((l.getD i tst0,true):Tst×Bool)]) (ts':=rV (fun x=>tG (up w.heap.size) (tTsM x)) ((lmT (l.take i))++[((l.getD i tst0,true):Tst×Bool)])) zhm el59 zf59 rfl rfl (fun _=>inferInstance) (xd2.trans hxl) (by simp;omega) (by simp;omega) (by simp [rV]) (n':=i+1) rfl) qB qA qA ?_);refine A9 ?_;exact xc6 (l:=[10]) (zab 10 25) (i+1) ⟨(by omega),(by omega)⟩ (zaf rfl (zas rfl (zas rfl zbd))) ((zbb rfl (zat (by rw [jr4 (by omega)];exact xa6.symm))) zbe) (zaj (zak rfl (zaj zar))) (zam rfl (supJ xa5) zaz) (lkOk rfl) rfl rfl (fun _ h=>by cases h)
 ·
  refine A12 ?_;have hil:i=l.length:=by omega
  subst hil;refine cL (fun (i:Nat)=>i<=12) (fun (i:Nat)=>uV (uO (uV uN 0 (tL 8 true tTs l)) 3 (.sl 10 8 0 (l.length+i))) 6 (tI i)) (fun (i:Nat)=>uK uN 10 59 8 true (rV (fun x=>tG (up w.heap.size) (tTsM x)) (lmT l++mmT (mkT.take i)))) [10] (fun (i:Nat)=>12 - i) (0) (zbq _) (hh:=((zaq rfl (zat (by rw [zbx,zgo,mmT,zfr,zgu]))) zax)) ?_;intro i hI;have hxl:(lmT l++mmT (mkT.take i)).length=l.length+i:=by rw [zbp,ya3,yg8,zde,yc0];omega
  refine A7 ?_;refine x6 rfl (fun h383=> ?_) (fun h383=> ?_)
  ·
   refine A7 ?_;refine R2 (xj1 (ts:=[_,_]) (r:=tG (up w.heap.size) _) (yn5 1 i (by decide) (by omega)) fi158 (fun m hm=>ya1 hm) ⟨zao,zao,trivial⟩ rfl) rfl rfl (R1 (xb5 (n:=1) (f:=(fun x=>tG (up w.heap.size) (tTsM x))) [((smk 1 i,false):Tst×Bool)] zhm el59 zf59 rfl (fun _=>inferInstance) rfl rfl rfl) rfl (RE (xb3 (k:=10) (k':=34) (f:=(fun x=>tG (up w.heap.size) (tTsM x))) (ys:=[((smk 1 i,false):Tst×Bool)]) (ts':=rV (fun x=>tG (up w.heap.size) (tTsM x)) ((lmT l++mmT (mkT.take i))++[((smk 1 i,false):Tst×Bool)])) zhm el59 zf59 rfl rfl (fun _=>inferInstance) (xd2.trans hxl) (by simp;omega) (by simp;omega) (by simp [rV]) (n':=l.length+i+1) rfl) qB qA qA ?_));refine A9 ?_;exact xc6 (l:=[10]) (zab 10 34) (i+1) ⟨(by omega),(by omega)⟩ (zaf rfl (zas rfl (zas rfl zbd))) ((zbb rfl (zat (by rw [jm7 (by omega),jp5,<-zfj];exact xa6.symm))) zbe) (zaj (zak rfl (zaj zar))) (zam rfl (supJ xa5) zaz) (lkOk rfl) rfl rfl (fun _ h=>by cases h)
  ·
   refine A10 ?_;refine RE (q0 (k:=10) (f:=(fun x=>tG (up w.heap.size) (tTsM x))) (xs:=lmT l) (ms:=mmT mkT) (up w.heap.size) (fun _ h=>h) sl51 (fun _ h=>h) (fun _ _=>wb3) (by rw [rV,show i=12 by omega,show mkT.take 12=mkT from rfl]) (by rw [ya3,yg8,yc0];omega) (by omega) (by rw [ya3])) qB qA trivial ?_;refine A4 ?_;exact E1 rfl rfl (ju5 (leLW fun _=>xe2))
instance fi83:FnI Tryz.prog 83:=⟨_,func83,by kernel_rfl,rfl⟩
instance fi125:FnI Tryz.prog 125:=⟨_,func125,by kernel_rfl,rfl⟩
instance fi168:FnI Tryz.prog 168:=⟨_,func168,by kernel_rfl,rfl⟩
instance fi170:FnI Tryz.prog 170:=⟨_,func170,by kernel_rfl,rfl⟩
instance fi260:FnI Tryz.prog 260:=⟨_,func260,by kernel_rfl,rfl⟩
theorem yu7 (x:Wh) (hl:x.l.length<=1048576):
  Ct Tryz.prog 170 [tWhK x,tWh x] (tB true):=by
 refine Ct.intro func170 rfl ntmps170 rfl ?_;intro w F;refine A11 ?_;refine R2 (xq3 (ts:=[tWhK x,tWh x]) (xv1 x x) fi173 rfl ⟨zw2,zao,trivial⟩) rfl rfl ?_;refine A1 ?_;refine Rg (zbg (by rfl)) rfl (xh0 fo39_1.h rfl) rfl qA (xb2 (zbg (by rfl)) rfl rfl (0) ti37 rfl rfl rfl (At.g 1 rfl rfl) rfl (Rg (zbg (by rfl)) rfl (xh0 fo39_1.h rfl) rfl qA (xb2 (zbg (by rfl)) rfl rfl (0) ti37 rfl rfl rfl (At.g 1 rfl rfl) rfl (Rg (zbg (by rfl)) rfl (x3 (qe0 x.l hl) fi260 rfl) rfl qB (R2 (xc9 (zbg (by rfl))) rfl rfl ?_)))));refine A4 ?_;exact E1 rfl rfl zao
theorem qq9 (f:Fr) (h1:f.n.l.length<=1048576) (h2:f.d.l.length<=1048576):
  Ct Tryz.prog 83 [tFrK f,tFr f] (tB true):=by
 refine Ct.intro func83 rfl ntmps83 rfl ?_;intro w F;refine A11 ?_;refine R2 (xq3 (ts:=[tFrK f,tFr f]) (xu1 f f) fi86 rfl ⟨jg6,zao,trivial⟩) rfl rfl ?_;refine A1 ?_;refine Rg (zbg (by rfl)) rfl (xh0 fo41_0.h rfl) rfl qA (xb2 (zbg (by rfl)) rfl rfl (0) ti39 rfl rfl rfl (At.g 0 rfl rfl) rfl (Rg (zbg (by rfl)) rfl (xh0 fo41_0.h rfl) rfl qA (xb2 (zbg (by rfl)) rfl rfl (0) ti39 rfl rfl rfl (At.g 0 rfl rfl) rfl (Rg (zbg (by rfl)) rfl (x3 (yu7 f.n h1) fi170 rfl) rfl qB (R2 (xc9 (zbg (by rfl))) rfl rfl ?_)))));refine A5 ?_;refine Rg rfl rfl (x3 (yu7 f.d h2) fi170 rfl) rfl qB ?_;refine A5 ?_;exact E1 rfl rfl zao
theorem yj0 (v:Va) (h1:v.f.n.l.length<=1048576) (h2:v.f.d.l.length<=1048576):
  Ct Tryz.prog 125 [tVaK v,tVa v] (tB true):=by
 refine Ct.intro func125 rfl ntmps125 rfl ?_;intro w F;refine A11 ?_;refine R2 (xq3 (ts:=[tVaK v,tVa v]) (ye3 v v) fi29 rfl ⟨qz3,zao,trivial⟩) rfl rfl ?_;refine A1 ?_;refine Rg (zbg (by rfl)) rfl (xh0 fo57_1.h rfl) rfl qA (xb2 (zbg (by rfl)) rfl rfl (0) ti41 rfl rfl rfl (At.g 1 rfl rfl) rfl (Rg (zbg (by rfl)) rfl (xh0 fo57_1.h rfl) rfl qA (xb2 (zbg (by rfl)) rfl rfl (0) ti41 rfl rfl rfl (At.g 1 rfl rfl) rfl (Rg (zbg (by rfl)) rfl (x3 (qq9 v.f h1 h2) fi83 rfl) rfl qB (R2 (xc9 (zbg (by rfl))) rfl rfl ?_)))));refine A4 ?_;exact E1 rfl rfl zao
theorem qq5 (s:Tst) (h1:s.v.f.n.l.length<=1048576) (h2:s.v.f.d.l.length<=1048576):
  Ct Tryz.prog 168 [tTsW s,tTs s] (tB true):=by
 refine Ct.intro func168 rfl ntmps168 rfl ?_;intro w F;refine A11 ?_;refine R2 (xq3 (ts:=[_,_]) (yi5 s s) fi169 rfl ⟨jg8,zao,trivial⟩) rfl rfl ?_;refine A1 ?_;refine Rg (zbg (by rfl)) rfl (xh0 fo59_2.h rfl) rfl qA (xb2 (zbg (by rfl)) rfl rfl (0) ti57 rfl rfl rfl (At.g 2 rfl rfl) rfl (Rg (zbg (by rfl)) rfl (xh0 fo59_2.h rfl) rfl qA (xb2 (zbg (by rfl)) rfl rfl (0) ti57 rfl rfl rfl (At.g 2 rfl rfl) rfl (Rg (zbg (by rfl)) rfl (xq3 (ts:=[_,_]) (yj0 s.v h1 h2) fi125 rfl ⟨vaWK,zao,trivial⟩) rfl qB (R2 (xc9 (zbg (by rfl))) rfl rfl ?_)))));refine A4 ?_;exact E1 rfl rfl zao
theorem qf0 (i:Nat) (hi:i < 10000000):Ct Tryz.prog 158 [tI 1,tI i] (tTs (smk 1 i)):=(yn5 1 i (by decide) hi).toCt fun _=>xe2
theorem ye4 (l:List Tst) (hl:l.length<=60) (hs: ∀s∈l,s.v.f.n.l.length<=1048576/\s.v.f.d.l.length<=1048576):
  Ct Tryz.prog 82 [tStW l,tL 8 true tTs l] (tB true):=by
 have hml:(lmT l++mmT mkT).length=l.length+12:=by rw [zbp,ya3,yg8,yc0]
 have hll:(lmT l).length=l.length:=ya3;refine Ct.intro func82 rfl ntmps82 rfl ?_;intro w F;refine A9 ?_;refine R1 (d_lenW zhm hll) rfl ?_;refine A5 ?_;refine xw4 rfl (zbf (by omega)) ?_;refine A8 ?_;refine R2 (jn1 sl51 (by rw [hll,yg8,yc0];omega)) rfl rfl ?_;refine A10 ?_;refine cL (fun (i:Nat)=>i<=(lmT l++mmT mkT).length) (fun (i:Nat)=>uV (uV (uV uN 1 (tL 8 true tTs l)) 5 (tL 8 true tTsM (lmT l++mmT mkT))) 6 (tI i)) (fun (i:Nat)=>fun _=>none) [] (fun (i:Nat)=>(lmT l++mmT mkT).length - i) (0) (zbq _) ?_;intro i hI;refine A9 ?_;refine x6 rfl (fun h394=> ?_) (fun h394=> ?_)
 ·
  refine A11 ?_;refine RGcaseD (t:=27) rfl (fun h395=> ?_) (fun h395=> ?_)
  ·
   refine A2 ?_;refine Rg (zbg h395) rfl (x4 sl51 i (by omega) (zai (l:=(lmT l++mmT mkT)) (n:=i) (d:=tm0))) rfl qB ?_;refine A3 ?_;refine Rg (zbg h395) rfl (x4 sl51 i (by omega) (zai (l:=l) (n:=i) (d:=tst0))) rfl qB ?_;refine A1 ?_;refine Rg (zbg h395) rfl (xq3 (ts:=[_,_]) (qq5 (l.getD i tst0) (hs _ (xi0 (l:=l) (by omega))).1 (hs _ (xi0 (l:=l) (by omega))).2) fi168 rfl ⟨(by rw [lm_l (by omega)];exact zao),zao,trivial⟩) rfl qB ?_;refine A8 ?_;refine RGoff (zbf (by omega)) rfl rfl (RGoff (zbf (by omega)) rfl rfl (RGoff (zbf (by omega)) rfl rfl (RGoff (zbf (by omega)) rfl rfl (RGoff (zbf (by omega)) rfl rfl (RGoff (zbf (by omega)) rfl rfl (RGoff (zbf (by omega)) rfl rfl (RGoff (zbf (by omega)) rfl rfl (RGoff (zbf (by omega)) rfl rfl (RGoff (zbf (by omega)) rfl rfl (RGoff (zbf (by omega)) rfl rfl (Rg rfl rfl (xc7 (zbf (by omega))) rfl qB ?_)))))))))));refine A12 ?_;exact kF (i+1) ⟨(by omega),(by omega)⟩
  ·
   refine A17 ?_;refine Rg (zbg (by omega)) rfl xb9 rfl qA (Rg (zbg (by omega)) rfl xb9 rfl qA (Rg (zbg (by omega)) rfl (x4 sl51 i (by omega) (zai (l:=(lmT l++mmT mkT)) (n:=i) (d:=tm0))) rfl qB (Rg (zbg (by omega)) rfl (xm1 ti59) rfl qA (Rg (zbg (by omega)) rfl xb9 rfl qA (Rg (zbg (by omega)) rfl xb9 rfl qA (Rg (zbg (by omega)) rfl (xf9 zhm) rfl qA (Rg (zbg (by omega)) rfl (xd6 (r:=((i - l.length:Nat):Int)) (by rw [wr64 (by omega) (by omega)];omega)) rfl qB (Rg (zbg (by omega)) rfl (xq3 (ts:=[_,_]) (qf0 (i - l.length) (by omega)) fi158 rfl ⟨zao,zao,trivial⟩) rfl qB (Rg (zbg (by omega)) rfl (xq3 (ts:=[_,_]) (yi5 (smk 1 (i - l.length)) (smk 1 (i - l.length))) fi169 rfl ⟨(by rw [lm_r (by omega) (by rw [yc0];omega),qw3 (by omega)];exact zao),zao,trivial⟩) rfl qB (Rg (zbg (by omega)) rfl xz2 rfl qA (Rg rfl rfl (xc9 (zbg (by omega))) rfl qB ?_)))))))))));refine A3 ?_;refine xw4 rfl (xa3 (by rfl)) ?_;refine A8 ?_;exact kF (i+1) ⟨(by omega),(by omega)⟩
 ·
  refine A11 ?_;exact E1 rfl rfl zao
instance fi85:FnI Tryz.prog 85:=⟨_,func85,by kernel_rfl,rfl⟩
instance fi171:FnI Tryz.prog 171:=⟨_,func171,by kernel_rfl,rfl⟩
instance fi172:FnI Tryz.prog 172:=⟨_,func172,by kernel_rfl,rfl⟩
instance fi261:FnI Tryz.prog 261:=⟨_,func261,by kernel_rfl,rfl⟩
instance fi262:FnI Tryz.prog 262:=⟨_,func262,by kernel_rfl,rfl⟩
def ovr (l:List Nat):Nat->List Nat
 | 0=>l
 | k+1=>(ovr l k).set k ((9000027+k)%65536)
theorem yt9 {l:List Nat}: ∀{k:Nat},(ovr l k).length=l.length
 | 0=>rfl
 | k+1=>by rw [ovr,zdy,yt9]
theorem cutM2 {i:Nat}:IntKind.u16.wrap (1000003*(((2:Nat):Int)+7)+(i:Int))=(((9000027+i)%65536:Nat):Int):=by rw [mu16];omega
theorem wa9 (i:Nat) (hi:i < 10000000):Ct Tryz.prog 146 [tI 2,tI i] (tI (1000003*(((2:Nat):Int)+7)+(i:Int))):=qj0 2 i (by decide) hi
theorem qf1 (i:Nat) (hi:i < 10000000):Ct Tryz.prog 158 [tI 2,tI i] (tTs (smk 2 i)):=(yn5 2 i (by decide) hi).toCt fun _=>xe2
theorem zt8 (l:List Nat) (n:Nat) (hn:n+12<=l.length) (hb:n<=9000000):
  CtG Tryz.prog 262 [(1,⟨64,1,false,rW .u16 l⟩)] [.own (.sl 1 1 0 n)] (.val (tT [])) [(1,⟨64,1,false,rW .u16 (ovr l (n+12))⟩)] []:=by
 refine CtG.intro [1] func262 rfl ntmps262 rfl rfl ⟨⟨rfl,xd1⟩,trivial⟩ ?_;intro w F η;refine A4 ?_;refine RE (jd5 zgy) qA qA trivial ?_;refine A3 ?_;refine R2 (qw1 (v:=((n+12:Nat):Int)) (fun q hq=>by rw [xj4] at hq;omega)) rfl rfl (RE (zm4 sl37 (n+12) rfl (by rw [xj4];omega)) qB qA trivial ?_);refine A9 ?_;refine cL (fun (i:Nat)=>i<=n+12) (fun (i:Nat)=>uV (uO uN 2 (.sl 1 1 0 (n+12))) 3 (tI i)) (fun (i:Nat)=>uK uN 1 64 1 false (rW .u16 (ovr l i))) [1] (fun (i:Nat)=>n+12 - i) (0) (zbq _) (hh:=((zaq rfl (zat rfl)) zax)) ?_;intro i hI;refine A9 ?_;refine x6 rfl (fun h85=> ?_) (fun h85=> ?_)
 ·
  refine A8 ?_;refine R2 (x3 (wa9 i (by omega)) fi146 rfl) rfl rfl (R1 (x5 zhc (isS zhg) cutM2) rfl (R2 (zag sl37 rfl) rfl rfl (RE (xb8 (i) ti64 (xj0 (by rw [yt9];omega)) (by omega) (xh1 (m:=_) rfl)) qB qA trivial ?_)));refine A8 ?_;exact kF (i+1) ⟨(by omega),(by omega)⟩ (hh:=((zaq rfl (zat rfl)) zax))
 ·
  have him:i=n+12:=by omega
  subst him;refine A4 ?_;exact xj5 LentC.mk' rfl (.inr rfl) qA ⟨⟨rfl,xd1⟩,trivial⟩ rfl
theorem qf7 (V:VM) (n:Nat) (hb:n<=9000000):CtV Tryz.prog (XV 64 V) 262 [] [.val (tSlV V n)] 0 0:=by
 intro w η vs hvs _ _ hD hJ
 match vs,hvs with
 | [v],hvs=>
 obtain ⟨b,m,c,rfl,hV,hm⟩:=hvs.1;have hJ:JV _ V w:=hJ;obtain ⟨cs,h1,h2,h3,h4,h5⟩:=hJ b m c hV;obtain ⟨xs,x1,x2⟩:=qo0 (α:=Nat) (p:=fun i x=>cs[i]? =some (.int .u16 x)) m h5;have hown: ∀b',OwnK (⟨fun _=>b,fun _=>c,fun _=>False⟩:Env) [(1,⟨64,1,false,rW .u16 xs⟩)] b'->b'=b:=by
  rintro b' ⟨x,hx,_,rfl⟩;rfl
 refine (zt8 xs n (by omega) hb (fun _=>False) w ⟨fun _=>b,fun _=>c,fun _=>False⟩ [.slice (some ⟨b,0,none⟩) n c] ⟨⟨_,rfl,?_,fun _=> ?_⟩,trivial⟩ ?_ ?_ (fun _ h=>h.elim)).mono ?_
 ·show 0+n<=c;omega
 ·simp
 ·intro x hx;rw [zbj] at hx;subst hx;refine ⟨by rw [xj4,x1];exact h3,(show 0 < 1 by decide),fun _=>rfl,h4,fun _=>⟨cs,h1,by rw [h2,zee],fun i e he=> ?_⟩⟩;rw [rW,zbu] at he;obtain ⟨y,hy,rfl⟩:=zdn.1 he;show pick false 1 cs (i*1)=_;have:=x2 i y hy;rw [zee,pick,zen,zbk,this];rfl
 ·intro x hx y hy hne;rw [zbj] at hx hy;subst hx hy;exact absurd rfl hne
 ·rintro e w' ⟨u,η',rfl,ho⟩;have hu:u= .tuple #[]:=by
   obtain ⟨us,e1,e2⟩:=ho.res;cases us with
   | nil=>exact e1
   | cons _ _=>exact e2.elim
  have es:=ho.same 1 (by simp);refine ⟨by rw [hu],ho.stp.mono fun b' _ hb'=> .inr ?_,fun b' m' c' hV'=> ?_⟩
  ·rw [hown b' hb'];exact ⟨_,hV⟩
  ·by_cases hbb:b'=b
   ·subst hbb;rw [hV] at hV';cases hV';have hk:=ho.keys _ (zbj.2 rfl);obtain ⟨k1,k2,k3,k4,k5⟩:=hk;have ec:η'.c 1=c:=es.2;have eb:η'.b 1=b':=es.1;simp only at k1 k4 k5;rw [ec] at k1 k4 k5;rw [eb] at k5;rw [xj4,yt9,x1] at k1;obtain ⟨cs',g1,g2,g3⟩:=k5 (by omega);refine ⟨cs',g1,by rw [g2,zee],h3,h4,fun i hi=> ?_⟩;have:=g3 i _ (xn7 (by rw [yt9,x1];exact hi));have h0:pick false 1 cs' (i*1)= .int .u16 ((ovr xs (n+12)).getD i 0:Nat):=this;rw [zee,pick,zen,zbk] at h0;cases hg:cs'[i]? with
    | none=>rw [Array.getElem?_eq_none_iff] at hg;rw [g2] at hg;omega
    | some z=>rw [hg] at h0;exact ⟨_,by rw [show z=_ from h0]⟩
   ·obtain ⟨cs0,z1,z2⟩:=hJ b' m' c' hV';exact ⟨cs0,(ho.stp.block b' (xa7 z1) fun h=>hbb (hown b' h)).trans z1,z2⟩
abbrev tWhV (V:VM) (x:Wh):Ty:=tS [⟨1,false,tB x.neg⟩,⟨1,false,tSlV V x.l.length⟩]
abbrev tFrV (V:VM) (f:Fr):Ty:=tS [⟨2,true,tWhV V f.n⟩,⟨2,true,tWhV V f.d⟩]
abbrev tVaV (V:VM) (v:Va):Ty:=tS [⟨1,false,tE (.int .u8 (v.kind:Int))⟩,⟨4,true,tFrV V v.f⟩,⟨1,false,tI v.i⟩]
abbrev tTsV (V:VM) (s:Tst):Ty:=tS [⟨1,false,tI s.lo⟩,⟨1,false,tI s.hi⟩,⟨6,true,tVaV V s.v⟩]
theorem ys9 {V:VM} {x:Wh}:Free (tWhV V x):=Free.S ⟨Free.E,zm8,trivial⟩
theorem qi9 {V:VM} {f:Fr}:Free (tFrV V f):=Free.S ⟨ys9,ys9,trivial⟩
theorem qp0 {V:VM} {v:Va}:Free (tVaV V v):=Free.S ⟨Free.E,qi9,Free.E,trivial⟩
theorem jw1 {V:VM} {s:Tst}:Free (tTsV V s):=Free.S ⟨Free.E,Free.E,qp0,trivial⟩
abbrev tTsVM (V:VM) (x:Tst×Bool):Ty:=cond x.2 (tTsV V x.1) (tTs x.1)
instance {V:VM} {x:Tst×Bool}:Shape (tTsVM V x) 8 true:=by
 obtain ⟨s,b⟩:=x;cases b
 ·exact (inferInstance:Shape (tTs s) 8 true)
 ·exact (inferInstance:Shape (tTsV V s) 8 true)
theorem rowV {V:VM} {l:List Tst} {m:List Tst} {i:Nat} (h:i < l.length):(rV (tTsVM V) (lmT l++mmT m))[i]? =some (.val (tTsV V (l.getD i tst0))):=by
 have:=xc4 (f:=tTsVM V) (xs:=lmT l++mmT m) (i:=i) (d:=tm0) (by rw [zbp,ya3];omega);rw [lm_l h] at this;exact this
theorem yv5 (V:VM) (x:Wh) (hb:x.l.length<=9000000):
  CtV Tryz.prog (XV 64 V) 172 [] [.val (tWhV V x)] 0 0:=by
 refine CtV.intro 99 [] func172 rfl ntmps172 rfl rfl trivial rfl ?_;intro w η hV;refine A8 ?_;refine RE (xq5 hV (us:=[_]) (qf7 V _ hb) fi262 ⟨zm8,trivial⟩ rfl) qA qA trivial ?_;refine A1 ?_;exact yo9 hV rfl (.inr rfl) rfl
theorem qs0 (V:VM) (f:Fr) (h1:f.n.l.length<=9000000) (h2:f.d.l.length<=9000000):
  CtV Tryz.prog (XV 64 V) 85 [] [.val (tFrV V f)] 0 0:=by
 refine CtV.intro 99 [] func85 rfl ntmps85 rfl rfl trivial rfl ?_;intro w η hV;refine A9 ?_;refine RE (xq5 hV (us:=[_]) (yv5 V _ h1) fi172 ⟨ys9,trivial⟩ rfl) qA qA trivial ?_;refine A5 ?_;refine RE (xq5 hV (us:=[_]) (yv5 V _ h2) fi172 ⟨ys9,trivial⟩ rfl) qA qA trivial ?_;refine A1 ?_;exact yo9 hV rfl (.inr rfl) rfl
theorem qd3 (V:VM) (v:Va) (h1:v.f.n.l.length<=9000000) (h2:v.f.d.l.length<=9000000):
  CtV Tryz.prog (XV 64 V) 261 [] [.val (tVaV V v)] 0 0:=by
 refine CtV.intro 99 [] func261 rfl ntmps261 rfl rfl trivial rfl ?_;intro w η hV;refine A8 ?_;refine RE (xq5 hV (us:=[_]) (qs0 V _ h1 h2) fi85 ⟨qi9,trivial⟩ rfl) qA qA trivial ?_;refine A1 ?_;exact yo9 hV rfl (.inr rfl) rfl
theorem qq7 (V:VM) (s:Tst) (h1:s.v.f.n.l.length<=9000000) (h2:s.v.f.d.l.length<=9000000):
  CtV Tryz.prog (XV 64 V) 171 [] [.val (tTsV V s)] 0 0:=by
 refine CtV.intro 99 [] func171 rfl ntmps171 rfl rfl trivial rfl ?_;intro w η hV;refine A8 ?_;refine RE (xq5 hV (us:=[_]) (qd3 V _ h1 h2) fi261 ⟨qp0,trivial⟩ rfl) qA qA trivial ?_;refine A1 ?_;exact yo9 hV rfl (.inr rfl) rfl
theorem qe8 (V:VM) (l:List Tst) (hl:l.length<=60) (hs: ∀s∈l,s.v.f.n.l.length<=9000000/\s.v.f.d.l.length<=9000000):
  CtV Tryz.prog (XV 64 V) 84 [(1,⟨59,8,true,rV (tTsVM V) (lmT l++mmT mkT)⟩)] [.own (.sl 1 8 0 l.length)] 0 0:=by
 have hml:(lmT l++mmT mkT).length=l.length+12:=by rw [zbp,ya3,yg8,yc0]
 refine CtV.intro 99 [1] func84 rfl ntmps84 rfl rfl ⟨⟨rfl,xa5⟩,trivial⟩ rfl ?_;intro w η hV;refine A7 ?_;refine cL (fun (i:Nat)=>i<=l.length) (fun (i:Nat)=>uV (uO uN 0 (.sl 1 8 0 l.length)) 2 (tI i)) (fun (i:Nat)=>uK (uK uN 1 59 8 true (rV (tTsVM V) (lmT l++mmT mkT))) 99 0 1 false []) [1,99] (fun (i:Nat)=>l.length - i) (0) (zbq _) ?_;intro i hI;refine A9 ?_;refine x6 rfl (fun h403=> ?_) (fun h403=> ?_)
 ·
  refine A7 ?_;refine R2 (zag sl51 rfl) rfl rfl (RE (xc1 (i) ti59 (rowV (by omega)) (by omega)) qA qA trivial (RE (xq5 hV (us:=[_]) (qq7 V (l.getD i tst0) (hs _ (xi0 (l:=l) (by omega))).1 (hs _ (xi0 (l:=l) (by omega))).2) fi171 ⟨jw1,trivial⟩ rfl) qA qA trivial ?_));refine A8 ?_;exact kF (i+1) ⟨(by omega),(by omega)⟩
 ·
  refine A9 ?_;refine RE (jd5 zhm) qA qA trivial ?_;refine A3 ?_;refine R2 (qw1 (v:=((l.length+12:Nat):Int)) (fun q hq=>by rw [xd2,hml] at hq;omega)) rfl rfl (RE (zm4 sl51 (l.length+12) rfl (by have:=hml;rw [xd2];omega)) qB qA trivial ?_);refine A9 ?_;refine cL (fun (fm:(Nat)×(List (Tst×Bool)))=>(fun (i:Nat) (xs:List (Tst×Bool))=>i<=l.length+12/\xs.length=l.length+12) fm.1 fm.2) (wB fun (i:Nat) (xs:List (Tst×Bool))=>uV (uO uN 3 (.sl 1 8 0 (l.length+12))) 4 (tI i)) (wB fun (i:Nat) (xs:List (Tst×Bool))=>uK (uK uN 1 59 8 true (rV (tTsVM V) xs)) 99 0 1 false []) [1,99] (fun (fm:(Nat)×(List (Tst×Bool)))=>(fun (i:Nat) (xs:List (Tst×Bool))=>l.length+12 - i) fm.1 fm.2) ((0,(lmT l++mmT mkT))) (by dsimp only;exact ⟨zbq _,hml⟩) ?_;intro fm hI;obtain ⟨i,xs⟩:=fm;replace hI:i<=l.length+12/\xs.length=l.length+12:=hI;show wc _ _ _ _ (uV (uO uN 3 (.sl 1 8 0 (l.length+12))) 4 (tI i)) (uK (uK uN 1 59 8 true (rV (tTsVM V) xs)) 99 0 1 false []) _;obtain ⟨hi,hxl⟩:=hI;refine A9 ?_;refine x6 rfl (fun h407=> ?_) (fun h407=> ?_)
  ·
   refine A8 ?_;refine R2 (x3 (qf1 i (by omega)) fi158 rfl) rfl rfl (R2 (zag sl51 rfl) rfl rfl (RE (xb8 (e:= .val (tTs (smk 2 i))) (i) ti59 (xe8 (f:=tTsVM V) (xs:=xs) (by omega)) (by omega) (xi3 (f:=tTsVM V) (xs:=xs) (t:=tTs (smk 2 i)) (m:=(smk 2 i,false)) rfl)) qB qA trivial ?_));refine A8 ?_;exact kF ((i+1,xs.set i (smk 2 i,false))) ⟨(by dsimp only;exact ⟨by omega,by rw [zdy];exact hxl⟩),(by dsimp only;omega)⟩
  ·
   refine A4 ?_;exact yo9 hV rfl (.inr rfl) rfl
end An.S
namespace An
open Go
theorem St'.more {c:Base} {g:Slots} {h:Keys} {al al':Names} {a:Act} {w:World} {η:Env} (s:St' c g h al a w η) (hal: ∀k,al k=true->al' k=true):St' c g h al' a w η:=
  ⟨s.tn,s.df,fun t e he=>⟨(s.slot t e he).1,fun k hk=>hal k ((s.slot t e he).2.1 k hk),(s.slot t e he).2.2⟩,fun k x hx=>⟨hal k (s.key k x hx).1,fun j hj=>hal j ((s.key k x hx).2.1 j hj),(s.key k x hx).2.2⟩,
   s.inj,s.fr,fun k hk=>⟨hal k (s.lk k hk).1,(s.lk k hk).2⟩,s.pin,s.vol,fun k hk=>hal k (s.yal k hk),s.jj,s.lbl⟩
section
variable {P:Program} {c:Base} {g:Slots} {h:Keys} {al:Names} {d ty:Nat} {pos:String} {af:Array Edge} {Q:Exit->Act->World->Prop}
theorem ys6 {A:Array Oper} {rest:List Oper} {T E es by_ k k' n:Nat} {agg:Bool} {z:Value} {α:Type} {f:α->Ty} {ys:List α} {x y:Operand} {ts:List Ent} {T0:Nat} (sl:P.underlying T=some (.slice E)) (el:ElI P E es by_ agg z) (hz:Flat es agg z) (hT:T0=E) (h0:Nat.blt 0 es=true)
  (hf: ∀y,Shape (f y) es agg) (hx:look g x=some (.own (.sl k es 0 n))) (hy:look g y=some (.val (tL es agg f ys))) (hk:h k=some ⟨T0,es,agg,ts⟩) (hk':al k'=false) (hn:ts.length=n) (hb:(n+ys.length)*by_<=140737488355328) (h63:n+ys.length<=9223372036854775807) (hpos:0 < ys.length) (hdN:Nat.blt d c.N=true)
  (H: ∀b:Bool,wl P c A Q rest (upd g d (some (.own (.sl (cond b k k') es 0 (n+ys.length))))) (upd h (cond b k k') (some ⟨T0,es,agg,ts++ys.map (fun y=> .val (f y))⟩)) (fun j=>Nat.beq j k' || al j)):
  wl P c A Q (⟨some d,.call {callee:= .builtin .append,args:= #[x,y],argTypes:= #[T,T]},ty,pos,af,none⟩::rest) g h al:=by
 intro a w ⟨η,s⟩;unfold wpListIn;rw [if_pos (by rfl)];subst hT hn;have h0':0 < es:=by simpa using h0
 have hdN':d < c.N:=by simpa using hdN
 obtain ⟨hxv,hxs⟩:=xa0 s hx;obtain ⟨AA,hA,hcap,hadr⟩:=hxv;simp only [Nat.sub_zero,zcm,zdz] at hA hcap hadr;obtain ⟨A2,c2,news,hyv,hns,hsrc,hone,hnp,_⟩:=zo3 (P:=P) hf h0' (xa0 s hy).1;have hA:a.eval x= .slice AA ts.length (η.c k):=hA;have hyv:a.eval y= .slice A2 ys.length c2:=hyv;obtain ⟨i,hi,hsz,hby,hz'⟩:=el.parts;obtain ⟨k1,k2,⟨k3,k4,k5,k6,k7⟩,k8⟩:=s.key k _ hk;simp only at k3 k4 k5 k6 k7;have hexec: ∀v w',(Builtin.append_ #[T,T] ty #[.slice AA ts.length (η.c k),.slice A2 ys.length c2]).run P w= .ok v w'->
   (execOp a.eval ⟨some d,.call {callee:= .builtin .append,args:= #[x,y],argTypes:= #[T,T]},ty,pos,af,none⟩).run P w= .ok (.value v) w':=fun v w' hr=>by
  simp only [execOp,resolve,invoke,builtin,zcu,zdu,zfr,hA,hyv,zbv,zbw,zbm,hr]
 have hsupp: ∀j∈HEnt.supp ⟨T0,es,agg,ts++ys.map fun y=> .val (f y)⟩,al j=true:=fun j hj=>by
  simp only [HEnt.supp,zbz] at hj;obtain ⟨e,he,hj⟩:=hj;rcases zbo.1 he with he | he
  ·exact k2 j (zbz.2 ⟨e,he,hj⟩)
  ·obtain ⟨y,_,rfl⟩:=zcp.1 he;cases hj
 have hlk: ∀(i:Nat) (e:Ent),(ts++ys.map fun y=>Ent.val (f y))[i]? =some e->(ts[i]? =some e/\i < ts.length)∨(∃y,ys[i - ts.length]? =some y/\e= .val (f y)/\ts.length<=i):=fun i e he=>by
  rcases zcx i ts.length with hlt | hge
  ·rw [zdo hlt] at he;exact .inl ⟨he,hlt⟩
  ·rw [zeg hge,zbu] at he;obtain ⟨y,hy,rfl⟩:=zdn.1 he;exact .inr ⟨y,hy,rfl,hge⟩
 have hcs: ∃cs:Array Value,(0 < η.c k->AA=some ⟨η.b k,0,none⟩/\w.heap[η.b k]? =some (.cells cs T0 (0,0))/\cs.size=η.c k*es)/\(0 < η.c k-> ∀(i:Nat) (e:Ent),ts[i]? =some e->e.sat (c.dom h η) w η (pick agg es cs (i*es))):=by
  rcases zcf (η.c k) with hc | hc
  ·exact ⟨#[],fun h=>by omega,fun h=>by omega⟩
  ·obtain ⟨cs,m1,m2,m3⟩:=k7 hc;exact ⟨cs,fun _=>⟨hadr hc,m1,m2⟩,fun _=>m3⟩
 obtain ⟨cs,hrow,m3⟩:=hcs;rcases yh6 (P:=P) (ty:=ty) (A:=AA) (n:=ts.length) (cap:=η.c k) (A2:=A2) (c2:=c2) (w:=w) (b:=η.b k) sl hi hsz hby hz' hz.1 h0' k3 cs hrow news hns hsrc hone h63 hb with ⟨hfit,w',hr,hw,_⟩ | ⟨hgt,w',cap',rest',hr,hle,hmax,hrest,hheap,hos,htape,hout,hold⟩
 ·have hc:0 < η.c k:=by omega
  obtain ⟨hAv,m1,m2⟩:=hrow hc;obtain ⟨q1,q2,q3,q4,q5,q6⟩:=hw hc;refine xe6 (hexec _ _ hr) ?_;have hsz2:ts.length*es+ys.length*es<=cs.size:=by rw [m2,<-zcn];exact zbt _ hfit
  have hnl:news.toList.length=ys.length*es:=by simpa using hns
  have s1:=s.write (w':=w') k hk ⟨T0,es,agg,ts++ys.map fun y=> .val (f y)⟩ (putAt cs (ts.length*es) news.toList) (by rw [xd5];exact m2) (by simpa using hfit) h0' k5 hsupp
   (fun j e hj=>by
    rcases hlk j e hj with ⟨he,hjl⟩ | ⟨y,hy',rfl,hge⟩
    ·have hle':j*es+es<=ts.length*es:=by rw [<-zdh];exact zbt _ hjl
     simp only [];rw [xh8 (by omega) k5 (.inl hle')];exact m3 hc j e he
    ·have hjl:j - ts.length < ys.length:=(zbn.1 hy').1;have hle':(j - ts.length)*es+es<=ys.length*es:=by rw [<-zdh];exact zbt _ hjl
     have e1:j*es=ts.length*es+(j - ts.length)*es:=by rw [<-zcn];congr 1;omega
     have hpk:pick agg es (putAt cs (ts.length*es) news.toList) (j*es)=pick agg es news ((j - ts.length)*es):=by
      have hg: ∀q,q < es->(putAt cs (ts.length*es) news.toList)[j*es+q]? =news[(j - ts.length)*es+q]? :=fun q hq=>by
       rw [xk4 _ _ _ _ (by omega),if_pos (by omega),zfw]
       congr 1;omega
      cases agg with
      | true=>
       simp only [pick,zey,zej];apply zds;intro q;rw [zcs,zcs,xd5];by_cases hq:q < es
       ·rw [if_pos (by omega),if_pos (by omega),hg q hq]
       ·rw [if_neg (by omega),if_neg (by omega)]
      | false=>
       simp only [pick,zen];have:=hg 0 h0';rw [zbk,zbk];simp only [zek] at this;rw [this]
     simp only [];rw [hpk];exact hnp _ y hy')
   hc q1 q2 q3 q4 q5 q6 rfl
  refine H true _ _ ⟨_,(s1.put hdN' (e:= .own (.sl k es 0 (ts.length+ys.length))) ⟨AA,rfl,?_,?_⟩ ?_).more ?_⟩
  ·simpa using hfit
  ·intro _;rw [hAv];simp
  ·intro j hj;simp only [Ent.supp,VP.supp,zbj] at hj;subst hj;exact k1
  ·intro j hj;simp [hj]
 ·refine xe6 (hexec _ _ hr) ?_;have hext:Ext w w':=⟨hos,htape,hout,by rw [hheap];simp,fun b hb=>by rw [hheap,zgg,if_neg (by omega)]⟩
  have hpos': ∀j e,ts[j]? =some e->0 < η.c k:=fun j e he=>by
   have:=(zbn.1 he).1;omega
  have s2:=s.new' k' hk' ⟨T0,es,agg,ts++ys.map fun y=> .val (f y)⟩ cap' w.heap.size (by simpa using hle) h0' k5 hmax hsupp hext (fun _=>⟨zbs _,cs.extract 0 (ts.length*es)++news++rest',by rw [hheap];simp,by
    simp only [zgw,hns,hrest,hold];rw [<-zcn,<-zcn];congr 1;omega,fun j e hj=>by
    rcases hlk j e hj with ⟨he,hjl⟩ | ⟨y,hy',rfl,hge⟩
    ·have hle':j*es+es<=ts.length*es:=by rw [<-zdh];exact zbt _ hjl
     simp only [];rw [Array.append_assoc,xp7 (by rw [hold];exact hle') k5,yi2 hle' (by simp at hold;omega) k5];exact m3 (hpos' j e he) j e he
    ·have hjl:j - ts.length < ys.length:=(zbn.1 hy').1;have hle':(j - ts.length)*es+es<=ys.length*es:=by rw [<-zdh];exact zbt _ hjl
     have e1:j*es=(cs.extract 0 (ts.length*es)).size+(j - ts.length)*es:=by rw [hold,<-zcn];congr 1;omega
     simp only [];rw [Array.append_assoc,e1,ye2 (by simp only [zgw,hns];omega) k5,xp7 (by rw [hns];exact hle') k5];exact hnp _ y hy'⟩)
  refine H false _ _ ⟨_,s2.put hdN' (e:= .own (.sl k' es 0 (ts.length+ys.length))) ⟨some ⟨w.heap.size,0,none⟩,?_,?_,?_⟩ ?_⟩
  ·simp [Env.set_c]
  ·simpa [Env.set_c] using hle
  ·intro _;simp [Env.set_b]
  ·intro j hj;simp only [Ent.supp,VP.supp,zbj] at hj;subst hj;simp
theorem yp0 {x:Code} (round:wc P c x (Exit.then (fun _ _=>False) Q) g h al):wc P c (.loop x) Q g h al:=by
 intro a w hs b k cs hro hb hr;obtain ⟨e,a₁,w₁,hq,harr⟩:=round a w hs b (.inLoop x::k) cs hro hb hr;refine ⟨e,a₁,w₁,?_⟩;cases e with
 | normal=>exact hq.elim
 | exit id=>exact ⟨hq,.of_steps (.one (fenced_calm hb hr rfl) stepR_loop) (.pass (x:= .inLoop x) rfl (fun _ _=> .inl (by simp)) harr)⟩
 | goto l=>exact ⟨hq,.of_steps (.one (fenced_calm hb hr rfl) stepR_loop) (.pass (x:= .inLoop x) rfl (fun _ _=> .inl (by simp)) harr)⟩
 | ret=>exact ⟨hq,.of_steps (.one (fenced_calm hb hr rfl) stepR_loop) (.pass (x:= .inLoop x) rfl (fun _ _=> .inl (by simp)) harr)⟩
 | panic ch=>exact ⟨hq,.of_steps (.one (fenced_calm hb hr rfl) stepR_loop) (.pass (x:= .inLoop x) rfl (fun _ _=> .inl (by simp)) harr)⟩
 | outgrown=>exact ⟨hq,.of_steps (.one (fenced_calm hb hr rfl) stepR_loop) (.pass (x:= .inLoop x) rfl (fun _ _=> .inl (by simp)) harr)⟩
theorem yg2 {ι:Type} (I:ι->Prop) (G:ι->Slots) (H:ι->Keys) (al':ι->Names) (μ:ι->Nat) {x:Code} (i:ι) (hi:I i) (hg:Sub (G i) g) (hh:SubK (H i) h) (sg:SupG (G i) (al' i)) (sh:SupH (H i) (al' i)) (hlk:LkOk c (al' i))
  (round: ∀i,I i->wc P c x (Exit.then (fun a w=> ∃j,(I j/\μ j < μ i)/\St c (G j) (H j) (al' j) a w) Q) (G i) (H i) (al' i)):wc P c (.loop x) Q g h al:=by
 intro a w hs b k cs hro hb hr;have key: ∀n i,μ i=n->I i-> ∀a w,St c (G i) (H i) (al' i) a w->
   ∃e a' w',Q e a' w'/\ArrivesIn (Machine.fenced P (fc c.ro)) P (lone (b.atR a (.code x:: .inLoop x::k)) cs w) b k cs e a' w':=by
  intro n
  induction n using Nat.strongRecOn with
  | _ n ih=>
   intro i hn hi a w hs;obtain ⟨e,a₁,w₁,hq,harr⟩:=round i hi a w hs b (.inLoop x::k) cs hro hb hr;cases e with
   | normal=>
    obtain ⟨j,⟨hj,hlt⟩,hs'⟩:=hq;obtain ⟨e₂,a₂,w₂,hq₂,harr₂⟩:=ih (μ j) (hn▸hlt) j rfl hj a₁ w₁ hs';exact ⟨e₂,a₂,w₂,hq₂,.of_steps (StepsIn.trans harr (.one (fenced_calm hb hr rfl) stepR_inLoop)) harr₂⟩
   | exit id=>exact ⟨_,a₁,w₁,hq,.pass (x:= .inLoop x) rfl (fun _ _=> .inl (by simp)) harr⟩
   | goto l=>exact ⟨_,a₁,w₁,hq,.pass (x:= .inLoop x) rfl (fun _ _=> .inl (by simp)) harr⟩
   | ret=>exact ⟨_,a₁,w₁,hq,.pass (x:= .inLoop x) rfl (fun _ _=> .inl (by simp)) harr⟩
   | panic ch=>exact ⟨_,a₁,w₁,hq,.pass (x:= .inLoop x) rfl (fun _ _=> .inl (by simp)) harr⟩
   | outgrown=>exact ⟨_,a₁,w₁,hq,.pass (x:= .inLoop x) rfl (fun _ _=> .inl (by simp)) harr⟩
 obtain ⟨e,a',w',hq,harr⟩:=key _ i rfl hi a w (hs.weaken hg hh sg sh hlk);exact ⟨e,a',w',hq,.of_steps (.one (fenced_calm hb hr rfl) stepR_loop) harr⟩
theorem xh2 {ι:Type} {I:ι->Prop} {G:ι->Slots} {H:ι->Keys} {al':ι->Names} (i:ι) (hi:I i) (hg:Sub (G i) g) (hh:SubK (H i) h) (sg:SupG (G i) (al' i)) (sh:SupH (H i) (al' i)) (hlk:LkOk c (al' i)) {a:Act} {w:World} (hs:St c g h al a w): ∃j,I j/\St c (G j) (H j) (al' j) a w:=
 ⟨i,hi,hs.weaken hg hh sg sh hlk⟩
end
end An
namespace An.S
open Go Go.Proofs An Tryz
instance ti23:TyI Tryz.prog 23 1 false:=⟨by kernel_rfl,by kernel_rfl⟩
instance ti71:TyI Tryz.prog 71 1 false:=⟨by kernel_rfl,by kernel_rfl⟩
instance ti283:TyI Tryz.prog 283 1 false:=⟨by kernel_rfl,by kernel_rfl⟩
instance ti291:TyI Tryz.prog 291 1 false:=⟨by kernel_rfl,by kernel_rfl⟩
instance ti293:TyI Tryz.prog 293 1 false:=⟨by kernel_rfl,by kernel_rfl⟩
instance ti296:TyI Tryz.prog 296 1 false:=⟨by kernel_rfl,by kernel_rfl⟩
instance ti297:TyI Tryz.prog 297 1 false:=⟨by kernel_rfl,by kernel_rfl⟩
instance ti302:TyI Tryz.prog 302 1 false:=⟨by kernel_rfl,by kernel_rfl⟩
instance ti307:TyI Tryz.prog 307 1 false:=⟨by kernel_rfl,by kernel_rfl⟩
instance ti312:TyI Tryz.prog 312 1 false:=⟨by kernel_rfl,by kernel_rfl⟩
instance ti317:TyI Tryz.prog 317 1 false:=⟨by kernel_rfl,by kernel_rfl⟩
instance ti322:TyI Tryz.prog 322 1 false:=⟨by kernel_rfl,by kernel_rfl⟩
instance ti326:TyI Tryz.prog 326 1 false:=⟨by kernel_rfl,by kernel_rfl⟩
instance ti331:TyI Tryz.prog 331 1 false:=⟨by kernel_rfl,by kernel_rfl⟩
instance ti335:TyI Tryz.prog 335 1 false:=⟨by kernel_rfl,by kernel_rfl⟩
instance ti339:TyI Tryz.prog 339 1 false:=⟨by kernel_rfl,by kernel_rfl⟩
instance ti344:TyI Tryz.prog 344 1 false:=⟨by kernel_rfl,by kernel_rfl⟩
instance ti348:TyI Tryz.prog 348 1 false:=⟨by kernel_rfl,by kernel_rfl⟩
instance ti353:TyI Tryz.prog 353 1 false:=⟨by kernel_rfl,by kernel_rfl⟩
instance ti358:TyI Tryz.prog 358 1 false:=⟨by kernel_rfl,by kernel_rfl⟩
theorem el23:ElI Tryz.prog 23 1 24 false (.slice none 0 0):=⟨ti23,by kernel_rfl,by kernel_rfl⟩
theorem el37:ElI Tryz.prog 37 1 24 false (.slice none 0 0):=⟨ti37,by kernel_rfl,by kernel_rfl⟩
theorem el71:ElI Tryz.prog 71 1 24 false (.slice none 0 0):=⟨ti71,by kernel_rfl,by kernel_rfl⟩
theorem el113:ElI Tryz.prog 113 1 24 false (.slice none 0 0):=⟨ti113,by kernel_rfl,by kernel_rfl⟩
theorem el283:ElI Tryz.prog 283 1 24 false (.slice none 0 0):=⟨ti283,by kernel_rfl,by kernel_rfl⟩
theorem el291:ElI Tryz.prog 291 1 24 false (.slice none 0 0):=⟨ti291,by kernel_rfl,by kernel_rfl⟩
theorem el293:ElI Tryz.prog 293 1 24 false (.slice none 0 0):=⟨ti293,by kernel_rfl,by kernel_rfl⟩
theorem el296:ElI Tryz.prog 296 1 24 false (.slice none 0 0):=⟨ti296,by kernel_rfl,by kernel_rfl⟩
theorem el297:ElI Tryz.prog 297 1 24 false (.slice none 0 0):=⟨ti297,by kernel_rfl,by kernel_rfl⟩
theorem el302:ElI Tryz.prog 302 1 24 false (.slice none 0 0):=⟨ti302,by kernel_rfl,by kernel_rfl⟩
theorem el307:ElI Tryz.prog 307 1 24 false (.slice none 0 0):=⟨ti307,by kernel_rfl,by kernel_rfl⟩
theorem el312:ElI Tryz.prog 312 1 24 false (.slice none 0 0):=⟨ti312,by kernel_rfl,by kernel_rfl⟩
theorem el317:ElI Tryz.prog 317 1 24 false (.slice none 0 0):=⟨ti317,by kernel_rfl,by kernel_rfl⟩
theorem el322:ElI Tryz.prog 322 1 24 false (.slice none 0 0):=⟨ti322,by kernel_rfl,by kernel_rfl⟩
theorem el326:ElI Tryz.prog 326 1 24 false (.slice none 0 0):=⟨ti326,by kernel_rfl,by kernel_rfl⟩
theorem el331:ElI Tryz.prog 331 1 24 false (.slice none 0 0):=⟨ti331,by kernel_rfl,by kernel_rfl⟩
theorem el335:ElI Tryz.prog 335 1 24 false (.slice none 0 0):=⟨ti335,by kernel_rfl,by kernel_rfl⟩
theorem el339:ElI Tryz.prog 339 1 24 false (.slice none 0 0):=⟨ti339,by kernel_rfl,by kernel_rfl⟩
theorem el344:ElI Tryz.prog 344 1 24 false (.slice none 0 0):=⟨ti344,by kernel_rfl,by kernel_rfl⟩
theorem el348:ElI Tryz.prog 348 1 24 false (.slice none 0 0):=⟨ti348,by kernel_rfl,by kernel_rfl⟩
theorem el353:ElI Tryz.prog 353 1 24 false (.slice none 0 0):=⟨ti353,by kernel_rfl,by kernel_rfl⟩
theorem el358:ElI Tryz.prog 358 1 24 false (.slice none 0 0):=⟨ti358,by kernel_rfl,by kernel_rfl⟩
instance un77:UnI Tryz.prog 77 (.slice 23):=⟨underlying77⟩
instance un93:UnI Tryz.prog 93 (.slice 71):=⟨underlying93⟩
instance un122:UnI Tryz.prog 122 (.slice 113):=⟨underlying122⟩
instance un166:UnI Tryz.prog 166 (.slice 37):=⟨zho⟩
instance un167:UnI Tryz.prog 167 (.slice 291):=⟨underlying167⟩
instance un168:UnI Tryz.prog 168 (.slice 293):=⟨underlying168⟩
instance un169:UnI Tryz.prog 169 (.slice 283):=⟨underlying169⟩
instance un170:UnI Tryz.prog 170 (.slice 296):=⟨underlying170⟩
instance un171:UnI Tryz.prog 171 (.slice 297):=⟨underlying171⟩
instance un172:UnI Tryz.prog 172 (.slice 302):=⟨underlying172⟩
instance un173:UnI Tryz.prog 173 (.slice 307):=⟨underlying173⟩
instance un174:UnI Tryz.prog 174 (.slice 312):=⟨underlying174⟩
instance un175:UnI Tryz.prog 175 (.slice 317):=⟨underlying175⟩
instance un176:UnI Tryz.prog 176 (.slice 322):=⟨underlying176⟩
instance un177:UnI Tryz.prog 177 (.slice 326):=⟨underlying177⟩
instance un178:UnI Tryz.prog 178 (.slice 331):=⟨underlying178⟩
instance un179:UnI Tryz.prog 179 (.slice 335):=⟨underlying179⟩
instance un180:UnI Tryz.prog 180 (.slice 339):=⟨underlying180⟩
instance un181:UnI Tryz.prog 181 (.slice 344):=⟨underlying181⟩
instance un182:UnI Tryz.prog 182 (.slice 348):=⟨underlying182⟩
instance un183:UnI Tryz.prog 183 (.slice 353):=⟨underlying183⟩
instance un184:UnI Tryz.prog 184 (.slice 358):=⟨underlying184⟩
abbrev F0 (f:FuncId):Prop:=Ct Tryz.prog f [(tL 1 false (fun _:Nat=>tI 0) [])] (tB true)
abbrev F0i (f T E:Nat):Prop:=Tryz.prog.underlying T=some (.slice E)->ElI Tryz.prog E 1 24 false (.slice none 0 0)->F0 f
theorem f0s:F0i 230 166 37/\F0i 231 77 23/\F0i 232 167 291/\F0i 233 168 293/\F0i 234 169 283/\F0i 235 93 71/\F0i 236 170 296/\F0i 237 122 113/\F0i 238 133 51/\F0i 239 171 297/\F0i 240 172 302/\F0i 241 173 307/\F0i 242 174 312/\F0i 243 175 317/\F0i 244 176 322/\F0i 245 177 326/\F0i 246 178 331/\F0i 247 179 335/\F0i 248 180 339/\F0i 249 181 344/\F0i 250 182 348/\F0i 251 183 353/\F0i 252 184 358:=by
 refine ⟨fun hu he=>Ct.intro func230 rfl ntmps230 rfl ?_,fun hu he=>Ct.intro func231 rfl ntmps231 rfl ?_,fun hu he=>Ct.intro func232 rfl ntmps232 rfl ?_,fun hu he=>Ct.intro func233 rfl ntmps233 rfl ?_,fun hu he=>Ct.intro func234 rfl ntmps234 rfl ?_,fun hu he=>Ct.intro func235 rfl ntmps235 rfl ?_,fun hu he=>Ct.intro func236 rfl ntmps236 rfl ?_,fun hu he=>Ct.intro func237 rfl ntmps237 rfl ?_,fun hu he=>Ct.intro func238 rfl ntmps238 rfl ?_,fun hu he=>Ct.intro func239 rfl ntmps239 rfl ?_,fun hu he=>Ct.intro func240 rfl ntmps240 rfl ?_,fun hu he=>Ct.intro func241 rfl ntmps241 rfl ?_,fun hu he=>Ct.intro func242 rfl ntmps242 rfl ?_,fun hu he=>Ct.intro func243 rfl ntmps243 rfl ?_,fun hu he=>Ct.intro func244 rfl ntmps244 rfl ?_,fun hu he=>Ct.intro func245 rfl ntmps245 rfl ?_,fun hu he=>Ct.intro func246 rfl ntmps246 rfl ?_,fun hu he=>Ct.intro func247 rfl ntmps247 rfl ?_,fun hu he=>Ct.intro func248 rfl ntmps248 rfl ?_,fun hu he=>Ct.intro func249 rfl ntmps249 rfl ?_,fun hu he=>Ct.intro func250 rfl ntmps250 rfl ?_,fun hu he=>Ct.intro func251 rfl ntmps251 rfl ?_,fun hu he=>Ct.intro func252 rfl ntmps252 rfl ?_⟩ <;> (intro w F;refine A9 ?_;refine A3 ?_;refine yp0 ?_;refine A9 ?_;refine xw4 rfl (zbf (by decide)) ?_;refine A9 ?_;refine R2 (wc5 (f:=fun _:Nat=>(tL 1 false (fun _:Nat=>tI 0) [])) (y0:=0) 0 0 hu he (fun _ _=>⟨none,0,rfl,zbs _,by decide,.inl rfl⟩) inferInstance rfl rfl rfl (zbs _) (by decide) (by decide) rfl) rfl rfl ?_;refine A9 ?_;refine A1 ?_;refine yp0 ?_;refine A9 ?_;refine xw4 rfl (zbf (by decide)) ?_;refine A9 ?_;refine A3 ?_;refine yp0 ?_;refine A9 ?_;refine xw4 rfl (zbf (by decide)) ?_;refine A9 ?_;refine A3 ?_;refine yp0 ?_;refine A9 ?_;refine xw4 rfl (zbf (by decide)) ?_;refine A9 ?_;refine A3 ?_;refine yp0 ?_;refine A9 ?_;refine xw4 rfl (zbf (by decide)) ?_;refine A9 ?_;refine A2 ?_;exact zv8 Plain.mk' rfl rfl zao)
theorem qf5:F0 231:=f0s.2.1 underlying77 el23
theorem zr6:F0 232:=f0s.2.2.1 underlying167 el291
theorem zs1:F0 233:=f0s.2.2.2.1 underlying168 el293
theorem zp7:F0 234:=f0s.2.2.2.2.1 underlying169 el283
theorem qc0:F0 235:=f0s.2.2.2.2.2.1 underlying93 el71
theorem zp6:F0 236:=f0s.2.2.2.2.2.2.1 underlying170 el296
theorem qb9:F0 237:=f0s.2.2.2.2.2.2.2.1 underlying122 el113
theorem zr4:F0 239:=f0s.2.2.2.2.2.2.2.2.2.1 underlying171 el297
theorem qd8:F0 240:=f0s.2.2.2.2.2.2.2.2.2.2.1 underlying172 el302
theorem zp9:F0 241:=f0s.2.2.2.2.2.2.2.2.2.2.2.1 underlying173 el307
theorem q7:F0 242:=f0s.2.2.2.2.2.2.2.2.2.2.2.2.1 underlying174 el312
theorem zf6:F0 243:=f0s.2.2.2.2.2.2.2.2.2.2.2.2.2.1 underlying175 el317
theorem qe2:F0 244:=f0s.2.2.2.2.2.2.2.2.2.2.2.2.2.2.1 underlying176 el322
theorem qc7:F0 245:=f0s.2.2.2.2.2.2.2.2.2.2.2.2.2.2.2.1 underlying177 el326
theorem zb8:F0 246:=f0s.2.2.2.2.2.2.2.2.2.2.2.2.2.2.2.2.1 underlying178 el331
theorem zp4:F0 247:=f0s.2.2.2.2.2.2.2.2.2.2.2.2.2.2.2.2.2.1 underlying179 el335
theorem zp8:F0 248:=f0s.2.2.2.2.2.2.2.2.2.2.2.2.2.2.2.2.2.2.1 underlying180 el339
theorem zh7:F0 249:=f0s.2.2.2.2.2.2.2.2.2.2.2.2.2.2.2.2.2.2.2.1 underlying181 el344
theorem zr8:F0 250:=f0s.2.2.2.2.2.2.2.2.2.2.2.2.2.2.2.2.2.2.2.2.1 underlying182 el348
theorem zi3:F0 251:=f0s.2.2.2.2.2.2.2.2.2.2.2.2.2.2.2.2.2.2.2.2.2.1 underlying183 el353
theorem zp5:F0 252:=f0s.2.2.2.2.2.2.2.2.2.2.2.2.2.2.2.2.2.2.2.2.2.2 underlying184 el358
end An.S
namespace An
open Go
def poolK (n:Nat) (R:Nat->HEnt):Keys:=fun q=>cond (Nat.ble 100 q && Nat.blt q (100+n)) (some (R (q - 100))) none
def poolL (n:Nat) (R:Nat->HEnt):List (Nat×HEnt):=(List.range n).map fun j=>(j+100,R j)
def owns (n es:Nat) (len:Nat->Nat):List Ent:=(List.range n).map fun j=> .own (.sl (j+100) es 0 (len j))
theorem yf6 {n k:Nat} {R:Nat->HEnt} (h:k < n):poolK n R (k+100)=some (R k):=by
 have h1:Nat.ble 100 (k+100)=true:=Nat.ble_eq_true_of_le (by omega);have h2:Nat.blt (k+100) (100+n)=true:=by simp [Nat.blt];omega
 simp [poolK,h1,h2]
theorem ya9 {n q:Nat} {R:Nat->HEnt} {x:HEnt} (h:poolK n R q=some x): ∃k,k < n/\q=k+100/\x=R k:=by
 simp only [poolK] at h;cases hc:(Nat.ble 100 q && Nat.blt q (100+n)) with
 | false=>rw [hc] at h;cases h
 | true=>
  rw [hc] at h;cases h;simp only [zcg,Nat.ble_eq,Nat.blt_eq] at hc;exact ⟨q - 100,by omega,by omega,rfl⟩
theorem ym6 {n q:Nat} {R:Nat->HEnt} (h: ∀k,k < n->q≠k+100):poolK n R q=none:=by
 cases hc:poolK n R q with
 | none=>rfl
 | some x=>obtain ⟨k,h1,h2,_⟩:=ya9 hc;exact absurd h2 (h k h1)
theorem xz6 {n es k:Nat} {len:Nat->Nat} (h:k < n):(owns n es len)[k]? =some (.own (.sl (k+100) es 0 (len k))):=by
 simp [owns,List.getElem?_map,List.getElem?_range h]
theorem zs3 {n es:Nat} {len:Nat->Nat}:(owns n es len).length=n:=by simp [owns]
theorem yp2 {n es k:Nat} {len:Nat->Nat} (h:k∈(owns n es len).flatMap Ent.supp): ∃j,j < n/\k=j+100:=by
 simp only [owns,zbz,zcp,zdp] at h;obtain ⟨e,⟨j,hj,rfl⟩,hk⟩:=h;simp only [Ent.supp,VP.supp,zbj] at hk;exact ⟨j,hj,hk⟩
theorem qm2 {α:Type} {f:α->Ty} {xs:List α} {k:Nat} (h:k∈(rV f xs).flatMap Ent.supp):False:=by
 simp only [rV,zbz,zcp] at h;obtain ⟨e,⟨x,_,rfl⟩,hk⟩:=h;cases hk
theorem zb1 {H:List (Nat×HEnt)} {k:Nat} {x:HEnt} (hx:(k,x)∈H) (hu: ∀y,(k,y)∈H->y=x):keysOf H k=some x:=by
 have key: ∀(l:List (Nat×HEnt)) (h:Keys),(∀y,h k=some y->y=x)->(∀y,(k,y)∈l->y=x)->((k,x)∈l∨h k=some x)->updK h (l.map fun x=>(x.1,some x.2)) k=some x:=by
  intro l
  induction l with
  | nil=>intro h _ _ h2;rcases h2 with h2 | h2;cases h2;exact h2
  | cons y r ih=>
   intro h h0 h1 h2;refine ih _ (fun z hz=> ?_) (fun z hz=>h1 z (zcd _ hz)) ?_
   ·by_cases hk:k=y.1
    ·rw [hk,xa9] at hz;cases hz;exact h1 _ (by rw [hk];simp)
    ·rw [xa4 _ _ _ hk] at hz;exact h0 z hz
   ·rcases h2 with h2 | h2
    ·rcases zbr.1 h2 with rfl | h2
     ·exact .inr (xa9 _ _ _)
     ·exact .inl h2
    ·by_cases hk:k=y.1
     ·have:y.2=x:=h1 _ (by rw [hk];simp);exact .inr (by show upd h y.1 (some y.2) k=some x;rw [hk,xa9,this])
     ·exact .inr (by show upd h y.1 (some y.2) k=some x;rw [xa4 _ _ _ hk];exact h2)
 exact key H _ (fun _ h=>by cases h) hu (.inl hx)
theorem ye7 {n k:Nat} {R:Nat->HEnt} {x:HEnt} (h:(k,x)∈poolL n R): ∃j,j < n/\k=j+100/\x=R j:=by
 simp only [poolL,zcp,zdp,Prod.mk.injEq] at h;obtain ⟨j,hj,h1,h2⟩:=h;exact ⟨j,hj,h1.symm,h2.symm⟩
theorem yv2 {n:Nat} {R:Nat->HEnt} {X:HEnt}:SubK (upd (poolK n R) 20 (some X)) (keysOf ((20,X)::poolL n R)):=fun q x hx=>by
 by_cases hq:q=20
 ·subst hq;rw [xa9] at hx;cases hx;exact ⟨_,zb1 (by simp) (fun y hy=>by
   rcases zbr.1 hy with hy | hy
   ·cases hy;rfl
   ·obtain ⟨j,_,h2,_⟩:=ye7 hy;omega),rfl,.refl⟩
 ·rw [xa4 _ _ _ hq] at hx;obtain ⟨k,h1,rfl,rfl⟩:=ya9 hx;refine ⟨_,zb1 (x:=R k) (zcd _ ?_) (fun y hy=> ?_),rfl,.refl⟩
  ·simp only [poolL,zcp,zdp];exact ⟨k,h1,rfl⟩
  ·rcases zbr.1 hy with hy | hy
   ·exact absurd (Prod.ext_iff.1 hy).1 hq
   ·obtain ⟨j,_,h2,rfl⟩:=ye7 hy;have:j=k:=by omega
    rw [this]
def poolN (n:Nat):List Nat:=20::(List.range n).map (· +100)
theorem jb8 {n k:Nat} (h:k∈poolN n):k=20∨ ∃j,j < n/\k=j+100:=by
 simp only [poolN,zbr,zcp,zdp] at h;rcases h with h | ⟨j,hj,h⟩
 ·exact .inl h
 ·exact .inr ⟨j,hj,h.symm⟩
def alP (b:Bool) (m:Nat):Names:=fun q=>Nat.beq q 20 || (b && Nat.beq q 21) || (Nat.ble 100 q && Nat.blt q m)
theorem yb1 {b:Bool} {m q:Nat} (h1:100<=q) (h2:q < m):alP b m q=true:=by
 simp [alP,Nat.ble_eq_true_of_le h1,Nat.blt];right;omega
theorem zg4 {b:Bool} {m:Nat} (h:100<=m):alP b m m=false:=by
 have nb: ∀k,m≠k->Nat.beq m k=false:=fun k hk=>by
  cases hb:Nat.beq m k with
  | false=>rfl
  | true=>exact absurd (zdv hb) hk
 have h3:Nat.blt m m=false:=by
  cases hb:Nat.blt m m with
  | false=>rfl
  | true=>exact absurd (zdq hb) (Nat.lt_irrefl m)
 simp [alP,nb 20 (by omega),nb 21 (by omega),h3]
theorem lkP {b:Bool} {N n m:Nat} {w:World} {F:Dom} {η:Env} {H:List (Nat×HEnt)} (h:n+100<=m):LkOk (Base.lent N w F η (poolN n) H) (alP b m):=
 ⟨fun k hk=>by
  rcases jb8 hk with rfl | ⟨j,hj,rfl⟩
  ·rfl
  ·exact yb1 (by omega) (by omega),fun k hk=>by cases hk⟩
theorem supP {b:Bool} {n m:Nat} {R:Nat->HEnt} {T es:Nat} {len:Nat->Nat} (h:n+100<=m) (hR: ∀k,k < n->(R k).supp=[]):SupH (upd (poolK n R) 20 (some ⟨T,1,false,owns n es len⟩)) (alP b m):=fun q x hx=>by
 by_cases hq:q=20
 ·subst hq;rw [xa9] at hx;cases hx;exact ⟨rfl,fun j hj=>by obtain ⟨i,hi,rfl⟩:=yp2 hj;exact yb1 (by omega) (by omega)⟩
 ·rw [xa4 _ _ _ hq] at hx;obtain ⟨k,h1,rfl,rfl⟩:=ya9 hx;exact ⟨yb1 (by omega) (by omega),fun j hj=>by rw [hR k h1] at hj;cases hj⟩
section
variable {α:Type} (L:Nat->List α) (m:Nat->Nat->α) (d:α)
def cM (k i j:Nat):List α:=(List.range (L j).length).map fun t=>if j < k∨(j=k/\t < i) then m j t else (L j).getD t d
def mkL (j n:Nat):List α:=(List.range n).map (m j)
variable {L m d}
theorem ze2 {k i j:Nat}:(cM L m d k i j).length=(L j).length:=by simp [cM]
theorem yb9 {j n:Nat}:(mkL m j n).length=n:=by simp [mkL]
theorem cM_0 {j:Nat}:cM L m d 0 0 j=L j:=by
 apply zfk;intro t;rw [cM,zbu];rcases zcx t (L j).length with h | h
 ·rw [zfd h];simp [List.getD_eq_getElem?_getD,List.getElem?_eq_getElem h]
 ·rw [zct (by simpa using h),zct h];rfl
theorem qv7 {k i:Nat} (hi:i < (L k).length):(cM L m d k i k).set i (m k i)=cM L m d k (i+1) k:=by
 apply zfk;intro t;rw [zgf];rcases zcx t (L k).length with h | h
 ·simp only [cM,zbu,zfd h,zcq,List.length_range,zeb];by_cases hit:i=t
  ·subst hit;simp [h]
  ·rw [if_neg hit];by_cases h1:t < i
   ·simp [h1,show t < i+1 by omega]
   ·simp [h1,show ¬t < i+1 by omega]
 ·rw [if_neg (by omega),zct (by rw [ze2];exact h),zct (by rw [ze2];exact h)]
theorem j9 {k i j:Nat} (h:j≠k):cM L m d k (i+1) j=cM L m d k i j:=by
 simp only [cM]
 congr 1;funext t
 by_cases h1:j < k
 ·rw [if_pos (.inl h1),if_pos (.inl h1)]
 ·rw [if_neg (by omega),if_neg (by omega)]
theorem qn9 {k j:Nat}:cM L m d (k+1) 0 j=cM L m d k (L k).length j:=by
 apply zgh;intro t ht;rw [zdp] at ht;by_cases h1:j < k
 ·rw [if_pos (.inl (by omega)),if_pos (.inl h1)]
 ·by_cases h2:j=k
  ·subst h2;rw [if_pos (.inl (by omega)),if_pos (.inr ⟨rfl,ht⟩)]
  ·rw [if_neg (by omega),if_neg (by omega)]
theorem zc3 {k j:Nat} (h:j < k):cM L m d k 0 j=mkL m j (L j).length:=by
 simp only [cM,mkL]
 congr 1;funext t
 rw [if_pos (.inl h)]
theorem zs7 {j n:Nat}:mkL m j n++[m j n]=mkL m j (n+1):=by simp [mkL,List.range_succ]
theorem xp4 {j n t:Nat} (h:t < n):(mkL m j n)[t]? =some (m j t):=by simp [mkL,List.getElem?_map,List.getElem?_range h]
theorem qk5 {j n k:Nat} (h:k<=n): ∀(t:Nat) (x:α),(mkL m j k)[t]? =some x->(mkL m j n)[t]? =some x:=fun t x hx=>by
 have ht:t < k:=by have:=(zbn.1 hx).1;rwa [yb9] at this
 rw [xp4 ht] at hx;rw [xp4 (by omega),hx]
end
def pileK (κ:Nat->Nat) (R:Nat->HEnt):Nat->Keys->Keys
 | 0,h=>h
 | k+1,h=>upd (pileK κ R k h) (κ k) (some (R k))
theorem xw8 {κ:Nat->Nat} {R:Nat->HEnt} {h:Keys} {q:Nat}: ∀{k:Nat},(∀j,j < k->q≠κ j)->pileK κ R k h q=h q
 | 0,_=>rfl
 | k+1,H=>by rw [pileK,xa4 _ _ _ (H k (by omega)),xw8 fun j hj=>H j (by omega)]
theorem xq7 {κ:Nat->Nat} {R:Nat->HEnt} {h:Keys} {j:Nat}: ∀{k:Nat},(∀i,i < k->i≠j->κ j≠κ i)->j < k->pileK κ R k h (κ j)=some (R j)
 | k+1,H,hj=>by
  by_cases hjk:j=k
  ·subst hjk;exact xa9 _ _ _
  ·rw [pileK,xa4 _ _ _ (H k (by omega) (by omega))];exact xq7 (fun i hi=>H i (by omega)) (by omega)
theorem yi4 {κ:Nat->Nat} {R:Nat->HEnt} {h:Keys} {q:Nat} {x:HEnt}: ∀{k:Nat},pileK κ R k h q=some x->(∃j,j < k/\q=κ j/\x=R j)∨h q=some x
 | 0,H=> .inr H
 | k+1,H=>by
  by_cases hq:q=κ k
  ·subst hq;rw [pileK,xa9] at H;cases H;exact .inl ⟨k,by omega,rfl,rfl⟩
  ·rw [pileK,xa4 _ _ _ hq] at H;rcases yi4 H with ⟨j,h1,h2⟩ | h1
   ·exact .inl ⟨j,by omega,h2⟩
   ·exact .inr h1
theorem yg0 {κ κ':Nat->Nat} {R:Nat->HEnt} {h:Keys}: ∀{k:Nat},(∀j,j < k->κ' j=κ j)->pileK κ' R k h=pileK κ R k h
 | 0,_=>rfl
 | k+1,H=>by rw [pileK,pileK,yg0 fun j hj=>H j (by omega),H k (by omega)]
theorem yh9 {κ:Nat->Nat} {R:Nat->HEnt} {h h':Keys} {q:Nat} (H:h' q=h q): ∀{k:Nat},pileK κ R k h' q=pileK κ R k h q
 | 0=>H
 | k+1=>by
  by_cases hq:q=κ k
  ·subst hq;rw [pileK,pileK,xa9,xa9]
  ·rw [pileK,pileK,xa4 _ _ _ hq,xa4 _ _ _ hq,yh9 H]
theorem SubK.eq {h h':Keys} (H: ∀q x,h' q=some x->h q=some x):SubK h' h:=fun q x hx=>⟨x,H q x hx,rfl,.refl⟩
def setN (κ:Nat->Nat) (k v:Nat):Nat->Nat:=fun j=>if j=k then v else κ j
theorem ye9 {κ:Nat->Nat} {k v:Nat}:setN κ k v k=v:=if_pos rfl
theorem yc4 {κ:Nat->Nat} {k v j:Nat} (h:j≠k):setN κ k v j=κ j:=if_neg h
def okN (k x:Nat):Prop:=x=k+100∨(2000+64*k<=x/\x < 2064+64*k)
theorem okN.lt {k x m:Nat} (h:okN k x) (hk:k<=900) (hm:2064+64*k<=m):100<=x/\x < m:=by rcases h with h | h <;> omega
theorem okN.ne {k j x y:Nat} (h:okN k x) (h':okN j y) (hk:k<=900) (hj:j<=900) (hne:k≠j):x≠y:=by rcases h with h | h <;> rcases h' with h' | h' <;> omega
theorem SubK.over {h:Keys} {v q:Nat} {r r':HEnt} (H: ∀y,h q=some y->r.T=y.T/\ImpK r y):SubK (upd h v (some r')) (upd (upd h q (some r)) v (some r')):=fun t x hx=>by
 by_cases htv:t=v
 ·subst htv;rw [xa9] at hx ⊢;exact ⟨_,rfl,by cases hx;rfl,by cases hx;exact .refl⟩
 ·rw [xa4 _ _ _ htv] at hx ⊢;by_cases htq:t=q
  ·subst htq;rw [xa9];exact ⟨r,rfl,H x hx⟩
  ·rw [xa4 _ _ _ htq];exact ⟨x,hx,rfl,.refl⟩
def gsR (n es:Nat) (κ len:Nat->Nat) (t0:Nat->Ent) (k:Nat):List Ent:=(List.range n).map fun j=>if j < k then .own (.sl (κ j) es 0 (len j)) else t0 j
section
variable {n es k:Nat} {κ len:Nat->Nat} {t0:Nat->Ent}
theorem xm5:(gsR n es κ len t0 k).length=n:=by simp [gsR]
theorem xn0 {j:Nat} (hj:j < n) (hk:j < k):(gsR n es κ len t0 k)[j]? =some (.own (.sl (κ j) es 0 (len j))):=by
 simp [gsR,List.getElem?_map,List.getElem?_range hj,hk]
theorem qo8 {e:Ent}:List.replicate n e=gsR n es κ len (fun _=>e) 0:=by
 apply zfk;intro t;rw [gsR,zbu];rcases zcx t n with h | h
 ·rw [zfd h,zgc,if_pos h];simp
 ·rw [zct (by simpa using h),zct (by simpa using h)];rfl
theorem yt8 {v:Nat} (hk:k < n):(gsR n es κ len t0 k).set k (.own (.sl v es 0 (len k)))=gsR n es (setN κ k v) len t0 (k+1):=by
 apply zfk;intro t;rw [zgf];rcases zcx t n with h | h
 ·simp only [gsR,zbu,zfd h,zcq,List.length_range,zeb];by_cases hit:k=t
  ·subst hit;simp [h,setN]
  ·rw [if_neg hit];by_cases h1:t < k
   ·simp [h1,show t < k+1 by omega,yc4 (κ:=κ) (v:=v) (show t≠k by omega)]
   ·simp [h1,show ¬t < k+1 by omega]
 ·rw [if_neg (by omega),zct (by rw [xm5];exact h),zct (by rw [xm5];exact h)]
theorem yn9 {q:Nat} (h:q∈(gsR n es κ len t0 k).flatMap Ent.supp):(∃j,j < n/\j < k/\q=κ j)∨ ∃j,j < n/\q∈(t0 j).supp:=by
 simp only [gsR,zbz,zcp,zdp] at h;obtain ⟨e,⟨j,hj,rfl⟩,hk⟩:=h;by_cases hjk:j < k
 ·rw [if_pos hjk] at hk;simp only [Ent.supp,VP.supp,zbj] at hk;exact .inl ⟨j,hj,hjk,hk⟩
 ·rw [if_neg hjk] at hk;exact .inr ⟨j,hj,hk⟩
end
section
variable {P:Program} {c:Base} {g:Slots} {h:Keys} {al:Names} {a:Act} {w:World} {η:Env}
theorem St'.giveL (s:St' c g h al a w η) {k:Nat} {T es off len:Nat} {agg:Bool} {ts:List Ent} {α:Type} {f:α->Ty} {xs:List α} (hk:h k=some ⟨T,es,agg,ts⟩) (hlb:0 < η.c k-> ¬c.lb (η.b k))
  (hts:(ts.drop off).take len=xs.map fun x=> .val (f x)) (hl:xs.length=len) {v:Value} (hv:(Ent.own (.sl k es off len)).sat (c.dom h η) w η v):(tL es agg f xs).p (c.dom (upd h k none) η) w v:=by
 subst hl;obtain ⟨A,h1,h2,h3⟩:=hv;obtain ⟨h4,h5,⟨h6,h7,h8,h9,h10⟩,h11⟩:=s.key k _ hk;simp only at h7 h8 h9 h10;refine ⟨A,_,h1,by omega,by omega,?_⟩;rcases zcf xs.length with h0 | h0
 ·exact .inl (zdw h0)
 ·have hc:0 < η.c k:=by omega
  obtain ⟨cs,e1,e2,e3⟩:=h10 hc;obtain ⟨d1,d2,d3⟩:=h11 hc;have d1:c.w0.heap.size<=η.b k:=d1.resolve_right (hlb hc);refine .inr ⟨η.b k,off*es,h3 (by omega),⟨.inl d1,?_,d2,d3⟩,fun i x hi=> ?_⟩
  ·rintro ⟨j,y,hj,hcj,e⟩;by_cases hjk:j=k
   ·subst hjk;rw [xa9] at hj;cases hj
   ·rw [xa4 _ _ _ hjk] at hj;exact s.inj j k y _ hj hk hjk hcj hc e.symm
  ·have hil:i < xs.length:=(zbn.1 hi).1;have he:=e3 (off+i) _ (yt0 hts i x hi);have hle:off*es+i*es+es<=cs.size:=by
    rw [e2,<-zcn,<-zdh];exact zbt _ (by omega)
   refine ⟨_,⟨cs,_,_,e1,hle,h7,h8,rfl⟩,?_⟩;rw [<-zcn];exact (f x).mono he (Keep.drop k)
theorem qn4 {Q:Exit->Act->World->Prop} {x:Code} {t k T es off len:Nat} {agg:Bool} {ts:List Ent} {α:Type} {f:α->Ty} {xs:List α} (hg:g t=some (.own (.sl k es off len))) (hk:h k=some ⟨T,es,agg,ts⟩)
  (hlb: ∀b,c.lb b-> ∃j y,j∈c.ln/\j≠k/\h j=some y/\0 < c.lη.c j/\b=c.lη.b j)
  (hts:(ts.drop off).take len=xs.map fun x=> .val (f x)) (hl:xs.length=len) (H:wc P c x Q (upd g t (some (.val (tL es agg f xs)))) (upd h k none) al):wc P c x Q g h al:=fun a w ⟨η,s⟩=>by
 have h2:=s.giveL hk (fun hc hb=>by
  obtain ⟨j,y,h1,h2,h3,h4,h5⟩:=hlb _ hb;obtain ⟨_,e1,e2⟩:=s.lk j h1;exact s.inj j k y _ h3 hk h2 (by rw [e2];exact h4) hc (by rw [e1,<-h5])) hts hl (s.slot t _ hg).2.2
 have s2:=(s.drop k).put (s.slot t _ hg).1 (e:= .val (tL es agg f xs)) h2 fun j hj=>by cases hj
 refine H a w ⟨η,?_⟩;have e:a.put (some t) (a.tmps.getD t undef)=a:=by
  have hlt:t < a.tmps.size:=by rw [s.tn];exact (s.slot t _ hg).1
  have:a.tmps.setIfInBounds t (a.tmps.getD t undef)=a.tmps:=by
   apply zds;intro i;rw [zew];by_cases hi:t=i
   ·subst hi;simp [hlt]
   ·simp [hi]
  simp only [Act.put,this]
 rwa [e] at s2
end
end An
namespace An.S
open Go Go.Proofs An Tryz
def mSn (k i:Nat):Sn:=⟨1000003*((k:Int)+7)+(i:Int),0⟩
theorem yd5 (k i:Nat) (hk:k < 2000) (hi:i < 10000000):
  Ct Tryz.prog 146 [tI k,tI i] (tI (1000003*((k:Int)+7)+(i:Int))):=by
 refine Ct.intro func146 rfl ntmps146 rfl ?_;intro w F;refine A9 ?_;refine R2 (xi2 zah) rfl rfl ?_;refine A6 ?_;exact E1 rfl rfl zao
theorem yw8 {l:List Nat}: ∀{H:List (Nat×HEnt)},(∀x∈H,memN x.1 l=true/\SupX x.2.ts l)->SupHs H l
 | [],_=>trivial
 | x::r,h=>⟨h x (by simp),yw8 fun y hy=>h y (zcd _ hy)⟩
abbrev rS (xs:List Sn):HEnt:=⟨119,2,true,rV tSn xs⟩
abbrev hP (n:Nat) (L M:Nat->List Sn):Keys:=upd (poolK n fun j=>rS (M j)) 20 (some ⟨113,1,false,owns n 2 fun j=>(L j).length⟩)
abbrev tN0:Nat->Ent:=fun _=> .val (tL 2 true tSn ([]:List Sn))
abbrev hB (n:Nat) (L:Nat->List Sn) (κ:Nat->Nat) (k:Nat):Keys:=upd (hP n L (cM L mSn sn0 n 0)) 21 (some ⟨113,1,false,gsR n 2 κ (fun j=>(L j).length+64) tN0 k⟩)
abbrev hQ (n:Nat) (L:Nat->List Sn) (κ:Nat->Nat) (k:Nat):Keys:=pileK κ (fun j=>rS (mkL mSn j ((L j).length+64))) k (hB n L κ k)
section
variable {n k:Nat} {L:Nat->List Sn} {κ:Nat->Nat}
theorem ys2 {v:Nat} (hκ: ∀j,j < k->okN j (κ j)) (hv:v=k+100∨2000+64*k<=v/\v < 2000+64*k+64): ∀j,j < k+1->okN j (setN κ k v j):=fun j hj=>by
 by_cases h:j=k
 ·subst h;rw [ye9];rcases hv with h | h;exact .inl h;exact .inr ⟨h.1,by omega⟩
 ·rw [yc4 h];exact hκ j (by omega)
def okM (n k x:Nat):Prop:=x=k+100∨x=2000+64*n+k
theorem okM.ne {k j x y:Nat} (h:okM n k x) (h':okM n j y) (hk:k<=900) (hj:j<=900) (hne:k≠j):x≠y:=by rcases h with h | h <;> rcases h' with h' | h' <;> omega
abbrev tK (L:Nat->List Sn) (κ:Nat->Nat):Nat->Ent:=fun j=> .own (.sl (κ j) 2 0 ((L j).length+64))
abbrev rM (n:Nat) (L:Nat->List Sn) (j:Nat):HEnt:=rS (mkL mSn j (L j).length++mkL mSn (j+n) 64)
abbrev hC (n:Nat) (L:Nat->List Sn) (κ κ2:Nat->Nat) (k:Nat):Keys:=upd (hP n L (fun j=>mkL mSn j (L j).length)) 21 (some ⟨113,1,false,gsR n 2 κ2 (fun j=>(L j).length+64) (tK L κ) k⟩)
abbrev hR (n:Nat) (L:Nat->List Sn) (κ κ2:Nat->Nat) (k:Nat):Keys:=pileK κ2 (rM n L) k (hC n L κ κ2 k)
variable {κ2:Nat->Nat}
def alM (m:Nat):Names:=fun q=>Nat.beq q 22 || alP true m q
theorem qu5 {m:Nat}:alP true m 22=false:=rfl
theorem qp6 {m:Nat} (h:100<=m):alM m m=false:=by
 have:Nat.beq m 22=false:=by
  cases hb:Nat.beq m 22 with
  | false=>rfl
  | true=>have:=zdv hb;omega
 simp [alM,this,zg4 h]
theorem yd6 {m q:Nat} (h:alP true m q=true):alM m q=true:=by simp [alM,h]
theorem ze7 {m:Nat} {c:Base} (h:LkOk c (alP true m)):LkOk c (alM m):=⟨fun k hk=>yd6 (h.ln k hk),fun k hk=>yd6 (h.yk k hk)⟩
theorem SubK.twice {h:Keys} {v:Nat} {r:Option HEnt} {r':HEnt}:SubK (upd h v (some r')) (upd (upd h v r) v (some r')):= .eq fun t x hx=>by
 by_cases ht:t=v
 ·subst ht;rw [xa9] at hx ⊢;exact hx
 ·rw [xa4 _ _ _ ht] at hx ⊢;rw [xa4 _ _ _ ht];exact hx
theorem yt3 {v:Nat} (hκ: ∀j,j < k->okM n j (κ2 j)) (hv:okM n k v): ∀j,j < k+1->okM n j (setN κ2 k v j):=fun j hj=>by
 by_cases h:j=k
 ·subst h;rw [ye9];exact hv
 ·rw [yc4 h];exact hκ j (by omega)
end
def sel3 {α:Type} (a b c:α):Nat->α
 | 0=>a
 | 1=>b
 | _=>c
end An.S
namespace An
open Go
section
variable {P:Program} {g:Slots} {h:Keys} {al:Names} {Q:Exit->Act->World->Prop}
abbrev ovb (N:Nat) (w0:World) (F:Dom) (K:Nat) (X:OvJ):Base:=Base.over N w0 F ⟨fun _=>0,fun _=>0,fun _=>False⟩ [] [] K X
theorem RBase.ov {N:Nat} {w0:World} {F:Dom} {K:Nat} {X:OvJ} (h: ∀b,X.D b->w0.heap.size<=b):RBase (ovb N w0 F K X) w0:=⟨Ext.refl w0,fun _ ⟨_,hx,_⟩=>(by cases hx),h⟩
theorem C_lent {N:Nat} {w0:World} {F:Dom} {x:Code} (K T s:Nat) {W:Ty} {g':Value->Slots} {h':Keys} (hs:g s=some (.val (tG (up w0.heap.size) W))) (hK:al K=false)
  (hg: ∀(a:Act) (L:Dom),(∀b,L b->w0.heap.size<=b)->SlC (fun b=> ¬L b) a g (g' (a.tmps.getD s undef)))
  (hh: ∀(w:World) (η:Env) (L:Dom),(∀b,L b->w0.heap.size<=b)->KyC (fun b=> ¬L b) w η h h')
  (H: ∀(L:Dom) (w1:World) (v:Value),W.p L w1 v->(∀b,L b->b < w1.heap.size)->(∀b,L b->w0.heap.size<=b)->wc P (ovb N w0 F K (XL T L w1)) x Q (g' v) (upd h' K (some ⟨0,1,false,[]⟩)) (fun j=>al j || Nat.beq j K)):
  wc P (Base.plain N w0 F) x Q g h al:=by
 refine C_at fun a w hs'=> ?_;obtain ⟨η,st⟩:=hs';have hv:=st.slotv hs;exact ⟨ovb N w0 F K (XL T (fun b=>(b < w.heap.size/\ ¬Own h η b)/\up w0.heap.size b) w),g' (a.tmps.getD s undef),_,_,rfl,st.over K (XL T (fun b=>(b < w.heap.size/\ ¬Own h η b)/\up w0.heap.size b) w) (fun b hb=>⟨hb.2,hb.1.1,hb.1.2⟩) ⟨fun _ b _=>rfl,fun h=>(by cases h),fun b hb=>hb.1.1⟩ hK (hg a _ fun b hb=>hb.2) (hh w η _ fun b hb=>hb.2),H _ w _ hv (fun b hb=>hb.1.1) fun b hb=>hb.2⟩
end
theorem yq9 {n:Nat} {L:Dom} {t:Ty} (h: ∀b,L b->n<=b):Le (tG (fun b=>b < n) t) (tG (fun b=> ¬L b) t):=je3 fun b hb hl=>by have:=h b hl;omega
theorem js7 {T:Nat} {L F:Dom} {w1 w:World} {W:Ty} {v:Value} (hW:W.p L w1 v) (hJ:(XL T L w1).J 0 w):W.p (fun b=>F b∨L b) w v:=W.mono hW fun b _ hb hl _=>⟨.inr hb,(hJ.1 rfl b hb).trans hl⟩
def HandL (T:Nat) (L:Dom) (w1:World):List Ty->List Ty->Prop
 | [],[]=>True
 | t::r,u::s=>(Le t u∨ ∃v,t=tE v/\u.p L w1 v)/\HandL T L w1 r s
 | _,_=>False
theorem HandL.all {T:Nat} {L F:Dom} {w1 w:World} (hJ:(XL T L w1).J 0 w): ∀{ts us:List Ty} {vs:List Value},HandL T L w1 ts us->Tup.all F w ts vs->Tup.all (fun b=>F b∨L b) w us vs
 | [],[],[],_,_=>trivial
 | t::r,u::s,v::vs,h,hv=>by
  refine ⟨?_,HandL.all hJ h.2 hv.2⟩;rcases h.1 with h1 | ⟨v',rfl,h2⟩
  ·exact u.mono (h1 _ _ _ hv.1) fun b _ hb hl _=>⟨.inl hb,hl⟩
  ·have e:v=v':=hv.1;subst e;exact js7 h2 hJ
 | [],[],_::_,_,hv=>hv.elim
 | _::_,_::_,[],_,hv=>hv.elim
 | [],_::_,_,h,_=>h.elim
 | _::_,[],_,h,_=>h.elim
section
variable {P:Program} {c:Base} {d ty:Nat} {pos:String} {af:Array Edge} {gd:Option (Nat×Bool)}
theorem yd7 {T K:Nat} {L:Dom} {w1:World} {f:FuncId} {xs:List Operand} {aT:Array TypeId} {us us':List Ty} {rr:Nat->Ty} {r:Ty} {w0:World} {η0:Env} {H:List (Nat×HEnt)} (hp:OvC c w0 η0 H K (XL T L w1)) (hc:CtN P f us rr) (hf:FnI P f) (hr: ∀m F w v,(rr m).p F w v->r.p (fun b=>F b/\m<=b) w v)
  (ha:HandL T L w1 us' us) (hl:xs.length=us'.length):
  Does P c ⟨some d,.call {callee:= .value (.func f),args:=xs.toArray,argTypes:=aT},ty,pos,af,gd⟩ ⟨xs.zip (us'.map Ent.val),[(K,⟨0,1,false,[]⟩)],some (d,some (.val r)),[],[]⟩:=
 qj6 hp hc hf hr (fun _ _ _ hJ hv=>HandL.all hJ ha hv) hl
end
theorem hrE {rr:Nat->Ty} {u:Value} (h: ∀m,rr m=tE u) (m:Nat) (F:Dom) (w:World) (v:Value) (hp:(rr m).p F w v):(tE u).p (fun b=>F b/\m<=b) w v:=by rw [h m] at hp;exact hp
theorem hrT {t:Ty} {u:Value} (m:Nat) (F:Dom) (w:World) (v:Value) (hp:(tT [tG (up m) t,tE u]).p F w v):(tT [t,tE u]).p (fun b=>F b/\m<=b) w v:=by
 obtain ⟨vs,h1,h2⟩:=hp;refine ⟨vs,h1,?_⟩
 match vs,h2 with
 | [a,b],h2=>exact ⟨h2.1,h2.2.1,trivial⟩
 | [],h2=>exact h2.elim
 | [_],h2=>exact h2.2.elim
 | _::_::_::_,h2=>exact h2.2.2.elim
section
variable {P:Program} {c:Base} {d ty:Nat} {pos:String} {af:Array Edge} {gd:Option (Nat×Bool)}
theorem ze5 {x:Operand} {k T es off len:Nat} {agg:Bool} {ts:List Ent} {α:Type} {f:α->Ty} {xs:List α} (G:Dom) (hG: ∀b,c.w0.heap.size<=b->G b) (hfr: ∀x,Free (f x)) (hlb:NoLb c) (hts:(ts.drop off).take len=xs.map fun x=> .val (f x)) (hl:xs.length=len):
  Does P c ⟨some d,.assign x,ty,pos,af,gd⟩ ⟨[(x,.own (.sl k es off len))],[(k,⟨T,es,agg,ts⟩)],some (d,some (.val (tG G (tL es agg f xs)))),[(k,none)],[]⟩:=
 Does.give rfl fun g h al a w η hr hk s=>⟨a.eval x,by simp [execOp,go_sem],by
  have hv:=(xa0 s hr.1).1;have hp:=s.give hk hlb hts hl hv;obtain ⟨A,cc,h1,h2,h3,h4⟩:=hp;refine ⟨A,cc,h1,h2,h3,?_⟩;cases xs with
  | nil=>exact .inl rfl
  | cons x0 xr=>
   rcases h4 with h4 | ⟨b,o,e,hb,hx⟩
   ·cases h4
   ·obtain ⟨A',e1,e2,e3⟩:=hv;have hlen:0 < len:=by rw [<-hl];simp
    have hc:0 < η.c k:=by omega
    have hb0:=((s.key k _ hk).2.2.2 hc).1.resolve_right (hlb _);have e4:=e3 (by omega);rw [h1] at e1;have e1:A=A':=by injection e1
    rw [<-e1,e] at e4;have eb:b=η.b k:=by injection e4 with e4;injection e4
    refine .inr ⟨b,o,e,⟨hb,hG b (by rw [eb];exact hb0)⟩,fun i y hi=> ?_⟩;obtain ⟨u,hm,hu⟩:=hx i y hi;exact ⟨u,hm,hfr y _ _ _ _ _ hu⟩⟩
end
theorem CtN.ofG {P:Program} {f:FuncId} {t:Ty} {k es T n:Nat} {agg:Bool} {α:Type} {fx:α->Ty} {xs:List α} (h:CtG P f [] [.val t] (.own (.sl k es 0 n)) [(k,⟨T,es,agg,xs.map fun x=> .val (fx x)⟩)] [k]) (hl:xs.length=n) (hfr: ∀x,Free (fx x)):CtN P f [t] (fun nw=>tG (up nw) (tL es agg fx xs)):=by
 intro F w vs hvs;cases vs with
 | nil=>exact hvs.elim
 | cons v r=>
  cases r with
  | cons _ _=>exact hvs.2.elim
  | nil=>
   refine zec (h F w ⟨fun _=>0,fun _=>0,fun _=>False⟩ [v] ⟨hvs.1,trivial⟩ (fun x hx=>by cases hx) (fun x hx=>by cases hx) (fun b _ hb=>by obtain ⟨x,hx,_⟩:=hb;cases hx)) ?_;rintro e w' ⟨u,η',he,ho⟩;refine ⟨u,he,⟨ho.stp.os,ho.stp.tape,ho.stp.output,ho.stp.size,fun b hb=>ho.stp.block b hb fun hk=>by obtain ⟨x,hx,_⟩:=hk;cases hx⟩,?_⟩;obtain ⟨A,h1,h2,h3⟩:=ho.res;have hk:=ho.keys _ (zbj.2 rfl);obtain ⟨k1,k2,k3,k4,k5⟩:=hk;have k1:xs.length<=η'.c k:=by simpa using k1
   refine ⟨A,η'.c k - 0,by rw [h1,hl],by omega,by omega,?_⟩;cases xs with
   | nil=>exact .inl rfl
   | cons x0 xr=>
    have hc:0 < η'.c k:=by simp at k1;omega
    obtain ⟨cs,m1,m2,m3⟩:=k5 hc;have hA:=h3 (by omega);have hnew:w.heap.size<=η'.b k:=by
     rcases ho.new (η'.b k) ⟨_,zbj.2 rfl,hc,rfl⟩ with hh | hh
     ·obtain ⟨x,hx,_⟩:=hh;cases hx
     ·exact hh
    refine .inr ⟨η'.b k,0*es,hA,⟨.inl hnew,hnew⟩,?_⟩;intro i x hi;have hm:=m3 i (.val (fx x)) (by rw [zbu,hi];rfl);have hlt:i < (x0::xr).length:=(zbn.1 hi).1;refine ⟨_,⟨cs,T,(0,0),m1,?_,k2,k3,rfl⟩,?_⟩
    ·have h5:(i+1)*es<=η'.c k*es:=zbt _ (by omega);rw [zcn,zff] at h5;rw [m2,zdz,zcm];exact h5
    ·rw [zdz,zcm];exact hfr x _ _ _ _ _ hm
theorem jz5 {P:Program} {g:Slots} {h:Keys} {al:Names} {Q:Exit->Act->World->Prop} {N:Nat} {w0:World} {F:Dom} {x:Code} (K T s t:Nat) {W U:Ty} {g':Value->Value->Slots} {h':Keys} (hs:g s=some (.val (tG (up w0.heap.size) W))) (ht:g t=some (.val (tG (up w0.heap.size) U))) (hK:al K=false)
  (hg: ∀(a:Act) (L:Dom),(∀b,L b->w0.heap.size<=b)->SlC (fun b=> ¬L b) a g (g' (a.tmps.getD s undef) (a.tmps.getD t undef)))
  (hh: ∀(w:World) (η:Env) (L:Dom),(∀b,L b->w0.heap.size<=b)->KyC (fun b=> ¬L b) w η h h')
  (H: ∀(L:Dom) (w1:World) (v u:Value),W.p L w1 v->U.p L w1 u->(∀b,L b->b < w1.heap.size)->(∀b,L b->w0.heap.size<=b)->wc P (ovb N w0 F K (XL T L w1)) x Q (g' v u) (upd h' K (some ⟨0,1,false,[]⟩)) (fun j=>al j || Nat.beq j K)):
  wc P (Base.plain N w0 F) x Q g h al:=by
 refine C_at fun a w hs'=> ?_;obtain ⟨η,st⟩:=hs';have hv:=st.slotv hs;have hu:=st.slotv ht;exact ⟨ovb N w0 F K (XL T (fun b=>(b < w.heap.size/\ ¬Own h η b)/\up w0.heap.size b) w),g' (a.tmps.getD s undef) (a.tmps.getD t undef),_,_,rfl,st.over K (XL T (fun b=>(b < w.heap.size/\ ¬Own h η b)/\up w0.heap.size b) w) (fun b hb=>⟨hb.2,hb.1.1,hb.1.2⟩) ⟨fun _ b _=>rfl,fun h=>(by cases h),fun b hb=>hb.1.1⟩ hK (hg a _ fun b hb=>hb.2) (hh w η _ fun b hb=>hb.2),H _ w _ _ hv hu (fun b hb=>hb.1.1) fun b hb=>hb.2⟩
theorem leNilG {α:Type} {G:Dom} {es:Nat} {agg:Bool} {f:α->Ty} {xs:List α} (h:xs=[]):Le (tE (.slice none 0 0)) (tG G (tL es agg f xs)):=fun _ _ _ hv=>leNil h _ _ _ hv
theorem hrG {t:Ty} (m:Nat) (F:Dom) (w:World) (v:Value) (hp:(tG (up m) t).p F w v):t.p (fun b=>F b/\m<=b) w v:=hp
def tEx {ι:Type} (I:ι->Prop) (r:ι->Ty):Ty:=⟨fun F w v=> ∃i,I i/\(r i).p F w v,fun ⟨i,h1,h2⟩ hk=>⟨i,h1,(r i).mono h2 hk⟩⟩
structure Hd where
  A:Option Addr
  n:Nat
  c:Nat
abbrev Hd.v (u:Hd):Value:= .slice u.A u.n u.c
def Hd.b (u:Hd):Option Nat:=match u.A with
 | some A=>if 0 < u.c then some A.block else none
 | none=>none
abbrev tH (u:Hd):Ty:=tE u.v
def tLmX (T:Nat) (u:Hd) (l:List Nat):Ty:=
  ⟨fun F w v=>v=u.v/\u.n=l.length/\u.n<=u.c/\u.c<=9223372036854775807/\(0 < u.c-> ∃b cs,u.A=some ⟨b,0,none⟩/\F b/\w.heap[b]? =some (.cells cs T (0,0))/\cs.size=u.c/\ ∀(i x:Nat),l[i]? =some x->cs.getD i undef= .int .u16 (x:Int)),
   fun ⟨h1,h2,h3,h4,h5⟩ hk=>⟨h1,h2,h3,h4,fun hc=>by
     obtain ⟨b,cs,e1,e2,e3,e4,e5⟩:=h5 hc;obtain ⟨k1,k2⟩:=hk b _ e2 e3 rfl;exact ⟨b,cs,e1,k1,k2,e4,e5⟩⟩⟩
theorem lmX_le {T:Nat} {u:Hd} {l:List Nat}:Le (tLmX T u l) (tLm l):=fun F w v ⟨h1,h2,h3,h4,h5⟩=>⟨u.A,u.c,by rw [h1,<-h2],by omega,h4,by
 cases l with
 | nil=>exact .inl rfl
 | cons y r=>
  obtain ⟨b,cs,e1,e2,e3,e4,e5⟩:=h5 (by simp at h2;omega);refine .inr ⟨b,0,e1,e2,fun i x hi=>⟨.int .u16 x,⟨cs,T,(0,0),e3,?_,by omega,fun _=>rfl,?_⟩,rfl⟩⟩
  ·have:=(zbn.1 hi).1;omega
  ·simp only [pick,zen,zcm,zee];exact (e5 i x hi).symm⟩
theorem lmX_h {T:Nat} {u:Hd} {l:List Nat}:Le (tLmX T u l) (tH u):=fun _ _ _ h=>h.1
instance {T:Nat} {u:Hd} {l:List Nat}:Shape (tLmX T u l) 1 false:=⟨fun ⟨h1,_⟩=>by rw [h1];exact xd3 rfl⟩
instance {u:Hd}:Shape (tH u) 1 false:=⟨fun h=>by have h:_=_:=h;rw [h];exact xd3 rfl⟩
theorem zh3 {T:Nat} {u:Hd} {l:List Nat} {F:Dom} {w:World} {v:Value} (h:(tLmX T u l).p F w v) {b:Nat} (hb:u.b=some b):F b/\ ∃cs,w.heap[b]? =some (.cells cs T (0,0)):=by
 obtain ⟨_,h2,h3,h4,h5⟩:=h;by_cases hc:0 < u.c
 ·obtain ⟨b',cs,e1,e2,e3,_⟩:=h5 hc;simp only [Hd.b,e1,if_pos hc,zci] at hb;subst hb;exact ⟨e2,cs,e3⟩
 ·cases hA:u.A <;> simp [Hd.b,hA,hc] at hb
def Its (T:Nat) (t:Ty) (us:List (Hd×List Nat)):Prop:= ∀F w v,t.p F w v-> ∀u∈us,(tLmX T u.1 u.2).p F w u.1.v
theorem Its.lm {T:Nat} {u:Hd} {l:List Nat}:Its T (tLmX T u l) [(u,l)]:=fun F w v h u' hu=>by
 cases zbj.1 hu;exact ⟨rfl,h.2⟩
theorem Its.app {T:Nat} {t:Ty} {us us':List (Hd×List Nat)} (h:Its T t us) (h':Its T t us'):Its T t (us++us'):=fun F w v hp u hu=>by
 rcases zbo.1 hu with hu | hu
 ·exact h F w v hp u hu
 ·exact h' F w v hp u hu
theorem Fd.all_at {F:Dom} {w:World} {cs:Array Value}: ∀{fs:List Fd} {o i:Nat} {f:Fd},fs[i]? =some f->Fd.all F w cs o fs-> ∃v,f.t.p F w v
 | [],_,_,_,h,_=>by simp at h
 | g::r,o,0,f,h,ha=>by cases h;exact ⟨_,ha.1.2⟩
 | g::r,o,i+1,f,h,ha=>Fd.all_at (fs:=r) (by simpa using h) ha.2
theorem Its.fd {T:Nat} {fs:List Fd} {us:List (Hd×List Nat)} (i:Nat) {f:Fd} (hi:fs[i]? =some f) (h:Its T f.t us):Its T (tS fs) us:=fun F w v ⟨cs,_,_,h3⟩ u hu=>by
 obtain ⟨v',hv⟩:=Fd.all_at hi h3;exact h F w v' hv u hu
section
variable {P:Program} {c:Base} {g:Slots} {h:Keys} {al:Names}
def ItSt (T:Nat) (c:Base) (g:Slots) (h:Keys) (us:List (Hd×List Nat)):Prop:= ∀al a w η,St' c g h al a w η-> ∀u∈us,(tLmX T u.1 u.2).p (c.dom h η) w u.1.v
theorem ItSt.app {T:Nat} {us us':List (Hd×List Nat)} (h1:ItSt T c g h us) (h2:ItSt T c g h us'):ItSt T c g h (us++us'):=fun al a w η s u hu=>by
 rcases zbo.1 hu with hu | hu
 ·exact h1 al a w η s u hu
 ·exact h2 al a w η s u hu
theorem ItSt.key {T k T0 es:Nat} {agg:Bool} {α:Type} {f:α->Ty} {zs:List α} {us:α->List (Hd×List Nat)} (hk:h k=some ⟨T0,es,agg,rV f zs⟩) (ht: ∀z∈zs,Its T (f z) (us z)):ItSt T c g h (zs.flatMap us):=fun al a w η st u hu=>by
 obtain ⟨z,hz,hu⟩:=zbz.1 hu;obtain ⟨i,hi,rfl⟩:=List.getElem_of_mem hz;obtain ⟨_,_,⟨h3,_,_,_,h7⟩,_⟩:=st.key k _ hk;have hc:0 < η.c k:=by simp only [rV,zcq] at h3;omega
 obtain ⟨cs,_,_,m⟩:=h7 hc;exact ht _ (zfx hi) _ _ _ (m i (.val (f zs[i])) (by simp [rV,hi])) u hu
def WitSt (c:Base) (g:Slots) (h:Keys) (us:List Hd):Prop:= ∀al a w η,St' c g h al a w η-> ∀u∈us,∀b,u.b=some b->c.dom h η b/\b < w.heap.size
theorem ItSt.wit {T:Nat} {us:List (Hd×List Nat)} {vs:List Hd} (hs:ItSt T c g h us) (e:us.map (·.1)=vs):WitSt c g h vs:=fun al a w η st u hu b hb=>by
 subst e;obtain ⟨u',h1,rfl⟩:=zcp.1 hu;obtain ⟨h2,cs,h3⟩:=zh3 (hs al a w η st u' h1) hb;exact ⟨h2,xa7 h3⟩
theorem WitSt.nil:WitSt c g h []:=fun _ _ _ _ _ _ hu=>by cases hu
theorem WitSt.app {us us':List Hd} (h1:WitSt c g h us) (h2:WitSt c g h us'):WitSt c g h (us++us'):=fun al a w η s u hu=>by
 rcases zbo.1 hu with hu | hu
 ·exact h1 al a w η s u hu
 ·exact h2 al a w η s u hu
def SepH (us:List Hd):Prop:=us.Pairwise fun u v=> ∀b,u.b=some b->v.b≠some b
def NewH (n:Nat) (us:List Hd):Prop:= ∀u∈us,∀b,u.b=some b->n<=b
def OldH (n:Nat) (us:List Hd):Prop:= ∀u∈us,∀b,u.b=some b->b < n
theorem SepH.app {us vs:List Hd} {n:Nat} (h1:SepH us) (h2:SepH vs) (ho:OldH n us) (hn:NewH n vs):SepH (us++vs):=zga.2 ⟨h1,h2,fun u hu v hv b hb hb'=>by have:=ho u hu b hb;have:=hn v hv b hb';omega⟩
theorem NewH.app {n:Nat} {us vs:List Hd} (h1:NewH n us) (h2:NewH n vs):NewH n (us++vs):=fun u hu=>by
 rcases zbo.1 hu with hu | hu
 ·exact h1 u hu
 ·exact h2 u hu
theorem NewH.le {n m:Nat} {us:List Hd} (h1:NewH n us) (h2:m<=n):NewH m us:=fun u hu b hb=>zcj h2 (h1 u hu b hb)
variable {A:Array Oper} {Q:Exit->Act->World->Prop} {rest:List Oper} {d ty:Nat} {pos:String} {af:Array Edge}
theorem yn4 {ι:Type} {I:Nat->ι->Prop} {r:ι->Ty} {f:FuncId} {xs:List Operand} {aT:Array TypeId} {ts us:List Ty} (hs:List Hd) (hc:CtN P f us (fun n=>tEx (I n) r)) (hf:FnI P f) (hle:LeL ts us) (hl:xs.length=ts.length) (hr:Rd g (xs.zip (ts.map Ent.val))) (hw:WitSt c g h hs) (hdN:Nat.blt d c.N=true)
  (H: ∀i n,c.w0.heap.size<=n->OldH n hs->I n i->wl P c A Q rest (upd g d (some (.val (r i)))) h al):
  wl P c A Q (⟨some d,.call {callee:= .value (.func f),args:=xs.toArray,argTypes:=aT},ty,pos,af,none⟩::rest) g h al:=by
 rintro a w ⟨η,s⟩;unfold wpListIn;rw [if_pos (by rfl)];obtain ⟨fn,h1,h2,h3⟩:=hf;have hargs:=hle.all (Tup.all_of s xs ts hr hl);have hrun:(execOp a.eval ⟨some d,.call {callee:= .value (.func f),args:=xs.toArray,argTypes:=aT},ty,pos,af,none⟩).run P w= .ok (.enter f (xs.map a.eval).toArray) w:=by
  simp only [execOp,resolve,Act.eval,Deferred.ofValue,zbv,zbw,zbm,invoke];simp only [zdx,zdt,zcu];exact xh4 h1 h2 h3 _ w
 refine xm3 hrun (zec (hc _ w (xs.map a.eval) hargs) ?_);rintro e w' ⟨v,rfl,hext,i,hI,hv⟩;refine ⟨v,rfl,H i w.heap.size s.fr.size (fun u hu b hb=>(hw al a w η s u hu b hb).2) hI _ _ ⟨η,(s.ext hext).put (by simpa using hdN) (e:= .val (r i)) ((r i).mono hv fun b o hb hl _=>⟨?_,hl⟩) (fun k hk=>by cases hk)⟩⟩;rcases hb with hb | hb
 ·exact xn9 s hb
 ·exact hb
end
theorem CtN.exact {P:Program} {f:FuncId} {t:Ty} {k T n:Nat} {l:List Nat} (h:CtG P f [] [.val t] (.own (.sl k 1 0 n)) [(k,⟨T,1,false,rW .u16 l⟩)] [k]) (hl:l.length=n):CtN P f [t] (fun nw=>tEx (fun u=>NewH nw [u]) (fun u=>tLmX T u l)):=by
 intro F w vs hvs;cases vs with
 | nil=>exact hvs.elim
 | cons v r=>
  cases r with
  | cons _ _=>exact hvs.2.elim
  | nil=>
   refine zec (h F w ⟨fun _=>0,fun _=>0,fun _=>False⟩ [v] ⟨hvs.1,trivial⟩ (fun x hx=>by cases hx) (fun x hx=>by cases hx) (fun b _ hb=>by obtain ⟨x,hx,_⟩:=hb;cases hx)) ?_;rintro e w' ⟨u,η',he,ho⟩;obtain ⟨A,h1,h2,h3⟩:=ho.res;have hk:=ho.keys _ (zbj.2 rfl);obtain ⟨k1,k2,k3,k4,k5⟩:=hk;simp only [Nat.sub_zero,zcm,zdz] at h1 h2 h3;refine ⟨u,he,⟨ho.stp.os,ho.stp.tape,ho.stp.output,ho.stp.size,fun b hb=>ho.stp.block b hb fun hk=>by obtain ⟨x,hx,_⟩:=hk;cases hx⟩,⟨A,n,η'.c k⟩,?_⟩;have hnew:0 < η'.c k->w.heap.size<=η'.b k:=fun hc=>by
    rcases ho.new (η'.b k) ⟨_,zbj.2 rfl,hc,rfl⟩ with hh | hh
    ·obtain ⟨x,hx,_⟩:=hh;cases hx
    ·exact hh
   refine ⟨fun u' hu b hb=> ?_,h1,hl.symm,h2,k4,fun hc=> ?_⟩
   ·cases zbj.1 hu;by_cases hc:0 < η'.c k
    ·have hA:=h3 hc;simp only [Hd.b,hA,if_pos hc,zci] at hb;subst hb;exact hnew hc
    ·cases A <;> simp [Hd.b,hc] at hb
   ·obtain ⟨cs,m1,m2,m3⟩:=k5 hc;refine ⟨η'.b k,cs,h3 hc,.inl (hnew hc),m1,by rw [m2];simp,fun i x hi=> ?_⟩;have hm:pick false 1 cs (i*1)= .int .u16 (x:Int):=m3 i (.val (tE (.int .u16 (x:Int)))) (by simp [rW,hi]);simpa [pick] using hm
theorem LeavesIn.mono' {F:Fence} {n:Nat} {P:Program} {fn:Func} {tmps:Array Value} {R R':Ending->World->Prop} (h: ∀e w,R e w->R' e w): ∀(ds:List Deferred) (u:FrameMode) (w:World),LeavesIn F n P fn tmps R ds u w->LeavesIn F n P fn tmps R' ds u w
 | [],.returning,_,⟨v,h1,h2⟩=>⟨v,h1,h _ _ h2⟩
 | [],.panicking _,_,hh=>h _ _ hh
 | [],.run,_,hh=>hh
 | _::ds,_,_,⟨a,b,fv,cap,f,args,h1,h2,h3,h4⟩=>⟨a,b,fv,cap,f,args,h1,h2,h3,CallsDIn.mono h4 fun e u' w' hh=>by
   cases e with
   | returned _=>exact LeavesIn.mono' h ds _ w' hh
   | panicked _=>exact LeavesIn.mono' h ds _ w' hh
   | outgrown=>exact h _ _ hh⟩
theorem LeavesInM.mono' {F:Fence} {n:Nat} {P:Program} {fn:Func} {tmps:Array Value} {R R':Ending->World->Prop} (h: ∀e w,R e w->R' e w): ∀(ds:List Deferred) (u:FrameMode) (w:World),LeavesInM F n P fn tmps R ds u w->LeavesInM F n P fn tmps R' ds u w
 | [],u,w,hh=>LeavesIn.mono' h [] u w hh
 | _::ds,_,_,⟨h0,hh⟩=>⟨h0,hh.imp (fun ⟨r,w',h1,h2,h3⟩=>⟨r,w',h1,h2,LeavesInM.mono' h ds _ w' h3⟩) fun ⟨a,fv,cap,f,args,h1,h2,h3,h4⟩=>⟨a,fv,cap,f,args,h1,h2,h3,CallsDIn.mono h4 fun e u' w' hh=>by
   cases e with
   | returned _=>exact LeavesInM.mono' h ds _ w' hh
   | panicked _=>exact LeavesInM.mono' h ds _ w' hh
   | outgrown=>exact h _ _ hh⟩⟩
theorem PostR.mono {P:Program} {fn:Func} {R R':Value->World->Prop} (h: ∀v w,R v w->R' v w) {e:Exit} {a:Act} {w:World} (hp:PostR P fn R e a w):PostR P fn R' e a w:=by
 have hh: ∀(e:Ending) w,(∃v,e= .returned v/\R v w)-> ∃v,e= .returned v/\R' v w:=fun e w ⟨v,h1,h2⟩=>⟨v,h1,h v w h2⟩
 cases e with
 | normal=>exact LeavesInM.mono' hh _ _ _ hp
 | ret=>exact LeavesInM.mono' hh _ _ _ hp
 | panic c=>exact LeavesInM.mono' hh _ _ _ hp
 | outgrown=>exact hh _ _ hp
 | _=>exact hp
def CtX (P:Program) (f:FuncId) (H:List (Nat×HEnt)) (ps:List Ent) {ι:Type} (R:Nat->ι->Prop) (re:ι->Ent) (H':ι->List (Nat×HEnt)) (nn:List Nat):Prop:=
 ∀(F:Dom) (w:World) (η:Env) (vs:List Value),SatL F w η ps vs->AllK F w η H->InjK η H->(∀b,F b-> ¬OwnK η H b)->
  Calls P f vs.toArray w fun e w'=> ∃i v η',R w.heap.size i/\e= .returned v/\Out F w η H (re i) (H' i) nn v w' η'
def PostX (P:Program) (w:World) (F:Dom) (η:Env) (fn:Func) (H:List (Nat×HEnt)) {ι:Type} (R:Nat->ι->Prop) (re:ι->Ent) (H':ι->List (Nat×HEnt)) (nn:List Nat):Exit->Act->World->Prop:=PostR P fn fun v w'=> ∃η' i,R w.heap.size i/\Out F w η H (re i) (H' i) nn v w' η'
section
variable {P:Program} {c:Base} {g:Slots} {h:Keys} {al:Names}
theorem CtX.intro {f:FuncId} {fn:Func} {x:Code} {N:Nat} {H:List (Nat×HEnt)} {ps:List Ent} {ι:Type} {R:Nat->ι->Prop} {re:ι->Ent} {H':ι->List (Nat×HEnt)} {nn:List Nat} (l0:List Nat) (hf:P.funcs[f]? =some fn) (hb:fn.body=some x) (hN:fn.ntmps=N) (hlb:Nat.ble ps.length N=true) (hl0:subN (suppE ps) l0=true) (hlH:SupHs H l0)
  (hw: ∀w F η,wc P (Base.lent N w F η l0 H) x (PostX P w F η fn H R re H' nn) (argsE 0 ps) (keysOf H) (nm l0)):CtX P f H ps R re H' nn:=by
 intro F w η vs hvs hK hinj hF;have hl:ps.length<=N:=zdq hlb;have hlen:=hvs.len;have hmem: ∀k∈suppE ps++suppH H,k∈l0:=fun k hk=>by
  rcases zbo.1 hk with hk | hk
  ·exact xk1 hl0 k hk
  ·exact hlH.spec k hk
 refine zec (xj7 (R:=fun v w'=> ∃η' i,R w.heap.size i/\Out F w η H (re i) (H' i) nn v w' η') hf hb (hw w F η _ w ⟨⟨η.b,η.c,fun _=>False⟩,?_⟩)) (fun e w' ⟨v,he,η',i,hi,ho⟩=>⟨i,v,η',hi,he,ho⟩);have hKp:Keep F ((Base.lent N w F η l0 H).dom (keysOf H) ⟨η.b,η.c,fun _=>False⟩) w w:=fun b o hb hl _=>⟨⟨.inr ⟨hb,hF b hb⟩,fun ⟨k,x,hk,hc,e⟩=>hF b hb ⟨(k,x),xg4 hk,hc,e⟩,fun hv=>hv,fun hv=>hv⟩,hl⟩
 refine ⟨?_,rfl,fun s e hs=> ?_,fun k x hx=> ?_,fun k k' x x' hx hx' hne hc hc'=> ?_,⟨rfl,rfl,rfl,zbs _,fun _ _ _ _=>rfl,fun _ hb=>hb,fun _ hb=>hb.elim⟩,fun k hk=>⟨xb6.2 hk,rfl,rfl⟩,fun x hx=>(by cases hx),fun b hb=>hb.elim,fun k hk=>(by cases hk),fun k x hk=>(by cases hk),fun b hb=> ?_⟩
 ·simp [hlen,hN,Base.lent];omega
 ·obtain ⟨j,h1,h2⟩:=xu6 ps 0 s e hs;have hj:j < ps.length:=(zbn.1 h2).1;obtain ⟨v,hv,hp⟩:=SatL.get ps vs j e hvs h2;refine ⟨by show s < N;omega,fun k hk=>xb6.2 (hmem k (zbo.2 (.inl (zbz.2 ⟨e,zef h2,hk⟩)))),?_⟩;have e1:(vs.toArray++Array.replicate (fn.ntmps - vs.toArray.size) undef).getD s undef=v:=by
   rw [zbk,zfv,if_pos (by simp;omega)];rw [h1,zcm,zfe,hv];rfl
  simp only [e1];exact Ent.sat_go hp hKp fun _ _=>⟨rfl,rfl⟩
 ·have hm:=xg4 hx;exact ⟨xb6.2 (hmem k (zbo.2 (.inr (zbz.2 ⟨_,hm,by simp⟩)))),fun j hj=>xb6.2 (hmem j (zbo.2 (.inr (zbz.2 ⟨_,hm,by simp [hj]⟩)))),
   HEnt.sat_go (hK _ hm) (fun _=>rfl) hKp ⟨rfl,rfl⟩ fun _ _=>⟨rfl,rfl⟩,fun hc=>⟨.inr ⟨_,hm,hc,rfl⟩,fun hv=>hv,fun hv=>hv⟩⟩
 ·exact hinj _ (xg4 hx) _ (xg4 hx') hne hc hc'
 ·obtain ⟨x,hx,hc,rfl⟩:=hb;exact HEnt.lt (hK x hx) hc
theorem E_X {fn:Func} {w0:World} {F:Dom} {η0:Env} {H:List (Nat×HEnt)} {ι:Type} {R:Nat->ι->Prop} {re:ι->Ent} {H':ι->List (Nat×HEnt)} {nn:List Nat} {e:Exit} (i:ι) (hR:R w0.heap.size i) (hk:wk c e (PostG P w0 F η0 fn H (re i) (H' i) nn) g h al):wk c e (PostX P w0 F η0 fn H R re H' nn) g h al:=
 fun a w s=>PostR.mono (fun _ _ ⟨η',ho⟩=>⟨η',i,hR,ho⟩) (hk a w s)
theorem Kr.ren {ρ:Nat->Nat}: ∀{H:List (Nat×HEnt)},Kr h (H.map fun x=>(ρ x.1,x.2.ren ρ))-> ∀x∈H,h (ρ x.1)=some (x.2.ren ρ)
 | y::r,hr,x,hx=>by
  rcases zbr.1 hx with rfl | hx
  ·exact hr.1
  ·exact Kr.ren (H:=r) hr.2 x hx
theorem Nk.ren {ρ:Nat->Nat}: ∀{l:List Nat},Nk al (l.map ρ)-> ∀n∈l,al (ρ n)=false
 | y::r,hr,n,hn=>by
  rcases zbr.1 hn with rfl | hn
  ·exact hr.1
  ·exact Nk.ren (l:=r) hr.2 n hn
variable {A:Array Oper} {Q:Exit->Act->World->Prop} {rest:List Oper} {d ty:Nat} {pos:String} {af:Array Edge}
theorem yz1 {f:FuncId} {xs:List Operand} {aT:Array TypeId} {H h1:List (Nat×HEnt)} {ps:List Ent} {ι:Type} {R:Nat->ι->Prop} {re:ι->Ent} {H' h2:ι->List (Nat×HEnt)} {nn:List Nat} (hs:List Hd) (ρ:Nat->Nat) (hc:CtX P f H ps R re H' nn) (hf:FnI P f) (hl:xs.length=ps.length)
  (e1:H.map (fun x=>(ρ x.1,x.2.ren ρ))=h1) (e2: ∀i,(H' i).map (fun x=>(ρ x.1,x.2.ren ρ))=h2 i) (hsH: ∀i,SupHs (H' i) (nn++(suppE ps++H.map (·.1)))) (hij:injN ρ (H.map (·.1))=true) (hok: ∀i,gB ρ H (H' i) (re i) ps nn c.yk=true)
  (hr:Rd g (xs.zip (ps.map (Ent.ren ρ)))) (hkr:Kr h h1) (hnk:Nk al (nn.map ρ)) (hw:WitSt c g h hs) (hdN:Nat.blt d c.N=true)
  (HH: ∀i n,c.w0.heap.size<=n->OldH n hs->R n i->wl P c A Q rest (upd g d (some ((re i).ren ρ))) (updK h (H.map (fun x=>(ρ x.1,none))++(h2 i).map (fun x=>(x.1,some x.2)))) (fun j=>memN j (nn.map ρ) || al j)):
  wl P c A Q (⟨some d,.call {callee:= .value (.func f),args:=xs.toArray,argTypes:=aT},ty,pos,af,none⟩::rest) g h al:=by
 rintro a w ⟨η,s⟩;unfold wpListIn;rw [if_pos (by rfl)];obtain ⟨fn,f1,f2,f3⟩:=hf;obtain ⟨hsat,hal⟩:=SatL.of s xs ps hr hl;have hrun:(execOp a.eval ⟨some d,.call {callee:= .value (.func f),args:=xs.toArray,argTypes:=aT},ty,pos,af,none⟩).run P w= .ok (.enter f (xs.map a.eval).toArray) w:=by
  simp only [execOp,resolve,Act.eval,Deferred.ofValue,zbv,zbw,zbm,invoke];simp only [zdx,zdt,zcu];exact xh4 f1 f2 f3 _ w
 subst e1;have hH':=Kr.ren hkr;have hnn:=Nk.ren hnk;have hall:AllK (c.dom h η) w (η.pre ρ) H:=fun x hx=>HEnt.sat_ren.1 (s.key _ _ (hH' x hx)).2.2.1;have hps: ∀k∈suppE ps,al (ρ k)=true:=fun k hk=>hal _ (xt8 hk);refine xm3 hrun (zec (hc (c.dom h η) w (η.pre ρ) (xs.map a.eval) hsat hall (fun x hx y hy hne hcx hcy=> ?_) (fun b hb ho=> ?_)) ?_)
 ·exact s.inj (ρ x.1) (ρ y.1) _ _ (hH' x hx) (hH' y hy) (xt1 hij x.1 y.1 (zdd hx) (zdd hy) hne) hcx hcy
 ·obtain ⟨x,hx,hcx,rfl⟩:=ho;exact hb.2.1 ⟨ρ x.1,_,hH' x hx,hcx,rfl⟩
 ·rintro e w' ⟨i,v,η',hR,rfl,hout⟩;have hok:=hok i;simp only [gB,zcg] at hok;obtain ⟨s',hres⟩:=s.back ρ hH' hout hnn hok.1.1.1 (fun k hk=>by
   have hm:k∈nn++(suppE ps++H.map (·.1)):=by
    rcases zbo.1 hk with hk | hk
    ·exact xk1 hok.1.2 k hk
    ·exact (hsH i).spec k hk
   rw [zbo,zbo] at hm;rcases hm with hm | hm | hm
   ·exact .inl hm
   ·exact .inr (hps k hm)
   ·right;obtain ⟨x,hx,rfl⟩:=zcp.1 hm;exact (s.key _ _ (hH' x hx)).1) hok.2
  refine ⟨v,rfl,?_⟩;rw [yj7 (e2 i)] at s' hres;refine HH i w.heap.size s.fr.size (fun u hu b hb=>(hw al a w η s u hu b hb).2) hR _ _ ⟨_,s'.put (by simpa using hdN) hres fun k hk=> ?_⟩
  revert hk
  generalize hre:re i=ree at*
  intro hk;cases ree with
  | val t=>cases hk
  | own p=>
   obtain ⟨j,hj,rfl⟩:=VP.ren_supp1 p k hk;have hm:=xk1 hok.1.2 j hj;rw [zbo,zbo] at hm;rcases hm with hm | hm | hm
   ·rw [xb6.2 (zdd hm)];rfl
   ·rw [hps j hm,Bool.or_true]
   ·obtain ⟨x,hx,rfl⟩:=zcp.1 hm;rw [(s.key _ _ (hH' x hx)).1,Bool.or_true]
end
def XI (T:Nat) (V:Dom) (us:List (Hd×List Nat)):OvJ where
 D:=fun b=>V b∨ ∃u∈us,u.1.b=some b
 J:=fun n w=>n=0-> ∀u∈us,(tLmX T u.1 u.2).p (fun b=> ∃u∈us,u.1.b=some b) w u.1.v
 loc:=fun _ _ _ hJ _ hb h0 u hu=>(tLmX T u.1 u.2).mono (hJ h0 u hu) fun b _ hF hl _=>⟨hF,(hb b (.inr hF) (xa7 hl)).trans hl⟩
def Wk (e e':Ent):Prop:=(e'=e/\((∃k o,e= .own (.ptr k o))∨ ∃k es o l,e= .own (.sl k es o l)))∨ ∃t t',e= .val t/\e'= .val t'/\Le t t'/\Free t'
theorem Wk.ptr {k o:Nat}:Wk (.own (.ptr k o)) (.own (.ptr k o)):= .inl ⟨rfl,.inl ⟨k,o,rfl⟩⟩
theorem Wk.sl {k es o l:Nat}:Wk (.own (.sl k es o l)) (.own (.sl k es o l)):= .inl ⟨rfl,.inr ⟨k,es,o,l,rfl⟩⟩
theorem Wk.val {t t':Ty} (h:Le t t') (hf:Free t'):Wk (.val t) (.val t'):= .inr ⟨t,t',rfl,rfl,h,hf⟩
theorem Wk.supp {e e':Ent} (h:Wk e e'): ∀k∈e'.supp,k∈e.supp:=fun k hk=>by
 rcases h with ⟨rfl,_⟩ | ⟨_,_,_,rfl,_⟩
 ·exact hk
 ·cases hk
theorem Wk.sat {e e':Ent} (h:Wk e e') {F F':Dom} {w w':World} {η η':Env} {v:Value} (hs:e.sat F w η v) (hη:η'.b=η.b/\η'.c=η.c):e'.sat F' w' η' v:=by
 obtain ⟨h1,h2⟩:=hη;rcases h with ⟨rfl,⟨k,o,rfl⟩ | ⟨k,es,o,l,rfl⟩⟩ | ⟨t,t',rfl,rfl,hl,hf⟩
 ·have hs:v= .pointer (some ⟨η.b k,o,none⟩):=hs;show v= .pointer (some ⟨η'.b k,o,none⟩);rw [h1];exact hs
 ·obtain ⟨A,e1,e2,e3⟩:=hs;exact ⟨A,by rw [h2];exact e1,by rw [h2];exact e2,by rw [h1,h2];exact e3⟩
 ·exact hf _ _ _ _ _ (hl _ _ _ hs)
def SlW (g g':Slots):Prop:= ∀s e',g' s=some e'-> ∃e,g s=some e/\Wk e e'
theorem SlW.nil {g:Slots}:SlW g (fun _=>none):=fun _ _ h=>by cases h
theorem SlW.cons {g g':Slots} {s:Nat} {e e':Ent} (hs:g s=some e) (hl:Wk e e') (hr:SlW g g'):SlW g (upd g' s (some e')):=fun s' e1 he=>by
 by_cases hss:s'=s
 ·subst hss;rw [xa9] at he;cases he;exact ⟨e,hs,hl⟩
 ·rw [xa4 _ _ _ hss] at he;exact hr s' e1 he
def WkL (ts ts':List Ent):Prop:=ts'.length=ts.length/\ ∀(i:Nat) (e':Ent),ts'[i]? =some e'-> ∃e:Ent,ts[i]? =some e/\Wk e e'
def KyW (h h':Keys):Prop:= ∀(k:Nat) (x':HEnt),h' k=some x'-> ∃x:HEnt,h k=some x/\x'.T=x.T/\x'.es=x.es/\x'.agg=x.agg/\WkL x.ts x'.ts
theorem KyW.nil {h:Keys}:KyW h (fun _=>none):=fun _ _ h=>by cases h
theorem KyW.cons {h h':Keys} {k T es:Nat} {agg:Bool} {ts ts':List Ent} (hs:h k=some ⟨T,es,agg,ts⟩) (ht:WkL ts ts') (hr:KyW h h'):KyW h (upd h' k (some ⟨T,es,agg,ts'⟩)):=fun k' x' hx=>by
 by_cases hkk:k'=k
 ·subst hkk;rw [xa9] at hx;cases hx;exact ⟨_,hs,rfl,rfl,rfl,ht⟩
 ·rw [xa4 _ _ _ hkk] at hx;exact hr k' x' hx
theorem wk_rV {α:Type} {f f':α->Ty} {xs:List α} (h: ∀x,Le (f x) (f' x)) (hf: ∀x,Free (f' x)):WkL (rV f xs) (rV f' xs):=⟨by simp [rV],fun i e' he=>by
 simp only [rV,zbu] at he ⊢;obtain ⟨x,hx,rfl⟩:=zdn.1 he;exact ⟨.val (f x),by rw [hx];rfl,.val (h x) (hf x)⟩⟩
section
variable {P:Program} {g:Slots} {h:Keys} {al:Names} {Q:Exit->Act->World->Prop}
theorem St'.over2 {N K T:Nat} {w0:World} {F:Dom} {X:OvJ} {a:Act} {w:World} {η:Env} {g':Slots} {h':Keys} {us:List (Hd×List Nat)} (s:St' (ovb N w0 F K X) g h al a w η) (hX: ∀b,X.D b->w0.heap.size<=b) (hI: ∀u∈us,(tLmX T u.1 u.2).p ((ovb N w0 F K X).dom h η) w u.1.v) (hnew:NewH w0.heap.size (us.map (·.1))) (hg:SlW g g') (hh:KyW h h'):
  (∀b,η.vo b->w0.heap.size<=b)/\St (ovb N w0 F K (XI T η.vo us)) g' (upd h' K (some ⟨0,1,false,[]⟩)) al a w:=by
 have hvo: ∀b,η.vo b->w0.heap.size<=b/\b < w.heap.size:=fun b hb=>by
  obtain ⟨h1,_,h2⟩:=s.fr.vnew b hb;exact ⟨h2.elim (fun h3=>hX b h3) id,h1⟩
 have hit': ∀b,(∃u∈us,u.1.b=some b)->w0.heap.size<=b/\(ovb N w0 F K X).dom h η b/\b < w.heap.size:=fun b ⟨u,hu,hb⟩=>by
  obtain ⟨h1,cs,h2⟩:=zh3 (hI u hu) hb;exact ⟨hnew _ (zdd hu) b hb,h1,xa7 h2⟩
 have hkK:(ovb N w0 F K X).lη.c K=0:=by simp [ovb,Base.over,envK]
 have hlkK:=s.lk K (by simp [ovb,Base.over]);have hcK:η.c K=0:=hlkK.2.2.trans hkK;have hDo: ∀b,(XI T η.vo us).D b->w0.heap.size<=b/\b < w.heap.size/\ ¬Own h η b:=fun b hb=>by
  rcases hb with hb | hb
  ·refine ⟨(hvo b hb).1,(hvo b hb).2,fun ⟨k,y,hy,hc,e⟩=> ?_⟩;exact ((s.key k y hy).2.2.2 hc).2.1 (e▸hb)
  ·obtain ⟨h1,h2,h3⟩:=hit' b hb;exact ⟨h1,h3,h2.2.1⟩
 obtain ⟨η',hη⟩: ∃η':Env,η'=⟨η.b,η.c,(XI T η.vo us).D⟩:=⟨_,rfl⟩
 have eb:η'.b=η.b:=by rw [hη]
 have ec:η'.c=η.c:=by rw [hη]
 have evo:η'.vo=(XI T η.vo us).D:=by rw [hη]
 have hown: ∀b,Own (upd h' K (some ⟨0,1,false,[]⟩)) η' b->Own h η b:=by
  rintro b ⟨k,x',hx,hc,rfl⟩;rw [ec] at hc;by_cases hk:k=K
  ·subst hk;omega
  ·rw [xa4 _ _ _ hk] at hx;obtain ⟨y,h1,_⟩:=hh k x' hx;exact ⟨k,y,h1,hc,by rw [eb]⟩
 refine ⟨fun b hb=>(hvo b hb).1,η',s.tn,s.df,fun t e' he=> ?_,fun k x' hx=> ?_,fun k k' x x' hx hx' hkk hck hck'=> ?_,⟨s.fr.os,s.fr.tape,s.fr.output,s.fr.size,fun b hb hl hv=> ?_,fun b hb=>(by rw [evo];exact hb),fun b hb=> ?_⟩,fun k hk=> ?_,fun x hx=>(by cases hx),fun b hb=>hb.elim,s.yal,fun k x hk hx=> ?_,fun b ⟨x,hx,_⟩=>(by cases hx)⟩
 ·obtain ⟨e,h1,h2⟩:=hg t e' he;obtain ⟨n1,n2,n3⟩:=s.slot t e h1;exact ⟨n1,fun k hk=>n2 k (h2.supp k hk),h2.sat n3 ⟨eb,ec⟩⟩
 ·by_cases hk:k=K
  ·subst hk;rw [xa9] at hx;cases hx;exact ⟨hlkK.1,fun j hj=>(by cases hj),⟨by simp,by simp,fun _=>rfl,by rw [ec,hcK];omega,fun hc=>by rw [ec,hcK] at hc;omega⟩,fun hc=>by rw [ec,hcK] at hc;omega⟩
  ·rw [xa4 _ _ _ hk] at hx;obtain ⟨y,h1,r1,r2,r3,r4,r5⟩:=hh k x' hx;have r5: ∀(i:Nat) (e':Ent),x'.ts[i]? =some e'-> ∃e:Ent,y.ts[i]? =some e/\Wk e e':=r5;obtain ⟨q1,q2,⟨p1,p2,p3,p4,p5⟩,q4⟩:=s.key k _ h1;refine ⟨q1,fun j hj=> ?_,⟨by rw [r4,ec];exact p1,by rw [r2];exact p2,by rw [r2,r3];exact p3,by rw [ec];exact p4,fun hc=> ?_⟩,fun hc=> ?_⟩
   ·obtain ⟨e',he',hj⟩:=zbz.1 hj;obtain ⟨i,hi,rfl⟩:=List.getElem_of_mem he';obtain ⟨e,h5,h6⟩:=r5 i _ (zbi hi);exact q2 j (zbz.2 ⟨e,zef h5,h6.supp j hj⟩)
   ·rw [ec] at hc;obtain ⟨cs,c1,c2,c3⟩:=p5 hc;refine ⟨cs,by rw [eb,r1];exact c1,by rw [ec,r2];exact c2,fun i e' hi=> ?_⟩;obtain ⟨e,h5,h6⟩:=r5 i e' hi;rw [r2,r3];exact h6.sat (c3 i e h5) ⟨eb,ec⟩
   ·rw [ec] at hc;obtain ⟨m1,m2,m3⟩:=q4 hc;rw [eb,evo];exact ⟨m1,fun hD=>(hDo _ hD).2.2 ⟨k,_,h1,hc,rfl⟩,m3⟩
 ·have h0: ∀k x,upd h' K (some ⟨0,1,false,[]⟩) k=some x->0 < η'.c k-> ∃y,h k=some y:=fun k x hx hc=>by
   by_cases hk:k=K
   ·subst hk;rw [ec] at hc;omega
   ·rw [xa4 _ _ _ hk] at hx;obtain ⟨y,h1,_⟩:=hh k x hx;exact ⟨y,h1⟩
  obtain ⟨y,h1⟩:=h0 k x hx hck;obtain ⟨y',h1'⟩:=h0 k' x' hx' hck';rw [eb];rw [ec] at hck hck';exact s.inj k k' y y' h1 h1' hkk hck hck'
 ·exact s.fr.block b hb hl fun h'=>hv (by rw [evo];exact .inl h')
 ·rw [evo] at hb;exact ⟨(hDo b hb).2.1,rfl,.inl hb⟩
 ·have:=s.lk k hk;rw [eb,ec];exact this
 ·have hk:some K=some k:=hk;cases hk;rw [xa9] at hx;cases hx;refine ⟨fun _ u hu=>(tLmX T u.1 u.2).mono (F:=fun b=>(ovb N w0 F K X).dom h η b/\ ∃u∈us,u.1.b=some b) ?_ fun b o hb hl _=>⟨hb.2,hl⟩,fun b hb=>⟨by rw [evo];exact hb,?_,(hDo b hb).2.1⟩⟩
  ·obtain ⟨h1,h2,h3,h4,h5⟩:=hI u hu;refine ⟨h1,h2,h3,h4,fun hc=> ?_⟩;obtain ⟨b,cs,e1,e2,e3⟩:=h5 hc;exact ⟨b,cs,e1,⟨e2,u,hu,by simp [Hd.b,e1,hc]⟩,e3⟩
  ·rintro (hb' | hb' | ⟨y,hy,_⟩)
   ·exact (hDo b hb).2.2 (hown b hb')
   ·exact hb'
   ·cases hy
theorem jj3 {N K T:Nat} {w0:World} {F:Dom} {X:OvJ} {A:Array Oper} {rest:List Oper} {g':Slots} {h':Keys} {us:List (Hd×List Nat)} (hX: ∀b,X.D b->w0.heap.size<=b) (hit:ItSt T (ovb N w0 F K X) g h us) (hnew:NewH w0.heap.size (us.map (·.1))) (hg:SlW g g') (hh:KyW h h')
  (H: ∀V:Dom,(∀b,V b->w0.heap.size<=b)->wl P (ovb N w0 F K (XI T V us)) A Q rest g' (upd h' K (some ⟨0,1,false,[]⟩)) al):wl P (ovb N w0 F K X) A Q rest g h al:=by
 rintro a w ⟨η,s⟩;obtain ⟨h1,h2⟩:=s.over2 hX (hit al a w η s) hnew hg hh;exact H η.vo h1 a w h2
theorem XI_new {T:Nat} {V:Dom} {us:List (Hd×List Nat)} {n:Nat} (hV: ∀b,V b->n<=b) (hu:NewH n (us.map (·.1))): ∀b,(XI T V us).D b->n<=b:=fun b hb=>by
 rcases hb with hb | ⟨u,hu',hb⟩
 ·exact hV b hb
 ·exact hu _ (zdd hu') b hb
end
def CtU (P:Program) (X:OvJ) (f:FuncId) (H:List (Nat×HEnt)) (ps:List Ent) (n m:Nat) (r:Value):Prop:=
 ∀(w:World) (η:Env) (vs:List Value),SatL (fun _=>False) w η ps vs->AllK (fun _=>False) w η H->InjK η H->(∀b,X.D b->b < w.heap.size/\ ¬OwnK η H b)->X.J n w->
  Calls P f vs.toArray w fun e w'=>e= .returned r/\Stp (fun b=>OwnK η H b∨X.D b) w w'/\X.J m w'
def PostU (P:Program) (X:OvJ) (w:World) (η:Env) (fn:Func) (H:List (Nat×HEnt)) (m:Nat) (r:Value):Exit->Act->World->Prop:=PostR P fn fun v w'=>v=r/\Stp (fun b=>OwnK η H b∨X.D b) w w'/\X.J m w'
section
variable {P:Program} {X:OvJ}
theorem CtU.intro {f:FuncId} {fn:Func} {x:Code} {N n m:Nat} {r:Value} {H:List (Nat×HEnt)} {ps:List Ent} (K:Nat) (l0:List Nat) (hf:P.funcs[f]? =some fn) (hb:fn.body=some x) (hN:fn.ntmps=N) (hlb:Nat.ble ps.length N=true) (hl0:subN (suppE ps) l0=true) (hlH:SupHs H l0) (hK:memN K l0=false)
  (hw: ∀w η,OvC (Base.over N w (fun _=>False) η l0 H K X) w η H K X->wc P (Base.over N w (fun _=>False) η l0 H K X) x (PostU P X w η fn H m r) (argsE 0 ps) (keysOf ((K,⟨n,1,false,[]⟩)::H)) (nm (K::l0))):CtU P X f H ps n m r:=by
 intro w η vs hvs hAK hinj hD hJ;have hl:ps.length<=N:=zdq hlb;have hlen:=hvs.len;have hKl: ∀k∈l0,k≠K:=fun k hk e=>by subst e;rw [xb6.2 hk] at hK;cases hK
 have hmem: ∀k∈suppE ps++suppH H,k∈l0:=fun k hk=>by
  rcases zbo.1 hk with hk | hk
  ·exact xk1 hl0 k hk
  ·exact hlH.spec k hk
 have hKH: ∀x∈H,x.1≠K:=fun x hx=>hKl _ (hmem _ (zbo.2 (.inr (zbz.2 ⟨x,hx,by simp⟩))));have hc: ∀k,k≠K->(envK η K).c k=η.c k:=fun k hk=>by simp [envK,hk]
 have hcK:(envK η K).c K=0:=by simp [envK]
 have hal: ∀k∈l0,nm (K::l0) k=true:=fun k hk=>xb6.2 (by simp [hk]);refine zec (xj7 (R:=fun v w'=>v=r/\Stp (fun b=>OwnK η H b∨X.D b) w w'/\X.J m w') hf hb (hw w η OvC.mk' _ w ⟨⟨η.b,(envK η K).c,X.D⟩,?_⟩)) (fun e w' ⟨v,he,hv,hr⟩=>⟨by rw [he,hv],hr⟩);have hKp: ∀F',Keep (fun _=>False) F' w w:=fun F' b o hb=>hb.elim;have hown: ∀b,Own (keysOf ((K,⟨n,1,false,[]⟩)::H)) ⟨η.b,(envK η K).c,X.D⟩ b->OwnK η H b:=by
  rintro b ⟨k,x,hk,hck,rfl⟩;rcases zbr.1 (xg4 hk) with e | hm
  ·cases e;simp only [hcK] at hck;omega
  ·have hne:=hKH _ hm;simp only at hne hck;exact ⟨(k,x),hm,by rw [<-hc k hne];exact hck,rfl⟩
 refine ⟨?_,rfl,fun s e hs=> ?_,fun k x hx=> ?_,fun k k' x x' hx hx' hne hck hck'=> ?_,⟨rfl,rfl,rfl,zbs _,fun _ _ _ _=>rfl,fun _ hb=>hb,fun b hb=>⟨(hD b hb).1,rfl,.inl hb⟩⟩,fun k hk=>⟨xb6.2 hk,rfl,rfl⟩,fun x hx=>(by cases hx),fun b hb=>hb.elim,fun k hk=>(by cases hk;exact xb6.2 (by simp)),fun k x hk hx=> ?_,fun b hb=> ?_⟩
 ·simp [hlen,hN,Base.over];omega
 ·obtain ⟨j,h1,h2⟩:=xu6 ps 0 s e hs;have hj:j < ps.length:=(zbn.1 h2).1;obtain ⟨v,hv,hp⟩:=SatL.get ps vs j e hvs h2;have hsup: ∀k∈e.supp,k∈l0:=fun k hk=>hmem k (zbo.2 (.inl (zbz.2 ⟨e,zef h2,hk⟩)));refine ⟨by show s < N;omega,fun k hk=>hal k (hsup k hk),?_⟩;have e1:(vs.toArray++Array.replicate (fn.ntmps - vs.toArray.size) undef).getD s undef=v:=by
   rw [zbk,zfv,if_pos (by simp;omega)];rw [h1,zcm,zfe,hv];rfl
  simp only [e1];exact Ent.sat_go hp (hKp _) fun k hk=>⟨rfl,hc k (hKl k (hsup k hk))⟩
 ·rcases zbr.1 (xg4 hx) with e | hm
  ·cases e;exact ⟨xb6.2 (by simp),fun j hj=>(by cases hj),⟨by simp,by simp,fun _=>rfl,by simp only [hcK];omega,fun hck=>by simp only [hcK] at hck;omega⟩,fun hck=>by simp only [hcK] at hck;omega⟩
  ·have hsup: ∀j∈x.supp,j∈l0:=fun j hj=>hmem j (zbo.2 (.inr (zbz.2 ⟨_,hm,by simp [hj]⟩)));have hk0:k∈l0:=hmem k (zbo.2 (.inr (zbz.2 ⟨_,hm,by simp⟩)));exact ⟨hal k hk0,fun j hj=>hal j (hsup j hj),HEnt.sat_go (hAK _ hm) (fun _=>rfl) (hKp _) ⟨rfl,hc k (hKl k hk0)⟩ fun j hj=>⟨rfl,hc j (hKl j (hsup j hj))⟩,
    fun hck=>⟨.inr ⟨_,hm,by rw [<-hc k (hKl k hk0)];exact hck,rfl⟩,fun hv=>(hD _ hv).2 ⟨_,hm,by rw [<-hc k (hKl k hk0)];exact hck,rfl⟩,fun hv=>hv⟩⟩
 ·rcases zbr.1 (xg4 hx) with e | hm
  ·cases e;simp only [hcK] at hck;omega
  ·rcases zbr.1 (xg4 hx') with e | hm'
   ·cases e;simp only [hcK] at hck';omega
   ·have h1:=hKH _ hm;have h2:=hKH _ hm';simp only at h1 h2 hck hck';exact hinj _ hm _ hm' hne (by rw [<-hc k h1];exact hck) (by rw [<-hc k' h2];exact hck')
 ·have hk:some K=some k:=hk;cases hk;have hxn:x=⟨n,1,false,[]⟩:=by
   rcases zbr.1 (xg4 hx) with e | hm
   ·cases e;rfl
   ·exact absurd rfl (hKH _ hm)
  subst hxn;refine ⟨hJ,fun b hb=>⟨hb,?_,(hD b hb).1⟩⟩;rintro (hb' | hb' | ⟨y,hy,_⟩)
  ·exact (hD b hb).2 (hown b hb')
  ·exact hb'
  ·cases hy
 ·obtain ⟨x,hx,hcx,rfl⟩:=hb;exact HEnt.lt (hAK x hx) hcx
variable {c:Base} {g:Slots} {h:Keys} {al:Names} {d ty:Nat} {pos:String} {af:Array Edge} {gd:Option (Nat×Bool)}
theorem qw0 {fn:Func} {w0:World} {η0:Env} {H:List (Nat×HEnt)} {K m t:Nat} {r:Value} (hp:OvC c w0 η0 H K X) (hr:fn.results= #[.tmp t]) (hx:g t=some (.val (tE r))) (hK:h K=some ⟨m,1,false,[]⟩):wk c .ret (PostU P X w0 η0 fn H m r) g h al:=
 yg7 (.inl rfl) hp.df fun df pn a w η s=>by
  refine ⟨_,results_tmp hr a.tmps P w,xr2 s hx,?_,?_⟩
  ·have e0:(c.with df pn).w0=w0:=hp.w0;refine ⟨e0▸s.fr.os,e0▸s.fr.tape,e0▸s.fr.output,e0▸s.fr.size,fun b hb hn=> ?_⟩;have:=s.fr.block b (by rw [e0];exact hb) (fun hl=>hn (.inl (by have hl:c.lb b:=hl;rwa [hp.lb] at hl))) (fun hv=>by
    rcases (s.fr.vnew b hv).2.2 with h3 | h3
    ·have h3:c.V0 b:=h3;rw [hp.V0] at h3;exact hn (.inr h3)
    ·rw [e0] at h3;omega)
   rwa [e0] at this
  ·have hj:=s.jj K _ hp.yk hK;have hj:c.J m _ _ w:=hj;rw [hp.J] at hj;exact hj.1
theorem qc6: ∀(l1 l2:List (Nat×Option HEnt)) (h:Keys),updK h (l1++l2)=updK (updK h l1) l2
 | [],_,_=>rfl
 | _::r,l2,_=>qc6 r l2 _
theorem zn4: ∀{ks:List Nat} {h:Keys} {k:Nat} {x:HEnt},updK h (ks.map fun k=>(k,none)) k=some x->k∉ks/\h k=some x
 | [],_,_,_,hx=>⟨by simp,hx⟩
 | j::r,h,k,x,hx=>by
  obtain ⟨h1,h2⟩:=zn4 (ks:=r) (h:=upd h j none) hx;by_cases hk:k=j
  ·subst hk;rw [xa9] at h2;cases h2
  ·rw [xa4 _ _ _ hk] at h2;exact ⟨by simp [hk,h1],h2⟩
theorem St'.after {a:Act} {w w':World} {η:Env} {w0:World} {η0:Env} {H0:List (Nat×HEnt)} {K n m:Nat} (s:St' c g h al a w η) (hp:OvC c w0 η0 H0 K X) (ks:List Nat) (hks: ∀k∈ks,∃x,h k=some x) (hK:h K=some ⟨n,1,false,[]⟩)
  (hst:Stp (fun b=>(∃k∈ks,0 < η.c k/\b=η.b k)∨X.D b) w w') (hJ:X.J m w'):St' c g (updK h (ks.map (fun k=>(k,none))++[(K,some ⟨m,1,false,[]⟩)])) al a w' η:=by
 have hj:=s.jj K _ hp.yk hK;have hj:c.J n _ _ w:=hj;rw [hp.J] at hj;have hlkK:=s.lk K hp.ln;have hcK:η.c K=0:=hlkK.2.2.trans hp.c0;have hDv: ∀b,X.D b->η.vo b:=fun b hb=>(hj.2 b hb).1;have hget: ∀k x,updK h (ks.map (fun k=>(k,none))++[(K,some ⟨m,1,false,[]⟩)]) k=some x->(k=K/\x=⟨m,1,false,[]⟩)∨(k≠K/\k∉ks/\h k=some x):=fun k x hx=>by
  rw [qc6] at hx;by_cases hk:k=K
  ·subst hk;have hx:upd _ k _ k=some x:=hx;rw [xa9] at hx;cases hx;exact .inl ⟨rfl,rfl⟩
  ·have hx:upd _ K _ k=some x:=hx;rw [xa4 _ _ _ hk] at hx;obtain ⟨h1,h2⟩:=zn4 hx;exact .inr ⟨hk,h1,h2⟩
 generalize updK h (ks.map (fun k=>(k,none))++[(K,some ⟨m,1,false,[]⟩)])=h' at hget;have hown: ∀b,Own h' η b->Own h η b:=by
  rintro b ⟨k,x,hx,hc,rfl⟩;rcases hget k x hx with ⟨rfl,_⟩ | ⟨_,_,h1⟩
  ·omega
  ·exact ⟨k,x,h1,hc,rfl⟩
 have hch: ∀b,((∃k∈ks,0 < η.c k/\b=η.b k)∨X.D b)->Own h η b∨η.vo b:=by
  rintro b (⟨k,hk,hc,rfl⟩ | hb)
  ·obtain ⟨x,hx⟩:=hks k hk;exact .inl ⟨k,x,hx,hc,rfl⟩
  ·exact .inr (hDv b hb)
 have hKp:Keep (c.dom h η) (c.dom h' η) w w':=fun b o hb hl _=>⟨⟨hb.1,fun ho=>hb.2.1 (hown b ho),hb.2.2.1,hb.2.2.2⟩,(hst.block b (xa7 hl) fun h'=>(hch b h').elim hb.2.1 hb.2.2.1).trans hl⟩
 refine ⟨s.tn,s.df,fun t x hx=>⟨(s.slot t x hx).1,(s.slot t x hx).2.1,Ent.sat_go (s.slot t x hx).2.2 hKp fun _ _=>⟨rfl,rfl⟩⟩,fun k x hx=> ?_,fun k k' x x' hx hx' hne hc hc'=> ?_,⟨hst.os.trans s.fr.os,hst.tape.trans s.fr.tape,hst.output.trans s.fr.output,zcj s.fr.size hst.size,fun b hb hl hv=> ?_,s.fr.vold,fun b hb=>⟨zca (s.fr.vnew b hb).1 hst.size,(s.fr.vnew b hb).2⟩⟩,
  s.lk,fun x hx=> ?_,fun b hb=>zca (s.vol b hb) hst.size,s.yal,fun k x h1 h2=> ?_,s.lbl⟩
 ·rcases hget k x hx with ⟨rfl,rfl⟩ | ⟨hkK,hkn,h1⟩
  ·exact ⟨hlkK.1,fun j hj=>(by cases hj),⟨by simp,by simp,fun _=>rfl,by rw [hcK];omega,fun hc=>by omega⟩,fun hc=>by omega⟩
  ·obtain ⟨q1,q2,q3,q4⟩:=s.key k x h1;refine ⟨q1,q2,HEnt.sat_go q3 (fun hc=>hst.block _ (HEnt.lt q3 hc) ?_) hKp ⟨rfl,rfl⟩ fun _ _=>⟨rfl,rfl⟩,q4⟩;rintro (⟨j,hj,hcj,e⟩ | hb)
   ·obtain ⟨y,hy⟩:=hks j hj;exact s.inj k j x y h1 hy (fun e=>hkn (e▸hj)) hc hcj e
   ·exact (q4 hc).2.1 (hDv _ hb)
 ·rcases hget k x hx with ⟨rfl,_⟩ | ⟨_,_,h1⟩
  ·omega
  ·rcases hget k' x' hx' with ⟨rfl,_⟩ | ⟨_,_,h2⟩
   ·omega
   ·exact s.inj k k' x x' h1 h2 hne hc hc'
 ·refine (hst.block b (zca hb s.fr.size) fun h'=> ?_).trans (s.fr.block b hb hl hv);rcases hch b h' with ⟨k,x,hx,hc,rfl⟩ | h2
  ·rcases ((s.key k x hx).2.2.2 hc).1 with h3 | h3
   ·omega
   ·exact hl h3
  ·exact hv h2
 ·obtain ⟨p1,p2,p3,p4,p5⟩:=s.pin x hx;refine ⟨(hst.block _ (xa7 p1) fun h'=> ?_).trans p1,p2,p3,p4,p5⟩;rcases hch _ h' with ⟨k,y,hy,hc,e⟩ | h2
  ·obtain ⟨o,h1,h2⟩:=HEnt.data (s.key k y hy).2.2.1 hc;rw [<-e,p1] at h1;cases h1;rw [p2] at h2;cases h2
  ·exact p4 h2
 ·have e:k=K:=by rw [hp.yk] at h1;exact (Option.some.inj h1).symm
  subst e;rcases hget k x h2 with ⟨_,rfl⟩ | ⟨hne,_⟩
  ·show c.J m _ _ w';rw [hp.J];refine ⟨hJ,fun b hb=>⟨hDv b hb,fun hO=> ?_,zca (hj.2 b hb).2.2 hst.size⟩⟩;refine (hj.2 b hb).2.1 ?_;rcases hO with h3 | h3
   ·exact .inl (hown b h3)
   ·exact .inr h3
  ·exact absurd rfl hne
theorem SatL.free {F F':Dom} {w:World} {η:Env}: ∀{ps:List Ent} {vs:List Value},(∀e∈ps,Wk e e)->SatL F w η ps vs->SatL F' w η ps vs
 | [],[],_,_=>trivial
 | _::_,_::_,h,hs=>⟨(h _ (by simp)).sat hs.1 ⟨rfl,rfl⟩,SatL.free (fun e he=>h e (by simp [he])) hs.2⟩
 | [],_::_,_,hs=>hs.elim
 | _::_,[],_,hs=>hs.elim
theorem qj8 {f:FuncId} {xs:List Operand} {aT:Array TypeId} {H h1:List (Nat×HEnt)} {ps:List Ent} {w0:World} {η0:Env} {H0:List (Nat×HEnt)} {K n m:Nat} {r:Value} (ρ:Nat->Nat) (hp:OvC c w0 η0 H0 K X) (hc:CtU P X f H ps n m r) (hf:FnI P f) (hl:xs.length=ps.length)
  (e1:H.map (fun x=>(ρ x.1,x.2.ren ρ))=h1) (hij:injN ρ (H.map (·.1))=true) (hps: ∀e∈ps,Wk e e) (hHs: ∀x∈H,∀e∈x.2.ts,Wk e e):
  Does P c ⟨some d,.call {callee:= .value (.func f),args:=xs.toArray,argTypes:=aT},ty,pos,af,gd⟩ ⟨xs.zip (ps.map (Ent.ren ρ)),(K,⟨n,1,false,[]⟩)::h1,some (d,some (.val (tE r))),H.map (fun x=>(ρ x.1,none))++[(K,some ⟨m,1,false,[]⟩)],[]⟩:=by
 subst e1;intro g h al a w hpre ⟨η,s⟩;obtain ⟨fn,f1,f2,f3⟩:=hf;obtain ⟨hsat,hal⟩:=SatL.of s xs ps hpre.rd hl;have hrun:(execOp a.eval ⟨some d,.call {callee:= .value (.func f),args:=xs.toArray,argTypes:=aT},ty,pos,af,gd⟩).run P w= .ok (.enter f (xs.map a.eval).toArray) w:=by
  simp only [execOp,resolve,Act.eval,Deferred.ofValue,zbv,zbw,zbm,invoke];simp only [zdx,zdt,zcu];exact xh4 f1 f2 f3 _ w
 have hKk:h K=some ⟨n,1,false,[]⟩:=hpre.kr.1;have hH':=Kr.ren (h:=h) (ρ:=ρ) (H:=H) hpre.kr.2;have hj:=s.jj K _ hp.yk hKk;have hj:c.J n _ _ w:=hj;rw [hp.J] at hj;have hownH: ∀b,OwnK (η.pre ρ) H b->Own h η b:=by
  rintro b ⟨x,hx,hcx,rfl⟩;exact ⟨ρ x.1,_,hH' x hx,hcx,rfl⟩
 have hall:AllK (fun _=>False) w (η.pre ρ) H:=fun x hx=>by
  obtain ⟨p1,p2,p3,p4,p5⟩:=HEnt.sat_ren.1 (s.key _ _ (hH' x hx)).2.2.1;refine ⟨p1,p2,p3,p4,fun hc0=> ?_⟩;obtain ⟨cs,c1,c2,c3⟩:=p5 hc0;exact ⟨cs,c1,c2,fun i e hi=>(hHs x hx e (zef hi)).sat (c3 i e hi) ⟨rfl,rfl⟩⟩
 refine xm3 hrun (zec (hc w (η.pre ρ) (xs.map a.eval) (SatL.free hps hsat) hall (fun x hx y hy hne hcx hcy=> ?_) (fun b hb=>⟨(hj.2 b hb).2.2,fun ho=>(hj.2 b hb).2.1 (.inl (hownH b ho))⟩) hj.1) ?_)
 ·exact s.inj (ρ x.1) (ρ y.1) _ _ (hH' x hx) (hH' y hy) (xt1 hij x.1 y.1 (zdd hx) (zdd hy) hne) hcx hcy
 ·rintro e w' ⟨rfl,hst,hJ⟩;refine ⟨_,rfl,?_⟩;have s2:=s.after hp (H.map fun x=>ρ x.1) (fun k hk=>by obtain ⟨x,hx,rfl⟩:=zcp.1 hk;exact ⟨_,hH' x hx⟩) hKk (hst.mono fun b _ hb=>hb.imp (fun ⟨x,hx,hcx,e⟩=>⟨ρ x.1,zdd (f:=fun x=>ρ x.1) hx,hcx,e⟩) id) hJ;rw [List.map_map] at s2;exact ⟨_,s2.put (hpre.d _ rfl) (e:= .val (tE r)) rfl fun k hk=>by cases hk⟩
end
section
variable {P:Program} {c:Base} {d ty:Nat} {pos:String} {af:Array Edge} {gd:Option (Nat×Bool)}
def hd0:Hd×List Nat:=(⟨none,0,0⟩,[])
theorem jt6 {T T' K q:Nat} {V:Dom} {us:List (Hd×List Nat)} {f:FuncId} {x:Operand} {aT:Array TypeId} {w0:World} {η0:Env} {H0:List (Nat×HEnt)} (hp:OvC c w0 η0 H0 K (XI T V us))
  (hc:CtG P f ((20,⟨T',1,false,owns us.length 1 fun j=>(us.getD j hd0).2.length⟩)::poolL us.length fun j=>⟨T,1,false,rW .u16 (us.getD j hd0).2⟩) [.own (.sl 20 1 0 us.length)] (.val (tB true)) [] []) (hf:FnI P f) (hsep:SepH (us.map (·.1))):
  Does P c ⟨some d,.call {callee:= .value (.func f),args:=[x].toArray,argTypes:=aT},ty,pos,af,gd⟩ ⟨[(x,.own (.sl q 1 0 us.length))],[(K,⟨0,1,false,[]⟩),(q,⟨T',1,false,rV tH (us.map (·.1))⟩)],some (d,some (.val (tB true))),[(q,none),(K,some ⟨1,1,false,[]⟩)],[]⟩:=by
 intro g h al a w hpre ⟨η,s⟩;obtain ⟨fn,f1,f2,f3⟩:=hf;have hrun:(execOp a.eval ⟨some d,.call {callee:= .value (.func f),args:=[x].toArray,argTypes:=aT},ty,pos,af,gd⟩).run P w= .ok (.enter f ([x].map a.eval).toArray) w:=by
  simp only [execOp,resolve,Act.eval,Deferred.ofValue,zbv,zbw,zbm,invoke];simp only [zdx,zdt,zcu];exact xh4 f1 f2 f3 _ w
 have hKk:h K=some ⟨0,1,false,[]⟩:=hpre.kr.1;have hq:h q=some ⟨T',1,false,rV tH (us.map (·.1))⟩:=hpre.kr.2.1;have hj:=s.jj K _ hp.yk hKk;have hj:c.J 0 _ _ w:=hj;rw [hp.J] at hj;have hJ0:=hj.1 rfl;have hDv: ∀b,(∃u∈us,u.1.b=some b)->η.vo b:=fun b hb=>(hj.2 b (.inr hb)).1;obtain ⟨_,_,⟨p1,p2,p3,p4,p5⟩,p6⟩:=s.key q _ hq;have p1:us.length<=η.c q:=by simpa [rV] using p1
 obtain ⟨A,a1,a2,a3⟩:=(xa0 s hpre.rd.1).1;have hat: ∀j,j < us.length-> ∃u,us[j]? =some u/\us.getD j hd0=u/\u∈us:=fun j hj=>⟨us[j],zbi hj,by rw [zbh,zbi hj];rfl,zfx hj⟩
 obtain ⟨η2,hη⟩: ∃η2:Env,η2=⟨fun k=>if k=20 then η.b q else ((us.getD (k - 100) hd0).1.b).getD 0,fun k=>if k=20 then η.c q else (us.getD (k - 100) hd0).1.c,fun _=>False⟩:=⟨_,rfl⟩
 have b20:η2.b 20=η.b q:=by rw [hη];simp
 have c20:η2.c 20=η.c q:=by rw [hη];simp
 have bj: ∀j,η2.b (j+100)=((us.getD j hd0).1.b).getD 0:=fun j=>by rw [hη];simp
 have cj: ∀j,η2.c (j+100)=(us.getD j hd0).1.c:=fun j=>by rw [hη];simp
 have hpt: ∀j,j < us.length->0 < (us.getD j hd0).1.c->(us.getD j hd0).1.b=some (η2.b (j+100))/\(us.getD j hd0).1.A=some ⟨η2.b (j+100),0,none⟩/\ ∃cs,w.heap[η2.b (j+100)]? =some (.cells cs T (0,0))/\cs.size=(us.getD j hd0).1.c/\ ∀(i x:Nat),(us.getD j hd0).2[i]? =some x->cs.getD i undef= .int .u16 (x:Int):=fun j hj hcj=>by
  obtain ⟨u,_,h2,h3⟩:=hat j hj;rw [bj,h2];rw [h2] at hcj;obtain ⟨_,_,_,_,e5⟩:=hJ0 u h3;obtain ⟨b,cs,e1,e2,e3⟩:=e5 hcj;have hb:u.1.b=some b:=by simp [Hd.b,e1,hcj]
  rw [hb];exact ⟨rfl,e1,cs,e3⟩
 have hmem: ∀y,y∈((20,⟨T',1,false,owns us.length 1 fun j=>(us.getD j hd0).2.length⟩)::poolL us.length fun j=>⟨T,1,false,rW .u16 (us.getD j hd0).2⟩:List (Nat×HEnt))->y=(20,⟨T',1,false,owns us.length 1 fun j=>(us.getD j hd0).2.length⟩)∨ ∃j,j < us.length/\y=(j+100,⟨T,1,false,rW .u16 (us.getD j hd0).2⟩):=fun y hy=>by
  rcases zbr.1 hy with h1 | h1
  ·exact .inl h1
  ·obtain ⟨j,hj,rfl⟩:=zcp.1 h1;exact .inr ⟨j,zdp.1 hj,rfl⟩
 have hlen: ∀j,j < us.length->(us.getD j hd0).1.n=(us.getD j hd0).2.length/\(us.getD j hd0).1.n<=(us.getD j hd0).1.c/\(us.getD j hd0).1.c<=9223372036854775807:=fun j hj=>by
  obtain ⟨u,_,h2,h3⟩:=hat j hj;rw [h2];obtain ⟨_,e2,e3,e4,_⟩:=hJ0 u h3;exact ⟨e2,e3,e4⟩
 have hown20:0 < η.c q-> ¬η.vo (η.b q):=fun hc0=>(p6 hc0).2.1;have hsp: ∀i j,i < us.length->j < us.length->i≠j->0 < (us.getD i hd0).1.c->0 < (us.getD j hd0).1.c->η2.b (i+100)≠η2.b (j+100):=by
  have key: ∀i j,i < j->j < us.length->0 < (us.getD i hd0).1.c->0 < (us.getD j hd0).1.c->η2.b (i+100)≠η2.b (j+100):=fun i j hij hj hi hjc e=>by
   have h1:=zfi.1 hsep i j (by simpa using Nat.lt_trans hij hj) (by simpa using hj) hij;simp only [List.getElem_map] at h1;have g1:us.getD i hd0=us[i]:=by rw [zbh,zbi (Nat.lt_trans hij hj)];rfl
   have g2:us.getD j hd0=us[j]:=by rw [zbh,zbi hj];rfl
   refine h1 (η2.b (i+100)) ?_ ?_
   ·rw [<-g1];exact (hpt i (Nat.lt_trans hij hj) hi).1
   ·rw [<-g2,e];exact (hpt j hj hjc).1
  intro i j hi hj hne hci hcj;rcases Nat.lt_or_gt_of_ne hne with h1 | h1
  ·exact key i j h1 hj hci hcj
  ·exact (key j i h1 hi hcj hci).symm
 have hvo: ∀j,j < us.length->0 < (us.getD j hd0).1.c->η.vo (η2.b (j+100)):=fun j hj hcj=>by
  obtain ⟨u,_,h2,h3⟩:=hat j hj;refine hDv _ ⟨u,h3,?_⟩;rw [<-h2];exact (hpt j hj hcj).1
 refine xm3 hrun (zec (hc (fun _=>False) w η2 ([x].map a.eval) ⟨?_,trivial⟩ (fun y hy=> ?_) (fun y hy z hz hne hcy hcz=> ?_) (fun b hb=>hb.elim)) ?_)
 ·refine ⟨A,?_,?_,?_⟩
  ·rw [c20];exact a1
  ·rw [c20];exact a2
  ·rw [c20,b20];exact a3
 ·rcases hmem y hy with rfl | ⟨j,hj,rfl⟩
  ·refine ⟨by rw [c20,zs3];exact p1,by simp,fun _=>rfl,by rw [c20];exact p4,fun hc0=> ?_⟩;rw [c20] at hc0;obtain ⟨cs,m1,m2,m3⟩:=p5 hc0;refine ⟨cs,by rw [b20];exact m1,by rw [c20];exact m2,fun i e hi=> ?_⟩;have hil:i < us.length:=by have:=(zbn.1 hi).1;rwa [zs3] at this
   rw [xz6 hil] at hi;cases hi;obtain ⟨u,u1,u2,u3⟩:=hat i hil;have hv:pick false 1 cs (i*1)=u.1.v:=m3 i (.val (tH u.1)) (by simp [rV,u1]);refine ⟨u.1.A,?_,?_,fun hc1=> ?_⟩
   ·rw [hv,cj,u2];have:=hlen i hil;rw [u2] at this;simp only [Hd.v,Nat.sub_zero,this.1]
   ·rw [cj];have:=hlen i hil;omega
   ·rw [cj] at hc1;have:=(hpt i hil hc1).2.1;rw [u2] at this;rw [zdz];exact this
  ·refine ⟨?_,by simp,fun _=>rfl,?_,fun hc0=> ?_⟩
   ·show (rW .u16 _).length<=η2.c (j+100);rw [cj];have:=hlen j hj;simp only [rW,zcq];omega
   ·show η2.c (j+100)<=_;rw [cj];exact (hlen j hj).2.2
   ·have hc0:0 < η2.c (j+100):=hc0;rw [cj] at hc0;obtain ⟨_,_,cs,e1,e2,e3⟩:=hpt j hj hc0;refine ⟨cs,e1,by show cs.size=η2.c (j+100)*1;rw [cj,e2,zee],fun i e hi=> ?_⟩;simp only [rW,zbu] at hi;obtain ⟨x,hx,rfl⟩:=zdn.1 hi;show pick false 1 cs (i*1)=_;have:=e3 i x hx;simpa [pick] using this
 ·rcases hmem y hy with rfl | ⟨i,hi,rfl⟩ <;> rcases hmem z hz with rfl | ⟨j,hj,rfl⟩
  ·exact absurd rfl hne
  ·have hcy:0 < η2.c 20:=hcy;have hcz:0 < η2.c (j+100):=hcz;show η2.b 20≠η2.b (j+100);intro e;rw [c20] at hcy;rw [cj] at hcz;refine hown20 hcy ?_;rw [<-b20,e];exact hvo j hj hcz
  ·have hcy:0 < η2.c (i+100):=hcy;have hcz:0 < η2.c 20:=hcz;show η2.b (i+100)≠η2.b 20;intro e;rw [c20] at hcz;rw [cj] at hcy;refine hown20 hcz ?_;rw [<-b20,<-e];exact hvo i hi hcy
  ·have hcy:0 < η2.c (i+100):=hcy;have hcz:0 < η2.c (j+100):=hcz;rw [cj] at hcy hcz;exact hsp i j hi hj (fun e=>hne (by rw [e])) hcy hcz
 ·rintro e w' ⟨v,η',rfl,ho⟩;refine ⟨v,rfl,?_⟩;have s2:=s.after (m:=1) hp [q] (fun k hk=>by cases zbj.1 hk;exact ⟨_,hq⟩) hKk (ho.stp.mono fun b _ hb=>by
   obtain ⟨y,hy,hcy,rfl⟩:=hb;rcases hmem y hy with rfl | ⟨j,hj,rfl⟩
   ·have hcy:0 < η2.c 20:=hcy;exact .inl ⟨q,by simp,by rw [<-c20];exact hcy,b20⟩
   ·have hcy:0 < η2.c (j+100):=hcy;rw [cj] at hcy;obtain ⟨u,_,u2,u3⟩:=hat j hj;refine .inr (.inr ⟨u,u3,?_⟩);rw [<-u2];exact (hpt j hj hcy).1) (fun h0=>by cases h0)
  exact ⟨_,s2.put (hpre.d _ rfl) (e:= .val (tB true)) ho.res fun k hk=>by cases hk⟩
end
def SzB (m:Nat) (F:Dom) (w:World):Prop:=m=0∨ ∃b o,F b/\w.heap[b]? =some o/\isData o=true/\m<=b+1
def tSz (m:Nat) (t:Ty):Ty:=⟨fun F w v=>t.p F w v/\SzB m F w,fun ⟨h1,h2⟩ hk=>⟨t.mono h1 hk,h2.imp id fun ⟨b,o,e1,e2,e3,e4⟩=>⟨b,o,(hk b o e1 e2 e3).1,(hk b o e1 e2 e3).2,e3,e4⟩⟩⟩
instance {m:Nat} {t:Ty} {n:Nat} {agg:Bool} [h:Shape t n agg]:Shape (tSz m t) n agg:=⟨fun hp=>h.flat hp.1⟩
instance {ι:Type} {I:ι->Prop} {r:ι->Ty} {n:Nat} {agg:Bool} [h: ∀i,Shape (r i) n agg]:Shape (tEx I r) n agg:=⟨fun ⟨i,_,hp⟩=>(h i).flat hp⟩
theorem SzB.lt {m:Nat} {F:Dom} {w:World} (h:SzB m F w):m<=w.heap.size:=by
 rcases h with h | ⟨b,o,_,h1,_,h2⟩
 ·omega
 ·have:=xa7 h1;omega
section
variable {P:Program} {c:Base} {g:Slots} {h:Keys} {al:Names} {d ty:Nat} {pos:String} {af:Array Edge} {gd:Option (Nat×Bool)} {Q:Exit->Act->World->Prop}
theorem zi1 {ι:Type} {I:Nat->ι->Prop} {r:ι->Ty} {f:FuncId} {x:Operand} {aT:Array TypeId} {t u:Ty} {m:Nat} (hc:CtN P f [u] (fun n=>tEx (I n) r)) (hf:FnI P f) (hle:Le t u):
  Does P c ⟨some d,.call {callee:= .value (.func f),args:=[x].toArray,argTypes:=aT},ty,pos,af,gd⟩ ⟨[(x,.val (tSz m t))],[],some (d,some (.val (tEx (fun i=> ∃n,m<=n/\c.w0.heap.size<=n/\I n i) r))),[],[]⟩:=by
 intro g h al a w hp ⟨η,s⟩;obtain ⟨fn,h1,h2,h3⟩:=hf;have hx:=(xa0 s hp.rd.1).1;have hrun:(execOp a.eval ⟨some d,.call {callee:= .value (.func f),args:=[x].toArray,argTypes:=aT},ty,pos,af,gd⟩).run P w= .ok (.enter f ([x].map a.eval).toArray) w:=by
  simp only [execOp,resolve,Act.eval,Deferred.ofValue,zbv,zbw,zbm,invoke];simp only [zdx,zdt,zcu];exact xh4 h1 h2 h3 _ w
 refine xm3 hrun (zec (hc _ w ([x].map a.eval) ⟨hle _ _ _ hx.1,trivial⟩) ?_);rintro e w' ⟨v,rfl,hext,hv⟩;refine ⟨v,rfl,η,(s.ext hext).put (hp.d _ rfl) (e:= .val _) (Ty.mono _ (F:=fun b=>w.heap.size<=b∨c.dom h η b) (w:=w') ?_ fun b o hb hl _=>⟨?_,hl⟩) (fun k hk=>by cases hk)⟩
 ·obtain ⟨i,h4,h5⟩:=hv;exact ⟨i,⟨w.heap.size,hx.2.lt,s.fr.size,h4⟩,h5⟩
 ·rcases hb with hb | hb
  ·exact xn9 s hb
  ·exact hb
theorem St'.rekey {a:Act} {w:World} {η:Env} (s:St' c g h al a w η) {k T es:Nat} {agg:Bool} {ts ts':List Ent} (hk:h k=some ⟨T,es,agg,ts⟩) (hl:ts'.length=ts.length) (hs: ∀j∈ts'.flatMap Ent.supp,al j=true)
  (H: ∀(cs:Array Value) (i:Nat) (e':Ent),w.heap[η.b k]? =some (.cells cs T (0,0))->ts'[i]? =some e'-> ∃e:Ent,ts[i]? =some e/\(e.sat (c.dom h η) w η (pick agg es cs (i*es))->e'.sat (c.dom h η) w η (pick agg es cs (i*es)))):St' c g (upd h k (some ⟨T,es,agg,ts'⟩)) al a w η:=by
 have hget: ∀k' x,upd h k (some ⟨T,es,agg,ts'⟩) k'=some x->(k'=k/\x=⟨T,es,agg,ts'⟩)∨(k'≠k/\h k'=some x):=fun k' x hx=>by
  by_cases e:k'=k
  ·subst e;rw [xa9] at hx;cases hx;exact .inl ⟨rfl,rfl⟩
  ·rw [xa4 _ _ _ e] at hx;exact .inr ⟨e,hx⟩
 have hsome: ∀k' x,upd h k (some ⟨T,es,agg,ts'⟩) k'=some x-> ∃y,h k'=some y/\y.T=x.T:=fun k' x hx=>by
  rcases hget k' x hx with ⟨rfl,rfl⟩ | ⟨_,h1⟩
  ·exact ⟨_,hk,rfl⟩
  ·exact ⟨_,h1,rfl⟩
 have hown: ∀b,Own (upd h k (some ⟨T,es,agg,ts'⟩)) η b->Own h η b:=by
  rintro b ⟨k',x,hx,hc,rfl⟩;obtain ⟨y,h1,_⟩:=hsome k' x hx;exact ⟨k',y,h1,hc,rfl⟩
 have hKp:Keep (c.dom h η) (c.dom (upd h k (some ⟨T,es,agg,ts'⟩)) η) w w:=fun b o hb hl _=>⟨⟨hb.1,fun ho=>hb.2.1 (hown b ho),hb.2.2⟩,hl⟩
 refine s.turn (fun _ h=>h) (fun _ _=>⟨rfl,rfl⟩) rfl (Stp.refl _ _) (fun b hb=>⟨s.olt (hown b hb),.inl (hown b hb)⟩) (fun k' x hx _=> ?_) (fun k1 k2 x1 x2 h1 h2=> ?_) (fun k' x _ hx=> ?_)
 ·rcases hget k' x hx with ⟨rfl,rfl⟩ | ⟨_,h1⟩
  ·obtain ⟨q1,_,⟨p1,p2,p3,p4,p5⟩,_⟩:=s.key _ _ hk;refine ⟨q1,hs,by simp only at p1 ⊢;omega,p2,p3,p4,fun hc=> ?_⟩;obtain ⟨cs,c1,c2,c3⟩:=p5 hc;refine ⟨cs,c1,c2,fun i e' hi=> ?_⟩;obtain ⟨e,h2,h3⟩:=H cs i e' c1 hi;exact Ent.sat_go (h3 (c3 i e h2)) hKp fun _ _=>⟨rfl,rfl⟩
  ·obtain ⟨q1,q2,q3,_⟩:=s.key _ _ h1;exact ⟨q1,q2,HEnt.sat_go q3 (fun _=>rfl) hKp ⟨rfl,rfl⟩ fun _ _=>⟨rfl,rfl⟩⟩
 ·obtain ⟨y1,g1,_⟩:=hsome k1 x1 h1;obtain ⟨y2,g2,_⟩:=hsome k2 x2 h2;exact s.inj k1 k2 y1 y2 g1 g2
 ·obtain ⟨y,h1,h2⟩:=hsome k' x hx;exact ⟨y,h1,h2⟩
theorem qv3: ∀us:List Hd,∃m,OldH m us/\(m=0∨ ∃u∈us,∃b,u.b=some b/\m=b+1)
 | []=>⟨0,(fun _ hu=>by cases hu),.inl rfl⟩
 | u::r=>by
  obtain ⟨m,h1,h2⟩:=qv3 r;cases hb:u.b with
  | none=>exact ⟨m,(fun v hv b hb'=>by
    rcases zbr.1 hv with rfl | hv
    ·rw [hb] at hb';cases hb'
    ·exact h1 v hv b hb'),h2.imp id fun ⟨v,hv,b,hb⟩=>⟨v,by simp [hv],b,hb⟩⟩
  | some b0=>
   rcases zcx b0 m with h3 | h3
   ·exact ⟨m,(fun v hv b hb'=>by
     rcases zbr.1 hv with rfl | hv
     ·rw [hb] at hb';cases hb';exact h3
     ·exact h1 v hv b hb'),h2.imp id fun ⟨v,hv,b,hb⟩=>⟨v,by simp [hv],b,hb⟩⟩
   ·exact ⟨b0+1,(fun v hv b hb'=>by
     rcases zbr.1 hv with rfl | hv
     ·rw [hb] at hb';cases hb';omega
     ·have:=h1 v hv b hb';omega),.inr ⟨u,by simp,b0,hb,rfl⟩⟩
theorem qa7 {x:Code} {k T es T':Nat} {agg:Bool} {t:Ty} {us:List (Hd×List Nat)} (vs:List Hd) (t':Nat->Ty) (hk:h k=some ⟨T,es,agg,[.val t]⟩) (ht: ∀m F w v,t.p F w v->SzB m F w->(t' m).p F w v) (hi:ItSt T' c g h us) (he:us.map (·.1)=vs)
  (H: ∀m,OldH m vs->wc P c x Q g (upd h k (some ⟨T,es,agg,[.val (t' m)]⟩)) al):wc P c x Q g h al:=fun a w ⟨η,s⟩=>by
 subst he;obtain ⟨m,h1,h2⟩:=qv3 (us.map (·.1));refine H m h1 a w ⟨η,s.rekey hk rfl (fun j hj=>by cases hj) fun cs0 i e' _ he=> ?_⟩;cases i with
 | succ i=>simp at he
 | zero=>
  cases he;refine ⟨_,rfl,fun hv=>ht m _ _ _ hv (h2.imp id fun ⟨u,hu,b,hb,e⟩=> ?_)⟩;obtain ⟨u',hu',rfl⟩:=zcp.1 hu;obtain ⟨h3,cs,h4⟩:=zh3 (hi al a w η s u' hu') hb;exact ⟨b,_,h3,h4,rfl,by omega⟩
theorem zf9 {x:Code} {k T es:Nat} {agg:Bool} {t:Ty} {ts:List Ent} {ι:Type} {I:ι->Prop} (r:ι->Ty) (hk:h k=some ⟨T,es,agg,ts++[.val t]⟩) (hle:Le t (tEx I r))
  (H: ∀i,I i->wc P c x Q g (upd h k (some ⟨T,es,agg,ts++[.val (r i)]⟩)) al):wc P c x Q g h al:=fun a w ⟨η,s⟩=>by
 obtain ⟨q1,q2,⟨p1,_,_,_,p5⟩,_⟩:=s.key k _ hk;have hc:0 < η.c k:=by simp at p1;omega
 obtain ⟨cs,c1,c2,c3⟩:=p5 hc;have hl:=c3 ts.length (.val t) (by simp);obtain ⟨i,hi,hr⟩:=hle _ _ _ hl;have hsup: ∀j∈(ts++[Ent.val (r i)]).flatMap Ent.supp,al j=true:=fun j hj=>by
  rw [zeu,zbo] at hj;rcases hj with hj | hj
  ·exact q2 j (by simp only [HEnt.supp,zeu,zbo];exact .inl hj)
  ·simp [Ent.supp] at hj
 refine H i hi a w ⟨η,s.rekey hk (by simp) hsup fun cs' j e' hcs hj=> ?_⟩;rcases zcx j ts.length with hlt | hge
 ·rw [zdo hlt] at hj;exact ⟨e',by rw [zdo hlt];exact hj,id⟩
 ·have hjl:=(zbn.1 hj).1;have e1:j=ts.length:=by simp at hjl;omega
  subst e1;simp only [zeg (zbs _),Nat.sub_self,zco,zci] at hj;subst hj;rw [c1] at hcs;cases hcs;exact ⟨.val t,by simp,fun _=>hr⟩
end
structure Kw where
  p:Dom->World->Prop
  mono: ∀{F F':Dom} {w w':World},p F w->Keep F F' w w'->p F' w'
def tKG (K:Kw) (t:Ty):Ty:=⟨fun F w v=>t.p F w v/\K.p F w,fun h hk=>⟨t.mono h.1 hk,K.mono h.2 hk⟩⟩
def tK (K:Kw):Ty:=⟨fun F w _=>K.p F w,fun h hk=>K.mono h hk⟩
instance {K:Kw} {t:Ty} {n:Nat} {agg:Bool} [h:Shape t n agg]:Shape (tKG K t) n agg:=⟨fun hp=>h.flat hp.1⟩
section
variable {P:Program} {c:Base} {g:Slots} {h:Keys} {al:Names} {d ty:Nat} {pos:String} {af:Array Edge} {gd:Option (Nat×Bool)} {Q:Exit->Act->World->Prop}
end
section
variable {P:Program} {c:Base} {d ty:Nat} {pos:String} {af:Array Edge} {gd:Option (Nat×Bool)}
end
section
variable {P:Program} {c:Base} {g:Slots} {h:Keys} {al:Names} {Q:Exit->Act->World->Prop}
end
section
variable {P:Program} {c:Base} {d ty:Nat} {pos:String} {af:Array Edge} {gd:Option (Nat×Bool)}
end
section
variable {P:Program} {c:Base} {g:Slots} {h:Keys} {al:Names} {Q:Exit->Act->World->Prop}
end
section
variable {P:Program} {c:Base} {d ty:Nat} {pos:String} {af:Array Edge} {gd:Option (Nat×Bool)}
end
end An
namespace An.S
open Go Go.Proofs An Tryz
theorem jb3 {ι:Type} {I:ι->Prop} {r:ι->Ty} (i:ι) (h:I i):Le (r i) (tEx I r):=fun _ _ _ hp=>⟨i,h,hp⟩
theorem SepH.nil:SepH []:=List.Pairwise.nil
theorem NewH.nil {n:Nat}:NewH n []:=fun _ hu=>by cases hu
theorem SepH.one {u:Hd}:SepH [u]:=zge _ _
theorem jv7 {n:Nat} {u v:Hd} (h1:OldH n [u]) (h2:NewH n [v]):SepH [u,v]:=SepH.app (us:=[u]) (vs:=[v]) SepH.one SepH.one h1 h2
abbrev tWhX (x:Wh) (u:Hd):Ty:=tS [⟨1,false,tB x.neg⟩,⟨1,false,tLmX 64 u x.l⟩]
abbrev tFrX (f:Fr) (n d:Hd):Ty:=tS [⟨2,true,tWhX f.n n⟩,⟨2,true,tWhX f.d d⟩]
abbrev tVaX (v:Va) (n d:Hd):Ty:=tS [⟨1,false,tE (.int .u8 (v.kind:Int))⟩,⟨4,true,tFrX v.f n d⟩,⟨1,false,tI v.i⟩]
abbrev tVaY (v:Va) (n:Hd):Ty:=tS [⟨1,false,tE (.int .u8 (v.kind:Int))⟩,⟨4,true,tS [⟨2,true,tWhX v.f.n n⟩,⟨2,true,tWh v.f.d⟩]⟩,⟨1,false,tI v.i⟩]
theorem qu9 {x:Wh} {u:Hd}:Le (tWhX x u) (tWh x):=Le.tS ⟨⟨rfl,rfl,zao⟩,⟨rfl,rfl,lmX_le⟩,trivial⟩
theorem frX_le {f:Fr} {n d:Hd}:Le (tFrX f n d) (tFr f):=Le.tS ⟨⟨rfl,rfl,qu9⟩,⟨rfl,rfl,qu9⟩,trivial⟩
theorem je8 {v:Va} {n d:Hd}:Le (tVaX v n d) (tVa v):=Le.tS ⟨⟨rfl,rfl,zao⟩,⟨rfl,rfl,frX_le⟩,⟨rfl,rfl,zao⟩,trivial⟩
theorem upNX (v:Va) (u:Hd):Up (tVa v) (1+(0+1)) 1 false (tLmX 64 u v.f.n.l) (tVaY v u):=
 Up.t (t1:=tFr v.f) (t1':=tS [⟨2,true,tWhX v.f.n u⟩,⟨2,true,tWh v.f.d⟩]) (At.g 1 rfl rfl) (Up.f (f:=⟨4,true,tFr v.f⟩) 1 rfl rfl rfl) (Up.t (t1:=tWh v.f.n) (t1':=tWhX v.f.n u) (At.g 0 rfl rfl) (Up.f (f:=⟨2,true,tWh v.f.n⟩) 0 rfl rfl rfl) (Up.f (f:=⟨1,false,tLm v.f.n.l⟩) 1 rfl rfl rfl))
theorem upDX (v:Va) (n u:Hd):Up (tVaY v n) (1+(2+1)) 1 false (tLmX 64 u v.f.d.l) (tVaX v n u):=
 Up.t (t1:=tS [⟨2,true,tWhX v.f.n n⟩,⟨2,true,tWh v.f.d⟩]) (t1':=tFrX v.f n u) (At.g 1 rfl rfl) (Up.f (f:=⟨4,true,tS [⟨2,true,tWhX v.f.n n⟩,⟨2,true,tWh v.f.d⟩]⟩) 1 rfl rfl rfl) (Up.t (t1:=tWh v.f.d) (t1':=tWhX v.f.d u) (At.g 1 rfl rfl) (Up.f (f:=⟨2,true,tWh v.f.d⟩) 1 rfl rfl rfl) (Up.f (f:=⟨1,false,tLm v.f.d.l⟩) 1 rfl rfl rfl))
structure Zt where
  s:Tst
  n:Hd
  d:Hd
def zt0:Zt:=⟨tst0,⟨none,0,0⟩,⟨none,0,0⟩⟩
abbrev tZt (z:Zt):Ty:=tS [⟨1,false,tI z.s.lo⟩,⟨1,false,tI z.s.hi⟩,⟨6,true,tVaX z.s.v z.n z.d⟩]
theorem zt_le {z:Zt}:Le (tZt z) (tTs z.s):=Le.tS ⟨⟨rfl,rfl,zao⟩,⟨rfl,rfl,zao⟩,⟨rfl,rfl,je8⟩,trivial⟩
def hds (zs:List Zt):List Hd:=zs.flatMap fun z=>[z.n,z.d]
def its (z:Zt):List (Hd×List Nat):=[(z.n,z.s.v.f.n.l),(z.d,z.s.v.f.d.l)]
theorem yf1: ∀{zs:List Zt},(zs.flatMap its).map (·.1)=hds zs
 | []=>rfl
 | z::r=>by rw [zex,zeo,yf1 (zs:=r)];rfl
theorem jv6 {v:Va} {n d:Hd}:Its 64 (tVaX v n d) [(n,v.f.n.l),(d,v.f.d.l)]:=Its.app (us:=[(n,v.f.n.l)]) (us':=[(d,v.f.d.l)]) (.fd 1 rfl (.fd 0 rfl (.fd 1 rfl .lm))) (.fd 1 rfl (.fd 1 rfl (.fd 1 rfl .lm)))
theorem zt_its {z:Zt}:Its 64 (tZt z) (its z):= .fd 2 rfl jv6
theorem yg4 {c:Base} {g:Slots} {h:Keys} {k T:Nat} {zs:List Zt} (hk:h k=some ⟨T,8,true,rV tZt zs⟩):ItSt 64 c g h (zs.flatMap its):= .key hk fun _ _=>zt_its
theorem xp8 {c:Base} {g:Slots} {h:Keys} {k T:Nat} {zs:List Zt} (hk:h k=some ⟨T,8,true,rV tZt zs⟩):WitSt c g h (hds zs):=(yg4 hk).wit yf1
def Grow (nw:Nat) (zs xs:List Zt):Prop:=(SepH (hds zs)->SepH (hds xs))/\ ∀u∈hds xs,u∈hds zs∨ ∀b,u.b=some b->nw<=b
theorem Grow.refl {n:Nat} {zs:List Zt}:Grow n zs zs:=⟨id,fun _ h=> .inl h⟩
theorem Grow.snoc {nw n:Nat} {zs xs:List Zt} {z:Zt} (h:Grow nw zs xs) (hn:nw<=n) (ho:OldH n (hds xs)) (h1:NewH n [z.n,z.d]) (h2:SepH [z.n,z.d]):Grow nw zs (xs++[z]):=by
 have e:hds (xs++[z])=hds xs++[z.n,z.d]:=by simp [hds]
 refine ⟨fun hs=> ?_,fun u hu=> ?_⟩
 ·rw [e];exact (h.1 hs).app h2 ho h1
 ·rw [e] at hu;rcases zbo.1 hu with hu | hu
  ·exact h.2 u hu
  ·exact .inr fun b hb=>zcj hn (h1 u hu b hb)
theorem jw0 {xs ys:List Zt} (h:xs.map (fun z=>(z.n,z.d))=ys.map fun z=>(z.n,z.d)):hds xs=hds ys:=by
 have e: ∀l:List Zt,hds l=(l.map fun z=>(z.n,z.d)).flatMap fun p=>[p.1,p.2]:=fun l=>by simp [hds,List.flatMap_map]
 rw [e,e,h]
theorem qg9 {xs:List Zt} {i:Nat}:(xs.map Zt.s).getD i tst0=(xs.getD i zt0).s:=by
 rw [zbh,zbh,zbu];cases xs[i]? <;> rfl
theorem we0 {xs:List Zt} {s:Tst} {i:Nat} (hi:i < xs.length):hds (xs.set i ⟨s,(xs.getD i zt0).n,(xs.getD i zt0).d⟩)=hds xs:=jw0 (by
 rw [List.map_set,zbh,zbi hi];apply zfk;intro j;rw [zgf];by_cases hj:i=j
 ·subst hj;simp [hi]
 ·rw [if_neg hj])
theorem Grow.set {nw:Nat} {zs xs:List Zt} {s:Tst} {i:Nat} (h:Grow nw zs xs) (hi:i < xs.length):Grow nw zs (xs.set i ⟨s,(xs.getD i zt0).n,(xs.getD i zt0).d⟩):=by
 rw [Grow,we0 hi];exact h
theorem Grow.trans {nw n:Nat} {zs xs ys:List Zt} (h:Grow nw zs xs) (hn:nw<=n) (h':Grow n xs ys):Grow nw zs ys:=⟨fun hs=>h'.1 (h.1 hs),fun u hu=>(h'.2 u hu).elim (h.2 u) fun h2=> .inr fun b hb=>zcj hn (h2 b hb)⟩
theorem Grow.ends {nw:Nat} {xs:List Zt} (h:Grow nw [] xs):SepH (hds xs)/\NewH nw (hds xs):=⟨h.1 SepH.nil,fun u hu b hb=>(h.2 u hu).elim (fun h'=>by cases h') fun h'=>h' b hb⟩
theorem OldH.le {m n:Nat} {us:List Hd} (h:OldH m us) (hmn:m<=n):OldH n us:=fun u hu b hb=>zca (h u hu b hb) hmn
abbrev tTsZ (m:Nat) (s:Tst):Ty:=tS [⟨1,false,tI s.lo⟩,⟨1,false,tI s.hi⟩,⟨6,true,tSz m (tVa s.v)⟩]
theorem zg5 {s:Tst}: ∀m F w v,(tTs s).p F w v->SzB m F w->(tTsZ m s).p F w v:=fun _ _ _ _ ⟨cs,h1,h2,h3⟩ hs=>⟨cs,h1,h2,h3.1,h3.2.1,⟨h3.2.2.1.1,h3.2.2.1.2,hs⟩,h3.2.2.2⟩
abbrev newIx (m k:Nat) (p:Hd×Hd):Prop:= ∃n,m<=n/\k<=n/\NewH n [p.1,p.2]/\SepH [p.1,p.2]
abbrev tZE (m k:Nat) (s:Tst):Ty:=tS [⟨1,false,tI s.lo⟩,⟨1,false,tI s.hi⟩,⟨6,true,tEx (newIx m k) (fun p=>tVaX s.v p.1 p.2)⟩]
theorem zt7 {m k:Nat} {s:Tst}:Le (tZE m k s) (tEx (newIx m k) fun p=>tZt ⟨s,p.1,p.2⟩):=fun _ _ _ ⟨cs,h1,h2,h3⟩=>by
 obtain ⟨p,hp,hv⟩:=h3.2.2.1.2;exact ⟨p,hp,cs,h1,h2,h3.1,h3.2.1,⟨h3.2.2.1.1,hv⟩,h3.2.2.2⟩
theorem we1 {xs:List Zt} {s:Tst} (h:s.hi<=s.lo):pst1 (xs.map Zt.s) s=xs.map Zt.s:=by rw [pst1,if_pos h]
theorem pX_set {xs:List Zt} {s:Tst} (h1: ¬s.hi<=s.lo) (h2:0 < xs.length) (h3:(xs.getD (xs.length - 1) zt0).s.hi=s.lo) (h4:(xs.getD (xs.length - 1) zt0).s.v=s.v):
  pst1 (xs.map Zt.s) s=(xs.set (xs.length - 1) ⟨⟨(xs.getD (xs.length - 1) zt0).s.lo,s.hi,(xs.getD (xs.length - 1) zt0).s.v⟩,(xs.getD (xs.length - 1) zt0).n,(xs.getD (xs.length - 1) zt0).d⟩).map Zt.s:=by
 rw [pst1,if_neg h1,zcq,qg9,if_pos ⟨h2,h3,h4⟩,List.map_set]
theorem zv0 {xs:List Zt} {s:Tst} {n d:Hd} (h1: ¬s.hi<=s.lo) (h2: ¬(0 < xs.length/\(xs.getD (xs.length - 1) zt0).s.hi=s.lo/\(xs.getD (xs.length - 1) zt0).s.v=s.v)):pst1 (xs.map Zt.s) s=(xs++[(⟨s,n,d⟩:Zt)]).map Zt.s:=by
 rw [pst1,if_neg h1,zcq,qg9,if_neg h2,zeo];rfl
theorem yo5 (v:Va) (h1:v.f.n.l.length<=1000000) (h2:v.f.d.l.length<=1000000):
  CtN Tryz.prog 185 [tVa v] (fun nw=>tEx (fun p:Hd×Hd=>NewH nw [p.1,p.2]/\SepH [p.1,p.2]) (fun p=>tVaX v p.1 p.2)):=by
 refine CtN.intro func185 rfl ntmps185 rfl ?_;intro w F;refine A3 ?_;refine RE (x7 (k:=2) (n:=6) (agg:=true) zr57.1 zr57.2 rfl) trivial trivial qA ?_;refine A3 ?_;refine ya4 ?_;refine xf4 (xh0 fo57_1.h rfl) qA trivial trivial rfl (xf4 (xh0 fo41_0.h rfl) qA trivial trivial rfl (xf4 (xh0 fo39_1.h rfl) qA trivial trivial rfl (xt4 (0) ti37 rfl rfl rfl (At.t (At.g 1 rfl rfl) (At.t (At.g 0 rfl rfl) (At.g 1 rfl rfl))) rfl rfl ?_)));refine yn4 (ts:=[_]) [] (CtN.exact (yi1 _ h1) rfl) fi216 ⟨zao,trivial⟩ rfl qA .nil rfl (fun u1 n1 hn1 ho1 hu1=> ?_);refine xf4 (xh0 fo57_1.h rfl) qA trivial trivial rfl (xf4 (xh0 fo41_0.h rfl) qA trivial trivial rfl (xf4 (xh0 fo39_1.h rfl) qA trivial trivial rfl (xf4 (xj2 (k:=1) (T0:=57) (es:=6) (ts:=[.val (tVa v)]) (0) ti37 rfl (upNX v u1) rfl rfl) qB qA trivial rfl (xp1 ?_))));refine A2 ?_;refine ya4 ?_;refine xf4 (xh0 fo57_1.h rfl) qA trivial trivial rfl (xf4 (xh0 fo41_1.h rfl) qA trivial trivial rfl (xf4 (xh0 fo39_1.h rfl) qA trivial trivial rfl (xt4 (0) ti37 rfl rfl rfl (At.t (At.g 1 rfl rfl) (At.t (At.g 1 rfl rfl) (At.g 1 rfl rfl))) rfl rfl ?_)));refine yn4 (ts:=[_]) [u1] (CtN.exact (yi1 _ h2) rfl) fi216 ⟨zao,trivial⟩ rfl qA ((ItSt.key (T:=64) (k:=1) (f:=fun _:Unit=>tVaY v u1) (zs:=[()]) (us:=fun _=>[(u1,v.f.n.l)]) rfl (fun _ _=> .fd 1 rfl (.fd 0 rfl (.fd 1 rfl .lm)))).wit rfl) rfl (fun u2 n2 hn2 ho2 hu2=> ?_);refine xf4 (xh0 fo57_1.h rfl) qA trivial trivial rfl (xf4 (xh0 fo41_1.h rfl) qA trivial trivial rfl (xf4 (xh0 fo39_1.h rfl) qA trivial trivial rfl (xf4 (xj2 (k:=1) (T0:=57) (es:=6) (ts:=[.val (tVaY v u1)]) (0) ti37 rfl (upDX v u1 u2) rfl rfl) qB qA trivial rfl (xp1 ?_))));refine A8 ?_;exact EC rfl ⟨_,_,_,_,_,rfl,rfl,ti57,(jb3 (I:=fun p:Hd×Hd=>NewH w.heap.size [p.1,p.2]/\SepH [p.1,p.2]) (r:=fun p:Hd×Hd=>tVaX v p.1 p.2) (u1,u2) ⟨NewH.app (us:=[u1]) (vs:=[u2]) (hu1.le hn1) (hu2.le hn2),jv7 ho2 hu2⟩)⟩
theorem za1 (zs:List Zt) (ps:List Tst) (hz:zs.length<=1000000) (hp:ps.length<=1000000) (hD: ∀s∈ps,s.v.f.n.l.length<=1000000/\s.v.f.d.l.length<=1000000):
  CtX Tryz.prog 192 [(1,⟨59,8,true,rV tZt zs⟩)] [.own (.sl 1 8 0 zs.length),.val (tL 8 true tTs ps)] (fun (nw:Nat) (x:List Zt)=>x.map Zt.s=pst (zs.map Zt.s) ps/\Grow nw zs x) (fun x=> .own (.sl 90 8 0 x.length)) (fun x=>[(90,⟨59,8,true,rV tZt x⟩)]) [90]:=by
 refine CtX.intro [1] func192 rfl ntmps192 rfl rfl ⟨⟨rfl,xa5⟩,trivial⟩ ?_;intro w F η;refine jc9 (t:=0) (k:=1) 90 rfl rfl rfl ?_;refine A9 ?_;refine A5 ?_;refine ya2 (fun (fm:(Nat)×(List Zt))=>(fun (i:Nat) (xs:List Zt)=>i<=ps.length/\xs.map Zt.s=pst (zs.map Zt.s) (ps.take i)/\Grow w.heap.size zs xs) fm.1 fm.2) (fun (fm:(Nat)×(List Zt))=>(fun (i:Nat) (xs:List Zt)=>upd (upd (upd (upd (fun _=>none) 0 (some (.own (.sl 90 8 0 xs.length)))) 8 (some (.val (tL 8 true tTs ps)))) 9 (some (.val (tI ps.length)))) 10 (some (.val (tI i)))) fm.1 fm.2) (fun (fm:(Nat)×(List Zt))=>(fun (i:Nat) (xs:List Zt)=>upd (fun _=>none) 90 (some (⟨59,8,true,rV tZt xs⟩))) fm.1 fm.2) (nm [90,1]) (fun (fm:(Nat)×(List Zt))=>(fun (i:Nat) (xs:List Zt)=>ps.length - i) fm.1 fm.2) ((0,zs)) (by dsimp only;exact ⟨zbq _,rfl,Grow.refl⟩) (zae rfl (zae rfl (zan rfl (zan rfl zay)))) ((zaq rfl zap) zax) (zaj (zaj (zaj (zak rfl zar)))) (zam rfl (supJ xa5) zaz) (lkOk rfl) ?_;intro fm hI;obtain ⟨i,xs⟩:=fm;replace hI:i<=ps.length/\xs.map Zt.s=pst (zs.map Zt.s) (ps.take i)/\Grow w.heap.size zs xs:=hI;show wc _ _ _ _ (upd (upd (upd (upd (fun _=>none) 0 (some (.own (.sl 90 8 0 xs.length)))) 8 (some (.val (tL 8 true tTs ps)))) 9 (some (.val (tI ps.length)))) 10 (some (.val (tI i)))) (upd (fun _=>none) 90 (some (⟨59,8,true,rV tZt xs⟩))) _;obtain ⟨hi,hx,hgr⟩:=hI;have hxl:xs.length<=zs.length+i:=by
  have h:=yd1 (ps.take i) (zs.map Zt.s);rw [<-hx,zcq,zcq,zde] at h;omega
 refine A6 ?_;refine x6 rfl (fun h68=> ?_) (fun h68=> ?_)
 ·
  refine A6 ?_;refine R2 (x4 sl51 (i) (by omega) (zai (l:=ps) (n:=i) (d:=tst0))) rfl rfl ?_;refine A1 ?_;refine RE (x7 (k:=6) (n:=8) (agg:=true) zr59.1 zr59.2 rfl) trivial trivial ⟨rfl,trivial⟩ ?_;refine A9 ?_;refine A4 ?_;refine x6 rfl (fun h69=> ?_) (fun h69=> ?_)
  ·
   refine A8 ?_;exact xz8 ((i+1,xs)) ⟨(by dsimp only;exact ⟨by omega,by rw [xs1 _ (by omega),<-hx,we1 (by omega)],hgr⟩),(by dsimp only;omega)⟩ (zae rfl (zae rfl (zan rfl (zan rfl zay)))) ((zaq rfl zap) zax) (zaj (zaj (zaj (zak rfl zar)))) (zam rfl (supJ xa5) zaz) (lkOk rfl)
  ·
   refine A9 ?_;refine A5 ?_;refine RGcaseD (t:=23) rfl (fun h72=> ?_) (fun h72=> ?_)
   ·
    refine A2 ?_;refine RGon (zbg h72) rfl (xd6 zah) rfl ⟨rfl,rfl,trivial⟩ trivial trivial ?_;refine RGon (zbg h72) rfl (zag sl51 rfl) rfl ⟨rfl,rfl,trivial⟩ trivial trivial ?_;refine A1 ?_;refine RGon (zbg h72) rfl (xj6 (es:=8) (o:=1) (xs.length - 1) ti3 (xc4 (d:=zt0) (by omega)) (At.g 1 rfl rfl) (by omega)) rfl ⟨rfl,trivial⟩ ⟨rfl,trivial⟩ trivial ?_;refine A5 ?_;refine RGcaseD (t:=34) rfl (fun h72_2=> ?_) (fun h72_2=> ?_)
    ·
     refine A2 ?_;refine RGon (zbg h72_2) rfl (xd6 zah) rfl ⟨rfl,rfl,trivial⟩ trivial trivial ?_;refine RGon (zbg h72_2) rfl (zag sl51 rfl) rfl ⟨rfl,rfl,trivial⟩ trivial trivial ?_;refine A1 ?_;refine RGon (zbg h72_2) rfl (xj6 (es:=8) (o:=2) (xs.length - 1) ti57 (xc4 (d:=zt0) (by omega)) (At.g 2 rfl rfl) (by omega)) rfl ⟨rfl,trivial⟩ ⟨rfl,trivial⟩ trivial ?_;refine A2 ?_;refine RGon (zbg h72_2) rfl (xq3 (ts:=[tVaX (xs.getD (xs.length - 1) zt0).s.v (xs.getD (xs.length - 1) zt0).n (xs.getD (xs.length - 1) zt0).d,tVa (ps.getD i tst0).v]) (yt2 _ _) fi123 rfl ⟨je8,zao,trivial⟩) rfl ⟨rfl,rfl,trivial⟩ trivial trivial ?_;refine A3 ?_;refine x6 rfl (fun h72_3=> ?_) (fun h72_3=> ?_)
     ·
      refine A6 ?_;refine R2 (zag sl51 rfl) rfl rfl ?_;refine A1 ?_;refine RE (xj2 (es:=8) (o:=1) (t2:=tZt ⟨⟨(xs.getD (xs.length - 1) zt0).s.lo,(ps.getD i tst0).hi,(xs.getD (xs.length - 1) zt0).s.v⟩,(xs.getD (xs.length - 1) zt0).n,(xs.getD (xs.length - 1) zt0).d⟩) (xs.length - 1) ti3 (xc4 (d:=zt0) (by omega)) (Up.g 1 rfl rfl rfl) (by omega) (xi3 rfl)) ⟨rfl,rfl,trivial⟩ ⟨rfl,trivial⟩ trivial ?_;refine A7 ?_;exact xz8 ((i+1,(xs.set (xs.length - 1) ⟨⟨(xs.getD (xs.length - 1) zt0).s.lo,(ps.getD i tst0).hi,(xs.getD (xs.length - 1) zt0).s.v⟩,(xs.getD (xs.length - 1) zt0).n,(xs.getD (xs.length - 1) zt0).d⟩))) ⟨(by dsimp only;exact ⟨by omega,by rw [xs1 _ (by omega),<-hx,pX_set (by omega) (by omega) (by omega) h72_3],hgr.set (by omega)⟩),(by dsimp only;omega)⟩ (zae rfl (zae rfl (zan rfl ((zav rfl (zaw (by dsimp only;rw [zdy]))) zay)))) ((zaq rfl zap) zax) (zaj (zaj (zaj (zak rfl zar)))) (zam rfl (supJ xa5) zaz) (lkOk rfl)
     ·
      refine qa7 (k:=6) (us:=xs.flatMap its) (hds xs) (fun m=>tTsZ m (ps.getD i tst0)) rfl zg5 (yg4 (k:=90) rfl) yf1 (fun m hm=> ?_);refine A8 ?_;refine R1 (zi1 (m:=m) (yo5 _ (hD _ (xi0 (l:=ps) (by omega))).1 (hD _ (xi0 (l:=ps) (by omega))).2) fi185 zao) rfl ?_;refine R3 (xb0 (r:=tS [⟨1,false,tI (ps.getD i tst0).lo⟩,⟨1,false,tI (ps.getD i tst0).hi⟩,⟨6,true,tEx (newIx m w.heap.size) (fun p=>tVaX (ps.getD i tst0).v p.1 p.2)⟩]) (ts:=[(0,tI (ps.getD i tst0).lo),(1,tI (ps.getD i tst0).hi),(2,tEx (newIx m w.heap.size) (fun p=>tVaX (ps.getD i tst0).v p.1 p.2))]) bu59 zr59.2 (Bc 0 rfl rfl rfl (Bc 1 rfl rfl rfl (Bc 2 rfl rfl rfl zao)))) rfl rfl rfl ?_;refine R1 (xb5 (n:=1) (f:=fun s:Tst=>tZE m w.heap.size s) [(ps.getD i tst0)] zhm el59 zf59 rfl (fun _=>inferInstance) rfl rfl rfl) rfl ?_;refine RE (xb3 (k:=90) (k':=62) (f:=fun s:Tst=>tZE m w.heap.size s) (ys:=[(ps.getD i tst0)]) (ts':=rV tZt xs++[.val (tZE m w.heap.size (ps.getD i tst0))]) zhm el59 zf59 rfl rfl (fun _=>inferInstance) xd2 (by simp;omega) (by simp;omega) rfl (n':=xs.length+1) rfl) ⟨rfl,rfl,trivial⟩ ⟨rfl,trivial⟩ ⟨rfl,trivial⟩ ?_;refine A4 ?_;refine zf9 (k:=62) (ts:=rV tZt xs) (fun u:Hd×Hd=>tZt ⟨(ps.getD i tst0),u.1,u.2⟩) rfl zt7 (fun u hu=> ?_);refine yb2 (k:=62) (e':=⟨59,8,true,rV tZt (xs++[(⟨(ps.getD i tst0),u.1,u.2⟩:Zt)])⟩) rfl (by simp [rV]) ?_;obtain ⟨n,hmn,hn,hu1,hu2⟩:=hu;refine A4 ?_;exact xc6 (l:=[90,1]) (zab 90 62) ((i+1,xs++[(⟨(ps.getD i tst0),u.1,u.2⟩:Zt)])) ⟨(by dsimp only;exact ⟨by omega,by rw [xs1 _ (by omega),<-hx,zv0 (n:=u.1) (d:=u.2) (by omega) (fun h=>h72_3 h.2.2)],hgr.snoc hn (OldH.le hm hmn) hu1 hu2⟩),(by dsimp only;omega)⟩ (zaf rfl (zaf rfl (zas rfl ((zbc rfl (zaw (by dsimp only;rw [zbp];rfl))) zbd)))) ((zbb rfl (zat xa6.symm)) zbe) (zaj (zaj (zaj (zak rfl zar)))) (zam rfl (supJ xa5) zaz) (lkOk rfl) rfl rfl (fun _ h=>by cases h)
    ·
     refine A9 ?_;refine A4 ?_;refine qa7 (k:=6) (us:=xs.flatMap its) (hds xs) (fun m=>tTsZ m (ps.getD i tst0)) rfl zg5 (yg4 (k:=90) rfl) yf1 (fun m hm=> ?_);refine A8 ?_;refine R1 (zi1 (m:=m) (yo5 _ (hD _ (xi0 (l:=ps) (by omega))).1 (hD _ (xi0 (l:=ps) (by omega))).2) fi185 zao) rfl ?_;refine R3 (xb0 (r:=tS [⟨1,false,tI (ps.getD i tst0).lo⟩,⟨1,false,tI (ps.getD i tst0).hi⟩,⟨6,true,tEx (newIx m w.heap.size) (fun p=>tVaX (ps.getD i tst0).v p.1 p.2)⟩]) (ts:=[(0,tI (ps.getD i tst0).lo),(1,tI (ps.getD i tst0).hi),(2,tEx (newIx m w.heap.size) (fun p=>tVaX (ps.getD i tst0).v p.1 p.2))]) bu59 zr59.2 (Bc 0 rfl rfl rfl (Bc 1 rfl rfl rfl (Bc 2 rfl rfl rfl zao)))) rfl rfl rfl ?_;refine R1 (xb5 (n:=1) (f:=fun s:Tst=>tZE m w.heap.size s) [(ps.getD i tst0)] zhm el59 zf59 rfl (fun _=>inferInstance) rfl rfl rfl) rfl ?_;refine RE (xb3 (k:=90) (k':=62) (f:=fun s:Tst=>tZE m w.heap.size s) (ys:=[(ps.getD i tst0)]) (ts':=rV tZt xs++[.val (tZE m w.heap.size (ps.getD i tst0))]) zhm el59 zf59 rfl rfl (fun _=>inferInstance) xd2 (by simp;omega) (by simp;omega) rfl (n':=xs.length+1) rfl) ⟨rfl,rfl,trivial⟩ ⟨rfl,trivial⟩ ⟨rfl,trivial⟩ ?_;refine A4 ?_;refine zf9 (k:=62) (ts:=rV tZt xs) (fun u:Hd×Hd=>tZt ⟨(ps.getD i tst0),u.1,u.2⟩) rfl zt7 (fun u hu=> ?_);refine yb2 (k:=62) (e':=⟨59,8,true,rV tZt (xs++[(⟨(ps.getD i tst0),u.1,u.2⟩:Zt)])⟩) rfl (by simp [rV]) ?_;obtain ⟨n,hmn,hn,hu1,hu2⟩:=hu;refine A4 ?_;exact xc6 (l:=[90,1]) (zab 90 62) ((i+1,xs++[(⟨(ps.getD i tst0),u.1,u.2⟩:Zt)])) ⟨(by dsimp only;exact ⟨by omega,by rw [xs1 _ (by omega),<-hx,zv0 (n:=u.1) (d:=u.2) (by omega) (by omega)],hgr.snoc hn (OldH.le hm hmn) hu1 hu2⟩),(by dsimp only;omega)⟩ (zaf rfl (zaf rfl (zas rfl ((zbc rfl (zaw (by dsimp only;rw [zbp];rfl))) zbd)))) ((zbb rfl (zat xa6.symm)) zbe) (zaj (zaj (zaj (zak rfl zar)))) (zam rfl (supJ xa5) zaz) (lkOk rfl) rfl rfl (fun _ h=>by cases h)
   ·
    refine A9 ?_;refine A9 ?_;refine A6 ?_;refine qa7 (k:=6) (us:=xs.flatMap its) (hds xs) (fun m=>tTsZ m (ps.getD i tst0)) rfl zg5 (yg4 (k:=90) rfl) yf1 (fun m hm=> ?_);refine A8 ?_;refine R1 (zi1 (m:=m) (yo5 _ (hD _ (xi0 (l:=ps) (by omega))).1 (hD _ (xi0 (l:=ps) (by omega))).2) fi185 zao) rfl ?_;refine R3 (xb0 (r:=tS [⟨1,false,tI (ps.getD i tst0).lo⟩,⟨1,false,tI (ps.getD i tst0).hi⟩,⟨6,true,tEx (newIx m w.heap.size) (fun p=>tVaX (ps.getD i tst0).v p.1 p.2)⟩]) (ts:=[(0,tI (ps.getD i tst0).lo),(1,tI (ps.getD i tst0).hi),(2,tEx (newIx m w.heap.size) (fun p=>tVaX (ps.getD i tst0).v p.1 p.2))]) bu59 zr59.2 (Bc 0 rfl rfl rfl (Bc 1 rfl rfl rfl (Bc 2 rfl rfl rfl zao)))) rfl rfl rfl ?_;refine R1 (xb5 (n:=1) (f:=fun s:Tst=>tZE m w.heap.size s) [(ps.getD i tst0)] zhm el59 zf59 rfl (fun _=>inferInstance) rfl rfl rfl) rfl ?_;refine RE (xb3 (k:=90) (k':=62) (f:=fun s:Tst=>tZE m w.heap.size s) (ys:=[(ps.getD i tst0)]) (ts':=rV tZt xs++[.val (tZE m w.heap.size (ps.getD i tst0))]) zhm el59 zf59 rfl rfl (fun _=>inferInstance) xd2 (by simp;omega) (by simp;omega) rfl (n':=xs.length+1) rfl) ⟨rfl,rfl,trivial⟩ ⟨rfl,trivial⟩ ⟨rfl,trivial⟩ ?_;refine A4 ?_;refine zf9 (k:=62) (ts:=rV tZt xs) (fun u:Hd×Hd=>tZt ⟨(ps.getD i tst0),u.1,u.2⟩) rfl zt7 (fun u hu=> ?_);refine yb2 (k:=62) (e':=⟨59,8,true,rV tZt (xs++[(⟨(ps.getD i tst0),u.1,u.2⟩:Zt)])⟩) rfl (by simp [rV]) ?_;obtain ⟨n,hmn,hn,hu1,hu2⟩:=hu;refine A4 ?_;exact xc6 (l:=[90,1]) (zab 90 62) ((i+1,xs++[(⟨(ps.getD i tst0),u.1,u.2⟩:Zt)])) ⟨(by dsimp only;exact ⟨by omega,by rw [xs1 _ (by omega),<-hx,zv0 (n:=u.1) (d:=u.2) (by omega) (by omega)],hgr.snoc hn (OldH.le hm hmn) hu1 hu2⟩),(by dsimp only;omega)⟩ (zaf rfl (zaf rfl (zas rfl ((zbc rfl (zaw (by dsimp only;rw [zbp];rfl))) zbd)))) ((zbb rfl (zat xa6.symm)) zbe) (zaj (zaj (zaj (zak rfl zar)))) (zam rfl (supJ xa5) zaz) (lkOk rfl) rfl rfl (fun _ h=>by cases h)
 ·
  refine A6 ?_;have hil:i=ps.length:=by omega
  subst hil;rw [zbx] at hx;refine A6 ?_;refine E_X (xs) (⟨hx,hgr⟩) ?_;exact xc5 LentC.mk' rfl rfl Imp.refl ⟨rfl,trivial⟩ rfl ⟨⟨rfl,xa5⟩,trivial⟩ rfl
theorem jb4 (l:List Tst) (a b:Int) (hl:l.length<=500000) (hD: ∀s∈l,s.v.f.dig):
  CtX Tryz.prog 111 [] [.val (tL 8 true tTs l),.val (tI a),.val (tI b)] (fun (nw:Nat) (x:List Zt×Int)=>x.1.map Zt.s=(if tRight l=true/\Sn.ok ⟨a,b⟩=true then cutT l a b else [])/\x.2=(if tRight l=true/\Sn.ok ⟨a,b⟩=true then 0 else 2)/\SepH (hds x.1)/\NewH nw (hds x.1)) (fun x=> .own (.tup [.sl 8 8 0 x.1.length,.ty (tI x.2)])) (fun x=>[(8,⟨59,8,true,rV tZt x.1⟩)]) [8]:=by
 refine CtX.intro [] func111 rfl ntmps111 rfl rfl trivial ?_;intro w F η;refine A9 ?_;refine A1 ?_;refine R1 (x3 (xz5 l hD) fi106 rfl) rfl ?_;refine A2 ?_;refine RGcase (t:=14) rfl (fun h95=> ?_) (fun h95=> ?_)
 ·
  refine A9 ?_;refine A1 ?_;refine RE (xe3 (k:=8) 59 8 true rfl (fun h=>by cases h)) trivial trivial ⟨rfl,trivial⟩ ?_;refine A5 ?_;refine E_X (([],2)) (⟨by rw [if_neg (fun h=>by rw [h.1] at h95;cases h95)];rfl,by rw [if_neg (fun h=>by rw [h.1] at h95;cases h95)],SepH.nil,NewH.nil⟩) ?_;exact yd0 (r1:= .own (.sl 8 8 0 ([]:List Zt).length)) (r2:= .val (tI 2)) LentC.mk' rfl rfl rfl Imp.refl Imp.refl ⟨rfl,trivial⟩ rfl ⟨⟨rfl,xa5⟩,trivial⟩ rfl
 ·
  refine A2 ?_;refine RGon h95 rfl (x3 (zw3 _ _) fi191 rfl) rfl ⟨rfl,rfl,trivial⟩ trivial trivial ?_;refine A4 ?_;refine xc2 rfl (fun h95_2=> ?_) (fun h95_2=> ?_)
  ·
   refine A2 ?_;refine RE (xe3 (k:=8) 59 8 true rfl (fun h=>by cases h)) trivial trivial ⟨rfl,trivial⟩ ?_;refine A5 ?_;refine E_X (([],2)) (⟨by rw [if_neg (fun h=>by rw [h.2] at h95_2;cases h95_2)];rfl,by rw [if_neg (fun h=>by rw [h.2] at h95_2;cases h95_2)],SepH.nil,NewH.nil⟩) ?_;exact yd0 (r1:= .own (.sl 8 8 0 ([]:List Zt).length)) (r2:= .val (tI 2)) LentC.mk' rfl rfl rfl Imp.refl Imp.refl ⟨rfl,trivial⟩ rfl ⟨⟨rfl,xa5⟩,trivial⟩ rfl
  ·
   refine A4 ?_;refine RE (xe3 (k:=8) 59 8 true rfl (fun h=>by cases h)) trivial trivial ⟨rfl,trivial⟩ ?_;refine A9 ?_;refine A2 ?_;have hok:tRight l=true/\Sn.ok ⟨a,b⟩=true:=⟨by simpa using h95,by simpa using h95_2⟩
   have hlen:=fun s hs=>yp3 (y5 hok.1 s hs);refine ya2 (fun (fm:(Nat)×(List Zt))=>(fun (i:Nat) (zs:List Zt)=>i<=l.length/\zs.map Zt.s=pst [] ((l.map (clip a b)).take i)/\Grow w.heap.size [] zs) fm.1 fm.2) (fun (fm:(Nat)×(List Zt))=>(fun (i:Nat) (zs:List Zt)=>upd (upd (upd (upd (upd (upd (fun _=>none) 1 (some (.val (tI a)))) 2 (some (.val (tI b)))) 8 (some (.own (.sl 8 8 0 zs.length)))) 20 (some (.val (tL 8 true tTs l)))) 21 (some (.val (tI l.length)))) 22 (some (.val (tI i)))) fm.1 fm.2) (fun (fm:(Nat)×(List Zt))=>(fun (i:Nat) (zs:List Zt)=>upd (fun _=>none) 8 (some (⟨59,8,true,rV tZt zs⟩))) fm.1 fm.2) (nm [8]) (fun (fm:(Nat)×(List Zt))=>(fun (i:Nat) (zs:List Zt)=>l.length - i) fm.1 fm.2) ((0,[])) (by dsimp only;exact ⟨zbq _,rfl,Grow.refl⟩) (zae rfl (zae rfl (zan rfl (zan rfl (zae rfl (zae rfl zay)))))) ((zaq rfl zap) zax) (zaj (zaj (zaj (zak rfl (zaj (zaj zar)))))) (zam rfl (supJ xa5) zaz) (lkOk rfl) ?_;intro fm hI;obtain ⟨i,zs⟩:=fm;replace hI:i<=l.length/\zs.map Zt.s=pst [] ((l.map (clip a b)).take i)/\Grow w.heap.size [] zs:=hI;show wc _ _ _ _ (upd (upd (upd (upd (upd (upd (fun _=>none) 1 (some (.val (tI a)))) 2 (some (.val (tI b)))) 8 (some (.own (.sl 8 8 0 zs.length)))) 20 (some (.val (tL 8 true tTs l)))) 21 (some (.val (tI l.length)))) 22 (some (.val (tI i)))) (upd (fun _=>none) 8 (some (⟨59,8,true,rV tZt zs⟩))) _;obtain ⟨hi,hz,hgr⟩:=hI;have hzl:zs.length<=i:=by
    have h:=yd1 ((l.map (clip a b)).take i) [];rw [<-hz,zcq,zde] at h;simp at h;omega
   refine A6 ?_;refine x6 rfl (fun h99=> ?_) (fun h99=> ?_)
   ·
    refine A6 ?_;refine R2 (x4 sl51 (i) (by omega) (zai (l:=l) (n:=i) (d:=tst0))) rfl rfl ?_;refine A1 ?_;refine RE (x7 (k:=10) (n:=8) (agg:=true) zr59.1 zr59.2 rfl) trivial trivial ⟨rfl,trivial⟩ ?_;refine A3 ?_;refine ya4 ?_;refine xf4 xb9 ⟨rfl,trivial⟩ trivial trivial rfl ?_;refine xf4 (xh0 fo59_0.h rfl) ⟨rfl,trivial⟩ trivial trivial rfl ?_;refine xt4 (0) ti3 rfl rfl rfl (At.g 0 rfl rfl) rfl rfl ?_;refine xf4 xb9 ⟨rfl,trivial⟩ trivial trivial rfl ?_;refine xf4 yo8 ⟨rfl,rfl,trivial⟩ trivial trivial rfl ?_;refine xf4 (xh0 fo59_1.h rfl) ⟨rfl,trivial⟩ trivial trivial rfl ?_;refine xt4 (0) ti3 rfl rfl rfl (At.g 1 rfl rfl) rfl rfl ?_;refine xf4 xb9 ⟨rfl,trivial⟩ trivial trivial rfl ?_;refine xf4 qa1 ⟨rfl,rfl,trivial⟩ trivial trivial rfl ?_;refine xf4 (xh0 fo59_2.h rfl) ⟨rfl,trivial⟩ trivial trivial rfl ?_;refine xt4 (0) ti57 rfl rfl rfl (At.g 2 rfl rfl) rfl rfl ?_;refine xf4 (xb0 (r:=tS [⟨1,false,tI (max (l.getD i tst0).lo a)⟩,⟨1,false,tI (min (l.getD i tst0).hi b)⟩,⟨6,true,tVa (l.getD i tst0).v⟩]) (ts:=[(0,tI (max (l.getD i tst0).lo a)),(1,tI (min (l.getD i tst0).hi b)),(2,tVa (l.getD i tst0).v)]) bu59 zr59.2 (Bc 0 rfl rfl rfl (Bc 1 rfl rfl rfl (Bc 2 rfl rfl rfl zao)))) ⟨rfl,rfl,rfl,trivial⟩ trivial trivial rfl ?_;refine xf4 (xb5 (n:=1) (f:=tTs) [(clip a b (l.getD i tst0))] zhm el59 zf59 rfl (fun _=>inferInstance) rfl rfl rfl) ⟨rfl,trivial⟩ trivial trivial rfl ?_;have hcl: ∀s∈[(clip a b (l.getD i tst0))],s.v.f.n.l.length<=1000000/\s.v.f.d.l.length<=1000000:=by
     intro s hs;rw [zbj.1 hs];have h:=hlen _ (xi0 (l:=l) (i:=i) (by omega));exact ⟨by show (l.getD i tst0).v.f.n.l.length<=_;omega,by show (l.getD i tst0).v.f.d.l.length<=_;omega⟩
    refine yz1 (hds zs) (fun j=>cond (Nat.beq j 1) 8 (39)) (za1 zs [(clip a b (l.getD i tst0))] (by omega) (by simp) hcl) fi192 rfl (krC (ρ:=fun j=>cond (Nat.beq j 1) 8 (39)) (k:=1) xa6 (krN (ρ:=fun j=>cond (Nat.beq j 1) 8 (39)))) (fun _=>krC (ρ:=fun j=>cond (Nat.beq j 1) 8 (39)) (k:=90) xa6 (krN (ρ:=fun j=>cond (Nat.beq j 1) 8 (39)))) (fun _=>⟨⟨rfl,xa5⟩,trivial⟩) rfl (fun _=>rfl) ⟨rfl,rfl,trivial⟩ ⟨rfl,trivial⟩ ⟨rfl,trivial⟩ (xp8 (k:=8) rfl) rfl (fun ys n hn ho hR=> ?_);refine xf4 xe5 ⟨rfl,trivial⟩ trivial trivial rfl ?_;refine xp1 ?_;refine A6 ?_;exact xc6 (l:=[8]) (zab 8 39) ((i+1,ys)) ⟨(by dsimp only;exact ⟨by omega,by rw [jm0 (by omega),<-hz];exact hR.1,hgr.trans hn hR.2⟩),(by dsimp only;omega)⟩ (zaf rfl (zaf rfl (zas rfl (zas rfl (zaf rfl (zaf rfl zbd)))))) ((zbb rfl (zat xa6.symm)) zbe) (zaj (zaj (zaj (zak rfl (zaj (zaj zar)))))) (zam rfl (supJ xa5) zaz) (lkOk rfl) rfl rfl (fun _ h=>by cases h)
   ·
    refine A9 ?_;refine A4 ?_;refine E_X ((zs,0)) (⟨by rw [if_pos hok,hz,cutT,show i=(l.map (clip a b)).length by simp;omega,zbx],by rw [if_pos hok],hgr.ends.1,hgr.ends.2⟩) ?_;exact yd0 (r1:= .own (.sl 8 8 0 zs.length)) (r2:= .val (tI 0)) LentC.mk' rfl rfl rfl Imp.refl Imp.refl ⟨rfl,trivial⟩ rfl ⟨⟨rfl,xa5⟩,trivial⟩ rfl
theorem zu2 (a b:List Tst) (hla:a.length<=200000) (hlb:b.length<=200000) (hDa: ∀s∈a,s.v.f.dig) (hDb: ∀s∈b,s.v.f.dig):
  CtX Tryz.prog 113 [] [.val (tL 8 true tTs a),.val (tL 8 true tTs b)] (fun (nw:Nat) (x:List Zt×Int)=>x.1.map Zt.s=(if jnC a b then jnT a b else [])/\x.2=(if jnC a b then 0 else 2)/\SepH (hds x.1)/\NewH nw (hds x.1)) (fun x=> .own (.tup [.sl 60 8 0 x.1.length,.ty (tI x.2)])) (fun x=>[(60,⟨59,8,true,rV tZt x.1⟩)]) [60]:=by
 refine CtX.intro [] func113 rfl ntmps113 rfl rfl trivial ?_;intro w F η;refine A6 ?_;refine xf0 (fun (_j:Unit)=>jnC a b) (fun (_j:Unit)=>upd (upd (fun _=>none) 0 (some (.val (tL 8 true tTs a)))) 1 (some (.val (tL 8 true tTs b)))) (fun (_j:Unit)=>fun _=>none) (nm []) ?_ ?_
 ·
  refine A3 ?_;refine R1 (x3 (xz5 a hDa) fi106 rfl) rfl ?_;refine A2 ?_;refine RGcase (t:=13) rfl (fun h162=> ?_) (fun h162=> ?_)
  ·
   refine A9 ?_;refine A9 ?_;refine A9 ?_;refine A5 ?_;refine RE (xe3 (k:=60) 59 8 true rfl (fun h=>by cases h)) trivial trivial ⟨rfl,trivial⟩ ?_;refine A5 ?_;refine E_X (([],2)) (⟨by rw [if_neg (fun h=>by rw [h.1.1] at h162;cases h162)];rfl,by rw [if_neg (fun h=>by rw [h.1.1] at h162;cases h162)],SepH.nil,NewH.nil⟩) ?_;exact yd0 (r1:= .own (.sl 60 8 0 ([]:List Zt).length)) (r2:= .val (tI 2)) LentC.mk' rfl rfl rfl Imp.refl Imp.refl ⟨rfl,trivial⟩ rfl ⟨⟨rfl,xa5⟩,trivial⟩ rfl
  ·
   refine A1 ?_;refine RGon h162 rfl (x3 (xz5 b hDb) fi106 rfl) rfl ⟨rfl,trivial⟩ trivial trivial ?_;refine A3 ?_;refine RGcase (t:=18) rfl (fun h162_2=> ?_) (fun h162_2=> ?_)
   ·
    refine A9 ?_;refine A9 ?_;refine A9 ?_;refine RE (xe3 (k:=60) 59 8 true rfl (fun h=>by cases h)) trivial trivial ⟨rfl,trivial⟩ ?_;refine A5 ?_;refine E_X (([],2)) (⟨by rw [if_neg (fun h=>by rw [h.1.2] at h162_2;cases h162_2)];rfl,by rw [if_neg (fun h=>by rw [h.1.2] at h162_2;cases h162_2)],SepH.nil,NewH.nil⟩) ?_;exact yd0 (r1:= .own (.sl 60 8 0 ([]:List Zt).length)) (r2:= .val (tI 2)) LentC.mk' rfl rfl rfl Imp.refl Imp.refl ⟨rfl,trivial⟩ rfl ⟨⟨rfl,xa5⟩,trivial⟩ rfl
   ·
    refine A4 ?_;refine RGcaseD (t:=22) rfl (fun h162_3=> ?_) (fun h162_3=> ?_)
    ·
     refine A3 ?_;refine RGon h162_2 rfl (xc9 (zbg h162_3)) rfl ⟨rfl,rfl,trivial⟩ trivial trivial ?_;refine A1 ?_;refine RGcaseD (t:=27) rfl (fun h162_4=> ?_) (fun h162_4=> ?_)
     ·
      refine A1 ?_;refine RGon (zbg h162_4) rfl (x4 sl51 (0) (by omega) (zai (l:=a) (n:=0) (d:=tst0))) rfl ⟨rfl,rfl,trivial⟩ trivial trivial ?_;refine RGon (zbg h162_4) rfl (xf3 fo59_2.h (At.f 2 rfl rfl) rfl) rfl ⟨rfl,trivial⟩ trivial trivial ?_;refine RGon (zbg h162_4) rfl (xf3 fo57_0.h (At.f 0 rfl rfl) rfl) rfl ⟨rfl,trivial⟩ trivial trivial ?_;refine A2 ?_;refine RGon (zbg h162_4) rfl (x4 sl51 (0) (by omega) (zai (l:=b) (n:=0) (d:=tst0))) rfl ⟨rfl,rfl,trivial⟩ trivial trivial ?_;refine RGon (zbg h162_4) rfl (xf3 fo59_2.h (At.f 2 rfl rfl) rfl) rfl ⟨rfl,trivial⟩ trivial trivial ?_;refine RGon (zbg h162_4) rfl (xf3 fo57_0.h (At.f 0 rfl rfl) rfl) rfl ⟨rfl,trivial⟩ trivial trivial ?_;refine A2 ?_;refine RGon h162_2 rfl (xc9 (zbg h162_4)) rfl ⟨rfl,rfl,trivial⟩ trivial trivial ?_;refine A3 ?_;refine x6 rfl (fun h162_5=> ?_) (fun h162_5=> ?_)
      ·
       refine A2 ?_;refine RE (xe3 (k:=60) 59 8 true rfl (fun h=>by cases h)) trivial trivial ⟨rfl,trivial⟩ ?_;refine A5 ?_;refine E_X (([],2)) (⟨by rw [if_neg (fun h=>h.2 ⟨by omega,by omega,by omega⟩)];rfl,by rw [if_neg (fun h=>h.2 ⟨by omega,by omega,by omega⟩)],SepH.nil,NewH.nil⟩) ?_;exact yd0 (r1:= .own (.sl 60 8 0 ([]:List Zt).length)) (r2:= .val (tI 2)) LentC.mk' rfl rfl rfl Imp.refl Imp.refl ⟨rfl,trivial⟩ rfl ⟨⟨rfl,xa5⟩,trivial⟩ rfl
      ·
       refine A1 ?_;exact xz8 (()) ⟨⟨by simpa using h162,by simpa using h162_2⟩,by omega⟩ (zan rfl (zan rfl zay)) zax (zaj (zaj zar)) zaz (lkOk rfl)
     ·
      refine A9 ?_;refine A2 ?_;refine RGon h162_2 rfl (xc7 (zbf h162_4)) rfl ⟨rfl,rfl,trivial⟩ trivial trivial ?_;refine A5 ?_;exact xz8 (()) ⟨⟨by simpa using h162,by simpa using h162_2⟩,by omega⟩ (zan rfl (zan rfl zay)) zax (zaj (zaj zar)) zaz (lkOk rfl)
    ·
     refine A3 ?_;refine RGon h162_2 rfl (xc7 (zbf h162_3)) rfl ⟨rfl,rfl,trivial⟩ trivial trivial ?_;refine A9 ?_;refine A3 ?_;refine RGon h162_2 rfl (xc7 rfl) rfl ⟨rfl,rfl,trivial⟩ trivial trivial ?_;refine A5 ?_;exact xz8 (()) ⟨⟨by simpa using h162,by simpa using h162_2⟩,by omega⟩ (zan rfl (zan rfl zay)) zax (zaj (zaj zar)) zaz (lkOk rfl)
 ·
  intro _j hok;refine A2 ?_;refine RE (x7 (k:=6) (n:=1) (agg:=false) zr51.1 zr51.2 rfl) trivial trivial ⟨rfl,trivial⟩ ?_;refine A4 ?_;refine ys1 (q:=6) 60 59 8 true 0 rfl rfl rfl rfl (fun h=>by cases h) rfl rfl ?_;refine A3 ?_;refine RE (xb7 (fun j=>cond (Nat.beq j 2) 43 (1043)) (zd7 a b) fi186 rfl (krN (ρ:=fun j=>cond (Nat.beq j 2) 43 (1043))) (krC (ρ:=fun j=>cond (Nat.beq j 2) 43 (1043)) (k:=2) rfl (krC (ρ:=fun j=>cond (Nat.beq j 2) 43 (1043)) (k:=3) rfl (krN (ρ:=fun j=>cond (Nat.beq j 2) 43 (1043))))) ⟨⟨rfl,(SupX.lit rfl)⟩,⟨rfl,(SupX.lit rfl)⟩,trivial⟩ rfl) ⟨rfl,rfl,trivial⟩ trivial ⟨rfl,rfl,trivial⟩ ?_;refine A3 ?_;refine zt6 (caps:=[.ptr 1 0,.ptr 2 0]) (κ:=Empty) (zaa 2 1043 (zab 1 43)) rfl (fun _ h=>h) trivial (zb0 a b (y7 hok.1.1) (y7 hok.1.2) hla hlb) fi269 rfl ⟨rfl,rfl,trivial⟩ rfl rfl (fun _ _=>rfl) (upd (fun _=>none) 6 (some (.own (.ptr 6 0)))) [6,60] [6] (zan rfl zay) (zak rfl zar) rfl (lkOk rfl) (fun (k:Nat) (xs:List Zt)=>xs.map Zt.s=jnK a b k/\xs.length<=k/\Grow w.heap.size [] xs) (fun (k:Nat) (xs:List Zt)=>upd (upd (fun _=>none) 6 (some (⟨51,1,false,[.own (.sl 60 8 0 xs.length)]⟩))) 60 (some (⟨59,8,true,rV tZt xs⟩))) (fun k x=>(zam rfl (supJ xa5) (zam rfl (supJL rfl) zaz))) (fun k x y hy=>by simp only [zbr,zdm,or_false] at hy;rcases hy with rfl | rfl <;> rfl) (fun _ _=>False) (fun i=>i.elim) (fun _ _ h=>h.elim) ([]) ⟨rfl,zbs _,Grow.refl⟩ ((zaq rfl zap) ((zaq rfl zap) zax)) ?_ ?_ ?_
  ·
   intro D lp o1 o2 O W lη lb V0 k xs hk hI hWs;obtain ⟨hx,hxl,hgr⟩:=hI;have hdl:=yc8 (ls:=[a,b]);have htl:tlen [a,b]<=400000:=by simp [tlen];omega
   apply qb0
   ·
    refine A2 ?_;refine RE (x7 (k:=7) (n:=2) (agg:=true) zr119.1 zr119.2 rfl) trivial trivial ⟨rfl,trivial⟩ ?_;refine A4 ?_;refine RE (x7 (k:=8) (n:=2) (agg:=true) zr220.1 zr220.2 rfl) trivial trivial ⟨rfl,trivial⟩ ?_;refine A2 ?_;exact zf7 fun _ _ h=>h
   ·
    refine A8 ?_;refine xf0 (fun (_j:Unit)=>True) (fun (_j:Unit)=>upd (upd (upd (fun _=>none) 6 (some (.own (.ptr 6 0)))) 7 (some (.own (.ptr 7 0)))) 9 (some (.val (tO 6 true tVa (jnG a b ((bds [a,b]).getD k 0)))))) (fun (_j:Unit)=>upd (upd (upd (fun _=>none) 6 (some (⟨51,1,false,[.own (.sl 60 8 0 xs.length)]⟩))) 7 (some (⟨119,2,true,[.val (tSn ⟨((bds [a,b]).getD k 0),((bds [a,b]).getD (k+1) 0)⟩)]⟩))) 60 (some (⟨59,8,true,rV tZt xs⟩))) (nm [6,7,60]) ?_ ?_
    ·
     refine A3 ?_;refine R1 (za0 zhp) rfl ?_;refine A2 ?_;refine xc2 rfl (fun h168=> ?_) (fun h168=> ?_)
     ·
      refine A5 ?_;exact xz8 (()) trivial ((zav rfl (zaw (by rw [jnG,Option.isNone_iff_eq_none.1 h168,Option.none_or]))) (zan rfl (zan rfl zay))) ((zaq rfl zap) ((zaq rfl zap) ((zaq rfl zap) zax))) (zaj (zak rfl (zak rfl zar))) (zam rfl (supJ xa5) (zam rfl (supJL rfl) (zam rfl (supJL rfl) zaz))) (lkOk rfl)
     ·
      refine A1 ?_;exact xz8 (()) trivial ((zav rfl (zaw (by rw [jnG_or h168]))) (zan rfl (zan rfl zay))) ((zaq rfl zap) ((zaq rfl zap) ((zaq rfl zap) zax))) (zaj (zak rfl (zak rfl zar))) (zam rfl (supJ xa5) (zam rfl (supJL rfl) (zam rfl (supJL rfl) zaz))) (lkOk rfl)
    ·
     intro _j hj168;refine A3 ?_;refine R1 (yk2 zhp) rfl ?_;refine A2 ?_;refine xc2 rfl (fun h171=> ?_) (fun h171=> ?_)
     ·
      obtain ⟨v,hv⟩:=yv6 h171;refine qh2 (n:=10) mixed ?_;refine RE (xc1 (ts:=[.own (.sl 60 8 0 xs.length)]) (0) ti51 rfl rfl) ⟨rfl,trivial⟩ ⟨rfl,trivial⟩ trivial ?_;refine A5 ?_;refine R1 (yz0 hv) rfl ?_;refine A1 ?_;refine R3 (xb0 (r:=tS [⟨1,false,tI ((bds [a,b]).getD k 0)⟩,⟨1,false,tI ((bds [a,b]).getD (k+1) 0)⟩,⟨6,true,tVa v⟩]) (ts:=[(0,tI ((bds [a,b]).getD k 0)),(1,tI ((bds [a,b]).getD (k+1) 0)),(2,tVa v)]) bu59 zr59.2 (Bc 0 rfl rfl rfl (Bc 1 rfl rfl rfl (Bc 2 rfl rfl rfl zao)))) rfl rfl rfl ?_;refine R1 (xb5 (n:=1) (f:=tTs) [(⟨((bds [a,b]).getD k 0),((bds [a,b]).getD (k+1) 0),v⟩:Tst)] zhm el59 zf59 rfl (fun _=>inferInstance) rfl rfl rfl) rfl ?_;refine jh6 (by kernel_rfl) ?_;have hcl: ∀s∈[(⟨((bds [a,b]).getD k 0),((bds [a,b]).getD (k+1) 0),v⟩:Tst)],s.v.f.n.l.length<=1000000/\s.v.f.d.l.length<=1000000:=by
       intro s hs;rw [zbj.1 hs];have h:=jw4 hok.1.1 hok.1.2 hv;exact ⟨by show v.f.n.l.length<=_;omega,by show v.f.d.l.length<=_;omega⟩
      refine yz1 (hds xs) (fun j=>cond (Nat.beq j 1) 60 (64)) (za1 xs [(⟨((bds [a,b]).getD k 0),((bds [a,b]).getD (k+1) 0),v⟩:Tst)] (by omega) (by simp) hcl) fi192 rfl (krC (ρ:=fun j=>cond (Nat.beq j 1) 60 (64)) (k:=1) xa6 (krN (ρ:=fun j=>cond (Nat.beq j 1) 60 (64)))) (fun _=>krC (ρ:=fun j=>cond (Nat.beq j 1) 60 (64)) (k:=90) xa6 (krN (ρ:=fun j=>cond (Nat.beq j 1) 60 (64)))) (fun _=>⟨⟨rfl,xa5⟩,trivial⟩) rfl (fun _=>rfl) ⟨rfl,rfl,trivial⟩ ⟨rfl,trivial⟩ ⟨rfl,trivial⟩ (xp8 (k:=60) rfl) rfl (fun ys n hn ho hR=> ?_);refine xf4 (xb8 (es:=1) (agg:=false) (e:= .own (.sl 64 8 0 ys.length)) (0) ti51 rfl rfl rfl) ⟨rfl,rfl,trivial⟩ ⟨rfl,trivial⟩ trivial rfl ?_;refine xp1 ?_;refine A1 ?_;exact ze8 (g':=fun _=>none) [6,60] (zab 60 64) zbd ((zbb rfl (zat xa6.symm)) ((zbb rfl (zat rfl)) zbe)) zar (zam rfl (supJ xa5) (zam rfl (supJL rfl) zaz)) (lkOk rfl) rfl rfl (fun _ h=>by cases h) (xv7 (ys) ⟨by rw [zw4 hv,<-hx];exact hR.1,by rw [<-zcq (f:=Zt.s),hR.1,hx,<-zw4 hv];exact qh0,hgr.trans (zcj hWs hn) hR.2⟩ SubK.refl (zam rfl (supJ xa5) (zam rfl (supJL rfl) zaz)) (lkOk rfl))
     ·
      have hv0:=jz2 h171;refine A2 ?_;exact xv7 (xs) ⟨by rw [jp2 hv0];exact hx,by omega,hgr⟩ ((zaq rfl zap) ((zaq rfl zap) zax)) (zam rfl (supJ xa5) (zam rfl (supJL rfl) zaz)) (lkOk rfl)
  ·
   intro D hD xs hI;obtain ⟨hx,hxl,hgr⟩:=hI;rw [qh4] at hx;refine A4 ?_;refine RE (xc1 (ts:=[.own (.sl 60 8 0 xs.length)]) (0) ti51 rfl rfl) ⟨rfl,trivial⟩ ⟨rfl,trivial⟩ trivial ?_;refine A5 ?_;refine E_X ((xs,0)) (⟨by rw [if_pos hok,hx],by rw [if_pos hok],hgr.ends.1,hgr.ends.2⟩) ?_;exact yd0 (r1:= .own (.sl 60 8 0 xs.length)) (r2:= .val (tI 0)) (LentC.loop LentC.mk' hD) rfl rfl rfl Imp.refl Imp.refl ⟨rfl,trivial⟩ rfl ⟨⟨rfl,xa5⟩,trivial⟩ rfl
  ·
   intro D hD e i;exact i.elim
theorem zb7 (l:List Tst) (x y:Int) (hl:l.length<=200000) (hD: ∀s∈l,s.v.f.dig):
  CtX Tryz.prog 112 [] [.val (tL 8 true tTs l),.val (tI x),.val (tI y)] (fun (nw:Nat) (z:List Zt×Int)=>z.1.map Zt.s=(if tRight l=true/\Sn.ok ⟨x,y⟩=true then woT l x y else [])/\z.2=(if tRight l=true/\Sn.ok ⟨x,y⟩=true then 0 else 2)/\SepH (hds z.1)/\NewH nw (hds z.1)) (fun z=> .own (.tup [.sl 8 8 0 z.1.length,.ty (tI z.2)])) (fun z=>[(8,⟨59,8,true,rV tZt z.1⟩)]) [8]:=by
 refine CtX.intro [] func112 rfl ntmps112 rfl rfl trivial ?_;intro w F η;refine A9 ?_;refine A1 ?_;refine R1 (x3 (xz5 l hD) fi106 rfl) rfl ?_;refine A2 ?_;refine RGcase (t:=16) rfl (fun h107=> ?_) (fun h107=> ?_)
 ·
  refine A9 ?_;refine A1 ?_;refine RE (xe3 (k:=8) 59 8 true rfl (fun h=>by cases h)) trivial trivial ⟨rfl,trivial⟩ ?_;refine A5 ?_;refine E_X (([],2)) (⟨by rw [if_neg (fun h=>by rw [h.1] at h107;cases h107)];rfl,by rw [if_neg (fun h=>by rw [h.1] at h107;cases h107)],SepH.nil,NewH.nil⟩) ?_;exact yd0 (r1:= .own (.sl 8 8 0 ([]:List Zt).length)) (r2:= .val (tI 2)) LentC.mk' rfl rfl rfl Imp.refl Imp.refl ⟨rfl,trivial⟩ rfl ⟨⟨rfl,xa5⟩,trivial⟩ rfl
 ·
  refine A2 ?_;refine RGon h107 rfl (x3 (zw3 _ _) fi191 rfl) rfl ⟨rfl,rfl,trivial⟩ trivial trivial ?_;refine A4 ?_;refine xc2 rfl (fun h107_2=> ?_) (fun h107_2=> ?_)
  ·
   refine A2 ?_;refine RE (xe3 (k:=8) 59 8 true rfl (fun h=>by cases h)) trivial trivial ⟨rfl,trivial⟩ ?_;refine A5 ?_;refine E_X (([],2)) (⟨by rw [if_neg (fun h=>by rw [h.2] at h107_2;cases h107_2)];rfl,by rw [if_neg (fun h=>by rw [h.2] at h107_2;cases h107_2)],SepH.nil,NewH.nil⟩) ?_;exact yd0 (r1:= .own (.sl 8 8 0 ([]:List Zt).length)) (r2:= .val (tI 2)) LentC.mk' rfl rfl rfl Imp.refl Imp.refl ⟨rfl,trivial⟩ rfl ⟨⟨rfl,xa5⟩,trivial⟩ rfl
  ·
   refine A4 ?_;refine RE (xe3 (k:=8) 59 8 true rfl (fun h=>by cases h)) trivial trivial ⟨rfl,trivial⟩ ?_;refine A9 ?_;refine A2 ?_;have hok:tRight l=true/\Sn.ok ⟨x,y⟩=true:=⟨by simpa using h107,by simpa using h107_2⟩
   have hlen:=fun s hs=>yp3 (y5 hok.1 s hs);refine ya2 (fun (fm:(Nat)×(List Zt))=>(fun (i:Nat) (zs:List Zt)=>i<=l.length/\zs.map Zt.s=pst [] ((l.take i).flatMap (woP x y))/\Grow w.heap.size [] zs) fm.1 fm.2) (fun (fm:(Nat)×(List Zt))=>(fun (i:Nat) (zs:List Zt)=>upd (upd (upd (upd (upd (upd (fun _=>none) 1 (some (.val (tI x)))) 2 (some (.val (tI y)))) 8 (some (.own (.sl 8 8 0 zs.length)))) 22 (some (.val (tL 8 true tTs l)))) 23 (some (.val (tI l.length)))) 24 (some (.val (tI i)))) fm.1 fm.2) (fun (fm:(Nat)×(List Zt))=>(fun (i:Nat) (zs:List Zt)=>upd (fun _=>none) 8 (some (⟨59,8,true,rV tZt zs⟩))) fm.1 fm.2) (nm [8]) (fun (fm:(Nat)×(List Zt))=>(fun (i:Nat) (zs:List Zt)=>l.length - i) fm.1 fm.2) ((0,[])) (by dsimp only;exact ⟨zbq _,rfl,Grow.refl⟩) (zae rfl (zae rfl (zan rfl (zan rfl (zae rfl (zae rfl zay)))))) ((zaq rfl zap) zax) (zaj (zaj (zaj (zak rfl (zaj (zaj zar)))))) (zam rfl (supJ xa5) zaz) (lkOk rfl) ?_;intro fm hI;obtain ⟨i,zs⟩:=fm;replace hI:i<=l.length/\zs.map Zt.s=pst [] ((l.take i).flatMap (woP x y))/\Grow w.heap.size [] zs:=hI;show wc _ _ _ _ (upd (upd (upd (upd (upd (upd (fun _=>none) 1 (some (.val (tI x)))) 2 (some (.val (tI y)))) 8 (some (.own (.sl 8 8 0 zs.length)))) 22 (some (.val (tL 8 true tTs l)))) 23 (some (.val (tI l.length)))) 24 (some (.val (tI i)))) (upd (fun _=>none) 8 (some (⟨59,8,true,rV tZt zs⟩))) _;obtain ⟨hi,hz,hgr⟩:=hI;have hzl:zs.length<=2*i:=by
    have h:=yd1 ((l.take i).flatMap (woP x y)) [];rw [<-hz,qa8,zcq,zde] at h;simp at h;omega
   refine A6 ?_;refine x6 rfl (fun h111=> ?_) (fun h111=> ?_)
   ·
    refine A6 ?_;refine R2 (x4 sl51 (i) (by omega) (zai (l:=l) (n:=i) (d:=tst0))) rfl rfl ?_;refine A1 ?_;refine RE (x7 (k:=10) (n:=8) (agg:=true) zr59.1 zr59.2 rfl) trivial trivial ⟨rfl,trivial⟩ ?_;refine A9 ?_;refine A1 ?_;refine R2 qa1 rfl rfl ?_;refine A2 ?_;refine R3 (xb0 (r:=tS [⟨1,false,tI (l.getD i tst0).lo⟩,⟨1,false,tI (min (l.getD i tst0).hi x)⟩,⟨6,true,tVa (l.getD i tst0).v⟩]) (ts:=[(0,tI (l.getD i tst0).lo),(1,tI (min (l.getD i tst0).hi x)),(2,tVa (l.getD i tst0).v)]) bu59 zr59.2 (Bc 0 rfl rfl rfl (Bc 1 rfl rfl rfl (Bc 2 rfl rfl rfl zao)))) rfl rfl rfl ?_;refine RE (x7 (k:=11) (n:=8) (agg:=true) zr59.1 zr59.2 rfl) trivial trivial ⟨rfl,trivial⟩ ?_;refine A8 ?_;refine R2 yo8 rfl rfl ?_;refine A4 ?_;refine R3 (xb0 (r:=tS [⟨1,false,tI (max (l.getD i tst0).lo y)⟩,⟨1,false,tI (l.getD i tst0).hi⟩,⟨6,true,tVa (l.getD i tst0).v⟩]) (ts:=[(0,tI (max (l.getD i tst0).lo y)),(1,tI (l.getD i tst0).hi),(2,tVa (l.getD i tst0).v)]) bu59 zr59.2 (Bc 0 rfl rfl rfl (Bc 1 rfl rfl rfl (Bc 2 rfl rfl rfl zao)))) rfl rfl rfl ?_;refine RE (x7 (k:=12) (n:=8) (agg:=true) zr59.1 zr59.2 rfl) trivial trivial ⟨rfl,trivial⟩ ?_;refine A3 ?_;refine ya4 ?_;refine xf4 xb9 ⟨rfl,trivial⟩ trivial trivial rfl ?_;refine xf4 (xc1 (0) ti59 rfl rfl) ⟨rfl,trivial⟩ ⟨rfl,trivial⟩ trivial rfl ?_;refine xf4 (xc1 (0) ti59 rfl rfl) ⟨rfl,trivial⟩ ⟨rfl,trivial⟩ trivial rfl ?_;refine xf4 (xb5 (n:=2) (f:=tTs) [(⟨(l.getD i tst0).lo,min (l.getD i tst0).hi x,(l.getD i tst0).v⟩:Tst),(⟨max (l.getD i tst0).lo y,(l.getD i tst0).hi,(l.getD i tst0).v⟩:Tst)] zhm el59 zf59 rfl (fun _=>inferInstance) rfl rfl rfl) ⟨rfl,rfl,trivial⟩ trivial trivial rfl ?_;have hcl: ∀s∈(woP x y (l.getD i tst0)),s.v.f.n.l.length<=1000000/\s.v.f.d.l.length<=1000000:=by
     intro s hs;have h:=hlen _ (xi0 (l:=l) (i:=i) (by omega));have e:s.v=(l.getD i tst0).v:=by
      simp only [woP,zbr,zdm,or_false] at hs;rcases hs with rfl | rfl <;> rfl
     rw [e];exact ⟨by omega,by omega⟩
    refine yz1 (hds zs) (fun j=>cond (Nat.beq j 1) 8 (50)) (za1 zs (woP x y (l.getD i tst0)) (by omega) (by simp [woP]) hcl) fi192 rfl (krC (ρ:=fun j=>cond (Nat.beq j 1) 8 (50)) (k:=1) xa6 (krN (ρ:=fun j=>cond (Nat.beq j 1) 8 (50)))) (fun _=>krC (ρ:=fun j=>cond (Nat.beq j 1) 8 (50)) (k:=90) xa6 (krN (ρ:=fun j=>cond (Nat.beq j 1) 8 (50)))) (fun _=>⟨⟨rfl,xa5⟩,trivial⟩) rfl (fun _=>rfl) ⟨rfl,rfl,trivial⟩ ⟨rfl,trivial⟩ ⟨rfl,trivial⟩ (xp8 (k:=8) rfl) rfl (fun ys n hn ho hR=> ?_);refine xf4 xe5 ⟨rfl,trivial⟩ trivial trivial rfl ?_;refine xp1 ?_;refine A6 ?_;exact xc6 (l:=[8]) (zab 8 50) ((i+1,ys)) ⟨(by dsimp only;exact ⟨by omega,by rw [w5 (by omega),qg4,<-hz];exact hR.1,hgr.trans hn hR.2⟩),(by dsimp only;omega)⟩ (zaf rfl (zaf rfl (zas rfl (zas rfl (zaf rfl (zaf rfl zbd)))))) ((zbb rfl (zat xa6.symm)) zbe) (zaj (zaj (zaj (zak rfl (zaj (zaj zar)))))) (zam rfl (supJ xa5) zaz) (lkOk rfl) rfl rfl (fun _ h=>by cases h)
   ·
    refine A9 ?_;refine A4 ?_;refine E_X ((zs,0)) (⟨by rw [if_pos hok,hz,woT,show i=l.length by omega,zbx],by rw [if_pos hok],hgr.ends.1,hgr.ends.2⟩) ?_;exact yd0 (r1:= .own (.sl 8 8 0 zs.length)) (r2:= .val (tI 0)) LentC.mk' rfl rfl rfl Imp.refl Imp.refl ⟨rfl,trivial⟩ rfl ⟨⟨rfl,xa5⟩,trivial⟩ rfl
end An.S
