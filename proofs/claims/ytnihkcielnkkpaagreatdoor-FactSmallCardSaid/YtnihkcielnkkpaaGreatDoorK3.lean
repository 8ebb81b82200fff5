/- Part 3 of a proof: Ty, LibZc, P2, LibZg, P3, Stab, Stab2, Stab3, Fa, F1, F2, LibKn, Cal, Sal, Fv, LibSt, F3, LibZh, LibZi, LibMa, LibMb, LibMs, Fv2, LibAp, LibAq, LibAr, LibAs, F4, F5, Ft, LibLk, LibNw, LibOv, LibLw, LibLx, LibN2, LibAt, LibAw, LibRn, F6, Fl. -/
import Derived.Laws.Strings2
import Derived.Laws.IdiomStrings
import Derived.Maps.RangeRun
import Derived.MapKept
import Derived.Carry
import Derived.Test.YtnihkcielnkkpaaGreatDoorK2
set_option maxHeartbeats 4000000
set_option maxRecDepth 100000
namespace An.S
open Go
def spT (s:Tst):Sn:=⟨s.lo,s.hi⟩
def cvS (l:List Tst):List Sn:=l.map spT
theorem qp4 {l:List Sn} (h:ascS l):mkS l=mrg l:=by rw [mkS,jv7 h,jq2 h]
theorem w6 {l:List Tst} {d:Int}:mem (cvS l) d=(valT l d).isSome:=by
 rw [Bool.eq_iff_iff,mem_iff];constructor
 ·rintro ⟨s,hs,h⟩;obtain ⟨x,hx,rfl⟩:=zci.1 hs;cases hv:valT l d with
  | some v=>rfl
  | none=>exact absurd h (xm5.1 hv x hx)
 ·intro h;obtain ⟨v,hv⟩:=Option.isSome_iff_exists.1 h;obtain ⟨s,hs,h2,_⟩:=xz7 hv;exact ⟨spT s,zcz hs,h2⟩
theorem mk_set {l:List Sn} (h:ascS l):sVal (mkS l)=true/\ ∀d,mem (mkS l) d=mem l d:=by
 rw [qp4 h];have h1:=zj0 l [] h rfl fun h'=>by cases h'
 refine ⟨h1.1,fun d=> ?_⟩;have:=qq5 (d:=d) l [] h rfl fun h'=>by cases h'
 rw [mrg,this];rfl
def jnC (a b:List Tst):Prop:=(tRight a=true/\tRight b=true)/\ ¬(0 < a.length/\0 < b.length/\(a.getD 0 tst0).v.kind≠(b.getD 0 tst0).v.kind)
instance (a b:List Tst):Decidable (jnC a b):=inferInstanceAs (Decidable (_/\_))
def gdf (a b:List Tst) (d:Int):Option Va:=if dfB a b d then some An.va0 else none
theorem qn0 (a b:List Tst): ∀k,dfK a b k=cvS (segN (gdf a b) (bds [a,b]) k)
 | 0=>rfl
 | k+1=>by
  rw [yw0,y9,cvS,zez,<-cvS,<-qn0 a b k]
  congr 1
  rw [dfI,segI,gdf];by_cases h:dfB a b ((bds [a,b]).getD k 0)=true
  ·rw [if_pos h,if_pos h];rfl
  ·rw [if_neg h,if_neg h];rfl
theorem zi2 (a b:List Tst):dfT a b=cvS (segL (gdf a b) (bds [a,b])):=by rw [dfT,qn0,za4]
def dfS (a b:List Tst):List Sn:=mkS (dfT a b)
theorem qz2 {a b:List Tst} (ha:tRight a=true) (hb:tRight b=true) {x:Int} (hx:x∈bds [a,b]):0<=x/\x<=65536:=by
 obtain ⟨l,hl,s,hs,he⟩:=zg5.1 hx;have:0<=s.lo/\s.lo < s.hi/\s.hi<=65536:=by
  rcases zbr.1 hl with rfl | hl
  ·obtain ⟨i,hi,rfl⟩:=xz1 hs;have:=xm7 ha hi;omega
  ·rw [zbj.1 hl] at hs;obtain ⟨i,hi,rfl⟩:=xz1 hs;have:=xm7 hb hi;omega
 omega
theorem zh2 {a b:List Tst} (ha:tRight a=true) (hb:tRight b=true):ascS (dfT a b):=by
 rw [zi2];have hp:=yr4 (g:=gdf a b) (zw8 (ls:=[a,b]));refine ⟨fun s hs=> ?_,hp.2.map spT fun s t hst=>hst⟩;obtain ⟨x,hx,rfl⟩:=zci.1 hs;have h1:=yv5 hx;have b1:=qz2 ha hb h1.1;have b2:=qz2 ha hb h1.2.1;exact ⟨b1.1,hp.1 x hx,b2.2⟩
theorem qk2 {a b:List Tst} (ha:tRight a=true) (hb:tRight b=true):sVal (dfS a b)=true/\ ∀d,mem (dfS a b) d=dfB a b d:=by
 have:=mk_set (zh2 ha hb);refine ⟨this.1,fun d=> ?_⟩;rw [dfS,this.2,zi2,w6,w5 (a:=a) (b:=b) (fun d x h1 h2=>by rw [gdf,gdf,dfB,dfB,h1,h2]) (fun d h1 h2=>by rw [gdf,dfB,h1,h2];rfl) zw8 (zz6 (by simp)) (zz6 (by simp)),gdf];cases dfB a b d <;> rfl
end An.S
namespace An
open Go
theorem BuI.array {P:Program} {T E len n:Nat} {agg:Bool} {z:Value} (hu:P.underlying T=some (.array len E)) (te:TyI P E n agg) (hz:(P.info? T).bind (·.zero)=some z):BuI P T (fun i=>some (i*n,n)) z:=by
 refine ⟨fun parts w cs hf=> ?_⟩;simp only [Instr.build,zbu,yz4 hz,zbn,zcj hu,te.size_run w];rw [hf];simp
theorem qp0 {α:Type} {f:α->Ty} {n:Nat} {agg:Bool}: ∀(xs:List α) (k:Nat),k<=xs.length->Fd.off (xs.map fun y=>(⟨n,agg,f y⟩:Fd)) k=k*n
 | [],0,_=>by simp [Fd.off]
 | _::_,0,_=>by simp [Fd.off]
 | x::r,k+1,h=>by
  have ih:=qp0 (f:=f) (n:=n) (agg:=agg) r k (by simpa using h);rw [zcy,Fd.off,ih,zdh,Nat.one_mul];exact Nat.add_comm _ _
section
variable {P:Program} {c:Base} {d ty:Nat} {pos:String} {af:Array Edge} {gd:Option (Nat×Bool)}
theorem d_idxS {T E len n:Nat} {α:Type} {f:α->Ty} {xs:List α} {x y:Operand} {k:IntKind} {i:Int} (j:Nat) (z:α) (hu:P.underlying T=some (.array len E)) (te:TyI P E n true) (hi:i=(j:Int)) (hj:j < len) (hl:xs.length=len):
  Does P c ⟨some d,.index T x y,ty,pos,af,gd⟩ ⟨[(x,.val (tS (xs.map fun y=>⟨n,true,f y⟩))),(y,.val (tE (.int k i)))],[],some (d,some (.val (f (xs.getD j z)))),[],[]⟩:=
 Does.value rfl fun g h al a w η hrd _ s=>by
  have h1:=(xa2 s hrd.1).1;have h2:a.eval y= .int k i:=(xa2 s hrd.2.1).1;subst hi;have hx:(xs.map fun y=>(⟨n,true,f y⟩:Fd))[j]? =some ⟨n,true,f (xs.getD j z)⟩:=by
   rw [zbs,zbh,zbi (by omega)];rfl
  obtain ⟨cs,e1,e2,e3,_⟩:=At.f j hx (qp0 xs j (by omega)) _ _ _ h1;simp only [pick,zev] at e3;refine ⟨_,w,?_,Ext.refl w,e3,fun k hk=>by cases hk⟩;simp only [execOp,e1,h2,Instr.index,asIntOf,zbu,zbx,zbn,zcj hu];rw [if_pos ⟨by omega,by omega⟩];simp only [part,zbu,te.size_run w,te.agg_run w,zbn,Int.toNat_natCast,zbx,↓reduceIte]
end
end An
namespace An.S
open Go Go.Proofs An Tryz
instance ti57:TyI Tryz.prog 57 1 false:=⟨by kernel_rfl,by kernel_rfl⟩
instance fi115:FnI Tryz.prog 115:=⟨_,func115,by kernel_rfl,rfl⟩
instance fi116:FnI Tryz.prog 116:=⟨_,func116,by kernel_rfl,rfl⟩
instance fi117:FnI Tryz.prog 117:=⟨_,func117,by kernel_rfl,rfl⟩
instance fi173:FnI Tryz.prog 173:=⟨_,func173,by kernel_rfl,rfl⟩
theorem zr57:(Tryz.prog.info? 57).bind (·.zero)=some (.slice none 0 0)/\ ∀F w,(tE (.slice none 0 0)).p F w (.slice none 0 0):=⟨by kernel_rfl,fun _ _=>rfl⟩
theorem qa5 {o:Option Va} (h:(!o.isNone)=true): ∃v,o=some v:=by
 cases o with
 | none=>cases h
 | some v=>exact ⟨v,rfl⟩
theorem qw7 {a b:List Tst} {k:Nat} (h:valT a ((bds [a,b]).getD k 0)=valT b ((bds [a,b]).getD k 0)):dfK a b (k+1)=dfK a b k:=by
 rw [yw0,dfI,if_neg (by rw [dfB,h];simp),zdz]
theorem qc7 {a b:List Tst} {k:Nat} (h:valT a ((bds [a,b]).getD k 0)≠valT b ((bds [a,b]).getD k 0)):dfK a b (k+1)=dfK a b k++[⟨(bds [a,b]).getD k 0,(bds [a,b]).getD (k+1) 0⟩]:=by
 rw [yw0,dfI,if_pos (by rw [dfB];simpa using h)]
theorem jz1 {o:Option Va} (h:o.isNone=false): ∃v,o=some v:=qa5 (by rw [h];rfl)
end An.S
namespace An
open Go
section
variable {P:Program} {c:Base} {d ty:Nat} {pos:String} {af:Array Edge} {gd:Option (Nat×Bool)}
end
end An
namespace An.S
open Go Go.Proofs An Tryz
instance fi22:FnI Tryz.prog 22:=⟨_,func22,by kernel_rfl,rfl⟩
instance fi61:FnI Tryz.prog 61:=⟨_,func61,by kernel_rfl,rfl⟩
theorem za2 (x y:Tst):
  Ct Tryz.prog 61 [tTs x,tTs y] (tB (decide (x=y))):=by
 refine Ct.intro func61 rfl ntmps61 rfl ?_;intro w F;refine A15 ?_;refine RGcaseD (t:=10) rfl (fun h196=> ?_) (fun h196=> ?_)
 ·
  refine A7 ?_;refine RGcaseD (t:=17) rfl (fun h196_2=> ?_) (fun h196_2=> ?_)
  ·
   refine A4 ?_;refine Rg (zbf h196_2) rfl (x4 (xq9 _ _) fi22 rfl) rfl qB ?_;refine A5 ?_;exact E1 rfl rfl (zau (by obtain ⟨a,b,e⟩:=x;obtain ⟨c,d,f⟩:=y;simp only [Tst.mk.injEq] at*;simp_all <;> omega))
  ·
   refine A10 ?_;exact E1 rfl rfl (zau (by obtain ⟨a,b,e⟩:=x;obtain ⟨c,d,f⟩:=y;simp only [Tst.mk.injEq] at*;simp_all <;> omega))
 ·
  refine A17 ?_;exact E1 rfl rfl (zau (by obtain ⟨a,b,e⟩:=x;obtain ⟨c,d,f⟩:=y;simp only [Tst.mk.injEq] at*;simp_all <;> omega))
theorem yg4 (l:List Tst) (k:Nat) (hk:k < l.length):l.take (k+1)=l.take k++[l.getD k tst0]:=by
 rw [zca hk,zbh,zbi hk];rfl
theorem yh1 (l:List Int) (k:Nat) (hk:k < l.length):l.take (k+1)=l.take k++[l.getD k 0]:=by
 rw [zca hk,zbh,zbi hk];rfl
theorem yu1 (xs ys:List Tst):
  Ct Tryz.prog 21 [tL 8 true tTs xs,tL 8 true tTs ys] (tB (decide (xs=ys))):=by
 refine Ct.intro func21 rfl ntmps21 rfl ?_;intro w F;refine xg9 (s:=0) rfl (fun hl0=> ?_);refine A15 ?_;refine x9 rfl (fun h206=> ?_) (fun h206=> ?_)
 ·
  refine A7 ?_;exact E1 rfl rfl (zau (zbg (fun h=>by rw [h] at h206;omega)).symm)
 ·
  have hll:xs.length=ys.length:=by omega
  refine A9 ?_;refine cL (fun (i:Nat)=>i<=xs.length/\xs.take i=ys.take i) (fun (i:Nat)=>uV (uV (uV uN 0 (tL 8 true tTs xs)) 1 (tL 8 true tTs ys)) 5 (tI i)) (fun (i:Nat)=>fun _=>none) [] (fun (i:Nat)=>xs.length - i) (0) ⟨zbt _,rfl⟩ ?_;intro i hI;obtain ⟨hi,ht⟩:=hI;refine A9 ?_;refine x9 rfl (fun h209=> ?_) (fun h209=> ?_)
  ·
   refine A8 ?_;refine R2 (x5 sl38 i (by omega) (gD (d:=tst0) (by omega))) rfl rfl ?_;refine A3 ?_;refine R2 (x5 sl38 i (by omega) (gD (d:=tst0) (by omega))) rfl rfl ?_;refine A1 ?_;refine R2 (x4 (za2 _ _) fi61 rfl) rfl rfl ?_;refine A3 ?_;refine yq7 rfl (fun h210=> ?_) (fun h210=> ?_)
   ·
    refine A11 ?_;exact E1 rfl rfl (zau (zbg (fun h=>by rw [h] at h210;exact (h210 rfl))).symm)
   ·
    refine A8 ?_;exact kF (i+1) ⟨⟨by omega,by rw [yg4 xs i (by omega),yg4 ys i (by omega),ht,show xs.getD i tst0=ys.getD i tst0 from h210]⟩,(by omega)⟩
  ·
   refine A11 ?_;exact E1 rfl rfl (zau (zbf (by rw [show i=xs.length by omega,zcf,hll,zcf] at ht;exact ht)).symm)
theorem zc3 (xs ys:List Int):
  Ct Tryz.prog 33 [tL 1 false tI xs,tL 1 false tI ys] (tB (decide (xs=ys))):=by
 refine Ct.intro func33 rfl ntmps33 rfl ?_;intro w F;refine xg9 (s:=0) rfl (fun hl0=> ?_);refine A15 ?_;refine x9 rfl (fun h27=> ?_) (fun h27=> ?_)
 ·
  refine A7 ?_;exact E1 rfl rfl (zau (zbg (fun h=>by rw [h] at h27;omega)).symm)
 ·
  have hll:xs.length=ys.length:=by omega
  refine A9 ?_;refine cL (fun (i:Nat)=>i<=xs.length/\xs.take i=ys.take i) (fun (i:Nat)=>uV (uV (uV uN 0 (tL 1 false tI xs)) 1 (tL 1 false tI ys)) 5 (tI i)) (fun (i:Nat)=>fun _=>none) [] (fun (i:Nat)=>xs.length - i) (0) ⟨zbt _,rfl⟩ ?_;intro i hI;obtain ⟨hi,ht⟩:=hI;refine A9 ?_;refine x9 rfl (fun h30=> ?_) (fun h30=> ?_)
  ·
   refine A8 ?_;refine R2 (x5 sl35 i (by omega) (gD (d:=0) (by omega))) rfl rfl ?_;refine A3 ?_;refine R2 (x5 sl35 i (by omega) (gD (d:=0) (by omega))) rfl rfl ?_;refine A4 ?_;refine x9 rfl (fun h31=> ?_) (fun h31=> ?_)
   ·
    refine A11 ?_;exact E1 rfl rfl (zau (zbg (fun h=>by rw [h] at h31;exact (h31 rfl))).symm)
   ·
    refine A8 ?_;exact kF (i+1) ⟨⟨by omega,by rw [yh1 xs i (by omega),yh1 ys i (by omega),ht,show xs.getD i 0=ys.getD i 0 from (Decidable.of_not_not h31)]⟩,(by omega)⟩
  ·
   refine A11 ?_;exact E1 rfl rfl (zau (zbf (by rw [show i=xs.length by omega,zcf,hll,zcf] at ht;exact ht)).symm)
end An.S
namespace An
section
variable {α:Type} {k:α->Int}
def Sbl (k:α->Int) (xs ys:List α):Prop:= ∀v,xs.filter (fun x=>decide (k x=v))=ys.filter (fun x=>decide (k x=v))
theorem Sbl.refl (xs:List α):Sbl k xs xs:=fun _=>rfl
theorem Sbl.symm {xs ys:List α} (h:Sbl k xs ys):Sbl k ys xs:=fun v=>(h v).symm
theorem Sbl.trans {xs ys zs:List α} (h:Sbl k xs ys) (g:Sbl k ys zs):Sbl k xs zs:=fun v=>(h v).trans (g v)
theorem Sbl.app {a b c d:List α} (h:Sbl k a b) (g:Sbl k c d):Sbl k (a++c) (b++d):=fun v=>by rw [List.filter_append,List.filter_append,h v,g v]
theorem Sbl.swap {u v:List α} (h: ∀a∈u,∀b∈v,k a≠k b):Sbl k (u++v) (v++u):=fun z=>by
 rw [List.filter_append,List.filter_append];by_cases hu:u.filter (fun x=>decide (k x=z))=[]
 ·rw [hu];simp
 ·have hv:v.filter (fun x=>decide (k x=z))=[]:=List.filter_eq_nil_iff.2 fun b hb hbz=>by
   obtain ⟨a,ha⟩:=List.exists_mem_of_ne_nil _ hu;obtain ⟨h1,h2⟩:=List.mem_filter.1 ha;exact h a h1 b hb ((zdt h2).trans (zdt hbz).symm)
  rw [hv];simp
theorem Sbl.mem {xs ys:List α} (h:Sbl k xs ys) {x:α}:x∈xs↔x∈ys:=by
 have h1:=h (k x);have e: ∀l:List α,x∈l↔x∈l.filter (fun y=>decide (k y=k x)):=fun l=>by simp
 rw [e xs,e ys,h1]
theorem Sbl.tail {x:α} {xs ys:List α} (h:Sbl k (x::xs) (x::ys)):Sbl k xs ys:=fun v=>by
 have:=h v;rw [List.filter_cons,List.filter_cons] at this;split at this
 ·exact (List.cons.inj this).2
 ·exact this
abbrev Srt (k:α->Int) (xs:List α):Prop:=xs.Pairwise fun a b=>k a<=k b
theorem jk9: ∀{xs ys:List α},Srt k xs->Srt k ys->Sbl k xs ys->xs=ys
 | [],[],_,_,_=>rfl
 | [],y::s,_,_,h=>by have:=(h.mem (x:=y)).2 (zby ..);cases this
 | x::r,[],_,_,h=>by have:=(h.mem (x:=x)).1 (zby ..);cases this
 | x::r,y::s,h1,h2,h=>by
  have g1:=zcg.1 h1;have g2:=zcg.1 h2;have a1:k y<=k x:=by
   rcases zbr.1 ((h.mem (x:=x)).1 (zby ..)) with e | e
   ·rw [e];exact zea _
   ·exact g2.1 x e
  have a2:k x<=k y:=by
   rcases zbr.1 ((h.mem (x:=y)).2 (zby ..)) with e | e
   ·rw [e];exact zea _
   ·exact g1.1 y e
  have hv:=h (k x);rw [List.filter_cons,List.filter_cons,if_pos (by simp),if_pos (by simp;omega)] at hv;have e:=(List.cons.inj hv).1;subst e;rw [jk9 g1.2 g2.2 h.tail]
def insS (k:α->Int) (x:α):List α->List α
 | []=>[x]
 | y::r=>if k x<=k y then x::y::r else y::insS k x r
def ssort (k:α->Int):List α->List α
 | []=>[]
 | x::r=>insS k x (ssort k r)
theorem yz1 {x:α}: ∀l:List α,Sbl k (x::l) (insS k x l)
 | []=>Sbl.refl _
 | y::r=>by
  rw [insS];split
  ·exact Sbl.refl _
  ·next h=>exact Sbl.trans (Sbl.swap (u:=[x]) (v:=[y]) (fun a ha b hb=>by rw [zbj.1 ha,zbj.1 hb];omega) |>.app (Sbl.refl r)) (Sbl.app (Sbl.refl [y]) (yz1 r))
theorem qc4 {x:α}: ∀{l:List α},Srt k l->Srt k (insS k x l)
 | [],_=>zek ..
 | y::r,h=>by
  rw [insS];split
  ·next hx=>exact zcg.2 ⟨fun b hb=>by
    rcases zbr.1 hb with e | e
    ·rw [e];exact hx
    ·exact Int.le_trans hx ((zcg.1 h).1 b e),h⟩
  ·next hx=>exact zcg.2 ⟨fun b hb=>by
    rcases zbr.1 ((yz1 r).mem.2 hb) with e | e
    ·rw [e];omega
    ·exact (zcg.1 h).1 b e,qc4 (zcg.1 h).2⟩
theorem xm6: ∀l:List α,Sbl k l (ssort k l)
 | []=>Sbl.refl _
 | x::r=>Sbl.trans (Sbl.app (Sbl.refl [x]) (xm6 r)) (yz1 _)
theorem xm8: ∀l:List α,Srt k (ssort k l)
 | []=>List.Pairwise.nil
 | _::r=>qc4 (xm8 r)
theorem yb0 {xs ys:List α} (h1:Srt k ys) (h2:Sbl k xs ys):ys=ssort k xs:=jk9 h1 (xm8 xs) (h2.symm.trans (xm6 xs))
theorem y5 {xs:List α} {x:α}:x∈ssort k xs↔x∈xs:=(xm6 xs).mem.symm
theorem zs3 {x:α}: ∀l:List α,(insS k x l).length=l.length+1
 | []=>rfl
 | y::r=>by rw [insS];split <;> simp [zs3 r]
theorem xo5: ∀l:List α,(ssort k l).length=l.length
 | []=>rfl
 | x::r=>by rw [ssort,zs3,xo5 r];rfl
variable (d:α)
structure Prt (k:α->Int) (d:α) (a b:Nat) (xs ys:List α):Prop where
  len:ys.length=xs.length
  out: ∀i,i < a∨b<=i->ys.getD i d=xs.getD i d
  sb:Sbl k xs ys
variable {d}
theorem Prt.refl (a b:Nat) (xs:List α):Prt k d a b xs xs:=⟨rfl,fun _ _=>rfl,Sbl.refl _⟩
theorem Prt.trans {a b:Nat} {xs ys zs:List α} (h:Prt k d a b xs ys) (g:Prt k d a b ys zs):Prt k d a b xs zs:=⟨g.len.trans h.len,fun i hi=>(g.out i hi).trans (h.out i hi),h.sb.trans g.sb⟩
theorem Prt.mono {a b a' b':Nat} {xs ys:List α} (h:Prt k d a b xs ys) (h1:a'<=a) (h2:b<=b'):Prt k d a' b' xs ys:=⟨h.len,fun i hi=>h.out i (by omega),h.sb⟩
def SrtP (k:α->Int) (d:α) (a b:Nat) (xs:List α):Prop:= ∀i j,a<=i->i < j->j < b->k (xs.getD i d)<=k (xs.getD j d)
theorem xh0 {xs ys:List α} (hl:xs.length=ys.length) (h: ∀i,i < xs.length->xs.getD i d=ys.getD i d):xs=ys:=by
 apply List.ext_getElem hl;intro i h1 h2;have:=h i h1
 rwa [zbh,zbh,zbi h1,zbi h2] at this
theorem xs0 {xs:List α} {n i:Nat} (h:i < n):(xs.take n).getD i d=xs.getD i d:=by rw [zbh,List.getElem?_take,if_pos h,zbh]
theorem xk2 {xs:List α} {n i:Nat}:(xs.drop n).getD i d=xs.getD (n+i) d:=by rw [zbh,List.getElem?_drop,zbh]
def sgm (a b:Nat) (xs:List α):List α:=(xs.take b).drop a
theorem xg8 {a b:Nat} {xs:List α} (hb:b<=xs.length):(sgm a b xs).length=b - a:=by rw [sgm,List.length_drop,zcu];omega
theorem xt0 {a b i:Nat} {xs:List α} (h:a+i < b):(sgm a b xs).getD i d=xs.getD (a+i) d:=by rw [sgm,xk2,xs0 h]
theorem xt1 {a b:Nat} {xs:List α} (hab:a<=b):xs=xs.take a++(sgm a b xs++xs.drop b):=by
 have e1:xs.take a=(xs.take b).take a:=by rw [List.take_take,zfn hab]
 rw [<-zdg,sgm,e1,List.take_append_drop,List.take_append_drop]
def srtR (k:α->Int) (a b:Nat) (xs:List α):List α:=xs.take a++(ssort k (sgm a b xs)++xs.drop b)
theorem jm4 {a b:Nat} {xs ys:List α} (hab:a<=b) (hb:b<=xs.length) (h:Prt k d a b xs ys):ys.take a=xs.take a/\ys.drop b=xs.drop b/\Sbl k (sgm a b xs) (sgm a b ys):=by
 have hl:=h.len;have e1:ys.take a=xs.take a:=xh0 (d:=d) (by simp [hl]) fun i hi=>by
  rw [zcu] at hi;rw [xs0 (by omega),xs0 (by omega),h.out i (by omega)]
 have e2:ys.drop b=xs.drop b:=xh0 (d:=d) (by simp [hl]) fun i hi=>by
  rw [xk2,xk2,h.out _ (by omega)]
 refine ⟨e1,e2,fun v=> ?_⟩;have h3:=h.sb v;have s1:=xt1 (xs:=xs) hab;have s2:=xt1 (xs:=ys) hab;rw [e1,e2] at s2;rw [s1,s2] at h3;simp only [List.filter_append] at h3;exact List.append_cancel_right (List.append_cancel_left h3)
theorem w4 {a b:Nat} {xs:List α} (hb:b<=xs.length) (h:SrtP k d a b xs):Srt k (sgm a b xs):=by
 refine zdx.2 fun i j hi hj hij=> ?_;rw [xg8 hb] at hi hj;have:=h (a+i) (a+j) (by omega) (by omega) (by omega);rw [<-xt0 (b:=b) (by omega),<-xt0 (b:=b) (by omega),zbh,zbh,zbi (by rw [xg8 hb];omega),zbi (by rw [xg8 hb];omega)] at this;exact this
theorem yc2 {a b:Nat} {xs ys:List α} (hab:a<=b) (hb:b<=xs.length) (h:Prt k d a b xs ys) (hs:SrtP k d a b ys):ys=srtR k a b xs:=by
 obtain ⟨h1,h2,h3⟩:=jm4 hab hb h;have:=yb0 (w4 (by rw [h.len];exact hb) hs) h3;rw [srtR,<-this,<-h1,<-h2,<-xt1 hab]
theorem jt6 {a b:Nat} {xs:List α} (hab:a<=b) (hb:b<=xs.length):(srtR k a b xs).length=xs.length:=by
 rw [srtR,zbm,zbm,xo5,xg8 hb,zcu,List.length_drop];omega
theorem xo6 {a b:Nat} {xs:List α} (hab:a<=b) (hb:b<=xs.length):Prt k d a b xs (srtR k a b xs):=by
 refine ⟨jt6 hab hb,fun i hi=> ?_,?_⟩
 ·rw [srtR];rcases hi with hi | hi
  ·rw [zbh,zct (by rw [zcu];omega),<-zbh,xs0 hi]
  ·have e1:(xs.take a).length=a:=by rw [zcu];omega
   have e2:(ssort k (sgm a b xs)).length=b - a:=by rw [xo5,xg8 hb]
   rw [zbh,zcr (by omega),zcr (by omega),<-zbh,xk2,e1,e2]
   congr 1;omega
 ·intro v;rw [srtR]
  conv=>lhs;rw [xt1 (xs:=xs) hab]
  exact ((Sbl.refl _).app ((xm6 _).app (Sbl.refl _))) v
theorem xv4 {a b:Nat} {xs:List α} (hab:a<=b) (hb:b<=xs.length):SrtP k d a b (srtR k a b xs):=by
 intro i j h1 h2 h3;have e1:(xs.take a).length=a:=by rw [zcu];omega
 have e2:(ssort k (sgm a b xs)).length=b - a:=by rw [xo5,xg8 hb]
 have key: ∀t,a<=t->(h:t < b)->(srtR k a b xs).getD t d=(ssort k (sgm a b xs))[t - a]'(by omega):=fun t g1 g2=>by
  rw [srtR,zbh,zcr (by omega),zct (by omega),e1,zbi (by omega)];rfl
 rw [key i h1 (by omega),key j (by omega) h3];exact zdx.1 (xm8 _) _ _ _ _ (by omega)
theorem jt5 {xs:List α}:srtR k 0 xs.length xs=ssort k xs:=by rw [srtR,sgm];simp
def rotR (a m b:Nat) (xs:List α):List α:=xs.take a++(sgm m b xs++(sgm a m xs++xs.drop b))
theorem jj7 {a m b:Nat} {xs:List α} (h1:a<=m) (h2:m<=b):xs=xs.take a++(sgm a m xs++(sgm m b xs++xs.drop b)):=by
 conv=>lhs;rw [xt1 (xs:=xs) h1,xt1 (xs:=xs.drop m) (a:=0) (b:=b - m) (by omega)]
 congr 2
 have e:b - m+m=b:=by omega
 rw [zej,List.nil_append,List.drop_drop,Nat.add_comm m,e]
 congr 1
 rw [sgm,sgm,List.drop_zero,List.take_drop,Nat.add_comm m,e]
theorem xe7 {a m b:Nat} {xs:List α} (h1:a<=m) (h2:m<=b) (h3:b<=xs.length):(rotR a m b xs).length=xs.length:=by
 simp only [rotR,zbm,zcu,List.length_drop,xg8 h3,xg8 (show m<=xs.length by omega)];omega
theorem xf1 {a m b i:Nat} {xs:List α} (h1:a<=m) (h2:m<=b) (h3:b<=xs.length):(rotR a m b xs).getD i d=if i < a then xs.getD i d else if i < a+(b - m) then xs.getD (m+(i - a)) d else if i < b then xs.getD (a+(i - (a+(b - m)))) d else xs.getD i d:=by
 have e0:(xs.take a).length=a:=by rw [zcu];omega
 have e1:=xg8 (a:=m) h3;have e2:=xg8 (a:=a) (show m<=xs.length by omega);rw [rotR,zbh];split
 ·rw [zct (by omega),<-zbh,xs0 (by omega)]
 ·rw [zcr (by omega)];split
  ·rw [zct (by omega),<-zbh,e0,xt0 (by omega)]
  ·rw [zcr (by omega)];split
   ·rw [zct (by omega),<-zbh,xt0 (by omega)]
    congr 1;omega
   ·rw [zcr (by omega),<-zbh,xk2]
    congr 1;omega
theorem yq3 {a m b:Nat} {xs:List α} (h1:a<=m) (h2:m<=b) (h3:b<=xs.length) (h: ∀i j,a<=i->i < m->m<=j->j < b->k (xs.getD i d)≠k (xs.getD j d)):Prt k d a b xs (rotR a m b xs):=by
 refine ⟨xe7 h1 h2 h3,fun i hi=> ?_,?_⟩
 ·rw [xf1 h1 h2 h3];rcases hi with hi | hi
  ·rw [if_pos hi]
  ·split
   ·omega
   ·split
    ·omega
    ·rw [if_neg (by omega)]
 ·intro v
  conv=>lhs;rw [jj7 (xs:=xs) h1 h2]
  rw [rotR,<-zdg (sgm a m xs),<-zdg (sgm m b xs)];refine ((Sbl.refl _).app ((Sbl.swap fun x hx y hy=> ?_).app (Sbl.refl _))) v;obtain ⟨i,hi,rfl⟩:=List.mem_iff_getElem.1 hx;obtain ⟨j,hj,rfl⟩:=List.mem_iff_getElem.1 hy;rw [xg8 (show m<=xs.length by omega)] at hi;rw [xg8 h3] at hj;have:=h (a+i) (m+j) (by omega) (by omega) (by omega) (by omega);rw [<-xt0 (b:=m) (by omega),<-xt0 (b:=b) (by omega),zbh,zbh,zbi (by rw [xg8 (show m<=xs.length by omega)];omega),zbi (by rw [xg8 h3];omega)] at this;exact this
def swpR (d:α) (a b n:Nat) (xs:List α):List α:=(List.range xs.length).map fun t=>if a<=t/\t < a+n then xs.getD (b+(t - a)) d else if b<=t/\t < b+n then xs.getD (a+(t - b)) d else xs.getD t d
theorem xh5 {a b n:Nat} {xs:List α}:(swpR d a b n xs).length=xs.length:=by simp [swpR]
theorem xh4 {a b n t:Nat} {xs:List α} (ht:t < xs.length):(swpR d a b n xs).getD t d=if a<=t/\t < a+n then xs.getD (b+(t - a)) d else if b<=t/\t < b+n then xs.getD (a+(t - b)) d else xs.getD t d:=by
 rw [swpR,zbh,zbs,zet ht];rfl
theorem jv5 {a b:Nat} {xs:List α}:swpR d a b 0 xs=xs:=xh0 (d:=d) xh5 fun i hi=>by
 rw [xh5] at hi;rw [xh4 hi,if_neg (by omega),if_neg (by omega)]
theorem yd3 {xs:List α} {i j:Nat} {x:α} (hi:i < xs.length):(xs.set i x).getD j d=if j=i then x else xs.getD j d:=by
 rw [zbh,zfk];by_cases h:i=j
 ·subst h;rw [if_pos rfl,if_pos hi,if_pos rfl];rfl
 ·rw [if_neg h,if_neg (Ne.symm h),zbh]
theorem jr9 {a b n:Nat} {xs:List α} (h1:a+n < b) (h2:b+n < xs.length):((swpR d a b n xs).set (a+n) (xs.getD (b+n) d)).set (b+n) (xs.getD (a+n) d)=swpR d a b (n+1) xs:=by
 refine xh0 (d:=d) (by simp [xh5]) fun i hi=> ?_;simp only [zdn,xh5] at hi;rw [yd3 (by simp [xh5];omega),yd3 (by simp [xh5];omega),xh4 hi,xh4 hi];by_cases e1:i=b+n
 ·subst e1;rw [if_pos rfl,if_neg (by omega),if_pos (by omega)]
  congr 1;omega
 ·rw [if_neg e1];by_cases e2:i=a+n
  ·subst e2;rw [if_pos rfl,if_pos (by omega)]
   congr 1;omega
  ·rw [if_neg e2]
   (repeat' split) <;> first | rfl | omega | (congr 1;omega)
theorem q0 {a b n:Nat} {xs:List α} (h1:a+n < b) (h2:b+n < xs.length):(swpR d a b n xs).getD (a+n) d=xs.getD (a+n) d/\(swpR d a b n xs).getD (b+n) d=xs.getD (b+n) d:=by
 rw [xh4 (by omega),xh4 (by omega),if_neg (by omega),if_neg (by omega),if_neg (by omega),if_neg (by omega)];exact ⟨rfl,rfl⟩
theorem jp1 {m i j:Nat} {xs:List α} (h1:i<=m) (h2:j < i) (h3:m+j<=xs.length):rotR (m - (i - j)) m (m+j) (swpR d (m - i) m j xs)=rotR (m - i) m (m+j) xs:=by
 have hl:(swpR d (m - i) m j xs).length=xs.length:=xh5;refine xh0 (d:=d) (by rw [xe7 (by omega) (by omega) (by omega),xe7 (by omega) (by omega) (by omega),hl]) fun t ht=> ?_;rw [xe7 (by omega) (by omega) (by omega),hl] at ht;rw [xf1 (by omega) (by omega) (by omega),xf1 (by omega) (by omega) (by omega)];by_cases c1:t < m - i
 ·rw [if_pos (by omega),if_pos c1,xh4 ht,if_neg (by omega),if_neg (by omega)]
 ·rw [if_neg c1];by_cases c2:t < m - i+(m+j - m)
  ·rw [if_pos (by omega),if_pos c2,xh4 ht,if_pos (by omega)]
  ·rw [if_neg c2];by_cases c3:t < m - (i - j)
   ·omega
   ·rw [if_neg c3];by_cases c4:t < m - (i - j)+(m+j - m)
    ·rw [if_pos c4,if_pos (by omega),xh4 (by omega),if_neg (by omega),if_pos (by omega)]
     congr 1;omega
    ·rw [if_neg c4];by_cases c5:t < m+j
     ·rw [if_pos c5,if_pos c5,xh4 (by omega),if_neg (by omega),if_neg (by omega)]
      congr 1;omega
     ·rw [if_neg c5,if_neg c5,xh4 ht,if_neg (by omega),if_neg (by omega)]
theorem jb1 {m i j:Nat} {xs:List α} (h1:i<=m) (h2:i < j) (h3:m+j<=xs.length):rotR (m - i) m (m+(j - i)) (swpR d (m - i) (m+j - i) i xs)=rotR (m - i) m (m+j) xs:=by
 have hl:(swpR d (m - i) (m+j - i) i xs).length=xs.length:=xh5;refine xh0 (d:=d) (by rw [xe7 (by omega) (by omega) (by omega),xe7 (by omega) (by omega) (by omega),hl]) fun t ht=> ?_;rw [xe7 (by omega) (by omega) (by omega),hl] at ht;rw [xf1 (by omega) (by omega) (by omega),xf1 (by omega) (by omega) (by omega)];by_cases c1:t < m - i
 ·rw [if_pos c1,if_pos c1,xh4 ht,if_neg (by omega),if_neg (by omega)]
 ·rw [if_neg c1,if_neg c1];by_cases c2:t < m - i+(m+(j - i) - m)
  ·rw [if_pos c2,if_pos (by omega),xh4 (by omega),if_neg (by omega),if_neg (by omega)]
  ·rw [if_neg c2];by_cases c3:t < m+(j - i)
   ·rw [if_pos c3,if_pos (by omega),xh4 (by omega),if_pos (by omega)]
    congr 1;omega
   ·rw [if_neg c3];by_cases c4:t < m+j
    ·rw [xh4 ht,if_neg (by omega),if_pos (by omega),if_neg (by omega),if_pos c4]
     congr 1;omega
    ·rw [xh4 ht,if_neg (by omega),if_neg (by omega),if_neg (by omega),if_neg c4]
theorem ju4 {m i:Nat} {xs:List α} (h1:i<=m) (h3:m+i<=xs.length):swpR d (m - i) m i xs=rotR (m - i) m (m+i) xs:=by
 refine xh0 (d:=d) (by rw [xe7 (by omega) (by omega) (by omega),xh5]) fun t ht=> ?_;rw [xh5] at ht;rw [xf1 (by omega) (by omega) (by omega),xh4 ht]
 (repeat' split) <;> first | rfl | omega | (congr 1;omega)
def swp1 (d:α) (j:Nat) (xs:List α):List α:=(xs.set j (xs.getD (j+1) d)).set (j+1) (xs.getD j d)
theorem swp1_len {j:Nat} {xs:List α}:(swp1 d j xs).length=xs.length:=by simp [swp1]
theorem swp1_get {j t:Nat} {xs:List α} (h:j+1 < xs.length):(swp1 d j xs).getD t d=if t=j+1 then xs.getD j d else if t=j then xs.getD (j+1) d else xs.getD t d:=by
 rw [swp1,yd3 (by simp;omega),yd3 (by omega)]
theorem swp1_rot {j:Nat} {xs:List α} (h:j+1 < xs.length):swp1 d j xs=rotR j (j+1) (j+2) xs:=by
 refine xh0 (d:=d) (by rw [xe7 (by omega) (by omega) (by omega),swp1_len]) fun t ht=> ?_;rw [swp1_get h,xf1 (by omega) (by omega) (by omega)];by_cases c1:t=j+1
 ·subst c1;rw [if_pos rfl,if_neg (by omega),if_neg (by omega),if_pos (by omega)];congr 1;omega
 ·rw [if_neg c1];by_cases c2:t=j
  ·subst c2;rw [if_pos rfl,if_neg (by omega),if_pos (by omega)];congr 1;omega
  ·rw [if_neg c2];by_cases c3:t < j
   ·rw [if_pos c3]
   ·rw [if_neg c3,if_neg (by omega),if_neg (by omega)]
theorem swp1_prt {a b j:Nat} {xs:List α} (h1:a<=j) (h2:j+1 < b) (h3:b<=xs.length) (h:k (xs.getD (j+1) d) < k (xs.getD j d)):Prt k d a b xs (swp1 d j xs):=by
 rw [swp1_rot (by omega)];refine (yq3 (by omega) (by omega) (by omega) fun i i' g1 g2 g3 g4=> ?_).mono h1 (by omega);have e1:i=j:=by omega
 have e2:i'=j+1:=by omega
 subst e1 e2;omega
end
section
variable {α:Type} {k:α->Int} {d:α}
theorem qr7 {a b i:Nat} {xs ys:List α} (hb:b<=xs.length) (h:Prt k d a b xs ys) (h1:a<=i) (h2:i < b): ∃j,a<=j/\j < b/\ys.getD i d=xs.getD j d:=by
 have h3:=(jm4 (by omega) hb h).2.2;have e:ys.getD i d∈sgm a b ys:=by
  have hl:i - a < (sgm a b ys).length:=by rw [xg8 (by rw [h.len];exact hb)];omega
  have:=xt0 (d:=d) (a:=a) (b:=b) (i:=i - a) (xs:=ys) (by omega);rw [show a+(i - a)=i by omega] at this;rw [<-this,zbh,zbi hl];exact zfa hl
 obtain ⟨j,hj,hj2⟩:=List.mem_iff_getElem.1 (h3.mem.2 e);rw [xg8 hb] at hj;refine ⟨a+j,by omega,by omega,?_⟩;rw [<-xt0 (b:=b) (by omega),zbh (l:=sgm a b xs),zbi (by rw [xg8 hb];omega)];exact hj2.symm
theorem SrtP.sub {a b a' b':Nat} {xs:List α} (h:SrtP k d a b xs) (h1:a<=a') (h2:b'<=b):SrtP k d a' b' xs:=fun i j g1 g2 g3=>h i j (by omega) g2 (by omega)
theorem SrtP.le {a b i j:Nat} {xs:List α} (h:SrtP k d a b xs) (h1:a<=i) (h2:i<=j) (h3:j < b):k (xs.getD i d)<=k (xs.getD j d):=by
 rcases zcb i j with h4 | h4
 ·exact h i j h1 h4 h3
 ·rw [show i=j by omega];exact zea _
theorem SrtP.out {a b a' b':Nat} {xs ys:List α} (h:SrtP k d a b xs) (hp:Prt k d a' b' xs ys) (hd:b<=a'∨b'<=a):SrtP k d a b ys:=fun i j g1 g2 g3=>by
 rw [hp.out i (by omega),hp.out j (by omega)];exact h i j g1 g2 g3
def InsP (k:α->Int) (d:α) (a i j:Nat) (xs:List α):Prop:= ∀p q,a<=p->p < q->q<=i->q≠j->k (xs.getD p d)<=k (xs.getD q d)
theorem jc3 {a i:Nat} {xs:List α} (h:SrtP k d a i xs):InsP k d a i i xs:=fun p q h1 h2 h3 h4=>h p q h1 h2 (by omega)
theorem js2 {a i j:Nat} {xs:List α} (h:InsP k d a i (j+1) xs) (h1:a<=j) (h2:j+1<=i) (h3:i < xs.length) (hlt:k (xs.getD (j+1) d) < k (xs.getD j d)):InsP k d a i j (swp1 d j xs):=by
 intro p q g1 g2 g3 g4;rw [swp1_get (by omega),swp1_get (by omega)];by_cases c1:q=j+1
 ·subst c1;rw [if_pos rfl];by_cases c2:p=j
  ·subst c2;rw [if_neg (by omega),if_pos rfl];omega
  ·rw [if_neg (by omega),if_neg c2];exact h p j g1 (by omega) (by omega) (by omega)
 ·rw [if_neg c1,if_neg g4];by_cases c2:p=j+1
  ·subst c2;rw [if_pos rfl];exact h j q h1 (by omega) g3 c1
  ·rw [if_neg c2];by_cases c3:p=j
   ·subst c3;rw [if_pos rfl];exact h (p+1) q (by omega) (by omega) g3 c1
   ·rw [if_neg c3];exact h p q g1 g2 g3 c1
theorem qq4 {a i j:Nat} {xs:List α} (h:InsP k d a i j xs) (hj:j<=i) (hs:a < j->k (xs.getD (j - 1) d)<=k (xs.getD j d)):SrtP k d a (i+1) xs:=by
 intro p q g1 g2 g3;by_cases c:q=j
 ·subst c;have h1:=hs (by omega);rcases zcb p (q - 1) with h2 | h2
  ·have:=h p (q - 1) g1 h2 (by omega) (by omega);omega
  ·rw [show p=q - 1 by omega];exact h1
 ·exact h p q g1 g2 (by omega) c
theorem rot_up {a t:Nat} {xs:List α} (h:a+1+t < xs.length):swp1 d (a+t) (rotR a (a+1) (a+1+t) xs)=rotR a (a+1) (a+2+t) xs:=by
 have hl:(rotR a (a+1) (a+1+t) xs).length=xs.length:=xe7 (by omega) (by omega) (by omega);refine xh0 (d:=d) (by rw [swp1_len,hl,xe7 (by omega) (by omega) (by omega)]) fun i hi=> ?_;rw [swp1_len,hl] at hi;rw [swp1_get (by omega),xf1 (by omega) (by omega) (by omega),xf1 (by omega) (by omega) (by omega),xf1 (by omega) (by omega) (by omega),xf1 (by omega) (by omega) (by omega)]
 (repeat' split) <;> first | rfl | omega | (congr 1;omega)
theorem jp0 {j m:Nat} {xs:List α} (h1:j < m) (h2:m < xs.length):swp1 d j (rotR (j+1) m (m+1) xs)=rotR j m (m+1) xs:=by
 have hl:(rotR (j+1) m (m+1) xs).length=xs.length:=xe7 (by omega) (by omega) (by omega);refine xh0 (d:=d) (by rw [swp1_len,hl,xe7 (by omega) (by omega) (by omega)]) fun i hi=> ?_;rw [swp1_len,hl] at hi;rw [swp1_get (by omega),xf1 (by omega) (by omega) (by omega),xf1 (by omega) (by omega) (by omega),xf1 (by omega) (by omega) (by omega),xf1 (by omega) (by omega) (by omega)]
 (repeat' split) <;> first | rfl | omega | (congr 1;omega)
theorem zo0 (d:α) {a b:Nat} {xs:List α} (h1:a<=b) (h2:b<=xs.length):rotR a a b xs=xs:=xh0 (d:=d) (xe7 (by omega) h1 h2) fun i hi=>by
 rw [xf1 (by omega) h1 h2]
 (repeat' split) <;> first | rfl | omega | (congr 1;omega)
theorem zm0 (d:α) {a b:Nat} {xs:List α} (h1:a<=b) (h2:b<=xs.length):rotR a b b xs=xs:=xh0 (d:=d) (xe7 h1 (by omega) h2) fun i hi=>by
 rw [xf1 h1 (by omega) h2]
 (repeat' split) <;> first | rfl | omega | (congr 1;omega)
theorem qe9 {a b i:Nat} {xs:List α} (hs:SrtP k d (a+1) b xs) (hb:b<=xs.length) (h1:a+1<=i) (h2:i<=b) (h3: ∀t,a+1<=t->t < i->k (xs.getD t d) < k (xs.getD a d)) (h4: ∀t,i<=t->t < b->k (xs.getD a d)<=k (xs.getD t d)):rotR a (a+1) i xs=srtR k a b xs:=by
 refine yc2 (d:=d) (by omega) hb ((yq3 (by omega) h1 (by omega) fun p q g1 g2 g3 g4=> ?_).mono (zbq _) h2) fun p q g1 g2 g3=> ?_
 ·have e:p=a:=by omega
  subst e;have:=h3 q g3 g4;omega
 ·rw [xf1 (by omega) h1 (by omega),xf1 (by omega) h1 (by omega)];rw [if_neg (by omega),if_neg (show ¬q < a by omega)];by_cases c1:p < a+(i - (a+1))
  ·rw [if_pos c1];by_cases c2:q < a+(i - (a+1))
   ·rw [if_pos c2];exact hs _ _ (by omega) (by omega) (by omega)
   ·rw [if_neg c2];have:=h3 (a+1+(p - a)) (by omega) (by omega);by_cases c3:q < i
    ·rw [if_pos c3,show a+(q - (a+(i - (a+1))))=a by omega];omega
    ·rw [if_neg c3];have:=h4 q (by omega) g3;omega
  ·rw [if_neg c1];rw [if_neg (show ¬q < a+(i - (a+1)) by omega),if_neg (show ¬q < i by omega)];by_cases c3:p < i
   ·rw [if_pos c3,show a+(p - (a+(i - (a+1))))=a by omega];exact h4 q (by omega) g3
   ·rw [if_neg c3];exact hs p q (by omega) g2 g3
theorem qt0 {a m i:Nat} {xs:List α} (hs:SrtP k d a m xs) (hb:m < xs.length) (h1:a<=i) (h2:i<=m) (h3: ∀t,a<=t->t < i->k (xs.getD t d)<=k (xs.getD m d)) (h4: ∀t,i<=t->t < m->k (xs.getD m d) < k (xs.getD t d)):rotR i m (m+1) xs=srtR k a (m+1) xs:=by
 refine yc2 (d:=d) (by omega) hb ((yq3 h2 (by omega) (by omega) fun p q g1 g2 g3 g4=> ?_).mono h1 (zbq _)) fun p q g1 g2 g3=> ?_
 ·have e:q=m:=by omega
  subst e;have:=h4 p g1 g2;omega
 ·rw [xf1 h2 (by omega) (by omega),xf1 h2 (by omega) (by omega)];by_cases c1:p < i
  ·rw [if_pos c1];by_cases c2:q < i
   ·rw [if_pos c2];exact hs p q g1 g2 (by omega)
   ·rw [if_neg c2];by_cases c3:q < i+(m+1 - m)
    ·rw [if_pos c3,show m+(q - i)=m by omega];exact h3 p g1 c1
    ·rw [if_neg c3,if_pos (by omega)];exact hs p _ g1 (by omega) (by omega)
  ·rw [if_neg c1,if_neg (show ¬q < i by omega),if_neg (show ¬q < i+(m+1 - m) by omega),if_pos (show q < m+1 by omega)];by_cases c3:p < i+(m+1 - m)
   ·rw [if_pos c3,show m+(p - i)=m by omega];have:=h4 (i+(q - (i+(m+1 - m)))) (by omega) (by omega);omega
   ·rw [if_neg c3,if_pos (by omega)];exact hs _ _ (by omega) (by omega) (by omega)
structure CutP (k:α->Int) (d:α) (a m b s e mid:Nat) (xs:List α):Prop where
  la:a<=s
  sm:s<=m
  me:m<=e
  eb:e<=b
  hm:s+(e - m)=mid
  c1: ∀x y,a<=x->x < s->e<=y->y < b->k (xs.getD x d)<=k (xs.getD y d)
  c2: ∀x y,s<=x->x < m->m<=y->y < e->k (xs.getD y d) < k (xs.getD x d)
section
variable {a m b s e mid:Nat} {xs:List α}
theorem CutP.prt (h:CutP k d a m b s e mid xs) (hb:b<=xs.length):Prt k d a b xs (rotR s m e xs):=
 (yq3 h.sm h.me (by have:=h.eb;omega) fun p q g1 g2 g3 g4=>by have:=h.c2 p q g1 g2 g3 g4;omega).mono h.la h.eb
theorem CutP.get (h:CutP k d a m b s e mid xs) (hb:b<=xs.length) (i:Nat):(rotR s m e xs).getD i d=if i < s then xs.getD i d else if i < mid then xs.getD (m+(i - s)) d else if i < e then xs.getD (s+(i - mid)) d else xs.getD i d:=by
 have h1:=h.sm;have h2:=h.me;have h3:=h.eb;have h4:=h.hm;rw [xf1 h1 h2 (by omega),h4]
theorem CutP.left1 (h:CutP k d a m b s e mid xs) (hb:b<=xs.length) (hs:SrtP k d a m xs):SrtP k d a s (rotR s m e xs):=fun i j g1 g2 g3=>by
 have h1:=h.sm;rw [h.get hb,h.get hb,if_pos (by omega),if_pos g3];exact hs i j g1 g2 (by omega)
theorem CutP.left2 (h:CutP k d a m b s e mid xs) (hb:b<=xs.length) (hs:SrtP k d m b xs):SrtP k d s mid (rotR s m e xs):=fun i j g1 g2 g3=>by
 have h1:=h.sm;have h2:=h.me;have h3:=h.eb;have h4:=h.hm;rw [h.get hb,h.get hb,if_neg (by omega),if_pos (by omega),if_neg (by omega),if_pos g3];exact hs _ _ (by omega) (by omega) (by omega)
theorem CutP.right1 (h:CutP k d a m b s e mid xs) (hb:b<=xs.length) (hs:SrtP k d a m xs):SrtP k d mid e (rotR s m e xs):=fun i j g1 g2 g3=>by
 have h0:=h.la;have h1:=h.sm;have h2:=h.me;have h3:=h.eb;have h4:=h.hm;rw [h.get hb,h.get hb,if_neg (by omega),if_neg (by omega),if_pos (by omega),if_neg (by omega),if_neg (by omega),if_pos g3];exact hs _ _ (by omega) (by omega) (by omega)
theorem CutP.right2 (h:CutP k d a m b s e mid xs) (hb:b<=xs.length) (hs:SrtP k d m b xs):SrtP k d e b (rotR s m e xs):=fun i j g1 g2 g3=>by
 have h1:=h.sm;have h2:=h.me;have h3:=h.eb;have h4:=h.hm;rw [h.get hb,h.get hb,if_neg (by omega),if_neg (by omega),if_neg (by omega),if_neg (by omega),if_neg (by omega),if_neg (by omega)];exact hs _ _ (by omega) (by omega) (by omega)
theorem CutP.cross (h:CutP k d a m b s e mid xs) (hb:b<=xs.length) (hs1:SrtP k d a m xs) (hs2:SrtP k d m b xs) {i j:Nat} (g1:a<=i) (g2:i < mid) (g3:mid<=j) (g4:j < b):k ((rotR s m e xs).getD i d)<=k ((rotR s m e xs).getD j d):=by
 have h0:=h.la;have h1:=h.sm;have h2:=h.me;have h3:=h.eb;have h4:=h.hm;rw [h.get hb,h.get hb,if_neg (show ¬j < s by omega),if_neg (show ¬j < mid by omega)];by_cases c1:i < s
 ·rw [if_pos c1];by_cases c2:j < e
  ·rw [if_pos c2];exact hs1.le g1 (by omega) (by omega)
  ·rw [if_neg c2];exact h.c1 i j g1 c1 (by omega) g4
 ·rw [if_neg c1,if_pos g2];by_cases c2:j < e
  ·rw [if_pos c2];have:=h.c2 (s+(j - mid)) (m+(i - s)) (by omega) (by omega) (by omega) (by omega);omega
  ·rw [if_neg c2];exact hs2.le (by omega) (by omega) g4
theorem CutP.fin (h:CutP k d a m b s e mid xs) (hb:b<=xs.length) (hs1:SrtP k d a m xs) (hs2:SrtP k d m b xs):srtR k mid b (srtR k a mid (rotR s m e xs))=srtR k a b xs:=by
 have h0:=h.la;have h1:=h.sm;have h2:=h.me;have h3:=h.eb;have h4:=h.hm;have p1:=h.prt hb;have hb1:b<=(rotR s m e xs).length:=by rw [p1.len];exact hb
 have p2:Prt k d a mid (rotR s m e xs) (srtR k a mid (rotR s m e xs)):=xo6 (by omega) (by omega);have hb2:b<=(srtR k a mid (rotR s m e xs)).length:=by rw [p2.len];exact hb1
 have p3:Prt k d mid b (srtR k a mid (rotR s m e xs)) (srtR k mid b (srtR k a mid (rotR s m e xs))):=xo6 (by omega) hb2;refine yc2 (d:=d) (by omega) hb ((p1.trans (p2.mono (zbq _) (by omega))).trans (p3.mono (by omega) (zbq _))) fun i j g1 g2 g3=> ?_;rcases zcb j mid with c | c
 ·rw [p3.out i (by omega),p3.out j (by omega)];exact xv4 (by omega) (by omega) i j g1 g2 c
 ·rcases zcb i mid with c2 | c2
  ·rw [p3.out i (by omega)];obtain ⟨i',q1,q2,q3⟩:=qr7 (by omega) p2 g1 c2;obtain ⟨j',r1,r2,r3⟩:=qr7 hb2 p3 c g3;rw [q3,r3,p2.out j' (by omega)];exact h.cross hb hs1 hs2 q1 q2 r1 r2
  ·exact xv4 (by omega) hb2 i j c2 g2 g3
theorem zu4 {a b:Nat} {xs:List α} (hab:a<=b) (hb:b<=xs.length) (h:SrtP k d a b xs):srtR k a b xs=xs:=(yc2 hab hb (Prt.refl ..) h).symm
theorem CutP.leftId (h:CutP k d a m b s e mid xs) (hb:b<=xs.length) (hs1:SrtP k d a m xs) (hs2:SrtP k d m b xs) (hc: ¬(a < s/\s < mid)):srtR k a mid (rotR s m e xs)=rotR s m e xs:=by
 have h0:=h.la;have h1:=h.sm;have h2:=h.me;have h3:=h.eb;have h4:=h.hm;have p1:=h.prt hb;refine zu4 (d:=d) (by omega) (by rw [p1.len];omega) ?_;by_cases c:a < s
 ·have e1:mid=s:=by omega
  rw [e1];exact h.left1 hb hs1
 ·have e1:a=s:=by omega
  rw [e1];exact h.left2 hb hs2
theorem CutP.rightId (h:CutP k d a m b s e mid xs) (hb:b<=xs.length) (hs1:SrtP k d a m xs) (hs2:SrtP k d m b xs) (hc: ¬(mid < e/\e < b)):srtR k mid b (srtR k a mid (rotR s m e xs))=srtR k a mid (rotR s m e xs):=by
 have h0:=h.la;have h1:=h.sm;have h2:=h.me;have h3:=h.eb;have h4:=h.hm;have p1:=h.prt hb;have p2:Prt k d a mid (rotR s m e xs) (srtR k a mid (rotR s m e xs)):=xo6 (by omega) (by rw [p1.len];omega);refine zu4 (d:=d) (by omega) (by rw [p2.len,p1.len];omega) (SrtP.out ?_ p2 (.inr (zbq _)));by_cases c:mid < e
 ·have e1:b=e:=by omega
  rw [e1];exact h.right1 hb hs1
 ·have e1:mid=e:=by omega
  rw [e1];exact h.right2 hb hs2
end
end
section
variable {α:Type} {k:α->Int} {d:α} {xs ys:List α} {B n c c':Nat}
theorem cut_of {a b m mid s s0 r0:Nat} (h1:a < m) (h2:m < b) (hm:mid=(a+b) / 2) (hs1:SrtP k d a m xs) (hs2:SrtP k d m b xs) (hc:(mid < m/\s0=mid+m - b/\r0=mid)∨(m<=mid/\s0=a/\r0=m)) (h3:s0<=s) (h4:s<=r0)
  (hl: ∀c,s0<=c->c < s->k (xs.getD c d)<=k (xs.getD (mid+m - 1 - c) d)) (hr: ∀c,s<=c->c < r0->k (xs.getD (mid+m - 1 - c) d) < k (xs.getD c d)):CutP k d a m b s (mid+m - s) mid xs:=by
 refine ⟨by omega,by omega,by omega,by omega,by omega,fun x y g1 g2 g3 g4=> ?_,fun x y g1 g2 g3 g4=> ?_⟩
 ·have e:s0 < s:=by omega
  have q:=hl (s - 1) (by omega) (by omega);rw [show mid+m - 1 - (s - 1)=mid+m - s by omega] at q;have q1:=hs1.le (i:=x) (j:=s - 1) (by omega) (by omega) (by omega);have q2:=hs2.le (i:=mid+m - s) (j:=y) (by omega) (by omega) (by omega);omega
 ·have e:s < r0:=by omega
  have q:=hr s (by omega) e;have q1:=hs1.le (i:=s) (j:=x) (by omega) (by omega) (by omega);have q2:=hs2.le (i:=y) (j:=mid+m - 1 - s) (by omega) (by omega) (by omega);omega
def BlkP (k:α->Int) (d:α) (B n:Nat) (xs:List α):Prop:= ∀t,SrtP k d (t*B) (min (t*B+B) n) xs
def BlkA (k:α->Int) (d:α) (B u:Nat) (xs:List α):Prop:= ∀t,t < u->SrtP k d (t*B) (t*B+B) xs
theorem zi1 {t u B:Nat} (h:t < u):t*B+B<=u*B:=by
 have:=zbz B (show t+1<=u from h);rw [zcw] at this;exact this
theorem zm3:BlkA k d B 0 xs:=fun t h=>absurd h (Nat.not_lt_zero t)
theorem zn2 {u:Nat} (h:BlkA k d B u xs) (hp:Prt k d (u*B) (u*B+B) xs ys) (hs:SrtP k d (u*B) (u*B+B) ys):BlkA k d B (u+1) ys:=fun t ht=>by
 rcases zcb t u with h1 | h1
 ·exact (h t h1).out hp (.inl (zi1 h1))
 ·have e:t=u:=by omega
  subst e;exact hs
theorem zi5 {u:Nat} (h:BlkA k d B u xs) (h1:n < u*B+B) (hp:Prt k d (u*B) n xs ys) (hs:SrtP k d (u*B) n ys):BlkP k d B n ys:=fun t=>by
 rcases Nat.lt_trichotomy t u with h2 | h2 | h2
 ·exact ((h t h2).out hp (.inl (zi1 h2))).sub (zbq _) (Nat.min_le_left _ _)
 ·subst h2;rw [Nat.min_eq_right (by omega)];exact hs
 ·intro i j g1 g2 g3;have:=zi1 (B:=B) h2;omega
theorem ym5 {u B:Nat}:(2*u)*B=u*(2*B)/\(2*u+1)*B=u*(2*B)+B:=by
 have e:(2*u)*B=u*(2*B):=by rw [zem 2 u,zfu]
 exact ⟨e,by rw [zcw,e]⟩
def BlkR (k:α->Int) (d:α) (B n c:Nat) (xs:List α):Prop:= ∀t,c<=t*B->SrtP k d (t*B) (min (t*B+B) n) xs
theorem BlkR.at (h:BlkR k d B n c xs) {u:Nat} (hc:c<=u*(2*B)) (hn:u*(2*B)+B<=n):SrtP k d (u*(2*B)) (u*(2*B)+B) xs/\SrtP k d (u*(2*B)+B) (min (u*(2*B)+2*B) n) xs:=by
 obtain ⟨e1,e2⟩:=ym5 (u:=u) (B:=B);have h1:=h (2*u) (by rw [e1];exact hc);have h2:=h (2*u+1) (by rw [e2];omega);rw [e1,zfn hn] at h1;rw [e2,show u*(2*B)+B+B=u*(2*B)+2*B by omega] at h2;exact ⟨h1,h2⟩
theorem BlkR.one (h:BlkR k d B n c xs) {u:Nat} (hc:c<=u*(2*B)) (hn:n<=u*(2*B)+B):SrtP k d (u*(2*B)) n xs:=by
 have h1:=h (2*u) (by rw [ym5.1];exact hc);rw [ym5.1,Nat.min_eq_right hn] at h1;exact h1
theorem BlkR.next (h:BlkR k d B n c xs) {a b:Nat} (hp:Prt k d a b xs ys) (hb:b<=c') (hc:c<=c'):BlkR k d B n c' ys:=fun t ht=>(h t (by omega)).out hp (.inr (by omega))
theorem blkP_R (h:BlkP k d B n xs):BlkR k d B n 0 xs:=fun t _=>h t
theorem js4 (h:BlkP k d B n xs) (hn:n<=B):SrtP k d 0 n xs:=by
 have:=h 0;rw [zef,Nat.min_eq_right (by omega)] at this;exact this
theorem jq3 {u:Nat} (h:BlkA k d (2*B) u xs) (h1:n < u*(2*B)+2*B) (hs:SrtP k d (u*(2*B)) n xs):BlkP k d (2*B) n xs:=zi5 h h1 (Prt.refl ..) hs
end
end An
namespace An
open Go
structure Fa where
  key:ByteArray
  lo:Int
  hi:Int
  kn:Int
  gone:Bool
  v:Va
deriving DecidableEq
def fa0:Fa:=⟨⟨#[]⟩,0,0,0,false,va0⟩
abbrev tFa (f:Fa):Ty:=tS [⟨1,false,tE (.string f.key)⟩,⟨1,false,tI f.lo⟩,⟨1,false,tI f.hi⟩,⟨1,false,tI f.kn⟩,⟨1,false,tB f.gone⟩,⟨6,true,tVa f.v⟩]
def cmpK (x y:Int):Int:=if x < y then -1 else if y < x then 1 else 0
theorem xp9 {x y:Int}:cmpK x y < 0↔x < y:=by
 rw [cmpK];split
 ·next h=>exact ⟨fun _=>h,fun _=>by decide⟩
 ·next h=>split <;> exact ⟨fun h2=>absurd h2 (by decide),fun h2=>absurd h2 h⟩
def toldT (l:List Fa) (key:ByteArray) (known:Int):List Fa:=ssort Fa.kn (l.filter fun f=>decide (f.key=key) && decide (f.kn<=known))
end An
namespace An.S
open Go Go.Proofs An Tryz
instance ti30:TyI Tryz.prog 30 11 true:=⟨by kernel_rfl,by kernel_rfl⟩
instance sl33:SlI Tryz.prog 33 30 11 true:=⟨zgs,ti30⟩
instance fo30_3:FoI Tryz.prog 30 3 3:=⟨by kernel_rfl⟩
instance fi77:FnI Tryz.prog 77:=⟨_,func77,by kernel_rfl,rfl⟩
instance fi78:FnI Tryz.prog 78:=⟨_,func78,by kernel_rfl,rfl⟩
instance fi131:FnI Tryz.prog 131:=⟨_,func131,by kernel_rfl,rfl⟩
instance fi259:FnI Tryz.prog 259:=⟨_,func259,by kernel_rfl,rfl⟩
theorem qi3 (x:Int):
  Ct Tryz.prog 131 [tI x] (tB false):=by
 refine Ct.intro func131 rfl ntmps131 rfl ?_;intro w F;refine A14 ?_;exact E1 rfl rfl (zau (by simp))
theorem jm1 (x y:Int):
  Ct Tryz.prog 78 [tI x,tI y] (tI (cmpK x y)):=by
 refine Ct.intro func78 rfl ntmps78 rfl ?_;intro w F;refine A8 ?_;refine R1 (x4 (qi3 x) fi131 rfl) rfl ?_;refine A6 ?_;refine R1 (x4 (qi3 y) fi131 rfl) rfl ?_;refine A18 ?_;refine A11 ?_;refine x9 rfl (fun h52=> ?_) (fun h52=> ?_)
 ·
  refine A7 ?_;exact E1 rfl rfl (zba (by rw [cmpK,if_pos (by omega)]))
 ·
  refine A10 ?_;refine x9 rfl (fun h55=> ?_) (fun h55=> ?_)
  ·
   refine A7 ?_;exact E1 rfl rfl (zba (by rw [cmpK,if_neg (by omega),if_pos (by omega)]))
  ·
   refine A8 ?_;exact E1 rfl rfl (zba (by rw [cmpK,if_neg (by omega),if_neg (by omega)]))
theorem yj7 (x y:Fa):
  Ct Tryz.prog 77 [tFa x,tFa y] (tI (cmpK x.kn y.kn)):=by
 refine Ct.intro func77 rfl ntmps77 rfl ?_;intro w F;refine A13 ?_;refine R2 (x4 (jm1 x.kn y.kn) fi78 rfl) rfl rfl ?_;refine A4 ?_;exact E1 rfl rfl zao
theorem yu6 (xs:List Fa) {L:Nat} (eL:xs.length=L) (a b n:Nat) {x y u:Int} (ex:x=(a:Int)) (ey:y=(b:Int)) (eu:u=(n:Int)) (h1:a+n<=b) (h2:b+n<=xs.length) (hx:xs.length<=1000000):
  CtG Tryz.prog 259 [(20,⟨30,11,true,rV tFa xs⟩)] [.own (.sl 20 11 0 L),.val (tI x),.val (tI y),.val (tI u),.val (tE (.func (.func 77) #[] #[]))] (.val (tT [])) [(20,⟨30,11,true,rV tFa (swpR fa0 a b n xs)⟩)] []:=by
 subst ex ey eu eL;refine CtG.intro [20] func259 rfl ntmps259 rfl rfl ⟨⟨rfl,x6⟩,trivial⟩ ?_;intro w F η;refine A6 ?_;refine cL (fun (i:Nat)=>i<=n) (fun (i:Nat)=>uV (uV (uV (uV (uO uN 0 (.sl 20 11 0 xs.length)) 1 (tI a)) 2 (tI b)) 3 (tI n)) 10 (tI i)) (fun (i:Nat)=>uK uN 20 30 11 true (rV tFa (swpR fa0 a b i xs))) [20] (fun (i:Nat)=>n - i) (0) (zbt _) (hh:=((zaq rfl (zat (by rw [jv5]))) zax)) ?_;intro i hI;refine A8 ?_;refine x9 rfl (fun h330=> ?_) (fun h330=> ?_)
 ·
  refine A17 ?_;refine R2 (zag sl33 rfl) rfl rfl (RE (xa5 (b+i) ti30 (xc3 (f:=tFa) (xs:=(swpR fa0 a b i xs)) (d:=fa0) (by rw [xh5];omega)) (by omega)) qA qA trivial ?_);refine A4 ?_;refine R2 (zag sl33 rfl) rfl rfl (RE (xa5 (a+i) ti30 (xc3 (f:=tFa) (xs:=(swpR fa0 a b i xs)) (d:=fa0) (by rw [xh5];omega)) (by omega)) qA qA trivial (R2 (zag sl33 rfl) rfl rfl (RE (xc1 (a+i) ti30 (xi5 (by rw [xh5];omega)) (by omega) (xf0 (m:=((swpR fa0 a b i xs).getD (b+i) fa0)) rfl)) qB qA trivial (R2 (zag sl33 rfl) rfl rfl (RE (xc1 (b+i) ti30 (xi5 (by rw [zdn,xh5];omega)) (by omega) (xf0 (m:=((swpR fa0 a b i xs).getD (a+i) fa0)) rfl)) qB qA trivial ?_)))));refine A8 ?_;exact kF (i+1) ⟨(by omega),(by omega)⟩ (hh:=((zaq rfl (zat (by rw [(q0 (d:=fa0) (a:=a) (b:=b) (n:=i) (xs:=xs) (by omega) (by omega)).1,(q0 (d:=fa0) (a:=a) (b:=b) (n:=i) (xs:=xs) (by omega) (by omega)).2,jr9 (by omega) (by omega)]))) zax))
 ·
  refine A4 ?_;exact xg2 LentC.mk' rfl (.inr rfl) ⟨(congrArg some (show (⟨30,11,true,rV tFa (swpR fa0 a b i xs)⟩:HEnt)=⟨30,11,true,rV tFa (swpR fa0 a b n xs)⟩ by rw [show i=n by omega])),trivial⟩ ⟨⟨rfl,x6⟩,trivial⟩ rfl
theorem jk1 (xs:List Fa) {L:Nat} (eL:xs.length=L) (a m b:Nat) {x y u:Int} (ex:x=(a:Int)) (ey:y=(m:Int)) (eu:u=(b:Int)) (h1:a < m) (h2:m < b) (h3:b<=xs.length) (hx:xs.length<=1000000):
  CtG Tryz.prog 228 [(20,⟨30,11,true,rV tFa xs⟩)] [.own (.sl 20 11 0 L),.val (tI x),.val (tI y),.val (tI u),.val (tE (.func (.func 77) #[] #[]))] (.val (tT [])) [(20,⟨30,11,true,rV tFa (rotR a m b xs)⟩)] []:=by
 subst ex ey eu eL;refine CtG.intro [20] func228 rfl ntmps228 rfl rfl ⟨⟨rfl,x6⟩,trivial⟩ ?_;intro w F η;refine A18 ?_;refine cL (fun (fm:(List Fa)×(Nat)×(Nat))=>(fun (ys:List Fa) (i:Nat) (j:Nat)=>ys.length=xs.length/\0 < i/\0 < j/\i<=m/\m+j<=b/\rotR (m - i) m (m+j) ys=rotR a m b xs) fm.1 fm.2.1 fm.2.2) (wC fun (ys:List Fa) (i:Nat) (j:Nat)=>uV (uV (uV (uV (uO uN 0 (.sl 20 11 0 xs.length)) 2 (tI m)) 4 (tE (.func (.func 77) #[] #[]))) 10 (tI i)) 11 (tI j)) (wC fun (ys:List Fa) (i:Nat) (j:Nat)=>uK uN 20 30 11 true (rV tFa ys)) [20] (fun (fm:(List Fa)×(Nat)×(Nat))=>(fun (ys:List Fa) (i:Nat) (j:Nat)=>i+j) fm.1 fm.2.1 fm.2.2) ((xs,m - a,b - m)) (by dsimp only;exact ⟨rfl,by omega,by omega,by omega,by omega,by rw [show m - (m - a)=a by omega,show m+(b - m)=b by omega]⟩) (hg:=((zav rfl (Imp.int (by dsimp only;omega))) ((zav rfl (Imp.int (by dsimp only;omega))) (sC (sI (sC zay)))))) ?_;intro fm hI;obtain ⟨ys,i,j⟩:=fm;replace hI:ys.length=xs.length/\0 < i/\0 < j/\i<=m/\m+j<=b/\rotR (m - i) m (m+j) ys=rotR a m b xs:=hI;show wc _ _ _ _ (uV (uV (uV (uV (uO uN 0 (.sl 20 11 0 xs.length)) 2 (tI m)) 4 (tE (.func (.func 77) #[] #[]))) 10 (tI i)) 11 (tI j)) (uK uN 20 30 11 true (rV tFa ys)) _;obtain ⟨hl,hi,hj,him,hjb,hr⟩:=hI;refine A8 ?_;refine x9 rfl (fun h468=> ?_) (fun h468=> ?_)
 ·
  refine A10 ?_;refine x9 rfl (fun h469=> ?_) (fun h469=> ?_)
  ·
   refine A9 ?_;refine RE (xb7 (fun _=>20) (yu6 ys hl (m - i) m j (by omega) rfl rfl (by omega) (by omega) (by omega)) fi259 rfl (krC (ρ:=fun _=>20) (k:=20) x8 (krN (ρ:=fun _=>20))) (krC (ρ:=fun _=>20) (k:=20) x8 (krN (ρ:=fun _=>20))) ⟨⟨rfl,x6⟩,trivial⟩ rfl) ⟨rfl,rfl,rfl,rfl,rfl,trivial⟩ qA trivial ?_;refine A9 ?_;exact kF ((swpR fa0 (m - i) m j ys,i - j,j)) ⟨(by dsimp only;exact ⟨by rw [xh5,hl],by omega,hj,by omega,hjb,by rw [jp1 him (by omega) (by omega),hr]⟩),(by dsimp only;omega)⟩ (hg:=(sI ((zav rfl (Imp.int (by dsimp only;omega))) (sC (sI (sC zay))))))
  ·
   refine A13 ?_;refine RE (xb7 (fun _=>20) (yu6 ys hl (m - i) (m+j - i) i (by omega) (by omega) rfl (by omega) (by omega) (by omega)) fi259 rfl (krC (ρ:=fun _=>20) (k:=20) x8 (krN (ρ:=fun _=>20))) (krC (ρ:=fun _=>20) (k:=20) x8 (krN (ρ:=fun _=>20))) ⟨⟨rfl,x6⟩,trivial⟩ rfl) ⟨rfl,rfl,rfl,rfl,rfl,trivial⟩ qA trivial ?_;refine A9 ?_;exact kF ((swpR fa0 (m - i) (m+j - i) i ys,i,j - i)) ⟨(by dsimp only;exact ⟨by rw [xh5,hl],hi,by omega,him,by omega,by rw [jb1 him (by omega) (by omega),hr]⟩),(by dsimp only;omega)⟩ (hg:=((zav rfl (Imp.int (by dsimp only;omega))) (sI (sC (sI (sC zay))))))
 ·
  refine A13 ?_;refine RE (xb7 (fun _=>20) (yu6 ys hl (m - i) m i (by omega) rfl rfl (by omega) (by omega) (by omega)) fi259 rfl (krC (ρ:=fun _=>20) (k:=20) x8 (krN (ρ:=fun _=>20))) (krC (ρ:=fun _=>20) (k:=20) x8 (krN (ρ:=fun _=>20))) ⟨⟨rfl,x6⟩,trivial⟩ rfl) ⟨rfl,rfl,rfl,rfl,rfl,trivial⟩ qA trivial ?_;refine A1 ?_;exact xg2 LentC.mk' rfl (.inr rfl) ⟨(congrArg some (show (⟨30,11,true,rV tFa (swpR fa0 (m - i) m i ys)⟩:HEnt)=⟨30,11,true,rV tFa (rotR a m b xs)⟩ by rw [<-hr,show j=i by omega,ju4 him (by omega)])),trivial⟩ ⟨⟨rfl,x6⟩,trivial⟩ rfl
theorem zf7 (xs:List Fa) {L:Nat} (eL:xs.length=L) (a b:Nat) {x y:Int} (ex:x=(a:Int)) (ey:y=(b:Int)) (h1:a<=b) (h2:b<=xs.length) (hx:xs.length<=1000000):
  CtG Tryz.prog 188 [(20,⟨30,11,true,rV tFa xs⟩)] [.own (.sl 20 11 0 L),.val (tI x),.val (tI y),.val (tE (.func (.func 77) #[] #[]))] (.val (tT [])) [(20,⟨30,11,true,rV tFa (srtR Fa.kn a b xs)⟩)] []:=by
 subst ex ey eL;refine CtG.intro [20] func188 rfl ntmps188 rfl rfl ⟨⟨rfl,x6⟩,trivial⟩ ?_;intro w F η;refine A8 ?_;refine cL (fun (fm:(List Fa)×(Nat))=>(fun (ys:List Fa) (i:Nat)=>ys.length=xs.length/\a < i/\(i<=b∨i=a+1)/\Prt Fa.kn fa0 a b xs ys/\SrtP Fa.kn fa0 a i ys) fm.1 fm.2) (wB fun (ys:List Fa) (i:Nat)=>uV (uV (uV (uV (uO uN 0 (.sl 20 11 0 xs.length)) 1 (tI a)) 2 (tI b)) 3 (tE (.func (.func 77) #[] #[]))) 8 (tI i)) (wB fun (ys:List Fa) (i:Nat)=>uK uN 20 30 11 true (rV tFa ys)) [20] (fun (fm:(List Fa)×(Nat))=>(fun (ys:List Fa) (i:Nat)=>b - i) fm.1 fm.2) ((xs,a+1)) (by dsimp only;exact ⟨rfl,by omega,.inr rfl,Prt.refl ..,fun i j g1 g2 g3=>by omega⟩) ?_;intro fm hI;obtain ⟨ys,i⟩:=fm;replace hI:ys.length=xs.length/\a < i/\(i<=b∨i=a+1)/\Prt Fa.kn fa0 a b xs ys/\SrtP Fa.kn fa0 a i ys:=hI;show wc _ _ _ _ (uV (uV (uV (uV (uO uN 0 (.sl 20 11 0 xs.length)) 1 (tI a)) 2 (tI b)) 3 (tE (.func (.func 77) #[] #[]))) 8 (tI i)) (uK uN 20 30 11 true (rV tFa ys)) _;obtain ⟨hl,hi,hib,hp,hs⟩:=hI;refine A8 ?_;refine x9 rfl (fun h11=> ?_) (fun h11=> ?_)
 ·
  refine A11 ?_;refine cL (fun (fm:(List Fa)×(Nat))=>(fun (zs:List Fa) (j:Nat)=>zs.length=xs.length/\a<=j/\j<=i/\Prt Fa.kn fa0 a b xs zs/\InsP Fa.kn fa0 a i j zs) fm.1 fm.2) (wB fun (zs:List Fa) (j:Nat)=>uV (uV (uV (uV (uV (uO uN 0 (.sl 20 11 0 xs.length)) 1 (tI a)) 2 (tI b)) 3 (tE (.func (.func 77) #[] #[]))) 8 (tI i)) 9 (tI j)) (wB fun (zs:List Fa) (j:Nat)=>uK uN 20 30 11 true (rV tFa zs)) [20] (fun (fm:(List Fa)×(Nat))=>(fun (zs:List Fa) (j:Nat)=>j) fm.1 fm.2) ((ys,i)) (by dsimp only;exact ⟨hl,by omega,zbq _,hp,jc3 hs⟩) ?_;intro fm hI;obtain ⟨zs,j⟩:=fm;replace hI:zs.length=xs.length/\a<=j/\j<=i/\Prt Fa.kn fa0 a b xs zs/\InsP Fa.kn fa0 a i j zs:=hI;show wc _ _ _ _ (uV (uV (uV (uV (uV (uO uN 0 (.sl 20 11 0 xs.length)) 1 (tI a)) 2 (tI b)) 3 (tE (.func (.func 77) #[] #[]))) 8 (tI i)) 9 (tI j)) (uK uN 20 30 11 true (rV tFa zs)) _;obtain ⟨hzl,haj,hji,hzp,hzi⟩:=hI;refine A7 ?_;refine RGcaseD (t:=21) rfl (fun h12=> ?_) (fun h12=> ?_)
  ·
   refine A3 ?_;refine Rg (zbf h12) rfl (zag sl33 rfl) rfl qB (RGon (zbf h12) rfl (xa5 (j) ti30 (xc3 (f:=tFa) (xs:=zs) (d:=fa0) (by omega)) (by omega)) rfl qA qA trivial ?_);refine A2 ?_;refine Rg (zbf h12) rfl (xh2 zah) rfl qB (Rg (zbf h12) rfl (zag sl33 rfl) rfl qB (RGon (zbf h12) rfl (xa5 (j - 1) ti30 (xc3 (f:=tFa) (xs:=zs) (d:=fa0) (by omega)) (by omega)) rfl qA qA trivial (Rg (zbf h12) rfl (xq0 (yj7 (zs.getD j fa0) (zs.getD (j - 1) fa0)) fi77 rfl) rfl qC ?_)));refine A4 ?_;refine x9 rfl (fun h12_2=> ?_) (fun h12_2=> ?_)
   ·
    refine A13 ?_;refine R2 (zag sl33 rfl) rfl rfl (RE (xa5 (j - 1) ti30 (xc3 (f:=tFa) (xs:=zs) (d:=fa0) (by omega)) (by omega)) qA qA trivial ?_);refine A2 ?_;refine R2 (zag sl33 rfl) rfl rfl (RE (xa5 (j) ti30 (xc3 (f:=tFa) (xs:=zs) (d:=fa0) (by omega)) (by omega)) qA qA trivial (R2 (zag sl33 rfl) rfl rfl (RE (xc1 (j) ti30 (xi5 (by omega)) (by omega) (xf0 (m:=(zs.getD (j - 1) fa0)) rfl)) qB qA trivial (R2 (zag sl33 rfl) rfl rfl (RE (xc1 (j - 1) ti30 (xi5 (by rw [zdn];omega)) (by omega) (xf0 (m:=(zs.getD j fa0)) rfl)) qB qA trivial ?_)))));refine A8 ?_;obtain ⟨q,rfl⟩: ∃q,j=q+1:=⟨j - 1,by omega⟩
    have hlt:=xp9.1 h12_2;rw [show q+1 - 1=q by omega] at*
    have e1:((zs.set (q+1) (zs.getD q fa0)).set q (zs.getD (q+1) fa0))=swp1 fa0 q zs:=by rw [swp1,List.set_comm _ _ (by omega)]
    exact kF ((swp1 fa0 q zs,q)) ⟨(by dsimp only;exact ⟨by rw [swp1_len,hzl],by omega,by omega,hzp.trans (swp1_prt (by omega) (by omega) (by omega) hlt),js2 hzi (by omega) (by omega) (by omega) hlt⟩),(by dsimp only;omega)⟩ (hg:=((zav rfl (Imp.int (by dsimp only;omega))) (sI (sC (sI (sI (sC zay))))))) (hh:=((zaq rfl (zat (by rw [e1]))) zax))
   ·
    refine A11 ?_;exact kF ((zs,i+1)) ⟨(by dsimp only;exact ⟨hzl,by omega,.inl (by omega),hzp,qq4 hzi (by omega) (fun hh=>by first | omega | exact Int.not_lt.1 (fun hc=>h12_2 (xp9.2 hc)))⟩),(by dsimp only;omega)⟩
  ·
   refine A18 ?_;refine A9 ?_;exact kF ((zs,i+1)) ⟨(by dsimp only;exact ⟨hzl,by omega,.inl (by omega),hzp,qq4 hzi (by omega) (fun hh=>by first | omega | exact Int.not_lt.1 (fun hc=>h12_2 (xp9.2 hc)))⟩),(by dsimp only;omega)⟩
 ·
  refine A4 ?_;exact xg2 LentC.mk' rfl (.inr rfl) ⟨(congrArg some (show (⟨30,11,true,rV tFa ys⟩:HEnt)=⟨30,11,true,rV tFa (srtR Fa.kn a b xs)⟩ by rw [yc2 h1 h2 hp (hs.sub (zbq _) (by omega))])),trivial⟩ ⟨⟨rfl,x6⟩,trivial⟩ rfl
instance fi130:FnI Tryz.prog 130:=⟨_,func130,by kernel_rfl,rfl⟩
instance fi188:FnI Tryz.prog 188:=⟨_,func188,by kernel_rfl,rfl⟩
instance fi189:FnI Tryz.prog 189:=⟨_,func189,by kernel_rfl,rfl⟩
instance fi228:FnI Tryz.prog 228:=⟨_,func228,by kernel_rfl,rfl⟩
instance un33:UnI Tryz.prog 33 (.slice 30):=⟨zgs⟩
def SymIHF (n:Nat):Prop:= ∀(xs:List Fa) (a m b:Nat) {L:Nat} {x y u:Int},xs.length=L->x=(a:Int)->y=(m:Int)->u=(b:Int)->a < m->m < b->b<=xs.length->xs.length<=1000000->SrtP Fa.kn fa0 a m xs->SrtP Fa.kn fa0 m b xs->b - a < n->CtG Tryz.prog 189 [(20,⟨30,11,true,rV tFa xs⟩)] [.own (.sl 20 11 0 L),.val (tI x),.val (tI y),.val (tI u),.val (tE (.func (.func 77) #[] #[]))] (.val (tT [])) [(20,⟨30,11,true,rV tFa (srtR Fa.kn a b xs)⟩)] []
theorem qs5 (n:Nat) (ih:SymIHF n) (xs:List Fa) (a m b:Nat) {L:Nat} {x y u:Int} (eL:xs.length=L) (ex:x=(a:Int)) (ey:y=(m:Int)) (eu:u=(b:Int)) (hab:a < m) (hmb:m < b) (h3:b<=xs.length) (hx:xs.length<=1000000) (hs1:SrtP Fa.kn fa0 a m xs) (hs2:SrtP Fa.kn fa0 m b xs) (hn:b - a<=n):
  CtG Tryz.prog 189 [(20,⟨30,11,true,rV tFa xs⟩)] [.own (.sl 20 11 0 L),.val (tI x),.val (tI y),.val (tI u),.val (tE (.func (.func 77) #[] #[]))] (.val (tT [])) [(20,⟨30,11,true,rV tFa (srtR Fa.kn a b xs)⟩)] []:=by
 subst ex ey eu eL;refine CtG.intro [20] func189 rfl ntmps189 rfl rfl ⟨⟨rfl,x6⟩,trivial⟩ ?_;intro w F η;refine A9 ?_;refine x9 rfl (fun h382=> ?_) (fun h382=> ?_)
 ·
  refine A14 ?_;refine cL (fun (fm:(Nat)×(Nat))=>(fun (p:Nat) (q:Nat)=>m<=p/\p<=q/\q<=b/\(∀t,m<=t->t < p->Fa.kn (xs.getD t fa0) < Fa.kn (xs.getD a fa0))/\ ∀t,q<=t->t < b->Fa.kn (xs.getD a fa0)<=Fa.kn (xs.getD t fa0)) fm.1 fm.2) (wB fun (p:Nat) (q:Nat)=>uV (uV (uV (uV (uV (uV (uO uN 0 (.sl 20 11 0 xs.length)) 1 (tI a)) 2 (tI m)) 3 (tI b)) 4 (tE (.func (.func 77) #[] #[]))) 10 (tI p)) 11 (tI q)) (wB fun (p:Nat) (q:Nat)=>uK uN 20 30 11 true (rV tFa xs)) [20] (fun (fm:(Nat)×(Nat))=>(fun (p:Nat) (q:Nat)=>q - p) fm.1 fm.2) ((m,b)) (by dsimp only;exact ⟨zbq _,by omega,zbq _,fun t g1 g2=>by omega,fun t g1 g2=>by omega⟩) ?_;intro fm hI;obtain ⟨p,q⟩:=fm;replace hI:m<=p/\p<=q/\q<=b/\(∀t,m<=t->t < p->Fa.kn (xs.getD t fa0) < Fa.kn (xs.getD a fa0))/\ ∀t,q<=t->t < b->Fa.kn (xs.getD a fa0)<=Fa.kn (xs.getD t fa0):=hI;show wc _ _ _ _ (uV (uV (uV (uV (uV (uV (uO uN 0 (.sl 20 11 0 xs.length)) 1 (tI a)) 2 (tI m)) 3 (tI b)) 4 (tE (.func (.func 77) #[] #[]))) 10 (tI p)) 11 (tI q)) (uK uN 20 30 11 true (rV tFa xs)) _;obtain ⟨hlp,hpq,hqh,hf,hg⟩:=hI;refine A8 ?_;refine x9 rfl (fun h388=> ?_) (fun h388=> ?_)
  ·
   refine A8 ?_;refine R1 (xa8 zgt (isS zgo) (by first | exact wu64 (by omega) (by omega) | exact mu64)) rfl (R2 (ya2 (r:=((((p+q) / 2):Nat):Int)) (by decide) ((shrN (s:=1) rfl (by decide)).trans (by simp))) rfl rfl (R1 (xa8 zgo (isS zgt) zah) rfl ?_));refine A8 ?_;refine R2 (zag sl33 rfl) rfl rfl (RE (xa5 (((p+q) / 2)) ti30 (xc3 (f:=tFa) (xs:=xs) (d:=fa0) (by omega)) (by omega)) qA qA trivial ?_);refine A2 ?_;refine R2 (zag sl33 rfl) rfl rfl (RE (xa5 (a) ti30 (xc3 (f:=tFa) (xs:=xs) (d:=fa0) (by omega)) (by omega)) qA qA trivial (R3 (xq0 (yj7 (xs.getD ((p+q) / 2) fa0) (xs.getD a fa0)) fi77 rfl) rfl rfl rfl ?_));refine A3 ?_;refine x9 rfl (fun h390=> ?_) (fun h390=> ?_)
   ·
    refine A6 ?_;have hc:=xp9.1 h390;exact kF ((((p+q) / 2)+1,q)) ⟨(by dsimp only;exact ⟨by omega,by omega,hqh,fun t g1 g2=>by have:=hs2.le (i:=t) (j:=((p+q) / 2)) (by omega) (by omega) (by omega);omega,hg⟩),(by dsimp only;omega)⟩ (hg:=(sI ((zav rfl (Imp.int (by dsimp only;omega))) (sC (sI (sI (sI (sC zay))))))))
   ·
    refine A5 ?_;have hc:=fun hh=>h390 (xp9.2 hh);exact kF ((p,((p+q) / 2))) ⟨(by dsimp only;exact ⟨hlp,by omega,by omega,hf,fun t g1 g2=>by have:=hs2.le (i:=((p+q) / 2)) (j:=t) (by omega) (by omega) (by omega);have:=Int.not_lt.1 hc;omega⟩),(by dsimp only;omega)⟩
  ·
   refine A13 ?_;refine cL (fun (t:Nat)=>a+1+t<=p) (fun (t:Nat)=>uV (uV (uO uN 0 (.sl 20 11 0 xs.length)) 10 (tI p)) 13 (tI ((a:Int)+(t:Int)))) (fun (t:Nat)=>uK uN 20 30 11 true (rV tFa (rotR a (a+1) (a+1+t) xs))) [20] (fun (t:Nat)=>p - t) (0) (by omega) (hg:=((zav rfl (Imp.int (by simp))) (sI (sC zay)))) (hh:=((zaq rfl (zat (by rw [zm0 fa0 (by omega) (by omega)]))) zax)) ?_;intro t hI;refine A9 ?_;refine x9 rfl (fun h397=> ?_) (fun h397=> ?_)
   ·
    refine A13 ?_;refine R2 (zag sl33 rfl) rfl rfl (RE (xa5 (a+t+1) ti30 (xc3 (f:=tFa) (xs:=(rotR a (a+1) (a+1+t) xs)) (d:=fa0) (by rw [xe7 (by omega) (by omega) (by omega)];omega)) (by omega)) qA qA trivial ?_);refine A2 ?_;refine R2 (zag sl33 rfl) rfl rfl (RE (xa5 (a+t) ti30 (xc3 (f:=tFa) (xs:=(rotR a (a+1) (a+1+t) xs)) (d:=fa0) (by rw [xe7 (by omega) (by omega) (by omega)];omega)) (by omega)) qA qA trivial (R2 (zag sl33 rfl) rfl rfl (RE (xc1 (a+t) ti30 (xi5 (by rw [xe7 (by omega) (by omega) (by omega)];omega)) (by omega) (xf0 (m:=((rotR a (a+1) (a+1+t) xs).getD (a+t+1) fa0)) rfl)) qB qA trivial (R2 (zag sl33 rfl) rfl rfl (RE (xc1 (a+t+1) ti30 (xi5 (by rw [zdn,xe7 (by omega) (by omega) (by omega)];omega)) (by omega) (xf0 (m:=((rotR a (a+1) (a+1+t) xs).getD (a+t) fa0)) rfl)) qB qA trivial ?_)))));refine A8 ?_;have hup:=rot_up (d:=fa0) (a:=a) (t:=t) (xs:=xs) (by omega);exact kF (t+1) ⟨(by omega),(by omega)⟩ (hg:=((zav rfl (Imp.int (by omega))) (sI (sC zay)))) (hh:=((zaq rfl (zat (by rw [show a+1+(t+1)=a+2+t by omega,<-hup];rfl))) zax))
   ·
    refine A7 ?_;exact xg2 LentC.mk' rfl (.inl rfl) ⟨(congrArg some (show (⟨30,11,true,rV tFa (rotR a (a+1) (a+1+t) xs)⟩:HEnt)=⟨30,11,true,rV tFa (srtR Fa.kn a b xs)⟩ by have hm1:m=a+1:=(by omega);subst hm1;rw [show a+1+t=p by omega,qe9 hs2 h3 (by omega) (by omega) hf (fun t g1 g2=>hg t (by omega) g2)])),trivial⟩ ⟨⟨rfl,x6⟩,trivial⟩ rfl
 ·
  refine A11 ?_;refine x9 rfl (fun h406=> ?_) (fun h406=> ?_)
  ·
   refine A14 ?_;refine cL (fun (fm:(Nat)×(Nat))=>(fun (p:Nat) (q:Nat)=>a<=p/\p<=q/\q<=m/\(∀t,a<=t->t < p->Fa.kn (xs.getD t fa0)<=Fa.kn (xs.getD m fa0))/\ ∀t,q<=t->t < m->Fa.kn (xs.getD m fa0) < Fa.kn (xs.getD t fa0)) fm.1 fm.2) (wB fun (p:Nat) (q:Nat)=>uV (uV (uV (uV (uV (uV (uO uN 0 (.sl 20 11 0 xs.length)) 1 (tI a)) 2 (tI m)) 3 (tI b)) 4 (tE (.func (.func 77) #[] #[]))) 14 (tI p)) 15 (tI q)) (wB fun (p:Nat) (q:Nat)=>uK uN 20 30 11 true (rV tFa xs)) [20] (fun (fm:(Nat)×(Nat))=>(fun (p:Nat) (q:Nat)=>q - p) fm.1 fm.2) ((a,m)) (by dsimp only;exact ⟨zbq _,by omega,zbq _,fun t g1 g2=>by omega,fun t g1 g2=>by omega⟩) ?_;intro fm hI;obtain ⟨p,q⟩:=fm;replace hI:a<=p/\p<=q/\q<=m/\(∀t,a<=t->t < p->Fa.kn (xs.getD t fa0)<=Fa.kn (xs.getD m fa0))/\ ∀t,q<=t->t < m->Fa.kn (xs.getD m fa0) < Fa.kn (xs.getD t fa0):=hI;show wc _ _ _ _ (uV (uV (uV (uV (uV (uV (uO uN 0 (.sl 20 11 0 xs.length)) 1 (tI a)) 2 (tI m)) 3 (tI b)) 4 (tE (.func (.func 77) #[] #[]))) 14 (tI p)) 15 (tI q)) (uK uN 20 30 11 true (rV tFa xs)) _;obtain ⟨hlp,hpq,hqh,hf,hg⟩:=hI;refine A8 ?_;refine x9 rfl (fun h412=> ?_) (fun h412=> ?_)
   ·
    refine A8 ?_;refine R1 (xa8 zgt (isS zgo) (by first | exact wu64 (by omega) (by omega) | exact mu64)) rfl (R2 (ya2 (r:=((((p+q) / 2):Nat):Int)) (by decide) ((shrN (s:=1) rfl (by decide)).trans (by simp))) rfl rfl (R1 (xa8 zgo (isS zgt) zah) rfl ?_));refine A8 ?_;refine R2 (zag sl33 rfl) rfl rfl (RE (xa5 (m) ti30 (xc3 (f:=tFa) (xs:=xs) (d:=fa0) (by omega)) (by omega)) qA qA trivial ?_);refine A2 ?_;refine R2 (zag sl33 rfl) rfl rfl (RE (xa5 (((p+q) / 2)) ti30 (xc3 (f:=tFa) (xs:=xs) (d:=fa0) (by omega)) (by omega)) qA qA trivial (R3 (xq0 (yj7 (xs.getD m fa0) (xs.getD ((p+q) / 2) fa0)) fi77 rfl) rfl rfl rfl ?_));refine A4 ?_;refine yq7 rfl (fun h414=> ?_) (fun h414=> ?_)
    ·
     refine A6 ?_;have hc:=fun hh=>h414 (xp9.2 hh);exact kF ((((p+q) / 2)+1,q)) ⟨(by dsimp only;exact ⟨by omega,by omega,hqh,fun t g1 g2=>by have:=hs1.le (i:=t) (j:=((p+q) / 2)) (by omega) (by omega) (by omega);have:=Int.not_lt.1 hc;omega,hg⟩),(by dsimp only;omega)⟩ (hg:=(sI ((zav rfl (Imp.int (by dsimp only;omega))) (sC (sI (sI (sI (sC zay))))))))
    ·
     refine A5 ?_;have hc:=xp9.1 h414;exact kF ((p,((p+q) / 2))) ⟨(by dsimp only;exact ⟨hlp,by omega,by omega,hf,fun t g1 g2=>by have:=hs1.le (i:=((p+q) / 2)) (j:=t) (by omega) (by omega) (by omega);omega⟩),(by dsimp only;omega)⟩
   ·
    refine A13 ?_;refine cL (fun (t:Nat)=>p<=t/\t<=m) (fun (t:Nat)=>uV (uV (uO uN 0 (.sl 20 11 0 xs.length)) 14 (tI p)) 17 (tI t)) (fun (t:Nat)=>uK uN 20 30 11 true (rV tFa (rotR t m (m+1) xs))) [20] (fun (t:Nat)=>t) (m) ⟨by omega,zbq _⟩ (hh:=((zaq rfl (zat (by rw [zo0 fa0 (by omega) (by omega)]))) zax)) ?_;intro t hI;obtain ⟨ht1,ht2⟩:=hI;refine A8 ?_;refine x9 rfl (fun h421=> ?_) (fun h421=> ?_)
    ·
     refine A13 ?_;refine R2 (zag sl33 rfl) rfl rfl (RE (xa5 (t - 1) ti30 (xc3 (f:=tFa) (xs:=(rotR t m (m+1) xs)) (d:=fa0) (by rw [xe7 (by omega) (by omega) (by omega)];omega)) (by omega)) qA qA trivial ?_);refine A2 ?_;refine R2 (zag sl33 rfl) rfl rfl (RE (xa5 (t) ti30 (xc3 (f:=tFa) (xs:=(rotR t m (m+1) xs)) (d:=fa0) (by rw [xe7 (by omega) (by omega) (by omega)];omega)) (by omega)) qA qA trivial (R2 (zag sl33 rfl) rfl rfl (RE (xc1 (t) ti30 (xi5 (by rw [xe7 (by omega) (by omega) (by omega)];omega)) (by omega) (xf0 (m:=((rotR t m (m+1) xs).getD (t - 1) fa0)) rfl)) qB qA trivial (R2 (zag sl33 rfl) rfl rfl (RE (xc1 (t - 1) ti30 (xi5 (by rw [zdn,xe7 (by omega) (by omega) (by omega)];omega)) (by omega) (xf0 (m:=((rotR t m (m+1) xs).getD (t) fa0)) rfl)) qB qA trivial ?_)))));refine A8 ?_;obtain ⟨j,rfl⟩: ∃j,t=j+1:=⟨t - 1,by omega⟩
     have hdn:=jp0 (d:=fa0) (j:=j) (m:=m) (xs:=xs) (by omega) (by omega);rw [swp1,List.set_comm _ _ (by omega)] at hdn;exact kF (j) ⟨⟨by omega,by omega⟩,(by omega)⟩ (hg:=((zav rfl (Imp.int (by omega))) (sI (sC zay)))) (hh:=((zaq rfl (zat (by rw [<-hdn];rfl))) zax))
    ·
     refine A7 ?_;exact xg2 LentC.mk' rfl (.inl rfl) ⟨(congrArg some (show (⟨30,11,true,rV tFa (rotR t m (m+1) xs)⟩:HEnt)=⟨30,11,true,rV tFa (srtR Fa.kn a b xs)⟩ by have hb1:b=m+1:=(by omega);subst hb1;rw [show t=p by omega,qt0 hs1 (by omega) (by omega) (by omega) hf (fun t g1 g2=>hg t (by omega) g2)])),trivial⟩ ⟨⟨rfl,x6⟩,trivial⟩ rfl
  ·
   refine A7 ?_;refine R1 (xa8 zgt (isS zgo) (by first | exact wu64 (by omega) (by omega) | exact mu64)) rfl (R2 (ya2 (r:=((((a+b) / 2):Nat):Int)) (by decide) ((shrN (s:=1) rfl (by decide)).trans (by simp))) rfl rfl (R1 (xa8 zgo (isS zgt) zah) rfl ?_));refine A4 ?_;obtain ⟨mid,hmid⟩: ∃mid,mid=((a+b) / 2):=⟨_,rfl⟩
   rw [<-hmid];refine A13 ?_;refine xi4 (fun (fm:(Nat)×(Nat))=>(fun (s0:Nat) (r0:Nat)=>((mid < m/\s0=mid+m - b/\r0=mid)∨(m<=mid/\s0=a/\r0=m))) fm.1 fm.2) (wB fun (s0:Nat) (r0:Nat)=>uV (uV (uV (uV (uV (uV (uV (uV (uO uN 0 (.sl 20 11 0 xs.length)) 1 (tI a)) 2 (tI m)) 3 (tI b)) 4 (tE (.func (.func 77) #[] #[]))) 18 (tI mid)) 19 (tI ((mid:Int)+(m:Int)))) 20 (tI s0)) 21 (tI r0)) (wB fun (s0:Nat) (r0:Nat)=>uK uN 20 30 11 true (rV tFa xs)) (nm [20]) ?_ ?_
   ·
    refine A7 ?_;refine x9 rfl (fun h430=> ?_) (fun h430=> ?_)
    ·
     refine A12 ?_;exact kF ((mid+m - b,mid)) (by dsimp only;exact (.inl ⟨by omega,rfl,rfl⟩)) (hg:=(sI ((zav rfl (Imp.int (by dsimp only;omega))) (sI (sI (sC (sI (sI (sI (sC zay))))))))))
    ·
     refine A10 ?_;exact kF ((a,m)) (by dsimp only;exact (.inr ⟨by omega,rfl,rfl⟩))
   ·
    intro fm hsr;obtain ⟨s0,r0⟩:=fm;replace hsr:((mid < m/\s0=mid+m - b/\r0=mid)∨(m<=mid/\s0=a/\r0=m)):=hsr;show wc _ _ _ _ (uV (uV (uV (uV (uV (uV (uV (uV (uO uN 0 (.sl 20 11 0 xs.length)) 1 (tI a)) 2 (tI m)) 3 (tI b)) 4 (tE (.func (.func 77) #[] #[]))) 18 (tI mid)) 19 (tI ((mid:Int)+(m:Int)))) 20 (tI s0)) 21 (tI r0)) (uK uN 20 30 11 true (rV tFa xs)) _;refine A9 ?_;refine cL (fun (fm:(Nat)×(Nat))=>(fun (s:Nat) (r:Nat)=>s0<=s/\s<=r/\r<=r0/\(∀t,s0<=t->t < s->Fa.kn (xs.getD t fa0)<=Fa.kn (xs.getD (mid+m - 1 - t) fa0))/\ ∀t,r<=t->t < r0->Fa.kn (xs.getD (mid+m - 1 - t) fa0) < Fa.kn (xs.getD t fa0)) fm.1 fm.2) (wB fun (s:Nat) (r:Nat)=>uV (uV (uV (uV (uV (uV (uV (uV (uV (uO uN 0 (.sl 20 11 0 xs.length)) 1 (tI a)) 2 (tI m)) 3 (tI b)) 4 (tE (.func (.func 77) #[] #[]))) 18 (tI mid)) 19 (tI ((mid:Int)+(m:Int)))) 20 (tI s)) 21 (tI r)) 22 (tI ((mid:Int)+(m:Int) - 1))) (wB fun (s:Nat) (r:Nat)=>uK uN 20 30 11 true (rV tFa xs)) [20] (fun (fm:(Nat)×(Nat))=>(fun (s:Nat) (r:Nat)=>r - s) fm.1 fm.2) ((s0,r0)) (by dsimp only;exact ⟨zbq _,by omega,zbq _,fun t g1 g2=>by omega,fun t g1 g2=>by omega⟩) ?_;intro fm hI;obtain ⟨s,r⟩:=fm;replace hI:s0<=s/\s<=r/\r<=r0/\(∀t,s0<=t->t < s->Fa.kn (xs.getD t fa0)<=Fa.kn (xs.getD (mid+m - 1 - t) fa0))/\ ∀t,r<=t->t < r0->Fa.kn (xs.getD (mid+m - 1 - t) fa0) < Fa.kn (xs.getD t fa0):=hI;show wc _ _ _ _ (uV (uV (uV (uV (uV (uV (uV (uV (uV (uO uN 0 (.sl 20 11 0 xs.length)) 1 (tI a)) 2 (tI m)) 3 (tI b)) 4 (tE (.func (.func 77) #[] #[]))) 18 (tI mid)) 19 (tI ((mid:Int)+(m:Int)))) 20 (tI s)) 21 (tI r)) 22 (tI ((mid:Int)+(m:Int) - 1))) (uK uN 20 30 11 true (rV tFa xs)) _;obtain ⟨hss,hsr1,hrr,hf,hg⟩:=hI;refine A8 ?_;refine x9 rfl (fun h439=> ?_) (fun h439=> ?_)
    ·
     refine A8 ?_;refine R1 (xa8 zgt (isS zgo) (by first | exact wu64 (by omega) (by omega) | exact mu64)) rfl (R2 (ya2 (r:=((((s+r) / 2):Nat):Int)) (by decide) ((shrN (s:=1) rfl (by decide)).trans (by simp))) rfl rfl (R1 (xa8 zgo (isS zgt) zah) rfl ?_));refine A10 ?_;refine R2 (zag sl33 rfl) rfl rfl (RE (xa5 (mid+m - 1 - (s+r) / 2) ti30 (xc3 (f:=tFa) (xs:=xs) (d:=fa0) (by omega)) (by omega)) qA qA trivial ?_);refine A2 ?_;refine R2 (zag sl33 rfl) rfl rfl (RE (xa5 ((s+r) / 2) ti30 (xc3 (f:=tFa) (xs:=xs) (d:=fa0) (by omega)) (by omega)) qA qA trivial (R3 (xq0 (yj7 (xs.getD (mid+m - 1 - (s+r) / 2) fa0) (xs.getD ((s+r) / 2) fa0)) fi77 rfl) rfl rfl rfl ?_));refine A4 ?_;refine yq7 rfl (fun h441=> ?_) (fun h441=> ?_)
     ·
      refine A6 ?_;have hc:=Int.not_lt.1 (fun hh=>h441 (xp9.2 hh));exact kF (((s+r) / 2+1,r)) ⟨(by dsimp only;exact ⟨by omega,by omega,hrr,fun t g1 g2=>by have q1:=hs1.le (i:=t) (j:=(s+r) / 2) (by omega) (by omega) (by omega);have q2:=hs2.le (i:=mid+m - 1 - (s+r) / 2) (j:=mid+m - 1 - t) (by omega) (by omega) (by omega);omega,hg⟩),(by dsimp only;omega)⟩ (hg:=(sI (sI ((zav rfl (Imp.int (by dsimp only;omega))) (sI (sI (sC (sI (sI (sI (sC zay)))))))))))
     ·
      refine A5 ?_;have hc:=xp9.1 h441;exact kF ((s,(s+r) / 2)) ⟨(by dsimp only;exact ⟨hss,by omega,by omega,hf,fun t g1 g2=>by have q1:=hs1.le (i:=(s+r) / 2) (j:=t) (by omega) (by omega) (by omega);have q2:=hs2.le (i:=mid+m - 1 - t) (j:=mid+m - 1 - (s+r) / 2) (by omega) (by omega) (by omega);omega⟩),(by dsimp only;omega)⟩
    ·
     refine A6 ?_;have hcut:=cut_of (s:=s) hab hmb hmid hs1 hs2 hsr hss (by omega) hf (fun c g1 g2=>hg c (by omega) g2);have hct1:=hcut.sm;have hct2:=hcut.me;have hct3:=hcut.eb;have hct4:=hcut.la;have hct5:=hcut.hm;have hpr:=hcut.prt h3;refine A7 ?_;refine xi4 (fun (_j:Unit)=>True) (fun (_j:Unit)=>uV (uV (uV (uV (uV (uV (uV (uO uN 0 (.sl 20 11 0 xs.length)) 1 (tI a)) 2 (tI m)) 3 (tI b)) 4 (tE (.func (.func 77) #[] #[]))) 18 (tI mid)) 20 (tI s)) 24 (tI ((mid+m - s:Nat):Int))) (fun (_j:Unit)=>uK uN 20 30 11 true (rV tFa (rotR s m (mid+m - s) xs))) (nm [20]) ?_ ?_
     ·
      refine A6 ?_;refine RGcaseD (t:=181) rfl (fun h449=> ?_) (fun h449=> ?_)
      ·
       refine A6 ?_;refine x9 rfl (fun h449_2=> ?_) (fun h449_2=> ?_)
       ·
        refine A6 ?_;refine RE (xb7 (fun _=>20) (jk1 xs rfl s m (mid+m - s) rfl rfl (by omega) (by omega) (by omega) (by omega) (by omega)) fi228 rfl (krC (ρ:=fun _=>20) (k:=20) x8 (krN (ρ:=fun _=>20))) (krC (ρ:=fun _=>20) (k:=20) x8 (krN (ρ:=fun _=>20))) ⟨⟨rfl,x6⟩,trivial⟩ rfl) ⟨rfl,rfl,rfl,rfl,rfl,trivial⟩ qA trivial ?_;refine A1 ?_;exact kF (()) trivial
       ·
        refine A1 ?_;exact kF (()) trivial (hh:=((zaq rfl (zat (by rw [show mid+m - s=m by omega,zm0 fa0 (by omega) (by omega)]))) zax))
      ·
       refine A8 ?_;exact kF (()) trivial (hh:=((zaq rfl (zat (by rw [show s=m by omega,zo0 fa0 (by omega) (by omega)]))) zax))
     ·
      intro _j hj449;refine xi4 (fun (_j:Unit)=>True) (fun (_j:Unit)=>uV (uV (uV (uV (uV (uV (uV (uO uN 0 (.sl 20 11 0 xs.length)) 1 (tI a)) 2 (tI m)) 3 (tI b)) 4 (tE (.func (.func 77) #[] #[]))) 18 (tI mid)) 20 (tI s)) 24 (tI ((mid+m - s:Nat):Int))) (fun (_j:Unit)=>uK uN 20 30 11 true (rV tFa (srtR Fa.kn a mid (rotR s m (mid+m - s) xs)))) (nm [20]) ?_ ?_
      ·
       refine A6 ?_;refine RGcaseD (t:=195) rfl (fun h452=> ?_) (fun h452=> ?_)
       ·
        refine A6 ?_;refine x9 rfl (fun h452_2=> ?_) (fun h452_2=> ?_)
        ·
         refine A6 ?_;refine RE (xb7 (fun _=>20) (ih (rotR s m (mid+m - s) xs) a s mid hpr.len rfl rfl rfl (by omega) (by omega) (by rw [hpr.len];omega) (by rw [hpr.len];omega) (hcut.left1 h3 hs1) (hcut.left2 h3 hs2) (by omega)) fi189 rfl (krC (ρ:=fun _=>20) (k:=20) x8 (krN (ρ:=fun _=>20))) (krC (ρ:=fun _=>20) (k:=20) x8 (krN (ρ:=fun _=>20))) ⟨⟨rfl,x6⟩,trivial⟩ rfl) ⟨rfl,rfl,rfl,rfl,rfl,trivial⟩ qA trivial ?_;refine A1 ?_;exact kF (()) trivial
        ·
         refine A1 ?_;exact kF (()) trivial (hh:=((zaq rfl (zat (by rw [hcut.leftId h3 hs1 hs2 (by omega)]))) zax))
       ·
        refine A8 ?_;exact kF (()) trivial (hh:=((zaq rfl (zat (by rw [hcut.leftId h3 hs1 hs2 (by omega)]))) zax))
      ·
       intro _j hj452;refine A1 ?_;have hpr2:Prt Fa.kn fa0 a mid (rotR s m (mid+m - s) xs) (srtR Fa.kn a mid (rotR s m (mid+m - s) xs)):=xo6 (by omega) (by rw [hpr.len];omega);refine A5 ?_;refine RGcaseD (t:=209) rfl (fun h455=> ?_) (fun h455=> ?_)
       ·
        refine A6 ?_;refine x9 rfl (fun h455_2=> ?_) (fun h455_2=> ?_)
        ·
         refine A6 ?_;refine RE (xb7 (fun _=>20) (ih (srtR Fa.kn a mid (rotR s m (mid+m - s) xs)) mid (mid+m - s) b (hpr2.len.trans hpr.len) rfl rfl rfl (by omega) (by omega) (by rw [hpr2.len,hpr.len];omega) (by rw [hpr2.len,hpr.len];omega) ((hcut.right1 h3 hs1).out hpr2 (.inr (zbq _))) ((hcut.right2 h3 hs2).out hpr2 (.inr (by omega))) (by omega)) fi189 rfl (krC (ρ:=fun _=>20) (k:=20) x8 (krN (ρ:=fun _=>20))) (krC (ρ:=fun _=>20) (k:=20) x8 (krN (ρ:=fun _=>20))) ⟨⟨rfl,x6⟩,trivial⟩ rfl) ⟨rfl,rfl,rfl,rfl,rfl,trivial⟩ qA trivial ?_;refine A1 ?_;exact xg2 LentC.mk' rfl (.inr rfl) ⟨(congrArg some (show (⟨30,11,true,rV tFa (srtR Fa.kn mid b (srtR Fa.kn a mid (rotR s m (mid+m - s) xs)))⟩:HEnt)=⟨30,11,true,rV tFa (srtR Fa.kn a b xs)⟩ by rw [hcut.fin h3 hs1 hs2])),trivial⟩ ⟨⟨rfl,x6⟩,trivial⟩ rfl
        ·
         refine A1 ?_;exact xg2 LentC.mk' rfl (.inr rfl) ⟨(congrArg some (show (⟨30,11,true,rV tFa (srtR Fa.kn a mid (rotR s m (mid+m - s) xs))⟩:HEnt)=⟨30,11,true,rV tFa (srtR Fa.kn a b xs)⟩ by rw [<-hcut.fin h3 hs1 hs2,hcut.rightId h3 hs1 hs2 (by omega)])),trivial⟩ ⟨⟨rfl,x6⟩,trivial⟩ rfl
       ·
        refine A8 ?_;exact xg2 LentC.mk' rfl (.inr rfl) ⟨(congrArg some (show (⟨30,11,true,rV tFa (srtR Fa.kn a mid (rotR s m (mid+m - s) xs))⟩:HEnt)=⟨30,11,true,rV tFa (srtR Fa.kn a b xs)⟩ by rw [<-hcut.fin h3 hs1 hs2,hcut.rightId h3 hs1 hs2 (by omega)])),trivial⟩ ⟨⟨rfl,x6⟩,trivial⟩ rfl
theorem ze6: ∀n,SymIHF n
 | 0=>fun xs a m b L x y u eL ex ey eu h1 h2 h3 h4 h5 h6 h7=>absurd h7 (Nat.not_lt_zero _)
 | n+1=>fun xs a m b L x y u eL ex ey eu h1 h2 h3 h4 h5 h6 h7=>qs5 n (ze6 n) xs a m b eL ex ey eu h1 h2 h3 h4 h5 h6 (by omega)
theorem jb4 (xs:List Fa) (a m b:Nat) {L:Nat} {x y u:Int} (eL:xs.length=L) (ex:x=(a:Int)) (ey:y=(m:Int)) (eu:u=(b:Int)) (h1:a < m) (h2:m < b) (h3:b<=xs.length) (h4:xs.length<=1000000) (h5:SrtP Fa.kn fa0 a m xs) (h6:SrtP Fa.kn fa0 m b xs):CtG Tryz.prog 189 [(20,⟨30,11,true,rV tFa xs⟩)] [.own (.sl 20 11 0 L),.val (tI x),.val (tI y),.val (tI u),.val (tE (.func (.func 77) #[] #[]))] (.val (tT [])) [(20,⟨30,11,true,rV tFa (srtR Fa.kn a b xs)⟩)] []:=
 ze6 (b - a+1) xs a m b eL ex ey eu h1 h2 h3 h4 h5 h6 (Nat.lt_succ_self _)
theorem ja9 (xs:List Fa) {L:Nat} (eL:xs.length=L) {x:Int} (ex:x=(xs.length:Int)) (hx:xs.length<=1000000):
  CtG Tryz.prog 130 [(20,⟨30,11,true,rV tFa xs⟩)] [.own (.sl 20 11 0 L),.val (tI x),.val (tE (.func (.func 77) #[] #[]))] (.val (tT [])) [(20,⟨30,11,true,rV tFa (ssort Fa.kn xs)⟩)] []:=by
 subst ex eL;refine CtG.intro [20] func130 rfl ntmps130 rfl rfl ⟨⟨rfl,x6⟩,trivial⟩ ?_;intro w F η;refine A14 ?_;refine cL (fun (fm:(List Fa)×(Nat))=>(fun (ys:List Fa) (c:Nat)=>ys.length=xs.length/\c*20<=xs.length/\Prt Fa.kn fa0 0 xs.length xs ys/\BlkA Fa.kn fa0 20 c ys) fm.1 fm.2) (wB fun (ys:List Fa) (c:Nat)=>uV (uV (uV (uV (uV (uO uN 0 (.sl 20 11 0 xs.length)) 1 (tI xs.length)) 2 (tE (.func (.func 77) #[] #[]))) 6 (tI 20)) 7 (tI ((c*20:Nat):Int))) 8 (tI ((c*20+20:Nat):Int))) (wB fun (ys:List Fa) (c:Nat)=>uK uN 20 30 11 true (rV tFa ys)) [20] (fun (fm:(List Fa)×(Nat))=>(fun (ys:List Fa) (c:Nat)=>xs.length - c*20) fm.1 fm.2) ((xs,0)) (by dsimp only;exact ⟨rfl,by omega,Prt.refl ..,zm3⟩) ?_;intro fm hI;obtain ⟨ys,c⟩:=fm;replace hI:ys.length=xs.length/\c*20<=xs.length/\Prt Fa.kn fa0 0 xs.length xs ys/\BlkA Fa.kn fa0 20 c ys:=hI;show wc _ _ _ _ (uV (uV (uV (uV (uV (uO uN 0 (.sl 20 11 0 xs.length)) 1 (tI xs.length)) 2 (tE (.func (.func 77) #[] #[]))) 6 (tI 20)) 7 (tI ((c*20:Nat):Int))) 8 (tI ((c*20+20:Nat):Int))) (uK uN 20 30 11 true (rV tFa ys)) _;obtain ⟨hl,hc,hp,hb⟩:=hI;refine A8 ?_;refine x9 rfl (fun h338=> ?_) (fun h338=> ?_)
 ·
  refine A9 ?_;refine RE (xb7 (fun _=>20) (zf7 ys hl (c*20) (c*20+20) rfl rfl (by omega) (by omega) (by omega)) fi188 rfl (krC (ρ:=fun _=>20) (k:=20) x8 (krN (ρ:=fun _=>20))) (krC (ρ:=fun _=>20) (k:=20) x8 (krN (ρ:=fun _=>20))) ⟨⟨rfl,x6⟩,trivial⟩ rfl) qD qA trivial ?_;refine A15 ?_;have hq:Prt Fa.kn fa0 (c*20) (c*20+20) ys (srtR Fa.kn (c*20) (c*20+20) ys):=xo6 (by omega) (by omega);exact kF (((srtR Fa.kn (c*20) (c*20+20) ys),c+1)) ⟨(by dsimp only;exact ⟨hq.len.trans hl,by omega,hp.trans (hq.mono (by omega) (by omega)),zn2 hb hq (xv4 (by omega) (by omega))⟩),(by dsimp only;omega)⟩ (hg:=((zav rfl (Imp.int (by dsimp only;omega))) ((zav rfl (Imp.int (by dsimp only;omega))) (sI (sC (sI (sC zay)))))))
 ·
  refine A6 ?_;have hq:Prt Fa.kn fa0 (c*20) xs.length ys (srtR Fa.kn (c*20) xs.length ys):=xo6 (by omega) (by omega);refine A5 ?_;refine RE (xb7 (fun _=>20) (zf7 ys hl (c*20) xs.length rfl rfl (by omega) (by omega) (by omega)) fi188 rfl (krC (ρ:=fun _=>20) (k:=20) x8 (krN (ρ:=fun _=>20))) (krC (ρ:=fun _=>20) (k:=20) x8 (krN (ρ:=fun _=>20))) ⟨⟨rfl,x6⟩,trivial⟩ rfl) qD qA trivial ?_;refine A3 ?_;refine cL (fun (fm:(List Fa)×(Nat))=>(fun (zs:List Fa) (w:Nat)=>zs.length=xs.length/\20<=w/\w<=2*xs.length+20/\Prt Fa.kn fa0 0 xs.length xs zs/\BlkP Fa.kn fa0 w xs.length zs) fm.1 fm.2) (wB fun (zs:List Fa) (w:Nat)=>uV (uV (uV (uO uN 0 (.sl 20 11 0 xs.length)) 1 (tI xs.length)) 2 (tE (.func (.func 77) #[] #[]))) 6 (tI w)) (wB fun (zs:List Fa) (w:Nat)=>uK uN 20 30 11 true (rV tFa zs)) [20] (fun (fm:(List Fa)×(Nat))=>(fun (zs:List Fa) (w:Nat)=>xs.length - w) fm.1 fm.2) (((srtR Fa.kn (c*20) xs.length ys),20)) (by dsimp only;exact ⟨hq.len.trans hl,zbq _,by omega,hp.trans (hq.mono (by omega) (zbq _)),zi5 hb (by omega) hq (xv4 (by omega) (by omega))⟩) ?_;intro fm hI;obtain ⟨zs,w⟩:=fm;replace hI:zs.length=xs.length/\20<=w/\w<=2*xs.length+20/\Prt Fa.kn fa0 0 xs.length xs zs/\BlkP Fa.kn fa0 w xs.length zs:=hI;show wc _ _ _ _ (uV (uV (uV (uO uN 0 (.sl 20 11 0 xs.length)) 1 (tI xs.length)) 2 (tE (.func (.func 77) #[] #[]))) 6 (tI w)) (uK uN 20 30 11 true (rV tFa zs)) _;obtain ⟨hzl,hw0,hw1,hzp,hzb⟩:=hI;refine A8 ?_;refine x9 rfl (fun h345=> ?_) (fun h345=> ?_)
  ·
   refine A6 ?_;refine R2 (xj8 zah) rfl rfl ?_;refine A6 ?_;refine cL (fun (fm:(List Fa)×(Nat))=>(fun (us:List Fa) (v:Nat)=>us.length=xs.length/\(v*(2*w))<=xs.length/\Prt Fa.kn fa0 0 xs.length xs us/\BlkA Fa.kn fa0 (2*w) v us/\BlkR Fa.kn fa0 w xs.length (v*(2*w)) us) fm.1 fm.2) (wB fun (us:List Fa) (v:Nat)=>uV (uV (uV (uV (uV (uO uN 0 (.sl 20 11 0 xs.length)) 1 (tI xs.length)) 2 (tE (.func (.func 77) #[] #[]))) 6 (tI w)) 7 (tI (((v*(2*w)):Nat):Int))) 8 (tI (((v*(2*w))+2*w:Nat):Int))) (wB fun (us:List Fa) (v:Nat)=>uK uN 20 30 11 true (rV tFa us)) [20] (fun (fm:(List Fa)×(Nat))=>(fun (us:List Fa) (v:Nat)=>xs.length - (v*(2*w))) fm.1 fm.2) ((zs,0)) (by dsimp only;exact ⟨hzl,by omega,hzp,zm3,by rw [zef];exact blkP_R hzb⟩) (hg:=((zav rfl (Imp.int (by dsimp only;omega))) ((zav rfl (Imp.int (by dsimp only;omega))) (sI (sC (sI (sC zay))))))) ?_;intro fm hI;obtain ⟨us,v⟩:=fm;replace hI:us.length=xs.length/\(v*(2*w))<=xs.length/\Prt Fa.kn fa0 0 xs.length xs us/\BlkA Fa.kn fa0 (2*w) v us/\BlkR Fa.kn fa0 w xs.length (v*(2*w)) us:=hI;show wc _ _ _ _ (uV (uV (uV (uV (uV (uO uN 0 (.sl 20 11 0 xs.length)) 1 (tI xs.length)) 2 (tE (.func (.func 77) #[] #[]))) 6 (tI w)) 7 (tI (((v*(2*w)):Nat):Int))) 8 (tI (((v*(2*w))+2*w:Nat):Int))) (uK uN 20 30 11 true (rV tFa us)) _;obtain ⟨hul,hvn,hup,huA,huR⟩:=hI;have hat:=fun hh=>huR.at (u:=v) (zbq _) hh;refine A8 ?_;refine x9 rfl (fun h347=> ?_) (fun h347=> ?_)
   ·
    refine A12 ?_;refine RE (xb7 (fun _=>20) (jb4 us (v*(2*w)) ((v*(2*w))+w) ((v*(2*w))+2*w) hul rfl (by omega) (by omega) (by omega) (by omega) (by omega) (by omega) (hat (by omega)).1 ((hat (by omega)).2.sub (zbq _) (by omega))) fi189 rfl (krC (ρ:=fun _=>20) (k:=20) x8 (krN (ρ:=fun _=>20))) (krC (ρ:=fun _=>20) (k:=20) x8 (krN (ρ:=fun _=>20))) ⟨⟨rfl,x6⟩,trivial⟩ rfl) ⟨rfl,rfl,rfl,rfl,rfl,trivial⟩ qA trivial ?_;refine A11 ?_;refine R2 (xj8 zah) rfl rfl ?_;refine A4 ?_;have hq3:Prt Fa.kn fa0 (v*(2*w)) ((v*(2*w))+2*w) us (srtR Fa.kn (v*(2*w)) ((v*(2*w))+2*w) us):=xo6 (by omega) (by omega);have hsm:(v+1)*(2*w)=(v*(2*w))+2*w:=zcw v (2*w);exact kF (((srtR Fa.kn (v*(2*w)) ((v*(2*w))+2*w) us),v+1)) ⟨(by dsimp only;exact ⟨hq3.len.trans hul,by omega,hup.trans (hq3.mono (by omega) (by omega)),zn2 huA hq3 (xv4 (by omega) (by omega)),huR.next hq3 (by omega) (by omega)⟩),(by dsimp only;omega)⟩ (hg:=((zav rfl (Imp.int (by dsimp only;omega))) ((zav rfl (Imp.int (by dsimp only;omega))) (sI (sC (sI (sC zay)))))))
   ·
    refine A18 ?_;refine A3 ?_;refine x9 rfl (fun h352=> ?_) (fun h352=> ?_)
    ·
     refine A6 ?_;refine RE (xb7 (fun _=>20) (jb4 us (v*(2*w)) ((v*(2*w))+w) xs.length hul rfl (by omega) rfl (by omega) (by omega) (by omega) (by omega) (hat (by omega)).1 ((hat (by omega)).2.sub (zbq _) (by omega))) fi189 rfl (krC (ρ:=fun _=>20) (k:=20) x8 (krN (ρ:=fun _=>20))) (krC (ρ:=fun _=>20) (k:=20) x8 (krN (ρ:=fun _=>20))) ⟨⟨rfl,x6⟩,trivial⟩ rfl) ⟨rfl,rfl,rfl,rfl,rfl,trivial⟩ qA trivial ?_;refine A4 ?_;refine R2 (xj8 zah) rfl rfl ?_;refine A3 ?_;have hq5:Prt Fa.kn fa0 (v*(2*w)) xs.length us (srtR Fa.kn (v*(2*w)) xs.length us):=xo6 (by omega) (by omega);exact kF (((srtR Fa.kn (v*(2*w)) xs.length us),2*w)) ⟨(by dsimp only;exact ⟨hq5.len.trans hul,by omega,by omega,hup.trans (hq5.mono (by omega) (zbq _)),zi5 huA (by omega) hq5 (xv4 (by omega) (by omega))⟩),(by dsimp only;omega)⟩ (hg:=((zav rfl (Imp.int (by dsimp only;omega))) (sC (sI (sC zay)))))
    ·
     refine A4 ?_;refine R2 (xj8 zah) rfl rfl ?_;refine A3 ?_;exact kF ((us,2*w)) ⟨(by dsimp only;exact ⟨hul,by omega,by omega,hup,jq3 huA (by omega) (huR.one (zbq _) (by omega))⟩),(by dsimp only;omega)⟩ (hg:=((zav rfl (Imp.int (by dsimp only;omega))) (sC (sI (sC zay)))))
  ·
   refine A4 ?_;exact xg2 LentC.mk' rfl (.inr rfl) ⟨(congrArg some (show (⟨30,11,true,rV tFa zs⟩:HEnt)=⟨30,11,true,rV tFa (ssort Fa.kn xs)⟩ by rw [yc2 (zbt _) (zbq _) hzp (js4 hzb (by omega)),jt5])),trivial⟩ ⟨⟨rfl,x6⟩,trivial⟩ rfl
theorem zq6 (xs:List Fa) {L:Nat} (eL:xs.length=L) (hx:xs.length<=1000000):
  CtG Tryz.prog 76 [(20,⟨30,11,true,rV tFa xs⟩)] [.own (.sl 20 11 0 L),.val (tE (.func (.func 77) #[] #[]))] (.val (tT [])) [(20,⟨30,11,true,rV tFa (ssort Fa.kn xs)⟩)] []:=by
 subst eL;refine CtG.intro [20] func76 rfl ntmps76 rfl rfl ⟨⟨rfl,x6⟩,trivial⟩ ?_;intro w F η;refine A5 ?_;refine RE (xb7 (fun _=>20) (ja9 xs rfl rfl hx) fi130 rfl (krC (ρ:=fun _=>20) (k:=20) x8 (krN (ρ:=fun _=>20))) (krC (ρ:=fun _=>20) (k:=20) x8 (krN (ρ:=fun _=>20))) ⟨⟨rfl,x6⟩,trivial⟩ rfl) qC qA trivial ?_;refine A1 ?_;exact xg2 LentC.mk' rfl (.inr rfl) qA ⟨⟨rfl,x6⟩,trivial⟩ rfl
end An.S
namespace An
open Go
structure Kw where
  p:Dom->World->Prop
  mono: ∀{F F':Dom} {w w':World},p F w->Keep F F' w w'->p F' w'
def tKG (K:Kw) (t:Ty):Ty:=⟨fun F w v=>t.p F w v/\K.p F w,fun h hk=>⟨t.mono h.1 hk,K.mono h.2 hk⟩⟩
def tK (K:Kw):Ty:=⟨fun F w _=>K.p F w,fun h hk=>K.mono h hk⟩
instance {K:Kw} {t:Ty} {n:Nat} {agg:Bool} [h:Shape t n agg]:Shape (tKG K t) n agg:=⟨fun hp=>h.flat hp.1⟩
section
variable {P:Program} {c:Base} {g:Slots} {h:Keys} {al:Names} {d ty:Nat} {pos:String} {af:Array Edge} {gd:Option (Nat×Bool)} {Q:Exit->Act->World->Prop}
end
section
variable {P:Program} {c:Base} {d ty:Nat} {pos:String} {af:Array Edge} {gd:Option (Nat×Bool)}
end
end An
namespace An
def lens:List Int:=[31,28,31,30,31,30,31,31,30,31,30,31]
end An
namespace An.S
open Go
def fstI (n:Nat) (f:Nat->Bool):Nat:=((List.range n).takeWhile fun i=> !f i).length
theorem je8 {n p:Nat} {f:Nat->Bool} (hp:p<=n) (h1: ∀i,i < p->f i=false) (h2:p < n->f p=true):fstI n f=p:=by
 have e:List.range n=List.range p++(List.range (n - p)).map (p+ ·):=by
  rw [<-List.range_add];congr 1;omega
 rw [fstI,e,List.takeWhile_append_of_pos fun i hi=>by rw [h1 i (zcx.1 hi)];rfl];cases hm:n - p with
 | zero=>simp
 | succ m=>
  rw [List.range_succ_eq_map,zcy,List.takeWhile_cons,if_neg (by rw [zeh,h2 (by omega)];simp)];simp
theorem qb4 (n:Nat) (f:Nat->Bool):fstI n f<=n/\(∀i,i < fstI n f->f i=false)/\(fstI n f < n->f (fstI n f)=true):=by
 have ex: ∃p,p<=n/\(∀i,i < p->f i=false)/\(p < n->f p=true):=by
  induction n with
  | zero=>exact ⟨0,zbq _,fun i hi=>by omega,fun h=>by omega⟩
  | succ n ih=>
   obtain ⟨p,h1,h2,h3⟩:=ih;rcases zcb p n with h4 | h4
   ·exact ⟨p,by omega,h2,fun _=>h3 h4⟩
   ·have e:p=n:=by omega
    subst e;cases hf:f p with
    | true=>exact ⟨p,by omega,h2,fun _=>hf⟩
    | false=>exact ⟨p+1,zbq _,fun i hi=>by
      rcases zcb i p with h5 | h5
      ·exact h2 i h5
      ·rw [show i=p by omega];exact hf,fun h=>by omega⟩
 obtain ⟨p,h1,h2,h3⟩:=ex;rw [je8 h1 h2 h3];exact ⟨h1,h2,h3⟩
def onF (d:Int) (f:Fa):Bool:=decide (f.lo<=d) && decide (d < f.hi)
theorem xq1 {d:Int} {f:Fa}:onF d f=true↔f.lo<=d/\d < f.hi:=by simp [onF]
def lastF (T:List Fa) (d:Int):Option Fa:=(T.filter (onF d)).getLast?
theorem jm6 {T:List Fa} {f:Fa} {d:Int}:lastF (T++[f]) d=if onF d f=true then some f else lastF T d:=by
 rw [lastF,List.filter_append,List.filter_cons];split
 ·simp
 ·simp [lastF]
theorem yb1 {T:List Fa} {i:Nat} {d:Int} (hi:i < T.length):lastF (T.take (i+1)) d=if onF d (T.getD i fa0)=true then some (T.getD i fa0) else lastF (T.take i) d:=by
 rw [zca hi,jm6,zbh,zbi hi];rfl
theorem xj2 {T:List Fa} {d:Int} {f:Fa} (h:lastF T d=some f):f∈T/\f.lo<=d/\d < f.hi:=by
 have h1:=List.mem_of_getLast? h;obtain ⟨h2,h3⟩:=List.mem_filter.1 h1;exact ⟨h2,xq1.1 h3⟩
def valF (o:Option Fa):Option Va:=match o with
 | none=>none
 | some f=>if f.gone=true then none else some f.v
def gF (T:List Fa) (d:Int):Option Va:=valF (lastF T d)
def edF (T:List Fa):List Int:=T.flatMap fun f=>[f.lo,f.hi]
def bdF (T:List Fa):List Int:=brd (edF T)
theorem qj7 {T:List Fa}:(edF T).length=2*T.length:=by
 induction T with
 | nil=>rfl
 | cons s r ih=>rw [edF,zed,zbm,<-edF,ih];simp;omega
theorem jw4 {T:List Fa} {i:Nat} (hi:i < T.length):edF (T.take (i+1))=edF (T.take i)++[(T.getD i fa0).lo,(T.getD i fa0).hi]:=by
 rw [zca hi,edF,zeg,zbh,zbi hi];simp [edF]
theorem xh9 {T:List Fa}:(bdF T).Pairwise (· < ·):=(xw1 _).1
theorem zh1 {T:List Fa}:(bdF T).length<=2*T.length:=by rw [<-qj7];exact qk0 _
theorem yq2 {T:List Fa} {x:Int}:x∈bdF T↔ ∃f∈T,x=f.lo∨x=f.hi:=by
 rw [bdF,(xw1 _).2,edF,zcc];simp
def ixD (ds:List Int) (x:Int):Nat:=fstI ds.length fun i=>decide (x<=ds.getD i 0)
theorem zc8 {ds:List Int} {x:Int}:ixD ds x<=ds.length:=(qb4 _ _).1
theorem qw4 {ds:List Int} {x:Int} (h:ds.Pairwise (· < ·)) {p:Nat} (hp:p < ds.length):p < ixD ds x↔ds.getD p 0 < x:=by
 obtain ⟨h1,h2,h3⟩:=qb4 ds.length fun i=>decide (x<=ds.getD i 0);constructor
 ·intro hlt;have:=of_decide_eq_false (h2 p hlt);omega
 ·intro hlt;rcases zcb p (ixD ds x) with h4 | h4
  ·exact h4
  ·have h5:=zdt (h3 (by rw [ixD] at h4;omega));rw [<-ixD] at h5;rcases zcb (ixD ds x) p with h6 | h6
   ·have:=ys6 h h6 hp;omega
   ·have e:p=ixD ds x:=by omega
    rw [<-e] at h5;omega
theorem zv4 {ds:List Int} (h:ds.Pairwise (· < ·)) {f:Fa} {p:Nat} (hp:p < ds.length):onF (ds.getD p 0) f=true↔ixD ds f.lo<=p/\p < ixD ds f.hi:=by
 have h1:=qw4 (x:=f.lo) h hp;have h2:=qw4 (x:=f.hi) h hp;rw [xq1];constructor
 ·intro hh;exact ⟨Nat.not_lt.1 fun hc=>by have:=h1.1 hc;omega,h2.2 hh.2⟩
 ·intro hh;exact ⟨Int.not_lt.1 fun hc=>by have:=h1.2 hc;omega,h2.1 hh.2⟩
def rowL (T:List Fa) (ds:List Int) (i p:Nat):List (Option Fa):=(ds.take p).map (lastF (T.take (i+1)))++(ds.drop p).map (lastF (T.take i))
def rowA (T:List Fa) (ds:List Int) (i:Nat):List (Option Fa):=ds.map (lastF (T.take i))
theorem yh7 {T:List Fa} {ds:List Int} {i:Nat}:(rowA T ds i).length=ds.length:=by simp [rowA]
theorem xk8 {T:List Fa} {ds:List Int} {i p:Nat}:(rowL T ds i p).length=ds.length:=by
 rw [rowL,zbm,zch,zch,<-zbm,List.take_append_drop]
theorem yw3 {T:List Fa} {ds:List Int} {i p:Nat} (hp:p < ds.length):(rowA T ds i).getD p none=lastF (T.take i) (ds.getD p 0):=by
 rw [rowA,zbh,zbs,zbi hp,zbh,zbi hp];rfl
theorem zk2 {T:List Fa} {ds:List Int}:rowA T ds 0=List.replicate ds.length none:=by
 rw [rowA,zej];apply List.ext_getElem (by simp);intro i h1 h2;simp [lastF]
theorem yi3 {T:List Fa} {ds:List Int} {i p q:Nat} (hq:q < ds.length):(rowL T ds i p).getD q none=if q < p then lastF (T.take (i+1)) (ds.getD q 0) else lastF (T.take i) (ds.getD q 0):=by
 rw [rowL,zbh,List.getElem?_append,zch,zcu,zbs,zbs,List.getElem?_take,List.getElem?_drop];have e:ds.getD q 0=ds[q]:=by rw [zbh,zbi hq];rfl
 rw [e];by_cases h:q < p
 ·rw [if_pos (by omega),if_pos h,if_pos h,zbi hq];rfl
 ·rw [if_neg (by omega),if_neg h,show p+(q - min p ds.length)=q by omega,zbi hq];rfl
theorem zj5 {xs ys:List (Option Fa)} (hl:xs.length=ys.length) (h: ∀q,q < xs.length->xs.getD q none=ys.getD q none):xs=ys:=xh0 hl h
theorem za6 {T:List Fa} {ds:List Int} (h:ds.Pairwise (· < ·)) {i:Nat} (hi:i < T.length):rowL T ds i (ixD ds (T.getD i fa0).lo)=rowA T ds i:=by
 refine zj5 (by rw [xk8,yh7]) fun q hq=> ?_;rw [xk8] at hq;rw [yi3 hq,yw3 hq];split
 ·next hp=>rw [yb1 hi,if_neg (fun hh=>by have:=(zv4 h hq).1 hh;omega)]
 ·rfl
theorem zt1 {T:List Fa} {ds:List Int} (h:ds.Pairwise (· < ·)) {i p:Nat} (hi:i < T.length) (_h1:ixD ds (T.getD i fa0).lo<=p) (h2:ixD ds (T.getD i fa0).hi<=p):rowL T ds i p=rowA T ds (i+1):=by
 refine zj5 (by rw [xk8,yh7]) fun q hq=> ?_;rw [xk8] at hq;rw [yi3 hq,yw3 hq];split
 ·rfl
 ·next hp=>rw [yb1 hi,if_neg (fun hh=>by have:=(zv4 h hq).1 hh;omega)]
theorem qc2 {T:List Fa} {ds:List Int} (h:ds.Pairwise (· < ·)) {i p:Nat} (hi:i < T.length) (hp:p < ds.length) (h1:ixD ds (T.getD i fa0).lo<=p) (h2:p < ixD ds (T.getD i fa0).hi):(rowL T ds i p).set p (some (T.getD i fa0))=rowL T ds i (p+1):=by
 refine zj5 (by rw [zdn,xk8,xk8]) fun q hq=> ?_;rw [zdn,xk8] at hq;rw [yd3 (by rw [xk8];exact hp),yi3 hq,yi3 hq];by_cases hqp:q=p
 ·subst hqp;rw [if_pos rfl,if_pos (by omega),yb1 hi,if_pos ((zv4 h hq).2 ⟨h1,h2⟩)]
 ·rw [if_neg hqp];by_cases hlt:q < p
  ·rw [if_pos hlt,if_pos (by omega)]
  ·rw [if_neg hlt,if_neg (by omega)]
def vwK (T:List Fa) (k:Nat):List Tst:=pst [] (segN (gF T) (bdF T) k)
def vwT (T:List Fa):List Tst:=pst [] (segL (gF T) (bdF T))
theorem yo4 {T:List Fa} {p:Nat} {f:Fa} (h:lastF T ((bdF T).getD p 0)=some f) (hp:p < (bdF T).length):p+1 < (bdF T).length:=by
 obtain ⟨h1,h2,h3⟩:=xj2 h;rcases zcb (p+1) (bdF T).length with h4 | h4
 ·exact h4
 ·obtain ⟨j,hj,e⟩:=List.mem_iff_getElem.1 (yq2.2 ⟨f,h1,.inr rfl⟩);have e2:(bdF T).getD j 0=f.hi:=by rw [zbh,zbi hj];exact e
  rcases zcb j p with h5 | h5
  ·have:=ys6 xh9 h5 hp;omega
  ·have e3:j=p:=by omega
   rw [e3] at e2;omega
theorem wg4 {T:List Fa}:vwK T ((bdF T).length)=vwT T:=by
 rw [vwK,vwT,za4];rcases zco (bdF T).length with h | h
 ·rw [h]
 ·obtain ⟨m,hm⟩: ∃m,(bdF T).length=m+1:=⟨(bdF T).length - 1,by omega⟩
  have e:segI (gF T) (bdF T) m=[]:=by
   rw [segI];cases hl:lastF T ((bdF T).getD m 0) with
   | none=>rw [gF,hl];rfl
   | some f=>have:=yo4 hl (by omega);omega
  rw [hm,y9,e,zdz];rfl
theorem zw3 {T:List Fa} {k:Nat} (h:gF T ((bdF T).getD k 0)=none):vwK T (k+1)=vwK T k:=by
 rw [vwK,y9,segI,h,zdz];rfl
theorem yj8 {T:List Fa} {k:Nat} {v:Va} (h:gF T ((bdF T).getD k 0)=some v):vwK T (k+1)=pst1 (vwK T k) ⟨(bdF T).getD k 0,(bdF T).getD (k+1) 0,v⟩:=by
 rw [vwK,y9,segI,h,jz7];rfl
theorem jw9 {T:List Fa} {k:Nat}:(vwK T k).length<=k:=by
 have h:=zg1 (segN (gF T) (bdF T) k) [];have:=yv6 (g:=gF T) (ds:=bdF T) k;have h2:(vwK T k).length<=([]:List Tst).length+(segN (gF T) (bdF T) k).length:=h;simp at h2;omega
end An.S
namespace An
open Go
def bts (s:ByteArray):List UInt8:=s.data.toList
theorem yh0 {s:ByteArray}:(bts s).length=s.size:=by rw [bts,Array.length_toList];rfl
def strOf (l:List UInt8):ByteArray:=⟨l.toArray⟩
theorem bts_mk {l:List UInt8}:bts (strOf l)=l:=rfl
theorem xk3 {l:List UInt8}:(strOf l).size=l.length:=rfl
abbrev tU8 (b:UInt8):Ty:=tE (.int .u8 ((b.toNat:Nat):Int))
abbrev tSt (s:ByteArray):Ty:=tE (.string s)
section
variable {P:Program}
def Srcs (P:Program) (sb:ByteArray) (es:Nat) (agg:Bool) {α:Type} (f:α->Ty) (ys:List α):Prop:=
 ∃news:Array Value,news.size=ys.length*es/\(∀w':World,(Builtin.firstCells es ys.length (.string sb)).run P w'= .ok news w')/\(∀u∈news.toList,one u=true)/\
  ∀{F:Dom} {w:World} (i:Nat) (y:α),ys[i]? =some y->(f y).p F w (pick agg es news (i*es))
theorem wd2 (P:Program) (sb:ByteArray):Srcs P sb 1 false tU8 (bts sb):=by
 refine ⟨sb.data.map fun b=> .int .u8 (b.toNat:Int),by simp [bts],fun w'=> ?_,fun u hu=> ?_,fun {F w} i y hi=> ?_⟩
 ·have e:sb.extract 0 (bts sb).length=sb:=by rw [yh0];exact ByteArray.extract_zero_size
  simp only [Builtin.firstCells,e,zbx]
 ·simp only [Array.toList_map,zci] at hu;obtain ⟨b,_,rfl⟩:=hu;rfl
 ·simp only [bts] at hi;show pick false 1 _ _=_;simp only [pick,zdy,zdr];rw [zbk,Array.getElem?_map,<-zes,hi];rfl
theorem yt7 {t t2 ty E es by_ n cap m:Nat} {i:TypeInfo} {z:Value} {A:Option Addr} {sb:ByteArray} {w:World} (ht2:P.underlying t2=some .string) (hm0:sb.size=m) (ht:P.underlying t=some (.slice E)) (hi:P.info? E=some i) (hs:i.size=es) (hby:i.bytes=by_) (hz:i.zero=some z) (hzs:z.cells.size=es) (h0:0 < es)
  (hn:n<=cap) (cs:Array Value) {b:Nat} (hrow:0 < cap->A=some ⟨b,0,none⟩/\w.heap[b]? =some (.cells cs E (0,0))/\cs.size=cap*es)
  (news:Array Value) (hnews:news.size=m*es) (hsrc: ∀w':World,w'.heap=w.heap->(Builtin.firstCells es m (.string sb)).run P w'= .ok news w') (hone: ∀v∈news.toList,one v=true)
  (h63:n+m<=9223372036854775807) (hbytes:(n+m)*by_<=140737488355328):
  (n+m<=cap/\ ∃w',(Builtin.append_ #[t,t2] ty #[.slice A n cap,.string sb]).run P w= .ok (.slice A (n+m) cap) w'/\
   (0 < cap->w'.heap[b]? =some (.cells (putAt cs (n*es) news.toList) E (0,0))/\w'.heap.size=w.heap.size/\w'.os=w.os/\w'.tape=w.tape/\w'.output=w.output/\ ∀b',b'≠b->w'.heap[b']? =w.heap[b']?)/\(cap=0->w'=w))∨
  (cap < n+m/\ ∃w' cap' rest,(Builtin.append_ #[t,t2] ty #[.slice A n cap,.string sb]).run P w= .ok (.slice (some ⟨w.heap.size,0,none⟩) (n+m) cap') w'/\n+m<=cap'/\cap'<=9223372036854775807/\
   rest.size=(cap' - (n+m))*es/\w'.heap=w.heap.push (.cells (cs.extract 0 (n*es)++news++rest) E (0,0))/\w'.os=w.os/\w'.tape=w.tape/\w'.output=w.output/\(cs.extract 0 (n*es)).size=n*es):=by
 subst hs hby;by_cases hfit:n+m<=cap
 ·left;refine ⟨hfit,?_⟩;rcases zco cap with hc | hc
  ·subst hc;have hm:m=0:=by omega
   have hn0:n=0:=by omega
   subst hm hn0;have hnil:news= #[]:=Array.eq_empty_of_size_eq_zero (by rw [hnews];simp);refine ⟨w,?_,fun h=>by omega,fun _=>rfl⟩;subst hnil;cases A with
   | none=>simp [Builtin.append_,run_underlying ht,run_underlying ht2,hm0,Go.sizeOf,typeInfo,hi,Builtin.lenOf,hsrc w rfl]
   | some a=>simp [Builtin.append_,run_underlying ht,run_underlying ht2,hm0,Go.sizeOf,typeInfo,hi,Builtin.lenOf,hsrc w rfl,storeCells]
  ·obtain ⟨hA,hb,hcs⟩:=hrow hc;subst hA;have hle:n*i.size+m*i.size<=cs.size:=by rw [hcs,<-zdh];exact zbz _ hfit
   obtain ⟨w',r1,r2,r3,r4,r5,r6,r7⟩:=xp7 (P:=P) (o:=n*i.size) news.toList cs 0 w hb (by simp [hnews];omega) hone;refine ⟨w',?_,fun _=>⟨by simpa using r2,r3,r4,r5,r6,r7⟩,fun h=>by omega⟩;simp [Builtin.append_,run_underlying ht,run_underlying ht2,hm0,Go.sizeOf,typeInfo,hi,Builtin.lenOf,hsrc w rfl,hfit,Addr.add_lit,r1]
 ·right;refine ⟨by omega,?_⟩;have hold: ∀w':World,w'.heap=w.heap->(Builtin.firstCells i.size n (.slice A n cap)).run P w'= .ok (cs.extract 0 (n*i.size)) w':=by
   intro w' hw';rcases zco n with hn0 | hn0
   ·subst hn0;rw [xr0];simp
   ·obtain ⟨hA,hb,hcs⟩:=hrow (by omega);subst hA;have hle:n*i.size<=cs.size:=by rw [hcs];exact zbz _ hn
    have:=xr1 (P:=P) (w:=w') (es:=i.size) (n:=n) (k:=n) (cap:=cap) (o:=0) (by rw [hw'];exact hb) (by omega);simpa using this
  have hsz:(cs.extract 0 (n*i.size)).size=n*i.size:=by
   rcases zco n with hn0 | hn0
   ·subst hn0;simp
   ·obtain ⟨hA,hb,hcs⟩:=hrow (by omega);have hle:n*i.size<=cs.size:=by rw [hcs];exact zbz _ hn
    simp;omega
  have hbig: ¬(281474976710656 < Builtin.nextslicecap (n+m) cap*i.bytes):=by
   have:=growslice_fits (need:=n+m) (old:=cap) (bytes:=i.bytes) (by omega) hbytes;omega
  have h63':n+m<=maxLen:=h63;refine ⟨{w.drew with heap:=w.heap.push (.cells (cs.extract 0 (n*i.size)++news++Builtin.zeroCells z.cells (grownCap w (n+m) cap E - (n+m))) E (0,0))},grownCap w (n+m) cap E,Builtin.zeroCells z.cells (grownCap w (n+m) cap E - (n+m)),?_,grownCap_ge _ _ _ _,grownCap_le_maxLen _ _ _ _ h63',by rw [size_zeroCells,hzs],rfl,rfl,rfl,rfl,hsz⟩;have e1:=hold w.drew rfl;have e2:=hsrc w.drew rfl;have hcast: ¬(9223372036854775807:Int) < (n:Int)+(m:Int):=by omega
  simp [Builtin.append_,run_underlying ht,run_underlying ht2,hm0,Go.sizeOf,typeInfo,zeroValue,hi,hz,Builtin.lenOf,hfit,hcast,hbig,Question.forced,e1,e2,newRow,grownCap];rfl
end
section
variable {P:Program} {c:Base} {d ty:Nat} {pos:String} {af:Array Edge} {gd:Option (Nat×Bool)}
theorem jg2 {T T2 E es by_ k k' n:Nat} {agg:Bool} {z:Value} {sb:ByteArray} {α:Type} {f:α->Ty} {ys:List α} {x y:Operand} {ts ts':List Ent} {T0:Nat} (st:P.underlying T2=some .string) (hsb:sb.size=ys.length) (sl:P.underlying T=some (.slice E)) (el:ElI P E es by_ agg z) (hz:Flat es agg z) (hT:T0=E) (h0:Nat.blt 0 es=true)
  (src:Srcs P sb es agg f ys) (hn:ts.length=n) (hb:(n+ys.length)*by_<=140737488355328) (h63:n+ys.length<=9223372036854775807) (hts:ts++ys.map (fun y=> .val (f y))=ts') {n':Nat} (hn':n+ys.length=n'):
  Does P c ⟨some d,.call {callee:= .builtin .append,args:= #[x,y],argTypes:= #[T,T2]},ty,pos,af,gd⟩ ⟨[(x,.own (.sl k es 0 n)),(y,.val (tE (.string sb)))],[(k,⟨T0,es,agg,ts⟩)],some (d,some (.own (.sl k' es 0 n'))),[(k,none),(k',some ⟨T0,es,agg,ts'⟩)],[k']⟩:=by
 intro g h al a w hp ⟨η,s⟩;subst hts hT hn hn';have h0':0 < es:=by simpa using h0
 obtain ⟨hx,hxs⟩:=xa2 s hp.rd.1;obtain ⟨A,hA,hcap,hadr⟩:=hx;simp only [Nat.sub_zero,zcn,zef] at hA hcap hadr;obtain ⟨news,hns,hsrc0,hone,hnp⟩:=src;have hsrc:=fun (w':World) (_:w'.heap=w.heap)=>hsrc0 w';have hA:a.eval x= .slice A ts.length (η.c k):=hA;have hy:a.eval y= .string sb:=(xa2 s hp.rd.2.1).1;obtain ⟨i,hi,hsz,hby,hz'⟩:=el.parts;obtain ⟨k1,k2,⟨k3,k4,k5,k6,k7⟩,k8⟩:=s.key k _ hp.kr.1;simp only at k3 k4 k5 k6 k7;have hexec: ∀v w',(Builtin.append_ #[T,T2] ty #[.slice A ts.length (η.c k),.string sb]).run P w= .ok v w'->
   (execOp a.eval ⟨some d,.call {callee:= .builtin .append,args:= #[x,y],argTypes:= #[T,T2]},ty,pos,af,gd⟩).run P w= .ok (.value v) w':=fun v w' hr=>by
  simp only [execOp,resolve,invoke,builtin,zcs,zcy,zfg,hA,hy,zbu,zbx,zbn,hr]
 have hsupp: ∀j∈HEnt.supp ⟨T0,es,agg,ts++ys.map fun y=> .val (f y)⟩,al j=true:=fun j hj=>by
  simp only [HEnt.supp,zcc] at hj;obtain ⟨e,he,hj⟩:=hj;rcases zbp.1 he with he | he
  ·exact k2 j (zcc.2 ⟨e,he,hj⟩)
  ·obtain ⟨y,_,rfl⟩:=zci.1 he;cases hj
 have hlk: ∀(l:List Ent) (i:Nat) (e:Ent),(ts++ys.map fun y=>Ent.val (f y))[i]? =some e->(ts[i]? =some e/\i < ts.length)∨(∃y,ys[i - ts.length]? =some y/\e= .val (f y)/\ts.length<=i):=fun _ i e he=>by
  rcases zcb i ts.length with hlt | hge
  ·rw [zct hlt] at he;exact .inl ⟨he,hlt⟩
  ·rw [zcr hge,zbs] at he;obtain ⟨y,hy,rfl⟩:=zdd.1 he;exact .inr ⟨y,hy,rfl,hge⟩
 rcases zco (η.c k) with hc | hc
 ·
  have hts:ts=[]:=zda (by omega);subst hts;rcases yt7 (P:=P) (t2:=T2) (ty:=ty) (A:=A) (n:=0) (cap:=η.c k) (w:=w) (b:=0) st hsb sl hi hsz hby hz' hz.1 h0' (by simp) #[] (fun h=>by omega) news hns hsrc hone h63 hb with ⟨hfit,w',hr,_,hw⟩ | ⟨hgt,w',cap',rest,hr,hle,hmax,hrest,hheap,hos,htape,hout,_⟩
  ·have hys:ys=[]:=zda (by omega);subst hys;have:=hw hc;subst this;refine xd0 (hexec _ _ hr) ?_;have s2:=s.rename hp.kr.1 hp.nk.1;refine ⟨_,s2.put (hp.d _ rfl) (e:= .own (.sl k' es 0 (0+0))) ⟨A,?_,?_,?_⟩ ?_⟩
   ·simp [Env.set_c]
   ·simp
   ·intro h;rw [Env.set_c] at h;exact absurd h (by simp [hc])
   ·intro j hj;simp only [Ent.supp,VP.supp,zbj] at hj;subst hj;simp
  ·refine xd0 (hexec _ _ hr) ?_;have hext:Ext w w':=⟨hos,htape,hout,by rw [hheap];simp,fun b hb=>by rw [hheap,zfe,if_neg (by omega)]⟩
   have s2:=(s.drop k).new' k' hp.nk.1 ⟨T0,es,agg,[]++ys.map fun y=> .val (f y)⟩ cap' w.heap.size (by simpa using hle) h0' k5 hmax hsupp hext (fun _=>⟨zbq _,#[]++news++rest,by rw [hheap];simp,by
     simp only [zff,hns,hrest,Array.size_empty];rw [zcn,<-zdh];congr 1;simp at hle;omega,fun j e hj=>by
     simp only [List.nil_append,zbs] at hj;obtain ⟨y,hy',rfl⟩:=zdd.1 hj;have hjl:j < ys.length:=(zbo.1 hy').1;have hle':j*es+es<=news.size:=by rw [hns,<-zcw];exact zbz _ hjl
     simp only [zdj];rw [xe5 hle' k5];exact (f y).mono (hnp j y hy') (Keep.drop k)⟩)
   refine ⟨_,s2.put (hp.d _ rfl) (e:= .own (.sl k' es 0 (0+ys.length))) ⟨some ⟨w.heap.size,0,none⟩,?_,?_,?_⟩ ?_⟩
   ·simp [Env.set_c]
   ·simpa [Env.set_c] using hle
   ·intro _;simp [Env.set_b]
   ·intro j hj;simp only [Ent.supp,VP.supp,zbj] at hj;subst hj;simp
 ·obtain ⟨cs,m1,m2,m3⟩:=k7 hc;have hAv:=hadr hc;rcases yt7 (P:=P) (t2:=T2) (ty:=ty) (A:=A) (n:=ts.length) (cap:=η.c k) (w:=w) (b:=η.b k) st hsb sl hi hsz hby hz' hz.1 h0' k3 cs (fun _=>⟨hAv,m1,m2⟩) news hns hsrc hone h63 hb with ⟨hfit,w',hr,hw,_⟩ | ⟨hgt,w',cap',rest,hr,hle,hmax,hrest,hheap,hos,htape,hout,hold⟩
  ·obtain ⟨q1,q2,q3,q4,q5,q6⟩:=hw hc;refine xd0 (hexec _ _ hr) ?_;have hsz2:ts.length*es+ys.length*es<=cs.size:=by rw [m2,<-zdh];exact zbz _ hfit
   have hnl:news.toList.length=ys.length*es:=by simpa using hns
   have s1:=s.write (w':=w') k hp.kr.1 ⟨T0,es,agg,ts++ys.map fun y=> .val (f y)⟩ (putAt cs (ts.length*es) news.toList) (by rw [xc8];exact m2) (by simpa using hfit) h0' k5 hsupp
    (fun j e hj=>by
     rcases hlk [] j e hj with ⟨he,hjl⟩ | ⟨y,hy',rfl,hge⟩
     ·have hle':j*es+es<=ts.length*es:=by rw [<-zcw];exact zbz _ hjl
      simp only [];rw [xf6 (by omega) k5 (.inl hle')];exact m3 j e he
     ·have hjl:j - ts.length < ys.length:=(zbo.1 hy').1;have hle':(j - ts.length)*es+es<=ys.length*es:=by rw [<-zcw];exact zbz _ hjl
      have e1:j*es=ts.length*es+(j - ts.length)*es:=by rw [<-zdh];congr 1;omega
      have hpk:pick agg es (putAt cs (ts.length*es) news.toList) (j*es)=pick agg es news ((j - ts.length)*es):=by
       have hg: ∀q,q < es->(putAt cs (ts.length*es) news.toList)[j*es+q]? =news[(j - ts.length)*es+q]? :=fun q hq=>by
        rw [xh7 _ _ _ _ (by omega),if_pos (by omega),zes]
        congr 1;omega
       cases agg with
       | true=>
        simp only [pick,zev,zen];apply zdi;intro q;rw [zcq,zcq,xc8];by_cases hq:q < es
        ·rw [if_pos (by omega),if_pos (by omega),hg q hq]
        ·rw [if_neg (by omega),if_neg (by omega)]
       | false=>
        simp only [pick,zdy];have:=hg 0 h0';rw [zbk,zbk];simp only [zeh] at this;rw [this]
      simp only [];rw [hpk];exact hnp _ y hy')
    hc q1 q2 q3 q4 q5 q6 rfl
   have s2:=s1.rename (x7 _ _ _) hp.nk.1;have hcomm:upd (upd (upd h k (some ⟨T0,es,agg,ts++ys.map fun y=> .val (f y)⟩)) k none) k' (some ⟨T0,es,agg,ts++ys.map fun y=> .val (f y)⟩)=upd (upd h k none) k' (some ⟨T0,es,agg,ts++ys.map fun y=> .val (f y)⟩):=by
    funext j;by_cases hj:j=k'
    ·subst hj;simp [x7]
    ·rw [x3 _ _ _ hj,x3 _ _ _ hj];by_cases hj2:j=k
     ·subst hj2;simp [x7]
     ·rw [x3 _ _ _ hj2,x3 _ _ _ hj2,x3 _ _ _ hj2]
   rw [hcomm] at s2;refine ⟨_,s2.put (hp.d _ rfl) (e:= .own (.sl k' es 0 (ts.length+ys.length))) ⟨A,?_,?_,?_⟩ ?_⟩
   ·simp [Env.set_c]
   ·simpa [Env.set_c] using hfit
   ·intro _;rw [hAv];simp [Env.set_b]
   ·intro j hj;simp only [Ent.supp,VP.supp,zbj] at hj;subst hj;simp
  ·refine xd0 (hexec _ _ hr) ?_;have hext:Ext w w':=⟨hos,htape,hout,by rw [hheap];simp,fun b hb=>by rw [hheap,zfe,if_neg (by omega)]⟩
   have hdk:Keep (c.dom h η) (c.dom (upd h k none) η) w w:=Keep.drop k;have s2:=(s.drop k).new' k' hp.nk.1 ⟨T0,es,agg,ts++ys.map fun y=> .val (f y)⟩ cap' w.heap.size (by simpa using hle) h0' k5 hmax hsupp hext (fun _=>⟨zbq _,cs.extract 0 (ts.length*es)++news++rest,by rw [hheap];simp,by
     simp only [zff,hns,hrest,hold];rw [<-zdh,<-zdh];congr 1;omega,fun j e hj=>by
     rcases hlk [] j e hj with ⟨he,hjl⟩ | ⟨y,hy',rfl,hge⟩
     ·have hle':j*es+es<=ts.length*es:=by rw [<-zcw];exact zbz _ hjl
      simp only [];rw [Array.append_assoc,xe5 (by rw [hold];exact hle') k5,xr2 hle' (by simp at hold;omega) k5];exact Ent.sat_go (m3 j e he) hdk fun _ _=>⟨rfl,rfl⟩
     ·have hjl:j - ts.length < ys.length:=(zbo.1 hy').1;have hle':(j - ts.length)*es+es<=ys.length*es:=by rw [<-zcw];exact zbz _ hjl
      have e1:j*es=(cs.extract 0 (ts.length*es)).size+(j - ts.length)*es:=by rw [hold,<-zdh];congr 1;omega
      simp only [];rw [Array.append_assoc,e1,xk9 (by simp only [zff,hns];omega) k5,xe5 (by rw [hns];exact hle') k5];exact (f y).mono (hnp _ y hy') hdk⟩)
   refine ⟨_,s2.put (hp.d _ rfl) (e:= .own (.sl k' es 0 (ts.length+ys.length))) ⟨some ⟨w.heap.size,0,none⟩,?_,?_,?_⟩ ?_⟩
   ·simp [Env.set_c]
   ·simpa [Env.set_c] using hle
   ·intro _;simp [Env.set_b]
   ·intro j hj;simp only [Ent.supp,VP.supp,zbj] at hj;subst hj;simp
theorem yo2 {T T2 E by_ k k' n:Nat} {z:Value} {sb:ByteArray} {x y:Operand} {ts ts':List Ent} {T0:Nat} (st:P.underlying T2=some .string) (sl:P.underlying T=some (.slice E)) (el:ElI P E 1 by_ false z) (hz:Flat 1 false z) (hT:T0=E) (hn:ts.length=n) (hb:(n+sb.size)*by_<=140737488355328) (h63:n+sb.size<=9223372036854775807) (hts:ts++(bts sb).map (fun y=> .val (tU8 y))=ts') {n':Nat} (hn':n+sb.size=n'):
  Does P c ⟨some d,.call {callee:= .builtin .append,args:= #[x,y],argTypes:= #[T,T2]},ty,pos,af,gd⟩ ⟨[(x,.own (.sl k 1 0 n)),(y,.val (tE (.string sb)))],[(k,⟨T0,1,false,ts⟩)],some (d,some (.own (.sl k' 1 0 n'))),[(k,none),(k',some ⟨T0,1,false,ts'⟩)],[k']⟩:=
 jg2 st yh0.symm sl el hz hT rfl (wd2 P sb) hn (by rw [yh0];exact hb) (by rw [yh0];exact h63) hts (by rw [yh0];exact hn')
theorem beqB {p q:ByteArray}:(p.toList==q.toList)=decide (p=q):=by
 rw [ByteArray.toList_eq,ByteArray.toList_eq];by_cases h:p=q
 ·subst h;simp
 ·have h2:p.data.toList≠q.data.toList:=fun e=>h (by cases p;cases q;congr 1;exact Array.toList_inj.1 e);rw [zbg h];exact beq_false_of_ne h2
theorem ya0 {T yT:TypeId} {x y:Operand} {p q:ByteArray}:Does P c ⟨some d,.binOp .eql T x y yT,ty,pos,af,gd⟩ ⟨[(x,.val (tSt p)),(y,.val (tSt q))],[],some (d,some (.val (tB (decide (p=q))))),[],[]⟩:=
 xi7 fun w=>by simp only [eqGuard_at_string,binOp,zbu,zbx,zbn,Op.stringOp,beqB]
theorem qw9 {T yT:TypeId} {x y:Operand} {p q:ByteArray}:Does P c ⟨some d,.binOp .neq T x y yT,ty,pos,af,gd⟩ ⟨[(x,.val (tSt p)),(y,.val (tSt q))],[],some (d,some (.val (tB (decide (p≠q))))),[],[]⟩:=
 xi7 fun w=>by
  simp only [eqGuard_at_string,binOp,zbu,zbx,zbn,Op.stringOp,beqB];rw [show (!decide (p=q))=decide (p≠q) by by_cases h:p=q <;> simp [h]]
theorem z6 {T:TypeId} {x:Operand} {s:ByteArray} (hT:P.underlying T=some .string):
  Does P c ⟨some d,.call {callee:= .builtin .len,args:= #[x],argTypes:= #[T]},ty,pos,af,gd⟩ ⟨[(x,.val (tSt s))],[],some (d,some (.val (tI s.size))),[],[]⟩:=
 Does.value rfl fun g h al a w η hrd _ st=>by
  have h1:a.eval x= .string s:=(xa2 st hrd.1).1;exact ⟨_,w,by simp only [execOp,resolve,invoke,builtin,zcs,zcy,zfg,h1];simp [run_len_string (P:=P) (w:=w) T ty s hT,go_sem],Ext.refl w,rfl,fun k hk=>by cases hk⟩
theorem zw6 {T:TypeId} {x y z:Operand} {k k':IntKind} {s r:ByteArray} {i j:Int} (hT:P.underlying T=some .string) (h0:0<=i) (h1:i<=j) (h2:j<=s.size) (hr:s.extract i.toNat j.toNat=r):
  Does P c ⟨some d,.slice T x (some y) (some z) none,ty,pos,af,gd⟩ ⟨[(x,.val (tSt s)),(y,.val (tE (.int k i))),(z,.val (tE (.int k' j)))],[],some (d,some (.val (tSt r))),[],[]⟩:=
 Does.value rfl fun g h al a w η hrd _ st=>by
  subst hr;have e1:a.eval x= .string s:=(xa2 st hrd.1).1;have e2:a.eval y= .int k i:=(xa2 st hrd.2.1).1;have e3:a.eval z= .int k' j:=(xa2 st hrd.2.2.1).1;refine ⟨_,w,?_,Ext.refl w,rfl,fun k hk=>by cases hk⟩;simp only [execOp,e1,e2,e3,zdm,zeo,Instr.sliceAt,zbu,zcj hT,zbn,run_slice_string (P:=P) (w:=w) T s k k' i j hT h0 h1 h2,zbx]
theorem jo3 {T T2 E k n:Nat} {x:Operand} {bs:List UInt8} {T0:Nat} (hT:P.underlying T=some (.slice E)) (he:P.underlying E=some (.int .u8)) (hd:P.underlying T2=some .string) (hn:bs.length=n) (h0:0 < n):
  Does P c ⟨some d,.convert T T2 x,ty,pos,af,gd⟩ ⟨[(x,.own (.sl k 1 0 n))],[(k,⟨T0,1,false,rV tU8 bs⟩)],some (d,some (.val (tSt (strOf bs)))),[],[]⟩:=
 Does.value rfl fun g h al a w η hrd hkr st=>by
  subst hn;obtain ⟨A,hA,hcap,hadr⟩:=(xa2 st hrd.1).1;have hA:a.eval x= .slice A bs.length (η.c k - 0):=hA;have hc:0 < η.c k:=by omega
  have hadr:=hadr hc;subst hadr;obtain ⟨k1,k2,⟨k3,k4,k5,k6,k7⟩,k8⟩:=st.key k _ hkr.1;obtain ⟨cs,m1,m2,m3⟩:=k7 hc;have m2:cs.size=η.c k*1:=m2;have m1:w.heap[η.b k]? =some (.cells cs T0 (0,0)):=m1;have hle:bs.length<=η.c k:=by omega
  refine ⟨_,w,?_,Ext.refl w,rfl,fun k hk=>by cases hk⟩;have:=run_convert_bytes_back (P:=P) w T T2 E ⟨η.b k,0*1,none⟩ (η.c k - 0) bs hT he hd fun j hj=>by
   have e:=m3 j _ (xc3 (f:=tU8) (xs:=bs) (i:=j) (d:=0) hj);have e:pick false 1 cs (j*1)= .int .u8 (((bs.getD j 0).toNat:Nat):Int):=e;simp only [pick,zdy,zdr] at e;have hlt:j < cs.size:=by rw [m2];omega
   rw [Addr.add_lit,zh4 m1];rw [zbk,zcm hlt] at e;rw [zbh,zbi hj] at e;simp only [Option.getD_some] at e;simp [hlt,e]
  simp only [execOp,hA,zbu,this,zbn,zbx];rfl
end
end An
namespace An.S
open Go Go.Proofs An Tryz
instance ti9:TyI Tryz.prog 9 1 false:=⟨by kernel_rfl,by kernel_rfl⟩
instance ti33:TyI Tryz.prog 33 1 false:=⟨by kernel_rfl,by kernel_rfl⟩
instance ti35:TyI Tryz.prog 35 1 false:=⟨by kernel_rfl,by kernel_rfl⟩
instance fo30_0:FoI Tryz.prog 30 0 0:=⟨by kernel_rfl⟩
instance fo30_1:FoI Tryz.prog 30 1 1:=⟨by kernel_rfl⟩
instance fo30_2:FoI Tryz.prog 30 2 2:=⟨by kernel_rfl⟩
instance fi74:FnI Tryz.prog 74:=⟨_,func74,by kernel_rfl,rfl⟩
instance fi75:FnI Tryz.prog 75:=⟨_,func75,by kernel_rfl,rfl⟩
instance fi76:FnI Tryz.prog 76:=⟨_,func76,by kernel_rfl,rfl⟩
instance fi83:FnI Tryz.prog 83:=⟨_,func83,by kernel_rfl,rfl⟩
instance fi136:FnI Tryz.prog 136:=⟨_,func136,by kernel_rfl,rfl⟩
instance fi137:FnI Tryz.prog 137:=⟨_,func137,by kernel_rfl,rfl⟩
theorem el30:ElI Tryz.prog 30 11 128 true (.agg #[.string ⟨#[]⟩,.int .i64 0,.int .i64 0,.int .i64 0,.bool false,.int .u8 0,.bool false,.slice none 0 0,.bool false,.slice none 0 0,.int .i64 0]):=⟨ti30,by kernel_rfl,by kernel_rfl⟩
theorem zr30:(Tryz.prog.info? 30).bind (·.zero)=some (.agg #[.string ⟨#[]⟩,.int .i64 0,.int .i64 0,.int .i64 0,.bool false,.int .u8 0,.bool false,.slice none 0 0,.bool false,.slice none 0 0,.int .i64 0])/\ ∀F w,(tS [⟨1,false,(tE (.string ⟨#[]⟩))⟩,⟨1,false,(tE (.int .i64 0))⟩,⟨1,false,(tE (.int .i64 0))⟩,⟨1,false,(tE (.int .i64 0))⟩,⟨1,false,(tE (.bool false))⟩,⟨6,true,(tS [⟨1,false,(tE (.int .u8 0))⟩,⟨4,true,zad⟩,⟨1,false,(tE (.int .i64 0))⟩])⟩]).p F w (.agg #[.string ⟨#[]⟩,.int .i64 0,.int .i64 0,.int .i64 0,.bool false,.int .u8 0,.bool false,.slice none 0 0,.bool false,.slice none 0 0,.int .i64 0]):=⟨by kernel_rfl,fun _ _=>⟨_,rfl,rfl,⟨fun _=>rfl,rfl⟩,⟨fun _=>rfl,rfl⟩,⟨fun _=>rfl,rfl⟩,⟨fun _=>rfl,rfl⟩,⟨fun _=>rfl,rfl⟩,⟨fun h=>Bool.noConfusion h,⟨_,rfl,rfl,⟨fun _=>rfl,rfl⟩,⟨fun h=>Bool.noConfusion h,⟨_,rfl,rfl,⟨fun h=>Bool.noConfusion h,⟨_,rfl,rfl,⟨fun _=>rfl,rfl⟩,⟨fun _=>rfl,⟨none,0,rfl,zbq _,by decide,.inl rfl⟩⟩,trivial⟩⟩,⟨fun h=>Bool.noConfusion h,⟨_,rfl,rfl,⟨fun _=>rfl,rfl⟩,⟨fun _=>rfl,⟨none,0,rfl,zbq _,by decide,.inl rfl⟩⟩,trivial⟩⟩,trivial⟩⟩,⟨fun _=>rfl,rfl⟩,trivial⟩⟩,trivial⟩⟩
theorem zf30:Flat 11 true (.agg #[.string ⟨#[]⟩,.int .i64 0,.int .i64 0,.int .i64 0,.bool false,.int .u8 0,.bool false,.slice none 0 0,.bool false,.slice none 0 0,.int .i64 0]):=xv1 (by intro u hu;simp at hu;rcases hu with rfl | rfl | rfl | rfl | rfl | rfl | rfl | rfl | rfl | rfl | rfl <;> rfl)
abbrev flt (key:ByteArray) (kn:Int) (f:Fa):Bool:=decide (f.key=key) && decide (f.kn<=kn)
theorem jt1 {key:ByteArray} {kn:Int} {a:List Fa} {i:Nat} (hi:i < a.length):(a.take (i+1)).filter (flt key kn)=(a.take i).filter (flt key kn)++if (a.getD i fa0).key=key/\(a.getD i fa0).kn<=kn then [a.getD i fa0] else []:=by
 rw [zca hi,List.filter_append,zbh,zbi hi,List.filter_cons]
 congr 1
 simp only [flt,zbv,zbw,List.filter_nil,Option.getD_some]
theorem wd6 {key:ByteArray} {kn:Int} {a:List Fa} {i:Nat}:((a.take i).filter (flt key kn)).length<=i:=by
 have h1:=List.length_filter_le (flt key kn) (a.take i);rw [zcu] at h1;omega
theorem qa0 {a:List Fa} {key:ByteArray} {kn:Int}:(toldT a key kn).length=(a.filter (flt key kn)).length:=xo5 _
theorem yf1 {a:List Fa} {key:ByteArray} {kn:Int}:(toldT a key kn).length<=a.length:=by rw [qa0];exact List.length_filter_le ..
def toY (a:List Fa) (key:ByteArray) (kn:Int) (j:Nat):List Ty:=[tFa ((toldT a key kn).getD j fa0)]
theorem zr9 (a:List Fa) (key:ByteArray) (kn:Int):
  CtG Tryz.prog 45 [] [.val (tL 11 true tFa a),.val (tSt key),.val (tI kn)] (.own (.fn 75 [.ptr 3 0,.ptr 4 0,.ptr 5 0])) [(3,⟨33,1,false,[.val (tL 11 true tFa a)]⟩),(4,⟨9,1,false,[.val (tSt key)]⟩),(5,⟨3,1,false,[.val (tI kn)]⟩)] [3,4,5]:=by
 refine CtG.intro [] func45 rfl ntmps45 rfl rfl trivial ?_;intro w F η;refine A10 ?_;refine R3 (xt6 (ps:=[.ptr 3 0,.ptr 4 0,.ptr 5 0]) rfl) rfl rfl rfl ?_;refine A4 ?_;exact xg0 LentC.mk' rfl rfl Imp.refl qC rfl ⟨⟨rfl,(SupX.lit rfl)⟩,⟨rfl,(SupX.lit rfl)⟩,⟨rfl,(SupX.lit rfl)⟩,trivial⟩ rfl
theorem jd8 (a:List Fa) (key:ByteArray) (kn:Int) (hl:a.length<=1000000):
  ItC Tryz.prog 75 [(3,⟨33,1,false,[.val (tL 11 true tFa a)]⟩),(4,⟨9,1,false,[.val (tSt key)]⟩),(5,⟨3,1,false,[.val (tI kn)]⟩)] [.ptr 3 0,.ptr 4 0,.ptr 5 0] ((toldT a key kn).length) (toY a key kn):=by
 refine ItC.intro (K:=99) [3,4,5] func75 rfl ntmps75 rfl rfl ⟨⟨rfl,(SupX.lit rfl)⟩,⟨rfl,(SupX.lit rfl)⟩,⟨rfl,(SupX.lit rfl)⟩,trivial⟩ rfl ?_;intro w F η l V J Jc hB;refine A2 ?_;refine RE (xg1 (k:=50) 30 11 true rfl (fun h=>by cases h)) trivial trivial qA ?_;refine A11 ?_;refine cL (fun (i:Nat)=>i<=a.length) (fun (i:Nat)=>uV (uV (uV (uO (uO (uO (uO (uV uN 0 (tE (.func (.yield l) #[] #[]))) 1 (.ptr 3 0)) 2 (.ptr 4 0)) 3 (.ptr 5 0)) 5 (.sl 50 11 0 ((a.take i).filter (flt key kn)).length)) 10 (tL 11 true tFa a)) 11 (tI a.length)) 12 (tI i)) (fun (i:Nat)=>uK (uK (uK (uK (uK uN 3 33 1 false [.val (tL 11 true tFa a)]) 4 9 1 false [.val (tSt key)]) 5 3 1 false [.val (tI kn)]) 99 (2*0) 1 false []) 50 30 11 true (rV tFa ((a.take i).filter (flt key kn)))) [3,4,5,99,50] (fun (i:Nat)=>a.length - i) (0) (zbt _) ?_;intro i hI;have hnx:=fun hh=>jt1 (key:=key) (kn:=kn) (a:=a) (i:=i) hh;have hxl:=wd6 (key:=key) (kn:=kn) (a:=a) (i:=i);refine A6 ?_;refine x9 rfl (fun h76=> ?_) (fun h76=> ?_)
 ·
  refine A6 ?_;refine R2 (x5 sl33 (i) (by omega) (zai (l:=a) (n:=i) (d:=fa0))) rfl rfl ?_;refine A1 ?_;refine RE (xb8 (k:=7) (n:=11) (agg:=true) zr30.1 zr30.2 rfl) trivial trivial qA ?_;refine A8 ?_;refine R2 (ya0) rfl rfl ?_;refine A1 ?_;refine RGcaseD (t:=20) rfl (fun h77=> ?_) (fun h77=> ?_)
  ·
   refine A7 ?_;refine x9 rfl (fun h77_2=> ?_) (fun h77_2=> ?_)
   ·
    refine A3 ?_;refine R1 (xc2 (n:=1) (f:=tFa) [(a.getD i fa0)] zgs el30 zf30 rfl (fun _=>inferInstance) rfl rfl rfl) rfl (RE (xb3 (k:=50) (k':=29) (f:=tFa) (ys:=[(a.getD i fa0)]) (ts':=rV tFa (((a.take i).filter (flt key kn))++[(a.getD i fa0)])) zgs el30 zf30 rfl rfl (fun _=>inferInstance) xc0 (by simp;omega) (by simp;omega) (by simp [rV]) (n':=((a.take i).filter (flt key kn)).length+1) rfl) qB qA qA ?_);refine A8 ?_;rw [if_pos ⟨h77,h77_2⟩] at hnx;have hnx:=hnx (by omega);exact xe3 (l:=[3,4,5,99,50]) (zab 50 29) (i+1) ⟨(by omega),(by omega)⟩ (zaf rfl (zaf rfl (zas rfl ((zbc rfl (zaw (by rw [hnx,zbm];rfl))) (zas rfl (zas rfl (zas rfl (zas rfl zbd)))))))) ((zbb rfl (zat (by rw [hnx];exact x8.symm))) ((zbb rfl zap) ((zbb rfl zap) ((zbb rfl zap) ((zbb rfl zap) zbe))))) (zaj (zaj (zaj (zak rfl (zak rfl (zak rfl (zak rfl (zaj zar)))))))) (zam rfl (supJ x6) (zam rfl (supJL rfl) (zam rfl (supJL rfl) (zam rfl (supJL rfl) (zam rfl (supJL rfl) zaz))))) (lkOk rfl) rfl rfl (fun _ h=>by cases h;rfl)
   ·
    refine A7 ?_;rw [if_neg (fun hh=>h77_2 hh.2),zdz] at hnx;have hnx:=hnx (by omega);exact kF (i+1) ⟨(by omega),(by omega)⟩ (hg:=(sI (sI (sC ((zav rfl (zaw (by rw [hnx]))) (sC (sC (sC (sC zay))))))))) (hh:=((zaq rfl (zat (by rw [hnx]))) (SubK.cons rfl (SubK.cons rfl (SubK.cons rfl (SubK.cons rfl zax))))))
  ·
   refine A15 ?_;rw [if_neg (fun hh=>h77 hh.1),zdz] at hnx;have hnx:=hnx (by omega);exact kF (i+1) ⟨(by omega),(by omega)⟩ (hg:=(sI (sI (sC ((zav rfl (zaw (by rw [hnx]))) (sC (sC (sC (sC zay))))))))) (hh:=((zaq rfl (zat (by rw [hnx]))) (SubK.cons rfl (SubK.cons rfl (SubK.cons rfl (SubK.cons rfl zax))))))
 ·
  refine A6 ?_;have hia:i=a.length:=by omega
  have hie:((a.take i).filter (flt key kn)).length=(toldT a key kn).length:=by rw [qa0,hia,zcf]
  refine A2 ?_;refine RE (xb7 (fun _=>50) (zq6 ((a.take i).filter (flt key kn)) rfl (by omega)) fi76 rfl (krC (ρ:=fun _=>50) (k:=20) x8 (krN (ρ:=fun _=>50))) (krC (ρ:=fun _=>50) (k:=20) x8 (krN (ρ:=fun _=>50))) ⟨⟨rfl,x6⟩,trivial⟩ rfl) qB qA trivial ?_;refine A3 ?_;refine xt7 (k:=50) (e':=⟨30,11,true,rV tFa (toldT a key kn)⟩) rfl (by rw [hia,zcf];rfl) ?_;refine A7 ?_;refine cL (fun (j:Nat)=>j<=(toldT a key kn).length) (fun (j:Nat)=>uV (uV (uO (uO (uO (uO (uV uN 0 (tE (.func (.yield l) #[] #[]))) 1 (.ptr 3 0)) 2 (.ptr 4 0)) 3 (.ptr 5 0)) 33 (.sl 50 11 0 (toldT a key kn).length)) 34 (tI (toldT a key kn).length)) 35 (tI j)) (fun (j:Nat)=>uK (uK (uK (uK (uK uN 3 33 1 false [.val (tL 11 true tFa a)]) 4 9 1 false [.val (tSt key)]) 5 3 1 false [.val (tI kn)]) 99 (2*j) 1 false []) 50 30 11 true (rV tFa (toldT a key kn))) [3,4,5,99,50] (fun (j:Nat)=>(toldT a key kn).length - j) (0) (zbt _) (hg:=(sI ((zav rfl (Imp.int (by rw [hie]))) ((zav rfl (zaw (by rw [hie]))) (sC (sC (sC (sC zay)))))))) ?_;intro j hI;have htl:=yf1 (a:=a) (key:=key) (kn:=kn);refine A6 ?_;refine x9 rfl (fun h82=> ?_) (fun h82=> ?_)
  ·
   refine A6 ?_;refine R2 (zag sl33 rfl) rfl rfl (RE (xa5 (j) ti30 (xc3 (f:=tFa) (xs:=(toldT a key kn)) (d:=fa0) (by omega)) (by omega)) qA qA trivial (RE (xb8 (k:=9) (n:=11) (agg:=true) zr30.1 zr30.2 rfl) trivial trivial qA ?_));refine A4 ?_;refine xi3 ?_;refine xa9 xa3 qA trivial trivial rfl (xa9 (xa5 (0) ti30 rfl rfl) qA qA trivial rfl ?_);refine yu7 (ts:=[tFa ((toldT a key kn).getD j fa0)]) hB (xk4 rfl) rfl rfl qA rfl rfl (by omega) ⟨zao,trivial⟩ ?_ ?_
   ·
    refine xa9 xj9 qA trivial trivial rfl (xg3 ?_);refine A9 ?_;exact kF (j+1) ⟨(by omega),(by omega)⟩
   ·
    refine xa9 xj9 qA trivial trivial rfl (xg3 ?_);refine A7 ?_;exact E_it hB rfl trivial rfl (.inl rfl) rfl (.inr ⟨j,by omega,rfl⟩)
  ·
   refine A4 ?_;exact E_it hB rfl trivial rfl (.inr rfl) rfl (.inl (by rw [show j=(toldT a key kn).length by omega]))
theorem qs6 {ks:List Fa} {k:Nat} (h:k < ks.length):ks.take (k+1)=ks.take k++[ks.getD k fa0]:=by
 rw [zca h,zbh,zbi h];rfl
theorem jg4 (a:List Fa) (key:ByteArray) (kn:Int) (hl:a.length<=1000000):
  CtG Tryz.prog 74 [(104,⟨33,1,false,[.val (tL 11 true tFa a)]⟩),(105,⟨9,1,false,[.val (tSt key)]⟩),(106,⟨3,1,false,[.val (tI kn)]⟩)] [.val (tE (.slice none 0 0)),.own (.fn 75 [.ptr 104 0,.ptr 105 0,.ptr 106 0])] (.own (.sl 60 11 0 (toldT a key kn).length)) [(60,⟨30,11,true,rV tFa (toldT a key kn)⟩)] [60]:=by
 refine CtG.intro [104,105,106] func74 rfl ntmps74 rfl rfl ⟨⟨rfl,(SupX.lit rfl)⟩,⟨rfl,(SupX.lit rfl)⟩,⟨rfl,(SupX.lit rfl)⟩,trivial⟩ ?_;intro w F η;refine A8 ?_;refine yo1 (q:=2) 60 30 11 true 0 rfl rfl rfl rfl (fun h=>by cases h) rfl rfl ?_;refine A5 ?_;refine ys2 (caps:=[.ptr 3 0,.ptr 4 0,.ptr 5 0]) (κ:=Empty) (zaa 5 106 (zaa 4 105 (zab 3 104))) rfl (fun _ h=>h) trivial (jd8 a key kn hl) fi75 rfl qC rfl rfl (fun _ _=>rfl) (uO uN 2 (.ptr 2 0)) [2,60,104,105,106] [2] (zan rfl zay) (zak rfl zar) rfl (lkOk rfl) (fun (k:Nat) (xs:List Fa)=>xs=((toldT a key kn).take k)) (fun (k:Nat) (xs:List Fa)=>uK (uK uN 2 33 1 false [.own (.sl 60 11 0 xs.length)]) 60 30 11 true (rV tFa xs)) (fun k x=>(zam rfl (supJ x6) (zam rfl (supJL rfl) zaz))) (fun k x y hy=>by simp only [zbr,zdf,or_false] at hy;rcases hy with rfl | rfl | rfl <;> rfl) (fun _ _=>False) (fun i=>i.elim) (fun _ _ h=>h.elim) ([]) rfl (SubK.cons rfl (SubK.cons rfl zax)) ?_ ?_ ?_
 ·
  intro D lp o1 o2 O W lη lb V0 k xs hk hI;have htl:=yf1 (a:=a) (key:=key) (kn:=kn);have hxl:xs.length<=1000000:=by rw [hI,zcu];omega
  apply zd2
  ·
   refine A1 ?_;refine RE (xb8 (k:=5) (n:=11) (agg:=true) zr30.1 zr30.2 rfl) trivial trivial qA ?_;refine A2 ?_;exact yp9 fun _ _ h=>h
  ·
   refine A2 ?_;refine RE (xa5 (ts:=[.own (.sl 60 11 0 xs.length)]) (0) ti33 rfl rfl) qA qA trivial ?_;refine A1 ?_;refine R1 (xc2 (n:=1) (f:=tFa) [((toldT a key kn).getD k fa0)] zgs el30 zf30 rfl (fun _=>inferInstance) rfl rfl rfl) rfl (RE (xb3 (k:=60) (k':=11) (f:=tFa) (ys:=[((toldT a key kn).getD k fa0)]) (ts':=rV tFa (xs++[((toldT a key kn).getD k fa0)])) zgs el30 zf30 rfl rfl (fun _=>inferInstance) xc0 (by simp;omega) (by simp;omega) (by simp [rV]) (n':=xs.length+1) rfl) qB qA qA (RE (xc1 (es:=1) (agg:=false) (e:= .own (.sl 11 11 0 (xs.length+1))) (0) ti33 rfl rfl rfl) qB qA trivial ?_));refine A2 ?_;exact zb3 (g':=fun _=>none) [2,60,104,105,106] (zab 60 11) zbd ((zbb rfl (zat x8.symm)) ((zbb rfl (zat (by rw [zbm];rfl))) zbe)) zar (zam rfl (supJ x6) (zam rfl (supJL rfl) zaz)) (lkOk rfl) rfl rfl (fun _ h=>by cases h) (xz0 ((xs++[(toldT a key kn).getD k fa0])) (by rw [qs6 hk,hI]) SubK.refl (zam rfl (supJ x6) (zam rfl (supJL rfl) zaz)) (lkOk rfl))
 ·
  intro D hD xs hI;rw [zcf] at hI;subst hI;refine A4 ?_;refine RE (xa5 (ts:=[.own (.sl 60 11 0 (toldT a key kn).length)]) (0) ti33 rfl rfl) qA qA trivial ?_;refine A4 ?_;exact xg0 (LentC.loop LentC.mk' hD) rfl rfl Imp.refl qA rfl ⟨⟨rfl,x6⟩,trivial⟩ rfl
 ·
  intro D hD e i;exact i.elim
theorem zd3 (a:List Fa) (key:ByteArray) (kn:Int) (hl:a.length<=1000000):
  CtG Tryz.prog 44 [(104,⟨33,1,false,[.val (tL 11 true tFa a)]⟩),(105,⟨9,1,false,[.val (tSt key)]⟩),(106,⟨3,1,false,[.val (tI kn)]⟩)] [.own (.fn 75 [.ptr 104 0,.ptr 105 0,.ptr 106 0])] (.own (.sl 4 11 0 (toldT a key kn).length)) [(4,⟨30,11,true,rV tFa (toldT a key kn)⟩)] [4]:=by
 refine CtG.intro [104,105,106] func44 rfl ntmps44 rfl rfl ⟨⟨rfl,(SupX.lit rfl)⟩,⟨rfl,(SupX.lit rfl)⟩,⟨rfl,(SupX.lit rfl)⟩,trivial⟩ ?_;intro w F η;refine A8 ?_;refine RE (xb7 (fun j=>cond (Nat.beq j 105) 105 (cond (Nat.beq j 104) 104 (cond (Nat.beq j 60) 4 (106)))) (jg4 a key kn hl) fi74 rfl (krC (ρ:=fun j=>cond (Nat.beq j 105) 105 (cond (Nat.beq j 104) 104 (cond (Nat.beq j 60) 4 (106)))) (k:=104) rfl (krC (ρ:=fun j=>cond (Nat.beq j 105) 105 (cond (Nat.beq j 104) 104 (cond (Nat.beq j 60) 4 (106)))) (k:=105) rfl (krC (ρ:=fun j=>cond (Nat.beq j 105) 105 (cond (Nat.beq j 104) 104 (cond (Nat.beq j 60) 4 (106)))) (k:=106) rfl (krN (ρ:=fun j=>cond (Nat.beq j 105) 105 (cond (Nat.beq j 104) 104 (cond (Nat.beq j 60) 4 (106)))))))) (krC (ρ:=fun j=>cond (Nat.beq j 105) 105 (cond (Nat.beq j 104) 104 (cond (Nat.beq j 60) 4 (106)))) (k:=60) x8 (krN (ρ:=fun j=>cond (Nat.beq j 105) 105 (cond (Nat.beq j 104) 104 (cond (Nat.beq j 60) 4 (106)))))) ⟨⟨rfl,x6⟩,trivial⟩ rfl) qB qC qA ?_;refine A4 ?_;exact xg0 LentC.mk' rfl rfl Imp.refl qA rfl ⟨⟨rfl,x6⟩,trivial⟩ rfl
theorem yz8 (T:List Fa) (hl:T.length<=1000000):
  Ct Tryz.prog 46 [tL 11 true tFa T] (tL 1 false tI (bdF T)):=by
 refine Ct.intro func46 rfl ntmps46 rfl ?_;intro w F;refine xg9 (s:=0) rfl (fun hl0=> ?_);refine A7 ?_;refine RE (xg1 (k:=3) 3 1 false rfl (fun _=>rfl)) trivial trivial qA ?_;refine A11 ?_;refine cL (fun (i:Nat)=>i<=T.length) (fun (i:Nat)=>uV (uV (uV (uO uN 3 (.sl 3 1 0 (edF (T.take i)).length)) 6 (tL 11 true tFa T)) 7 (tI T.length)) 8 (tI i)) (fun (i:Nat)=>uK uN 3 3 1 false (rV tI (edF (T.take i)))) [3] (fun (i:Nat)=>T.length - i) (0) (zbt _) ?_;intro i hI;have hnx:=fun hh=>jw4 (T:=T) (i:=i) hh;have hxl:(edF (T.take i)).length<=2*i:=by rw [qj7,zcu];omega
 refine A6 ?_;refine x9 rfl (fun h93=> ?_) (fun h93=> ?_)
 ·
  refine A6 ?_;refine R2 (x5 sl33 (i) (by omega) (zai (l:=T) (n:=i) (d:=fa0))) rfl rfl ?_;refine A1 ?_;refine RE (xb8 (k:=5) (n:=11) (agg:=true) zr30.1 zr30.2 rfl) trivial trivial qA ?_;refine A9 ?_;refine R2 (xc2 (n:=2) (f:=fun n:Int=>tI n) [(T.getD i fa0).lo,(T.getD i fa0).hi] zgq el3 zf3 rfl (fun _=>inferInstance) rfl rfl rfl) rfl rfl (RE (xb3 (k:=3) (k':=18) (f:=fun n:Int=>tI n) (ys:=[(T.getD i fa0).lo,(T.getD i fa0).hi]) (ts':=rV tI ((edF (T.take i))++[(T.getD i fa0).lo,(T.getD i fa0).hi])) zgq el3 zf3 rfl rfl (fun _=>inferInstance) xc0 (by simp;omega) (by simp;omega) (by simp [rV]) (n':=(edF (T.take i)).length+2) rfl) qB qA qA ?_);refine A8 ?_;have hnx:=hnx (by omega);exact xe3 (l:=[3]) (zab 3 18) (i+1) ⟨(by omega),(by omega)⟩ (zaf rfl (zaf rfl (zas rfl ((zbc rfl (zaw (by rw [hnx,zbm];rfl))) zbd)))) ((zbb rfl (zat (by rw [hnx];exact x8.symm))) zbe) (zaj (zaj (zaj (zak rfl zar)))) (zam rfl (supJ x6) zaz) (lkOk rfl) rfl rfl (fun _ h=>by cases h)
 ·
  refine A8 ?_;refine RE (xb7 (fun _=>3) (qh6 (edF (T.take i)) (by omega)) fi79 rfl (krC (ρ:=fun _=>3) (k:=1) x8 (krN (ρ:=fun _=>3))) (krC (ρ:=fun _=>3) (k:=1) x8 (krN (ρ:=fun _=>3))) ⟨⟨rfl,x6⟩,trivial⟩ rfl) qA qA trivial ?_;refine A3 ?_;have hsl:=yv8 (edF (T.take i));refine A2 ?_;refine RE (xb7 (fun _=>3) (zc2 (edF (T.take i))) fi80 rfl (krC (ρ:=fun _=>3) (k:=1) x8 (krN (ρ:=fun _=>3))) (krC (ρ:=fun _=>3) (k:=1) x8 (krN (ρ:=fun _=>3))) ⟨⟨rfl,x6⟩,trivial⟩ rfl) qA qA trivial (RE (ym3 (f:=tI) (xs:=brd (edF (T.take i))) (fun _ h=>h) (xe9 rfl) rfl) qA qA trivial ?_);refine A3 ?_;exact E1 rfl rfl (Le.of (by rw [show i=T.length by omega,zcf];rfl))
theorem c_SI1 (ds:List Int) (x:Int) (i:Nat) (hi:i < ds.length):
  CtG Tryz.prog 137 [(2,⟨35,1,false,[.val (tL 1 false tI ds)]⟩),(3,⟨3,1,false,[.val (tI x)]⟩)] [.val (tI i),.own (.ptr 2 0),.own (.ptr 3 0)] (.val (tB (decide (x<=ds.getD i 0)))) [(2,⟨35,1,false,[.val (tL 1 false tI ds)]⟩),(3,⟨3,1,false,[.val (tI x)]⟩)] []:=by
 refine CtG.intro [2,3] func137 rfl ntmps137 rfl rfl ⟨⟨rfl,(SupX.lit rfl)⟩,⟨rfl,(SupX.lit rfl)⟩,trivial⟩ ?_;intro w F η;refine A9 ?_;refine R2 (x5 sl35 (i) (by omega) (zai (l:=ds) (n:=i) (d:=0))) rfl rfl ?_;refine A7 ?_;exact xg0 LentC.mk' rfl rfl Imp.refl qB rfl ⟨⟨rfl,(SupX.lit rfl)⟩,⟨rfl,(SupX.lit rfl)⟩,trivial⟩ rfl
theorem pw_le {ds:List Int} (h:ds.Pairwise (· < ·)) {i j:Nat} (hij:i<=j) (hj:j < ds.length):ds.getD i 0<=ds.getD j 0:=by
 rcases zcb i j with h1 | h1
 ·exact Int.le_of_lt (ys6 h h1 hj)
 ·rw [show i=j by omega];exact zea _
theorem jg7 (ds:List Int) (x:Int) (hpw:ds.Pairwise (· < ·)) (hdl:ds.length<=2000000):
  CtG Tryz.prog 136 [(2,⟨35,1,false,[.val (tL 1 false tI ds)]⟩),(3,⟨3,1,false,[.val (tI x)]⟩)] [.val (tI ds.length),.own (.fn 137 [.ptr 2 0,.ptr 3 0])] (.val (tI (ixD ds x))) [(2,⟨35,1,false,[.val (tL 1 false tI ds)]⟩),(3,⟨3,1,false,[.val (tI x)]⟩)] []:=by
 refine CtG.intro [2,3] func136 rfl ntmps136 rfl rfl ⟨⟨rfl,(SupX.lit rfl)⟩,⟨rfl,(SupX.lit rfl)⟩,trivial⟩ ?_;intro w F η;refine A14 ?_;refine cL (fun (fm:(Nat)×(Nat))=>(fun (p:Nat) (q:Nat)=>p<=q/\q<=ds.length/\(∀i,i < p->ds.getD i 0 < x)/\ ∀i,q<=i->i < ds.length->x<=ds.getD i 0) fm.1 fm.2) (wB fun (p:Nat) (q:Nat)=>uV (uV (uO uN 1 (.fn 137 [.ptr 2 0,.ptr 3 0])) 5 (tI p)) 6 (tI q)) (wB fun (p:Nat) (q:Nat)=>uK (uK uN 2 35 1 false [.val (tL 1 false tI ds)]) 3 3 1 false [.val (tI x)]) [2,3] (fun (fm:(Nat)×(Nat))=>(fun (p:Nat) (q:Nat)=>q - p) fm.1 fm.2) ((0,ds.length)) (by dsimp only;exact ⟨zbt _,zbq _,fun i hi=>by omega,fun i hi hi2=>by omega⟩) ?_;intro fm hI;obtain ⟨p,q⟩:=fm;replace hI:p<=q/\q<=ds.length/\(∀i,i < p->ds.getD i 0 < x)/\ ∀i,q<=i->i < ds.length->x<=ds.getD i 0:=hI;show wc _ _ _ _ (uV (uV (uO uN 1 (.fn 137 [.ptr 2 0,.ptr 3 0])) 5 (tI p)) 6 (tI q)) (uK (uK uN 2 35 1 false [.val (tL 1 false tI ds)]) 3 3 1 false [.val (tI x)]) _;obtain ⟨hp,hq,h1,h2⟩:=hI;refine A8 ?_;refine x9 rfl (fun h62=> ?_) (fun h62=> ?_)
 ·
  refine A8 ?_;refine R1 (xa8 zgt (isS zgo) (by first | exact wu64 (by omega) (by omega) | exact mu64)) rfl (R2 (ya2 (r:=((((p+q) / 2):Nat):Int)) (by decide) ((shrN (s:=1) rfl (by decide)).trans (by simp))) rfl rfl (R1 (xa8 zgo (isS zgt) zah) rfl ?_));refine A7 ?_;refine RE (jq9 (ps:=[.val (tI _)]) (caps:=[.ptr 2 0,.ptr 3 0]) (fun j=>cond (Nat.beq j 2) 2 (3)) (c_SI1 ds x ((p+q) / 2) (by omega)) fi137 rfl (krC (ρ:=fun j=>cond (Nat.beq j 2) 2 (3)) (k:=2) rfl (krC (ρ:=fun j=>cond (Nat.beq j 2) 2 (3)) (k:=3) rfl (krN (ρ:=fun j=>cond (Nat.beq j 2) 2 (3))))) (krC (ρ:=fun j=>cond (Nat.beq j 2) 2 (3)) (k:=2) rfl (krC (ρ:=fun j=>cond (Nat.beq j 2) 2 (3)) (k:=3) rfl (krN (ρ:=fun j=>cond (Nat.beq j 2) 2 (3))))) ⟨⟨rfl,(SupX.lit rfl)⟩,⟨rfl,(SupX.lit rfl)⟩,trivial⟩ rfl) qB qB trivial ?_;refine A3 ?_;refine yq7 rfl (fun h65=> ?_) (fun h65=> ?_)
  ·
   refine A6 ?_;exact kF ((((p+q) / 2)+1,q)) ⟨(by dsimp only;exact ⟨by omega,hq,fun i hi=>by have:=pw_le hpw (show i<=((p+q) / 2) by omega) (by omega);omega,h2⟩),(by dsimp only;omega)⟩
  ·
   refine A5 ?_;exact kF ((p,((p+q) / 2))) ⟨(by dsimp only;exact ⟨by omega,by omega,h1,fun i hi hi2=>by have:=pw_le hpw hi hi2;omega⟩),(by dsimp only;omega)⟩
 ·
  refine A12 ?_;exact xg0 LentC.mk' rfl rfl (Imp.int (congrArg Int.ofNat (je8 (n:=ds.length) (f:=fun i=>decide (x<=ds.getD i 0)) (by omega) (fun i hi=>zbg (by have:=h1 i hi;omega)) (fun hp2=>zbf (h2 p (by omega) hp2))).symm)) qB rfl ⟨⟨rfl,(SupX.lit rfl)⟩,⟨rfl,(SupX.lit rfl)⟩,trivial⟩ rfl
theorem ym1 (ds:List Int) (x:Int) (hpw:ds.Pairwise (· < ·)) (hdl:ds.length<=2000000):
  Ct Tryz.prog 83 [tL 1 false tI ds,tI x] (tI (ixD ds x)):=by
 refine Ct.intro func83 rfl ntmps83 rfl ?_;intro w F;refine A11 ?_;refine R2 (xt6 (ps:=[.ptr 2 0,.ptr 3 0]) rfl) rfl rfl (RE (xb7 (fun j=>cond (Nat.beq j 2) 2 (3)) (jg7 ds x hpw hdl) fi136 rfl (krC (ρ:=fun j=>cond (Nat.beq j 2) 2 (3)) (k:=2) rfl (krC (ρ:=fun j=>cond (Nat.beq j 2) 2 (3)) (k:=3) rfl (krN (ρ:=fun j=>cond (Nat.beq j 2) 2 (3))))) (krC (ρ:=fun j=>cond (Nat.beq j 2) 2 (3)) (k:=2) rfl (krC (ρ:=fun j=>cond (Nat.beq j 2) 2 (3)) (k:=3) rfl (krN (ρ:=fun j=>cond (Nat.beq j 2) 2 (3))))) ⟨⟨rfl,(SupX.lit rfl)⟩,⟨rfl,(SupX.lit rfl)⟩,trivial⟩ rfl) qB qB trivial ?_);refine A4 ?_;exact E1 rfl rfl zao
theorem qn3 (ds:List Int) (f:Fa) (hpw:ds.Pairwise (· < ·)) (hdl:ds.length<=2000000):
  Ct Tryz.prog 49 [tL 1 false tI ds,tFa f] (tT [tI (ixD ds f.lo),tI (ixD ds f.hi)]):=by
 refine Ct.intro func49 rfl ntmps49 rfl ?_;intro w F;refine A12 ?_;refine R2 (x4 (ym1 ds f.lo hpw hdl) fi83 rfl) rfl rfl ?_;refine A3 ?_;refine R2 (x4 (ym1 ds f.hi hpw hdl) fi83 rfl) rfl rfl ?_;refine A5 ?_;exact E2 rfl rfl rfl zao zao
end An.S
namespace An
open Go
def VP.ent:VP->Ent
 | .ty u=> .val u
 | p=> .own p
theorem VP.ent_sat {F:Dom} {w:World} {η:Env} {v:Value}: ∀{p:VP},p.sat F w η v->p.ent.sat F w η v
 | .ty _,h=>by simp only [VP.sat] at h;exact h
 | .ptr ..,h=>h
 | .sl ..,h=>h
 | .fn ..,h=>h
 | .st ..,h=>h
 | .tup ..,h=>h
theorem VP.ent_supp: ∀{p:VP},∀k∈p.ent.supp,k∈p.supp
 | .ty _,_,h=>by simp only [VP.ent,Ent.supp] at h;cases h
 | .ptr ..,_,h=>h
 | .sl ..,_,h=>h
 | .fn ..,_,h=>h
 | .st ..,_,h=>h
 | .tup ..,_,h=>h
theorem VP.sats_get {F:Dom} {w:World} {η:Env}: ∀{ps:List VP} {vs:List Value} {i:Nat} {p:VP},VP.sats F w η ps vs->ps[i]? =some p-> ∃v,vs[i]? =some v/\p.sat F w η v
 | p::r,v::s,0,q,h,hi=>by
  simp only [VP.sats] at h;cases hi;exact ⟨v,rfl,h.1⟩
 | p::r,v::s,i+1,q,h,hi=>by
  simp only [VP.sats] at h;exact VP.sats_get (i:=i) h.2 hi
 | p::r,[],_,_,h,_=>by simp only [VP.sats] at h
 | [],_,_,_,_,hi=>by cases hi
theorem VP.supps_get: ∀{ps:List VP} {i:Nat} {p:VP},ps[i]? =some p-> ∀k∈p.supp,k∈VP.supps ps
 | p::r,0,q,hi,k,hk=>by
  cases hi;simp only [VP.supps,zbp];exact .inl hk
 | p::r,i+1,q,hi,k,hk=>by
  simp only [VP.supps,zbp];exact .inr (VP.supps_get (i:=i) hi k hk)
 | [],_,_,hi,_,_=>by cases hi
section
variable {P:Program} {c:Base} {g:Slots} {h:Keys} {al:Names} {d ty:Nat} {pos:String} {af:Array Edge} {gd:Option (Nat×Bool)}
theorem ya5 {x:Operand} {fs:List VP} {i:Nat} {p:VP} (hi:fs[i]? =some p):Does P c ⟨some d,.extract x i,ty,pos,af,gd⟩ ⟨[(x,.own (.tup fs))],[],some (d,some p.ent),[],[]⟩:=
 Does.value rfl fun g h al a w η hrd _ s=>by
  obtain ⟨h0,h1⟩:=xa2 s hrd.1;have h0:VP.sat (c.dom h η) w η (.tup fs) (a.eval x):=h0;simp only [VP.sat] at h0;obtain ⟨vs,e1,e2⟩:=h0;obtain ⟨v,h3,h4⟩:=VP.sats_get e2 hi;refine ⟨v,w,by simp only [execOp,e1];simp [Instr.extract,h3,go_sem],Ext.refl w,VP.ent_sat h4,fun k hk=>h1 k ?_⟩;simp only [Ent.supp,VP.supp];exact VP.supps_get hi k (VP.ent_supp k hk)
theorem qm2 {fn:Func} {w0:World} {F:Dom} {η0:Env} {l0:List Nat} {H H':List (Nat×HEnt)} {nn:List Nat} {t u:Nat} {e1 e2 r1 r2:Ent} (hp:LentC c w0 F η0 l0 H) (hr:fn.results= #[.tmp t,.tmp u]) (hx:g t=some e1) (hy:g u=some e2) (i1:Imp e1 r1) (i2:Imp e2 r2) (hk:Kr h H') (hs:subN (Ent.own (.tup [r1.vp,r2.vp])).supp (nn++l0)=true) (hsH:SupHs H' (nn++l0)) (hd:(nn.all fun k=> !memN k l0)=true):
  wk c .ret (PostG P w0 F η0 fn H (.own (.tup [r1.vp,r2.vp])) H' nn) g h al:=
 zu3 (.inl rfl) hp hk hs hsH hd fun c' a w η _ s=>by
  have h1:(([ResultVar.tmp t,.tmp u]).mapM (readR a.tmps)).run P w= .ok [a.tmps.getD t undef,a.tmps.getD u undef] w:=by simp [readR]
  have:=ye7 (P:=P) (rs:=[.tmp t,.tmp u]) hr h1;rw [dif_neg (by simp)] at this;refine ⟨_,this,?_⟩;show VP.sat _ _ _ (.tup _) _;simp only [VP.sat];exact ⟨_,rfl,Ent.vp_sat.2 (i1 _ _ _ _ (s.slot t _ hx).2.2),Ent.vp_sat.2 (i2 _ _ _ _ (s.slot u _ hy).2.2),trivial⟩
end
section
variable {P:Program} {c:Base} {d ty:Nat} {pos:String} {af:Array Edge} {gd:Option (Nat×Bool)}
def ArgsR (k es len:Nat) (t0:Ty):List Ent->List Ty->Prop
 | [],[]=>True
 | e::r,t::s=>(e= .val t∨(e= .own (.sl k es 0 len)/\t=t0))/\ArgsR k es len t0 r s
 | _,_=>False
theorem ArgsR.all {g:Slots} {h:Keys} {al:Names} {a:Act} {w:World} {η:Env} {k T es len:Nat} {agg:Bool} {ts:List Ent} {α:Type} {f:α->Ty} {zs:List α} (st:St' c g h al a w η) (hk:h k=some ⟨T,es,agg,ts⟩) (hlb:NoLb c) (hts:(ts.drop 0).take len=zs.map fun x=> .val (f x)) (hl:zs.length=len):
  ∀{xs:List Operand} {es':List Ent} {us:List Ty},Rd g (xs.zip es')->xs.length=us.length->ArgsR k es len (tL es agg f zs) es' us->Tup.all (c.dom (upd h k none) η) w us (xs.map a.eval)
 | [],_,[],_,_,_=>trivial
 | x::xs,e::es',u::us,hr,hn,ha=>by
  refine ⟨?_,ArgsR.all st hk hlb hts hl hr.2 (by simpa using hn) ha.2⟩;rcases ha.1 with e1 | ⟨e1,e2⟩
  ·subst e1;exact (xa2 (st.drop k) hr.1).1
  ·subst e1;subst e2;exact st.give hk hlb hts hl (xa2 st hr.1).1
 | [],_,_::_,_,hn,_=>by simp at hn
 | _::_,_,[],_,hn,_=>by simp at hn
 | _::_,[],_::_,_,_,ha=>ha.elim
theorem yb3 {f:FuncId} {xs:List Operand} {aT:Array TypeId} {us:List Ty} {r:Ty} {α:Type} {ft:α->Ty} {zs:List α} {ts:List Ent} {agg:Bool} (k T es len:Nat) (ents:List Ent) (hsc: ∀F F' w v,r.p F w v->r.p F' w v) (hc:Ct P f us r) (hf:FnI P f) (hlb:NoLb c)
  (hts:(ts.drop 0).take len=zs.map fun x=> .val (ft x)) (hzl:zs.length=len) (ha:ArgsR k es len (tL es agg ft zs) ents us) (hl:xs.length=us.length):
  Does P c ⟨some d,.call {callee:= .value (.func f),args:=xs.toArray,argTypes:=aT},ty,pos,af,gd⟩ ⟨xs.zip ents,[(k,⟨T,es,agg,ts⟩)],some (d,some (.val r)),[],[]⟩:=by
 intro g h al a w hp ⟨η,st⟩;obtain ⟨fn,h1,h2,h3⟩:=hf;have hargs:=ArgsR.all st hp.kr.1 hlb hts hzl hp.rd hl ha;have hrun:(execOp a.eval ⟨some d,.call {callee:= .value (.func f),args:=xs.toArray,argTypes:=aT},ty,pos,af,gd⟩).run P w= .ok (.enter f (xs.map a.eval).toArray) w:=by
  simp only [execOp,resolve,Act.eval,Deferred.ofValue,zbu,zbx,zbn,invoke];simp only [zdu,zdj,zcs];exact xd1 h1 h2 h3 _ w
 refine xe6 hrun (zei (hc _ w (xs.map a.eval) hargs) ?_);rintro e w' ⟨v,rfl,hext,hr⟩;exact ⟨v,rfl,η,(st.ext hext).put (hp.d _ rfl) (e:= .val r) (hsc _ _ _ _ hr) (fun k hk=>by cases hk)⟩
end
def cP (a b:Nat):Nat:=2 ^ a*(2*b+1)
theorem yf0 {a b:Nat}:0 < cP a b:=Nat.mul_pos (zfs (by decide)) (by omega)
theorem yp5 {a b:Nat}:cP (a+1) b=2*cP a b:=by rw [cP,cP,zex,zem (2 ^ a) 2,zfu]
theorem yq9 {b:Nat}:cP 0 b=2*b+1:=by simp [cP]
theorem yg0: ∀{a b a' b':Nat},cP a b=cP a' b'->a=a'/\b=b'
 | 0,b,0,b',h=>by rw [yq9,yq9] at h;exact ⟨rfl,by omega⟩
 | a+1,b,a'+1,b',h=>by
  rw [yp5,yp5] at h;have:=yg0 (a:=a) (b:=b) (a':=a') (b':=b') (by omega);exact ⟨by omega,this.2⟩
 | 0,b,a'+1,b',h=>by rw [yq9,yp5] at h;omega
 | a+1,b,0,b',h=>by rw [yq9,yp5] at h;omega
def cLs:List Nat->Nat
 | []=>0
 | x::r=>cP x (cLs r)
theorem yr0: ∀{l m:List Nat},cLs l=cLs m->l=m
 | [],[],_=>rfl
 | [],y::s,h=>by simp only [cLs] at h;have:=yf0 (a:=y) (b:=cLs s);omega
 | x::r,[],h=>by simp only [cLs] at h;have:=yf0 (a:=x) (b:=cLs r);omega
 | x::r,y::s,h=>by
  simp only [cLs] at h;obtain ⟨h1,h2⟩:=yg0 h;rw [h1,yr0 h2]
theorem yv0 {α β:Type} {f:α->β} (hf: ∀x y,f x=f y->x=y): ∀{l m:List α},l.map f=m.map f->l=m
 | [],[],_=>rfl
 | [],_::_,h=>by cases h
 | _::_,[],h=>by cases h
 | x::r,y::s,h=>by
  simp only [zcy,List.cons.injEq] at h;rw [hf x y h.1,yv0 hf h.2]
structure MK (α β:Type) where
  fk:α->Value
  fv:β->Value
  ca:α->Nat
  cb:β->Nat
  ja: ∀x y,ca x=ca y->x=y
  jb: ∀x y,cb x=cb y->x=y
structure MS (α β:Type) where
  b:Nat
  l:List (α×β)
  it:Option (Nat×List Nat)
variable {α β:Type}
def MK.ents (M:MK α β):Nat->List (α×β)->List MapEntry
 | _,[]=>[]
 | i,p::r=>⟨M.fk p.1,M.fv p.2,i⟩::M.ents (i+1) r
def MK.obj (M:MK α β) (l:List (α×β)):Obj:= .map (M.ents 0 l).toArray l.length
def MK.c2 (M:MK α β) (p:α×β):Nat:=cP (M.ca p.1) (M.cb p.2)
theorem MK.c2_inj (M:MK α β) (x y:α×β) (h:M.c2 x=M.c2 y):x=y:=by
 obtain ⟨h1,h2⟩:=yg0 h;exact Prod.ext (M.ja _ _ h1) (M.jb _ _ h2)
def cIt:Option (Nat×List Nat)->Nat
 | none=>0
 | some (r,q)=>cP r (cLs q)
theorem wi7: ∀{x y:Option (Nat×List Nat)},cIt x=cIt y->x=y
 | none,none,_=>rfl
 | none,some (r,q),h=>by simp only [cIt] at h;have:=yf0 (a:=r) (b:=cLs q);omega
 | some (r,q),none,h=>by simp only [cIt] at h;have:=yf0 (a:=r) (b:=cLs q);omega
 | some (r,q),some (r',q'),h=>by
  obtain ⟨h1,h2⟩:=yg0 h;rw [h1,yr0 h2]
def MK.code (M:MK α β):Option (MS α β)->Nat
 | none=>0
 | some s=>cP s.b (cP (cLs (s.l.map M.c2)) (cIt s.it))
theorem MK.code_inj (M:MK α β): ∀{x y:Option (MS α β)},M.code x=M.code y->x=y
 | none,none,_=>rfl
 | none,some s,h=>by simp only [MK.code] at h;have:=yf0 (a:=s.b) (b:=cP (cLs (s.l.map M.c2)) (cIt s.it));omega
 | some s,none,h=>by simp only [MK.code] at h;have:=yf0 (a:=s.b) (b:=cP (cLs (s.l.map M.c2)) (cIt s.it));omega
 | some ⟨b,l,t⟩,some ⟨b',l',t'⟩,h=>by
  obtain ⟨h1,h2⟩:=yg0 h;obtain ⟨h3,h4⟩:=yg0 h2;have h1:b=b':=h1;have h3:l=l':=yv0 M.c2_inj (yr0 h3);have h4:t=t':=wi7 h4;rw [h1,h3,h4]
def MK.at (M:MK α β):Option (MS α β)->Dom->Dom->World->Prop
 | none,_,_,_=>True
 | some s,O,V,w=>(w.heap[s.b]? =some (M.obj s.l)/\V s.b/\ ¬O s.b)/\ ∀r q,s.it=some (r,q)->w.heap[r]? =some (.mapIter (some s.b) s.l.length q.toArray s.l.length)/\V r/\ ¬O r/\r≠s.b
def MK.J (M:MK α β) (n:Nat) (O V:Dom) (w:World):Prop:= ∃s,M.code s=n/\M.at s O V w
theorem MK.J_at (M:MK α β) {s:Option (MS α β)} {O V:Dom} {w:World}:M.J (M.code s) O V w↔M.at s O V w:=by
 constructor
 ·rintro ⟨t,h1,h2⟩;rw [<-M.code_inj h1];exact h2
 ·exact fun h=>⟨s,rfl,h⟩
theorem MK.Jc (M:MK α β):JcOf M.J:=by
 rintro n O O' V w w' ⟨s,h1,h2⟩ hs hO;refine ⟨s,h1,?_⟩;cases s with
 | none=>trivial
 | some s=>
  obtain ⟨⟨h3,h4,h5⟩,h6⟩:=h2;have key: ∀b,b < w.heap.size-> ¬O b-> ¬O' b:=fun b hb h h'=>by
   rcases (hO b h').2 with h7 | h7
   ·exact h h7
   ·omega
  refine ⟨⟨(hs.block _ (xa7 h3) h5).trans h3,h4,key _ (xa7 h3) h5⟩,fun r q hr=> ?_⟩;obtain ⟨h7,h8,h9,h10⟩:=h6 r q hr;exact ⟨(hs.block _ (xa7 h7) h9).trans h7,h8,key _ (xa7 h7) h9,h10⟩
structure MB (M:MK α β) (c:Base) (K:Nat):Prop where
  yk:c.yk=some K
  ln:K∈c.ln
  c0:c.lη.c K=0
  ro:c.ro=none
  J:c.J=M.J
def Base.maps (N:Nat) (w:World) (F:Dom) (K:Nat) (M:MK α β):Base:=⟨N,w,F,[K],⟨fun _=>0,fun _=>0,fun _=>False⟩,fun _=>False,none,[],[],fun _=>False,some K,fun _=>False,M.J,M.Jc⟩
theorem MB.mk' {M:MK α β} {N K:Nat} {w:World} {F:Dom}:MB M (Base.maps N w F K M) K:=⟨rfl,by simp [Base.maps],rfl,rfl,rfl⟩
theorem Plain.maps {M:MK α β} {N K:Nat} {w:World} {F:Dom}:Plain (Base.maps N w F K M) w F:=⟨rfl,rfl,fun _ h=>h,fun _ h=>h,trivial⟩
section
variable {P:Program} {c:Base} {g:Slots} {h:Keys} {al:Names} {Q:Exit->Act->World->Prop} {M:MK α β} {K:Nat}
theorem jt0 {A:Array Oper} {rest:List Oper} {o:Oper} {d:Nat} {s:Option (MS α β)} {ι:Type} (p:ι->Prop) (t:ι->Ty) (s':ι->Option (MS α β)) (hB:MB M c K) (hdst:o.dst=some d)
  (hw: ∀a w η,St' c g h al a w η->Region.wanted o (yielded A a.tmps)=true) (hdN:Nat.blt d c.N=true) (hK:h K=some ⟨M.code s,1,false,[]⟩)
  (hrun: ∀a w η,St' c g h al a w η->M.at s (c.chg h η) η.vo w-> ∃i v w' V',(execOp a.eval o).run P w= .ok (.value v) w'/\Kept η.vo V' w w'/\M.at (s' i) (c.chg h η) V' w'/\(∀F,(t i).p F w' v)/\p i)
  (H: ∀i,p i->wl P c A Q rest (upd g d (some (.val (t i)))) (upd h K (some ⟨M.code (s' i),1,false,[]⟩)) al):wl P c A Q (o::rest) g h al:=fun a w ⟨η,st⟩=>by
 unfold wpListIn;rw [if_pos (hw a w η st)];have hj:=st.jj K _ hB.yk hK;rw [hB.J] at hj;obtain ⟨i,v,w',V',h1,h2,h3,h4,h5⟩:=hrun a w η st (M.J_at.1 hj);refine xd0 h1 ?_;have s2:=st.fed hB.yk hB.ln hB.c0 hK h2 (m:=M.code (s' i)) (by rw [hB.J];exact M.J_at.2 h3);rw [hdst];exact H i h5 _ _ ⟨_,s2.put (by simpa using hdN) (e:= .val (t i)) (h4 _) fun k hk=>by cases hk⟩
theorem jd9 {A:Array Oper} {rest:List Oper} {o:Oper} {s:Option (MS α β)} (s':Option (MS α β)) (hB:MB M c K) (hdst:o.dst=none)
  (hw: ∀a w η,St' c g h al a w η->Region.wanted o (yielded A a.tmps)=true) (hK:h K=some ⟨M.code s,1,false,[]⟩)
  (hrun: ∀a w η,St' c g h al a w η->M.at s (c.chg h η) η.vo w-> ∃w' V',(execOp a.eval o).run P w= .ok .skip w'/\Kept η.vo V' w w'/\M.at s' (c.chg h η) V' w')
  (H:wl P c A Q rest g (upd h K (some ⟨M.code s',1,false,[]⟩)) al):wl P c A Q (o::rest) g h al:=fun a w ⟨η,st⟩=>by
 unfold wpListIn;rw [if_pos (hw a w η st)];have hj:=st.jj K _ hB.yk hK;rw [hB.J] at hj;obtain ⟨w',V',h1,h2,h3⟩:=hrun a w η st (M.J_at.1 hj);refine ye4 h1 ?_;have s2:=st.fed hB.yk hB.ln hB.c0 hK h2 (m:=M.code s') (by rw [hB.J];exact M.J_at.2 h3);rw [hdst];exact H _ _ ⟨_,s2⟩
end
variable {α β:Type} {M:MK α β}
theorem MK.ents_len (M:MK α β): ∀(l:List (α×β)) (i:Nat),(M.ents i l).length=l.length
 | [],_=>rfl
 | _::r,i=>by rw [MK.ents,zdb,M.ents_len r];rfl
theorem MK.ents_get (M:MK α β): ∀(l:List (α×β)) (i j:Nat),(M.ents i l)[j]? =l[j]?.map fun p=>⟨M.fk p.1,M.fv p.2,i+j⟩
 | [],_,_=>by simp [MK.ents]
 | p::r,i,0=>by simp [MK.ents]
 | p::r,i,j+1=>by
  rw [MK.ents,List.getElem?_cons_succ,List.getElem?_cons_succ,M.ents_get r (i+1) j,show i+1+j=i+(j+1) by omega]
theorem MK.ents_mem {l:List (α×β)} {e:MapEntry} (he:e∈M.ents 0 l): ∃i p,l[i]? =some p/\e=⟨M.fk p.1,M.fv p.2,i⟩:=by
 obtain ⟨i,hi⟩:=zeb he;rw [M.ents_get] at hi;cases hp:l[i]? with
 | none=>rw [hp] at hi;cases hi
 | some p=>rw [hp] at hi;simp at hi;exact ⟨i,p,hp,hi.symm⟩
theorem MK.ents_born (M:MK α β): ∀(l:List (α×β)) (i:Nat),(M.ents i l).map (·.born)=List.range' i l.length
 | [],_=>rfl
 | _::r,i=>by rw [MK.ents,zcy,M.ents_born r,zdb,List.range'_succ]
theorem MK.ents_nodup {l:List (α×β)}:((M.ents 0 l).map (·.born)).Nodup:=by rw [M.ents_born];exact List.nodup_range'
theorem MK.ents_lt {l:List (α×β)} {e:MapEntry} (he:e∈M.ents 0 l):e.born < l.length:=by
 obtain ⟨i,p,h1,rfl⟩:=MK.ents_mem he;exact (zbo.1 h1).1
section
variable [DecidableEq α]
def getI (a:α):Nat->List (α×β)->Option (Nat×β)
 | _,[]=>none
 | i,p::r=>if a=p.1 then some (i,p.2) else getI a (i+1) r
theorem zk0 {a:α}: ∀{l:List (α×β)} {i j:Nat} {v:β},getI a i l=some (j,v)->i<=j/\l[j - i]? =some (a,v)
 | [],_,_,_,h=>by cases h
 | p::r,i,j,v,h=>by
  rw [getI] at h;split at h
  ·rename_i e;cases h;exact ⟨zbq _,by simp [e]⟩
  ·obtain ⟨h1,h2⟩:=zk0 h;refine ⟨by omega,?_⟩;rw [show j - i=(j - (i+1))+1 by omega,List.getElem?_cons_succ];exact h2
def getM (l:List (α×β)) (a:α):Option β:=(getI a 0 l).map (·.2)
def entV (z:β) (l:List (α×β)) (a:α):β:=((getI a 0 l).map (·.2)).getD z
def putM (l:List (α×β)) (a:α) (v:β):List (α×β):=match getI a 0 l with
 | some (i,_)=>l.set i (a,v)
 | none=>l++[(a,v)]
theorem yk7 {d:TypeDesc} (hs: ∀x y,Instr.sameNow d (M.fk x) (M.fk y)=some (decide (x=y))) (a:α): ∀(l:List (α×β)) (i:Nat),Instr.findNow d (M.fk a) (M.ents i l) i=some ((getI a i l).map fun x=>(x.1,M.fv x.2))
 | [],_=>rfl
 | p::r,i=>by
  rw [MK.ents,Instr.findNow,getI];by_cases h:a=p.1
  ·simp [hs,h]
  ·simp [hs,h,yk7 hs a r (i+1)]
end
structure MapF [DecidableEq α] (P:Program) (t:TypeId) (M:MK α β) (z:β):Prop where
  und: ∃kt e d,P.underlying t=some (.map kt e)/\P.underlying kt=some d/\(∀x y,Instr.sameNow d (M.fk x) (M.fk y)=some (decide (x=y)))/\(∀x,MapKept.IsKey d (M.fk x))/\(∀x,Instr.sameBits 10000 (M.fk x) (M.fk x)=true)/\ ∀w,(zeroValue e).run P w= .ok (M.fv z) w
section
variable {P:Program} {w:World} {b:Nat} {l:List (α×β)} [DecidableEq α] {t:TypeId} {z:β}
theorem ys8 (hf:MapF P t M z) (hb:w.heap[b]? =some (M.obj l)) (a:α):(Instr.lookup t (.map (some b)) (M.fk a) false).run P w= .ok (M.fv ((getM l a).getD z)) w:=by
 obtain ⟨kt,e,d,ht,hd,hs,hk,hy,hz⟩:=hf.und;have h1:=MapKept.run_findKey (w:=w) hd (yk7 hs a l 0);have h2:=fun em=>MapKept.run_checkKey (w:=w) hd (hk a) em 9999;have hb':w.heap[b]? =some (.map (M.ents 0 l).toArray l.length):=hb;cases hg:getI a 0 l with
 | none=>simp [hg] at h1;simp [Instr.lookup,run_underlying ht,MapKept.run_getObj_map hb',h2,h1,hz,Result.andThen,getM,hg]
 | some x=>simp [hg] at h1;simp [Instr.lookup,run_underlying ht,MapKept.run_getObj_map hb',h2,h1,Result.andThen,getM,hg]
omit [DecidableEq α] in
theorem jj1 {p:α×β}:(M.ents 0 l).toArray.push ⟨M.fk p.1,M.fv p.2,l.length⟩=(M.ents 0 (l++[p])).toArray:=by
 apply Array.ext';rw [Array.toList_push];apply zfc;intro i;rw [M.ents_get];rcases Nat.lt_trichotomy i l.length with h | h | h
 ·rw [zct (by rw [M.ents_len];exact h),zct h,M.ents_get]
 ·subst h;rw [zcr (by rw [M.ents_len];exact zbq _),zcr (zbq _),M.ents_len];simp
 ·rw [zcr (by rw [M.ents_len];omega),zcr (by omega),M.ents_len,zcv (by simp;omega),zcv (by simp;omega)];rfl
omit [DecidableEq α] in
theorem jv3 {i:Nat} {p:α×β} {f:MapEntry->MapEntry} (hf: ∀q,l[i]? =some q->f ⟨M.fk q.1,M.fv q.2,i⟩=⟨M.fk p.1,M.fv p.2,i⟩):(M.ents 0 l).modify i f=M.ents 0 (l.set i p):=by
 apply zfc;intro j;rw [M.ents_get,List.getElem?_modify,zfk,M.ents_get];by_cases h:i=j
 ·subst h;cases hq:l[i]? with
  | none=>
   have:l.length<=i:=List.getElem?_eq_none_iff.1 hq;simp;omega
  | some q=>
   have:=(zbo.1 hq).1;simp [hf q hq,this]
 ·simp [h]
end
section
variable {P:Program} {w:World} {b:Nat} {l:List (α×β)} {t:TypeId}
end
section
variable {P:Program} {w:World} {b:Nat} {l:List (α×β)} [DecidableEq α] {t:TypeId} {z:β}
theorem qe5 (hf:MapF P t M z) (hb:w.heap[b]? =some (M.obj l)) (a:α) (v:β):(Instr.mapUpdate t (.map (some b)) (M.fk a) (M.fv v)).run P w= .ok () (ChangeMaps.setBlock w b (M.obj (putM l a v))):=by
 obtain ⟨kt,e,d,ht,hd,hs,hk,hy,hz⟩:=hf.und;have h1:=MapKept.run_findKey (w:=w) hd (yk7 hs a l 0);have h2:=fun em=>MapKept.run_checkKey (w:=w) hd (hk a) em 9999;have hb':w.heap[b]? =some (.map (M.ents 0 l).toArray l.length):=hb;have hset:=fun o=>MapKept.run_setObj_map (P:=P) o hb';cases hg:getI a 0 l with
 | none=>
  simp [hg] at h1;have hp:=jj1 (M:=M) (l:=l) (p:=(a,v));simp [Instr.mapUpdate,run_underlying ht,MapKept.run_getObj_map hb',h2,h1,hset,Result.andThen,putM,hg,ChangeMaps.setBlock,MK.obj];rw [<-hp];simp
 | some x=>
  obtain ⟨i,u⟩:=x;have hi:=(zk0 hg).2;simp only [Nat.sub_zero] at hi;simp [hg] at h1;have he:(M.ents 0 l)[i]? =some ⟨M.fk a,M.fv u,i⟩:=by rw [M.ents_get,hi];simp
  have hm:=jv3 (M:=M) (l:=l) (i:=i) (p:=(a,v)) (f:=fun e=>{e with key:=M.fk a,val:=M.fv v}) (fun q hq=>by rfl);simp [Instr.mapUpdate,run_underlying ht,MapKept.run_getObj_map hb',h2,h1,he,Instr.keyThatStays,hy,hset,Result.andThen,putM,hg,ChangeMaps.setBlock,MK.obj,hm]
end
theorem jz8 {V:Dom} {w:World} {b:Nat} {o:Obj} (hV:V b):Stp V w (ChangeMaps.setBlock w b o):=⟨rfl,rfl,rfl,by simp [ChangeMaps.setBlock],fun x _ hx=>by
 show (w.heap.setIfInBounds b o)[x]? =_;rw [zee,if_neg (fun e=>hx (by rw [<-e];exact hV))]⟩
theorem yv4 {w:World} {b:Nat} {o o':Obj} (hb:w.heap[b]? =some o):(ChangeMaps.setBlock w b o').heap[b]? =some o':=(MapKept.heap_set hb).1
section
variable {P:Program} {c:Base} {g:Slots} {h:Keys} {al:Names} {Q:Exit->Act->World->Prop} {K:Nat} {A:Array Oper} {rest:List Oper} {d ty:Nat} {pos:String} {af:Array Edge} {gd:Option (Nat×Bool)} {t:TypeId} {b:Nat} {l:List (α×β)}
theorem jk6 {a:Act} {w w':World} {η:Env} (st:St' c g h al a w η) (hs:Stp η.vo w w'):Kept η.vo η.vo w w':=
 ⟨hs,fun _ h=>h,fun b hb=>⟨zce (st.fr.vnew b hb).1 hs.size,.inl hb⟩⟩
theorem jv2 {a:Act} {w:World} {η:Env} (o:Obj) (st:St' c g h al a w η):Kept η.vo (fun x=>η.vo x∨x=w.heap.size) w (w.alloc o):=
 ⟨⟨rfl,rfl,rfl,by simp,fun b hb _=>(MapKept.heap_alloc w o).2 b hb⟩,fun _ h=> .inl h,fun b hb=>by
  rcases hb with hb | rfl
  ·exact ⟨by have:=(st.fr.vnew b hb).1;simp;omega,.inl hb⟩
  ·exact ⟨by simp,.inr (zbq _)⟩⟩
theorem jo8 (hB:MB M c K) (hw: ∀a w η,St' c g h al a w η->Region.wanted ⟨some d,.makeMap t none,ty,pos,af,gd⟩ (yielded A a.tmps)=true) (hdN:Nat.blt d c.N=true) (hK:h K=some ⟨0,1,false,[]⟩)
  (H: ∀b,wl P c A Q rest (upd g d (some (.val (tE (.map (some b)))))) (upd h K (some ⟨M.code (some ⟨b,[],none⟩),1,false,[]⟩)) al):wl P c A Q (⟨some d,.makeMap t none,ty,pos,af,gd⟩::rest) g h al:=
 jt0 (s:=none) (fun _=>True) (fun b=>tE (.map (some b))) (fun b=>some ⟨b,[],none⟩) hB rfl hw hdN hK (fun a w η st _=>⟨w.heap.size,_,_,_,rfl,jv2 _ st,⟨⟨(MapKept.heap_alloc w _).1,.inr rfl,fun hO=>absurd (st.chg_lt hO) (Nat.lt_irrefl _)⟩,fun r q hr=>by cases hr⟩,fun _=>rfl,trivial⟩) fun b _=>H b
theorem zi4 [DecidableEq α] {z:β} {x y u:Operand} {a:α} {v:β} (hf:MapF P t M z) (hB:MB M c K) (hw: ∀a w η,St' c g h al a w η->Region.wanted ⟨none,.mapUpdate t x y u,ty,pos,af,gd⟩ (yielded A a.tmps)=true)
  (hx:look g x=some (.val (tE (.map (some b))))) (hy:look g y=some (.val (tE (M.fk a)))) (hu:look g u=some (.val (tE (M.fv v)))) (hK:h K=some ⟨M.code (some ⟨b,l,none⟩),1,false,[]⟩)
  (H:wl P c A Q rest g (upd h K (some ⟨M.code (some ⟨b,putM l a v,none⟩),1,false,[]⟩)) al):wl P c A Q (⟨none,.mapUpdate t x y u,ty,pos,af,gd⟩::rest) g h al:=
 jd9 (s:=some ⟨b,l,none⟩) (some ⟨b,putM l a v,none⟩) hB rfl hw hK (fun a' w η st hm=>by
  have e1:a'.eval x= .map (some b):=(xa2 st hx).1;have e2:a'.eval y=M.fk a:=(xa2 st hy).1;have e3:a'.eval u=M.fv v:=(xa2 st hu).1;obtain ⟨⟨h1,h2,h3⟩,_⟩:=hm;refine ⟨_,η.vo,?_,jk6 st (jz8 (b:=b) (o:=M.obj (putM l a v)) h2),⟨⟨yv4 h1,h2,h3⟩,fun r q hr=>by cases hr⟩⟩;simp only [execOp,e1,e2,e3,zbu,qe5 hf h1,Result.andThen];rfl) H
theorem ji9 [DecidableEq α] {z:β} {x y:Operand} (hf:MapF P t M z) (hB:MB M c K) (b:Nat) (l:List (α×β)) (a:α):
  Does P c ⟨some d,.lookup t x y false,ty,pos,af,gd⟩ ⟨[(x,.val (tE (.map (some b)))),(y,.val (tE (M.fk a)))],[(K,⟨M.code (some ⟨b,l,none⟩),1,false,[]⟩)],some (d,some (.val (tE (M.fv (entV z l a))))),[],[]⟩:=
 Does.value rfl fun g h al a' w η hrd hkr st=>by
  have e1:a'.eval x= .map (some b):=(xa2 st hrd.1).1;have e2:a'.eval y=M.fk a:=(xa2 st hrd.2.1).1;have hj:=st.jj K _ hB.yk hkr.1;rw [hB.J] at hj;have hj:M.J (M.code (some ⟨b,l,none⟩)) (c.chg h η) η.vo w:=hj;obtain ⟨⟨h1,_⟩,_⟩:=M.J_at.1 hj;refine ⟨_,w,?_,Ext.refl w,rfl,fun k hk=>by cases hk⟩;simp only [execOp,e1,e2,zbu,ys8 hf h1,Result.andThen];rfl
end
theorem Ct.introM {P:Program} {f:FuncId} {fn:Func} {x:Code} {N:Nat} {ts:List Ty} {r:Ty} (M:MK α β) (K:Nat) (hf:P.funcs[f]? =some fn) (hb:fn.body=some x) (hN:fn.ntmps=N) (hlb:Nat.ble ts.length N=true)
  (H: ∀w F,MB M (Base.maps N w F K M) K->wc P (Base.maps N w F K M) x (Post P w F fn r) (args 0 ts) (upd (fun _=>none) K (some ⟨0,1,false,[]⟩)) (nm [K])):Ct P f ts r:=by
 intro F w vs hvs;have hl:ts.length<=N:=zdo hlb;have hlen:vs.length=ts.length:=by
  clear H hlb hl
  induction ts generalizing vs with
  | nil=>cases vs with
   | nil=>rfl
   | cons=>exact hvs.elim
  | cons t r ih=>cases vs with
   | nil=>exact hvs.elim
   | cons v s=>simp [ih s hvs.2]
 have hkey: ∀k y,upd (fun _=>none) K (some (⟨0,1,false,[]⟩:HEnt)) k=some y->k=K/\y=⟨0,1,false,[]⟩:=fun k y hy=>by
  by_cases hk:k=K
  ·subst hk;rw [x7] at hy;cases hy;exact ⟨rfl,rfl⟩
  ·rw [x3 _ _ _ hk] at hy;cases hy
 have hK:memN K [K]=true:=xb2.2 (by simp);have hown: ∀b,¬Own (upd (fun _=>none) K (some (⟨0,1,false,[]⟩:HEnt))) ⟨fun _=>0,fun _=>0,fun _=>False⟩ b:=by
  rintro b ⟨k,y,_,hc,_⟩;exact absurd hc (Nat.lt_irrefl 0)
 refine xh6 hf hb (H w F MB.mk' _ w ⟨⟨fun _=>0,fun _=>0,fun _=>False⟩,?_⟩);refine ⟨?_,rfl,fun s e hs=> ?_,fun k x hx=> ?_,fun k k' x x' hx _ _ hc=>absurd hc (Nat.lt_irrefl 0),⟨rfl,rfl,rfl,zbq _,fun _ _ _ _=>rfl,fun _ hb=>hb,fun _ hb=>hb.elim⟩,fun k hk=> ?_,fun x hx=>(by cases hx),fun b hb=>hb.elim,fun k hk=> ?_,fun k x hk hx=> ?_,fun b hb=>hb.elim⟩
 ·simp [hlen,hN,Base.maps];omega
 ·obtain ⟨j,t,h1,h2,h3⟩:=ye2 ts 0 s e hs;subst h3;have hj:j < ts.length:=(zbo.1 h2).1;obtain ⟨v,hv,hp⟩:=Tup.get ts vs j t hvs h2;refine ⟨by show s < N;omega,fun k hk=>(by cases hk),?_⟩;have e1:(vs.toArray++Array.replicate (fn.ntmps - vs.toArray.size) undef).getD s undef=v:=by
   rw [zbk,zfh,if_pos (by simp;omega)];rw [h1,zcn,zer,hv];rfl
  show t.p _ w _;simp only [e1];exact t.mono hp fun b o hb hl _=>⟨⟨.inr ⟨hb,fun hv=>hv⟩,hown b,fun hv=>hv,fun hv=>hv⟩,hl⟩
 ·obtain ⟨rfl,rfl⟩:=hkey k x hx;exact ⟨hK,fun j hj=>(by cases hj),⟨by simp,by simp,fun _=>rfl,by simp,fun hc=>absurd hc (Nat.lt_irrefl 0)⟩,fun hc=>absurd hc (Nat.lt_irrefl 0)⟩
 ·have hk:k∈[K]:=hk;rw [zbj.1 hk];exact ⟨hK,rfl,rfl⟩
 ·have hk:some K=some k:=hk;cases hk;exact hK
 ·have hk:some K=some k:=hk;cases hk;rw [x7] at hx;cases hx;exact (M.J_at (s:=none)).2 trivial
abbrev MK.cd (M:MK α β) (b:Nat) (l:List (α×β)):Nat:=M.code (some ⟨b,l,none⟩)
variable {α β:Type}
def tMp (M:MK α β):Option (List (α×β))->Ty
 | none=>tE (.map none)
 | some l=>⟨fun F w v=> ∃b,v= .map (some b)/\F b/\w.heap[b]? =some (M.obj l),fun ⟨b,h1,h2,h3⟩ hk=>let h4:=hk b _ h2 h3 rfl;⟨b,h1,h4.1,h4.2⟩⟩
section
variable {P:Program} {c:Base} {d ty:Nat} {pos:String} {af:Array Edge} {gd:Option (Nat×Bool)} {M:MK α β} {g:Slots} {h:Keys} {al:Names}
theorem ji4 [DecidableEq α] {t:TypeId} {z:β} {x y:Operand} (hf:MapF P t M z) (l:List (α×β)) (a:α):
  Does P c ⟨some d,.lookup t x y false,ty,pos,af,gd⟩ ⟨[(x,.val (tMp M (some l))),(y,.val (tE (M.fk a)))],[],some (d,some (.val (tE (M.fv (entV z l a))))),[],[]⟩:=
 Does.value rfl fun g h al a' w η hrd hkr st=>by
  obtain ⟨b,e1,_,h1⟩:=(xa2 st hrd.1).1;have e1:a'.eval x= .map (some b):=e1;have e2:a'.eval y=M.fk a:=(xa2 st hrd.2.1).1;refine ⟨_,w,?_,Ext.refl w,rfl,fun k hk=>by cases hk⟩;simp only [execOp,e1,e2,zbu,ys8 hf h1,Result.andThen];rfl
theorem wf3 {N K:Nat} {w0:World} {F:Dom} {fn:Func} {t u b:Nat} {l:List (α×β)} {o:Option (List (α×β))} {r2 r2':Ty} (hr:fn.results= #[.tmp t,.tmp u]) (hx:g t=some (.val (tE (.map (some b))))) (hK:h K=some ⟨M.code (some ⟨b,l,none⟩),1,false,[]⟩) (hy:g u=some (.val r2')) (ho:o=some l) (h2:Le r2' r2):
  wk (Base.maps N w0 F K M) .ret (Post P w0 F fn (tT [tMp M o,r2])) g h al:=by
 subst ho;refine yd7 (.inl rfl) Plain.maps.df fun df pn a w η s=> ?_;have h0: ∀b,η.vo b->w0.heap.size<=b:=fun b hb=>(s.fr.vnew b hb).2.2.elim (fun h=>h.elim) id;have hj:M.J (M.code (some ⟨b,l,none⟩)) _ η.vo w:=s.jj K _ rfl hK;obtain ⟨⟨m1,m2,m3⟩,_⟩:=(M.J_at (s:=some ⟨b,l,none⟩)).1 hj;have e1:a.tmps.getD t undef= .map (some b):=xp4 s hx;have e2:=xp4 s hy;refine ⟨_,results_tmp2 hr a.tmps P w,⟨s.fr.os,s.fr.tape,s.fr.output,s.fr.size,fun b hb=>s.fr.block b hb (fun h=>h.elim) fun hv=>by have:=h0 b hv;omega⟩,[_,_],rfl,⟨b,e1,.inl (h0 b m2),m1⟩,r2.mono (h2 _ _ _ e2) fun b o hb hl _=>⟨hb.1.imp id fun h=>h.1,hl⟩,trivial⟩
end
theorem beqBA (a b:ByteArray):(a==b)=decide (a=b):=by
 by_cases h:a=b
 ·subst h;rw [zbf rfl];rcases a with ⟨d⟩;show (d==d)=true;simp
 ·rw [zbg h];rcases a with ⟨d⟩;rcases b with ⟨e⟩;show (d==e)=false;exact beq_false_of_ne fun h2=>h (by rw [h2])
def caS (s:ByteArray):Nat:=cLs (s.data.toList.map UInt8.toNat)
theorem wd1 (x y:ByteArray) (h:caS x=caS y):x=y:=by
 have h1:=yv0 (f:=UInt8.toNat) (fun a b e=>UInt8.toNat_inj.1 e) (yr0 h);rcases x with ⟨a⟩;rcases y with ⟨b⟩;exact congrArg ByteArray.mk (Array.toList_inj.1 h1)
abbrev mkSU:MK ByteArray Nat:=⟨fun s=> .string s,fun n=> .int .u8 (n:Int),caS,id,wd1,fun _ _ h=>h⟩
theorem qm5 {P:Program} {t kt e:TypeId} (h1:P.underlying t=some (.map kt e)) (h2:P.underlying kt=some .string) (h3: ∀w,(zeroValue e).run P w= .ok (.int .u8 0) w):MapF P t mkSU 0:=
 ⟨kt,e,_,h1,h2,fun x y=>by simp only [Instr.sameNow,beqBA],fun x=>by simp [MapKept.IsKey],fun x=>by simp [Instr.sameBits,beqBA],h3⟩
end An
namespace An.S
open Go
def fRight (f:Fa):Bool:=decide (1<=f.key.size) && decide (f.key.size<=24) && decide (0<=f.lo) && decide (f.lo < f.hi) && decide (f.hi<=65536) && decide (0<=f.kn) && decide (f.kn < 65536) && if f.gone=true then decide (f.v=An.va0) else f.v.valid
def kGet (m:List (ByteArray×Nat)) (k:ByteArray):Nat:=entV 0 m k
def kAdd (m:List (ByteArray×Nat)) (f:Fa):List (ByteArray×Nat):=putM m f.key (max (kGet m f.key) f.v.kind)
def kM (a:List Fa):List (ByteArray×Nat):=a.foldl kAdd []
def kBad (m:List (ByteArray×Nat)) (f:Fa):Bool:=decide (kGet m f.key≠0) && !f.gone && decide (kGet m f.key≠f.v.kind)
def kOk (a:List Fa):Bool:=(List.range a.length).all fun i=> !kBad (kM (a.take i)) (a.getD i fa0)
theorem qj0 {a:List Fa} {i:Nat} (hi:i < a.length):kM (a.take (i+1))=kAdd (kM (a.take i)) (a.getD i fa0):=by
 rw [zca hi,kM,List.foldl_append,zbh,zbi hi];rfl
theorem wc1 {a:List Fa} {i:Nat} (hi:i < a.length) (h:kBad (kM (a.take i)) (a.getD i fa0)=true):kOk a=false:=xq7 hi (by rw [h];rfl)
theorem yj2 {m:List (ByteArray×Nat)} {f:Fa}:kBad m f=true↔kGet m f.key≠0/\f.gone=false/\kGet m f.key≠f.v.kind:=by
 simp only [kBad,zbv,zbw,zew,and_assoc]
def recOk (a:List Fa):Bool:=decide (a.length<=2000) && a.all fRight && kOk a
def ixA (p:Fa->Bool) (l:List Fa):Int:=if l.any p then ((l.takeWhile fun s=> !p s).length:Int) else -1
theorem qz7 {p:Fa->Bool}: ∀{l:List Fa} {i:Nat},i < l.length->(l.take i).any p=false->p (l.getD i fa0)=true->(i:Int)=ixA p l
 | [],i,hi,_,_=>by simp at hi
 | x::xs,0,_,_,h=>by
  have h:p x=true:=h;simp [ixA,h]
 | x::xs,i+1,hi,ha,h=>by
  simp only [List.take_succ_cons,List.any_cons,Bool.or_eq_false_iff] at ha;have h2:p (xs.getD i fa0)=true:=by simpa using h
  have hi2:i < xs.length:=by simpa using hi
  have ih:=qz7 hi2 ha.2 h2;have hany:xs.any p=true:=List.any_eq_true.2 ⟨xs.getD i fa0,by rw [zbh,zbi hi2];exact zfa hi2,h2⟩;rw [ixA,if_pos hany] at ih;simp only [ixA,List.any_cons,ha.1,hany,Bool.or_true,if_true,Bool.not_false,List.takeWhile_cons,zdb];omega
theorem wh1 {p:Fa->Bool} {l:List Fa} (h:l.any p=false): -1=ixA p l:=by simp [ixA,h]
theorem wd0 {p:Fa->Bool} {l:List Fa}:decide (ixA p l≥0)=l.any p:=by
 rw [ixA];cases l.any p with
 | true=>simp
 | false=>simp
theorem jm9 {p:Fa->Bool} {l:List Fa} {i:Nat} (hi:i < l.length):(l.take (i+1)).any p=((l.take i).any p || p (l.getD i fa0)):=by
 rw [zca hi,List.any_append,zbh,zbi hi];simp
theorem yz3 {l:List Fa}:(l.any fun f=> !fRight f)= !l.all fRight:=by
 rw [List.any_eq_not_all_not];simp
theorem xe4 {l:List Fa} {i:Nat} (hi:i < l.length):l.getD i fa0∈l:=by
 rw [zbh,zbi hi];exact zfa hi
end An.S
namespace An
open Go
theorem St'.more {c:Base} {g:Slots} {h:Keys} {al al':Names} {a:Act} {w:World} {η:Env} (s:St' c g h al a w η) (hal: ∀k,al k=true->al' k=true):St' c g h al' a w η:=
  ⟨s.tn,s.df,fun t e he=>⟨(s.slot t e he).1,fun k hk=>hal k ((s.slot t e he).2.1 k hk),(s.slot t e he).2.2⟩,fun k x hx=>⟨hal k (s.key k x hx).1,fun j hj=>hal j ((s.key k x hx).2.1 j hj),(s.key k x hx).2.2⟩,
   s.inj,s.fr,fun k hk=>⟨hal k (s.lk k hk).1,(s.lk k hk).2⟩,s.pin,s.vol,fun k hk=>hal k (s.yal k hk),s.jj,s.lbl⟩
section
variable {P:Program} {c:Base} {g:Slots} {h:Keys} {al:Names} {d ty:Nat} {pos:String} {af:Array Edge} {Q:Exit->Act->World->Prop}
theorem yq6 {A:Array Oper} {rest:List Oper} {T E es by_ k k' n:Nat} {agg:Bool} {z:Value} {α:Type} {f:α->Ty} {ys:List α} {x y:Operand} {ts:List Ent} {T0:Nat} (sl:P.underlying T=some (.slice E)) (el:ElI P E es by_ agg z) (hz:Flat es agg z) (hT:T0=E) (h0:Nat.blt 0 es=true)
  (hf: ∀y,Shape (f y) es agg) (hx:look g x=some (.own (.sl k es 0 n))) (hy:look g y=some (.val (tL es agg f ys))) (hk:h k=some ⟨T0,es,agg,ts⟩) (hk':al k'=false) (hn:ts.length=n) (hb:(n+ys.length)*by_<=140737488355328) (h63:n+ys.length<=9223372036854775807) (hpos:0 < ys.length) (hdN:Nat.blt d c.N=true)
  (H: ∀b:Bool,wl P c A Q rest (upd g d (some (.own (.sl (cond b k k') es 0 (n+ys.length))))) (upd h (cond b k k') (some ⟨T0,es,agg,ts++ys.map (fun y=> .val (f y))⟩)) (fun j=>Nat.beq j k' || al j)):
  wl P c A Q (⟨some d,.call {callee:= .builtin .append,args:= #[x,y],argTypes:= #[T,T]},ty,pos,af,none⟩::rest) g h al:=by
 intro a w ⟨η,s⟩;unfold wpListIn;rw [if_pos (by rfl)];subst hT hn;have h0':0 < es:=by simpa using h0
 have hdN':d < c.N:=by simpa using hdN
 obtain ⟨hxv,hxs⟩:=xa2 s hx;obtain ⟨AA,hA,hcap,hadr⟩:=hxv;simp only [Nat.sub_zero,zcn,zef] at hA hcap hadr;obtain ⟨A2,c2,news,hyv,hns,hsrc,hone,hnp,_⟩:=zn5 (P:=P) hf h0' (xa2 s hy).1;have hA:a.eval x= .slice AA ts.length (η.c k):=hA;have hyv:a.eval y= .slice A2 ys.length c2:=hyv;obtain ⟨i,hi,hsz,hby,hz'⟩:=el.parts;obtain ⟨k1,k2,⟨k3,k4,k5,k6,k7⟩,k8⟩:=s.key k _ hk;simp only at k3 k4 k5 k6 k7;have hexec: ∀v w',(Builtin.append_ #[T,T] ty #[.slice AA ts.length (η.c k),.slice A2 ys.length c2]).run P w= .ok v w'->
   (execOp a.eval ⟨some d,.call {callee:= .builtin .append,args:= #[x,y],argTypes:= #[T,T]},ty,pos,af,none⟩).run P w= .ok (.value v) w':=fun v w' hr=>by
  simp only [execOp,resolve,invoke,builtin,zcs,zcy,zfg,hA,hyv,zbu,zbx,zbn,hr]
 have hsupp: ∀j∈HEnt.supp ⟨T0,es,agg,ts++ys.map fun y=> .val (f y)⟩,al j=true:=fun j hj=>by
  simp only [HEnt.supp,zcc] at hj;obtain ⟨e,he,hj⟩:=hj;rcases zbp.1 he with he | he
  ·exact k2 j (zcc.2 ⟨e,he,hj⟩)
  ·obtain ⟨y,_,rfl⟩:=zci.1 he;cases hj
 have hlk: ∀(i:Nat) (e:Ent),(ts++ys.map fun y=>Ent.val (f y))[i]? =some e->(ts[i]? =some e/\i < ts.length)∨(∃y,ys[i - ts.length]? =some y/\e= .val (f y)/\ts.length<=i):=fun i e he=>by
  rcases zcb i ts.length with hlt | hge
  ·rw [zct hlt] at he;exact .inl ⟨he,hlt⟩
  ·rw [zcr hge,zbs] at he;obtain ⟨y,hy,rfl⟩:=zdd.1 he;exact .inr ⟨y,hy,rfl,hge⟩
 have hcs: ∃cs:Array Value,(0 < η.c k->AA=some ⟨η.b k,0,none⟩/\w.heap[η.b k]? =some (.cells cs T0 (0,0))/\cs.size=η.c k*es)/\(0 < η.c k-> ∀(i:Nat) (e:Ent),ts[i]? =some e->e.sat (c.dom h η) w η (pick agg es cs (i*es))):=by
  rcases zco (η.c k) with hc | hc
  ·exact ⟨#[],fun h=>by omega,fun h=>by omega⟩
  ·obtain ⟨cs,m1,m2,m3⟩:=k7 hc;exact ⟨cs,fun _=>⟨hadr hc,m1,m2⟩,fun _=>m3⟩
 obtain ⟨cs,hrow,m3⟩:=hcs;rcases xz2 (P:=P) (ty:=ty) (A:=AA) (n:=ts.length) (cap:=η.c k) (A2:=A2) (c2:=c2) (w:=w) (b:=η.b k) sl hi hsz hby hz' hz.1 h0' k3 cs hrow news hns hsrc hone h63 hb with ⟨hfit,w',hr,hw,_⟩ | ⟨hgt,w',cap',rest',hr,hle,hmax,hrest,hheap,hos,htape,hout,hold⟩
 ·have hc:0 < η.c k:=by omega
  obtain ⟨hAv,m1,m2⟩:=hrow hc;obtain ⟨q1,q2,q3,q4,q5,q6⟩:=hw hc;refine xd0 (hexec _ _ hr) ?_;have hsz2:ts.length*es+ys.length*es<=cs.size:=by rw [m2,<-zdh];exact zbz _ hfit
  have hnl:news.toList.length=ys.length*es:=by simpa using hns
  have s1:=s.write (w':=w') k hk ⟨T0,es,agg,ts++ys.map fun y=> .val (f y)⟩ (putAt cs (ts.length*es) news.toList) (by rw [xc8];exact m2) (by simpa using hfit) h0' k5 hsupp
   (fun j e hj=>by
    rcases hlk j e hj with ⟨he,hjl⟩ | ⟨y,hy',rfl,hge⟩
    ·have hle':j*es+es<=ts.length*es:=by rw [<-zcw];exact zbz _ hjl
     simp only [];rw [xf6 (by omega) k5 (.inl hle')];exact m3 hc j e he
    ·have hjl:j - ts.length < ys.length:=(zbo.1 hy').1;have hle':(j - ts.length)*es+es<=ys.length*es:=by rw [<-zcw];exact zbz _ hjl
     have e1:j*es=ts.length*es+(j - ts.length)*es:=by rw [<-zdh];congr 1;omega
     have hpk:pick agg es (putAt cs (ts.length*es) news.toList) (j*es)=pick agg es news ((j - ts.length)*es):=by
      have hg: ∀q,q < es->(putAt cs (ts.length*es) news.toList)[j*es+q]? =news[(j - ts.length)*es+q]? :=fun q hq=>by
       rw [xh7 _ _ _ _ (by omega),if_pos (by omega),zes]
       congr 1;omega
      cases agg with
      | true=>
       simp only [pick,zev,zen];apply zdi;intro q;rw [zcq,zcq,xc8];by_cases hq:q < es
       ·rw [if_pos (by omega),if_pos (by omega),hg q hq]
       ·rw [if_neg (by omega),if_neg (by omega)]
      | false=>
       simp only [pick,zdy];have:=hg 0 h0';rw [zbk,zbk];simp only [zeh] at this;rw [this]
     simp only [];rw [hpk];exact hnp _ y hy')
   hc q1 q2 q3 q4 q5 q6 rfl
  refine H true _ _ ⟨_,(s1.put hdN' (e:= .own (.sl k es 0 (ts.length+ys.length))) ⟨AA,rfl,?_,?_⟩ ?_).more ?_⟩
  ·simpa using hfit
  ·intro _;rw [hAv];simp
  ·intro j hj;simp only [Ent.supp,VP.supp,zbj] at hj;subst hj;exact k1
  ·intro j hj;simp [hj]
 ·refine xd0 (hexec _ _ hr) ?_;have hext:Ext w w':=⟨hos,htape,hout,by rw [hheap];simp,fun b hb=>by rw [hheap,zfe,if_neg (by omega)]⟩
  have hpos': ∀j e,ts[j]? =some e->0 < η.c k:=fun j e he=>by
   have:=(zbo.1 he).1;omega
  have s2:=s.new' k' hk' ⟨T0,es,agg,ts++ys.map fun y=> .val (f y)⟩ cap' w.heap.size (by simpa using hle) h0' k5 hmax hsupp hext (fun _=>⟨zbq _,cs.extract 0 (ts.length*es)++news++rest',by rw [hheap];simp,by
    simp only [zff,hns,hrest,hold];rw [<-zdh,<-zdh];congr 1;omega,fun j e hj=>by
    rcases hlk j e hj with ⟨he,hjl⟩ | ⟨y,hy',rfl,hge⟩
    ·have hle':j*es+es<=ts.length*es:=by rw [<-zcw];exact zbz _ hjl
     simp only [];rw [Array.append_assoc,xe5 (by rw [hold];exact hle') k5,xr2 hle' (by simp at hold;omega) k5];exact m3 (hpos' j e he) j e he
    ·have hjl:j - ts.length < ys.length:=(zbo.1 hy').1;have hle':(j - ts.length)*es+es<=ys.length*es:=by rw [<-zcw];exact zbz _ hjl
     have e1:j*es=(cs.extract 0 (ts.length*es)).size+(j - ts.length)*es:=by rw [hold,<-zdh];congr 1;omega
     simp only [];rw [Array.append_assoc,e1,xk9 (by simp only [zff,hns];omega) k5,xe5 (by rw [hns];exact hle') k5];exact hnp _ y hy'⟩)
  refine H false _ _ ⟨_,s2.put hdN' (e:= .own (.sl k' es 0 (ts.length+ys.length))) ⟨some ⟨w.heap.size,0,none⟩,?_,?_,?_⟩ ?_⟩
  ·simp [Env.set_c]
  ·simpa [Env.set_c] using hle
  ·intro _;simp [Env.set_b]
  ·intro j hj;simp only [Ent.supp,VP.supp,zbj] at hj;subst hj;simp
theorem yk5 {x:Code} (round:wc P c x (Exit.then (fun _ _=>False) Q) g h al):wc P c (.loop x) Q g h al:=by
 intro a w hs b k cs hro hb hr;obtain ⟨e,a₁,w₁,hq,harr⟩:=round a w hs b (.inLoop x::k) cs hro hb hr;refine ⟨e,a₁,w₁,?_⟩;cases e with
 | normal=>exact hq.elim
 | exit id=>exact ⟨hq,.of_steps (.one (fenced_calm hb hr rfl) stepR_loop) (.pass (x:= .inLoop x) rfl (fun _ _=> .inl (by simp)) harr)⟩
 | goto l=>exact ⟨hq,.of_steps (.one (fenced_calm hb hr rfl) stepR_loop) (.pass (x:= .inLoop x) rfl (fun _ _=> .inl (by simp)) harr)⟩
 | ret=>exact ⟨hq,.of_steps (.one (fenced_calm hb hr rfl) stepR_loop) (.pass (x:= .inLoop x) rfl (fun _ _=> .inl (by simp)) harr)⟩
 | panic ch=>exact ⟨hq,.of_steps (.one (fenced_calm hb hr rfl) stepR_loop) (.pass (x:= .inLoop x) rfl (fun _ _=> .inl (by simp)) harr)⟩
 | outgrown=>exact ⟨hq,.of_steps (.one (fenced_calm hb hr rfl) stepR_loop) (.pass (x:= .inLoop x) rfl (fun _ _=> .inl (by simp)) harr)⟩
theorem xv3 {ι:Type} (I:ι->Prop) (G:ι->Slots) (H:ι->Keys) (al':ι->Names) (μ:ι->Nat) {x:Code} (i:ι) (hi:I i) (hg:Sub (G i) g) (hh:SubK (H i) h) (sg:SupG (G i) (al' i)) (sh:SupH (H i) (al' i)) (hlk:LkOk c (al' i))
  (round: ∀i,I i->wc P c x (Exit.then (fun a w=> ∃j,(I j/\μ j < μ i)/\St c (G j) (H j) (al' j) a w) Q) (G i) (H i) (al' i)):wc P c (.loop x) Q g h al:=by
 intro a w hs b k cs hro hb hr;have key: ∀n i,μ i=n->I i-> ∀a w,St c (G i) (H i) (al' i) a w->
   ∃e a' w',Q e a' w'/\ArrivesIn (Machine.fenced P (fc c.ro)) P (lone (b.atR a (.code x:: .inLoop x::k)) cs w) b k cs e a' w':=by
  intro n
  induction n using Nat.strongRecOn with
  | _ n ih=>
   intro i hn hi a w hs;obtain ⟨e,a₁,w₁,hq,harr⟩:=round i hi a w hs b (.inLoop x::k) cs hro hb hr;cases e with
   | normal=>
    obtain ⟨j,⟨hj,hlt⟩,hs'⟩:=hq;obtain ⟨e₂,a₂,w₂,hq₂,harr₂⟩:=ih (μ j) (hn▸hlt) j rfl hj a₁ w₁ hs';exact ⟨e₂,a₂,w₂,hq₂,.of_steps (StepsIn.trans harr (.one (fenced_calm hb hr rfl) stepR_inLoop)) harr₂⟩
   | exit id=>exact ⟨_,a₁,w₁,hq,.pass (x:= .inLoop x) rfl (fun _ _=> .inl (by simp)) harr⟩
   | goto l=>exact ⟨_,a₁,w₁,hq,.pass (x:= .inLoop x) rfl (fun _ _=> .inl (by simp)) harr⟩
   | ret=>exact ⟨_,a₁,w₁,hq,.pass (x:= .inLoop x) rfl (fun _ _=> .inl (by simp)) harr⟩
   | panic ch=>exact ⟨_,a₁,w₁,hq,.pass (x:= .inLoop x) rfl (fun _ _=> .inl (by simp)) harr⟩
   | outgrown=>exact ⟨_,a₁,w₁,hq,.pass (x:= .inLoop x) rfl (fun _ _=> .inl (by simp)) harr⟩
 obtain ⟨e,a',w',hq,harr⟩:=key _ i rfl hi a w (hs.weaken hg hh sg sh hlk);exact ⟨e,a',w',hq,.of_steps (.one (fenced_calm hb hr rfl) stepR_loop) harr⟩
theorem xt8 {ι:Type} {I:ι->Prop} {G:ι->Slots} {H:ι->Keys} {al':ι->Names} (i:ι) (hi:I i) (hg:Sub (G i) g) (hh:SubK (H i) h) (sg:SupG (G i) (al' i)) (sh:SupH (H i) (al' i)) (hlk:LkOk c (al' i)) {a:Act} {w:World} (hs:St c g h al a w): ∃j,I j/\St c (G j) (H j) (al' j) a w:=
 ⟨i,hi,hs.weaken hg hh sg sh hlk⟩
end
def poolK (n:Nat) (R:Nat->HEnt):Keys:=fun q=>cond (Nat.ble 100 q && Nat.blt q (100+n)) (some (R (q - 100))) none
def poolL (n:Nat) (R:Nat->HEnt):List (Nat×HEnt):=(List.range n).map fun j=>(j+100,R j)
def owns (n es:Nat) (len:Nat->Nat):List Ent:=(List.range n).map fun j=> .own (.sl (j+100) es 0 (len j))
theorem xt2 {n k:Nat} {R:Nat->HEnt} (h:k < n):poolK n R (k+100)=some (R k):=by
 have h1:Nat.ble 100 (k+100)=true:=Nat.ble_eq_true_of_le (by omega);have h2:Nat.blt (k+100) (100+n)=true:=by simp [Nat.blt];omega
 simp [poolK,h1,h2]
theorem xj6 {n q:Nat} {R:Nat->HEnt} {x:HEnt} (h:poolK n R q=some x): ∃k,k < n/\q=k+100/\x=R k:=by
 simp only [poolK] at h;cases hc:(Nat.ble 100 q && Nat.blt q (100+n)) with
 | false=>rw [hc] at h;cases h
 | true=>
  rw [hc] at h;cases h;simp only [zbv,Nat.ble_eq,Nat.blt_eq] at hc;exact ⟨q - 100,by omega,by omega,rfl⟩
theorem yk2 {n q:Nat} {R:Nat->HEnt} (h: ∀k,k < n->q≠k+100):poolK n R q=none:=by
 cases hc:poolK n R q with
 | none=>rfl
 | some x=>obtain ⟨k,h1,h2,_⟩:=xj6 hc;exact absurd h2 (h k h1)
theorem xf4 {n es k:Nat} {len:Nat->Nat} (h:k < n):(owns n es len)[k]? =some (.own (.sl (k+100) es 0 (len k))):=by
 simp [owns,List.getElem?_map,List.getElem?_range h]
theorem zz3 {n es:Nat} {len:Nat->Nat}:(owns n es len).length=n:=by simp [owns]
theorem yn8 {n es k:Nat} {len:Nat->Nat} (h:k∈(owns n es len).flatMap Ent.supp): ∃j,j < n/\k=j+100:=by
 simp only [owns,zcc,zci,zcx] at h;obtain ⟨e,⟨j,hj,rfl⟩,hk⟩:=h;simp only [Ent.supp,VP.supp,zbj] at hk;exact ⟨j,hj,hk⟩
theorem qn1 {α:Type} {f:α->Ty} {xs:List α} {k:Nat} (h:k∈(rV f xs).flatMap Ent.supp):False:=by
 simp only [rV,zcc,zci] at h;obtain ⟨e,⟨x,_,rfl⟩,hk⟩:=h;cases hk
theorem zd6 {H:List (Nat×HEnt)} {k:Nat} {x:HEnt} (hx:(k,x)∈H) (hu: ∀y,(k,y)∈H->y=x):keysOf H k=some x:=by
 have key: ∀(l:List (Nat×HEnt)) (h:Keys),(∀y,h k=some y->y=x)->(∀y,(k,y)∈l->y=x)->((k,x)∈l∨h k=some x)->updK h (l.map fun x=>(x.1,some x.2)) k=some x:=by
  intro l
  induction l with
  | nil=>intro h _ _ h2;rcases h2 with h2 | h2;cases h2;exact h2
  | cons y r ih=>
   intro h h0 h1 h2;refine ih _ (fun z hz=> ?_) (fun z hz=>h1 z (zcd _ hz)) ?_
   ·by_cases hk:k=y.1
    ·rw [hk,x7] at hz;cases hz;exact h1 _ (by rw [hk];simp)
    ·rw [x3 _ _ _ hk] at hz;exact h0 z hz
   ·rcases h2 with h2 | h2
    ·rcases zbr.1 h2 with rfl | h2
     ·exact .inr (x7 _ _ _)
     ·exact .inl h2
    ·by_cases hk:k=y.1
     ·have:y.2=x:=h1 _ (by rw [hk];simp);exact .inr (by show upd h y.1 (some y.2) k=some x;rw [hk,x7,this])
     ·exact .inr (by show upd h y.1 (some y.2) k=some x;rw [x3 _ _ _ hk];exact h2)
 exact key H _ (fun _ h=>by cases h) hu (.inl hx)
theorem xs6 {n k:Nat} {R:Nat->HEnt} {x:HEnt} (h:(k,x)∈poolL n R): ∃j,j < n/\k=j+100/\x=R j:=by
 simp only [poolL,zci,zcx,Prod.mk.injEq] at h;obtain ⟨j,hj,h1,h2⟩:=h;exact ⟨j,hj,h1.symm,h2.symm⟩
theorem yt3 {n:Nat} {R:Nat->HEnt} {X:HEnt}:SubK (upd (poolK n R) 20 (some X)) (keysOf ((20,X)::poolL n R)):=fun q x hx=>by
 by_cases hq:q=20
 ·subst hq;rw [x7] at hx;cases hx;exact ⟨_,zd6 (by simp) (fun y hy=>by
   rcases zbr.1 hy with hy | hy
   ·cases hy;rfl
   ·obtain ⟨j,_,h2,_⟩:=xs6 hy;omega),rfl,.refl⟩
 ·rw [x3 _ _ _ hq] at hx;obtain ⟨k,h1,rfl,rfl⟩:=xj6 hx;refine ⟨_,zd6 (x:=R k) (zcd _ ?_) (fun y hy=> ?_),rfl,.refl⟩
  ·simp only [poolL,zci,zcx];exact ⟨k,h1,rfl⟩
  ·rcases zbr.1 hy with hy | hy
   ·exact absurd (Prod.ext_iff.1 hy).1 hq
   ·obtain ⟨j,_,h2,rfl⟩:=xs6 hy;have:j=k:=by omega
    rw [this]
def poolN (n:Nat):List Nat:=20::(List.range n).map (· +100)
theorem jj8 {n k:Nat} (h:k∈poolN n):k=20∨ ∃j,j < n/\k=j+100:=by
 simp only [poolN,zbr,zci,zcx] at h;rcases h with h | ⟨j,hj,h⟩
 ·exact .inl h
 ·exact .inr ⟨j,hj,h.symm⟩
def alP (b:Bool) (m:Nat):Names:=fun q=>Nat.beq q 20 || (b && Nat.beq q 21) || (Nat.ble 100 q && Nat.blt q m)
theorem xj3 {b:Bool} {m q:Nat} (h1:100<=q) (h2:q < m):alP b m q=true:=by
 simp [alP,Nat.ble_eq_true_of_le h1,Nat.blt];right;omega
theorem zg0 {b:Bool} {m:Nat} (h:100<=m):alP b m m=false:=by
 have nb: ∀k,m≠k->Nat.beq m k=false:=fun k hk=>by
  cases hb:Nat.beq m k with
  | false=>rfl
  | true=>exact absurd (zds hb) hk
 have h3:Nat.blt m m=false:=by
  cases hb:Nat.blt m m with
  | false=>rfl
  | true=>exact absurd (zdo hb) (Nat.lt_irrefl m)
 simp [alP,nb 20 (by omega),nb 21 (by omega),h3]
theorem lkP {b:Bool} {N n m:Nat} {w:World} {F:Dom} {η:Env} {H:List (Nat×HEnt)} (h:n+100<=m):LkOk (Base.lent N w F η (poolN n) H) (alP b m):=
 ⟨fun k hk=>by
  rcases jj8 hk with rfl | ⟨j,hj,rfl⟩
  ·rfl
  ·exact xj3 (by omega) (by omega),fun k hk=>by cases hk⟩
theorem supP {b:Bool} {n m:Nat} {R:Nat->HEnt} {T es:Nat} {len:Nat->Nat} (h:n+100<=m) (hR: ∀k,k < n->(R k).supp=[]):SupH (upd (poolK n R) 20 (some ⟨T,1,false,owns n es len⟩)) (alP b m):=fun q x hx=>by
 by_cases hq:q=20
 ·subst hq;rw [x7] at hx;cases hx;exact ⟨rfl,fun j hj=>by obtain ⟨i,hi,rfl⟩:=yn8 hj;exact xj3 (by omega) (by omega)⟩
 ·rw [x3 _ _ _ hq] at hx;obtain ⟨k,h1,rfl,rfl⟩:=xj6 hx;exact ⟨xj3 (by omega) (by omega),fun j hj=>by rw [hR k h1] at hj;cases hj⟩
section
variable {α:Type} (L:Nat->List α) (m:Nat->Nat->α) (d:α)
def cM (k i j:Nat):List α:=(List.range (L j).length).map fun t=>if j < k∨(j=k/\t < i) then m j t else (L j).getD t d
def mkL (j n:Nat):List α:=(List.range n).map (m j)
variable {L m d}
theorem zc7 {k i j:Nat}:(cM L m d k i j).length=(L j).length:=by simp [cM]
theorem xm1 {j n:Nat}:(mkL m j n).length=n:=by simp [mkL]
theorem cM_0 {j:Nat}:cM L m d 0 0 j=L j:=by
 apply zfc;intro t;rw [cM,zbs];rcases zcb t (L j).length with h | h
 ·rw [zet h];simp [List.getD_eq_getElem?_getD,List.getElem?_eq_getElem h]
 ·rw [zcv (by simpa using h),zcv h];rfl
theorem jb3 {k i:Nat} (hi:i < (L k).length):(cM L m d k i k).set i (m k i)=cM L m d k (i+1) k:=by
 apply zfc;intro t;rw [zfk];rcases zcb t (L k).length with h | h
 ·simp only [cM,zbs,zet h,zch,List.length_range,zdm];by_cases hit:i=t
  ·subst hit;simp [h]
  ·rw [if_neg hit];by_cases h1:t < i
   ·simp [h1,show t < i+1 by omega]
   ·simp [h1,show ¬t < i+1 by omega]
 ·rw [if_neg (by omega),zcv (by rw [zc7];exact h),zcv (by rw [zc7];exact h)]
theorem ja5 {k i j:Nat} (h:j≠k):cM L m d k (i+1) j=cM L m d k i j:=by
 simp only [cM]
 congr 1;funext t
 by_cases h1:j < k
 ·rw [if_pos (.inl h1),if_pos (.inl h1)]
 ·rw [if_neg (by omega),if_neg (by omega)]
theorem qp3 {k j:Nat}:cM L m d (k+1) 0 j=cM L m d k (L k).length j:=by
 apply zfw;intro t ht;rw [zcx] at ht;by_cases h1:j < k
 ·rw [if_pos (.inl (by omega)),if_pos (.inl h1)]
 ·by_cases h2:j=k
  ·subst h2;rw [if_pos (.inl (by omega)),if_pos (.inr ⟨rfl,ht⟩)]
  ·rw [if_neg (by omega),if_neg (by omega)]
theorem zf0 {k j:Nat} (h:j < k):cM L m d k 0 j=mkL m j (L j).length:=by
 simp only [cM,mkL]
 congr 1;funext t
 rw [if_pos (.inl h)]
theorem zs0 {j n:Nat}:mkL m j n++[m j n]=mkL m j (n+1):=by simp [mkL,List.range_succ]
theorem yb8 {j n t:Nat} (h:t < n):(mkL m j n)[t]? =some (m j t):=by simp [mkL,List.getElem?_map,List.getElem?_range h]
theorem qn8 {j n k:Nat} (h:k<=n): ∀(t:Nat) (x:α),(mkL m j k)[t]? =some x->(mkL m j n)[t]? =some x:=fun t x hx=>by
 have ht:t < k:=by have:=(zbo.1 hx).1;rwa [xm1] at this
 rw [yb8 ht] at hx;rw [yb8 (by omega),hx]
end
def pileK (κ:Nat->Nat) (R:Nat->HEnt):Nat->Keys->Keys
 | 0,h=>h
 | k+1,h=>upd (pileK κ R k h) (κ k) (some (R k))
theorem xd8 {κ:Nat->Nat} {R:Nat->HEnt} {h:Keys} {q:Nat}: ∀{k:Nat},(∀j,j < k->q≠κ j)->pileK κ R k h q=h q
 | 0,_=>rfl
 | k+1,H=>by rw [pileK,x3 _ _ _ (H k (by omega)),xd8 fun j hj=>H j (by omega)]
theorem yd1 {κ:Nat->Nat} {R:Nat->HEnt} {h:Keys} {j:Nat}: ∀{k:Nat},(∀i,i < k->i≠j->κ j≠κ i)->j < k->pileK κ R k h (κ j)=some (R j)
 | k+1,H,hj=>by
  by_cases hjk:j=k
  ·subst hjk;exact x7 _ _ _
  ·rw [pileK,x3 _ _ _ (H k (by omega) (by omega))];exact yd1 (fun i hi=>H i (by omega)) (by omega)
theorem ye9 {κ:Nat->Nat} {R:Nat->HEnt} {h:Keys} {q:Nat} {x:HEnt}: ∀{k:Nat},pileK κ R k h q=some x->(∃j,j < k/\q=κ j/\x=R j)∨h q=some x
 | 0,H=> .inr H
 | k+1,H=>by
  by_cases hq:q=κ k
  ·subst hq;rw [pileK,x7] at H;cases H;exact .inl ⟨k,by omega,rfl,rfl⟩
  ·rw [pileK,x3 _ _ _ hq] at H;rcases ye9 H with ⟨j,h1,h2⟩ | h1
   ·exact .inl ⟨j,by omega,h2⟩
   ·exact .inr h1
theorem xu2 {κ κ':Nat->Nat} {R:Nat->HEnt} {h:Keys}: ∀{k:Nat},(∀j,j < k->κ' j=κ j)->pileK κ' R k h=pileK κ R k h
 | 0,_=>rfl
 | k+1,H=>by rw [pileK,pileK,xu2 fun j hj=>H j (by omega),H k (by omega)]
theorem xz3 {κ:Nat->Nat} {R:Nat->HEnt} {h h':Keys} {q:Nat} (H:h' q=h q): ∀{k:Nat},pileK κ R k h' q=pileK κ R k h q
 | 0=>H
 | k+1=>by
  by_cases hq:q=κ k
  ·subst hq;rw [pileK,pileK,x7,x7]
  ·rw [pileK,pileK,x3 _ _ _ hq,x3 _ _ _ hq,xz3 H]
theorem SubK.eq {h h':Keys} (H: ∀q x,h' q=some x->h q=some x):SubK h' h:=fun q x hx=>⟨x,H q x hx,rfl,.refl⟩
def setN (κ:Nat->Nat) (k v:Nat):Nat->Nat:=fun j=>if j=k then v else κ j
theorem xt4 {κ:Nat->Nat} {k v:Nat}:setN κ k v k=v:=if_pos rfl
theorem xn0 {κ:Nat->Nat} {k v j:Nat} (h:j≠k):setN κ k v j=κ j:=if_neg h
def okN (k x:Nat):Prop:=x=k+100∨(2000+64*k<=x/\x < 2064+64*k)
theorem okN.lt {k x m:Nat} (h:okN k x) (hk:k<=900) (hm:2064+64*k<=m):100<=x/\x < m:=by rcases h with h | h <;> omega
theorem okN.ne {k j x y:Nat} (h:okN k x) (h':okN j y) (hk:k<=900) (hj:j<=900) (hne:k≠j):x≠y:=by rcases h with h | h <;> rcases h' with h' | h' <;> omega
theorem SubK.over {h:Keys} {v q:Nat} {r r':HEnt} (H: ∀y,h q=some y->r.T=y.T/\ImpK r y):SubK (upd h v (some r')) (upd (upd h q (some r)) v (some r')):=fun t x hx=>by
 by_cases htv:t=v
 ·subst htv;rw [x7] at hx ⊢;exact ⟨_,rfl,by cases hx;rfl,by cases hx;exact .refl⟩
 ·rw [x3 _ _ _ htv] at hx ⊢;by_cases htq:t=q
  ·subst htq;rw [x7];exact ⟨r,rfl,H x hx⟩
  ·rw [x3 _ _ _ htq];exact ⟨x,hx,rfl,.refl⟩
def gsR (n es:Nat) (κ len:Nat->Nat) (t0:Nat->Ent) (k:Nat):List Ent:=(List.range n).map fun j=>if j < k then .own (.sl (κ j) es 0 (len j)) else t0 j
section
variable {n es k:Nat} {κ len:Nat->Nat} {t0:Nat->Ent}
theorem yc0:(gsR n es κ len t0 k).length=n:=by simp [gsR]
theorem yb2 {j:Nat} (hj:j < n) (hk:j < k):(gsR n es κ len t0 k)[j]? =some (.own (.sl (κ j) es 0 (len j))):=by
 simp [gsR,List.getElem?_map,List.getElem?_range hj,hk]
theorem qj9 {e:Ent}:List.replicate n e=gsR n es κ len (fun _=>e) 0:=by
 apply zfc;intro t;rw [gsR,zbs];rcases zcb t n with h | h
 ·rw [zet h,List.getElem?_replicate,if_pos h];simp
 ·rw [zcv (by simpa using h),zcv (by simpa using h)];rfl
theorem yr1 {v:Nat} (hk:k < n):(gsR n es κ len t0 k).set k (.own (.sl v es 0 (len k)))=gsR n es (setN κ k v) len t0 (k+1):=by
 apply zfc;intro t;rw [zfk];rcases zcb t n with h | h
 ·simp only [gsR,zbs,zet h,zch,List.length_range,zdm];by_cases hit:k=t
  ·subst hit;simp [h,setN]
  ·rw [if_neg hit];by_cases h1:t < k
   ·simp [h1,show t < k+1 by omega,xn0 (κ:=κ) (v:=v) (show t≠k by omega)]
   ·simp [h1,show ¬t < k+1 by omega]
 ·rw [if_neg (by omega),zcv (by rw [yc0];exact h),zcv (by rw [yc0];exact h)]
theorem yh6 {q:Nat} (h:q∈(gsR n es κ len t0 k).flatMap Ent.supp):(∃j,j < n/\j < k/\q=κ j)∨ ∃j,j < n/\q∈(t0 j).supp:=by
 simp only [gsR,zcc,zci,zcx] at h;obtain ⟨e,⟨j,hj,rfl⟩,hk⟩:=h;by_cases hjk:j < k
 ·rw [if_pos hjk] at hk;simp only [Ent.supp,VP.supp,zbj] at hk;exact .inl ⟨j,hj,hjk,hk⟩
 ·rw [if_neg hjk] at hk;exact .inr ⟨j,hj,hk⟩
end
section
variable {P:Program} {c:Base} {g:Slots} {h:Keys} {al:Names} {a:Act} {w:World} {η:Env}
theorem St'.giveL (s:St' c g h al a w η) {k:Nat} {T es off len:Nat} {agg:Bool} {ts:List Ent} {α:Type} {f:α->Ty} {xs:List α} (hk:h k=some ⟨T,es,agg,ts⟩) (hlb:0 < η.c k-> ¬c.lb (η.b k))
  (hts:(ts.drop off).take len=xs.map fun x=> .val (f x)) (hl:xs.length=len) {v:Value} (hv:(Ent.own (.sl k es off len)).sat (c.dom h η) w η v):(tL es agg f xs).p (c.dom (upd h k none) η) w v:=by
 subst hl;obtain ⟨A,h1,h2,h3⟩:=hv;obtain ⟨h4,h5,⟨h6,h7,h8,h9,h10⟩,h11⟩:=s.key k _ hk;simp only at h7 h8 h9 h10;refine ⟨A,_,h1,by omega,by omega,?_⟩;rcases zco xs.length with h0 | h0
 ·exact .inl (zda h0)
 ·have hc:0 < η.c k:=by omega
  obtain ⟨cs,e1,e2,e3⟩:=h10 hc;obtain ⟨d1,d2,d3⟩:=h11 hc;have d1:c.w0.heap.size<=η.b k:=d1.resolve_right (hlb hc);refine .inr ⟨η.b k,off*es,h3 (by omega),⟨.inl d1,?_,d2,d3⟩,fun i x hi=> ?_⟩
  ·rintro ⟨j,y,hj,hcj,e⟩;by_cases hjk:j=k
   ·subst hjk;rw [x7] at hj;cases hj
   ·rw [x3 _ _ _ hjk] at hj;exact s.inj j k y _ hj hk hjk hcj hc e.symm
  ·have hil:i < xs.length:=(zbo.1 hi).1;have he:=e3 (off+i) _ (zg2 hts i x hi);have hle:off*es+i*es+es<=cs.size:=by
    rw [e2,<-zdh,<-zcw];exact zbz _ (by omega)
   refine ⟨_,⟨cs,_,_,e1,hle,h7,h8,rfl⟩,?_⟩;rw [<-zdh];exact (f x).mono he (Keep.drop k)
theorem qm8 {Q:Exit->Act->World->Prop} {x:Code} {t k T es off len:Nat} {agg:Bool} {ts:List Ent} {α:Type} {f:α->Ty} {xs:List α} (hg:g t=some (.own (.sl k es off len))) (hk:h k=some ⟨T,es,agg,ts⟩)
  (hlb: ∀b,c.lb b-> ∃j y,j∈c.ln/\j≠k/\h j=some y/\0 < c.lη.c j/\b=c.lη.b j)
  (hts:(ts.drop off).take len=xs.map fun x=> .val (f x)) (hl:xs.length=len) (H:wc P c x Q (upd g t (some (.val (tL es agg f xs)))) (upd h k none) al):wc P c x Q g h al:=fun a w ⟨η,s⟩=>by
 have h2:=s.giveL hk (fun hc hb=>by
  obtain ⟨j,y,h1,h2,h3,h4,h5⟩:=hlb _ hb;obtain ⟨_,e1,e2⟩:=s.lk j h1;exact s.inj j k y _ h3 hk h2 (by rw [e2];exact h4) hc (by rw [e1,<-h5])) hts hl (s.slot t _ hg).2.2
 have s2:=(s.drop k).put (s.slot t _ hg).1 (e:= .val (tL es agg f xs)) h2 fun j hj=>by cases hj
 refine H a w ⟨η,?_⟩;have e:a.put (some t) (a.tmps.getD t undef)=a:=by
  have hlt:t < a.tmps.size:=by rw [s.tn];exact (s.slot t _ hg).1
  have:a.tmps.setIfInBounds t (a.tmps.getD t undef)=a.tmps:=by
   apply zdi;intro i;rw [zee];by_cases hi:t=i
   ·subst hi;simp [hlt]
   ·simp [hi]
  simp only [Act.put,this]
 rwa [e] at s2
end
section
variable {P:Program} {c:Base} {d ty:Nat} {pos:String} {af:Array Edge} {gd:Option (Nat×Bool)}
theorem yj1 {T E by_ k k2 k' n:Nat} {z:Value} {x y:Operand} {ts ts':List Ent} {e:Ent} {T0 T2:Nat} [he:ShapeE e 1 false] (sl:P.underlying T=some (.slice E)) (el:ElI P E 1 by_ false z) (hz:Flat 1 false z) (hT:T0=E)
  (hne:Nat.beq k k2=false) (hn:ts.length=n) (hb:(n+1)*by_<=140737488355328) (h63:n+1<=9223372036854775807) (hts:ts++[e]=ts'):
  Does P c ⟨some d,.call {callee:= .builtin .append,args:= #[x,y],argTypes:= #[T,T]},ty,pos,af,gd⟩ ⟨[(x,.own (.sl k 1 0 n)),(y,.own (.sl k2 1 0 1))],[(k,⟨T0,1,false,ts⟩),(k2,⟨T2,1,false,[e]⟩)],some (d,some (.own (.sl k' 1 0 (n+1)))),[(k,none),(k',some ⟨T0,1,false,ts'⟩)],[k']⟩:=by
 intro g h al a w hp ⟨η,s⟩;subst hts hT hn;obtain ⟨hx,hxs⟩:=xa2 s hp.rd.1;obtain ⟨A,hA,hcap,hadr⟩:=hx;simp only [Nat.sub_zero,zcn,zef] at hA hcap hadr;obtain ⟨hy,hys⟩:=xa2 s hp.rd.2.1;obtain ⟨A2,hA2,hcap2,hadr2⟩:=hy;simp only [Nat.sub_zero,zcn,zef] at hA2 hcap2 hadr2;have hA:a.eval x= .slice A ts.length (η.c k):=hA;have hy:a.eval y= .slice A2 1 (η.c k2):=hA2;obtain ⟨i,hi,hsz,hby,hz'⟩:=el.parts;obtain ⟨k1,k2',⟨k3,k4,k5,k6,k7⟩,k8⟩:=s.key k _ hp.kr.1;obtain ⟨j1,j2,⟨j3,j4,j5,j6,j7⟩,j8⟩:=s.key k2 _ hp.kr.2.1;simp only at k3 k4 k5 k6 k7 j3 j4 j5 j6 j7;obtain ⟨cs2,n1,n2,n3⟩:=j7 (by omega);have hev:=n3 0 e rfl;have hone1:one (cs2.getD 0 undef)=true:=by
  have:=he.flat hev;have h2:=(this.2.2.2 rfl).1;simpa [pick] using h2
 have hcs2:0 < cs2.size:=by rw [n2];omega
 have hns:(cs2.extract 0 (0+1*1)).size=1*1:=by simp;omega
 have hsrc: ∀w':World,w'.heap=w.heap->(Builtin.firstCells 1 1 (.slice A2 1 (η.c k2))).run P w'= .ok (cs2.extract 0 (0+1*1)) w':=fun w' hw'=>by
  rw [hadr2 (by omega)];exact xr1 (by rw [hw'];exact n1) (by omega)
 have hone: ∀v∈(cs2.extract 0 (0+1*1)).toList,one v=true:=fun v hv=>by
  obtain ⟨j,hj⟩:=zeb hv;rw [zes,zcq] at hj;split at hj
  ·have hj0:j=0:=by omega
   subst hj0;rw [zcn] at hj;simpa [Array.getD_eq_getD_getElem?,hj] using hone1
  ·cases hj
 have hnp:pick false 1 (cs2.extract 0 (0+1*1)) 0=pick false 1 cs2 0:=by
  simp [pick,Array.getD_eq_getD_getElem?,Array.getElem?_extract,hcs2];rw [if_pos (by omega)];rfl
 have hexec: ∀v w',(Builtin.append_ #[T,T] ty #[.slice A ts.length (η.c k),.slice A2 1 (η.c k2)]).run P w= .ok v w'->
   (execOp a.eval ⟨some d,.call {callee:= .builtin .append,args:= #[x,y],argTypes:= #[T,T]},ty,pos,af,gd⟩).run P w= .ok (.value v) w':=fun v w' hr=>by
  simp only [execOp,resolve,invoke,builtin,zcs,zcy,zfg,hA,hy,zbu,zbx,zbn,hr]
 have hsupp: ∀j∈HEnt.supp ⟨T0,1,false,ts++[e]⟩,al j=true:=fun j hj=>by
  simp only [HEnt.supp,zeg,zbp] at hj;rcases hj with hj | hj
  ·exact k2' j hj
  ·exact j2 j hj
 have hlk: ∀(i:Nat) (e':Ent),(ts++[e])[i]? =some e'->(ts[i]? =some e'/\i < ts.length)∨(i=ts.length/\e'=e):=fun i e' he'=>by
  rcases zcb i ts.length with hlt | hge
  ·rw [zct hlt] at he';exact .inl ⟨he',hlt⟩
  ·rw [zcr hge] at he';have:=(zbo.1 he').1;simp at this;have h0:i - ts.length=0:=by omega
   rw [h0] at he';cases he';exact .inr ⟨by omega,rfl⟩
 have hcs: ∃cs:Array Value,(0 < η.c k->A=some ⟨η.b k,0,none⟩/\w.heap[η.b k]? =some (.cells cs T0 (0,0))/\cs.size=η.c k*1)/\(0 < η.c k-> ∀(i:Nat) (e:Ent),ts[i]? =some e->e.sat (c.dom h η) w η (pick false 1 cs (i*1))):=by
  rcases zco (η.c k) with hc | hc
  ·exact ⟨#[],fun h=>by omega,fun h=>by omega⟩
  ·obtain ⟨cs,m1,m2,m3⟩:=k7 hc;exact ⟨cs,fun _=>⟨hadr hc,m1,m2⟩,fun _=>m3⟩
 obtain ⟨cs,hrow,m3⟩:=hcs;rcases xz2 (P:=P) (ty:=ty) (A:=A) (n:=ts.length) (cap:=η.c k) (A2:=A2) (c2:=η.c k2) (w:=w) (b:=η.b k) sl hi hsz hby hz' hz.1 (by decide) k3 cs hrow (cs2.extract 0 (0+1*1)) hns hsrc hone h63 hb with ⟨hfit,w',hr,hw,_⟩ | ⟨hgt,w',cap',rest',hr,hle,hmax,hrest,hheap,hos,htape,hout,hold⟩
 ·have hc:0 < η.c k:=by omega
  obtain ⟨hAv,m1,m2⟩:=hrow hc;obtain ⟨q1,q2,q3,q4,q5,q6⟩:=hw hc;refine xd0 (hexec _ _ hr) ?_;have hnl:(cs2.extract 0 (0+1*1)).toList.length=1:=by simpa using hns
  have s1:=s.write (w':=w') k hp.kr.1 ⟨T0,1,false,ts++[e]⟩ (putAt cs (ts.length*1) (cs2.extract 0 (0+1*1)).toList) (by rw [xc8];exact m2) (by simpa using hfit) Nat.one_pos (fun _=>rfl) hsupp
   (fun j e' hj=>by
    rcases hlk j e' hj with ⟨he',hjl⟩ | ⟨hjt,he'⟩
    ·simp only [];rw [xf6 (by omega) (fun _=>rfl) (.inl (by omega))];exact m3 hc j e' he'
    ·subst hjt he';have hpk:pick false 1 (putAt cs (ts.length*1) (cs2.extract 0 (0+1*1)).toList) (ts.length*1)=pick false 1 cs2 0:=by
      rw [<-hnp];simp only [pick,zdy];rw [zbk,zbk,xh7 _ _ _ _ (by omega),if_pos (by omega),zes,Nat.sub_self]
     simp only [];rw [hpk];exact hev)
   hc q1 q2 q3 q4 q5 q6 rfl
  have s2:=s1.rename (x7 _ _ _) hp.nk.1;have hcomm:upd (upd (upd h k (some ⟨T0,1,false,ts++[e]⟩)) k none) k' (some ⟨T0,1,false,ts++[e]⟩)=upd (upd h k none) k' (some ⟨T0,1,false,ts++[e]⟩):=by
   funext j;by_cases hj:j=k'
   ·subst hj;simp [x7]
   ·rw [x3 _ _ _ hj,x3 _ _ _ hj];by_cases hj2:j=k
    ·subst hj2;simp [x7]
    ·rw [x3 _ _ _ hj2,x3 _ _ _ hj2,x3 _ _ _ hj2]
  rw [hcomm] at s2;refine ⟨_,s2.put (hp.d _ rfl) (e:= .own (.sl k' 1 0 (ts.length+1))) ⟨A,?_,?_,?_⟩ ?_⟩
  ·simp [Env.set_c]
  ·simpa [Env.set_c] using hfit
  ·intro _;rw [hAv];simp [Env.set_b]
  ·intro j hj;simp only [Ent.supp,VP.supp,zbj] at hj;subst hj;simp
 ·refine xd0 (hexec _ _ hr) ?_;have hext:Ext w w':=⟨hos,htape,hout,by rw [hheap];simp,fun b hb=>by rw [hheap,zfe,if_neg (by omega)]⟩
  have hpos': ∀(j:Nat) (e:Ent),ts[j]? =some e->0 < η.c k:=fun j e he=>by
   have:=(zbo.1 he).1;omega
  have hdk:Keep (c.dom h η) (c.dom (upd h k none) η) w w:=Keep.drop k;have s2:=(s.drop k).new' k' hp.nk.1 ⟨T0,1,false,ts++[e]⟩ cap' w.heap.size (by simpa using hle) Nat.one_pos (fun _=>rfl) hmax hsupp hext (fun _=>⟨zbq _,cs.extract 0 (ts.length*1)++cs2.extract 0 (0+1*1)++rest',by rw [hheap];simp,by
    simp only [zff,hns,hrest,hold];omega,fun j e' hj=>by
    rcases hlk j e' hj with ⟨he',hjl⟩ | ⟨hjt,he'⟩
    ·simp only [];rw [Array.append_assoc,xe5 (by rw [hold];omega) (fun _=>rfl),xr2 (by omega) (by simp at hold;omega) (fun _=>rfl)];exact Ent.sat_go (m3 (hpos' j e' he') j e' he') hdk fun _ _=>⟨rfl,rfl⟩
    ·subst hjt he';have e2: ∀(A0 B0 C0:Array Value),A0.size=ts.length*1->B0.size=1->pick false 1 (A0++(B0++C0)) (ts.length*1)=pick false 1 B0 0:=fun A0 B0 C0 h1 h2=>by
      rw [<-h1,show A0.size=A0.size+0 from rfl,xk9 (by simp only [zff];omega) (fun _=>rfl),xe5 (by omega) (fun _=>rfl)]
     simp only [];rw [Array.append_assoc,e2 _ _ _ hold hns,hnp];exact Ent.sat_go hev hdk fun _ _=>⟨rfl,rfl⟩⟩)
  refine ⟨_,s2.put (hp.d _ rfl) (e:= .own (.sl k' 1 0 (ts.length+1))) ⟨some ⟨w.heap.size,0,none⟩,?_,?_,?_⟩ ?_⟩
  ·simp [Env.set_c]
  ·simpa [Env.set_c] using hle
  ·intro _;simp [Env.set_b]
  ·intro j hj;simp only [Ent.supp,VP.supp,zbj] at hj;subst hj;simp
end
def selS {α:Type}:List α->α->Nat->α
 | [],z,_=>z
 | x::_,_,0=>x
 | _::r,z,k+1=>selS r z k
section
variable {P:Program} {c:Base} {d ty:Nat} {pos:String} {af:Array Edge} {gd:Option (Nat×Bool)}
theorem d_boxC {T n k:Nat} {x:Operand} {cs:Array Value} (zs:List Value) (hc:cs.toList=zs) (hn:zs.length=n) (h63:Nat.ble n 9223372036854775807=true) {ts:List Ent} (hts:zs.map (fun v=>Ent.val (tE v))=ts):
  Does P c ⟨some d,.box T x,ty,pos,af,gd⟩ ⟨[(x,.val (tE (.agg cs)))],[],some (d,some (.own (.ptr k 0))),[(k,some ⟨T,1,false,ts⟩)],[k]⟩:=by
 intro g h al a w hp ⟨η,s⟩;subst hts hc;have hx:a.eval x= .agg cs:=(xa2 s hp.rd.1).1;have hnew:=s.new k hp.nk.1 ⟨T,1,false,cs.toList.map (fun v=>Ent.val (tE v))⟩ cs n (by rw [<-hn];simp) (by simp [<-hn]) Nat.one_pos (fun _=>rfl) (zdo h63)
  (fun j hj=>by
   simp only [HEnt.supp,zcc,zci] at hj;obtain ⟨e,⟨v,_,rfl⟩,hj⟩:=hj;cases hj) (fun i e' hi=>by
   simp only [zbs,zdd] at hi;obtain ⟨v,hv,rfl⟩:=hi;show pick false 1 cs (i*1)=v;have hv':cs[i]? =some v:=by simpa using hv
   simp [pick,hv'])
 have hcc:(a.eval x).cells=cs:=by rw [hx];rfl
 have hr:(execOp a.eval ⟨some d,.box T x,ty,pos,af,gd⟩).run P w= .ok (.value (.pointer (some ⟨w.heap.size,0,none⟩))) {w with heap:=w.heap.push (.cells (a.eval x).cells T)}:=by
  simp [execOp,Instr.box,newVar,newRow,newObj,Sem.run,go_sem]
 rw [hcc] at hr;refine xd0 hr ?_;refine ⟨_,hnew.put (hp.d _ rfl) ?_ ?_⟩
 ·show _=_;simp [Env.set_b]
 ·intro j hj;simp only [Ent.supp,VP.supp,zbj] at hj;subst hj;simp
end
section
variable {P:Program} {c:Base} {g:Slots} {h:Keys} {al:Names} {Q:Exit->Act->World->Prop}
theorem qa9 {A:Array Oper} {rest:List Oper} {t:Nat} {e e':Ent} (hg:g t=some e) (hi:Imp e e') (hs: ∀k∈e'.supp,k∈e.supp) (H:wl P c A Q rest (upd g t (some e')) h al):wl P c A Q rest g h al:=fun a w ⟨η,s⟩=>
 H a w ⟨η,⟨s.tn,s.df,fun q y hy=>by
  by_cases hq:q=t
  ·subst hq;rw [x7] at hy;cases hy;obtain ⟨h1,h2,h3⟩:=s.slot q e hg;exact ⟨h1,fun k hk=>h2 k (hs k hk),hi _ _ _ _ h3⟩
  ·rw [x3 _ _ _ hq] at hy;exact s.slot q y hy,s.key,s.inj,s.fr,s.lk,s.pin,s.vol,s.yal,s.jj,s.lbl⟩⟩
end
end An
namespace An.S
open Go Go.Proofs An Tryz
instance fo30_4:FoI Tryz.prog 30 4 4:=⟨by kernel_rfl⟩
instance fo30_5:FoI Tryz.prog 30 5 5:=⟨by kernel_rfl⟩
instance fi8:FnI Tryz.prog 8:=⟨_,func8,by kernel_rfl,rfl⟩
instance fi35:FnI Tryz.prog 35:=⟨_,func35,by kernel_rfl,rfl⟩
instance fi41:FnI Tryz.prog 41:=⟨_,func41,by kernel_rfl,rfl⟩
instance fi42:FnI Tryz.prog 42:=⟨_,func42,by kernel_rfl,rfl⟩
instance fi43:FnI Tryz.prog 43:=⟨_,func43,by kernel_rfl,rfl⟩
instance fi73:FnI Tryz.prog 73:=⟨_,func73,by kernel_rfl,rfl⟩
theorem hMS:MapF Tryz.prog 69 mkSU 0:=qm5 underlying69 zgu (fun w=>by kernel_rfl)
theorem maxN {a b:Nat}:max (a:Int) (b:Int)=((max a b:Nat):Int):=by omega
theorem jg3 (d:Int):
  Ct Tryz.prog 35 [tI d] (tB (decide (0<=d) && decide (d < 65536))):=by
 refine Ct.intro func35 rfl ntmps35 rfl ?_;intro w F;refine A10 ?_;refine RGcaseD (t:=5) rfl (fun h18=> ?_) (fun h18=> ?_)
 ·
  refine A7 ?_;exact E1 rfl rfl (zau (by simp [*]))
 ·
  refine A7 ?_;exact E1 rfl rfl (zau (by simp [*]))
theorem qp6 (a:List Fa):
  Ct Tryz.prog 43 [tL 11 true tFa a] (tT [tMp mkSU (if kOk a=true then some (kM a) else none),tB (kOk a)]):=by
 refine Ct.introM mkSU 90 func43 rfl ntmps43 rfl ?_;intro w F hM;refine xg9 (s:=0) rfl (fun hl0=> ?_);refine A7 ?_;refine xi3 ?_;refine jo8 hM (xk4 rfl) rfl rfl (fun bm=> ?_);refine xa9 xb0 qA trivial trivial rfl (xg3 ?_);refine A10 ?_;refine cL (fun (i:Nat)=>i<=a.length/\ ∀j,j < i->kBad (kM (a.take j)) (a.getD j fa0)=false) (fun (i:Nat)=>uV (uV (uV (uV (uV uN 0 (tL 11 true tFa a)) 4 (tE (.map (some bm)))) 9 (tL 11 true tFa a)) 10 (tI a.length)) 11 (tI i)) (fun (i:Nat)=>uK uN 90 (mkSU.cd bm (kM (a.take i))) 1 false []) [90] (fun (i:Nat)=>a.length - i) (0) ⟨zbt _,fun j hj=>by omega⟩ ?_;intro i hI;obtain ⟨hi,hok⟩:=hI;have hnx:=fun hh=>qj0 (a:=a) (i:=i) hh;have hbi:=yj2 (m:=kM (a.take i)) (f:=(a.getD i fa0));refine A6 ?_;refine x9 rfl (fun h35=> ?_) (fun h35=> ?_)
 ·
  refine A6 ?_;refine R2 (x5 sl33 (i) (by omega) (zai (l:=a) (n:=i) (d:=fa0))) rfl rfl ?_;refine A1 ?_;refine RE (xb8 (k:=6) (n:=11) (agg:=true) zr30.1 zr30.2 rfl) trivial trivial qA ?_;refine A8 ?_;refine RE (ji9 hMS hM bm (kM (a.take i)) (a.getD i fa0).key) qB qA trivial ?_;refine A9 ?_;refine RGcaseD (t:=21) rfl (fun h37=> ?_) (fun h37=> ?_)
  ·
   refine A5 ?_;refine RGcase (t:=26) rfl (fun h37_2=> ?_) (fun h37_2=> ?_)
   ·
    refine A3 ?_;refine xb9 h37_2 rfl rfl (0) ti5 rfl rfl rfl (At.t (At.g 5 rfl rfl) (At.g 0 rfl rfl)) rfl ?_;refine A4 ?_;refine x9 rfl (fun h37_3=> ?_) (fun h37_3=> ?_)
    ·
     refine A1 ?_;have hko:kOk a=false:=wc1 (a:=a) (i:=i) (by omega) (hbi.2 ⟨by simp only [kGet];omega,by simpa using h37_2,by simp only [kGet];omega⟩);refine A12 ?_;exact zw7 Plain.maps rfl rfl rfl (Le.of (by rw [if_neg (by rw [hko];decide)];rfl)) (zau hko.symm)
    ·
     refine A2 ?_;refine xi3 ?_;refine xa9 xa3 qA trivial trivial rfl (xa9 (xb5 fo30_0.h rfl) qA trivial trivial rfl (xo9 (0) ti9 rfl rfl rfl (At.g 0 rfl rfl) rfl rfl (xa9 xa3 qA trivial trivial rfl (xa9 (xb5 fo30_5.h rfl) qA trivial trivial rfl (xa9 (xb5 fo28_0.h rfl) qA trivial trivial rfl (xo9 (0) ti5 rfl rfl rfl (At.t (At.g 5 rfl rfl) (At.g 0 rfl rfl)) rfl rfl (xa9 (zc6) qB trivial trivial rfl (qa9 (t:=40) rfl (Imp.int maxN) (fun k hk=>by cases hk) (zi4 (b:=bm) (l:=(kM (a.take i))) (a:=(a.getD i fa0).key) (v:=(max (kGet (kM (a.take i)) (a.getD i fa0).key) (a.getD i fa0).v.kind)) hMS hM (xk4 rfl) rfl rfl rfl rfl (xg3 ?_))))))))));refine A6 ?_;have hnx:=hnx (by omega);have hnb:kBad (kM (a.take i)) (a.getD i fa0)=false:=Bool.eq_false_iff.2 fun hh=>by
      obtain ⟨b1,b2,b3⟩:=hbi.1 hh;simp only [kGet] at b1 b3
      first | omega | (exact absurd b2 (by simpa using h37_2))
     exact xf5 (i+1) ⟨⟨by omega,fun j hj=>by
  by_cases hji:j=i
  ·subst hji;exact hnb
  ·exact hok j (by omega)⟩,(by omega)⟩ (zae rfl (zae rfl (zan rfl (zan rfl (zan rfl zay))))) ((zaq (hT:=by rw [hnx];rfl) rfl (zat (by rw [hnx];rfl))) zax) (zaj (zaj (zaj (zaj (zaj zar))))) (zam rfl (supJL rfl) zaz) (lkOk rfl)
   ·
    refine A11 ?_;refine xi3 ?_;refine xa9 xa3 qA trivial trivial rfl (xa9 (xb5 fo30_0.h rfl) qA trivial trivial rfl (xo9 (0) ti9 rfl rfl rfl (At.g 0 rfl rfl) rfl rfl (xa9 xa3 qA trivial trivial rfl (xa9 (xb5 fo30_5.h rfl) qA trivial trivial rfl (xa9 (xb5 fo28_0.h rfl) qA trivial trivial rfl (xo9 (0) ti5 rfl rfl rfl (At.t (At.g 5 rfl rfl) (At.g 0 rfl rfl)) rfl rfl (xa9 (zc6) qB trivial trivial rfl (qa9 (t:=40) rfl (Imp.int maxN) (fun k hk=>by cases hk) (zi4 (b:=bm) (l:=(kM (a.take i))) (a:=(a.getD i fa0).key) (v:=(max (kGet (kM (a.take i)) (a.getD i fa0).key) (a.getD i fa0).v.kind)) hMS hM (xk4 rfl) rfl rfl rfl rfl (xg3 ?_))))))))));refine A6 ?_;have hnx:=hnx (by omega);have hnb:kBad (kM (a.take i)) (a.getD i fa0)=false:=Bool.eq_false_iff.2 fun hh=>by
     obtain ⟨b1,b2,b3⟩:=hbi.1 hh;simp only [kGet] at b1 b3
     first | omega | (exact absurd b2 (by simpa using h37_2))
    exact xf5 (i+1) ⟨⟨by omega,fun j hj=>by
  by_cases hji:j=i
  ·subst hji;exact hnb
  ·exact hok j (by omega)⟩,(by omega)⟩ (zae rfl (zae rfl (zan rfl (zan rfl (zan rfl zay))))) ((zaq (hT:=by rw [hnx];rfl) rfl (zat (by rw [hnx];rfl))) zax) (zaj (zaj (zaj (zaj (zaj zar))))) (zam rfl (supJL rfl) zaz) (lkOk rfl)
  ·
   refine A16 ?_;refine xi3 ?_;refine xa9 xa3 qA trivial trivial rfl (xa9 (xb5 fo30_0.h rfl) qA trivial trivial rfl (xo9 (0) ti9 rfl rfl rfl (At.g 0 rfl rfl) rfl rfl (xa9 xa3 qA trivial trivial rfl (xa9 (xb5 fo30_5.h rfl) qA trivial trivial rfl (xa9 (xb5 fo28_0.h rfl) qA trivial trivial rfl (xo9 (0) ti5 rfl rfl rfl (At.t (At.g 5 rfl rfl) (At.g 0 rfl rfl)) rfl rfl (xa9 (zc6) qB trivial trivial rfl (qa9 (t:=40) rfl (Imp.int maxN) (fun k hk=>by cases hk) (zi4 (b:=bm) (l:=(kM (a.take i))) (a:=(a.getD i fa0).key) (v:=(max (kGet (kM (a.take i)) (a.getD i fa0).key) (a.getD i fa0).v.kind)) hMS hM (xk4 rfl) rfl rfl rfl rfl (xg3 ?_))))))))));refine A6 ?_;have hnx:=hnx (by omega);have hnb:kBad (kM (a.take i)) (a.getD i fa0)=false:=Bool.eq_false_iff.2 fun hh=>by
    obtain ⟨b1,b2,b3⟩:=hbi.1 hh;simp only [kGet] at b1 b3
    first | omega | (exact absurd b2 (by simpa using h37_2))
   exact xf5 (i+1) ⟨⟨by omega,fun j hj=>by
  by_cases hji:j=i
  ·subst hji;exact hnb
  ·exact hok j (by omega)⟩,(by omega)⟩ (zae rfl (zae rfl (zan rfl (zan rfl (zan rfl zay))))) ((zaq (hT:=by rw [hnx];rfl) rfl (zat (by rw [hnx];rfl))) zax) (zaj (zaj (zaj (zaj (zaj zar))))) (zam rfl (supJL rfl) zaz) (lkOk rfl)
 ·
  refine A6 ?_;have hko:kOk a=true:=zdk.2 fun j hj=>by rw [hok j (by have:=zcx.1 hj;omega)];rfl
  refine A7 ?_;exact wf3 rfl rfl rfl rfl (by rw [if_pos hko,show i=a.length by omega,zcf]) (zau hko.symm)
instance ti128:TyI Tryz.prog 128 1 false:=⟨by kernel_rfl,by kernel_rfl⟩
instance sl127:SlI Tryz.prog 127 128 1 false:=⟨zgv,ti128⟩
instance fi11:FnI Tryz.prog 11:=⟨_,func11,by kernel_rfl,rfl⟩
instance fi40:FnI Tryz.prog 40:=⟨_,func40,by kernel_rfl,rfl⟩
instance fi44:FnI Tryz.prog 44:=⟨_,func44,by kernel_rfl,rfl⟩
instance fi45:FnI Tryz.prog 45:=⟨_,func45,by kernel_rfl,rfl⟩
instance fi46:FnI Tryz.prog 46:=⟨_,func46,by kernel_rfl,rfl⟩
instance fi49:FnI Tryz.prog 49:=⟨_,func49,by kernel_rfl,rfl⟩
instance fi57:FnI Tryz.prog 57:=⟨_,func57,by kernel_rfl,rfl⟩
instance fi87:FnI Tryz.prog 87:=⟨_,func87,by kernel_rfl,rfl⟩
theorem el55:ElI Tryz.prog 55 8 96 true (.agg #[.int .i64 0,.int .i64 0,.int .u8 0,.bool false,.slice none 0 0,.bool false,.slice none 0 0,.int .i64 0]):=⟨ti55,by kernel_rfl,by kernel_rfl⟩
theorem el128:ElI Tryz.prog 128 1 8 false (.pointer none):=⟨ti128,by kernel_rfl,by kernel_rfl⟩
theorem bu30:BuI Tryz.prog 30 (fun i=>[(0,1),(1,1),(2,1),(3,1),(4,1),(5,6)][i]?) (.agg #[.string ⟨#[]⟩,.int .i64 0,.int .i64 0,.int .i64 0,.bool false,.int .u8 0,.bool false,.slice none 0 0,.bool false,.slice none 0 0,.int .i64 0]):=BuI.struct underlying30 (by kernel_rfl) (by kernel_rfl)
theorem bu55:BuI Tryz.prog 55 (fun i=>[(0,1),(1,1),(2,6)][i]?) (.agg #[.int .i64 0,.int .i64 0,.int .u8 0,.bool false,.slice none 0 0,.bool false,.slice none 0 0,.int .i64 0]):=BuI.struct underlying55 (by kernel_rfl) (by kernel_rfl)
theorem zf55:Flat 8 true (.agg #[.int .i64 0,.int .i64 0,.int .u8 0,.bool false,.slice none 0 0,.bool false,.slice none 0 0,.int .i64 0]):=xv1 (by intro u hu;simp at hu;rcases hu with rfl | rfl | rfl | rfl | rfl | rfl | rfl | rfl <;> rfl)
instance un127:UnI Tryz.prog 127 (.slice 128):=⟨zgv⟩
def smF (a:List Fa):Prop:= ∀f∈a,f.v.f.n.l.length<=1000000/\f.v.f.d.l.length<=1000000
theorem xk5 {a:List Fa} {key:ByteArray} {kn:Int} {f:Fa} (h:f∈toldT a key kn):f∈a/\f.key=key/\f.kn<=kn:=by
 have h1:=List.mem_filter.1 (y5.1 h);have h2:=h1.2;simp only [zbv,zbw] at h2;exact ⟨h1.1,h2.1,h2.2⟩
def faG:Fa:=⟨⟨#[]⟩,0,0,0,true,An.va0⟩
def atF (a:List Fa) (key:ByteArray) (d kn:Int):Option Va:=if recOk a=true then gF (toldT a key kn) d else none
theorem jv9 {a:List Fa} (h:recOk a=true) {f:Fa} (hf:f∈a) (hg:f.gone=true):f.v=An.va0:=by
 simp only [recOk,zbv,zdk] at h;have h1:=h.1.2 f hf;rw [fRight,if_pos hg] at h1;simp only [zbv,zbw] at h1;exact h1.2
theorem at_end {a:List Fa} {key:ByteArray} {d kn:Int} {o:Option Fa} (h:recOk a=true) (ho:o=lastF (toldT a key kn) d):(o.getD faG).v=(atF a key d kn).getD An.va0/\(!(o.getD faG).gone)=(atF a key d kn).isSome:=by
 rw [atF,if_pos h,gF,<-ho];cases o with
 | none=>exact ⟨rfl,rfl⟩
 | some f=>
  have hm:=(xk5 (xj2 ho.symm).1).1;simp only [Option.getD_some,valF];by_cases hg:f.gone=true
  ·rw [if_pos hg,hg,jv9 h hm hg];exact ⟨rfl,rfl⟩
  ·rw [if_neg hg];simp at hg;rw [hg];exact ⟨rfl,rfl⟩
end An.S
namespace An.S
open Go
def w8 (n:Nat):UInt8:=UInt8.ofNat n
theorem w8_nat {n:Nat} (h:n < 256):(w8 n).toNat=n:=by simp [w8];omega
theorem w8_inj {m n:Nat} (hm:m < 256) (hn:n < 256) (h:w8 m=w8 n):m=n:=by
 have:=congrArg UInt8.toNat h
 rwa [w8_nat hm,w8_nat hn] at this
def decB (n:Nat):List UInt8:=if n < 10 then [w8 (48+n)] else [w8 (48+n / 10),w8 (48+n%10)]
def limB (x:Nat):List UInt8:=[w8 (x / 256),w8 (x%256)]
def booB (b:Bool):List UInt8:=if b=true then [116,114,117,101] else [102,97,108,115,101]
def limsB (l:List Nat):List UInt8:=l.flatMap limB
def whB (n:Wh):List UInt8:=32::(booB n.neg++32::(decB n.l.length++limsB n.l))
def txtB (v:Va):List UInt8:=decB v.i.toNat++(whB v.f.n++whB v.f.d)
def txt (f:Fa):ByteArray:=if f.gone=true then ⟨#[]⟩ else strOf (txtB f.v)
def txOk (v:Va):Prop:=0<=v.i/\v.i < 100/\v.f.n.l.length < 10/\v.f.d.l.length < 10/\v.f.dig
theorem jz3 {m n:Nat} {r s:List UInt8} (hm:m < 100) (hn:n < 100) (h:decB m++32::r=decB n++32::s):m=n/\r=s:=by
 have e32:(32:UInt8)=w8 32:=rfl;rw [e32] at h;unfold decB at h;split at h <;> split at h <;> simp only [List.cons_append,List.nil_append,List.cons.injEq] at h
 ·exact ⟨by have:=w8_inj (by omega) (by omega) h.1;omega,h.2.2⟩
 ·exfalso;have:=w8_inj (by omega) (by omega) h.2.1;omega
 ·exfalso;have:=w8_inj (by omega) (by omega) h.2.1;omega
 ·exact ⟨by have:=w8_inj (by omega) (by omega) h.1;have:=w8_inj (by omega) (by omega) h.2.1;omega,h.2.2.2⟩
theorem wa8 {b c:Bool} {r s:List UInt8} (h:booB b++r=booB c++s):b=c/\r=s:=by
 cases b <;> cases c <;> simp only [booB,zfm,if_false,if_true,List.cons_append,List.nil_append,List.cons.injEq] at h
 ·exact ⟨rfl,h.2.2.2.2.2⟩
 ·exact absurd h.1 (by decide)
 ·exact absurd h.1 (by decide)
 ·exact ⟨rfl,h.2.2.2.2⟩
theorem xp1 {l:List Nat}:(limsB l).length=2*l.length:=by
 induction l with
 | nil=>rfl
 | cons x r ih=>rw [limsB,zed,zbm,<-limsB,ih];simp [limB];omega
theorem zt3: ∀{l m:List Nat},(∀x∈l,x < 65536)->(∀x∈m,x < 65536)->limsB l=limsB m->l=m
 | [],[],_,_,_=>rfl
 | [],y::s,_,_,h=>by have:=congrArg List.length h;rw [xp1,xp1] at this;simp at this
 | x::r,[],_,_,h=>by have:=congrArg List.length h;rw [xp1,xp1] at this;simp at this
 | x::r,y::s,h1,h2,h=>by
  have e: ∀(a:Nat) (t:List Nat),limsB (a::t)=w8 (a / 256)::w8 (a%256)::limsB t:=fun a t=>by simp [limsB,limB]
  rw [e,e] at h;simp only [List.cons.injEq] at h;have b1:=h1 x (zby ..);have b2:=h2 y (zby ..);have g1:=w8_inj (by omega) (by omega) h.1;have g2:=w8_inj (by omega) (by omega) h.2.1;rw [zt3 (fun z hz=>h1 z (zcd _ hz)) (fun z hz=>h2 z (zcd _ hz)) h.2.2,show x=y by omega]
theorem jk8 {l:List Nat} {i:Nat} (hi:i < l.length):limsB (l.take (i+1))=limsB (l.take i)++[w8 (l.getD i 0 / 256),w8 (l.getD i 0%256)]:=by
 rw [zca hi,limsB,zeg,zbh,zbi hi];simp [limsB,limB]
theorem wh_inj {x y:Wh} {r s:List UInt8} (hx:x.l.length < 10) (hy:y.l.length < 10) (dx: ∀z∈x.l,z < 65536) (dy: ∀z∈y.l,z < 65536) (h:whB x++r=whB y++s):x=y/\r=s:=by
 unfold whB at h;simp only [List.cons_append,List.cons.injEq,zdg,true_and] at h;obtain ⟨h1,h2⟩:=wa8 h;simp only [List.cons.injEq,true_and] at h2;unfold decB at h2;rw [if_pos hx,if_pos hy] at h2;simp only [List.cons_append,List.nil_append,List.cons.injEq] at h2;have h3:=w8_inj (by omega) (by omega) h2.1;have h4:=List.append_inj h2.2 (by rw [xp1,xp1];omega);have h5:=zt3 dx dy h4.1;rcases x with ⟨a,l⟩;rcases y with ⟨b,m⟩;simp only at h1 h5;subst h1 h5;exact ⟨rfl,h4.2⟩
theorem we7 {u v:Va} (hu:txOk u) (hv:txOk v) (h:txtB u=txtB v):u.i=v.i/\u.f=v.f:=by
 obtain ⟨a1,a2,a3,a4,a5⟩:=hu;obtain ⟨b1,b2,b3,b4,b5⟩:=hv;unfold txtB at h;have e: ∀x:Wh,∃t,whB x=32::t:=fun x=>⟨_,rfl⟩
 obtain ⟨t1,e1⟩:=e u.f.n;obtain ⟨t2,e2⟩:=e v.f.n;have h0:=h;rw [e1,e2,List.cons_append,List.cons_append] at h0;obtain ⟨c1,c2⟩:=jz3 (by omega) (by omega) h0;rw [c1] at h;have h1:=List.append_cancel_left h;obtain ⟨d1,d2⟩:=wh_inj a3 b3 a5.1 b5.1 h1;have d3:=wh_inj (r:=[]) (s:=[]) a4 b4 a5.2 b5.2 (by simpa using d2);exact ⟨by omega,by rcases hf:u.f with ⟨n,d⟩;rcases hg:v.f with ⟨n',d'⟩;rw [hf,hg] at d1 d3;simp only at d1 d3;rw [d1,d3.1]⟩
theorem wa9 (n:Nat):0 < (decB n).length:=by unfold decB;split <;> simp
theorem qi6 (v:Va):0 < (txtB v).length:=by rw [txtB,zbm];have:=wa9 v.i.toNat;omega
end An.S
namespace An
open Go
def tLK {α:Type} (es:Nat) (agg:Bool) (f:α->Ty) (xs ms:List α):Ty:=
 ⟨fun F w v=> ∃A c,v= .slice A xs.length c/\(tL es agg f (xs++ms)).p F w (.slice A (xs.length+ms.length) c),fun ⟨A,c,h1,h2⟩ hk=>⟨A,c,h1,(tL es agg f (xs++ms)).mono h2 hk⟩⟩
theorem ja6 {α:Type} {es:Nat} {agg:Bool} {f:α->Ty} {xs ms:List α}:Le (tLK es agg f xs ms) (tL es agg f xs):=fun F w v ⟨A,c,h1,h2⟩=>by
 obtain ⟨A',c',e,h3,h4,h5⟩:=h2;injection e with e1 e2 e3;subst e1 e3;refine ⟨A,c,h1,by simp at h3;omega,h4,?_⟩;rcases h5 with h5 | ⟨b,o,h6,h7,h8⟩
 ·exact .inl (List.append_eq_nil_iff.1 h5).1
 ·exact .inr ⟨b,o,h6,h7,fun i x hi=>h8 i x (by rw [zct (zbo.1 hi).1];exact hi)⟩
instance {α:Type} {es:Nat} {agg:Bool} {f:α->Ty} {xs ms:List α}:Shape (tLK es agg f xs ms) 1 false:=⟨fun ⟨_,_,h,_⟩=>by rw [h];exact xd2 rfl⟩
def LeFs:List Fd->List Fd->Prop
 | [],[]=>True
 | f::r,g::s=>(f.n=g.n/\f.agg=g.agg/\Le f.t g.t)/\LeFs r s
 | _,_=>False
theorem LeFs.sum: ∀{fs gs:List Fd},LeFs fs gs->Fd.sum fs=Fd.sum gs
 | [],[],_=>rfl
 | _::_,_::_,h=>by rw [Fd.sum,Fd.sum,h.1.1,LeFs.sum h.2]
 | [],_::_,h=>h.elim
 | _::_,[],h=>h.elim
theorem LeFs.all {F:Dom} {w:World} {cs:Array Value}: ∀{fs gs:List Fd} {o:Nat},LeFs fs gs->Fd.all F w cs o fs->Fd.all F w cs o gs
 | [],[],_,_,h=>h
 | f::r,g::s,o,h,ha=>by
  obtain ⟨⟨h1,h2,h3⟩,h4⟩:=h;refine ⟨⟨by rw [<-h1,<-h2];exact ha.1.1,by rw [<-h1,<-h2];exact h3 _ _ _ ha.1.2⟩,?_⟩;rw [<-h1];exact LeFs.all h4 ha.2
 | [],_::_,_,h,_=>h.elim
 | _::_,[],_,h,_=>h.elim
theorem Le.tS {fs gs:List Fd} (h:LeFs fs gs):Le (tS fs) (tS gs):=fun _ _ _ ⟨cs,h1,h2,h3⟩=>⟨cs,h1,h2.trans h.sum,h.all h3⟩
theorem add0 {A:Option Addr} {es:Nat}:A.map (·.add (0*es))=A:=by cases A <;> simp [Addr.add]
section
variable {P:Program} {c:Base} {d ty:Nat} {pos:String} {af:Array Edge} {gd:Option (Nat×Bool)}
theorem d_lenK {T:TypeId} {x:Operand} {α:Type} {es:Nat} {agg:Bool} {f:α->Ty} {xs ms:List α} {E:TypeId} (hT:P.underlying T=some (.slice E)):
  Does P c ⟨some d,.call {callee:= .builtin .len,args:= #[x],argTypes:= #[T]},ty,pos,af,gd⟩ ⟨[(x,.val (tLK es agg f xs ms))],[],some (d,some (.val (tI xs.length))),[],[]⟩:=
 Does.value rfl fun g h al a w η hrd _ s=>by
  obtain ⟨A,cc,h1,_⟩:=(xa2 s hrd.1).1;have h1:a.eval x= .slice A xs.length cc:=h1;exact ⟨_,w,by simp only [execOp,resolve,invoke,builtin,zcs,zcy,zfg,h1];simp [Builtin.len_,run_underlying hT,goInt,go_sem],Ext.refl w,rfl,fun k hk=>by cases hk⟩
theorem jw3 {T E es:Nat} {agg:Bool} {α:Type} {f:α->Ty} {xs ms:List α} {x y:Operand} {v:Int} (sl:SlI P T E es agg) (hv:v=((xs.length+ms.length:Nat):Int)):
  Does P c ⟨some d,.slice T x none (some y) none,ty,pos,af,gd⟩ ⟨[(x,.val (tLK es agg f xs ms)),(y,.val (tI v))],[],some (d,some (.val (tL es agg f (xs++ms)))),[],[]⟩:=by
 subst hv;exact Does.value rfl fun g h al a w η hrd _ s=>by
  obtain ⟨A,cap,hA,hm⟩:=(xa2 s hrd.1).1;have hA:a.eval x= .slice A xs.length cap:=hA;have hle:xs.length+ms.length<=cap:=by
   obtain ⟨_,_,e,h1,_⟩:=hm;injection e with e1 e2 e3;subst e3;simpa using h1
  have hb:=xn6 (P:=P) (b:=true) (len:=xs.length) (cap:=cap) s (lo:=none) (hi:=some y) (l:=0) (u:=xs.length+ms.length) (fun _=>rfl) (fun h=>by cases h) hrd.2 (zbt _) hle;simp only [zeo] at hb;refine ⟨.slice (if cap=0 then A else A.map (·.add (0*es))) (xs.length+ms.length - 0) (cap - 0),w,?_,Ext.refl w,?_,fun j hj=>by cases hj⟩
  ·simp only [execOp,hA,Instr.sliceAt,zbu,zcj sl.und,zbn,Instr.slice,zeo,hb,sl.el.size_run w,zbx]
  ·have e:(if cap=0 then A else A.map (·.add (0*es)))=A:=by
    split
    ·rfl
    ·exact add0
   rw [e];exact hm
end
def tG (G:Dom) (t:Ty):Ty:=⟨fun F w v=>t.p (fun b=>F b/\G b) w v,fun h hk=>t.mono h fun b o hb hl hd=>⟨⟨(hk b o hb.1 hl hd).1,hb.2⟩,(hk b o hb.1 hl hd).2⟩⟩
theorem ye5 {G:Dom} {t:Ty}:Le (tG G t) t:=fun _ _ _ h=>t.mono h fun _ _ hb hl _=>⟨hb.1,hl⟩
theorem jk4 {G G':Dom} {t:Ty} (h: ∀b,G b->G' b):Le (tG G t) (tG G' t):=fun _ _ _ hp=>t.mono hp fun _ _ hb hl _=>⟨⟨hb.1,h _ hb.2⟩,hl⟩
theorem wg7 {G:Dom} {t u:Ty} (h:Le t u):Le (tG G t) (tG G u):=fun _ _ _ hp=>h _ _ _ hp
theorem xf9 {G:Dom} {v:Value}:Le (tE v) (tG G (tE v)):=fun _ _ _ h=>h
theorem Le.trans {t u v:Ty} (h:Le t u) (k:Le u v):Le t v:=fun _ _ _ hp=>k _ _ _ (h _ _ _ hp)
def LeGs (G:Dom):List Fd->List Fd->Prop
 | [],[]=>True
 | f::r,g::s=>(f.n=g.n/\f.agg=g.agg/\Le f.t (tG G g.t))/\LeGs G r s
 | _,_=>False
theorem LeGs.sum {G:Dom}: ∀{fs gs:List Fd},LeGs G fs gs->Fd.sum fs=Fd.sum gs
 | [],[],_=>rfl
 | _::_,_::_,h=>by rw [Fd.sum,Fd.sum,h.1.1,LeGs.sum h.2]
 | [],_::_,h=>h.elim
 | _::_,[],h=>h.elim
theorem LeGs.all {G F:Dom} {w:World} {cs:Array Value}: ∀{fs gs:List Fd} {o:Nat},LeGs G fs gs->Fd.all F w cs o fs->Fd.all (fun b=>F b/\G b) w cs o gs
 | [],[],_,_,_=>trivial
 | f::r,g::s,o,h,ha=>by
  obtain ⟨⟨h1,h2,h3⟩,h4⟩:=h;refine ⟨⟨by rw [<-h1,<-h2];exact ha.1.1,by rw [<-h1,<-h2];exact h3 _ _ _ ha.1.2⟩,?_⟩;rw [<-h1];exact LeGs.all h4 ha.2
 | [],_::_,_,h,_=>h.elim
 | _::_,[],_,h,_=>h.elim
theorem xk0 {G:Dom} {fs gs:List Fd} (h:LeGs G fs gs):Le (tS fs) (tG G (tS gs)):=fun _ _ _ ⟨cs,h1,h2,h3⟩=>⟨cs,h1,h2.trans h.sum,h.all h3⟩
theorem le_L {α:Type} {es:Nat} {agg:Bool} {f g:α->Ty} {xs:List α} (h: ∀x,Le (f x) (g x)):Le (tL es agg f xs) (tL es agg g xs):=fun _ _ _ ⟨A,c,h1,h2,h3,h4⟩=>
 ⟨A,c,h1,h2,h3,h4.imp id fun ⟨b,o,e,hb,hx⟩=>⟨b,o,e,hb,fun i x hi=>let ⟨u,hm,hu⟩:=hx i x hi;⟨u,hm,h x _ _ _ hu⟩⟩⟩
instance {G:Dom} {t:Ty} {n:Nat} {agg:Bool} [h:Shape t n agg]:Shape (tG G t) n agg:=⟨fun hp=>h.flat (F:=fun b=>_/\G b) hp⟩
theorem qo7 {G:Dom} {α:Type} {es:Nat} {agg:Bool} {f:α->Ty}:Le (tL es agg f []) (tG G (tL es agg f [])):=fun _ _ _ ⟨A,c,h1,h2,h3,_⟩=>⟨A,c,h1,h2,h3,.inl rfl⟩
def Free (t:Ty):Prop:= ∀F F' w w' v,t.p F w v->t.p F' w' v
def Frees:List Ty->Prop
 | []=>True
 | t::r=>Free t/\Frees r
theorem Free.E {u:Value}:Free (tE u):=fun _ _ _ _ _ h=>h
def CtN (P:Program) (f:FuncId) (ts:List Ty) (rr:Nat->Ty):Prop:=
 ∀(F:Dom) (w:World) (vs:List Value),Tup.all F w ts vs->Calls P f vs.toArray w fun e w'=> ∃v,e= .returned v/\Ext w w'/\(rr w.heap.size).p (fun b=>w.heap.size<=b∨F b) w' v
abbrev up (n:Nat):Dom:=fun b=>n<=b
theorem CtN.toCt {P:Program} {f:FuncId} {ts:List Ty} {rr:Nat->Ty} {r:Ty} (h:CtN P f ts rr) (hr: ∀n,Le (rr n) r):Ct P f ts r:=fun F w vs hv=>(h F w vs hv).mono fun _ _ ⟨v,h1,h2,h3⟩=>⟨v,h1,h2,hr _ _ _ _ h3⟩
section
variable {P:Program}
theorem CtN.intro' {f:FuncId} {fn:Func} {x:Code} {N:Nat} {ts:List Ty} (tt:Nat->List Ty) {rr:Nat->Ty} (hf:P.funcs[f]? =some fn) (hb:fn.body=some x) (hN:fn.ntmps=N) (hlb:Nat.ble ts.length N=true)
  (hl2: ∀n,(tt n).length=ts.length) (htt: ∀F w vs,Tup.all F w ts vs->Tup.all F w (tt w.heap.size) vs)
  (H: ∀w F,wc P (Base.plain N w F) x (Post P w F fn (rr w.heap.size)) (args 0 (tt w.heap.size)) (fun _=>none) (fun _=>false)):CtN P f ts rr:=by
 intro F w vs hvs0;have hvs:=htt F w vs hvs0;have hl:(tt w.heap.size).length<=N:=by rw [hl2];exact zdo hlb
 generalize htq:tt w.heap.size=tq at*
 have hlen:vs.length=tq.length:=by
  clear H hlb hl hl2 htt hvs0 htq
  induction tq generalizing vs with
  | nil=>cases vs with
   | nil=>rfl
   | cons=>exact hvs.elim
  | cons t r ih=>cases vs with
   | nil=>exact hvs.elim
   | cons v s=>simp [ih s hvs.2]
 have H':=H w F;rw [htq] at H';refine xh6 hf hb (H' _ w ⟨⟨fun _=>0,fun _=>0,fun _=>False⟩,?_⟩);refine ⟨?_,rfl,fun s e hs=> ?_,fun k x hx=>(by cases hx),fun k k' x x' hx=>(by cases hx),⟨rfl,rfl,rfl,zbq _,fun _ _ _ _=>rfl,fun _ hb=>hb,fun _ hb=>hb.elim⟩,fun x hx=>(by cases hx),fun x hx=>(by cases hx),fun b hb=>hb.elim,fun k hk=>(by cases hk),fun k x hk=>(by cases hk),fun b hb=>hb.elim⟩
 ·simp [hlen,hN,Base.plain];omega
 ·obtain ⟨j,t,h1,h2,h3⟩:=ye2 tq 0 s e hs;subst h3;have hj:j < tq.length:=(zbo.1 h2).1;obtain ⟨v,hv,hp⟩:=Tup.get tq vs j t hvs h2;refine ⟨by show s < N;omega,fun k hk=>(by cases hk),?_⟩;have e1:(vs.toArray++Array.replicate (fn.ntmps - vs.toArray.size) undef).getD s undef=v:=by
   rw [zbk,zfh,if_pos (by simp;omega)];rw [h1,zcn,zer,hv];rfl
  show t.p _ w _;simp only [e1];exact t.mono hp fun b o hb hl _=>⟨⟨.inr ⟨hb,fun hv=>hv⟩,fun ⟨k,x,hk,_⟩=>(by cases hk),fun hv=>hv,fun hv=>hv⟩,hl⟩
theorem CtN.intro {f:FuncId} {fn:Func} {x:Code} {N:Nat} {ts:List Ty} {rr:Nat->Ty} (hf:P.funcs[f]? =some fn) (hb:fn.body=some x) (hN:fn.ntmps=N) (hlb:Nat.ble ts.length N=true)
  (H: ∀w F,wc P (Base.plain N w F) x (Post P w F fn (rr w.heap.size)) (args 0 ts) (fun _=>none) (fun _=>false)):CtN P f ts rr:=CtN.intro' (fun _=>ts) hf hb hN hlb (fun _=>rfl) (fun _ _ _ h=>h) H
theorem qi0 {F:Dom} {w:World}: ∀{ts:List Ty} {vs:List Value},Tup.all F w ts vs->Tup.all F w (ts.map (tG fun b=>b < w.heap.size)) vs
 | [],[],_=>trivial
 | t::_,_::_,h=>⟨t.mono h.1 fun _ _ hb hl _=>⟨⟨hb,xa7 hl⟩,hl⟩,qi0 h.2⟩
 | [],_::_,h=>h.elim
 | _::_,[],h=>h.elim
theorem Ct.introO {f:FuncId} {fn:Func} {x:Code} {N:Nat} {ts:List Ty} {r:Ty} (hf:P.funcs[f]? =some fn) (hb:fn.body=some x) (hN:fn.ntmps=N) (hlb:Nat.ble ts.length N=true)
  (H: ∀w F,wc P (Base.plain N w F) x (Post P w F fn r) (args 0 (ts.map (tG fun b=>b < w.heap.size))) (fun _=>none) (fun _=>false)):Ct P f ts r:=
 CtN.toCt (rr:=fun _=>r) (CtN.intro' (fun n=>ts.map (tG fun b=>b < n)) hf hb hN hlb (fun _=>zch ..) (fun _ _ _ h=>qi0 h) H) fun _=>zao
variable {c:Base} {d ty:Nat} {pos:String} {af:Array Edge} {gd:Option (Nat×Bool)}
theorem yf2 {g:Slots} {h:Keys} {al:Nat->Bool} {a:Act} {w:World} {η:Env} (s:St' c g h al a w η) {b:Nat} (hb:w.heap.size<=b):c.dom h η b:=by
 refine ⟨.inl (zdc s.fr.size hb),fun ho=> ?_,fun hv=> ?_,fun hv=> ?_⟩
 ·have:=s.olt ho;omega
 ·have:=(s.fr.vnew b hv).1;omega
 ·have:=s.vol b hv;omega
theorem xm0 {f:FuncId} {xs:List Operand} {aT:Array TypeId} {ts us:List Ty} {rr:Nat->Ty} {r:Ty} (hc:CtN P f us rr) (hf:FnI P f) (hr: ∀m,c.w0.heap.size<=m->Le (rr m) r) (hle:LeL ts us) (hl:xs.length=ts.length):
  Does P c ⟨some d,.call {callee:= .value (.func f),args:=xs.toArray,argTypes:=aT},ty,pos,af,gd⟩ ⟨xs.zip (ts.map Ent.val),[],some (d,some (.val r)),[],[]⟩:=by
 intro g h al a w hp ⟨η,s⟩;obtain ⟨fn,h1,h2,h3⟩:=hf;have hargs:=hle.all (Tup.all_of s xs ts hp.rd hl);have hrun:(execOp a.eval ⟨some d,.call {callee:= .value (.func f),args:=xs.toArray,argTypes:=aT},ty,pos,af,gd⟩).run P w= .ok (.enter f (xs.map a.eval).toArray) w:=by
  simp only [execOp,resolve,Act.eval,Deferred.ofValue,zbu,zbx,zbn,invoke];simp only [zdu,zdj,zcs];exact xd1 h1 h2 h3 _ w
 refine xe6 hrun (zei (hc _ w (xs.map a.eval) hargs) ?_);rintro e w' ⟨v,rfl,hext,hv⟩;refine ⟨v,rfl,η,(s.ext hext).put (hp.d _ rfl) (e:= .val r) (hr _ s.fr.size _ _ _ ((rr _).mono hv fun b o hb hl _=>⟨?_,hl⟩)) (fun k hk=>by cases hk)⟩;rcases hb with hb | hb
 ·exact yf2 s hb
 ·exact hb
end
section
variable {P:Program} {c:Base} {d ty:Nat} {pos:String} {af:Array Edge} {gd:Option (Nat×Bool)}
end
section
variable {P:Program} {c:Base} {g:Slots} {h:Keys} {al:Names} {d ty:Nat} {pos:String} {af:Array Edge} {gd:Option (Nat×Bool)}
end
structure OvJ where
  D:Dom
  J:Nat->World->Prop
  loc: ∀n w w',J n w->w.heap.size<=w'.heap.size->(∀b,D b->b < w.heap.size->w'.heap[b]? =w.heap[b]?)->J n w'
def OvJ.JO (X:OvJ) (n:Nat) (O V:Dom) (w:World):Prop:=X.J n w/\ ∀b,X.D b->V b/\ ¬O b/\b < w.heap.size
theorem OvJ.Jc (X:OvJ):JcOf X.JO:=by
 rintro n O O' V w w' ⟨h1,h2⟩ hs hO;refine ⟨X.loc n w w' h1 hs.size fun b hb hlt=>hs.block b hlt (h2 b hb).2.1,fun b hb=>⟨(h2 b hb).1,fun h'=> ?_,zce (h2 b hb).2.2 hs.size⟩⟩;rcases (hO b h').2 with h3 | h3
 ·exact (h2 b hb).2.1 h3
 ·have:=(h2 b hb).2.2;omega
def envK (η:Env) (K:Nat):Env:=⟨η.b,fun k=>if k=K then 0 else η.c k,fun _=>False⟩
def Base.over (N:Nat) (w:World) (F:Dom) (η:Env) (l0:List Nat) (H:List (Nat×HEnt)) (K:Nat) (X:OvJ):Base:=⟨N,w,F,K::l0,envK η K,OwnK η H,none,[],[],fun _=>False,some K,X.D,X.JO,X.Jc⟩
def CtV (P:Program) (X:OvJ) (f:FuncId) (H:List (Nat×HEnt)) (ps:List Ent) (n m:Nat):Prop:=
 ∀(w:World) (η:Env) (vs:List Value),SatL (fun _=>False) w η ps vs->AllK (fun _=>False) w η H->InjK η H->(∀b,X.D b->b < w.heap.size/\ ¬OwnK η H b)->X.J n w->
  Calls P f vs.toArray w fun e w'=>e= .returned (.tuple #[])/\Stp (fun b=>OwnK η H b∨X.D b) w w'/\X.J m w'
def PostV (P:Program) (X:OvJ) (w:World) (η:Env) (fn:Func) (H:List (Nat×HEnt)) (m:Nat):Exit->Act->World->Prop:=PostR P fn fun v w'=>v= .tuple #[]/\Stp (fun b=>OwnK η H b∨X.D b) w w'/\X.J m w'
structure OvC (c:Base) (w:World) (η:Env) (H:List (Nat×HEnt)) (K:Nat) (X:OvJ):Prop where
  w0:c.w0=w
  lb:c.lb=OwnK η H
  yk:c.yk=some K
  V0:c.V0=X.D
  J:c.J=X.JO
  df:dfB c.df c.pn
  ln:K∈c.ln
  c0:c.lη.c K=0
theorem OvC.mk' {N:Nat} {w:World} {F:Dom} {η:Env} {l0:List Nat} {H:List (Nat×HEnt)} {K:Nat} {X:OvJ}:OvC (Base.over N w F η l0 H K X) w η H K X:=⟨rfl,rfl,rfl,rfl,rfl,trivial,by simp [Base.over],by simp [Base.over,envK]⟩
section
variable {P:Program} {X:OvJ}
theorem CtV.intro {f:FuncId} {fn:Func} {x:Code} {N n m:Nat} {H:List (Nat×HEnt)} {ps:List Ent} (K:Nat) (l0:List Nat) (hf:P.funcs[f]? =some fn) (hb:fn.body=some x) (hN:fn.ntmps=N) (hlb:Nat.ble ps.length N=true) (hl0:subN (suppE ps) l0=true) (hlH:SupHs H l0) (hK:memN K l0=false)
  (hw: ∀w η,OvC (Base.over N w (fun _=>False) η l0 H K X) w η H K X->wc P (Base.over N w (fun _=>False) η l0 H K X) x (PostV P X w η fn H m) (argsE 0 ps) (keysOf ((K,⟨n,1,false,[]⟩)::H)) (nm (K::l0))):CtV P X f H ps n m:=by
 intro w η vs hvs hAK hinj hD hJ;have hl:ps.length<=N:=zdo hlb;have hlen:=hvs.len;have hKl: ∀k∈l0,k≠K:=fun k hk e=>by subst e;rw [xb2.2 hk] at hK;cases hK
 have hmem: ∀k∈suppE ps++suppH H,k∈l0:=fun k hk=>by
  rcases zbp.1 hk with hk | hk
  ·exact xe8 hl0 k hk
  ·exact hlH.spec k hk
 have hKH: ∀x∈H,x.1≠K:=fun x hx=>hKl _ (hmem _ (zbp.2 (.inr (zcc.2 ⟨x,hx,by simp⟩))));have hc: ∀k,k≠K->(envK η K).c k=η.c k:=fun k hk=>by simp [envK,hk]
 have hcK:(envK η K).c K=0:=by simp [envK]
 have hal: ∀k∈l0,nm (K::l0) k=true:=fun k hk=>xb2.2 (by simp [hk]);refine zei (xh6 (R:=fun v w'=>v= .tuple #[]/\Stp (fun b=>OwnK η H b∨X.D b) w w'/\X.J m w') hf hb (hw w η OvC.mk' _ w ⟨⟨η.b,(envK η K).c,X.D⟩,?_⟩)) (fun e w' ⟨v,he,hv,hr⟩=>⟨by rw [he,hv],hr⟩);have hKp: ∀F',Keep (fun _=>False) F' w w:=fun F' b o hb=>hb.elim;have hown: ∀b,Own (keysOf ((K,⟨n,1,false,[]⟩)::H)) ⟨η.b,(envK η K).c,X.D⟩ b->OwnK η H b:=by
  rintro b ⟨k,x,hk,hck,rfl⟩;rcases zbr.1 (xd4 hk) with e | hm
  ·cases e;simp only [hcK] at hck;omega
  ·have hne:=hKH _ hm;simp only at hne hck;exact ⟨(k,x),hm,by rw [<-hc k hne];exact hck,rfl⟩
 refine ⟨?_,rfl,fun s e hs=> ?_,fun k x hx=> ?_,fun k k' x x' hx hx' hne hck hck'=> ?_,⟨rfl,rfl,rfl,zbq _,fun _ _ _ _=>rfl,fun _ hb=>hb,fun b hb=>⟨(hD b hb).1,rfl,.inl hb⟩⟩,fun k hk=>⟨xb2.2 hk,rfl,rfl⟩,fun x hx=>(by cases hx),fun b hb=>hb.elim,fun k hk=>(by cases hk;exact xb2.2 (by simp)),fun k x hk hx=> ?_,fun b hb=> ?_⟩
 ·simp [hlen,hN,Base.over];omega
 ·obtain ⟨j,h1,h2⟩:=xp5 ps 0 s e hs;have hj:j < ps.length:=(zbo.1 h2).1;obtain ⟨v,hv,hp⟩:=SatL.get ps vs j e hvs h2;have hsup: ∀k∈e.supp,k∈l0:=fun k hk=>hmem k (zbp.2 (.inl (zcc.2 ⟨e,zdw h2,hk⟩)));refine ⟨by show s < N;omega,fun k hk=>hal k (hsup k hk),?_⟩;have e1:(vs.toArray++Array.replicate (fn.ntmps - vs.toArray.size) undef).getD s undef=v:=by
   rw [zbk,zfh,if_pos (by simp;omega)];rw [h1,zcn,zer,hv];rfl
  simp only [e1];exact Ent.sat_go hp (hKp _) fun k hk=>⟨rfl,hc k (hKl k (hsup k hk))⟩
 ·rcases zbr.1 (xd4 hx) with e | hm
  ·cases e;exact ⟨xb2.2 (by simp),fun j hj=>(by cases hj),⟨by simp,by simp,fun _=>rfl,by simp only [hcK];omega,fun hck=>by simp only [hcK] at hck;omega⟩,fun hck=>by simp only [hcK] at hck;omega⟩
  ·have hsup: ∀j∈x.supp,j∈l0:=fun j hj=>hmem j (zbp.2 (.inr (zcc.2 ⟨_,hm,by simp [hj]⟩)));have hk0:k∈l0:=hmem k (zbp.2 (.inr (zcc.2 ⟨_,hm,by simp⟩)));exact ⟨hal k hk0,fun j hj=>hal j (hsup j hj),HEnt.sat_go (hAK _ hm) (fun _=>rfl) (hKp _) ⟨rfl,hc k (hKl k hk0)⟩ fun j hj=>⟨rfl,hc j (hKl j (hsup j hj))⟩,
    fun hck=>⟨.inr ⟨_,hm,by rw [<-hc k (hKl k hk0)];exact hck,rfl⟩,fun hv=>(hD _ hv).2 ⟨_,hm,by rw [<-hc k (hKl k hk0)];exact hck,rfl⟩,fun hv=>hv⟩⟩
 ·rcases zbr.1 (xd4 hx) with e | hm
  ·cases e;simp only [hcK] at hck;omega
  ·rcases zbr.1 (xd4 hx') with e | hm'
   ·cases e;simp only [hcK] at hck';omega
   ·have h1:=hKH _ hm;have h2:=hKH _ hm';simp only at h1 h2 hck hck';exact hinj _ hm _ hm' hne (by rw [<-hc k h1];exact hck) (by rw [<-hc k' h2];exact hck')
 ·have hk:some K=some k:=hk;cases hk;have hxn:x=⟨n,1,false,[]⟩:=by
   rcases zbr.1 (xd4 hx) with e | hm
   ·cases e;rfl
   ·exact absurd rfl (hKH _ hm)
  subst hxn;refine ⟨hJ,fun b hb=>⟨hb,?_,(hD b hb).1⟩⟩;rintro (hb' | hb' | ⟨y,hy,_⟩)
  ·exact (hD b hb).2 (hown b hb')
  ·exact hb'
  ·cases hy
 ·obtain ⟨x,hx,hcx,rfl⟩:=hb;exact HEnt.lt (hAK x hx) hcx
variable {c:Base} {g:Slots} {h:Keys} {al:Names} {d ty:Nat} {pos:String} {af:Array Edge} {gd:Option (Nat×Bool)}
theorem yp0 {fn:Func} {w0:World} {η0:Env} {H:List (Nat×HEnt)} {K m:Nat} {e:Exit} (hp:OvC c w0 η0 H K X) (hr:fn.results= #[]) (he:e= .ret∨e= .normal) (hK:h K=some ⟨m,1,false,[]⟩):wk c e (PostV P X w0 η0 fn H m) g h al:=
 yd7 he hp.df fun df pn a w η s=>by
  refine ⟨_,results_none hr a.tmps P w,rfl,?_,?_⟩
  ·have e0:(c.with df pn).w0=w0:=hp.w0;refine ⟨e0▸s.fr.os,e0▸s.fr.tape,e0▸s.fr.output,e0▸s.fr.size,fun b hb hn=> ?_⟩;have:=s.fr.block b (by rw [e0];exact hb) (fun hl=>hn (.inl (by have hl:c.lb b:=hl;rwa [hp.lb] at hl))) (fun hv=>by
    rcases (s.fr.vnew b hv).2.2 with h3 | h3
    ·have h3:c.V0 b:=h3;rw [hp.V0] at h3;exact hn (.inr h3)
    ·rw [e0] at h3;omega)
   rwa [e0] at this
  ·have hj:=s.jj K _ hp.yk hK;have hj:c.J m _ _ w:=hj;rw [hp.J] at hj;exact hj.1
theorem Frees.all {F:Dom} {w:World} {η:Env}: ∀{us:List Ty} {vs:List Value},Frees us->Tup.all F w us vs->SatL (fun _=>False) w η (us.map Ent.val) vs
 | [],[],_,_=>trivial
 | _::_,_::_,h,hv=>⟨h.1 _ _ _ _ _ hv.1,Frees.all h.2 hv.2⟩
 | [],_::_,_,hv=>hv.elim
 | _::_,[],_,hv=>hv.elim
theorem xs7 {f:FuncId} {xs:List Operand} {aT:Array TypeId} {us:List Ty} {w0:World} {η0:Env} {H:List (Nat×HEnt)} {K n m:Nat} (hp:OvC c w0 η0 H K X) (hc:CtV P X f [] (us.map Ent.val) n m) (hf:FnI P f) (hfr:Frees us) (hl:xs.length=us.length):
  Does P c ⟨some d,.call {callee:= .value (.func f),args:=xs.toArray,argTypes:=aT},ty,pos,af,gd⟩ ⟨xs.zip (us.map Ent.val),[(K,⟨n,1,false,[]⟩)],some (d,some (.val (tE (.tuple #[])))),[(K,some ⟨m,1,false,[]⟩)],[]⟩:=by
 intro g h al a w hpre ⟨η,s⟩;obtain ⟨fn,h1,h2,h3⟩:=hf;have hargs:=hfr.all (η:=⟨fun _=>0,fun _=>0,fun _=>False⟩) (Tup.all_of s xs us hpre.rd hl);have hrun:(execOp a.eval ⟨some d,.call {callee:= .value (.func f),args:=xs.toArray,argTypes:=aT},ty,pos,af,gd⟩).run P w= .ok (.enter f (xs.map a.eval).toArray) w:=by
  simp only [execOp,resolve,Act.eval,Deferred.ofValue,zbu,zbx,zbn,invoke];simp only [zdu,zdj,zcs];exact xd1 h1 h2 h3 _ w
 have hKk:=hpre.kr.1;have hj:=s.jj K _ hp.yk hKk;have hj:c.J n _ _ w:=hj;rw [hp.J] at hj;have hno: ∀b,¬OwnK (⟨fun _=>0,fun _=>0,fun _=>False⟩:Env) [] b:=fun b ⟨x,hx,_⟩=>by cases hx
 refine xe6 hrun (zei (hc w _ (xs.map a.eval) hargs (fun x hx=>by cases hx) (fun x hx=>by cases hx) (fun b hb=>⟨(hj.2 b hb).2.2,hno b⟩) hj.1) ?_);rintro e w' ⟨rfl,hst,hJ⟩;refine ⟨_,rfl,?_⟩;have hst':Stp η.vo w w':=hst.mono fun b _ hb=>by
  rcases hb with hb | hb
  ·exact absurd hb (hno b)
  ·exact (hj.2 b hb).1
 have hk:Kept η.vo η.vo w w':=⟨hst',fun _ hb=>hb,fun b hb=>⟨zce (s.fr.vnew b hb).1 hst.size,.inl hb⟩⟩
 have s2:=s.fed hp.yk hp.ln hp.c0 hKk hk (m:=m) (by rw [hp.J];exact ⟨hJ,fun b hb=>⟨(hj.2 b hb).1,(hj.2 b hb).2.1,zce (hj.2 b hb).2.2 hst.size⟩⟩);exact ⟨_,s2.put (hpre.d _ rfl) (e:= .val (tE (.tuple #[]))) rfl fun k hk=>by cases hk⟩
structure RBase (c:Base) (w0:World):Prop where
  ext:Ext w0 c.w0
  lb: ∀b,c.lb b->w0.heap.size<=b
  V0: ∀b,c.V0 b->w0.heap.size<=b
theorem RBase.now {w0 w:World} {a:Act} {η:Env} (hr:RBase c w0) (s:St' c g h al a w η):Ext w0 w:=by
 have hv: ∀b,b < w0.heap.size-> ¬η.vo b:=fun b hb hv=>by
  rcases (s.fr.vnew b hv).2.2 with h1 | h1
  ·have:=hr.V0 b h1;omega
  ·have:=hr.ext.size;omega
 refine ⟨s.fr.os.trans hr.ext.os,s.fr.tape.trans hr.ext.tape,s.fr.output.trans hr.ext.output,zdc hr.ext.size s.fr.size,fun b hb=>(s.fr.block b (zce hb hr.ext.size) (fun hl=> ?_) (hv b hb)).trans (hr.ext.block b hb)⟩;have:=hr.lb b hl;omega
theorem jg0 {fn:Func} {u:Value} {t:Nat} {w0:World} {F:Dom} (hp:RBase c w0) (hdf:dfB c.df c.pn) (hr:fn.results= #[.tmp t]) (hx:g t=some (.val (tE u))):wk c .ret (Post P w0 F fn (tE u)) g h al:=
 yd7 (.inl rfl) hdf fun df pn a w η s=>by
  have hp':RBase (c.with df pn) w0:=⟨hp.ext,hp.lb,hp.V0⟩
  exact ⟨_,results_tmp hr a.tmps P w,hp'.now s,xp4 s hx⟩
theorem C_at {x:Code} {Q:Exit->Act->World->Prop} (H: ∀a w,St c g h al a w-> ∃(c':Base) (g':Slots) (h':Keys) (al':Names),c'.ro=c.ro/\St c' g' h' al' a w/\wc P c' x Q g' h' al'):wc P c x Q g h al:=fun a w hs=>by
 obtain ⟨c',g',h',al',h1,h2,h3⟩:=H a w hs;rw [<-h1];exact h3 a w h2
def kval (w:World) (η:Env) (k:Nat) (x:HEnt) (i:Nat):Value:=match w.heap[η.b k]? with
 | some (.cells cs _ _)=>pick x.agg x.es cs (i*x.es)
 | _=>undef
def Cnv (G:Dom) (v:Value) (e e':Ent):Prop:=(e'=e/\ ∃k off,e= .own (.ptr k off))∨(∃t t',e= .val t/\e'= .val t'/\Le t (tG G t'))∨((∃t,e= .val t)/\e'= .val (tE v))
theorem Cnv.val {G:Dom} {v:Value} {t t':Ty} (h:Le t (tG G t')):Cnv G v (.val t) (.val t'):= .inr (.inl ⟨t,t',rfl,rfl,h⟩)
theorem Cnv.cst {G:Dom} {v:Value} {t:Ty}:Cnv G v (.val t) (.val (tE v)):= .inr (.inr ⟨⟨t,rfl⟩,rfl⟩)
def SlC (G:Dom) (a:Act) (g g':Slots):Prop:= ∀s e',g' s=some e'-> ∃e,g s=some e/\Cnv G (a.tmps.getD s undef) e e'
theorem SlC.nil {G:Dom} {a:Act}:SlC G a g (fun _=>none):=fun _ _ h=>by cases h
theorem SlC.cons {G:Dom} {a:Act} {g':Slots} {s:Nat} {e e':Ent} (hs:g s=some e) (hl:Cnv G (a.tmps.getD s undef) e e') (hr:SlC G a g g'):SlC G a g (upd g' s (some e')):=fun s' e1 he=>by
 by_cases hss:s'=s
 ·subst hss;rw [x7] at he;cases he;exact ⟨e,hs,hl⟩
 ·rw [x3 _ _ _ hss] at he;exact hr s' e1 he
def KyC (G:Dom) (w:World) (η:Env) (h h':Keys):Prop:= ∀k x',h' k=some x'-> ∃T es agg e e',h k=some ⟨T,es,agg,[e]⟩/\x'=⟨T,es,agg,[e']⟩/\Cnv G (kval w η k ⟨T,es,agg,[e]⟩ 0) e e'/\ ∀j∈e'.supp,j∈e.supp
theorem KyC.nil {G:Dom} {w:World} {η:Env}:KyC G w η h (fun _=>none):=fun _ _ h=>by cases h
theorem St'.slotv {a:Act} {w:World} {η:Env} (s:St' c g h al a w η) {t:Nat} {u:Ty} (hx:g t=some (.val u)):u.p (fun b=>b < w.heap.size/\ ¬Own h η b) w (a.tmps.getD t undef):=
 u.mono (xp4 s hx) fun _ _ hb hl _=>⟨⟨xa7 hl,hb.2.1⟩,hl⟩
theorem St'.over {N:Nat} {a:Act} {w w0:World} {F:Dom} {η:Env} {g':Slots} {h':Keys} (K:Nat) (X:OvJ) (s:St' (Base.plain N w0 F) g h al a w η) (hX: ∀b,X.D b->w0.heap.size<=b/\b < w.heap.size/\ ¬Own h η b) (hJ:X.J 0 w) (hK:al K=false) (hg:SlC (fun b=> ¬X.D b) a g g') (hh:KyC (fun b=> ¬X.D b) w η h h'):
  St (Base.over N w0 F ⟨fun _=>0,fun _=>0,fun _=>False⟩ [] [] K X) g' (upd h' K (some ⟨0,1,false,[]⟩)) (fun j=>al j || Nat.beq j K) a w:=by
 have hKm:(al K || Nat.beq K K)=true:=by simp
 have hal: ∀k,al k=true->(al k || Nat.beq k K)=true:=fun k hk=>by rw [hk];rfl
 have hne: ∀k,al k=true->k≠K:=fun k hk e=>by subst e;rw [hk] at hK;cases hK
 obtain ⟨η',hη⟩: ∃η':Env,η'=⟨fun k=>if k=K then 0 else η.b k,fun k=>if k=K then 0 else η.c k,X.D⟩:=⟨_,rfl⟩
 have eb: ∀k,k≠K->η'.b k=η.b k:=fun k hk=>by rw [hη];simp [hk]
 have ebK:η'.b K=0:=by rw [hη];simp
 have ec: ∀k,k≠K->η'.c k=η.c k:=fun k hk=>by rw [hη];simp [hk]
 have ecK:η'.c K=0:=by rw [hη];simp
 have evo:η'.vo=X.D:=by rw [hη]
 have hh0: ∀k x',k≠K->upd h' K (some ⟨0,1,false,[]⟩) k=some x'-> ∃x,h k=some x/\x'.T=x.T:=fun k x' hk hx=>by
  rw [x3 _ _ _ hk] at hx;obtain ⟨T,es,agg,e,e',h1,rfl,_⟩:=hh k x' hx;exact ⟨_,h1,rfl⟩
 have hown: ∀b,Own (upd h' K (some ⟨0,1,false,[]⟩)) η' b->Own h η b:=by
  rintro b ⟨k,x',hx,hc,rfl⟩;by_cases hk:k=K
  ·subst hk;omega
  ·obtain ⟨x,h1,_⟩:=hh0 k x' hk hx;exact ⟨k,x,h1,by rw [<-ec k hk];exact hc,eb k hk⟩
 have hKp:Keep (fun b=>(Base.plain N w0 F).dom h η b/\ ¬X.D b) ((Base.over N w0 F ⟨fun _=>0,fun _=>0,fun _=>False⟩ [] [] K X).dom (upd h' K (some ⟨0,1,false,[]⟩)) η') w w:=fun b o hb hl _=>
  ⟨⟨hb.1.1.imp id fun hf=>⟨hf.1,fun ⟨x,hx,_⟩=>(by cases hx)⟩,fun ho=>hb.1.2.1 (hown b ho),fun hv=>hb.2 (by rw [evo] at hv;exact hv),fun hv=>hv⟩,hl⟩
 have cnv: ∀(v v':Value) (e e':Ent),e.sat ((Base.plain N w0 F).dom h η) w η v->v'=v->(∀k∈e.supp,al k=true)->Cnv (fun b=> ¬X.D b) v' e e'->(∀k∈e'.supp,al k=true)/\e'.sat ((Base.over N w0 F ⟨fun _=>0,fun _=>0,fun _=>False⟩ [] [] K X).dom (upd h' K (some ⟨0,1,false,[]⟩)) η') w η' v:=by
  intro v v' e e' hs hv hsup hc;subst hv;rcases hc with ⟨rfl,k,off,rfl⟩ | ⟨t,t',rfl,rfl,hl⟩ | ⟨_,rfl⟩
  ·refine ⟨hsup,?_⟩;have hs:v'= .pointer (some ⟨η.b k,off,none⟩):=hs;show v'= .pointer (some ⟨η'.b k,off,none⟩);rw [eb k (hne k (hsup k (by simp [Ent.supp,VP.supp])))];exact hs
  ·exact ⟨fun _ hk=>(by cases hk),t'.mono (hl _ _ _ hs) hKp⟩
  ·exact ⟨fun _ hk=>(by cases hk),rfl⟩
 refine ⟨η',s.tn,s.df,fun t e' he=> ?_,fun k x' hx=> ?_,fun k k' x x' hx hx' hkk hck hck'=> ?_,⟨s.fr.os,s.fr.tape,s.fr.output,s.fr.size,fun b hb _ _=> ?_,fun b hb=>(by rw [evo];exact hb),fun b hb=> ?_⟩,fun k hk=> ?_,fun x hx=>(by cases hx),fun b hb=>hb.elim,fun k hk=>(by cases hk;exact hKm),fun k x hk hx=> ?_,fun b ⟨x,hx,_⟩=>(by cases hx)⟩
 ·obtain ⟨e,h1,h2⟩:=hg t e' he;obtain ⟨n1,n2,n3⟩:=s.slot t e h1;obtain ⟨m1,m2⟩:=cnv _ _ e e' n3 rfl n2 h2;exact ⟨n1,fun k hk=>hal k (m1 k hk),m2⟩
 ·by_cases hk:k=K
  ·subst hk;rw [x7] at hx;cases hx;exact ⟨hKm,fun j hj=>(by cases hj),⟨by simp,by simp,fun _=>rfl,by omega,fun hc=>by omega⟩,fun hc=>by omega⟩
  ·rw [x3 _ _ _ hk] at hx;obtain ⟨T,es,agg,e,e1,h1,rfl,h2,h3⟩:=hh k x' hx;obtain ⟨q1,q2,⟨r1,r2,r3,r4,r5⟩,q4⟩:=s.key k _ h1;have hsupe: ∀j∈e.supp,al j=true:=fun j hj=>q2 j (by simpa [HEnt.supp] using hj);have r1:1<=η.c k:=r1;obtain ⟨cs,c1,c2,c3⟩:=r5 (by omega);have c4:=c3 0 e rfl;have hkv:kval w η k ⟨T,es,agg,[e]⟩ 0=pick agg es cs (0*es):=by simp only [kval,c1]
   obtain ⟨m1,m2⟩:=cnv _ _ e e1 c4 hkv hsupe h2;refine ⟨hal k q1,fun j hj=>hal j (m1 j (by simpa [HEnt.supp] using hj)),⟨by rw [ec k hk];exact r1,r2,r3,by rw [ec k hk];exact r4,fun _=>⟨cs,by rw [eb k hk];exact c1,by rw [ec k hk];exact c2,fun i e0 hi=> ?_⟩⟩,fun _=> ?_⟩
   ·cases i with
    | zero=>cases hi;exact m2
    | succ i=>simp at hi
   ·obtain ⟨p1,p2,p3⟩:=q4 (by omega);rw [eb k hk,evo];exact ⟨.inl (p1.resolve_right fun h=>h),fun hD=>(hX _ hD).2.2 ⟨k,_,h1,by omega,rfl⟩,p3⟩
 ·by_cases hk:k=K
  ·subst hk;omega
  ·by_cases hk':k'=K
   ·subst hk';omega
   ·obtain ⟨y,h1,_⟩:=hh0 k x hk hx;obtain ⟨y',h1',_⟩:=hh0 k' x' hk' hx';rw [eb k hk,eb k' hk'];exact s.inj k k' y y' h1 h1' hkk (by rw [<-ec k hk];exact hck) (by rw [<-ec k' hk'];exact hck')
 ·refine s.fr.block b hb (fun h=>h) fun hv=> ?_;have:=(s.fr.vnew b hv).2.1;cases this
 ·rw [evo] at hb;exact ⟨(hX b hb).2.1,rfl,.inl hb⟩
 ·have hk:k∈[K]:=hk;rw [zbj.1 hk];refine ⟨hKm,?_,?_⟩
  ·rw [ebK];rfl
  ·rw [ecK];simp [Base.over,envK]
 ·have hk:some K=some k:=hk;cases hk;rw [x7] at hx;cases hx;refine ⟨hJ,fun b hb=>⟨by rw [evo];exact hb,?_,(hX b hb).2.1⟩⟩;rintro (hb' | hb' | ⟨y,hy,_⟩)
  ·exact (hX b hb).2.2 (hown b hb')
  ·exact hb'
  ·cases hy
theorem wi3 {X:OvJ} {f:FuncId} {xs:List Operand} {aT:Array TypeId} {us us':List Ty} {rr:Nat->Ty} {r:Ty} {w0:World} {η0:Env} {H:List (Nat×HEnt)} {K n:Nat} (hp:OvC c w0 η0 H K X) (hc:CtN P f us rr) (hf:FnI P f) (hr: ∀m F w v,(rr m).p F w v->r.p (fun b=>F b/\m<=b) w v)
  (ha: ∀F w vs,X.J n w->Tup.all F w us' vs->Tup.all (fun b=>F b∨X.D b) w us vs) (hl:xs.length=us'.length):
  Does P c ⟨some d,.call {callee:= .value (.func f),args:=xs.toArray,argTypes:=aT},ty,pos,af,gd⟩ ⟨xs.zip (us'.map Ent.val),[(K,⟨n,1,false,[]⟩)],some (d,some (.val r)),[],[]⟩:=by
 intro g h al a w hpre ⟨η,s⟩;obtain ⟨fn,h1,h2,h3⟩:=hf;have hj:=s.jj K _ hp.yk hpre.kr.1;have hj:c.J n _ _ w:=hj;rw [hp.J] at hj;have hargs:=ha _ _ _ hj.1 (Tup.all_of s xs us' hpre.rd hl);have hrun:(execOp a.eval ⟨some d,.call {callee:= .value (.func f),args:=xs.toArray,argTypes:=aT},ty,pos,af,gd⟩).run P w= .ok (.enter f (xs.map a.eval).toArray) w:=by
  simp only [execOp,resolve,Act.eval,Deferred.ofValue,zbu,zbx,zbn,invoke];simp only [zdu,zdj,zcs];exact xd1 h1 h2 h3 _ w
 refine xe6 hrun (zei (hc _ w (xs.map a.eval) hargs) ?_);rintro e w' ⟨v,rfl,hext,hv⟩;refine ⟨v,rfl,η,(s.ext hext).put (hpre.d _ rfl) (e:= .val r) (r.mono (hr _ _ _ _ hv) fun b o hb hl _=>⟨?_,hl⟩) (fun k hk=>by cases hk)⟩;exact yf2 s hb.2
end
def tLW {α:Type} (T es:Nat) (agg:Bool) (f:α->Ty) (xs ms:List α):Ty:=
  ⟨fun F w v=> ∃b c cs,v= .slice (some ⟨b,0,none⟩) xs.length c/\F b/\w.heap[b]? =some (.cells cs T (0,0))/\cs.size=c*es/\0 < es/\(agg=false->es=1)/\xs.length+ms.length<=c/\c<=9223372036854775807/\
      ∀i x,(xs++ms)[i]? =some x->(f x).p (fun b'=>F b'/\b'≠b) w (pick agg es cs (i*es)),
   fun ⟨b,c,cs,h1,hF,hh,h2,h3,h4,h5,h6,hx⟩ hk=>⟨b,c,cs,h1,(hk b _ hF hh rfl).1,(hk b _ hF hh rfl).2,h2,h3,h4,h5,h6,fun i x hi=>(f x).mono (hx i x hi) fun b' o hb hl hd=>⟨⟨(hk b' o hb.1 hl hd).1,hb.2⟩,(hk b' o hb.1 hl hd).2⟩⟩⟩
theorem zb8 {α:Type} {T es:Nat} {agg:Bool} {f:α->Ty} {xs ms:List α}:Le (tLW T es agg f xs ms) (tLK es agg f xs ms):=fun F w v ⟨b,c,cs,h1,hF,hh,h2,h3,h4,h5,h6,hx⟩=>by
 refine ⟨some ⟨b,0,none⟩,c,h1,some ⟨b,0,none⟩,c,by rw [zbm],by rw [zbm];exact h5,h6,.inr ⟨b,0,rfl,hF,fun i x hi=> ?_⟩⟩;have hi':i < (xs++ms).length:=(zbo.1 hi).1;have h7:(i+1)*es<=c*es:=zbz _ (by rw [zbm] at hi';omega);rw [zdh,Nat.one_mul] at h7;refine ⟨_,⟨cs,T,(0,0),hh,by omega,h3,h4,rfl⟩,?_⟩;rw [zcn];exact (f x).mono (hx i x hi) fun _ _ hb hl _=>⟨hb.1,hl⟩
theorem wa0 {α:Type} {T es:Nat} {agg:Bool} {f:α->Ty} {xs ms:List α}:Le (tLW T es agg f xs ms) (tL es agg f xs):=Le.trans zb8 ja6
theorem leLW {α:Type} {T es:Nat} {agg:Bool} {f g:α->Ty} {xs ms:List α} (h: ∀x,Le (f x) (g x)):Le (tLW T es agg f xs ms) (tLW T es agg g xs ms):=fun _ _ _ ⟨b,c,cs,h1,hF,hh,h2,h3,h4,h5,h6,hx⟩=>⟨b,c,cs,h1,hF,hh,h2,h3,h4,h5,h6,fun i x hi=>h x _ _ _ (hx i x hi)⟩
theorem wg9 {G:Dom} {t:Ty}:Le (tG G t) (tG G (tG G t)):=fun _ _ _ h=>t.mono h fun _ _ hb hl _=>⟨⟨hb,hb.2⟩,hl⟩
instance {α:Type} {T es:Nat} {agg:Bool} {f:α->Ty} {xs ms:List α}:Shape (tLW T es agg f xs ms) 1 false:=⟨fun ⟨_,_,_,h,_⟩=>by rw [h];exact xd2 rfl⟩
section
variable {P:Program} {c:Base} {d ty:Nat} {pos:String} {af:Array Edge} {gd:Option (Nat×Bool)}
theorem zw2 {T T0 E es k n:Nat} {agg:Bool} {α:Type} {f:α->Ty} {xs ms:List α} {ts:List Ent} {x y:Operand} {v:Int} (G:Dom) (hG: ∀b,c.w0.heap.size<=b->G b) (sl:SlI P T E es agg) (hlb:NoLb c) (hf: ∀x,x∈xs++ms->Le (f x) (tG G (f x))) (hts:ts=(xs++ms).map fun x=> .val (f x)) (hn:n=xs.length+ms.length) (h0:0 < n) (hv:v=(xs.length:Int)):
  Does P c ⟨some d,.slice T x none (some y) none,ty,pos,af,gd⟩ ⟨[(x,.own (.sl k es 0 n)),(y,.val (tI v))],[(k,⟨T0,es,agg,ts⟩)],some (d,some (.val (tG G (tLW T0 es agg f xs ms)))),[(k,none)],[]⟩:=by
 subst hv hn hts;exact Does.give rfl fun g h al a w η hrd hk s=>by
  have hx:=(xa2 s hrd.1).1;obtain ⟨A,hA,hcap,hadr⟩:=hx;have hA:a.eval x= .slice A (xs.length+ms.length) (η.c k - 0):=hA;have hb:=xn6 (P:=P) (b:=true) (len:=xs.length+ms.length) (cap:=η.c k - 0) s (lo:=none) (hi:=some y) (l:=0) (u:=xs.length) (fun _=>rfl) (fun h=>by cases h) hrd.2 (zbt _) (by omega);simp only [zeo] at hb;have hc:0 < η.c k:=by omega
  have hA2:=hadr hc;obtain ⟨_,_,⟨r1,r2,r3,r4,r5⟩,q4⟩:=s.key k _ hk;simp only at r1 r2 r3 r4 r5;obtain ⟨cs,c1,c2,c3⟩:=r5 hc;obtain ⟨p1,p2,p3⟩:=q4 hc;have hnew:c.w0.heap.size<=η.b k:=p1.resolve_right (hlb _);refine ⟨.slice (if η.c k - 0=0 then A else A.map (·.add (0*es))) (xs.length - 0) (η.c k - 0 - 0),?_,η.b k,η.c k,cs,?_,⟨⟨.inl hnew,?_,p2,p3⟩,hG _ hnew⟩,c1,c2,r2,r3,by omega,r4,fun i y hi=> ?_⟩
  ·simp only [execOp,hA,Instr.sliceAt,zbu,zcj sl.und,zbn,Instr.slice,zeo,hb,sl.el.size_run w,zbx]
  ·rw [hA2];simp [Addr.add,Nat.ne_of_gt hc]
  ·rintro ⟨j,y,hj,hcj,e⟩;by_cases hjk:j=k
   ·subst hjk;rw [x7] at hj;cases hj
   ·rw [x3 _ _ _ hjk] at hj;exact s.inj j k y _ hj hk hjk hcj hc e.symm
  ·have h1:=c3 i (.val (f y)) (by rw [zbs,hi];rfl);have h2:=hf y (zdw hi) _ _ _ h1;refine (f y).mono h2 fun b o hb hl hd=>⟨⟨⟨(Keep.drop k b o hb.1 hl hd).1,hb.2⟩,fun e=>hb.1.2.1 ⟨k,_,hk,hc,e⟩⟩,hl⟩
theorem d_lenW {T:TypeId} {x:Operand} {α:Type} {T0 es n:Nat} {agg:Bool} {f:α->Ty} {xs ms:List α} {E:TypeId} (hT:P.underlying T=some (.slice E)) (hn:xs.length=n):
  Does P c ⟨some d,.call {callee:= .builtin .len,args:= #[x],argTypes:= #[T]},ty,pos,af,gd⟩ ⟨[(x,.val (tLW T0 es agg f xs ms))],[],some (d,some (.val (tI n))),[],[]⟩:=
 Does.value rfl fun g h al a w η hrd _ s=>by
  subst hn;obtain ⟨A,cc,h1,_⟩:=zb8 _ _ _ (xa2 s hrd.1).1;have h1:a.eval x= .slice A xs.length cc:=h1;exact ⟨_,w,by simp only [execOp,resolve,invoke,builtin,zcs,zcy,zfg,h1];simp [Builtin.len_,run_underlying hT,goInt,go_sem],Ext.refl w,rfl,fun k hk=>by cases hk⟩
theorem jv0 {T E es T0:Nat} {agg:Bool} {α:Type} {f:α->Ty} {xs ms:List α} {x y:Operand} {v:Int} (sl:SlI P T E es agg) (hv:v=((xs.length+ms.length:Nat):Int)):
  Does P c ⟨some d,.slice T x none (some y) none,ty,pos,af,gd⟩ ⟨[(x,.val (tLW T0 es agg f xs ms)),(y,.val (tI v))],[],some (d,some (.val (tL es agg f (xs++ms)))),[],[]⟩:=by
 subst hv;exact Does.value rfl fun g h al a w η hrd _ s=>by
  obtain ⟨A,cap,hA,hm⟩:=zb8 _ _ _ (xa2 s hrd.1).1;have hA:a.eval x= .slice A xs.length cap:=hA;have hle:xs.length+ms.length<=cap:=by
   obtain ⟨_,_,e,h1,_⟩:=hm;injection e with e1 e2 e3;subst e3;simpa using h1
  have hb:=xn6 (P:=P) (b:=true) (len:=xs.length) (cap:=cap) s (lo:=none) (hi:=some y) (l:=0) (u:=xs.length+ms.length) (fun _=>rfl) (fun h=>by cases h) hrd.2 (zbt _) hle;simp only [zeo] at hb;refine ⟨.slice (if cap=0 then A else A.map (·.add (0*es))) (xs.length+ms.length - 0) (cap - 0),w,?_,Ext.refl w,?_,fun j hj=>by cases hj⟩
  ·simp only [execOp,hA,Instr.sliceAt,zbu,zcj sl.und,zbn,Instr.slice,zeo,hb,sl.el.size_run w,zbx]
  ·have e:(if cap=0 then A else A.map (·.add (0*es)))=A:=by
    split
    ·rfl
    ·exact add0
   rw [e];exact hm
theorem zk8 {T E es k len:Nat} {agg agg':Bool} {x y:Operand} {v:Int} {ts:List Ent} {T0:Nat} (sl:SlI P T E es agg) (u:Nat) (hv:v=(u:Int)) (h2:u<=ts.length):
  Does P c ⟨some d,.slice T x none (some y) none,ty,pos,af,gd⟩ ⟨[(x,.own (.sl k es 0 len)),(y,.val (tI v))],[(k,⟨T0,es,agg',ts⟩)],some (d,some (.own (.sl k es 0 u))),[],[]⟩:=
 Does.value rfl fun g h al a w η hrd hkr s=>by
  subst hv;obtain ⟨hx,hs⟩:=xa2 s hrd.1;obtain ⟨A,hA,hcap,hadr⟩:=hx;have hA:a.eval x= .slice A len (η.c k - 0):=hA;obtain ⟨_,_,⟨r1,_⟩,_⟩:=s.key k _ hkr.1;have r1:ts.length<=η.c k:=r1;have hb:=xn6 (P:=P) (b:=true) (len:=len) (cap:=η.c k - 0) s (lo:=none) (hi:=some y) (l:=0) (u:=u) (fun _=>rfl) (fun h=>by cases h) hrd.2 (zbt _) (by omega);simp only [zeo] at hb;refine ⟨.slice (if η.c k - 0=0 then A else A.map (·.add (0*es))) (u - 0) (η.c k - 0 - 0),w,?_,Ext.refl w,?_,hs⟩
  ·simp only [execOp,hA,Instr.sliceAt,zbu,zcj sl.und,zbn,Instr.slice,zeo,hb,sl.el.size_run w,zbx]
  ·refine ⟨_,rfl,by omega,fun hlt=> ?_⟩;rw [if_neg (by omega),hadr (by omega)];simp [Addr.add]
theorem jc0 {T E es k off n:Nat} {agg:Bool} {x:Operand} {ts:List Ent} {T0:Nat} (hT:P.underlying T=some (.slice E)):
  Does P c ⟨some d,.call {callee:= .builtin .cap,args:= #[x],argTypes:= #[T]},ty,pos,af,gd⟩ ⟨[(x,.own (.sl k es off n))],[(k,⟨T0,es,agg,ts⟩)],some (d,some (.val (tX (fun q:Nat=>ts.length - off<=q) fun q=>tI q))),[],[]⟩:=
 Does.value rfl fun g h al a w η hrd hkr s=>by
  obtain ⟨A,h1,h2,h3⟩:=(xa2 s hrd.1).1;have h1:a.eval x= .slice A n (η.c k - off):=h1;obtain ⟨_,_,⟨r1,_⟩,_⟩:=s.key k _ hkr.1;have r1:ts.length<=η.c k:=r1;exact ⟨.int .i64 ((η.c k - off:Nat):Int),w,by simp only [execOp,resolve,invoke,builtin,zcs,zcy,zfg,h1];simp [Builtin.cap_,run_underlying hT,goInt,go_sem],Ext.refl w,⟨η.c k - off,by omega,rfl⟩,fun j hj=>by cases hj⟩
theorem jb6 {x y:Operand} {aT:Array TypeId} {pre:Nat->Prop} {v:Int} (h: ∀q:Nat,pre q->v<=q):
  Does P c ⟨some d,.call {callee:= .builtin .min,args:= #[x,y],argTypes:=aT},ty,pos,af,gd⟩ ⟨[(x,.val (tX pre fun q=>tI q)),(y,.val (tI v))],[],some (d,some (.val (tI v))),[],[]⟩:=
 Does.value rfl fun g hh al a w η hrd _ s=>by
  obtain ⟨q,hq,h1⟩:=(xa2 s hrd.1).1;have h1:a.eval x= .int .i64 q:=h1;have h2:a.eval y= .int .i64 v:=(xa2 s hrd.2.1).1;have:=h q hq;refine ⟨_,w,?_,Ext.refl w,rfl,fun j hj=>by cases hj⟩;have e:(if v < (q:Int) then v else (q:Int))=v:=by split <;> omega
  simp only [execOp,resolve,invoke,builtin,zcs,zcy,zfg,h1,h2];simp [Builtin.min_,Builtin.min2,go_sem,e]
end
abbrev VM:=Nat->Option (Nat×Nat)
def JV (T:Nat) (V:VM) (w:World):Prop:= ∀b m c,V b=some (m,c)-> ∃cs,w.heap[b]? =some (.cells cs T (0,0))/\cs.size=c/\m<=c/\c<=9223372036854775807/\ ∀i,i < m-> ∃x:Nat,cs[i]? =some (.int .u16 x)
def VM.D (V:VM):Dom:=fun b=> ∃x,V b=some x
def XV (T:Nat) (V:VM):OvJ:=⟨V.D,fun _=>JV T V,fun _ w w' h _ hk b m c hV=>by
 obtain ⟨cs,h1,h2⟩:=h b m c hV;exact ⟨cs,(hk b ⟨_,hV⟩ (xa7 h1)).trans h1,h2⟩⟩
def tSlV (V:VM) (n:Nat):Ty:=⟨fun _ _ v=> ∃b m c,v= .slice (some ⟨b,0,none⟩) n c/\V b=some (m,c)/\n+12<=m,fun h _=>h⟩
theorem zm2 {V:VM} {n:Nat}:Free (tSlV V n):=fun _ _ _ _ _ h=>h
instance {V:VM} {n:Nat}:Shape (tSlV V n) 1 false:=⟨fun ⟨_,_,_,h,_⟩=>by rw [h];exact xd2 rfl⟩
def FreeF:List Fd->Prop
 | []=>True
 | f::r=>Free f.t/\FreeF r
theorem FreeF.all {F F':Dom} {w w':World} {cs:Array Value}: ∀{fs:List Fd} {o:Nat},FreeF fs->Fd.all F w cs o fs->Fd.all F' w' cs o fs
 | [],_,_,_=>trivial
 | _::_,_,h,ha=>⟨⟨ha.1.1,h.1 _ _ _ _ _ ha.1.2⟩,h.2.all ha.2⟩
theorem Free.S {fs:List Fd} (h:FreeF fs):Free (tS fs):=fun _ _ _ _ _ ⟨cs,h1,h2,h3⟩=>⟨cs,h1,h2,h.all h3⟩
def lead:List Value->Nat
 | .int .u16 (.ofNat _)::r=>lead r+1
 | _=>0
theorem zz7: ∀(l:List Value) (i:Nat),i < lead l-> ∃x:Nat,l[i]? =some (.int .u16 x)
 | [],i,h=>by simp [lead] at h
 | v::r,i,h=>by
  unfold lead at h;split at h
  ·rename_i a b e;cases e;cases i with
   | zero=>exact ⟨_,rfl⟩
   | succ i=>exact zz7 _ i (by omega)
  ·omega
theorem qi2: ∀(m:Nat) (l:List Value),(∀i,i < m-> ∃x:Nat,l[i]? =some (.int .u16 x))->m<=lead l
 | 0,_,_=>zbt _
 | m+1,[],h=>by obtain ⟨x,hx⟩:=h 0 (by omega);simp at hx
 | m+1,v::r,h=>by
  obtain ⟨x,hx⟩:=h 0 (by omega);simp only [zcp,zck] at hx;subst hx;have:=qi2 m r fun i hi=>by obtain ⟨y,hy⟩:=h (i+1) (by omega);exact ⟨y,by simpa using hy⟩
  show m+1<=lead r+1;omega
theorem qo9: ∀(l:List Value),lead l<=l.length
 | []=>by simp [lead]
 | v::r=>by
  have:=qo9 r;unfold lead;split
  ·rename_i e;cases e;simp;omega
  ·omega
open Classical in
noncomputable def vOf (T:Nat) (L:Dom) (w:World):VM:=fun b=>if L b then (match w.heap[b]? with
  | some (.cells cs T' fr)=>if T'=T/\fr=(0,0)/\cs.size<=9223372036854775807 then some (lead cs.toList,cs.size) else none
  | _=>none) else none
theorem yc6 {T:Nat} {L:Dom} {w:World} {b m c:Nat} (h:vOf T L w b=some (m,c)):L b/\ ∃cs,w.heap[b]? =some (.cells cs T (0,0))/\cs.size=c/\m<=c/\c<=9223372036854775807/\ ∀i,i < m-> ∃x:Nat,cs[i]? =some (.int .u16 x):=by
 unfold vOf at h;split at h
 ·rename_i hL;refine ⟨hL,?_⟩;split at h
  ·rename_i cs T' fr hb;split at h
   ·rename_i hc;obtain ⟨rfl,rfl,h3⟩:=hc;cases h;refine ⟨cs,hb,rfl,?_,h3,fun i hi=> ?_⟩
    ·have:=qo9 cs.toList;simpa using this
    ·obtain ⟨x,hx⟩:=zz7 cs.toList i hi;exact ⟨x,by simpa using hx⟩
   ·cases h
  ·cases h
 ·cases h
theorem vOf_mk {T:Nat} {L:Dom} {w:World} {b n:Nat} {cs:Array Value} (hL:L b) (hb:w.heap[b]? =some (.cells cs T (0,0))) (hc:cs.size<=9223372036854775807) (hn: ∀i,i < n-> ∃x:Nat,cs[i]? =some (.int .u16 x)): ∃m,vOf T L w b=some (m,cs.size)/\n<=m:=by
 refine ⟨lead cs.toList,?_,qi2 n _ fun i hi=>by obtain ⟨x,hx⟩:=hn i hi;exact ⟨x,by simpa using hx⟩⟩;unfold vOf;rw [if_pos hL,hb];simp [hc]
theorem vOf_JV {T:Nat} {L:Dom} {w w1:World} (h: ∀b,L b->w.heap[b]? =w1.heap[b]?):JV T (vOf T L w1) w:=fun b m c hV=>by
 obtain ⟨hL,cs,h1,h2⟩:=yc6 hV;exact ⟨cs,(h b hL).trans h1,h2⟩
noncomputable def XL (T:Nat) (L:Dom) (w1:World):OvJ:=⟨L,fun n w=>(n=0-> ∀b,L b->w.heap[b]? =w1.heap[b]?)/\(n=1->JV T (vOf T L w1) w)/\(∀b,L b->b < w.heap.size),
  fun n w w' h hs hk=>⟨fun hn b hb=>(hk b hb (h.2.2 b hb)).trans (h.1 hn b hb),fun hn b m c hV=>by
    obtain ⟨cs,h1,h2⟩:=h.2.1 hn b m c hV;exact ⟨cs,(hk b (yc6 hV).1 (xa7 h1)).trans h1,h2⟩,fun b hb=>zce (h.2.2 b hb) hs⟩⟩
section
variable {P:Program} {g:Slots} {h:Keys} {al:Names} {Q:Exit->Act->World->Prop}
abbrev ovb (N:Nat) (w0:World) (F:Dom) (K:Nat) (X:OvJ):Base:=Base.over N w0 F ⟨fun _=>0,fun _=>0,fun _=>False⟩ [] [] K X
theorem RBase.ov {N:Nat} {w0:World} {F:Dom} {K:Nat} {X:OvJ} (h: ∀b,X.D b->w0.heap.size<=b):RBase (ovb N w0 F K X) w0:=⟨Ext.refl w0,fun _ ⟨_,hx,_⟩=>(by cases hx),h⟩
end
theorem jj0 {n:Nat} {L:Dom} {t:Ty} (h: ∀b,L b->n<=b):Le (tG (fun b=>b < n) t) (tG (fun b=> ¬L b) t):=jk4 fun b hb hl=>by have:=h b hl;omega
def HandL (T:Nat) (L:Dom) (w1:World):List Ty->List Ty->Prop
 | [],[]=>True
 | t::r,u::s=>(Le t u∨ ∃v,t=tE v/\u.p L w1 v)/\HandL T L w1 r s
 | _,_=>False
section
variable {P:Program} {c:Base} {d ty:Nat} {pos:String} {af:Array Edge} {gd:Option (Nat×Bool)}
end
theorem hrE {rr:Nat->Ty} {u:Value} (h: ∀m,rr m=tE u) (m:Nat) (F:Dom) (w:World) (v:Value) (hp:(rr m).p F w v):(tE u).p (fun b=>F b/\m<=b) w v:=by rw [h m] at hp;exact hp
theorem hrT {t:Ty} {u:Value} (m:Nat) (F:Dom) (w:World) (v:Value) (hp:(tT [tG (up m) t,tE u]).p F w v):(tT [t,tE u]).p (fun b=>F b/\m<=b) w v:=by
 obtain ⟨vs,h1,h2⟩:=hp;refine ⟨vs,h1,?_⟩
 match vs,h2 with
 | [a,b],h2=>exact ⟨h2.1,h2.2.1,trivial⟩
 | [],h2=>exact h2.elim
 | [_],h2=>exact h2.2.elim
 | _::_::_::_,h2=>exact h2.2.2.elim
section
variable {P:Program} {c:Base} {d ty:Nat} {pos:String} {af:Array Edge} {gd:Option (Nat×Bool)}
theorem yh8 {x:Operand} {k T es off len:Nat} {agg:Bool} {ts:List Ent} {α:Type} {f:α->Ty} {xs:List α} (G:Dom) (hG: ∀b,c.w0.heap.size<=b->G b) (hfr: ∀x,Free (f x)) (hlb:NoLb c) (hts:(ts.drop off).take len=xs.map fun x=> .val (f x)) (hl:xs.length=len):
  Does P c ⟨some d,.assign x,ty,pos,af,gd⟩ ⟨[(x,.own (.sl k es off len))],[(k,⟨T,es,agg,ts⟩)],some (d,some (.val (tG G (tL es agg f xs)))),[(k,none)],[]⟩:=
 Does.give rfl fun g h al a w η hr hk s=>⟨a.eval x,by simp [execOp,go_sem],by
  have hv:=(xa2 s hr.1).1;have hp:=s.give hk hlb hts hl hv;obtain ⟨A,cc,h1,h2,h3,h4⟩:=hp;refine ⟨A,cc,h1,h2,h3,?_⟩;cases xs with
  | nil=>exact .inl rfl
  | cons x0 xr=>
   rcases h4 with h4 | ⟨b,o,e,hb,hx⟩
   ·cases h4
   ·obtain ⟨A',e1,e2,e3⟩:=hv;have hlen:0 < len:=by rw [<-hl];simp
    have hc:0 < η.c k:=by omega
    have hb0:=((s.key k _ hk).2.2.2 hc).1.resolve_right (hlb _);have e4:=e3 (by omega);rw [h1] at e1;have e1:A=A':=by injection e1
    rw [<-e1,e] at e4;have eb:b=η.b k:=by injection e4 with e4;injection e4
    refine .inr ⟨b,o,e,⟨hb,hG b (by rw [eb];exact hb0)⟩,fun i y hi=> ?_⟩;obtain ⟨u,hm,hu⟩:=hx i y hi;exact ⟨u,hm,hfr y _ _ _ _ _ hu⟩⟩
end
theorem leNilG {α:Type} {G:Dom} {es:Nat} {agg:Bool} {f:α->Ty} {xs:List α} (h:xs=[]):Le (tE (.slice none 0 0)) (tG G (tL es agg f xs)):=fun _ _ _ hv=>leNil h _ _ _ hv
theorem hrG {t:Ty} (m:Nat) (F:Dom) (w:World) (v:Value) (hp:(tG (up m) t).p F w v):t.p (fun b=>F b/\m<=b) w v:=hp
section
variable {P:Program} {c:Base} {g:Slots} {h:Keys} {al:Names} {Q:Exit->Act->World->Prop}
end
section
variable {P:Program} {c:Base} {d ty:Nat} {pos:String} {af:Array Edge} {gd:Option (Nat×Bool)}
end
section
variable {P:Program} {c:Base} {g:Slots} {h:Keys} {al:Names} {Q:Exit->Act->World->Prop}
end
section
variable {P:Program} {c:Base} {d ty:Nat} {pos:String} {af:Array Edge} {gd:Option (Nat×Bool)}
theorem St.giveAtN {g:Slots} {h:Keys} {al:Names} {a:Act} {w:World} {t k T es off len:Nat} {agg:Bool} {ts:List Ent} {α:Type} {f:α->Ty} {xs:List α} (G:Dom) (hG: ∀b,c.w0.heap.size<=b->G b) (hfr: ∀x,Free (f x)) (hs:St c g h al a w) (hg:g t=some (.own (.sl k es off len))) (hk:h k=some ⟨T,es,agg,ts⟩) (hlb:NoLb c)
  (hts:(ts.drop off).take len=xs.map fun x=> .val (f x)) (hl:xs.length=len):St c (upd g t (some (.val (tG G (tL es agg f xs))))) (upd h k none) al a w:=by
 obtain ⟨η,s⟩:=hs;have hv:=(s.slot t _ hg).2.2;have h2:(tG G (tL es agg f xs)).p (c.dom (upd h k none) η) w (a.tmps.getD t undef):=by
  obtain ⟨A,cc,h1,h2,h3,h4⟩:=s.give hk hlb hts hl hv;refine ⟨A,cc,h1,h2,h3,?_⟩;cases xs with
  | nil=>exact .inl rfl
  | cons x0 xr=>
   rcases h4 with h4 | ⟨b,o,e,hb,hx⟩
   ·cases h4
   ·obtain ⟨A',e1,e2,e3⟩:=hv;have hlen:0 < len:=by rw [<-hl];simp
    have hc:0 < η.c k:=by omega
    have hb0:=((s.key k _ hk).2.2.2 hc).1.resolve_right (hlb _);have e4:=e3 (by omega);rw [h1] at e1;have e1:A=A':=by injection e1
    rw [<-e1,e] at e4;have eb:b=η.b k:=by injection e4 with e4;injection e4
    refine .inr ⟨b,o,e,⟨hb,hG b (by rw [eb];exact hb0)⟩,fun i y hi=> ?_⟩;obtain ⟨u,hm,hu⟩:=hx i y hi;exact ⟨u,hm,hfr y _ _ _ _ _ hu⟩
 have s2:=(s.drop k).put (s.slot t _ hg).1 (e:= .val (tG G (tL es agg f xs))) h2 fun j hj=>by cases hj
 refine ⟨η,?_⟩;have e:a.put (some t) (a.tmps.getD t undef)=a:=by
  have hlt:t < a.tmps.size:=by rw [s.tn];exact (s.slot t _ hg).1
  have:a.tmps.setIfInBounds t (a.tmps.getD t undef)=a.tmps:=by
   apply zdi;intro i;rw [zee];by_cases hi:t=i
   ·subst hi;simp [hlt]
   ·simp [hi]
  simp only [Act.put,this]
 rw [<-e];exact s2
theorem Does.giveLN {o:Oper} {rd:List (Operand×Ent)} {kr:List (Nat×HEnt)} {d k T es off len:Nat} {agg:Bool} {ts:List Ent} {α:Type} {f:α->Ty} {xs:List α} (G:Dom) (hG: ∀b,c.w0.heap.size<=b->G b) (hfr: ∀x,Free (f x)) (hd:Does P c o ⟨rd,kr,some (d,some (.own (.sl k es off len))),[],[]⟩) (hlb:NoLb c)
  (hts:(ts.drop off).take len=xs.map fun x=> .val (f x)) (hl:xs.length=len):Does P c o ⟨rd,(k,⟨T,es,agg,ts⟩)::kr,some (d,some (.val (tG G (tL es agg f xs)))),[(k,none)],[]⟩:=by
 intro g h al a w hp hs;refine Oper.wpIn_mono (fun a' w' hs'=> ?_) (hd g h al a w ⟨hp.rd,hp.kr.2,hp.nk,fun x hx=>by cases hx;exact hp.d (d,some (.val (tG G (tL es agg f xs)))) rfl⟩ hs);have:=St.giveAtN G hG hfr hs' (x7 _ _ _) hp.kr.1 hlb hts hl;simp only [Eff.g,yn1] at this;exact this
end
section
variable {P:Program} {c:Base} {g:Slots} {h:Keys} {al:Names} {Q:Exit->Act->World->Prop}
theorem C_nilS {x:Code} {t:Nat} (k T es:Nat) (agg:Bool) (ht:g t=some (.val (tE (.slice none 0 0)))) (hk:al k=false) (hes:Nat.blt 0 es=true) (hagg:agg=false->es=1) (H:wc P c x Q (upd g t (some (.own (.sl k es 0 0)))) (upd h k (some ⟨T,es,agg,[]⟩)) (fun j=>Nat.beq j k || al j)):wc P c x Q g h al:=fun a w hs=>by
 obtain ⟨η,s⟩:=hs;obtain ⟨η',s',hc,hoth⟩:=s.ghost k hk T es agg (by simpa using hes) hagg;have hv:a.tmps.getD t undef= .slice none 0 0:=(s'.slot t _ ht).2.2;have s2:=s'.put (v:=a.tmps.getD t undef) (s'.slot t _ ht).1 (e:= .own (.sl k es 0 0)) ⟨none,by rw [hv,hc],by simp [hc],fun hlt=>by rw [hc] at hlt;omega⟩ fun j hj=>by
  simp only [Ent.supp,VP.supp,zbj] at hj;subst hj;simp
 refine H a w ⟨η',?_⟩;have e:a.put (some t) (a.tmps.getD t undef)=a:=by
  have hlt:t < a.tmps.size:=by rw [s.tn];exact (s.slot t _ ht).1
  have:a.tmps.setIfInBounds t (a.tmps.getD t undef)=a.tmps:=by
   apply zdi;intro i;rw [zee];by_cases hi:t=i
   ·subst hi;simp [hlt]
   ·simp [hi]
  simp only [Act.put,this]
 rw [e] at s2;exact s2
end
section
variable {P:Program} {c:Base} {d ty:Nat} {pos:String} {af:Array Edge} {gd:Option (Nat×Bool)}
theorem jr5 {f:FuncId} {xs:List Operand} {aT:Array TypeId} {us:List Ty} {rr:Nat->Ty} {r:Ty} {α:Type} {ft:α->Ty} {zs:List α} {ts:List Ent} {agg:Bool} (k T es len:Nat) (ents:List Ent) (hr: ∀m F w v,(rr m).p F w v->r.p (up m) w v) (hc:CtN P f us rr) (hf:FnI P f) (hlb:NoLb c)
  (hts:(ts.drop 0).take len=zs.map fun x=> .val (ft x)) (hzl:zs.length=len) (ha:ArgsR k es len (tL es agg ft zs) ents us) (hl:xs.length=us.length):
  Does P c ⟨some d,.call {callee:= .value (.func f),args:=xs.toArray,argTypes:=aT},ty,pos,af,gd⟩ ⟨xs.zip ents,[(k,⟨T,es,agg,ts⟩)],some (d,some (.val r)),[],[]⟩:=by
 intro g h al a w hp ⟨η,st⟩;obtain ⟨fn,h1,h2,h3⟩:=hf;have hargs:=ArgsR.all st hp.kr.1 hlb hts hzl hp.rd hl ha;have hrun:(execOp a.eval ⟨some d,.call {callee:= .value (.func f),args:=xs.toArray,argTypes:=aT},ty,pos,af,gd⟩).run P w= .ok (.enter f (xs.map a.eval).toArray) w:=by
  simp only [execOp,resolve,Act.eval,Deferred.ofValue,zbu,zbx,zbn,invoke];simp only [zdu,zdj,zcs];exact xd1 h1 h2 h3 _ w
 refine xe6 hrun (zei (hc _ w (xs.map a.eval) hargs) ?_);rintro e w' ⟨v,rfl,hext,hv⟩;have hn:r.p (c.dom h η) w' v:=r.mono (hr _ _ _ _ hv) fun b o hb hl _=>by
  have hb:w.heap.size<=b:=hb;refine ⟨⟨.inl (zdc st.fr.size hb),fun hO=> ?_,fun hv=> ?_,fun hv=> ?_⟩,hl⟩
  ·have:=st.olt hO;omega
  ·have:=(st.fr.vnew b hv).1;omega
  ·have:=st.vol b hv;omega
 exact ⟨v,rfl,η,(st.ext hext).put (hp.d _ rfl) (e:= .val r) hn (fun k hk=>by cases hk)⟩
theorem hrU {t:Ty} (m:Nat) (F:Dom) (w:World) (v:Value) (hp:(tG (up m) t).p F w v):t.p (up m) w v:=t.mono hp fun _ _ hb hl _=>⟨hb.2,hl⟩
end
end An
namespace An.S
open Go Go.Proofs An Tryz
instance sl32:SlI Tryz.prog 32 9 1 false:=⟨zgw,ti9⟩
instance fi81:FnI Tryz.prog 81:=⟨_,func81,by kernel_rfl,rfl⟩
instance fi82:FnI Tryz.prog 82:=⟨_,func82,by kernel_rfl,rfl⟩
instance fi134:FnI Tryz.prog 134:=⟨_,func134,by kernel_rfl,rfl⟩
instance fi135:FnI Tryz.prog 135:=⟨_,func135,by kernel_rfl,rfl⟩
instance fi201:FnI Tryz.prog 201:=⟨_,func201,by kernel_rfl,rfl⟩
instance fi234:FnI Tryz.prog 234:=⟨_,func234,by kernel_rfl,rfl⟩
theorem el5:ElI Tryz.prog 5 1 1 false (.int .u8 0):=⟨ti5,by kernel_rfl,by kernel_rfl⟩
theorem el9:ElI Tryz.prog 9 1 16 false (.string ⟨#[]⟩):=⟨ti9,by kernel_rfl,by kernel_rfl⟩
theorem zr138:(Tryz.prog.info? 138).bind (·.zero)=some (.agg #[.bool false,.slice none 0 0,.bool false,.slice none 0 0])/\ ∀F w,zad.p F w (.agg #[.bool false,.slice none 0 0,.bool false,.slice none 0 0]):=⟨by kernel_rfl,fun _ _=>⟨_,rfl,rfl,⟨fun h=>Bool.noConfusion h,⟨_,rfl,rfl,⟨fun _=>rfl,rfl⟩,⟨fun _=>rfl,⟨none,0,rfl,zbq _,by decide,.inl rfl⟩⟩,trivial⟩⟩,⟨fun h=>Bool.noConfusion h,⟨_,rfl,rfl,⟨fun _=>rfl,rfl⟩,⟨fun _=>rfl,⟨none,0,rfl,zbq _,by decide,.inl rfl⟩⟩,trivial⟩⟩,trivial⟩⟩
theorem bu138:BuI Tryz.prog 138 (fun i=>some (i*2,2)) (.agg #[.bool false,.slice none 0 0,.bool false,.slice none 0 0]):=BuI.array underlying138 ti24 zr138.1
theorem zf5:Flat 1 false (.int .u8 0):=xd2 rfl
theorem zf9:Flat 1 false (.string ⟨#[]⟩):=xd2 rfl
instance un32:UnI Tryz.prog 32 (.slice 9):=⟨zgw⟩
theorem small1: ∀n:Fin 100,n.val < 10->(⟨#[48,49,50,51,52,53,54,55,56,57,97,98,99,100,101,102,103,104,105,106,107,108,109,110,111,112,113,114,115,116,117,118,119,120,121,122]⟩:ByteArray).extract n.val (n.val+1)=strOf (decB n.val):=by decide+kernel
theorem small2: ∀n:Fin 100,¬n.val < 10->(⟨#[48,48,48,49,48,50,48,51,48,52,48,53,48,54,48,55,48,56,48,57,49,48,49,49,49,50,49,51,49,52,49,53,49,54,49,55,49,56,49,57,50,48,50,49,50,50,50,51,50,52,50,53,50,54,50,55,50,56,50,57,51,48,51,49,51,50,51,51,51,52,51,53,51,54,51,55,51,56,51,57,52,48,52,49,52,50,52,51,52,52,52,53,52,54,52,55,52,56,52,57,53,48,53,49,53,50,53,51,53,52,53,53,53,54,53,55,53,56,53,57,54,48,54,49,54,50,54,51,54,52,54,53,54,54,54,55,54,56,54,57,55,48,55,49,55,50,55,51,55,52,55,53,55,54,55,55,55,56,55,57,56,48,56,49,56,50,56,51,56,52,56,53,56,54,56,55,56,56,56,57,57,48,57,49,57,50,57,51,57,52,57,53,57,54,57,55,57,56,57,57]⟩:ByteArray).extract (n.val*2) (n.val*2+2)=strOf (decB n.val):=by decide+kernel
theorem small1' {n:Nat} {i j:Int} (h:n < 10) (hi:i=(n:Int)) (hj:j=((n+1:Nat):Int)):(⟨#[48,49,50,51,52,53,54,55,56,57,97,98,99,100,101,102,103,104,105,106,107,108,109,110,111,112,113,114,115,116,117,118,119,120,121,122]⟩:ByteArray).extract i.toNat j.toNat=strOf (decB n):=by
 subst hi hj;exact small1 ⟨n,by omega⟩ h
theorem small2' {n:Nat} {i j:Int} (h: ¬n < 10) (h2:n < 100) (hi:i=((n*2:Nat):Int)) (hj:j=((n*2+2:Nat):Int)):(⟨#[48,48,48,49,48,50,48,51,48,52,48,53,48,54,48,55,48,56,48,57,49,48,49,49,49,50,49,51,49,52,49,53,49,54,49,55,49,56,49,57,50,48,50,49,50,50,50,51,50,52,50,53,50,54,50,55,50,56,50,57,51,48,51,49,51,50,51,51,51,52,51,53,51,54,51,55,51,56,51,57,52,48,52,49,52,50,52,51,52,52,52,53,52,54,52,55,52,56,52,57,53,48,53,49,53,50,53,51,53,52,53,53,53,54,53,55,53,56,53,57,54,48,54,49,54,50,54,51,54,52,54,53,54,54,54,55,54,56,54,57,55,48,55,49,55,50,55,51,55,52,55,53,55,54,55,55,55,56,55,57,56,48,56,49,56,50,56,51,56,52,56,53,56,54,56,55,56,56,56,57,57,48,57,49,57,50,57,51,57,52,57,53,57,54,57,55,57,56,57,57]⟩:ByteArray).extract i.toNat j.toNat=strOf (decB n):=by
 subst hi hj;exact small2 ⟨n,h2⟩ h
theorem yb4 (n:Nat):(decB n).length<=2:=by unfold decB;split <;> simp
theorem yc4 (b:Bool):(booB b).length<=5:=by cases b <;> decide
theorem zi7 {bs cs:List UInt8}:rV tU8 bs++(bts (strOf cs)).map (fun y=>Ent.val (tU8 y))=rV tU8 (bs++cs):=by simp [rV,bts_mk]
theorem u8s {n:Nat} (h:n < 256):(IntKind.u8).wrap (n:Int)=(((w8 n).toNat:Nat):Int):=by rw [w8_nat h];exact wu8 (by omega) (by omega)
theorem wf7 (n:Nat) (h:n < 100):
  Ct Tryz.prog 234 [tI n] (tSt (strOf (decB n))):=by
 refine Ct.intro func234 rfl ntmps234 rfl ?_;intro w F;refine A12 ?_;refine x9 rfl (fun h172=> ?_) (fun h172=> ?_)
 ·
  refine A5 ?_;refine R3 (zw6 (s:=⟨#[48,49,50,51,52,53,54,55,56,57,97,98,99,100,101,102,103,104,105,106,107,108,109,110,111,112,113,114,115,116,117,118,119,120,121,122]⟩) zgu (by omega) (by omega) (Int.le_trans (b:=36) (by omega) (by decide)) (small1' (n:=n) (by omega) (by omega) (by omega))) rfl rfl rfl ?_;refine A5 ?_;exact E1 rfl rfl zao
 ·
  refine A5 ?_;refine R2 (xj8 zah) rfl rfl ?_;refine A1 ?_;refine R2 (xj8 zah) rfl rfl ?_;refine A1 ?_;refine R3 (zw6 (s:=⟨#[48,48,48,49,48,50,48,51,48,52,48,53,48,54,48,55,48,56,48,57,49,48,49,49,49,50,49,51,49,52,49,53,49,54,49,55,49,56,49,57,50,48,50,49,50,50,50,51,50,52,50,53,50,54,50,55,50,56,50,57,51,48,51,49,51,50,51,51,51,52,51,53,51,54,51,55,51,56,51,57,52,48,52,49,52,50,52,51,52,52,52,53,52,54,52,55,52,56,52,57,53,48,53,49,53,50,53,51,53,52,53,53,53,54,53,55,53,56,53,57,54,48,54,49,54,50,54,51,54,52,54,53,54,54,54,55,54,56,54,57,55,48,55,49,55,50,55,51,55,52,55,53,55,54,55,55,55,56,55,57,56,48,56,49,56,50,56,51,56,52,56,53,56,54,56,55,56,56,56,57,57,48,57,49,57,50,57,51,57,52,57,53,57,54,57,55,57,56,57,57]⟩) zgu (by omega) (by omega) (Int.le_trans (b:=200) (by omega) (by decide)) (small2' (n:=n) (by omega) h (by omega) (by omega))) rfl rfl rfl ?_;refine A4 ?_;exact E1 rfl rfl zao
theorem jk7 (bs:List UInt8) (hb:bs.length<=1000000) (n:Nat) (hn:n < 100):
  CtG Tryz.prog 201 [(100,⟨5,1,false,rV tU8 bs⟩)] [.own (.sl 100 1 0 bs.length),.val (tE (.int .u64 (n:Int))),.val (tI 10)] (.own (.sl 101 1 0 (bs++(decB n)).length)) [(101,⟨5,1,false,rV tU8 (bs++(decB n))⟩)] [101]:=by
 have hdl:=yb4 n;refine CtG.intro [100] func201 rfl ntmps201 rfl rfl ⟨⟨rfl,x6⟩,trivial⟩ ?_;intro w F η;refine A12 ?_;refine yn3 rfl (zbf (by omega)) ?_;refine A7 ?_;refine yn3 rfl (zbf (by omega)) ?_;refine A4 ?_;refine R1 (xa8 zgo (isS zgj) zah) rfl (R1 (x4 (wf7 n hn) fi234 rfl) rfl (RE (yo2 (k:=100) (k':=101) (sb:=strOf (decB n)) (ts':=rV tU8 (bs++(decB n))) zgu zgx el5 zf5 rfl xc0 (by rw [xk3];omega) (by rw [xk3];omega) zi7 (n':=(bs++(decB n)).length) (by rw [xk3,zbm])) ⟨rfl,rfl,trivial⟩ ⟨rfl,trivial⟩ ⟨rfl,trivial⟩ ?_));refine A6 ?_;exact xg0 LentC.mk' rfl rfl Imp.refl qA rfl ⟨⟨rfl,x6⟩,trivial⟩ rfl
theorem zm1 (bs:List UInt8) (hb:bs.length<=1000000) (n:Nat) (hn:n < 100):
  CtG Tryz.prog 134 [(100,⟨5,1,false,rV tU8 bs⟩)] [.own (.sl 100 1 0 bs.length),.val (tE (.int .i64 (n:Int))),.val (tI 10)] (.own (.sl 101 1 0 (bs++(decB n)).length)) [(101,⟨5,1,false,rV tU8 (bs++(decB n))⟩)] [101]:=by
 have hdl:=yb4 n;refine CtG.intro [100] func134 rfl ntmps134 rfl rfl ⟨⟨rfl,x6⟩,trivial⟩ ?_;intro w F η;refine A8 ?_;refine R1 (xa8 zgj (isS underlying2) (by first | exact wu64 (by omega) (by omega) | exact mu64)) rfl ?_;refine A10 ?_;refine xi8 rfl (zbg (by omega)) ?_;refine A7 ?_;refine RE (xb7 (fun j=>cond (Nat.beq j 101) 101 (100)) (jk7 bs hb n hn) fi201 rfl (krC (ρ:=fun j=>cond (Nat.beq j 101) 101 (100)) (k:=100) x8 (krN (ρ:=fun j=>cond (Nat.beq j 101) 101 (100)))) (krC (ρ:=fun j=>cond (Nat.beq j 101) 101 (100)) (k:=101) x8 (krN (ρ:=fun j=>cond (Nat.beq j 101) 101 (100)))) ⟨⟨rfl,x6⟩,trivial⟩ rfl) qC qA qA ?_;refine A4 ?_;exact xg0 LentC.mk' rfl rfl Imp.refl qA rfl ⟨⟨rfl,x6⟩,trivial⟩ rfl
theorem jq7 (bs:List UInt8) (hb:bs.length<=1000000) (n:Nat) (hn:n < 100):
  CtG Tryz.prog 81 [(100,⟨5,1,false,rV tU8 bs⟩)] [.own (.sl 100 1 0 bs.length),.val (tE (.int .i64 (n:Int))),.val (tI 10)] (.own (.sl 101 1 0 (bs++(decB n)).length)) [(101,⟨5,1,false,rV tU8 (bs++(decB n))⟩)] [101]:=by
 have hdl:=yb4 n;refine CtG.intro [100] func81 rfl ntmps81 rfl rfl ⟨⟨rfl,x6⟩,trivial⟩ ?_;intro w F η;refine A10 ?_;refine RE (xb7 (fun j=>cond (Nat.beq j 101) 101 (100)) (zm1 bs hb n hn) fi134 rfl (krC (ρ:=fun j=>cond (Nat.beq j 101) 101 (100)) (k:=100) x8 (krN (ρ:=fun j=>cond (Nat.beq j 101) 101 (100)))) (krC (ρ:=fun j=>cond (Nat.beq j 101) 101 (100)) (k:=101) x8 (krN (ρ:=fun j=>cond (Nat.beq j 101) 101 (100)))) ⟨⟨rfl,x6⟩,trivial⟩ rfl) qC qA qA ?_;refine A4 ?_;exact xg0 LentC.mk' rfl rfl Imp.refl qA rfl ⟨⟨rfl,x6⟩,trivial⟩ rfl
theorem jk5 (n:Nat) (hn:n < 100) {x:Int} (ex:x=(n:Int)):
  CtG Tryz.prog 81 [] [.val (tE (.slice none 0 0)),.val (tE (.int .i64 x)),.val (tI 10)] (.own (.sl 101 1 0 (decB n).length)) [(101,⟨5,1,false,rV tU8 (decB n)⟩)] [101]:=by
 subst ex;refine CtG.intro [] func81 rfl ntmps81 rfl rfl trivial ?_;intro w F η;refine C_nilS (t:=0) 100 5 1 false rfl rfl rfl (fun _=>rfl) ?_;refine A10 ?_;refine RE (xb7 (fun j=>cond (Nat.beq j 101) 101 (100)) (zm1 [] (by simp) n hn) fi134 rfl (krC (ρ:=fun j=>cond (Nat.beq j 101) 101 (100)) (k:=100) x8 (krN (ρ:=fun j=>cond (Nat.beq j 101) 101 (100)))) (krC (ρ:=fun j=>cond (Nat.beq j 101) 101 (100)) (k:=101) x8 (krN (ρ:=fun j=>cond (Nat.beq j 101) 101 (100)))) ⟨⟨rfl,x6⟩,trivial⟩ rfl) qC qA qA ?_;refine A4 ?_;exact xg0 LentC.mk' rfl rfl Imp.refl qA rfl ⟨⟨rfl,x6⟩,trivial⟩ rfl
theorem qu5 (bs:List UInt8) (hb:bs.length<=1000000) (b:Bool):
  CtG Tryz.prog 135 [(100,⟨5,1,false,rV tU8 bs⟩)] [.own (.sl 100 1 0 bs.length),.val (tB b)] (.own (.sl 101 1 0 (bs++(booB b)).length)) [(101,⟨5,1,false,rV tU8 (bs++(booB b))⟩)] [101]:=by
 have hbt:=yc4 true;have hbf:=yc4 false;refine CtG.intro [100] func135 rfl ntmps135 rfl rfl ⟨⟨rfl,x6⟩,trivial⟩ ?_;intro w F η;refine A11 ?_;refine xc7 rfl (fun h31=> ?_) (fun h31=> ?_)
 ·
  subst h31;refine A3 ?_;refine RE (yo2 (k:=100) (k':=101) (sb:=strOf (booB true)) (ts':=rV tU8 (bs++(booB true))) zgu zgx el5 zf5 rfl xc0 (by rw [xk3];omega) (by rw [xk3];omega) zi7 (n':=(bs++(booB true)).length) (by rw [xk3,zbm])) ⟨rfl,rfl,trivial⟩ ⟨rfl,trivial⟩ ⟨rfl,trivial⟩ ?_;refine A5 ?_;exact xg0 LentC.mk' rfl rfl Imp.refl qA rfl ⟨⟨rfl,x6⟩,trivial⟩ rfl
 ·
  subst h31;refine A5 ?_;refine RE (yo2 (k:=100) (k':=101) (sb:=strOf (booB false)) (ts':=rV tU8 (bs++(booB false))) zgu zgx el5 zf5 rfl xc0 (by rw [xk3];omega) (by rw [xk3];omega) zi7 (n':=(bs++(booB false)).length) (by rw [xk3,zbm])) ⟨rfl,rfl,trivial⟩ ⟨rfl,trivial⟩ ⟨rfl,trivial⟩ ?_;refine A4 ?_;exact xg0 LentC.mk' rfl rfl Imp.refl qA rfl ⟨⟨rfl,x6⟩,trivial⟩ rfl
theorem jh5 (bs:List UInt8) (hb:bs.length<=1000000) (b:Bool):
  CtG Tryz.prog 82 [(100,⟨5,1,false,rV tU8 bs⟩)] [.own (.sl 100 1 0 bs.length),.val (tB b)] (.own (.sl 101 1 0 (bs++(booB b)).length)) [(101,⟨5,1,false,rV tU8 (bs++(booB b))⟩)] [101]:=by
 have hbt:=yc4 true;have hbf:=yc4 false;refine CtG.intro [100] func82 rfl ntmps82 rfl rfl ⟨⟨rfl,x6⟩,trivial⟩ ?_;intro w F η;refine A9 ?_;refine RE (xb7 (fun j=>cond (Nat.beq j 101) 101 (100)) (qu5 bs hb b) fi135 rfl (krC (ρ:=fun j=>cond (Nat.beq j 101) 101 (100)) (k:=100) x8 (krN (ρ:=fun j=>cond (Nat.beq j 101) 101 (100)))) (krC (ρ:=fun j=>cond (Nat.beq j 101) 101 (100)) (k:=101) x8 (krN (ρ:=fun j=>cond (Nat.beq j 101) 101 (100)))) ⟨⟨rfl,x6⟩,trivial⟩ rfl) qB qA qA ?_;refine A4 ?_;exact xg0 LentC.mk' rfl rfl Imp.refl qA rfl ⟨⟨rfl,x6⟩,trivial⟩ rfl
theorem ji1 (xs:List ByteArray) (hx:xs.length<=1000000):
  CtN Tryz.prog 47 [tL 1 false tSt xs] (fun nw=>tG (up nw) (tL 1 false tSt xs)):=by
 refine CtN.intro func47 rfl ntmps47 rfl ?_;intro w F;refine A9 ?_;refine R1 (qo4 zgw) rfl ?_;refine A2 ?_;refine qw8 (s:=4) rfl (fun b357 hb357=> ?_);refine xc7 rfl (fun h357=> ?_) (fun h357=> ?_)
 ·
  subst h357;have hnil:=hb357 rfl;subst hnil;refine A7 ?_;exact E1 rfl rfl (leNilG rfl)
 ·
  refine A4 ?_;refine RE (xj0 (k:=5) (ents:=[]) zgw el9 zf9 rfl (by simp) rfl rfl rfl) trivial trivial qA ?_;refine A1 ?_;refine RE (xb3 (k:=5) (k':=7) (f:=tSt) (ts':=rV tSt xs) zgw el9 zf9 rfl rfl (fun _=>inferInstance) rfl (by simp;omega) (by simp;omega) (by simp [rV]) (n':=xs.length) (by simp)) ⟨rfl,rfl,trivial⟩ ⟨rfl,trivial⟩ ⟨rfl,trivial⟩ (RE (Does.giveLN (up w.heap.size) (fun _ h=>h) (fun _=>Free.E) (k:=7) (es:=1) (off:=0) (len:=xs.length) (xs:=xs) (f:=tSt) (ts:=rV tSt xs) (xb0) (fun _ h=>h) (xe9 rfl) rfl) ⟨rfl,trivial⟩ ⟨rfl,trivial⟩ trivial ?_);refine A3 ?_;exact E1 rfl rfl zao
theorem zs2 (xs ys:List ByteArray):
  Ct Tryz.prog 50 [tL 1 false tSt xs,tL 1 false tSt ys] (tB (decide (xs=ys))):=by
 refine Ct.intro func50 rfl ntmps50 rfl ?_;intro w F;refine xg9 (s:=0) rfl (fun hl0=> ?_);refine A15 ?_;refine x9 rfl (fun h21=> ?_) (fun h21=> ?_)
 ·
  refine A7 ?_;exact E1 rfl rfl (zau (by rw [zbg (fun h=>by subst h;exact h21 rfl)]))
 ·
  refine A11 ?_;refine cL (fun (i:Nat)=>i<=xs.length/\ ∀j,j < i->xs.getD j ⟨#[]⟩=ys.getD j ⟨#[]⟩) (fun (i:Nat)=>uV (uV (uV (uV uN 0 (tL 1 false tSt xs)) 1 (tL 1 false tSt ys)) 12 (tI xs.length)) 13 (tI i)) (fun (i:Nat)=>fun _=>none) [] (fun (i:Nat)=>xs.length - i) (0) ⟨zbt _,fun j hj=>by omega⟩ ?_;intro i hI;obtain ⟨hi,hs⟩:=hI;refine A6 ?_;refine x9 rfl (fun h24=> ?_) (fun h24=> ?_)
  ·
   refine A14 ?_;refine R2 (x5 sl32 (i) (by omega) (zai (l:=xs) (n:=i) (d:=⟨#[]⟩))) rfl rfl ?_;refine A3 ?_;refine R2 (x5 sl32 (i) (by omega) (zai (l:=ys) (n:=i) (d:=⟨#[]⟩))) rfl rfl ?_;refine A1 ?_;refine R2 (qw9) rfl rfl ?_;refine A2 ?_;refine x9 rfl (fun h25=> ?_) (fun h25=> ?_)
   ·
    refine A11 ?_;exact E1 rfl rfl (zau (by rw [zbg (fun h=>h25 (by rw [h]))]))
   ·
    refine A7 ?_;exact xf5 (i+1) ⟨⟨by omega,fun j hj=>by
  by_cases hji:j=i
  ·subst hji;exact Decidable.of_not_not h25
  ·exact hs j (by omega)⟩,(by omega)⟩ (zae rfl (zae rfl (zan rfl (zan rfl zay)))) zax (zaj (zaj (zaj (zaj zar)))) zaz (lkOk rfl)
  ·
   refine A11 ?_;exact E1 rfl rfl (zau (by rw [zbf (xh0 (d:=⟨#[]⟩) (by omega) fun j hj=>hs j (by omega))]))
def pre2 (v:Va) (i:Nat):List UInt8:=decB v.i.toNat++([v.f.n,v.f.d].take i).flatMap whB
theorem pre2_next {v:Va} {i:Nat} (hi:i < 2):pre2 v (i+1)=pre2 v i++whB ([v.f.n,v.f.d].getD i ⟨false,[]⟩):=by
 rcases (show i=0∨i=1 by omega) with rfl | rfl <;> simp [pre2]
theorem pre2_all {v:Va}:pre2 v 2=txtB v:=by simp [pre2,txtB]
theorem qn2 {x:Wh} (h:x.l.length<=100):(whB x).length<=300:=by
 have h1:=yc4 x.neg;have h2:=yb4 x.l.length;simp only [whB,zdb,zbm,xp1];omega
theorem pre2_len {v:Va} {i:Nat} (h:txOk v):(pre2 v i).length<=1000:=by
 have h0:=yb4 v.i.toNat;have h1:=qn2 (x:=v.f.n) (by have:=h.2.2.1;omega);have h2:=qn2 (x:=v.f.d) (by have:=h.2.2.2.1;omega);rcases (show i=0∨i=1∨2<=i by omega) with rfl | rfl | hi
 ·simp only [pre2,zej,List.flatMap_nil,zdz];omega
 ·simp only [pre2,List.take_succ_cons,zej,zed,List.flatMap_nil,zdz,zbm];omega
 ·rw [pre2,List.take_of_length_le (by simpa using hi)];simp only [zed,List.flatMap_nil,zdz,zbm];omega
theorem zd8 {v:Va} {i:Nat} (h:txOk v) (hi:i < 2):([v.f.n,v.f.d].getD i ⟨false,[]⟩).l.length < 10/\ ∀x∈([v.f.n,v.f.d].getD i ⟨false,[]⟩).l,x < 65536:=by
 rcases (show i=0∨i=1 by omega) with rfl | rfl
 ·exact ⟨h.2.2.1,h.2.2.2.2.1⟩
 ·exact ⟨h.2.2.2.1,h.2.2.2.2.2⟩
theorem C_sl {P:Program} {c:Base} {g:Slots} {h:Keys} {al:Names} {Q:Exit->Act->World->Prop} {x:Code} {t:Nat} {e e':Ent} (ht:g t=some e) (he:e=e') (H:wc P c x Q (upd g t (some e')) h al):wc P c x Q g h al:=by
 subst he;have:upd g t (some e)=g:=by
  funext j;by_cases hj:j=t
  ·subst hj;rw [x7,ht]
  ·rw [x3 _ _ _ hj]
 rwa [this] at H
theorem jj5 {l:List Nat} {j:Nat} (h:j < l.length):l.getD j 0∈l:=by
 rw [zbh,zbi h];exact zfa h
theorem u8m {n:Nat}:(IntKind.u8).wrap (n:Int)=(((w8 (n%256)).toNat:Nat):Int):=by
 rw [w8_nat (by omega),IntKind.wrap_u8];omega
theorem c_text (f:Fa) (hx:f.gone=false->txOk f.v):
  Ct Tryz.prog 48 [tFa f] (tSt (txt f)):=by
 refine Ct.intro func48 rfl ntmps48 rfl ?_;intro w F;refine A13 ?_;refine xc7 rfl (fun h195=> ?_) (fun h195=> ?_)
 ·
  refine A7 ?_;exact E1 rfl rfl (Le.of (by rw [txt,if_pos h195]))
 ·
  refine A3 ?_;have hx0:=hx h195;refine A3 ?_;refine xn7 (0) ti3 rfl rfl rfl (At.t (At.g 5 rfl rfl) (At.g 2 rfl rfl)) rfl (RE (xb7 (fun _=>13) (jk5 f.v.i.toNat (by have:=hx0.1;have:=hx0.2.1;omega) (by have:=hx0.1;omega)) fi81 rfl (krN (ρ:=fun _=>13)) (krC (ρ:=fun _=>13) (k:=101) x8 (krN (ρ:=fun _=>13))) ⟨⟨rfl,x6⟩,trivial⟩ rfl) qC trivial qA ?_);refine A9 ?_;refine xn7 (0) ti24 rfl rfl rfl (At.t (At.g 5 rfl rfl) (At.t (At.g 1 rfl rfl) (At.g 0 rfl rfl))) rfl ?_;refine A3 ?_;refine xn7 (0) ti24 rfl rfl rfl (At.t (At.g 5 rfl rfl) (At.t (At.g 1 rfl rfl) (At.g 1 rfl rfl))) rfl (R2 (xd3 (r:=tS [⟨2,true,tWh f.v.f.n⟩,⟨2,true,tWh f.v.f.d⟩]) (ts:=[(0,tWh f.v.f.n),(1,tWh f.v.f.d)]) bu138 zr138.2 (Bc 0 rfl rfl rfl (Bc 1 rfl rfl rfl zao))) rfl rfl ?_);refine A4 ?_;refine cL (fun (i:Nat)=>i<=2) (fun (i:Nat)=>uV (uV (uO uN 3 (.sl 13 1 0 (pre2 f.v i).length)) 22 (tS ([f.v.f.n,f.v.f.d].map fun y=>⟨2,true,tWh y⟩))) 23 (tI i)) (fun (i:Nat)=>uK uN 13 5 1 false (rV tU8 (pre2 f.v i))) [13] (fun (i:Nat)=>2 - i) (0) (zbt _) (hg:=(sI (sC ((zav rfl (zaw (by rw [show pre2 f.v 0=(decB f.v.i.toNat) by simp [pre2]];rfl))) zay)))) (hh:=((zaq rfl (zat (by rw [show pre2 f.v 0=(decB f.v.i.toNat) by simp [pre2]]))) zax)) ?_;intro i hI;have hpl:=pre2_len (i:=i) hx0;refine A6 ?_;refine x9 rfl (fun h199=> ?_) (fun h199=> ?_)
  ·
   refine A6 ?_;refine R2 (d_idxS (f:=tWh) (xs:=[f.v.f.n,f.v.f.d]) i ⟨false,[]⟩ underlying138 ti24 (by omega) (by omega) rfl) rfl rfl (RE (xb8 (k:=5) (n:=2) (agg:=true) zr24.1 zr24.2 rfl) trivial trivial qA ?_);refine A4 ?_;have hwl:=zd8 (i:=i) hx0 (by omega);have hb5:=yc4 ([f.v.f.n,f.v.f.d].getD i ⟨false,[]⟩).neg;have hd2:=yb4 ([f.v.f.n,f.v.f.d].getD i ⟨false,[]⟩).l.length;refine A2 ?_;refine R1 (xc2 (n:=1) (f:=tU8) [(32:UInt8)] zgx el5 zf5 rfl (fun _=>inferInstance) rfl rfl rfl) rfl (RE (xb3 (k:=13) (k':=28) (f:=tU8) (ys:=[32]) (ts':=rV tU8 ((pre2 f.v i)++[32])) zgx el5 zf5 rfl rfl (fun _=>inferInstance) xc0 (by simp only [zdb,List.length_nil];omega) (by simp only [zdb,List.length_nil];omega) (by simp [rV]) (n':=((pre2 f.v i)++[32]).length) List.length_append.symm) qB qA qA ?_);refine A2 ?_;refine RE (xb7 (fun j=>cond (Nat.beq j 101) 31 (28)) (jh5 ((pre2 f.v i)++[32]) (by simp only [zbm,zdb,List.length_nil];omega) ([f.v.f.n,f.v.f.d].getD i ⟨false,[]⟩).neg) fi82 rfl (krC (ρ:=fun j=>cond (Nat.beq j 101) 31 (28)) (k:=100) x8 (krN (ρ:=fun j=>cond (Nat.beq j 101) 31 (28)))) (krC (ρ:=fun j=>cond (Nat.beq j 101) 31 (28)) (k:=101) x8 (krN (ρ:=fun j=>cond (Nat.beq j 101) 31 (28)))) ⟨⟨rfl,x6⟩,trivial⟩ rfl) qB qA qA ?_;refine A6 ?_;refine R1 (xc2 (n:=1) (f:=tU8) [(32:UInt8)] zgx el5 zf5 rfl (fun _=>inferInstance) rfl rfl rfl) rfl (RE (xb3 (k:=31) (k':=34) (f:=tU8) (ys:=[32]) (ts':=rV tU8 ((((pre2 f.v i)++[32])++booB ([f.v.f.n,f.v.f.d].getD i ⟨false,[]⟩).neg)++[32])) zgx el5 zf5 rfl rfl (fun _=>inferInstance) xc0 (by simp only [zbm,zdb,List.length_nil];omega) (by simp only [zbm,zdb,List.length_nil];omega) (by simp [rV]) (n':=((((pre2 f.v i)++[32])++booB ([f.v.f.n,f.v.f.d].getD i ⟨false,[]⟩).neg)++[32]).length) List.length_append.symm) qB qA qA ?_);refine A3 ?_;refine RE (xb7 (fun j=>cond (Nat.beq j 101) 38 (34)) (jq7 ((((pre2 f.v i)++[32])++booB ([f.v.f.n,f.v.f.d].getD i ⟨false,[]⟩).neg)++[32]) (by simp only [zbm,zdb,List.length_nil];omega) ([f.v.f.n,f.v.f.d].getD i ⟨false,[]⟩).l.length (by omega)) fi81 rfl (krC (ρ:=fun j=>cond (Nat.beq j 101) 38 (34)) (k:=100) x8 (krN (ρ:=fun j=>cond (Nat.beq j 101) 38 (34)))) (krC (ρ:=fun j=>cond (Nat.beq j 101) 38 (34)) (k:=101) x8 (krN (ρ:=fun j=>cond (Nat.beq j 101) 38 (34)))) ⟨⟨rfl,x6⟩,trivial⟩ rfl) qC qA qA ?_;refine A12 ?_;refine cL (fun (j:Nat)=>j<=([f.v.f.n,f.v.f.d].getD i ⟨false,[]⟩).l.length) (fun (j:Nat)=>uV (uV (uV (uV (uV (uO uN 3 (.sl 38 1 0 ((((((pre2 f.v i)++[32])++booB ([f.v.f.n,f.v.f.d].getD i ⟨false,[]⟩).neg)++[32])++decB ([f.v.f.n,f.v.f.d].getD i ⟨false,[]⟩).l.length)++limsB (([f.v.f.n,f.v.f.d].getD i ⟨false,[]⟩).l.take j)).length)) 22 (tS ([f.v.f.n,f.v.f.d].map fun y=>⟨2,true,tWh y⟩))) 23 (tI i)) 40 (tLm ([f.v.f.n,f.v.f.d].getD i ⟨false,[]⟩).l)) 41 (tI ([f.v.f.n,f.v.f.d].getD i ⟨false,[]⟩).l.length)) 42 (tI j)) (fun (j:Nat)=>uK uN 38 5 1 false (rV tU8 ((((((pre2 f.v i)++[32])++booB ([f.v.f.n,f.v.f.d].getD i ⟨false,[]⟩).neg)++[32])++decB ([f.v.f.n,f.v.f.d].getD i ⟨false,[]⟩).l.length)++limsB (([f.v.f.n,f.v.f.d].getD i ⟨false,[]⟩).l.take j)))) [38] (fun (j:Nat)=>([f.v.f.n,f.v.f.d].getD i ⟨false,[]⟩).l.length - j) (0) (zbt _) (hg:=(sI (sI (sC (sI (sC ((zav rfl (zaw (by rw [zej,show limsB []=[] from rfl,zdz];rfl))) zay))))))) (hh:=((zaq rfl (zat (by rw [zej,show limsB []=[] from rfl,zdz]))) zax)) ?_;intro j hI2;have hlx:=jk8 (l:=([f.v.f.n,f.v.f.d].getD i ⟨false,[]⟩).l) (i:=j);have hll:(limsB (([f.v.f.n,f.v.f.d].getD i ⟨false,[]⟩).l.take j)).length<=2*([f.v.f.n,f.v.f.d].getD i ⟨false,[]⟩).l.length:=by rw [xp1,zcu];omega
   refine A6 ?_;refine x9 rfl (fun h202=> ?_) (fun h202=> ?_)
   ·
    refine A6 ?_;refine R2 (x5 sl22 (j) (by omega) (gN (by omega))) rfl rfl ?_;refine A4 ?_;have hlt:([f.v.f.n,f.v.f.d].getD i ⟨false,[]⟩).l.getD j 0 < 65536:=hwl.2 _ (jj5 (by omega));refine A3 ?_;refine R2 (ya2 (r:=((([f.v.f.n,f.v.f.d].getD i ⟨false,[]⟩).l.getD j 0 / 256:Nat):Int)) (by decide) ((shrN (s:=8) rfl (by decide)).trans (by simp))) rfl rfl (R1 (xa8 zgy (isS zgi) (u8s (n:=([f.v.f.n,f.v.f.d].getD i ⟨false,[]⟩).l.getD j 0 / 256) (by omega))) rfl ?_);refine A1 ?_;refine R1 (xa8 zgy (isS zgi) (u8m (n:=([f.v.f.n,f.v.f.d].getD i ⟨false,[]⟩).l.getD j 0))) rfl (R2 (xc2 (n:=2) (f:=tU8) [w8 (([f.v.f.n,f.v.f.d].getD i ⟨false,[]⟩).l.getD j 0 / 256),w8 (([f.v.f.n,f.v.f.d].getD i ⟨false,[]⟩).l.getD j 0%256)] zgx el5 zf5 rfl (fun _=>inferInstance) rfl rfl rfl) rfl rfl (RE (xb3 (k:=38) (k':=53) (f:=tU8) (ys:=[w8 (([f.v.f.n,f.v.f.d].getD i ⟨false,[]⟩).l.getD j 0 / 256),w8 (([f.v.f.n,f.v.f.d].getD i ⟨false,[]⟩).l.getD j 0%256)]) (ts':=rV tU8 (((((((pre2 f.v i)++[32])++booB ([f.v.f.n,f.v.f.d].getD i ⟨false,[]⟩).neg)++[32])++decB ([f.v.f.n,f.v.f.d].getD i ⟨false,[]⟩).l.length)++limsB (([f.v.f.n,f.v.f.d].getD i ⟨false,[]⟩).l.take j))++[w8 (([f.v.f.n,f.v.f.d].getD i ⟨false,[]⟩).l.getD j 0 / 256),w8 (([f.v.f.n,f.v.f.d].getD i ⟨false,[]⟩).l.getD j 0%256)])) zgx el5 zf5 rfl rfl (fun _=>inferInstance) xc0 (by simp only [zbm,zdb,List.length_nil];omega) (by simp only [zbm,zdb,List.length_nil];omega) (by simp [rV]) (n':=(((((((pre2 f.v i)++[32])++booB ([f.v.f.n,f.v.f.d].getD i ⟨false,[]⟩).neg)++[32])++decB ([f.v.f.n,f.v.f.d].getD i ⟨false,[]⟩).l.length)++limsB (([f.v.f.n,f.v.f.d].getD i ⟨false,[]⟩).l.take j))++[w8 (([f.v.f.n,f.v.f.d].getD i ⟨false,[]⟩).l.getD j 0 / 256),w8 (([f.v.f.n,f.v.f.d].getD i ⟨false,[]⟩).l.getD j 0%256)]).length) List.length_append.symm) qB qA qA ?_));refine A8 ?_;have hlx:=hlx (by omega);exact xe3 (l:=[38]) (zab 38 53) (j+1) ⟨(by omega),(by omega)⟩ (zaf rfl (zaf rfl (zas rfl (zaf rfl (zas rfl ((zbc rfl (zaw (by rw [hlx,<-zdg];rfl))) zbd)))))) ((zbb rfl (zat (by rw [hlx,<-zdg];exact x8.symm))) zbe) (zaj (zaj (zaj (zaj (zaj (zak rfl zar)))))) (zam rfl (supJ x6) zaz) (lkOk rfl) rfl rfl (fun _ h=>by cases h)
   ·
    refine A10 ?_;have hjl:j=([f.v.f.n,f.v.f.d].getD i ⟨false,[]⟩).l.length:=by omega
    exact xe3 (l:=[13]) (zab 13 38) (i+1) ⟨(by omega),(by omega)⟩ (zaf rfl (zas rfl ((zbc rfl (zaw (by rw [pre2_next (by omega),hjl,zcf];simp only [whB,zdg,List.cons_append,List.nil_append];rfl))) zbd))) ((zbb rfl (zat (by rw [pre2_next (by omega),hjl,zcf];simp only [whB,zdg,List.cons_append,List.nil_append];exact x8.symm))) zbe) (zaj (zaj (zak rfl zar))) (zam rfl (supJ x6) zaz) (lkOk rfl) rfl rfl (fun _ h=>by cases h)
  ·
   refine A6 ?_;have hie:i=2:=by omega
   subst hie;refine xt7 (k:=13) (e':=⟨5,1,false,rV tU8 (txtB f.v)⟩) rfl (by rw [pre2_all]) (C_sl (t:=3) rfl (by rw [pre2_all]) ?_);refine A2 ?_;refine RE (jo3 (bs:=txtB f.v) zgx zgy zgu rfl (qi6 _)) qA qA trivial ?_;refine A4 ?_;exact E1 rfl rfl (Le.of (by rw [txt,if_neg (by rw [h195];decide)]))
end An.S
namespace An.S
open Go
def txtO (o:Option Fa):ByteArray:=match o with
 | none=>⟨#[]⟩
 | some f=>txt f
def nowA (T:List Fa) (ds:List Int) (i:Nat):List ByteArray:=(rowA T ds i).map txtO
def nowL (T:List Fa) (ds:List Int) (i p:Nat):List ByteArray:=(rowL T ds i p).map txtO
theorem xr8 {T:List Fa} {ds:List Int} {i:Nat}:(nowA T ds i).length=ds.length:=by rw [nowA,zch,yh7]
theorem jt8 {T:List Fa} {ds:List Int} {i p:Nat}:(nowL T ds i p).length=ds.length:=by rw [nowL,zch,xk8]
theorem jn0 {T:List Fa} {ds:List Int}:nowA T ds 0=List.replicate ds.length ⟨#[]⟩:=by rw [nowA,zk2,List.map_replicate];rfl
theorem qs9 {T:List Fa} {ds:List Int} (h:ds.Pairwise (· < ·)) {i:Nat} (hi:i < T.length):nowL T ds i (ixD ds (T.getD i fa0).lo)=nowA T ds i:=by rw [nowL,za6 h hi,nowA]
theorem jp5 {T:List Fa} {ds:List Int} (h:ds.Pairwise (· < ·)) {i p:Nat} (hi:i < T.length) (h1:ixD ds (T.getD i fa0).lo<=p) (h2:ixD ds (T.getD i fa0).hi<=p):nowL T ds i p=nowA T ds (i+1):=by rw [nowL,zt1 h hi h1 h2,nowA]
theorem jp6 {T:List Fa} {ds:List Int} (h:ds.Pairwise (· < ·)) {i p:Nat} (hi:i < T.length) (hp:p < ds.length) (h1:ixD ds (T.getD i fa0).lo<=p) (h2:p < ixD ds (T.getD i fa0).hi):(nowL T ds i p).set p (txt (T.getD i fa0))=nowL T ds i (p+1):=by
 rw [nowL,nowL,<-qc2 h hi hp h1 h2,List.map_set];rfl
def grpE (T:List Fa) (i:Nat):Nat:=i+((T.drop i).takeWhile fun f=>decide (f.kn=(T.getD i fa0).kn)).length
theorem zf6 {T:List Fa} {i j:Nat} (hij:i<=j) (hj:j<=T.length) (h: ∀q,i<=q->q < j->(T.getD q fa0).kn=(T.getD i fa0).kn) (he:j=T.length∨(T.getD j fa0).kn≠(T.getD i fa0).kn):grpE T i=j:=by
 have e:T.drop i=(T.drop i).take (j - i)++T.drop j:=by
  conv=>lhs;rw [<-List.take_append_drop (j - i) (T.drop i)]
  rw [List.drop_drop];congr 2;omega
 have hl:((T.drop i).take (j - i)).length=j - i:=by rw [zcu,List.length_drop];omega
 rw [grpE,e,List.takeWhile_append_of_pos,zbm,hl]
 ·cases hd:T.drop j with
  | nil=>simp;omega
  | cons x r=>
   have hx:T.getD j fa0=x:=by
    have h0:(T.drop j).getD 0 fa0=x:=by rw [hd];rfl
    rwa [xk2,zeh] at h0
   have hjl:j < T.length:=by
    rcases zcb j T.length with h1 | h1
    ·exact h1
    ·rw [List.drop_eq_nil_of_le h1] at hd;cases hd
   rw [List.takeWhile_cons,if_neg (by rw [<-hx];simpa using he.resolve_left (by omega))];simp;omega
 ·intro f hf;obtain ⟨q,hq,rfl⟩:=List.mem_iff_getElem.1 hf;rw [hl] at hq;have:=h (i+q) (by omega) (by omega);rw [<-xk2 (d:=fa0),<-xs0 (d:=fa0) (n:=j - i) hq,zbh,zbi (by rw [hl];exact hq)] at this;simpa using this
theorem zv9 {T:List Fa} {i:Nat} (hi:i < T.length):i < grpE T i/\grpE T i<=T.length:=by
 have e:T.drop i=T.getD i fa0::T.drop (i+1):=by rw [List.drop_eq_getElem_cons hi,zbh,zbi hi];rfl
 constructor
 ·rw [grpE,e,List.takeWhile_cons,if_pos (by simp)];simp
 ·have:=(List.takeWhile_sublist (fun f=>decide (f.kn=(T.getD i fa0).kn)) (l:=T.drop i)).length_le;rw [List.length_drop] at this;rw [grpE];omega
def lrn (T:List Fa) (ds:List Int):Nat->Nat->List Int
 | 0,_=>[]
 | n+1,i=>if i < T.length then (if nowA T ds i=nowA T ds (grpE T i) then [] else [(T.getD i fa0).kn])++lrn T ds n (grpE T i) else []
theorem jq8 {T:List Fa} {ds:List Int}: ∀(n i:Nat),T.length - i<=n->lrn T ds n i=lrn T ds (T.length - i) i:=by
 intro n
 induction n using Nat.strongRecOn with
 | _ n ih=>
  intro i hn;cases n with
  | zero=>rw [show T.length - i=0 by omega]
  | succ n=>
   by_cases hi:i < T.length
   ·obtain ⟨m,hm⟩: ∃m,T.length - i=m+1:=⟨T.length - i - 1,by omega⟩
    have hg:=zv9 hi;rw [hm,lrn,lrn,if_pos hi,if_pos hi,ih n (by omega) _ (by omega)]
    congr 1
    rcases zcb m (n+1) with h1 | h1
    ·exact (ih m (by omega) _ (by omega)).symm
    ·omega
   ·rw [show T.length - i=0 by omega,lrn,lrn,if_neg hi]
theorem yd2 {T:List Fa} {ds:List Int} {i:Nat} (hi:i < T.length):lrn T ds (T.length - i) i=(if nowA T ds i=nowA T ds (grpE T i) then [] else [(T.getD i fa0).kn])++lrn T ds (T.length - grpE T i) (grpE T i):=by
 obtain ⟨m,hm⟩: ∃m,T.length - i=m+1:=⟨T.length - i - 1,by omega⟩
 have hg:=zv9 hi;rw [hm,lrn,if_pos hi,jq8 m _ (by omega)]
def lrnT (T:List Fa):List Int:=lrn T (bdF T) T.length 0
def lrnA (a:List Fa) (key:ByteArray):List Int:=if recOk a=true then lrnT (toldT a key 65536) else []
end An.S
