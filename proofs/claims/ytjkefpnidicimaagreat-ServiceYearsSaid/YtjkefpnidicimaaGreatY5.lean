/- Part 5 of a proof: Chg2a, Ty, LibZc, P2, LibZg, P3, P4, V16, V17, V18, V19, U20, Ref4, U34, X1, X2, X3, LibLx, X4, Y0, R5, Y1, X5, O27, Y2, Svc, S12, S13, X6. -/
import Derived.Test.YtjkefpnidicimaaGreatChecked
import Derived.Test.YtjkefpnidicimaaGreatY4
/- Layer 4: what is chosen is the set of the days that are wanted; sets with the same days are the same. Plain data. -/
namespace An.S
open Go
def mem (l:List Sn) (d:Int):Bool:=l.any fun s=>decide (s.lo≤d) && decide (d < s.hi)
theorem mem_iff {l:List Sn} {d:Int}:mem l d=true↔ ∃s∈l,s.lo≤d∧d < s.hi:=by simp [mem]
theorem mem_no {l:List Sn} {d:Int}:mem l d=false↔ ∀s∈l,¬(s.lo≤d∧d < s.hi):=by
  rw [←Bool.not_eq_true,mem_iff];simp only [not_exists,not_and]
theorem mem_snoc {l:List Sn} {s:Sn} {d:Int}:mem (l++[s]) d=(mem l d || (decide (s.lo≤d) && decide (d < s.hi))):=by simp [mem]
/-- The border i is the first one behind the day D. -/
def Pos (l:List Sn) (i:Nat) (D:Int):Prop:=i≤2*l.length∧(∀k,k < i→bd l k≤D)∧ ∀k,i≤k→k < 2*l.length→D < bd l k
theorem exists_getS {l:List Sn} {s:Sn} (hs:s∈l): ∃i,i < l.length∧s=l.getD i sn0:=by
  obtain ⟨i,hi,e⟩:=List.getElem_of_mem hs
  exact ⟨i,hi,by rw [List.getD_eq_getElem?_getD,List.getElem?_eq_getElem hi];exact e.symm⟩
theorem mem_getS {l:List Sn} {i:Nat} (hi:i < l.length):l.getD i sn0∈l:=by
  rw [List.getD_eq_getElem?_getD,List.getElem?_eq_getElem hi];exact List.getElem_mem hi
theorem bd_even (l:List Sn) (p:Nat):bd l (2*p)=(l.getD p sn0).lo:=by rw [bd,if_pos (by omega),show 2*p / 2=p by omega]
theorem bd_odd (l:List Sn) (p:Nat):bd l (2*p+1)=(l.getD p sn0).hi:=by rw [bd,if_neg (by omega),show (2*p+1) / 2=p by omega]
theorem Pos.mem {l:List Sn} {i:Nat} {D:Int} (h:Pos l i D):mem l D=(i%2==1):=by
  obtain ⟨h1,h2,h3⟩:=h
  rw [Bool.eq_iff_iff,mem_iff,beq_iff_eq]
  constructor
  · rintro ⟨s,hs,h4,h5⟩
    obtain ⟨p,hp,rfl⟩:=exists_getS hs
    rw [←bd_even] at h4;rw [←bd_odd] at h5
    have a1: ¬i≤2*p:=fun h'=>by have:=h3 _ h' (by omega);omega
    have a2: ¬2*p+1 < i:=fun h'=>by have:=h2 _ h';omega
    omega
  · intro h4
    have e:i=2*(i / 2)+1:=by omega
    refine ⟨l.getD (i / 2) sn0,mem_getS (by omega),?_,?_⟩
    · rw [←bd_even];exact h2 _ (by omega)
    · rw [←bd_odd];exact h3 _ (by omega) (by omega)
theorem Pos.stay {l:List Sn} {i:Nat} {D d e:Int} (hv:sVal l=true) (h:Pos l i D) (hd:D≤d) (he:d < e) (hb:i < 2*l.length→e≤bd l i):Pos l i d:=by
  refine ⟨h.1,fun k hk=>by have:=h.2.1 k hk;omega,fun k hk hk2=> ?_⟩
  have h1:=hb (by omega)
  rcases Nat.lt_or_ge i k with h2 | h2
  · have:=bd_lt hv h2 hk2;omega
  · have:k=i:=by omega
    subst this;omega
theorem Pos.next {l:List Sn} {i:Nat} {D e:Int} (hv:sVal l=true) (h:Pos l i D) (he:D < e) (hb:i < 2*l.length→e≤bd l i):Pos l (cnxt l i e) e:=by
  refine ⟨cnxt_le h.1,fun k hk=> ?_,fun k hk hk2=> ?_⟩
  · rw [cnxt] at hk
    split at hk
    · rename_i hc
      rcases Nat.lt_or_ge k i with h2 | h2
      · have:=h.2.1 k h2;omega
      · have:k=i:=by omega
        subst this;omega
    · have:=h.2.1 k hk;omega
  · rw [cnxt] at hk
    split at hk
    · rename_i hc
      have:=bd_lt hv (show i < k by omega) hk2;omega
    · rename_i hc
      have h1:=hb (by omega)
      rcases Nat.lt_or_ge i k with h2 | h2
      · have:=bd_lt hv h2 hk2;omega
      · have:k=i:=by omega
        subst this
        have: ¬bd l k=e:=fun h'=>hc ⟨hk2,h'⟩
        omega
theorem Pos.zero {l:List Sn} (hv:sVal l=true):Pos l 0 (-1):=⟨Nat.zero_le _,fun k hk=>by omega,fun k _ hk2=>by have:=bd_le hv hk2;omega⟩
theorem sVal_lt {l:List Sn} (h:sVal l=true) {i j:Nat} (hij:i < j) (hj:j < l.length):(l.getD i sn0).hi < (l.getD j sn0).lo:=by
  have:=bd_lt h (show 2*i+1 < 2*j by omega) (by omega)
  rwa [bd_odd,bd_even] at this
theorem lastS_no {l:List Sn} {d:Int} (h:sVal l=true) (hl:0 < l.length→(lastS l).hi≤d):mem l d=false:=mem_no.2 fun s hs h'=>by
  obtain ⟨i,hi,rfl⟩:=exists_getS hs
  have h1:=hl (by omega)
  have h2:=sVal_at h hi
  rcases Nat.lt_or_ge i (l.length - 1) with h3 | h3
  · have h4:=sVal_lt h h3 (by omega)
    have h5:=sVal_at h (i:=l.length - 1) (by omega)
    have h6:(l.getD (l.length - 1) sn0).hi≤d:=h1
    omega
  · have:i=l.length - 1:=by omega
    subst this
    have h6:(l.getD (l.length - 1) sn0).hi≤d:=h1
    omega
structure CkI (kp:Bool→Bool→Bool) (a b:List Sn) (s:Ck) (i j:Nat) (D:Int):Prop where
  d0: -1≤D
  pa:Pos a i D
  pb:Pos b j D
  ins:s.ins=kp (i%2==1) (j%2==1)
  val:sVal s.xs=true
  last:0 < s.xs.length→(lastS s.xs).hi≤D∧(s.ins=true→(lastS s.xs).hi < s.lo)
  lo:s.ins=true→0≤s.lo∧s.lo≤D
  all: ∀d,d≤D→(mem s.xs d || (s.ins && decide (s.lo≤d)))=kp (mem a d) (mem b d)
theorem CkI.next {kp:Bool→Bool→Bool} {a b:List Sn} {s:Ck} {i j:Nat} {D:Int} (ha:sVal a=true) (hb:sVal b=true) (h:CkI kp a b s i j D) (hij:i < 2*a.length∨j < 2*b.length):CkI kp a b (ck1 kp s (cday a b i j,cnxt a i (cday a b i j),cnxt b j (cday a b i j))) (cnxt a i (cday a b i j)) (cnxt b j (cday a b i j)) (cday a b i j):=by
  obtain ⟨c1,c2,c3⟩:=cday_is ha hb hij
  have hD:D < cday a b i j:=by
    rcases c3 with c3 | c3
    · have:=h.pa.2.2 i (Nat.le_refl _) c3.1;omega
    · have:=h.pb.2.2 j (Nat.le_refl _) c3.1;omega
  have hE:cday a b i j≤65536:=by
    rcases c3 with c3 | c3
    · have:=bd_le ha c3.1;omega
    · have:=bd_le hb c3.1;omega
  generalize cday a b i j=e at*
  have pa:=h.pa.next ha hD c1
  have pb:=h.pb.next hb hD c2
  have mid: ∀d,D < d→d < e→kp (mem a d) (mem b d)=s.ins:=fun d h1 h2=>by
    rw [(h.pa.stay ha (by omega) h2 c1).mem,(h.pb.stay hb (by omega) h2 c2).mem,h.ins]
  have now:kp (mem a e) (mem b e)=kp (cnxt a i e%2==1) (cnxt b j e%2==1):=by rw [pa.mem,pb.mem]
  have hno: ∀d,D≤d→mem s.xs d=false:=fun d hd=>lastS_no h.val fun h0=>by have:=(h.last h0).1;omega
  obtain ⟨xs,lo,ins⟩:=s
  have hd0:=h.d0
  have hd1: -1≤e:=by omega
  obtain ⟨_,_,_,h3,h4,h5,h6,h7⟩:=h
  simp only at*
  cases hn:kp (cnxt a i e%2==1) (cnxt b j e%2==1) <;> cases ins
  · -- outside,outside
    have e1:ck1 kp ⟨xs,lo,false⟩ (e,cnxt a i e,cnxt b j e)=⟨xs,lo,false⟩:=by simp [ck1,hn]
    rw [e1]
    refine ⟨hd1,pa,pb,hn.symm,h4,fun h0=>⟨by have:=(h5 h0).1;show (lastS xs).hi≤e;omega,fun h'=>by cases h'⟩,fun h'=>(by cases h'),fun d hd=> ?_⟩
    show (mem xs d || (false && decide (lo≤d)))=_
    rcases Int.lt_or_le D d with hd2 | hd2
    · rw [hno d (by omega)]
      rcases Int.lt_or_le d e with hd3 | hd3
      · rw [mid d hd2 hd3];rfl
      · rw [show d=e by omega,now,hn];rfl
    · exact h7 d hd2
  · -- ends
    have e1:ck1 kp ⟨xs,lo,true⟩ (e,cnxt a i e,cnxt b j e)=⟨xs++[⟨lo,e⟩],lo,false⟩:=by simp [ck1,hn]
    rw [e1]
    obtain ⟨l0,l1⟩:=h6 rfl
    refine ⟨hd1,pa,pb,hn.symm,sVal_snoc h4 ⟨l0,by show lo < e;omega,hE⟩ fun h0=>(h5 h0).2 rfl,fun _=>⟨?_,fun h'=>by cases h'⟩,fun h'=>(by cases h'),fun d hd=> ?_⟩
    · show (lastS (xs++[⟨lo,e⟩])).hi≤e
      rw [lastS,getD_snocS,List.length_append,List.length_singleton,if_neg (by omega),if_pos (by omega)]
      exact Int.le_refl _
    · show (mem (xs++[⟨lo,e⟩]) d || (false && _))=_
      rw [mem_snoc]
      rcases Int.lt_or_le D d with hd2 | hd2
      · rw [hno d (by omega)]
        rcases Int.lt_or_le d e with hd3 | hd3
        · rw [mid d hd2 hd3];simp;omega
        · rw [show d=e by omega,now,hn];simp
      · rw [←h7 d hd2,show decide (d < e)=true from decide_eq_true (by omega)];simp
  · -- begins
    have e1:ck1 kp ⟨xs,lo,false⟩ (e,cnxt a i e,cnxt b j e)=⟨xs,e,true⟩:=by simp [ck1,hn]
    rw [e1]
    refine ⟨hd1,pa,pb,hn.symm,h4,fun h0=>⟨by have:=(h5 h0).1;show (lastS xs).hi≤e;omega,fun _=>by have:=(h5 h0).1;show (lastS xs).hi < e;omega⟩,fun _=>⟨by show 0≤e;omega,Int.le_refl _⟩,fun d hd=> ?_⟩
    show (mem xs d || (true && decide (e≤d)))=_
    rcases Int.lt_or_le D d with hd2 | hd2
    · rw [hno d (by omega)]
      rcases Int.lt_or_le d e with hd3 | hd3
      · rw [mid d hd2 hd3];simp;omega
      · rw [show d=e by omega,now,hn];simp
    · rw [←h7 d hd2,show decide (e≤d)=false from decide_eq_false (by omega)];simp
  · -- inside,inside
    have e1:ck1 kp ⟨xs,lo,true⟩ (e,cnxt a i e,cnxt b j e)=⟨xs,lo,true⟩:=by simp [ck1,hn]
    rw [e1]
    obtain ⟨l0,l1⟩:=h6 rfl
    refine ⟨hd1,pa,pb,hn.symm,h4,fun h0=>⟨by have:=(h5 h0).1;show (lastS xs).hi≤e;omega,(h5 h0).2⟩,fun _=>⟨l0,by show lo≤e;omega⟩,fun d hd=> ?_⟩
    show (mem xs d || (true && decide (lo≤d)))=_
    rcases Int.lt_or_le D d with hd2 | hd2
    · rw [hno d (by omega)]
      rcases Int.lt_or_le d e with hd3 | hd3
      · rw [mid d hd2 hd3];simp;omega
      · rw [show d=e by omega,now,hn];simp;omega
    · exact h7 d hd2
/-! Sets with the same days are the same. -/
def setS (l:List Sn):Prop:=(∀s∈l,okS s)∧l.Pairwise fun s t=>s.hi < t.lo
theorem mem_cons {s:Sn} {r:List Sn} {d:Int}:mem (s::r) d=((decide (s.lo≤d) && decide (d < s.hi)) || mem r d):=by simp [mem]
/-! Worked days. -/
theorem mem_append {a b:List Sn} {d:Int}:mem (a++b) d=(mem a d || mem b d):=by simp [mem]
end An.S

/- Layer 5: days looked for, days covered, days that differ. Plain data, but for what the walks define. -/
namespace An.S
open Go
/-- The index of the first step that has days from d on. -/
def fndT (l:List Tst) (d:Int):Nat:=(l.takeWhile fun s=>decide (s.hi≤d)).length
/-- What At returns. -/
def atR (l:List Tst) (d:Int):Option Va:=if tRight l=true then valT l d else none
/-- The days of the steps. -/
def spT (s:Tst):Sn:=⟨s.lo,s.hi⟩
def cvS (l:List Tst):List Sn:=l.map spT
def cvL (l:List Tst) (i:Nat):List Sn:=(l.take i).map spT++List.replicate (l.length - i) sn0
/-- What Covers returns. -/
def cvT (l:List Tst):List Sn:=mkS (cvS l)
/-- When Join, when Diff are right. -/
def jnC (a b:List Tst):Prop:=(tRight a=true∧tRight b=true)∧ ¬(0 < a.length∧0 < b.length∧(a.getD 0 tst0).v.kind≠(b.getD 0 tst0).v.kind)
instance (a b:List Tst):Decidable (jnC a b):=inferInstanceAs (Decidable (_∧_))
/-- The days on which two timelines differ: pieces in order. -/
def gdf (a b:List Tst) (d:Int):Option Va:=if dfB a b d then some An.va0 else none
/-- The set of the days on which two timelines differ. -/
def dfS (a b:List Tst):List Sn:=mkS (dfT a b)
end An.S

/- Arrays of structs that are written out, and their elements; the empty slice that is written out, as one's own. For any program. -/
namespace An
open Go
theorem BuI.array {P:Program} {T E len n:Nat} {agg:Bool} {z:Value} (hu:P.underlying T=some (.array len E)) (te:TyI P E n agg) (hz:(P.info? T).bind (·.zero)=some z):BuI P T (fun i=>some (i*n,n)) z:=by
  refine ⟨fun parts w cs hf=> ?_⟩
  simp only [Instr.build,Sem.run_bind,run_zero hz,Result.andThen_ok,run_underlying hu,te.size_run w]
  rw [hf]
  simp
section
variable {P:Program} {c:Base} {d ty:Nat} {pos:String} {af:Array Edge} {gd:Option (Nat×Bool)}
end
end An

/- Layer 5: joins, parts, days. -/
namespace An.S
open Go Go.Proofs An
set_option maxHeartbeats 2000000
instance ti113:TyI Tryz.prog 113 1 false:=⟨by kernel_rfl,by kernel_rfl⟩
instance fi183:FnI Tryz.prog 183:=⟨_,Tryz.func183,by kernel_rfl,rfl⟩
instance fi184:FnI Tryz.prog 184:=⟨_,Tryz.func184,by kernel_rfl,rfl⟩
instance fi186:FnI Tryz.prog 186:=⟨_,Tryz.func186,by kernel_rfl,rfl⟩
instance fi269:FnI Tryz.prog 269:=⟨_,Tryz.func269,by kernel_rfl,rfl⟩
end An.S

/- An element of an array value. For any program. -/
namespace An
open Go
theorem off_mapV {α:Type} {es:Nat} {agg:Bool} {f:α→Ty}: ∀(l:List α) (i:Nat),i < l.length→Fd.off (l.map fun x=>⟨es,agg,f x⟩) i=i*es
  | [],i,h=>by simp at h
  | _::r,0,_=>by simp [Fd.off]
  | _::r,i+1,h=>by
    rw [List.map_cons,Fd.off,off_mapV r i (by simpa using h),Nat.succ_mul]
    exact Nat.add_comm _ _
/-- The element i of a row of fields of one kind. -/
theorem At.row {α:Type} {es:Nat} {agg:Bool} {f:α→Ty} {l:List α} {i:Nat} (d:α) (hi:i < l.length):At (tS (l.map fun x=>⟨es,agg,f x⟩)) (i*es) es agg (f (l.getD i d)):=
  At.f i (f:=⟨es,agg,f (l.getD i d)⟩) (by rw [List.getElem?_map,gD (d:=d) hi];rfl) (off_mapV l i hi)
section
variable {P:Program} {c:Base} {d ty:Nat} {pos:String} {af:Array Edge} {gd:Option (Nat×Bool)}
end
end An

/- Law 5: timelines are built; days and values without the program. -/
namespace An.S
open Go Go.Proofs An
set_option maxHeartbeats 2000000
instance fi29:FnI Tryz.prog 29:=⟨_,Tryz.func29,by kernel_rfl,rfl⟩
instance fi169:FnI Tryz.prog 169:=⟨_,Tryz.func169,by kernel_rfl,rfl⟩
theorem c_SameStep (x y:Tst):
  Ct Tryz.prog 169 [tTs x,tTs y] (tB (decide (x=y))):=by
 refine Ct.intro Tryz.func169 rfl Tryz.ntmps169 rfl ?_
 intro w F
 refine A9 ?_
 refine A6 ?_
 refine RGcaseD (t:=10) rfl (fun h196=> ?_) (fun h196=> ?_)
 ·
  refine A7 ?_
  refine RGcaseD (t:=17) rfl (fun h196_2=> ?_) (fun h196_2=> ?_)
  ·
   refine A4 ?_
   refine RGon (decide_eq_true h196_2) rfl (x3 (c_SameValue _ _) fi29 rfl) rfl ⟨rfl,rfl,trivial⟩ trivial trivial ?_
   refine A5 ?_
   exact x4 Plain.mk' rfl rfl (Le.bool (by obtain ⟨a,b,e⟩:=x;obtain ⟨c,d,f⟩:=y;simp only [Tst.mk.injEq] at*;simp_all <;> omega))
  ·
   refine A9 ?_
   refine A1 ?_
   exact x4 Plain.mk' rfl rfl (Le.bool (by obtain ⟨a,b,e⟩:=x;obtain ⟨c,d,f⟩:=y;simp only [Tst.mk.injEq] at*;simp_all <;> omega))
 ·
  refine A9 ?_
  refine A8 ?_
  exact x4 Plain.mk' rfl rfl (Le.bool (by obtain ⟨a,b,e⟩:=x;obtain ⟨c,d,f⟩:=y;simp only [Tst.mk.injEq] at*;simp_all <;> omega))
abbrev tP2 (p:Int×Int):Ty:=tS [⟨1,false,tI p.1⟩,⟨1,false,tI p.2⟩]
def plP:List (Int×Int):=[(0,1),(1,1),(1,2),(-3,4),(5,3),(65537,7),(-1,1),(1099511627776,1)]
def plQ (n:Nat):Int×Int:=plP.getD (n%8) (0,1)
def plV (n:Nat):Va:=⟨2,fr (kfr (plQ n).1 (plQ n).2),0⟩
def tbF (m:List Nat) (k:Nat) (t:Int):Int:=t+((m.getD (3*k) 0:Nat):Int)%3000
def tbE (m:List Nat) (k:Nat) (t:Int):Int:=tbF m k t+1+((m.getD (3*k+1) 0:Nat):Int)%3000
def tbS (m:List Nat) (k:Nat) (t:Int):Tst:=⟨tbF m k t,tbE m k t,plV (m.getD (3*k+2) 0)⟩
def tbRun (m:List Nat):Nat→Nat→List Tst→Int→List Tst
  | 0,_,out,_=>out
  | f+1,k,out,t=>if 3*k+2 < m.length∧k < 40 then (if 65536 < tbE m k t then out else tbRun m f (k+1) (pst1 out (tbS m k t)) (tbE m k t)) else out
def tbT (m:List Nat):List Tst:=tbRun m 41 0 [] 0
def eds4 (l:List Tst):List Int:=l.flatMap fun s=>[s.lo - 1,s.lo,s.hi - 1,s.hi]
/-- The days about the ends of steps. -/
def lkT (a b:List Tst) (d:Int):List Int:=d::[a,b].flatMap eds4
end An.S

/- Law 5: what Built makes; contracts at timelines of one kind; the examples of the chapter. -/
namespace An.S
open Go Go.Proofs An
set_option maxHeartbeats 2000000
set_option maxRecDepth 100000
instance fi42:FnI Tryz.prog 42:=⟨_,Tryz.func42,by kernel_rfl,rfl⟩
instance fi43:FnI Tryz.prog 43:=⟨_,Tryz.func43,by kernel_rfl,rfl⟩
instance fi64:FnI Tryz.prog 64:=⟨_,Tryz.func64,by kernel_rfl,rfl⟩
instance fi92:FnI Tryz.prog 92:=⟨_,Tryz.func92,by kernel_rfl,rfl⟩
instance fi100:FnI Tryz.prog 100:=⟨_,Tryz.func100,by kernel_rfl,rfl⟩
instance fi102:FnI Tryz.prog 102:=⟨_,Tryz.func102,by kernel_rfl,rfl⟩
instance fi104:FnI Tryz.prog 104:=⟨_,Tryz.func104,by kernel_rfl,rfl⟩
instance fi105:FnI Tryz.prog 105:=⟨_,Tryz.func105,by kernel_rfl,rfl⟩
instance fi112:FnI Tryz.prog 112:=⟨_,Tryz.func112,by kernel_rfl,rfl⟩
instance fi113:FnI Tryz.prog 113:=⟨_,Tryz.func113,by kernel_rfl,rfl⟩
instance fi114:FnI Tryz.prog 114:=⟨_,Tryz.func114,by kernel_rfl,rfl⟩
def plW:List Int:=[0,84,42, -63,140,786444, -84,92358976733184]
def tB5:Int:=92358976733184
abbrev isT (l:List Tst):Prop:=isG 2 84 tB5 l
/-! Contracts. -/
section
variable {K:Nat} {D B:Int} {l a b:List Tst}
theorem isG.kind (ha:isG K D B a) (hb:isG K D B b):jnC a b:=by
  refine ⟨⟨ha.1,hb.1⟩,fun h=>h.2.2 ?_⟩
  rw [(ha.2 _ (xb2 (l:=a) (i:=0) h.1)).1.2.1,(hb.2 _ (xb2 (l:=b) (i:=0) h.2.1)).1.2.1]
end
/-! The examples of the chapter. -/
def xv (n d:Int):Va:=⟨2,fr (kfr n d),0⟩
def exA:List Tst:=[⟨0,10,xv 1 2⟩,⟨10,30,xv 1 1⟩]
def exB:List Tst:=[⟨8,12,xv 0 1⟩]
def exC:List Tst:=[⟨10,12,xv 1 2⟩]
end An.S

/- The reference of layer 1: limbs. -/
namespace An.S
open Go Go.Proofs An
set_option maxHeartbeats 2000000
instance fi284:FnI Tryz.prog 284:=⟨_,Tryz.func284,by kernel_rfl,rfl⟩
theorem c_RTrim (a:List Nat):
  Ct Tryz.prog 284 [tLm a] (tLm (trimL a)):=by
 refine Ct.intro Tryz.func284 rfl Tryz.ntmps284 rfl ?_
 intro w F
 refine C_len (s:=0) rfl (fun hl0=> ?_)
 refine A9 ?_
 refine A5 ?_
 refine cL (fun (k:Nat)=>k≤a.length∧trimL (a.take k)=trimL a) (fun (k:Nat)=>upd (upd (fun _=>none) 0 (some (.val (tLm a)))) 3 (some (.val (tI k)))) (fun (k:Nat)=>fun _=>none) [] (fun (k:Nat)=>k) (a.length) ⟨Nat.le_refl _,by rw [List.take_length]⟩ ?_
 intro k hI
 obtain ⟨hk,hc⟩:=hI
 refine A6 ?_
 refine RGcaseD (t:=8) rfl (fun h12=> ?_) (fun h12=> ?_)
 ·
  refine A2 ?_
  refine RGon (decide_eq_true h12) rfl (xd7 (wr64 (by omega) (by omega))) rfl ⟨rfl,rfl,trivial⟩ trivial trivial (RGon (decide_eq_true h12) rfl (x7 sl37 (k - 1) (by omega) (gN (by omega))) rfl ⟨rfl,rfl,trivial⟩ trivial trivial ?_)
  refine A5 ?_
  refine xa0 rfl (fun h12_2=> ?_) (fun h12_2=> ?_)
  ·
   refine A9 ?_
   exact kF (k - 1) ⟨⟨by omega,by rw [trim_step' hk (by omega) (by omega)];exact hc⟩,(by omega)⟩
  ·
   refine A9 ?_
   refine R2 (d_sliceTo sl37 k (by omega) (by omega) rfl) rfl rfl ?_
   refine A4 ?_
   exact x4 Plain.mk' rfl rfl (Le.of (congrArg tLm (by rw [←hc,trim_stop' hk (by omega) (by omega)])))
 ·
  refine A9 ?_
  refine A9 ?_
  refine A1 ?_
  refine R2 (d_sliceTo sl37 k (by omega) (by omega) rfl) rfl rfl ?_
  refine A4 ?_
  exact x4 Plain.mk' rfl rfl (Le.of (congrArg tLm (by rw [←hc,show k=0 by omega,List.take_zero];rfl)))
theorem c_RLess (a b:Nat):
  Ct Tryz.prog 255 [tM a,tM b] (tB (decide (a < b))):=by
 refine Ct.intro Tryz.func255 rfl Tryz.ntmps255 rfl ?_
 intro w F
 refine C_len (s:=0) rfl (fun hl0=> ?_)
 refine C_len (s:=1) rfl (fun hl1=> ?_)
 have ha:=xf4 x5 a
 have hb:=xf4 x5 b
 refine A9 ?_
 refine A6 ?_
 refine xa0 rfl (fun h20=> ?_) (fun h20=> ?_)
 ·
  refine A9 ?_
  refine A3 ?_
  exact x4 Plain.mk' rfl rfl (Le.bool (decide_eq_decide.2 ⟨fun h=>len_lt x5 (by omega),fun h=>by have:=xc6 x5 (Nat.le_of_lt h);omega⟩))
 ·
  refine A9 ?_
  refine A3 ?_
  have hlen:(dig 65536 a).length=(dig 65536 b).length:=by omega
  rw [←hlen] at hb
  refine cL (fun (k:Nat)=>k≤(dig 65536 a).length∧a / 65536 ^ k=b / 65536 ^ k) (fun (k:Nat)=>upd (upd (upd (fun _=>none) 0 (some (.val (tM a)))) 1 (some (.val (tM b)))) 5 (some (.val (tI ((k:Int) - 1))))) (fun (k:Nat)=>fun _=>none) [] (fun (k:Nat)=>k) ((dig 65536 a).length) ⟨Nat.le_refl _,by rw [Nat.div_eq_of_lt ha,Nat.div_eq_of_lt hb]⟩ ?_
  intro k hI
  obtain ⟨hk,hc⟩:=hI
  refine A7 ?_
  refine xa0 rfl (fun h23=> ?_) (fun h23=> ?_)
  ·
   obtain ⟨j,rfl⟩: ∃j,k=j+1:=⟨k - 1,by omega⟩
   refine A8 ?_
   refine R2 (x7 sl37 (j) (by omega) (gN (by omega))) rfl rfl ?_
   refine A3 ?_
   refine R2 (x7 sl37 (j) (by omega) (gN (by omega))) rfl rfl ?_
   refine A4 ?_
   refine xa0 rfl (fun h24=> ?_) (fun h24=> ?_)
   ·
    refine A4 ?_
    refine R2 (x7 sl37 (j) (by omega) (gN (by omega))) rfl rfl ?_
    refine A3 ?_
    refine R2 (x7 sl37 (j) (by omega) (gN (by omega))) rfl rfl ?_
    refine A9 ?_
    refine A2 ?_
    exact x4 Plain.mk' rfl rfl (Le.bool (decide_eq_decide.2 ⟨fun h=>dig_lt_of x5 hc (by omega),fun h=>Classical.byContradiction fun h2=>by have:=dig_lt_of x5 hc.symm (show (dig 65536 b).getD j 0 < (dig 65536 a).getD j 0 by omega);omega⟩))
   ·
    refine A8 ?_
    exact kF (j) ⟨⟨by omega,cmp_step (by decide) hc (by rw [←xb7 x5,←xb7 x5];omega)⟩,(by omega)⟩
  ·
   refine A9 ?_
   refine A2 ?_
   exact x4 Plain.mk' rfl rfl (Le.bool (decide_eq_false (by have h0:=hc;rw [show k=0 by omega] at h0;simp at h0;omega)).symm)
theorem len_ne {v:Nat}:(0:Int) < ((dig 65536 v).length:Nat)↔v≠0:=by
  have h:(dig 65536 v).length=0↔v=0:=by rw [List.length_eq_zero_iff,xg9 x5]
  omega
theorem c_RMake (p:Bool) (v:Nat):
  Ct Tryz.prog 155 [tB p,tM v] (tWh (wh (sgn p v))):=by
 refine Ct.intro Tryz.func155 rfl Tryz.ntmps155 rfl ?_
 intro w F
 refine A2 ?_
 refine RE (x8 (k:=4) (n:=2) (agg:=true) zr39.1 zr39.2 rfl) trivial trivial ⟨rfl,trivial⟩ ?_
 refine A6 ?_
 refine RGcase (t:=6) rfl (fun h129=> ?_) (fun h129=> ?_)
 ·
  refine A5 ?_
  refine R2 (xa3 (r:=tS [⟨1,false,tB (decide ((0:Int) < ((dig 65536 v).length:Nat)))⟩,⟨1,false,tM v⟩]) (ts:=[(0,tB (decide ((0:Int) < ((dig 65536 v).length:Nat)))),(1,tM v)]) bu39 zr39.2 ⟨_,rfl⟩ rfl ⟨_,_,_,_,rfl,Up.f (fs:=[⟨1,false,(tE (.bool false))⟩,⟨1,false,(tLm [])⟩]) (f:=⟨1,false,(tE (.bool false))⟩) (fs':=[⟨1,false,tB (decide ((0:Int) < ((dig 65536 v).length:Nat)))⟩,⟨1,false,(tLm [])⟩]) 0 rfl rfl rfl,inferInstance,⟨_,_,_,_,rfl,Up.f (fs:=[⟨1,false,tB (decide ((0:Int) < ((dig 65536 v).length:Nat)))⟩,⟨1,false,(tLm [])⟩]) (f:=⟨1,false,(tLm [])⟩) (fs':=[⟨1,false,tB (decide ((0:Int) < ((dig 65536 v).length:Nat)))⟩,⟨1,false,tM v⟩]) 1 rfl rfl rfl,inferInstance,Le.refl⟩⟩) rfl rfl ?_
  refine A4 ?_
  exact xb8 Plain.mk' rfl ⟨_,_,_,_,_,rfl,rfl,ti39,(Le.of (by rw [wh_sgn,h129,Bool.true_and,decide_eq_decide.2 (show (0:Int) < ((dig 65536 v).length:Nat)↔v≠0 from len_ne)]))⟩
 ·
  refine A5 ?_
  refine R2 (xa3 (r:=tS [⟨1,false,tB false⟩,⟨1,false,tM v⟩]) (ts:=[(0,tB false),(1,tM v)]) bu39 zr39.2 ⟨_,rfl⟩ rfl ⟨_,_,_,_,rfl,Up.f (fs:=[⟨1,false,(tE (.bool false))⟩,⟨1,false,(tLm [])⟩]) (f:=⟨1,false,(tE (.bool false))⟩) (fs':=[⟨1,false,tB false⟩,⟨1,false,(tLm [])⟩]) 0 rfl rfl rfl,inferInstance,⟨_,_,_,_,rfl,Up.f (fs:=[⟨1,false,tB false⟩,⟨1,false,(tLm [])⟩]) (f:=⟨1,false,(tLm [])⟩) (fs':=[⟨1,false,tB false⟩,⟨1,false,tM v⟩]) 1 rfl rfl rfl,inferInstance,Le.refl⟩⟩) rfl rfl ?_
  refine A4 ?_
  exact xb8 Plain.mk' rfl ⟨_,_,_,_,_,rfl,rfl,ti39,(Le.of (by rw [wh_sgn,h129,Bool.false_and]))⟩
theorem iquo64 {a b:Nat} (ha:a < 9223372036854775808):IntKind.i64.wrap ((a:Int).tdiv (b:Int))=((a / b:Nat):Int):=by
  rw [Int.tdiv_eq_ediv_of_nonneg (by omega)]
  have h:(a:Int) / (b:Int)=((a / b:Nat):Int):=(Int.natCast_ediv a b).symm
  rw [h]
  have:=Nat.div_le_self a b
  generalize a / b=q at*
  exact wr64 (by omega) (by omega)
theorem c_RShort (a d:Nat) (ha:(dig 65536 a).length≤100000) (hd:0 < d) (hdW:d < 65536):
  Ct Tryz.prog 254 [tM a,tI d] (tT [tM (a / d),tM (a%d)]):=by
 refine Ct.intro Tryz.func254 rfl Tryz.ntmps254 rfl ?_
 intro w F
 refine A9 ?_
 refine A1 ?_
 refine RE (d_makeO (k:=11) (t:=tE (.int .u16 0)) (ts:=rW .u16 (List.replicate ((dig 65536 a).length) 0)) ((dig 65536 a).length) ((dig 65536 a).length) Tryz.underlying37 el64 (fun _ _=>rfl) rfl (by omega) (by omega) (Nat.le_refl _) (by omega) (by omega) (rW_rep _)) ⟨rfl,rfl,trivial⟩ trivial ⟨rfl,trivial⟩ ?_
 refine A9 ?_
 refine A9 ?_
 refine cL (fun (fm:(Nat)×(List Nat))=>(fun (k:Nat) (qs:List Nat)=>k≤(dig 65536 a).length∧qs.length=(dig 65536 a).length∧Dig 65536 qs∧val 65536 (qs.drop k)=a / 65536 ^ k / d) fm.1 fm.2) (fun (fm:(Nat)×(List Nat))=>(fun (k:Nat) (qs:List Nat)=>upd (upd (upd (upd (upd (fun _=>none) 0 (some (.val (tM a)))) 1 (some (.val (tI d)))) 6 (some (.own (.sl 11 1 0 (dig 65536 a).length)))) 7 (some (.val (tI ((a / 65536 ^ k%d:Nat):Int))))) 8 (some (.val (tI ((k:Int) - 1))))) fm.1 fm.2) (fun (fm:(Nat)×(List Nat))=>(fun (k:Nat) (qs:List Nat)=>upd (fun _=>none) 11 (some (⟨64,1,false,rW .u16 qs⟩))) fm.1 fm.2) [11] (fun (fm:(Nat)×(List Nat))=>(fun (k:Nat) (qs:List Nat)=>k) fm.1 fm.2) (((dig 65536 a).length,List.replicate (dig 65536 a).length 0)) (by dsimp only;exact ⟨Nat.le_refl _,by simp,Dig.rep (by decide) _,by rw [Nat.div_eq_of_lt (xf4 x5 a),Nat.zero_div,List.drop_replicate,xf0]⟩) (hg:=(sI (Sub.le rfl (Le.int (by dsimp only;rw [Nat.div_eq_of_lt (xf4 x5 a),Nat.zero_mod];rfl)) (sC (sI (sC Sub.nil)))))) (hh:=((SubK.consI rfl ImpK.refl) SubK.nil)) ?_
 intro fm hI
 obtain ⟨k,qs⟩:=fm
 replace hI:k≤(dig 65536 a).length∧qs.length=(dig 65536 a).length∧Dig 65536 qs∧val 65536 (qs.drop k)=a / 65536 ^ k / d:=hI
 show wc _ _ _ _ (upd (upd (upd (upd (upd (fun _=>none) 0 (some (.val (tM a)))) 1 (some (.val (tI d)))) 6 (some (.own (.sl 11 1 0 (dig 65536 a).length)))) 7 (some (.val (tI ((a / 65536 ^ k%d:Nat):Int))))) 8 (some (.val (tI ((k:Int) - 1))))) (upd (fun _=>none) 11 (some (⟨64,1,false,rW .u16 qs⟩))) _
 obtain ⟨hk,hl,hD,hv⟩:=hI
 have hr:a / 65536 ^ k%d < d:=Nat.mod_lt _ hd
 refine A7 ?_
 refine xa0 rfl (fun h93=> ?_) (fun h93=> ?_)
 ·
  obtain ⟨j,rfl⟩: ∃j,k=j+1:=⟨k - 1,by omega⟩
  have hx:=xb7 x5 a j
  have hx1:=(xb4 x5 a).getD (by decide) j
  obtain ⟨n1,n2,n3,n4,n5⟩:=short_in (k:=j) (by omega) hl hD hd rfl hv (by rw [←hx])
  have hq0:=Nat.zero_le (((a / 65536 ^ (j+1)%d)*65536+(dig 65536 a).getD j 0) / d)
  refine A7 ?_
  refine R2 (d_mul (r:=(((a / 65536 ^ (j+1)%d)*65536:Nat):Int)) (by rw [wr64 (by omega) (by omega)];omega)) rfl rfl ?_
  refine A2 ?_
  refine R2 (x7 sl37 (j) (by omega) (gN (by omega))) rfl rfl ?_
  refine A1 ?_
  refine R1 (x6 Tryz.underlying3 (isS Tryz.underlying64) (wr64 (by omega) (by omega))) rfl (R2 (xd8 (r:=((((a / 65536 ^ (j+1)%d)*65536+(dig 65536 a).getD j 0):Nat):Int)) (by rw [wr64 (by omega) (by omega)];omega)) rfl rfl ?_)
  refine A9 ?_
  refine R2 (d_quo (r:=((((a / 65536 ^ (j+1)%d)*65536+(dig 65536 a).getD j 0) / d:Nat):Int)) (by omega) (iquo64 (by omega))) rfl rfl (R1 (x6 Tryz.underlying64 (isS Tryz.underlying3) (wu16 (by omega) (by omega))) rfl (R2 (xa6 sl37 (by omega) (by omega) rfl) rfl rfl (RE (xc4 (j) ti64 (rW_lt (by omega)) (by omega) (xf7 (m:=_) rfl)) ⟨rfl,rfl,trivial⟩ ⟨rfl,trivial⟩ trivial ?_)))
  refine A5 ?_
  refine R2 (d_rem (by omega) wrem64) rfl rfl ?_
  refine A9 ?_
  exact kF ((j,qs.set j (((a / 65536 ^ (j+1)%d)*65536+(dig 65536 a).getD j 0) / d))) ⟨(by dsimp only;exact ⟨by omega,n1,n2,n4⟩),(by dsimp only;omega)⟩ (hg:=(sI (Sub.le rfl (Le.int (by dsimp only;rw [hx,n3])) (sC (sI (sC Sub.nil)))))) (hh:=((SubK.consI rfl ImpK.refl) SubK.nil))
 ·
  have hk0:k=0:=by omega
  subst hk0
  rw [List.drop_zero,Nat.pow_zero,Nat.div_one] at hv
  refine A7 ?_
  refine RE (xg4 (f:=fun n:Nat=>tE (.int .u16 n)) (fun _ h=>h) (rW_all hl) hl) ⟨rfl,trivial⟩ ⟨rfl,trivial⟩ trivial (R1 (x3 (c_RTrim _) fi284 rfl) rfl ?_)
  refine A1 ?_
  refine R1 (x6 Tryz.underlying64 (isS Tryz.underlying3) (wu16 (by omega) (by omega))) rfl (R1 (d_nums (n:=1) [a / 65536 ^ 0%d] Tryz.underlying37 el64 zf64 rfl rfl rfl) rfl (R1 (x3 (c_RTrim _) fi284 rfl) rfl ?_))
  refine A5 ?_
  exact xc0 Plain.mk' rfl rfl rfl (Le.of (congrArg tLm (by rw [xd1 x5 hD,hv]))) (Le.of (congrArg tLm (by rw [trim1L (by omega),Nat.pow_zero,Nat.div_one])))
end An.S

/- The reference of layer 1: sums, differences. -/
namespace An.S
open Go Go.Proofs An
set_option maxHeartbeats 2000000
theorem c_RPlus (a b:Nat) (ha:(dig 65536 a).length≤100000) (hb:(dig 65536 b).length≤100000):
  Ct Tryz.prog 224 [tM a,tM b] (tM (a+b)):=by
 have hab:=len_dbl ha hb
 refine Ct.intro Tryz.func224 rfl Tryz.ntmps224 rfl ?_
 intro w F
 refine A7 ?_
 refine RE (xg5 (k:=5) 64 1 false rfl (fun _=>rfl)) trivial trivial ⟨rfl,trivial⟩ ?_
 refine A9 ?_
 refine A5 ?_
 refine cL (fun (fm:(Nat)×(Nat)×(List Nat))=>(fun (i:Nat) (n:Nat) (cs:List Nat)=>i≤(dig 65536 (a+b)).length∧n=(a%65536 ^ i+b%65536 ^ i) / 65536 ^ i∧cs=dgs 65536 i (a+b)) fm.1 fm.2.1 fm.2.2) (fun (fm:(Nat)×(Nat)×(List Nat))=>(fun (i:Nat) (n:Nat) (cs:List Nat)=>upd (upd (upd (upd (upd (fun _=>none) 0 (some (.val (tM a)))) 1 (some (.val (tM b)))) 5 (some (.own (.sl 5 1 0 cs.length)))) 7 (some (.val (tI i)))) 6 (some (.val (tI n)))) fm.1 fm.2.1 fm.2.2) (fun (fm:(Nat)×(Nat)×(List Nat))=>(fun (i:Nat) (n:Nat) (cs:List Nat)=>upd (fun _=>none) 5 (some (⟨64,1,false,rW .u16 cs⟩))) fm.1 fm.2.1 fm.2.2) [5] (fun (fm:(Nat)×(Nat)×(List Nat))=>(fun (i:Nat) (n:Nat) (cs:List Nat)=>(dig 65536 (a+b)).length - i) fm.1 fm.2.1 fm.2.2) ((0,0,[])) (by dsimp only;exact ⟨Nat.zero_le _,by simp [Nat.mod_one],rfl⟩) (hh:=((SubK.consI rfl ImpK.refl) SubK.nil)) ?_
 intro fm hI
 obtain ⟨i,n,cs⟩:=fm
 replace hI:i≤(dig 65536 (a+b)).length∧n=(a%65536 ^ i+b%65536 ^ i) / 65536 ^ i∧cs=dgs 65536 i (a+b):=hI
 show wc _ _ _ _ (upd (upd (upd (upd (upd (fun _=>none) 0 (some (.val (tM a)))) 1 (some (.val (tM b)))) 5 (some (.own (.sl 5 1 0 cs.length)))) 7 (some (.val (tI i)))) 6 (some (.val (tI n)))) (upd (fun _=>none) 5 (some (⟨64,1,false,rW .u16 cs⟩))) _
 obtain ⟨hi,hn,hcs⟩:=hI
 have hcl:cs.length=i:=by rw [hcs,xc8]
 have hn1:=rplus_small hn
 have xa:=xb7 x5 a i
 have xb:=xb7 x5 b i
 have xa1:=(xb4 x5 a).getD (by decide) i
 have xb1:=(xb4 x5 b).getD (by decide) i
 refine A8 ?_
 refine RGcaseD (t:=12) rfl (fun h35=> ?_) (fun h35=> ?_)
 ·
  have hmore:=rplus_more hn (.inl (by omega))
  refine A9 ?_
  refine A7 ?_
  refine xe6 (fun (m1:Nat)=>m1=(n+a / 65536 ^ i%65536)) (fun (m1:Nat)=>upd (upd (upd (upd (upd (fun _=>none) 0 (some (.val (tM a)))) 1 (some (.val (tM b)))) 5 (some (.own (.sl 5 1 0 cs.length)))) 7 (some (.val (tI i)))) 6 (some (.val (tI m1)))) (fun (m1:Nat)=>upd (fun _=>none) 5 (some (⟨64,1,false,rW .u16 cs⟩))) (nm [5]) ?_ ?_
  ·
   refine A8 ?_
   refine xa0 rfl (fun h36=> ?_) (fun h36=> ?_)
   ·
    refine A4 ?_
    refine R2 (x7 sl37 (i) (by omega) (gN (by omega))) rfl rfl ?_
    refine A1 ?_
    refine R1 (x6 Tryz.underlying3 (isS Tryz.underlying64) (wr64 (by omega) (by omega))) rfl (R2 (xd8 (r:=((n+(dig 65536 a).getD i 0:Nat):Int)) (by rw [wr64 (by omega) (by omega)];omega)) rfl rfl ?_)
    refine A2 ?_
    exact kF (n+(dig 65536 a).getD i 0) (by rw [xa]) (hh:=((SubK.consI rfl ImpK.refl) SubK.nil))
   ·
    refine A1 ?_
    exact kF (n) (by rw [dig_out x5 (by omega),Nat.add_zero]) (hh:=((SubK.consI rfl ImpK.refl) SubK.nil))
  ·
   intro m1 hm1
   refine xe6 (fun (m2:Nat)=>m2=(m1+b / 65536 ^ i%65536)) (fun (m2:Nat)=>upd (upd (upd (upd (upd (fun _=>none) 0 (some (.val (tM a)))) 1 (some (.val (tM b)))) 5 (some (.own (.sl 5 1 0 cs.length)))) 7 (some (.val (tI i)))) 6 (some (.val (tI m2)))) (fun (m2:Nat)=>upd (fun _=>none) 5 (some (⟨64,1,false,rW .u16 cs⟩))) (nm [5]) ?_ ?_
   ·
    refine A8 ?_
    refine xa0 rfl (fun h39=> ?_) (fun h39=> ?_)
    ·
     refine A4 ?_
     refine R2 (x7 sl37 (i) (by omega) (gN (by omega))) rfl rfl ?_
     refine A1 ?_
     refine R1 (x6 Tryz.underlying3 (isS Tryz.underlying64) (wr64 (by omega) (by omega))) rfl (R2 (xd8 (r:=((m1+(dig 65536 b).getD i 0:Nat):Int)) (by rw [wr64 (by omega) (by omega)];omega)) rfl rfl ?_)
     refine A2 ?_
     exact kF (m1+(dig 65536 b).getD i 0) (by rw [xb]) (hh:=((SubK.consI rfl ImpK.refl) SubK.nil))
    ·
     refine A1 ?_
     exact kF (m1) (by rw [dig_out x5 (by omega),Nat.add_zero]) (hh:=((SubK.consI rfl ImpK.refl) SubK.nil))
   ·
    intro m2 hm2
    refine A4 ?_
    refine R2 (d_rem (r:=((m2%65536:Nat):Int)) (by decide) (wrem64 (b:=65536))) rfl rfl (R1 (x6 Tryz.underlying64 (isS Tryz.underlying3) (wu16 (by omega) (by omega))) rfl (R1 (d_nums (n:=1) [m2%65536] Tryz.underlying37 el64 zf64 rfl rfl rfl) rfl (RE (xb9 (k:=5) (k':=51) (ts':=rW .u16 (cs++[m2%65536])) Tryz.underlying37 el64 zf64 rfl rfl (fun _=>inferInstance) rW_len (by simp;omega) (by simp;omega) (by simp [rW]) (n':=cs.length+1) rfl) ⟨rfl,rfl,trivial⟩ ⟨rfl,trivial⟩ ⟨rfl,trivial⟩ ?_)))
    refine A5 ?_
    refine R2 (d_quo (r:=((m2 / 65536:Nat):Int)) (by decide) (iquo64 (b:=65536) (by omega))) rfl rfl ?_
    refine A9 ?_
    obtain ⟨n1,n2⟩:=rplus_in (s:=m2) hn (by rw [hm2,hm1])
    exact xe7 (l:=[5]) (fun j=>cond (Nat.beq j 5) 51 (j)) ((i+1,m2 / 65536,cs++[m2%65536])) ⟨(by dsimp only;exact ⟨hmore,n2,by rw [hcs];exact n1⟩),(by dsimp only;omega)⟩ (SubR.int rfl (by first | omega | rfl | (dsimp only;omega)) (SubR.int rfl (by first | omega | rfl | (dsimp only;omega)) ((SubR.consI rfl (Imp.of (by dsimp only;rw [List.length_append];rfl))) (SubR.cons rfl (SubR.cons rfl SubR.nil))))) ((SubKR.consI rfl (ImpK.of xf5.symm)) SubKR.nil) (SupG.val (SupG.val (SupG.own rfl (SupG.val (SupG.val SupG.nil))))) (SupH.cons rfl (supJ xc7) SupH.nil) (lkOk rfl) rfl rfl (fun _ h=>by cases h)
 ·
  refine A6 ?_
  refine RGcaseD (t:=18) rfl (fun h35_2=> ?_) (fun h35_2=> ?_)
  ·
   have hmore:=rplus_more hn (.inr (.inl (by omega)))
   refine A9 ?_
   refine A1 ?_
   refine xe6 (fun (m1:Nat)=>m1=(n+a / 65536 ^ i%65536)) (fun (m1:Nat)=>upd (upd (upd (upd (upd (fun _=>none) 0 (some (.val (tM a)))) 1 (some (.val (tM b)))) 5 (some (.own (.sl 5 1 0 cs.length)))) 7 (some (.val (tI i)))) 6 (some (.val (tI m1)))) (fun (m1:Nat)=>upd (fun _=>none) 5 (some (⟨64,1,false,rW .u16 cs⟩))) (nm [5]) ?_ ?_
   ·
    refine A8 ?_
    refine xa0 rfl (fun h36=> ?_) (fun h36=> ?_)
    ·
     refine A4 ?_
     refine R2 (x7 sl37 (i) (by omega) (gN (by omega))) rfl rfl ?_
     refine A1 ?_
     refine R1 (x6 Tryz.underlying3 (isS Tryz.underlying64) (wr64 (by omega) (by omega))) rfl (R2 (xd8 (r:=((n+(dig 65536 a).getD i 0:Nat):Int)) (by rw [wr64 (by omega) (by omega)];omega)) rfl rfl ?_)
     refine A2 ?_
     exact kF (n+(dig 65536 a).getD i 0) (by rw [xa]) (hh:=((SubK.consI rfl ImpK.refl) SubK.nil))
    ·
     refine A1 ?_
     exact kF (n) (by rw [dig_out x5 (by omega),Nat.add_zero]) (hh:=((SubK.consI rfl ImpK.refl) SubK.nil))
   ·
    intro m1 hm1
    refine xe6 (fun (m2:Nat)=>m2=(m1+b / 65536 ^ i%65536)) (fun (m2:Nat)=>upd (upd (upd (upd (upd (fun _=>none) 0 (some (.val (tM a)))) 1 (some (.val (tM b)))) 5 (some (.own (.sl 5 1 0 cs.length)))) 7 (some (.val (tI i)))) 6 (some (.val (tI m2)))) (fun (m2:Nat)=>upd (fun _=>none) 5 (some (⟨64,1,false,rW .u16 cs⟩))) (nm [5]) ?_ ?_
    ·
     refine A8 ?_
     refine xa0 rfl (fun h39=> ?_) (fun h39=> ?_)
     ·
      refine A4 ?_
      refine R2 (x7 sl37 (i) (by omega) (gN (by omega))) rfl rfl ?_
      refine A1 ?_
      refine R1 (x6 Tryz.underlying3 (isS Tryz.underlying64) (wr64 (by omega) (by omega))) rfl (R2 (xd8 (r:=((m1+(dig 65536 b).getD i 0:Nat):Int)) (by rw [wr64 (by omega) (by omega)];omega)) rfl rfl ?_)
      refine A2 ?_
      exact kF (m1+(dig 65536 b).getD i 0) (by rw [xb]) (hh:=((SubK.consI rfl ImpK.refl) SubK.nil))
     ·
      refine A1 ?_
      exact kF (m1) (by rw [dig_out x5 (by omega),Nat.add_zero]) (hh:=((SubK.consI rfl ImpK.refl) SubK.nil))
    ·
     intro m2 hm2
     refine A4 ?_
     refine R2 (d_rem (r:=((m2%65536:Nat):Int)) (by decide) (wrem64 (b:=65536))) rfl rfl (R1 (x6 Tryz.underlying64 (isS Tryz.underlying3) (wu16 (by omega) (by omega))) rfl (R1 (d_nums (n:=1) [m2%65536] Tryz.underlying37 el64 zf64 rfl rfl rfl) rfl (RE (xb9 (k:=5) (k':=51) (ts':=rW .u16 (cs++[m2%65536])) Tryz.underlying37 el64 zf64 rfl rfl (fun _=>inferInstance) rW_len (by simp;omega) (by simp;omega) (by simp [rW]) (n':=cs.length+1) rfl) ⟨rfl,rfl,trivial⟩ ⟨rfl,trivial⟩ ⟨rfl,trivial⟩ ?_)))
     refine A5 ?_
     refine R2 (d_quo (r:=((m2 / 65536:Nat):Int)) (by decide) (iquo64 (b:=65536) (by omega))) rfl rfl ?_
     refine A9 ?_
     obtain ⟨n1,n2⟩:=rplus_in (s:=m2) hn (by rw [hm2,hm1])
     exact xe7 (l:=[5]) (fun j=>cond (Nat.beq j 5) 51 (j)) ((i+1,m2 / 65536,cs++[m2%65536])) ⟨(by dsimp only;exact ⟨hmore,n2,by rw [hcs];exact n1⟩),(by dsimp only;omega)⟩ (SubR.int rfl (by first | omega | rfl | (dsimp only;omega)) (SubR.int rfl (by first | omega | rfl | (dsimp only;omega)) ((SubR.consI rfl (Imp.of (by dsimp only;rw [List.length_append];rfl))) (SubR.cons rfl (SubR.cons rfl SubR.nil))))) ((SubKR.consI rfl (ImpK.of xf5.symm)) SubKR.nil) (SupG.val (SupG.val (SupG.own rfl (SupG.val (SupG.val SupG.nil))))) (SupH.cons rfl (supJ xc7) SupH.nil) (lkOk rfl) rfl rfl (fun _ h=>by cases h)
  ·
   refine A5 ?_
   refine xa0 rfl (fun h35_3=> ?_) (fun h35_3=> ?_)
   ·
    have hmore:=rplus_more hn (.inr (.inr (by omega)))
    refine A4 ?_
    refine xe6 (fun (m1:Nat)=>m1=(n+a / 65536 ^ i%65536)) (fun (m1:Nat)=>upd (upd (upd (upd (upd (fun _=>none) 0 (some (.val (tM a)))) 1 (some (.val (tM b)))) 5 (some (.own (.sl 5 1 0 cs.length)))) 7 (some (.val (tI i)))) 6 (some (.val (tI m1)))) (fun (m1:Nat)=>upd (fun _=>none) 5 (some (⟨64,1,false,rW .u16 cs⟩))) (nm [5]) ?_ ?_
    ·
     refine A8 ?_
     refine xa0 rfl (fun h36=> ?_) (fun h36=> ?_)
     ·
      refine A4 ?_
      refine R2 (x7 sl37 (i) (by omega) (gN (by omega))) rfl rfl ?_
      refine A1 ?_
      refine R1 (x6 Tryz.underlying3 (isS Tryz.underlying64) (wr64 (by omega) (by omega))) rfl (R2 (xd8 (r:=((n+(dig 65536 a).getD i 0:Nat):Int)) (by rw [wr64 (by omega) (by omega)];omega)) rfl rfl ?_)
      refine A2 ?_
      exact kF (n+(dig 65536 a).getD i 0) (by rw [xa]) (hh:=((SubK.consI rfl ImpK.refl) SubK.nil))
     ·
      refine A1 ?_
      exact kF (n) (by rw [dig_out x5 (by omega),Nat.add_zero]) (hh:=((SubK.consI rfl ImpK.refl) SubK.nil))
    ·
     intro m1 hm1
     refine xe6 (fun (m2:Nat)=>m2=(m1+b / 65536 ^ i%65536)) (fun (m2:Nat)=>upd (upd (upd (upd (upd (fun _=>none) 0 (some (.val (tM a)))) 1 (some (.val (tM b)))) 5 (some (.own (.sl 5 1 0 cs.length)))) 7 (some (.val (tI i)))) 6 (some (.val (tI m2)))) (fun (m2:Nat)=>upd (fun _=>none) 5 (some (⟨64,1,false,rW .u16 cs⟩))) (nm [5]) ?_ ?_
     ·
      refine A8 ?_
      refine xa0 rfl (fun h39=> ?_) (fun h39=> ?_)
      ·
       refine A4 ?_
       refine R2 (x7 sl37 (i) (by omega) (gN (by omega))) rfl rfl ?_
       refine A1 ?_
       refine R1 (x6 Tryz.underlying3 (isS Tryz.underlying64) (wr64 (by omega) (by omega))) rfl (R2 (xd8 (r:=((m1+(dig 65536 b).getD i 0:Nat):Int)) (by rw [wr64 (by omega) (by omega)];omega)) rfl rfl ?_)
       refine A2 ?_
       exact kF (m1+(dig 65536 b).getD i 0) (by rw [xb]) (hh:=((SubK.consI rfl ImpK.refl) SubK.nil))
      ·
       refine A1 ?_
       exact kF (m1) (by rw [dig_out x5 (by omega),Nat.add_zero]) (hh:=((SubK.consI rfl ImpK.refl) SubK.nil))
     ·
      intro m2 hm2
      refine A4 ?_
      refine R2 (d_rem (r:=((m2%65536:Nat):Int)) (by decide) (wrem64 (b:=65536))) rfl rfl (R1 (x6 Tryz.underlying64 (isS Tryz.underlying3) (wu16 (by omega) (by omega))) rfl (R1 (d_nums (n:=1) [m2%65536] Tryz.underlying37 el64 zf64 rfl rfl rfl) rfl (RE (xb9 (k:=5) (k':=51) (ts':=rW .u16 (cs++[m2%65536])) Tryz.underlying37 el64 zf64 rfl rfl (fun _=>inferInstance) rW_len (by simp;omega) (by simp;omega) (by simp [rW]) (n':=cs.length+1) rfl) ⟨rfl,rfl,trivial⟩ ⟨rfl,trivial⟩ ⟨rfl,trivial⟩ ?_)))
      refine A5 ?_
      refine R2 (d_quo (r:=((m2 / 65536:Nat):Int)) (by decide) (iquo64 (b:=65536) (by omega))) rfl rfl ?_
      refine A9 ?_
      obtain ⟨n1,n2⟩:=rplus_in (s:=m2) hn (by rw [hm2,hm1])
      exact xe7 (l:=[5]) (fun j=>cond (Nat.beq j 5) 51 (j)) ((i+1,m2 / 65536,cs++[m2%65536])) ⟨(by dsimp only;exact ⟨hmore,n2,by rw [hcs];exact n1⟩),(by dsimp only;omega)⟩ (SubR.int rfl (by first | omega | rfl | (dsimp only;omega)) (SubR.int rfl (by first | omega | rfl | (dsimp only;omega)) ((SubR.consI rfl (Imp.of (by dsimp only;rw [List.length_append];rfl))) (SubR.cons rfl (SubR.cons rfl SubR.nil))))) ((SubKR.consI rfl (ImpK.of xf5.symm)) SubKR.nil) (SupG.val (SupG.val (SupG.own rfl (SupG.val (SupG.val SupG.nil))))) (SupH.cons rfl (supJ xc7) SupH.nil) (lkOk rfl) rfl rfl (fun _ h=>by cases h)
   ·
    refine A7 ?_
    refine RE (xg4 (f:=fun n:Nat=>tE (.int .u16 n)) (xs:=cs) (fun _ h=>h) (rW_all rfl) rfl) ⟨rfl,trivial⟩ ⟨rfl,trivial⟩ trivial ?_
    refine A4 ?_
    exact x4 Plain.mk' rfl rfl (Le.of (congrArg tLm (by rw [hcs,rplus_end hn (by omega) (by omega) (by omega) hi])))
end An.S

/- The reference of layer 1: differences, halves, quotients. -/
namespace An.S
open Go Go.Proofs An
set_option maxHeartbeats 2000000
instance fi155:FnI Tryz.prog 155:=⟨_,Tryz.func155,by kernel_rfl,rfl⟩
theorem c_RMinus (a b:Nat) (hab:b≤a) (ha:(dig 65536 a).length≤100000):
  Ct Tryz.prog 225 [tM a,tM b] (tM (a - b)):=by
 refine Ct.intro Tryz.func225 rfl Tryz.ntmps225 rfl ?_
 intro w F
 refine A7 ?_
 refine RE (xg5 (k:=5) 64 1 false rfl (fun _=>rfl)) trivial trivial ⟨rfl,trivial⟩ ?_
 refine A9 ?_
 refine A5 ?_
 refine cL (fun (fm:(Nat)×(Nat)×(List Nat))=>(fun (i:Nat) (br:Nat) (cs:List Nat)=>i≤(dig 65536 a).length∧cs.length=i∧Dig 65536 cs∧val 65536 cs+b%65536 ^ i=a%65536 ^ i+br*65536 ^ i∧br≤1) fm.1 fm.2.1 fm.2.2) (fun (fm:(Nat)×(Nat)×(List Nat))=>(fun (i:Nat) (br:Nat) (cs:List Nat)=>upd (upd (upd (upd (upd (fun _=>none) 0 (some (.val (tM a)))) 1 (some (.val (tM b)))) 5 (some (.own (.sl 5 1 0 cs.length)))) 6 (some (.val (tI br)))) 7 (some (.val (tI i)))) fm.1 fm.2.1 fm.2.2) (fun (fm:(Nat)×(Nat)×(List Nat))=>(fun (i:Nat) (br:Nat) (cs:List Nat)=>upd (fun _=>none) 5 (some (⟨64,1,false,rW .u16 cs⟩))) fm.1 fm.2.1 fm.2.2) [5] (fun (fm:(Nat)×(Nat)×(List Nat))=>(fun (i:Nat) (br:Nat) (cs:List Nat)=>(dig 65536 a).length - i) fm.1 fm.2.1 fm.2.2) ((0,0,[])) (by dsimp only;exact ⟨Nat.zero_le _,rfl,Dig.nil _,by simp [val,Nat.mod_one],by omega⟩) (hh:=((SubK.consI rfl ImpK.refl) SubK.nil)) ?_
 intro fm hI
 obtain ⟨i,br,cs⟩:=fm
 replace hI:i≤(dig 65536 a).length∧cs.length=i∧Dig 65536 cs∧val 65536 cs+b%65536 ^ i=a%65536 ^ i+br*65536 ^ i∧br≤1:=hI
 show wc _ _ _ _ (upd (upd (upd (upd (upd (fun _=>none) 0 (some (.val (tM a)))) 1 (some (.val (tM b)))) 5 (some (.own (.sl 5 1 0 cs.length)))) 6 (some (.val (tI br)))) 7 (some (.val (tI i)))) (upd (fun _=>none) 5 (some (⟨64,1,false,rW .u16 cs⟩))) _
 obtain ⟨hi,hl,hD,hv,hbr⟩:=hI
 have xa:=xb7 x5 a i
 have xb:=xb7 x5 b i
 have xa1:=(xb4 x5 a).getD (by decide) i
 have xb1:=(xb4 x5 b).getD (by decide) i
 refine A9 ?_
 refine xa0 rfl (fun h52=> ?_) (fun h52=> ?_)
 ·
  refine A8 ?_
  refine R2 (x7 sl37 (i) (by omega) (gN (by omega))) rfl rfl ?_
  refine A1 ?_
  refine R1 (x6 Tryz.underlying3 (isS Tryz.underlying64) (wr64 (by omega) (by omega))) rfl (R2 (xd8 (r:=((65536+((dig 65536 a).getD i 0):Nat):Int)) (by rw [wr64 (by omega) (by omega)];omega)) rfl rfl ?_)
  refine A1 ?_
  refine R2 (xd7 (r:=((65536+((dig 65536 a).getD i 0) - br:Nat):Int)) (by rw [wr64 (by omega) (by omega)];omega)) rfl rfl ?_
  refine A3 ?_
  refine xe6 (fun (m:Nat)=>m+br+b / 65536 ^ i%65536=65536+a / 65536 ^ i%65536) (fun (m:Nat)=>upd (upd (upd (upd (upd (upd (fun _=>none) 0 (some (.val (tM a)))) 1 (some (.val (tM b)))) 5 (some (.own (.sl 5 1 0 cs.length)))) 6 (some (.val (tI br)))) 7 (some (.val (tI i)))) 8 (some (.val (tI m)))) (fun (m:Nat)=>upd (fun _=>none) 5 (some (⟨64,1,false,rW .u16 cs⟩))) (nm [5]) ?_ ?_
  ·
   refine A8 ?_
   refine xa0 rfl (fun h54=> ?_) (fun h54=> ?_)
   ·
    refine A4 ?_
    refine R2 (x7 sl37 (i) (by omega) (gN (by omega))) rfl rfl ?_
    refine A1 ?_
    refine R1 (x6 Tryz.underlying3 (isS Tryz.underlying64) (wr64 (by omega) (by omega))) rfl (R2 (xd7 (r:=((65536+((dig 65536 a).getD i 0) - br - ((dig 65536 b).getD i 0):Nat):Int)) (by rw [wr64 (by omega) (by omega)];omega)) rfl rfl ?_)
    refine A2 ?_
    exact kF (65536+((dig 65536 a).getD i 0) - br - ((dig 65536 b).getD i 0)) (by omega) (hh:=((SubK.consI rfl ImpK.refl) SubK.nil))
   ·
    refine A1 ?_
    exact kF (65536+((dig 65536 a).getD i 0) - br) (by rw [dig_out x5 (v:=b) (i:=i) (by omega)];omega) (hh:=((SubK.consI rfl ImpK.refl) SubK.nil))
  ·
   intro m hm
   refine A4 ?_
   refine R2 (d_rem (r:=((m%65536:Nat):Int)) (by decide) (wrem64 (b:=65536))) rfl rfl (R1 (x6 Tryz.underlying64 (isS Tryz.underlying3) (wu16 (by omega) (by omega))) rfl (R1 (d_nums (n:=1) [m%65536] Tryz.underlying37 el64 zf64 rfl rfl rfl) rfl (RE (xb9 (k:=5) (k':=39) (ts':=rW .u16 (cs++[m%65536])) Tryz.underlying37 el64 zf64 rfl rfl (fun _=>inferInstance) rW_len (by simp;omega) (by simp;omega) (by simp [rW]) (n':=cs.length+1) rfl) ⟨rfl,rfl,trivial⟩ ⟨rfl,trivial⟩ ⟨rfl,trivial⟩ ?_)))
   refine A5 ?_
   refine R2 (d_quo (r:=((m / 65536:Nat):Int)) (by decide) (iquo64 (b:=65536) (by omega))) rfl rfl (R2 (xd7 (r:=((1 - m / 65536:Nat):Int)) (by rw [wr64 (by omega) (by omega)];omega)) rfl rfl ?_)
   refine A9 ?_
   obtain ⟨n1,n2,n3⟩:=rminus_in hl hv hbr hm
   exact xe7 (l:=[5]) (fun j=>cond (Nat.beq j 5) 39 (j)) ((i+1,1 - m / 65536,cs++[m%65536])) ⟨(by dsimp only;exact ⟨by omega,by rw [List.length_append,hl];rfl,hD.append (Dig.cons (Nat.mod_lt _ (by decide)) (Dig.nil _)),n1,n3⟩),(by dsimp only;omega)⟩ (SubR.int rfl (by first | omega | rfl | (dsimp only;omega)) (SubR.int rfl (by first | omega | rfl | (dsimp only;omega)) ((SubR.consI rfl (Imp.of (by dsimp only;rw [List.length_append];rfl))) (SubR.cons rfl (SubR.cons rfl SubR.nil))))) ((SubKR.consI rfl (ImpK.of xf5.symm)) SubKR.nil) (SupG.val (SupG.val (SupG.own rfl (SupG.val (SupG.val SupG.nil))))) (SupH.cons rfl (supJ xc7) SupH.nil) (lkOk rfl) rfl rfl (fun _ h=>by cases h)
 ·
  refine A7 ?_
  refine RE (xg4 (f:=fun n:Nat=>tE (.int .u16 n)) (xs:=cs) (fun _ h=>h) (rW_all rfl) rfl) ⟨rfl,trivial⟩ ⟨rfl,trivial⟩ trivial (R1 (x3 (c_RTrim _) fi284 rfl) rfl ?_)
  refine A4 ?_
  exact x4 Plain.mk' rfl rfl (Le.of (congrArg tLm (by rw [show i=(dig 65536 a).length by omega] at hv hl;exact rminus_end hl hD (xf4 x5 a) hab hv)))
theorem c_RHalf (a:Nat) (ha:(dig 65536 a).length≤200000):
  Ct Tryz.prog 256 [tM a] (tM (a / 2)):=by
 refine Ct.intro Tryz.func256 rfl Tryz.ntmps256 rfl ?_
 intro w F
 refine A9 ?_
 refine RE (d_makeO (k:=8) (t:=tE (.int .u16 0)) (ts:=rW .u16 (List.replicate ((dig 65536 a).length) 0)) ((dig 65536 a).length) ((dig 65536 a).length) Tryz.underlying37 el64 (fun _ _=>rfl) rfl (by omega) (by omega) (Nat.le_refl _) (by omega) (by omega) (rW_rep _)) ⟨rfl,rfl,trivial⟩ trivial ⟨rfl,trivial⟩ ?_
 refine A9 ?_
 refine A9 ?_
 refine cL (fun (fm:(Nat)×(Nat)×(List Nat))=>(fun (k:Nat) (n:Nat) (qs:List Nat)=>k≤(dig 65536 a).length∧qs.length=(dig 65536 a).length∧Dig 65536 qs∧n%2=a / 65536 ^ k%2∧val 65536 (qs.drop k)=a / 65536 ^ k / 2) fm.1 fm.2.1 fm.2.2) (fun (fm:(Nat)×(Nat)×(List Nat))=>(fun (k:Nat) (n:Nat) (qs:List Nat)=>upd (upd (upd (upd (fun _=>none) 0 (some (.val (tM a)))) 3 (some (.own (.sl 8 1 0 (dig 65536 a).length)))) 4 (some (.val (tI n)))) 5 (some (.val (tI ((k:Int) - 1))))) fm.1 fm.2.1 fm.2.2) (fun (fm:(Nat)×(Nat)×(List Nat))=>(fun (k:Nat) (n:Nat) (qs:List Nat)=>upd (fun _=>none) 8 (some (⟨64,1,false,rW .u16 qs⟩))) fm.1 fm.2.1 fm.2.2) [8] (fun (fm:(Nat)×(Nat)×(List Nat))=>(fun (k:Nat) (n:Nat) (qs:List Nat)=>k) fm.1 fm.2.1 fm.2.2) (((dig 65536 a).length,0,List.replicate (dig 65536 a).length 0)) (by dsimp only;exact ⟨Nat.le_refl _,by simp,Dig.rep (by decide) _,by rw [Nat.div_eq_of_lt (xf4 x5 a)],by rw [Nat.div_eq_of_lt (xf4 x5 a),Nat.zero_div,List.drop_replicate,xf0]⟩) (hh:=((SubK.consI rfl ImpK.refl) SubK.nil)) ?_
 intro fm hI
 obtain ⟨k,n,qs⟩:=fm
 replace hI:k≤(dig 65536 a).length∧qs.length=(dig 65536 a).length∧Dig 65536 qs∧n%2=a / 65536 ^ k%2∧val 65536 (qs.drop k)=a / 65536 ^ k / 2:=hI
 show wc _ _ _ _ (upd (upd (upd (upd (fun _=>none) 0 (some (.val (tM a)))) 3 (some (.own (.sl 8 1 0 (dig 65536 a).length)))) 4 (some (.val (tI n)))) 5 (some (.val (tI ((k:Int) - 1))))) (upd (fun _=>none) 8 (some (⟨64,1,false,rW .u16 qs⟩))) _
 obtain ⟨hk,hl,hD,hn,hv⟩:=hI
 refine A7 ?_
 refine xa0 rfl (fun h82=> ?_) (fun h82=> ?_)
 ·
  obtain ⟨j,rfl⟩: ∃j,k=j+1:=⟨k - 1,by omega⟩
  have hx:=xb7 x5 a j
  have hx1:=(xb4 x5 a).getD (by decide) j
  obtain ⟨n1,n2,n3,n4,n5⟩:=half_in (k:=j) (by omega) hl hD hn hv rfl
  rw [←hx] at n1 n2 n3 n4 n5
  refine A7 ?_
  refine R2 (d_rem (r:=((n%2:Nat):Int)) (by decide) (wrem64 (b:=2))) rfl rfl (R2 (d_mul (r:=((n%2*65536:Nat):Int)) (by rw [wr64 (by omega) (by omega)];omega)) rfl rfl ?_)
  refine A2 ?_
  refine R2 (x7 sl37 (j) (by omega) (gN (by omega))) rfl rfl ?_
  refine A1 ?_
  refine R1 (x6 Tryz.underlying3 (isS Tryz.underlying64) (wr64 (by omega) (by omega))) rfl (R2 (xd8 (r:=(((n%2*65536+(dig 65536 a).getD j 0):Nat):Int)) (by rw [wr64 (by omega) (by omega)];omega)) rfl rfl ?_)
  refine A7 ?_
  refine R2 (d_quo (r:=(((n%2*65536+(dig 65536 a).getD j 0) / 2:Nat):Int)) (by decide) (iquo64 (b:=2) (by omega))) rfl rfl (R1 (x6 Tryz.underlying64 (isS Tryz.underlying3) (wu16 (by omega) (by omega))) rfl (R2 (xa6 sl37 (by omega) (by omega) rfl) rfl rfl (RE (xc4 (j) ti64 (rW_lt (by omega)) (by omega) (xf7 (m:=_) rfl)) ⟨rfl,rfl,trivial⟩ ⟨rfl,trivial⟩ trivial ?_)))
  refine A8 ?_
  exact kF ((j,(n%2*65536+(dig 65536 a).getD j 0),qs.set j ((n%2*65536+(dig 65536 a).getD j 0) / 2))) ⟨(by dsimp only;exact ⟨by omega,n1,n2,n3,n4⟩),(by dsimp only;omega)⟩ (hh:=((SubK.consI rfl ImpK.refl) SubK.nil))
 ·
  have hk0:k=0:=by omega
  subst hk0
  rw [List.drop_zero,Nat.pow_zero,Nat.div_one] at hv
  refine A7 ?_
  refine RE (xg4 (f:=fun n:Nat=>tE (.int .u16 n)) (xs:=qs) (fun _ h=>h) (rW_all hl) hl) ⟨rfl,trivial⟩ ⟨rfl,trivial⟩ trivial (R1 (x3 (c_RTrim _) fi284 rfl) rfl ?_)
  refine A4 ?_
  exact x4 Plain.mk' rfl rfl (Le.of (congrArg tLm (by rw [xd1 x5 hD,hv])))
theorem c_RFromInt (n:Int) (h1: -9223372036854775808≤n) (h2:n≤9223372036854775807):
  Ct Tryz.prog 71 [tI n] (tWh (wh n)):=by
 refine Ct.intro Tryz.func71 rfl Tryz.ntmps71 rfl ?_
 intro w F
 refine A2 ?_
 refine RE (x8 (k:=2) (n:=2) (agg:=true) zr39.1 zr39.2 rfl) trivial trivial ⟨rfl,trivial⟩ ?_
 refine A5 ?_
 refine R1 (x6 Tryz.underlying123 (isS Tryz.underlying3) toU64) rfl ?_
 refine A3 ?_
 refine xe6 (fun (v:Nat)=>v=n.natAbs) (fun (v:Nat)=>upd (upd (upd (fun _=>none) 0 (some (.val (tI n)))) 2 (some (.own (.ptr 2 0)))) 3 (some (.val (tE (.int .u64 ((v:Nat):Int)))))) (fun (v:Nat)=>upd (fun _=>none) 2 (some (⟨39,2,true,[.val (tWh ⟨false,[]⟩)]⟩))) (nm [2]) ?_ ?_
 ·
  refine A6 ?_
  refine xa0 rfl (fun h164=> ?_) (fun h164=> ?_)
  ·
   refine A2 ?_
   refine R1 (d_neg (negU64 (by omega))) rfl ?_
   refine A2 ?_
   exact kF ((18446744073709551616 - (n%18446744073709551616).toNat)%18446744073709551616) (by omega) (hh:=((SubK.consI rfl ImpK.refl) SubK.nil))
  ·
   refine A1 ?_
   exact kF ((n%18446744073709551616).toNat) (by omega) (hh:=((SubK.consI rfl ImpK.refl) SubK.nil))
 ·
  intro v hv
  have hvl:=wh_len v (by omega)
  refine A2 ?_
  refine RE (xg5 (k:=4) 64 1 false rfl (fun _=>rfl)) trivial trivial ⟨rfl,trivial⟩ ?_
  refine A4 ?_
  refine cL (fun (fm:(Nat)×(Nat)×(List Nat))=>(fun (i:Nat) (u:Nat) (cs:List Nat)=>i≤(dig 65536 v).length∧u=v / 65536 ^ i∧cs=dgs 65536 i v∧u < 18446744073709551616) fm.1 fm.2.1 fm.2.2) (fun (fm:(Nat)×(Nat)×(List Nat))=>(fun (i:Nat) (u:Nat) (cs:List Nat)=>upd (upd (upd (upd (fun _=>none) 0 (some (.val (tI n)))) 2 (some (.own (.ptr 2 0)))) 3 (some (.val (tE (.int .u64 ((u:Nat):Int)))))) 4 (some (.own (.sl 4 1 0 cs.length)))) fm.1 fm.2.1 fm.2.2) (fun (fm:(Nat)×(Nat)×(List Nat))=>(fun (i:Nat) (u:Nat) (cs:List Nat)=>upd (upd (fun _=>none) 2 (some (⟨39,2,true,[.val (tWh ⟨false,[]⟩)]⟩))) 4 (some (⟨64,1,false,rW .u16 cs⟩))) fm.1 fm.2.1 fm.2.2) [2,4] (fun (fm:(Nat)×(Nat)×(List Nat))=>(fun (i:Nat) (u:Nat) (cs:List Nat)=>u) fm.1 fm.2.1 fm.2.2) ((0,v,[])) (by dsimp only;exact ⟨Nat.zero_le _,by simp,rfl,by omega⟩) (hh:=((SubK.consI rfl ImpK.refl) ((SubK.consI rfl ImpK.refl) SubK.nil))) ?_
  intro fm hI
  obtain ⟨i,u,cs⟩:=fm
  replace hI:i≤(dig 65536 v).length∧u=v / 65536 ^ i∧cs=dgs 65536 i v∧u < 18446744073709551616:=hI
  show wc _ _ _ _ (upd (upd (upd (upd (fun _=>none) 0 (some (.val (tI n)))) 2 (some (.own (.ptr 2 0)))) 3 (some (.val (tE (.int .u64 ((u:Nat):Int)))))) 4 (some (.own (.sl 4 1 0 cs.length)))) (upd (upd (fun _=>none) 2 (some (⟨39,2,true,[.val (tWh ⟨false,[]⟩)]⟩))) 4 (some (⟨64,1,false,rW .u16 cs⟩))) _
  obtain ⟨hi,hu,hcs,hu64⟩:=hI
  have hcl:cs.length=i:=by rw [hcs,xc8]
  refine A7 ?_
  refine xa0 rfl (fun h168=> ?_) (fun h168=> ?_)
  ·
   refine A7 ?_
   refine R2 (d_rem (r:=((u%65536:Nat):Int)) (by decide) (wrem64 (b:=65536))) rfl rfl (R1 (x6 Tryz.underlying64 (isS Tryz.underlying123) (wu16 (by omega) (by omega))) rfl (R1 (d_nums (n:=1) [u%65536] Tryz.underlying37 el64 zf64 rfl rfl rfl) rfl (RE (xb9 (k:=4) (k':=18) (ts':=rW .u16 (cs++[u%65536])) Tryz.underlying37 el64 zf64 rfl rfl (fun _=>inferInstance) rW_len (by simp;omega) (by simp;omega) (by simp [rW]) (n':=cs.length+1) rfl) ⟨rfl,rfl,trivial⟩ ⟨rfl,trivial⟩ ⟨rfl,trivial⟩ ?_)))
   refine A5 ?_
   refine R2 (d_quo (r:=((u / 65536:Nat):Int)) (by decide) (wquo64 (b:=65536) (by omega))) rfl rfl ?_
   refine A3 ?_
   obtain ⟨n1,n2,n3⟩:=from_more hu (by omega)
   exact xe7 (l:=[2,4]) (fun j=>cond (Nat.beq j 4) 18 (j)) ((i+1,u / 65536,cs++[u%65536])) ⟨(by dsimp only;exact ⟨n1,n2,by rw [hcs];exact n3,by omega⟩),(by dsimp only;omega)⟩ ((SubR.consI rfl (Imp.of (by dsimp only;rw [List.length_append];rfl))) (SubR.int rfl (by first | omega | rfl | (dsimp only;omega)) (SubR.cons rfl (SubR.int rfl (by first | omega | rfl | (dsimp only;omega)) SubR.nil)))) ((SubKR.consI rfl (ImpK.of xf5.symm)) ((SubKR.consI rfl ImpK.refl) SubKR.nil)) (SupG.own rfl (SupG.val (SupG.own rfl (SupG.val SupG.nil)))) (SupH.cons rfl (supJ xc7) (SupH.cons rfl (supJL rfl) SupH.nil)) (lkOk rfl) rfl rfl (fun _ h=>by cases h)
  ·
   refine A9 ?_
   have hfin:cs=dig 65536 v:=by rw [hcs];exact from_end (by rw [←hu];omega) hi
   subst hfin
   refine RE (xg4 (f:=fun n:Nat=>tE (.int .u16 n)) (xs:=(dig 65536 v)) (fun _ h=>h) (rW_all rfl) rfl) ⟨rfl,trivial⟩ ⟨rfl,trivial⟩ trivial (R2 (x3 (c_RMake _ v) fi155 rfl) rfl rfl ?_)
   refine A4 ?_
   exact xb8 Plain.mk' rfl ⟨_,_,_,_,_,rfl,rfl,ti39,(Le.of (by rw [wh_sgn,hv,wh];congr 2;by_cases h:n < 0 <;> simp [h];omega))⟩
end An.S

/- The references: quotients, divisors, quick fractions. -/
namespace An.S
open Go Go.Proofs An
set_option maxHeartbeats 2000000
instance fi156:FnI Tryz.prog 156:=⟨_,Tryz.func156,by kernel_rfl,rfl⟩
instance fi224:FnI Tryz.prog 224:=⟨_,Tryz.func224,by kernel_rfl,rfl⟩
instance fi225:FnI Tryz.prog 225:=⟨_,Tryz.func225,by kernel_rfl,rfl⟩
instance fi254:FnI Tryz.prog 254:=⟨_,Tryz.func254,by kernel_rfl,rfl⟩
instance fi255:FnI Tryz.prog 255:=⟨_,Tryz.func255,by kernel_rfl,rfl⟩
instance fi256:FnI Tryz.prog 256:=⟨_,Tryz.func256,by kernel_rfl,rfl⟩
theorem c_RPlusOne (q:Nat) (h:(dig 65536 q).length≤100000):Ct Tryz.prog 224 [tM q,tLm [1]] (tM (q+1)):=by
  have e:dig 65536 1=[1]:=by rw [dig_pos x5 (by decide),show (1:Nat) / 65536=0 by decide,xc2]
  have:=c_RPlus q 1 h (by rw [e];decide)
  rw [tM,tM,e] at this;exact this
theorem lenM {a b k:Nat} (h:a≤b) (hb:(dig 65536 b).length≤k):(dig 65536 a).length≤k:=Nat.le_trans (xc6 x5 h) hb
theorem one_dec {l:List Nat} (h:l.length=1):decide (((l.getD 0 0:Nat):Int)=1)=decide (l=[1]):=by
  obtain ⟨a,rfl⟩:=List.length_eq_one_iff.1 h
  simp
  omega
theorem low_sgn {n d:Int} (hd:d≠0):fr (Rat.divInt n d)=⟨wh (sgn (!((wh n).neg==(wh d).neg)) (n.natAbs / Nat.gcd n.natAbs d.natAbs)),wh (sgn false (d.natAbs / Nat.gcd n.natAbs d.natAbs))⟩:=by
  have key: ∀(n d:Int),0 < d→fr (Rat.divInt n d)=⟨wh (sgn (decide (n < 0)) (n.natAbs / Nat.gcd n.natAbs d.natAbs)),wh (sgn false (d.natAbs / Nat.gcd n.natAbs d.natAbs))⟩:=fun n d h=>by
    rw [lowest_eq h]
    have hg:(Int.gcd n d:Nat)=Nat.gcd n.natAbs d.natAbs:=rfl
    rw [hg]
    have hdn:Nat.gcd n.natAbs d.natAbs ∣ n.natAbs:=Nat.gcd_dvd_left _ _
    have hdd:Nat.gcd n.natAbs d.natAbs ∣ d.natAbs:=Nat.gcd_dvd_right _ _
    generalize Nat.gcd n.natAbs d.natAbs=g at*
    have e2:d / (g:Int)=sgn false (d.natAbs / g):=by
      show _=((d.natAbs / g:Nat):Int)
      rw [Int.natCast_ediv];congr 1;omega
    have e1:n / (g:Int)=sgn (decide (n < 0)) (n.natAbs / g):=by
      by_cases hn:n < 0
      · rw [decide_eq_true hn]
        show _= -((n.natAbs / g:Nat):Int)
        have:n= -(n.natAbs:Int):=by omega
        conv=>lhs;rw [this]
        rw [Int.neg_ediv_of_dvd (Int.natCast_dvd_natCast.2 hdn),Int.natCast_ediv]
      · rw [decide_eq_false hn]
        show _=((n.natAbs / g:Nat):Int)
        rw [Int.natCast_ediv];congr 1;omega
    rw [e1,e2]
  rcases Int.lt_or_gt_of_ne hd with h | h
  · have e:Rat.divInt n d=Rat.divInt (-n) (-d):=(Rat.neg_divInt_neg n d).symm
    rw [e,key (-n) (-d) (by omega),Int.natAbs_neg,Int.natAbs_neg]
    have e3:(wh d).neg=true:=decide_eq_true h
    have e4:(wh n).neg=decide (n < 0):=rfl
    rw [e3,e4]
    by_cases h0:n=0
    · subst h0;simp [sgn]
    · have:decide (-n < 0)= !(decide (n < 0)==true):=by
        by_cases hn:n < 0
        · simp [hn];omega
        · simp [hn];omega
      rw [this]
  · rw [key n d h]
    have e3:(wh d).neg=false:=decide_eq_false (by omega)
    have e4:(wh n).neg=decide (n < 0):=rfl
    rw [e3,e4];simp
theorem c_RDivided (a b:Nat) (hb:0 < b) (ha:(dig 65536 a).length≤4000) (hbl:(dig 65536 b).length≤4000):
    Ct Tryz.prog 156 [tM a,tM b] (tT [tM (a / b),tM (a%b)]):=by
  refine Ct.intro Tryz.func156 rfl Tryz.ntmps156 rfl ?_
  intro w F
  refine A9 ?_
  refine A5 ?_
  refine xa0 rfl (fun h103=> ?_) (fun h103=> ?_)
  ·
    have hb0:=one_limb (b:=b) (by omega)
    have hbW:=(xb4 x5 b).getD (by decide) 0
    refine A4 ?_
    refine R2 (x7 sl37 (0) (by omega) (gN (by omega))) rfl rfl ?_
    refine A1 ?_
    refine R1 (x6 Tryz.underlying3 (isS Tryz.underlying64) (wr64 (by omega) (by omega))) rfl (R2 (x3 (c_RShort a _ (by omega) (by omega) (by omega)) fi254 rfl) rfl rfl ?_)
    refine A8 ?_
    exact xc0 Plain.mk' rfl rfl rfl (Le.of (by rw [hb0])) (Le.of (by rw [hb0]))
  ·
    refine A9 ?_
    refine A6 ?_
    refine cL (fun (n:Nat)=>n=0∨b*2 ^ n≤a+a) (fun (n:Nat)=>upd (upd (upd (upd (fun _=>none) 0 (some (.val (tM a)))) 1 (some (.val (tM b)))) 6 (some (.val (tI n)))) 7 (some (.val (tM (b*2 ^ n))))) (fun (n:Nat)=>fun _=>none) [] (fun (n:Nat)=>a+1 - b*2 ^ n) (0) (.inl rfl) (hg:=(Sub.le rfl (Le.of (by first | rw [Nat.pow_zero,Nat.mul_one] | (dsimp only;rw [Nat.pow_zero,Nat.mul_one]))) (sI (sC (sC Sub.nil))))) ?_
    intro n hI
    have hn:n < 16*4001:=by
      rcases hI with h | h
      · omega
      · refine bits_le (a:=a+a) ?_ (by have:=len_dbl ha ha;omega)
        exact Nat.le_trans (Nat.le_mul_of_pos_left _ hb) h
    refine A5 ?_
    refine R2 (x3 (c_RLess a (b*2 ^ n)) fi255 rfl) rfl rfl ?_
    refine A3 ?_
    refine xc1 rfl (fun h107=> ?_) (fun h107=> ?_)
    ·
      have hle:b*2 ^ n≤a:=by
        have h:=h107
        simp at h;exact h
      have hnl:=lenM hle ha
      refine A7 ?_
      refine R2 (x3 (c_RPlus (b*2 ^ n) (b*2 ^ n) (by omega) (by omega)) fi224 rfl) rfl rfl ?_
      refine A9 ?_
      have he:b*2 ^ n+b*2 ^ n=b*2 ^ (n+1):=by rw [Nat.pow_succ,←Nat.mul_assoc,Nat.mul_two]
      have hp:0 < b*2 ^ n:=Nat.mul_pos hb (Nat.pow_pos (by decide))
      exact kF (n+1) ⟨(.inr (by omega)),(by show a+1 - b*2 ^ (n+1) < a+1 - b*2 ^ n;omega)⟩ (hg:=(Sub.le rfl (Le.of (by rw [he])) (sI (sC (sC Sub.nil)))))
    ·
      have hlt:a < b*2 ^ n:=by
        have h:=h107
        simp at h;exact h
      have hnl:(dig 65536 (b*2 ^ n)).length≤4001:=by
        rcases hI with h | h
        · rw [h,Nat.pow_zero,Nat.mul_one];omega
        · exact lenM h (len_dbl ha ha)
      refine A9 ?_
      refine A9 ?_
      refine cL (fun (i:Nat)=>i≤n) (fun (i:Nat)=>upd (upd (upd (upd (upd (fun _=>none) 0 (some (.val (tM a)))) 1 (some (.val (tM b)))) 6 (some (.val (tI n)))) 8 (some (.val (tM (b*2 ^ i))))) 9 (some (.val (tI i)))) (fun (i:Nat)=>fun _=>none) [] (fun (i:Nat)=>n - i) (0) (Nat.zero_le _) (hg:=(sI (Sub.le rfl (Le.of (by first | rw [Nat.pow_zero,Nat.mul_one] | (dsimp only;rw [Nat.pow_zero,Nat.mul_one]))) (sI (sC (sC Sub.nil)))))) ?_
      intro i hJ
      refine A8 ?_
      refine xa0 rfl (fun h111=> ?_) (fun h111=> ?_)
      ·
        have hil:(dig 65536 (b*2 ^ i)).length≤4001:=lenM (Nat.mul_le_mul_left _ (Nat.pow_le_pow_right (by decide) (by omega))) hnl
        refine A7 ?_
        refine R2 (x3 (c_RPlus (b*2 ^ i) (b*2 ^ i) (by omega) (by omega)) fi224 rfl) rfl rfl ?_
        refine A9 ?_
        have he:b*2 ^ i+b*2 ^ i=b*2 ^ (i+1):=by rw [Nat.pow_succ,←Nat.mul_assoc,Nat.mul_two]
        exact kF (i+1) ⟨(by omega),(by omega)⟩ (hg:=(sI (Sub.le rfl (Le.of (by rw [he])) (sI (sC (sC Sub.nil))))))
      ·
        refine A9 ?_
        refine A3 ?_
        refine RE (d_sliceOfO (k:=43) (ents:=[]) Tryz.underlying37 el64 zf64 rfl (by simp) rfl rfl rfl) trivial trivial ⟨rfl,trivial⟩ ?_
        refine A1 ?_
        refine RE (xb9 (k:=43) (k':=45) (ts':=rW .u16 (dig 65536 a)) Tryz.underlying37 el64 zf64 rfl rfl (fun _=>inferInstance) rfl (by simp;omega) (by simp;omega) (by simp [rW]) (n':=(dig 65536 a).length) (by simp)) ⟨rfl,rfl,trivial⟩ ⟨rfl,trivial⟩ ⟨rfl,trivial⟩ (RE (d_assignS (f:=fun n:Nat=>tE (.int .u16 n)) (xs:=dig 65536 a) (fun _ h=>h) (rW_all rfl) rfl) ⟨rfl,trivial⟩ ⟨rfl,trivial⟩ trivial ?_)
        refine A9 ?_
        refine cL (fun (fm:(Nat)×(Nat)×(Nat)×(Nat))=>(fun (j:Nat) (q:Nat) (r:Nat) (d:Nat)=>j≤n∧d=b*2 ^ (n - j)∧a=q*d+r∧r < d) fm.1 fm.2.1 fm.2.2.1 fm.2.2.2) (fun (fm:(Nat)×(Nat)×(Nat)×(Nat))=>(fun (j:Nat) (q:Nat) (r:Nat) (d:Nat)=>upd (upd (upd (upd (upd (fun _=>none) 6 (some (.val (tI n)))) 8 (some (.val (tM d)))) 10 (some (.val (tM q)))) 11 (some (.val (tM r)))) 12 (some (.val (tI j)))) fm.1 fm.2.1 fm.2.2.1 fm.2.2.2) (fun (fm:(Nat)×(Nat)×(Nat)×(Nat))=>(fun (j:Nat) (q:Nat) (r:Nat) (d:Nat)=>fun _=>none) fm.1 fm.2.1 fm.2.2.1 fm.2.2.2) [] (fun (fm:(Nat)×(Nat)×(Nat)×(Nat))=>(fun (j:Nat) (q:Nat) (r:Nat) (d:Nat)=>n - j) fm.1 fm.2.1 fm.2.2.1 fm.2.2.2) ((0,0,a,b*2 ^ n)) (by dsimp only;exact ⟨Nat.zero_le _,rfl,by omega,by omega⟩) (hg:=(sI (sC (Sub.le rfl (leNil (xc2 _)) (Sub.le rfl (Le.of (by first | rw [show i=n by omega] | (dsimp only;rw [show i=n by omega]))) (sI Sub.nil)))))) ?_
        intro fm hK
        obtain ⟨j,q,r,d⟩:=fm
        replace hK:j≤n∧d=b*2 ^ (n - j)∧a=q*d+r∧r < d:=hK
        show wc _ _ _ _ (upd (upd (upd (upd (upd (fun _=>none) 6 (some (.val (tI n)))) 8 (some (.val (tM d)))) 10 (some (.val (tM q)))) 11 (some (.val (tM r)))) 12 (some (.val (tI j)))) (fun _=>none) _
        obtain ⟨hj,hd,hq,hr⟩:=hK
        have hqa:q≤a:=by
          have h1:q*1≤q*d:=Nat.mul_le_mul_left _ (by omega)
          omega
        have hql:=lenM hqa ha
        have hdn:b*2 ^ (n - j)≤b*2 ^ n:=Nat.mul_le_mul_left _ (Nat.pow_le_pow_right (by decide) (by omega))
        have hdl:(dig 65536 d).length≤4001:=by rw [←hd] at hdn;exact lenM hdn hnl
        have hqq:=len_dbl hql hql
        refine A8 ?_
        refine xa0 rfl (fun h116=> ?_) (fun h116=> ?_)
        ·
          refine A7 ?_
          refine R1 (x3 (c_RHalf d (by omega)) fi256 rfl) rfl ?_
          refine A7 ?_
          refine R2 (x3 (c_RPlus q q (by omega) (by omega)) fi224 rfl) rfl rfl ?_
          refine A7 ?_
          refine R2 (x3 (c_RLess r (d / 2)) fi255 rfl) rfl rfl ?_
          refine A3 ?_
          refine xc1 rfl (fun h119=> ?_) (fun h119=> ?_)
          ·
            have hge:d / 2≤r:=by
              have h:=h119
              simp at h;exact h
            refine A4 ?_
            refine R2 (x3 (c_RMinus r (d / 2) (by omega) (by have:=lenM (Nat.le_of_lt hr) hdl;omega)) fi225 rfl) rfl rfl ?_
            refine A5 ?_
            refine R1 (d_nums (n:=1) [1] Tryz.underlying37 el64 zf64 rfl rfl rfl) rfl (R2 (x3 (c_RPlusOne (q+q) (by omega)) fi224 rfl) rfl rfl ?_)
            refine A9 ?_
            obtain ⟨b1,b2,b3⟩:=div_bit (by omega) hd hq hr
            obtain ⟨b4,b5,b6⟩:=b3 (by omega)
            exact kF ((j+1,q+q+1,r - d / 2,d / 2)) ⟨(by dsimp only;exact ⟨by omega,b1,b4,b5⟩),(by dsimp only;omega)⟩
          ·
            have hge:r < d / 2:=by
              have h:=h119
              simp at h;exact h
            refine A8 ?_
            obtain ⟨b1,b2,b3⟩:=div_bit (by omega) hd hq hr
            exact kF ((j+1,q+q,r,d / 2)) ⟨(by dsimp only;exact ⟨by omega,b1,b2 (by omega),by omega⟩),(by dsimp only;omega)⟩
        ·
          have hdb:d=b:=by rw [hd,show n - j=0 by omega,Nat.pow_zero,Nat.mul_one]
          rw [hdb] at hq hr
          obtain ⟨e1,e2⟩:=div_done hq hr
          refine A9 ?_
          refine A5 ?_
          exact xc0 Plain.mk' rfl rfl rfl (Le.of (by rw [e1])) (Le.of (by rw [e2]))
theorem c_RCommon (a b:Nat) (ha:(dig 65536 a).length≤4000) (hb:(dig 65536 b).length≤4000):
  Ct Tryz.prog 138 [tM a,tM b] (tM (Nat.gcd a b)):=by
 refine Ct.intro Tryz.func138 rfl Tryz.ntmps138 rfl ?_
 intro w F
 refine A7 ?_
 refine cL (fun (fm:(Nat)×(Nat))=>(fun (x:Nat) (y:Nat)=>Nat.gcd x y=Nat.gcd a b∧(dig 65536 x).length≤4000∧(dig 65536 y).length≤4000) fm.1 fm.2) (fun (fm:(Nat)×(Nat))=>(fun (x:Nat) (y:Nat)=>upd (upd (fun _=>none) 0 (some (.val (tM x)))) 1 (some (.val (tM y)))) fm.1 fm.2) (fun (fm:(Nat)×(Nat))=>(fun (x:Nat) (y:Nat)=>fun _=>none) fm.1 fm.2) [] (fun (fm:(Nat)×(Nat))=>(fun (x:Nat) (y:Nat)=>y) fm.1 fm.2) ((a,b)) (by dsimp only;exact ⟨rfl,ha,hb⟩) ?_
 intro fm hI
 obtain ⟨x,y⟩:=fm
 replace hI:Nat.gcd x y=Nat.gcd a b∧(dig 65536 x).length≤4000∧(dig 65536 y).length≤4000:=hI
 show wc _ _ _ _ (upd (upd (fun _=>none) 0 (some (.val (tM x)))) 1 (some (.val (tM y)))) (fun _=>none) _
 obtain ⟨hg,hx,hy⟩:=hI
 refine A8 ?_
 refine xa0 rfl (fun h261=> ?_) (fun h261=> ?_)
 ·
  have hy0:0 < y:=by have:=len_ne.1 h261;omega
  refine A7 ?_
  refine R2 (x3 (c_RDivided x y hy0 hx hy) fi156 rfl) rfl rfl ?_
  refine A9 ?_
  refine A9 ?_
  have hlt:x%y < y:=Nat.mod_lt _ hy0
  exact kF ((y,x%y)) ⟨(by dsimp only;exact ⟨by rw [Nat.gcd_comm,←Nat.gcd_rec,Nat.gcd_comm];exact hg,hy,lenM (Nat.le_of_lt hlt) hy⟩),(by dsimp only;omega)⟩
 ·
  have hy0:y=0:=Classical.byContradiction fun h=>h261 (len_ne.2 h)
  refine A9 ?_
  refine A3 ?_
  exact x4 Plain.mk' rfl rfl (Le.of (by rw [←hg,hy0,Nat.gcd_zero_right]))
theorem c_Rone (l:List Nat):
  Ct Tryz.prog 137 [tLm l] (tB (decide (l=[1]))):=by
 refine Ct.intro Tryz.func137 rfl Tryz.ntmps137 rfl ?_
 intro w F
 refine A9 ?_
 refine A2 ?_
 refine RGcaseD (t:=6) rfl (fun h24=> ?_) (fun h24=> ?_)
 ·
  refine A1 ?_
  refine RGon (decide_eq_true h24) rfl (x7 sl37 (0) (by omega) (gN (by omega))) rfl ⟨rfl,rfl,trivial⟩ trivial trivial ?_
  refine A7 ?_
  exact x4 Plain.mk' rfl rfl (Le.bool (one_dec (by omega)))
 ·
  refine A9 ?_
  exact x4 Plain.mk' rfl rfl (Le.bool (decide_eq_false (fun h=>h24 (by rw [h];rfl))).symm)
end An.S

/- The reference of layer 2; small functions of the laws. -/
namespace An.S
open Go Go.Proofs An
set_option maxHeartbeats 2000000
instance fi70:FnI Tryz.prog 70:=⟨_,Tryz.func70,by kernel_rfl,rfl⟩
instance fi71:FnI Tryz.prog 71:=⟨_,Tryz.func71,by kernel_rfl,rfl⟩
instance fi129:FnI Tryz.prog 129:=⟨_,Tryz.func129,by kernel_rfl,rfl⟩
instance fi137:FnI Tryz.prog 137:=⟨_,Tryz.func137,by kernel_rfl,rfl⟩
instance fi138:FnI Tryz.prog 138:=⟨_,Tryz.func138,by kernel_rfl,rfl⟩
theorem c_RLowest (n d:Int) (hn:len16 n≤4000) (hd:len16 d≤4000) (hd0:d≠0):
  Ct Tryz.prog 70 [tWh (wh n),tWh (wh d)] (tFr (fr (Rat.divInt n d))):=by
 have hg0:0 < (Nat.gcd n.natAbs d.natAbs):=Nat.gcd_pos_of_pos_right _ (by omega)
 have hgl:=lenM (Nat.le_of_dvd (by omega) (Nat.gcd_dvd_right n.natAbs d.natAbs)) hd
 refine Ct.intro Tryz.func70 rfl Tryz.ntmps70 rfl ?_
 intro w F
 refine A4 ?_
 refine RE (x8 (k:=4) (n:=4) (agg:=true) zr41.1 zr41.2 rfl) trivial trivial ⟨rfl,trivial⟩ ?_
 refine A8 ?_
 refine R2 (x3 (c_RCommon n.natAbs d.natAbs hn hd) fi138 rfl) rfl rfl ?_
 refine A7 ?_
 refine R1 (x3 (c_Rone _) fi137 rfl) rfl ?_
 refine A2 ?_
 refine xc1 rfl (fun h15=> ?_) (fun h15=> ?_)
 ·
  have hg1:(Nat.gcd n.natAbs d.natAbs)=1:=by
   have h:=of_decide_eq_true h15
   rw [←val_dig x5 (Nat.gcd n.natAbs d.natAbs),h];rfl
  refine A9 ?_
  refine R2 (x3 (c_RMake (!((wh n).neg==(wh d).neg)) n.natAbs) fi155 rfl) rfl rfl ?_
  refine A2 ?_
  refine R2 (x3 (c_RMake false d.natAbs) fi155 rfl) rfl rfl (R2 (xa3 (r:=tS [⟨2,true,tWh (wh (sgn (!((wh n).neg==(wh d).neg)) n.natAbs))⟩,⟨2,true,tWh (wh (sgn false d.natAbs))⟩]) (ts:=[(0,tWh (wh (sgn (!((wh n).neg==(wh d).neg)) n.natAbs))),(1,tWh (wh (sgn false d.natAbs)))]) bu41 zr41.2 ⟨_,rfl⟩ rfl ⟨_,_,_,_,rfl,Up.f (fs:=[⟨2,true,(tS [⟨1,false,(tE (.bool false))⟩,⟨1,false,(tLm [])⟩])⟩,⟨2,true,(tS [⟨1,false,(tE (.bool false))⟩,⟨1,false,(tLm [])⟩])⟩]) (f:=⟨2,true,(tS [⟨1,false,(tE (.bool false))⟩,⟨1,false,(tLm [])⟩])⟩) (fs':=[⟨2,true,tWh (wh (sgn (!((wh n).neg==(wh d).neg)) n.natAbs))⟩,⟨2,true,(tS [⟨1,false,(tE (.bool false))⟩,⟨1,false,(tLm [])⟩])⟩]) 0 rfl rfl rfl,inferInstance,⟨_,_,_,_,rfl,Up.f (fs:=[⟨2,true,tWh (wh (sgn (!((wh n).neg==(wh d).neg)) n.natAbs))⟩,⟨2,true,(tS [⟨1,false,(tE (.bool false))⟩,⟨1,false,(tLm [])⟩])⟩]) (f:=⟨2,true,(tS [⟨1,false,(tE (.bool false))⟩,⟨1,false,(tLm [])⟩])⟩) (fs':=[⟨2,true,tWh (wh (sgn (!((wh n).neg==(wh d).neg)) n.natAbs))⟩,⟨2,true,tWh (wh (sgn false d.natAbs))⟩]) 1 rfl rfl rfl,inferInstance,Le.refl⟩⟩) rfl rfl ?_)
  refine A5 ?_
  exact xb8 Plain.mk' rfl ⟨_,_,_,_,_,rfl,rfl,ti41,(Le.of (by rw [low_sgn hd0,hg1,Nat.div_one,Nat.div_one]))⟩
 ·
  refine A7 ?_
  refine R2 (x3 (c_RDivided n.natAbs (Nat.gcd n.natAbs d.natAbs) hg0 hn hgl) fi156 rfl) rfl rfl ?_
  refine A9 ?_
  refine A3 ?_
  refine R2 (x3 (c_RDivided d.natAbs (Nat.gcd n.natAbs d.natAbs) hg0 hd hgl) fi156 rfl) rfl rfl ?_
  refine A9 ?_
  refine A6 ?_
  refine R2 (x3 (c_RMake (!((wh n).neg==(wh d).neg)) (n.natAbs / (Nat.gcd n.natAbs d.natAbs))) fi155 rfl) rfl rfl ?_
  refine A1 ?_
  refine R2 (x3 (c_RMake false (d.natAbs / (Nat.gcd n.natAbs d.natAbs))) fi155 rfl) rfl rfl (R2 (xa3 (r:=tS [⟨2,true,tWh (wh (sgn (!((wh n).neg==(wh d).neg)) (n.natAbs / (Nat.gcd n.natAbs d.natAbs))))⟩,⟨2,true,tWh (wh (sgn false (d.natAbs / (Nat.gcd n.natAbs d.natAbs))))⟩]) (ts:=[(0,tWh (wh (sgn (!((wh n).neg==(wh d).neg)) (n.natAbs / (Nat.gcd n.natAbs d.natAbs))))),(1,tWh (wh (sgn false (d.natAbs / (Nat.gcd n.natAbs d.natAbs)))))]) bu41 zr41.2 ⟨_,rfl⟩ rfl ⟨_,_,_,_,rfl,Up.f (fs:=[⟨2,true,(tS [⟨1,false,(tE (.bool false))⟩,⟨1,false,(tLm [])⟩])⟩,⟨2,true,(tS [⟨1,false,(tE (.bool false))⟩,⟨1,false,(tLm [])⟩])⟩]) (f:=⟨2,true,(tS [⟨1,false,(tE (.bool false))⟩,⟨1,false,(tLm [])⟩])⟩) (fs':=[⟨2,true,tWh (wh (sgn (!((wh n).neg==(wh d).neg)) (n.natAbs / (Nat.gcd n.natAbs d.natAbs))))⟩,⟨2,true,(tS [⟨1,false,(tE (.bool false))⟩,⟨1,false,(tLm [])⟩])⟩]) 0 rfl rfl rfl,inferInstance,⟨_,_,_,_,rfl,Up.f (fs:=[⟨2,true,tWh (wh (sgn (!((wh n).neg==(wh d).neg)) (n.natAbs / (Nat.gcd n.natAbs d.natAbs))))⟩,⟨2,true,(tS [⟨1,false,(tE (.bool false))⟩,⟨1,false,(tLm [])⟩])⟩]) (f:=⟨2,true,(tS [⟨1,false,(tE (.bool false))⟩,⟨1,false,(tLm [])⟩])⟩) (fs':=[⟨2,true,tWh (wh (sgn (!((wh n).neg==(wh d).neg)) (n.natAbs / (Nat.gcd n.natAbs d.natAbs))))⟩,⟨2,true,tWh (wh (sgn false (d.natAbs / (Nat.gcd n.natAbs d.natAbs))))⟩]) 1 rfl rfl rfl,inferInstance,Le.refl⟩⟩) rfl rfl ?_)
  refine A4 ?_
  exact xb8 Plain.mk' rfl ⟨_,_,_,_,_,rfl,rfl,ti41,(Le.of (by rw [low_sgn hd0]))⟩
theorem c_RQuick (n d:Int) (hd0:d≠0) (h1: -9223372036854775808≤n) (h2:n≤9223372036854775807) (h3: -9223372036854775808≤d) (h4:d≤9223372036854775807):
  Ct Tryz.prog 20 [tI n,tI d] (tFr (fr (Rat.divInt n d))):=by
 have l1:=len16_64 h1 h2
 have l2:=len16_64 h3 h4
 refine Ct.intro Tryz.func20 rfl Tryz.ntmps20 rfl ?_
 intro w F
 refine A2 ?_
 refine RE (x8 (k:=4) (n:=4) (agg:=true) zr41.1 zr41.2 rfl) trivial trivial ⟨rfl,trivial⟩ ?_
 refine A5 ?_
 refine R1 (x3 (c_RFromInt n h1 h2) fi71 rfl) rfl ?_
 refine A1 ?_
 refine R1 (x3 (c_RFromInt d h3 h4) fi71 rfl) rfl (R2 (x3 (c_RLowest n d (by omega) (by omega) hd0) fi70 rfl) rfl rfl ?_)
 refine A4 ?_
 exact xb8 Plain.mk' rfl ⟨_,_,_,_,_,rfl,rfl,ti41,Le.refl⟩
/-- A list that is too large. -/
def largeL (l:List Deal) (m k:Int):Bool:=(List.range l.length).any fun i=>decide (m≤(i:Int)) || decide (k < ((l.getD i deal0).share.n.l.length:Int)) || decide (k < ((l.getD i deal0).share.d.l.length:Int))
theorem any_next {i:Nat} {f:Nat→Bool}:(List.range (i+1)).any f=((List.range i).any f || f i):=by
  rw [List.range_succ,List.any_append];simp
end An.S

/- Multiplying limb by limb: plain numbers. -/
namespace An
open Go
theorem mul_lt16 {x y:Nat} (hx:x < 65536) (hy:y < 65536):x*y≤4294836225:=by
  have:=Nat.mul_le_mul (show x≤65535 by omega) (show y≤65535 by omega)
  omega
theorem rtimes_in {b i j c x y s la:Nat} {w0 vs:List Nat} (hl:vs.length=la) (hD:Dig 65536 vs) (hw:w0.length=la) (hdr:vs.drop (i+j)=w0.drop (i+j)) (hij:i+j < la) (hc:c < 65536) (hx:x < 65536) (hy:y=b / 65536 ^ j%65536)
    (hs:s=x*y+vs.getD (i+j) 0+c) (h:val 65536 (vs.take (i+j))+c*65536 ^ (i+j)=val 65536 (w0.take (i+j))+x*65536 ^ i*(b%65536 ^ j)):
    (vs.set (i+j) (s%65536)).length=la∧Dig 65536 (vs.set (i+j) (s%65536))∧(vs.set (i+j) (s%65536)).drop (i+(j+1))=w0.drop (i+(j+1))∧s / 65536 < 65536∧
      val 65536 ((vs.set (i+j) (s%65536)).take (i+(j+1)))+s / 65536*65536 ^ (i+(j+1))=val 65536 (w0.take (i+(j+1)))+x*65536 ^ i*(b%65536 ^ (j+1)):=by
  have hyW:y < 65536:=by rw [hy];exact Nat.mod_lt _ (by decide)
  have hg:vs.getD (i+j) 0 < 65536:=hD.getD (by decide) _
  refine ⟨by simpa using hl,hD.set (Nat.mod_lt _ (by decide)),by rw [←Nat.add_assoc,xd3];exact xh1 hdr (by omega),?_,?_⟩
  · have:=mul_lt16 hx hyW
    refine Nat.div_lt_of_lt_mul ?_
    show s < 65536*65536
    have:vs.getD (i+j) 0 < 65536:=hg
    have:c < 65536:=hc
    omega
  · rw [←Nat.add_assoc,xe4 (by omega),xd0 _ w0 _ (by omega),←xg0 hdr (Nat.le_refl _)]
    exact mul_step h hs hy
theorem rtimes_out {a b i c la lb:Nat} {w0 vs:List Nat} (hi:i < la) (hw:w0.length=la+lb) (hl:vs.length=la+lb) (hD:Dig 65536 vs) (hdr:vs.drop (i+lb)=w0.drop (i+lb)) (hz:w0.drop (i+lb)=List.replicate (la - i) 0) (hc:c < 65536)
    (h0:val 65536 (w0.take (i+lb))=a%65536 ^ i*b) (hb:b < 65536 ^ lb) (h:val 65536 (vs.take (i+lb))+c*65536 ^ (i+lb)=val 65536 (w0.take (i+lb))+a / 65536 ^ i%65536*65536 ^ i*(b%65536 ^ lb)):
    (vs.set (i+lb) c).length=la+lb∧Dig 65536 (vs.set (i+lb) c)∧(vs.set (i+lb) c).drop (i+1+lb)=List.replicate (la - (i+1)) 0∧val 65536 ((vs.set (i+lb) c).take (i+1+lb))=a%65536 ^ (i+1)*b:=by
  refine ⟨by simpa using hl,hD.set hc,?_,?_⟩
  · rw [show i+1+lb=i+lb+1 by omega,xd3,xh1 (j:=i+lb+1) hdr (by omega),←List.drop_drop,hz,List.drop_replicate];congr 1
  · rw [show i+1+lb=i+lb+1 by omega,xe4 (by omega),Nat.mul_comm _ c,h,h0,xg1,Nat.mod_eq_of_lt hb,Nat.add_mul]
    congr 1
    rw [Nat.mul_comm (65536 ^ i)]
theorem rtimes_end {a b la lb:Nat} {ws:List Nat} (hl:ws.length=la+lb) (hD:Dig 65536 ws) (ha:a < 65536 ^ la) (h:val 65536 (ws.take (la+lb))=a%65536 ^ la*b):trimL ws=dig 65536 (a*b):=by
  rw [xd1 x5 hD]
  rw [←hl,List.take_length,Nat.mod_eq_of_lt ha] at h
  rw [h]
end An

/- The references of layers 1 and 2: products, sums, quotients, numbers of 64 bits, fractions. -/
namespace An.S
open Go Go.Proofs An
set_option maxHeartbeats 2000000
set_option maxRecDepth 100000
instance fi52:FnI Tryz.prog 52:=⟨_,Tryz.func52,by kernel_rfl,rfl⟩
instance fi135:FnI Tryz.prog 135:=⟨_,Tryz.func135,by kernel_rfl,rfl⟩
instance fi136:FnI Tryz.prog 136:=⟨_,Tryz.func136,by kernel_rfl,rfl⟩
instance fi139:FnI Tryz.prog 139:=⟨_,Tryz.func139,by kernel_rfl,rfl⟩
instance fi140:FnI Tryz.prog 140:=⟨_,Tryz.func140,by kernel_rfl,rfl⟩
instance fi143:FnI Tryz.prog 143:=⟨_,Tryz.func143,by kernel_rfl,rfl⟩
instance fi148:FnI Tryz.prog 148:=⟨_,Tryz.func148,by kernel_rfl,rfl⟩
instance fi217:FnI Tryz.prog 217:=⟨_,Tryz.func217,by kernel_rfl,rfl⟩
instance fi218:FnI Tryz.prog 218:=⟨_,Tryz.func218,by kernel_rfl,rfl⟩
instance fi219:FnI Tryz.prog 219:=⟨_,Tryz.func219,by kernel_rfl,rfl⟩
instance fi258:FnI Tryz.prog 258:=⟨_,Tryz.func258,by kernel_rfl,rfl⟩
theorem c_RTimes (a b:Nat) (ha:(dig 65536 a).length≤100000) (hb:(dig 65536 b).length≤100000):
  Ct Tryz.prog 219 [tM a,tM b] (tM (a*b)):=by
 refine Ct.intro Tryz.func219 rfl Tryz.ntmps219 rfl ?_
 intro w F
 have hbW:=xf4 x5 b
 refine A9 ?_
 refine A3 ?_
 refine RE (d_makeO (k:=14) (t:=tE (.int .u16 0)) (ts:=rW .u16 (List.replicate (((dig 65536 a).length+(dig 65536 b).length)) 0)) (((dig 65536 a).length+(dig 65536 b).length)) (((dig 65536 a).length+(dig 65536 b).length)) Tryz.underlying37 el64 (fun _ _=>rfl) rfl (by omega) (by omega) (Nat.le_refl _) (by omega) (by omega) (rW_rep _)) ⟨rfl,rfl,trivial⟩ trivial ⟨rfl,trivial⟩ ?_
 refine A9 ?_
 refine A1 ?_
 refine cL (fun (fm:(Nat)×(List Nat))=>(fun (i:Nat) (ws:List Nat)=>i≤(dig 65536 a).length∧ws.length=(dig 65536 a).length+(dig 65536 b).length∧Dig 65536 ws∧ws.drop (i+(dig 65536 b).length)=List.replicate ((dig 65536 a).length - i) 0∧val 65536 (ws.take (i+(dig 65536 b).length))=a%65536 ^ i*b) fm.1 fm.2) (fun (fm:(Nat)×(List Nat))=>(fun (i:Nat) (ws:List Nat)=>upd (upd (upd (upd (fun _=>none) 0 (some (.val (tM a)))) 1 (some (.val (tM b)))) 5 (some (.own (.sl 14 1 0 ((dig 65536 a).length+(dig 65536 b).length))))) 6 (some (.val (tI i)))) fm.1 fm.2) (fun (fm:(Nat)×(List Nat))=>(fun (i:Nat) (ws:List Nat)=>upd (fun _=>none) 14 (some (⟨64,1,false,rW .u16 ws⟩))) fm.1 fm.2) [14] (fun (fm:(Nat)×(List Nat))=>(fun (i:Nat) (ws:List Nat)=>(dig 65536 a).length - i) fm.1 fm.2) ((0,List.replicate ((dig 65536 a).length+(dig 65536 b).length) 0)) (by dsimp only;exact ⟨Nat.zero_le _,by simp,Dig.rep (by decide) _,by rw [List.drop_replicate];congr 1;omega,by rw [List.take_replicate,xf0,Nat.pow_zero,Nat.mod_one,Nat.zero_mul]⟩) (hh:=((SubK.consI rfl ImpK.refl) SubK.nil)) ?_
 intro fm hI
 obtain ⟨i,ws⟩:=fm
 replace hI:i≤(dig 65536 a).length∧ws.length=(dig 65536 a).length+(dig 65536 b).length∧Dig 65536 ws∧ws.drop (i+(dig 65536 b).length)=List.replicate ((dig 65536 a).length - i) 0∧val 65536 (ws.take (i+(dig 65536 b).length))=a%65536 ^ i*b:=hI
 show wc _ _ _ _ (upd (upd (upd (upd (fun _=>none) 0 (some (.val (tM a)))) 1 (some (.val (tM b)))) 5 (some (.own (.sl 14 1 0 ((dig 65536 a).length+(dig 65536 b).length))))) 6 (some (.val (tI i)))) (upd (fun _=>none) 14 (some (⟨64,1,false,rW .u16 ws⟩))) _
 obtain ⟨hi,hl,hD,hz,hv⟩:=hI
 have hx:=xb7 x5 a i
 have hx1:=(xb4 x5 a).getD (by omega) i
 refine A9 ?_
 refine xa0 rfl (fun h66=> ?_) (fun h66=> ?_)
 ·
  refine A9 ?_
  refine A7 ?_
  refine cL (fun (fm:(Nat)×(List Nat)×(Nat))=>(fun (j:Nat) (vs:List Nat) (c:Nat)=>j≤(dig 65536 b).length∧vs.length=(dig 65536 a).length+(dig 65536 b).length∧Dig 65536 vs∧vs.drop (i+j)=ws.drop (i+j)∧c < 65536∧val 65536 (vs.take (i+j))+c*65536 ^ (i+j)=val 65536 (ws.take (i+j))+(dig 65536 a).getD i 0*65536 ^ i*(b%65536 ^ j)) fm.1 fm.2.1 fm.2.2) (fun (fm:(Nat)×(List Nat)×(Nat))=>(fun (j:Nat) (vs:List Nat) (c:Nat)=>upd (upd (upd (upd (upd (upd (fun _=>none) 0 (some (.val (tM a)))) 1 (some (.val (tM b)))) 5 (some (.own (.sl 14 1 0 ((dig 65536 a).length+(dig 65536 b).length))))) 6 (some (.val (tI i)))) 7 (some (.val (tI c)))) 8 (some (.val (tI j)))) fm.1 fm.2.1 fm.2.2) (fun (fm:(Nat)×(List Nat)×(Nat))=>(fun (j:Nat) (vs:List Nat) (c:Nat)=>upd (fun _=>none) 14 (some (⟨64,1,false,rW .u16 vs⟩))) fm.1 fm.2.1 fm.2.2) [14] (fun (fm:(Nat)×(List Nat)×(Nat))=>(fun (j:Nat) (vs:List Nat) (c:Nat)=>(dig 65536 b).length - j) fm.1 fm.2.1 fm.2.2) ((0,ws,0)) (by dsimp only;exact ⟨Nat.zero_le _,hl,hD,rfl,by omega,by rw [Nat.pow_zero,Nat.mod_one];omega⟩) (hh:=((SubK.consI rfl ImpK.refl) SubK.nil)) ?_
  intro fm hJ
  obtain ⟨j,vs,c⟩:=fm
  replace hJ:j≤(dig 65536 b).length∧vs.length=(dig 65536 a).length+(dig 65536 b).length∧Dig 65536 vs∧vs.drop (i+j)=ws.drop (i+j)∧c < 65536∧val 65536 (vs.take (i+j))+c*65536 ^ (i+j)=val 65536 (ws.take (i+j))+(dig 65536 a).getD i 0*65536 ^ i*(b%65536 ^ j):=hJ
  show wc _ _ _ _ (upd (upd (upd (upd (upd (upd (fun _=>none) 0 (some (.val (tM a)))) 1 (some (.val (tM b)))) 5 (some (.own (.sl 14 1 0 ((dig 65536 a).length+(dig 65536 b).length))))) 6 (some (.val (tI i)))) 7 (some (.val (tI c)))) 8 (some (.val (tI j)))) (upd (fun _=>none) 14 (some (⟨64,1,false,rW .u16 vs⟩))) _
  obtain ⟨hj,kl,kD,kdr,kc,kv⟩:=hJ
  have hy:=xb7 x5 b j
  have hy1:=(xb4 x5 b).getD (by omega) j
  have hw1:=kD.getD (by omega) (i+j)
  have hxy:=mul_lt16 hx1 hy1
  refine A9 ?_
  refine xa0 rfl (fun h68=> ?_) (fun h68=> ?_)
  ·
   refine A9 ?_
   refine R2 (x7 sl37 (i) (by omega) (gN (by omega))) rfl rfl ?_
   refine A1 ?_
   refine R1 (x6 Tryz.underlying3 (isS Tryz.underlying64) (wr64 (by omega) (by omega))) rfl ?_
   refine A2 ?_
   refine R2 (x7 sl37 (j) (by omega) (gN (by omega))) rfl rfl ?_
   refine A1 ?_
   refine R1 (x6 Tryz.underlying3 (isS Tryz.underlying64) (wr64 (by omega) (by omega))) rfl (R2 (d_mul (r:=(((dig 65536 a).getD i 0*(dig 65536 b).getD j 0:Nat):Int)) (by rw [←Int.natCast_mul,wr64 (by omega) (by omega)])) rfl rfl (R2 (xd8 (r:=((c+(dig 65536 a).getD i 0*(dig 65536 b).getD j 0:Nat):Int)) (by rw [wr64 (by omega) (by omega)];omega)) rfl rfl ?_))
   refine A4 ?_
   refine R2 (xa6 sl37 (by omega) (by omega) rfl) rfl rfl (RE (xd4 (i+j) ti64 (rW_get (by omega)) (by omega)) ⟨rfl,trivial⟩ ⟨rfl,trivial⟩ trivial (R1 (x6 Tryz.underlying3 (isS Tryz.underlying64) (wr64 (by omega) (by omega))) rfl (R2 (xd8 (r:=(((c+(dig 65536 a).getD i 0*(dig 65536 b).getD j 0+vs.getD (i+j) 0):Nat):Int)) (by rw [wr64 (by omega) (by omega)];omega)) rfl rfl ?_)))
   refine A9 ?_
   refine A1 ?_
   refine R2 (d_rem (r:=(((c+(dig 65536 a).getD i 0*(dig 65536 b).getD j 0+vs.getD (i+j) 0)%65536:Nat):Int)) (by decide) (wrem64 (b:=65536))) rfl rfl (R1 (x6 Tryz.underlying64 (isS Tryz.underlying3) (wu16 (by omega) (by omega))) rfl (R2 (xa6 sl37 (by omega) (by omega) rfl) rfl rfl (RE (xc4 (i+j) ti64 (rW_lt (by omega)) (by omega) (xf7 (m:=_) rfl)) ⟨rfl,rfl,trivial⟩ ⟨rfl,trivial⟩ trivial ?_)))
   refine A4 ?_
   refine R2 (d_quo (r:=(((c+(dig 65536 a).getD i 0*(dig 65536 b).getD j 0+vs.getD (i+j) 0) / 65536:Nat):Int)) (by decide) (iquo64 (b:=65536) (by omega))) rfl rfl ?_
   refine A9 ?_
   obtain ⟨n1,n2,n3,n4,n5⟩:=rtimes_in (s:=(c+(dig 65536 a).getD i 0*(dig 65536 b).getD j 0+vs.getD (i+j) 0)) kl kD hl kdr (by omega) kc hx1 hy (by omega) kv
   exact kF ((j+1,vs.set (i+j) ((c+(dig 65536 a).getD i 0*(dig 65536 b).getD j 0+vs.getD (i+j) 0)%65536),(c+(dig 65536 a).getD i 0*(dig 65536 b).getD j 0+vs.getD (i+j) 0) / 65536)) ⟨(by dsimp only;exact ⟨by omega,n1,n2,n3,n4,n5⟩),(by dsimp only;omega)⟩ (hh:=((SubK.consI rfl ImpK.refl) SubK.nil))
  ·
   have hjb:j=(dig 65536 b).length:=by omega
   refine A9 ?_
   refine A3 ?_
   refine R1 (x6 Tryz.underlying64 (isS Tryz.underlying3) (wu16 (by omega) (by omega))) rfl (R2 (xa6 sl37 (by omega) (by omega) rfl) rfl rfl (RE (xc4 (i+(dig 65536 b).length) ti64 (rW_lt (by omega)) (by omega) (xf7 (m:=_) rfl)) ⟨rfl,rfl,trivial⟩ ⟨rfl,trivial⟩ trivial ?_))
   refine A8 ?_
   obtain ⟨n1,n2,n3,n4⟩:=rtimes_out (by omega) hl kl kD (by rw [←hjb];exact kdr) hz kc hv hbW (by rw [←hjb,←hx];exact kv)
   exact kF ((i+1,vs.set (i+(dig 65536 b).length) c)) ⟨(by dsimp only;exact ⟨by omega,n1,n2,n3,n4⟩),(by dsimp only;omega)⟩ (hh:=((SubK.consI rfl ImpK.refl) SubK.nil))
 ·
  refine A7 ?_
  refine RE (xg4 (f:=fun n:Nat=>tE (.int .u16 n)) (xs:=ws) (fun _ h=>h) (rW_all hl) hl) ⟨rfl,trivial⟩ ⟨rfl,trivial⟩ trivial (R1 (x3 (c_RTrim _) fi284 rfl) rfl ?_)
  refine A4 ?_
  exact x4 Plain.mk' rfl rfl (Le.of (congrArg tLm (rtimes_end hl hD (xf4 x5 a) (by rw [←show i=(dig 65536 a).length by omega];exact hv))))
theorem c_RValid (x:Wh):
  Ct Tryz.prog 135 [tWh x] (tB x.valid):=by
 refine Ct.intro Tryz.func135 rfl Tryz.ntmps135 rfl ?_
 intro w F
 refine A9 ?_
 refine A6 ?_
 refine xa0 rfl (fun h142=> ?_) (fun h142=> ?_)
 ·
  refine A9 ?_
  refine A1 ?_
  exact x4 Plain.mk' rfl rfl (Le.bool (by simp only [Wh.valid];rw [if_pos (by omega)]))
 ·
  refine A3 ?_
  refine C_len (s:=4) rfl (fun hl4=> ?_)
  refine A6 ?_
  refine RGcaseD (t:=14) rfl (fun h145=> ?_) (fun h145=> ?_)
  ·
   refine A5 ?_
   refine RGon (decide_eq_true h145) rfl (xd7 (wr64 (by omega) (by omega))) rfl ⟨rfl,rfl,trivial⟩ trivial trivial (RGon (decide_eq_true h145) rfl (x7 sl37 (x.l.length - 1) (by omega) (gN (by omega))) rfl ⟨rfl,rfl,trivial⟩ trivial trivial ?_)
   refine A7 ?_
   exact x4 Plain.mk' rfl rfl (Le.bool (by simp only [Wh.valid];rw [if_neg (by omega),decide_eq_true (show x.l.length≤1024 by omega),Bool.true_and];exact decide_eq_decide.2 (by omega)))
  ·
   refine A9 ?_
   refine A5 ?_
   exact x4 Plain.mk' rfl rfl (Le.bool (by simp only [Wh.valid];rw [if_neg (by omega),decide_eq_false (show ¬x.l.length≤1024 by omega),Bool.false_and]))
theorem rsum1 {x y:Int} (h:((wh x).neg==(wh y).neg)=true):sgn (wh x).neg (x.natAbs+y.natAbs)=x+y:=by
  have h:decide (x < 0)=decide (y < 0):=eq_of_beq h
  show sgn (decide (x < 0)) _=_
  by_cases hx:x < 0 <;> by_cases hy:y < 0 <;> simp [hx,hy] at h <;> simp [sgn,hx] <;> omega
theorem rsum2 {x y:Int} (h:((wh x).neg==(wh y).neg)=false) (hl:x.natAbs < y.natAbs):sgn (wh y).neg (y.natAbs - x.natAbs)=x+y:=by
  have h:(decide (x < 0)==decide (y < 0))=false:=h
  show sgn (decide (y < 0)) _=_
  by_cases hx:x < 0 <;> by_cases hy:y < 0 <;> simp [hx,hy] at h <;> simp [sgn,hy] <;> omega
theorem rsum3 {x y:Int} (h:((wh x).neg==(wh y).neg)=false) (hl: ¬x.natAbs < y.natAbs):sgn (wh x).neg (x.natAbs - y.natAbs)=x+y:=by
  have h:(decide (x < 0)==decide (y < 0))=false:=h
  show sgn (decide (x < 0)) _=_
  by_cases hx:x < 0 <;> by_cases hy:y < 0 <;> simp [hx,hy] at h <;> simp [sgn,hx] <;> omega
theorem rneg1 {x:Int}:sgn (!(wh x).neg) x.natAbs= -x:=by
  show sgn (!decide (x < 0)) _=_
  by_cases hx:x < 0 <;> simp [sgn,hx] <;> omega
theorem len_nil {x:Int}:(wh x).l.length=0↔x=0:=by
  show (dig 65536 x.natAbs).length=0↔_
  rw [List.length_eq_zero_iff,xg9 x5];omega
theorem c_RSum (x y:Int) (hx:len16 x≤4001) (hy:len16 y≤4001):
  Ct Tryz.prog 217 [tWh (wh x),tWh (wh y)] (tWh (wh (x+y))):=by
 refine Ct.intro Tryz.func217 rfl Tryz.ntmps217 rfl ?_
 intro w F
 refine A4 ?_
 refine RE (x8 (k:=4) (n:=2) (agg:=true) zr39.1 zr39.2 rfl) trivial trivial ⟨rfl,trivial⟩ ?_
 refine A9 ?_
 refine A3 ?_
 refine xc1 rfl (fun h198=> ?_) (fun h198=> ?_)
 ·
  refine A8 ?_
  refine R2 (x3 (c_RPlus x.natAbs y.natAbs (by show len16 x≤100000;omega) (by show len16 y≤100000;omega)) fi224 rfl) rfl rfl (R2 (x3 (c_RMake _ _) fi155 rfl) rfl rfl ?_)
  refine A5 ?_
  exact xb8 Plain.mk' rfl ⟨_,_,_,_,_,rfl,rfl,ti39,(Le.of (by rw [rsum1 h198]))⟩
 ·
  refine A9 ?_
  refine R2 (x3 (c_RLess x.natAbs y.natAbs) fi255 rfl) rfl rfl ?_
  refine A2 ?_
  refine xa0 rfl (fun h201=> ?_) (fun h201=> ?_)
  ·
   refine A8 ?_
   refine R2 (x3 (c_RMinus y.natAbs x.natAbs (by omega) (by show len16 y≤100000;omega)) fi225 rfl) rfl rfl (R2 (x3 (c_RMake _ _) fi155 rfl) rfl rfl ?_)
   refine A5 ?_
   exact xb8 Plain.mk' rfl ⟨_,_,_,_,_,rfl,rfl,ti39,(Le.of (by rw [rsum2 h198 h201]))⟩
  ·
   refine A9 ?_
   refine A1 ?_
   refine R2 (x3 (c_RMinus x.natAbs y.natAbs (by omega) (by show len16 x≤100000;omega)) fi225 rfl) rfl rfl (R2 (x3 (c_RMake _ _) fi155 rfl) rfl rfl ?_)
   refine A4 ?_
   exact xb8 Plain.mk' rfl ⟨_,_,_,_,_,rfl,rfl,ti39,(Le.of (by rw [rsum3 h198 h201]))⟩
theorem c_RNeg (x:Int):
  Ct Tryz.prog 218 [tWh (wh x)] (tWh (wh (-x))):=by
 refine Ct.intro Tryz.func218 rfl Tryz.ntmps218 rfl ?_
 intro w F
 refine A3 ?_
 refine RE (x8 (k:=2) (n:=2) (agg:=true) zr39.1 zr39.2 rfl) trivial trivial ⟨rfl,trivial⟩ ?_
 refine A9 ?_
 refine R2 (x3 (c_RMake _ x.natAbs) fi155 rfl) rfl rfl ?_
 refine A4 ?_
 exact xb8 Plain.mk' rfl ⟨_,_,_,_,_,rfl,rfl,ti39,(Le.of (by rw [rneg1]))⟩
theorem c_RProduct (x y:Int) (hx:len16 x≤4001) (hy:len16 y≤4001):
  Ct Tryz.prog 140 [tWh (wh x),tWh (wh y)] (tWh (wh (x*y))):=by
 refine Ct.intro Tryz.func140 rfl Tryz.ntmps140 rfl ?_
 intro w F
 refine A4 ?_
 refine RE (x8 (k:=4) (n:=2) (agg:=true) zr39.1 zr39.2 rfl) trivial trivial ⟨rfl,trivial⟩ ?_
 refine A9 ?_
 refine A4 ?_
 refine R2 (x3 (c_RTimes x.natAbs y.natAbs (by show len16 x≤100000;omega) (by show len16 y≤100000;omega)) fi219 rfl) rfl rfl (R2 (x3 (c_RMake _ _) fi155 rfl) rfl rfl ?_)
 refine A4 ?_
 exact xb8 Plain.mk' rfl ⟨_,_,_,_,_,rfl,rfl,ti39,(Le.of (by rw [sgn_mul]))⟩
theorem c_ROrder (x y:Int) (hx:len16 x≤4000) (hy:len16 y≤4000):
  Ct Tryz.prog 139 [tWh (wh x),tWh (wh y)] (tI (cmpZ x y)):=by
 have hny:=len16_neg y
 refine Ct.intro Tryz.func139 rfl Tryz.ntmps139 rfl ?_
 intro w F
 refine A9 ?_
 refine A2 ?_
 refine R1 (x3 (c_RNeg y) fi218 rfl) rfl (R2 (x3 (c_RSum x (-y) (by omega) (by omega)) fi217 rfl) rfl rfl (RE (x8 (k:=5) (n:=2) (agg:=true) zr39.1 zr39.2 rfl) trivial trivial ⟨rfl,trivial⟩ ?_))
 refine A9 ?_
 refine A1 ?_
 refine xc1 rfl (fun h280=> ?_) (fun h280=> ?_)
 ·
  have hlt:x+ -y < 0:=of_decide_eq_true h280
  refine A7 ?_
  exact x4 Plain.mk' rfl rfl (Le.int (by rw [cmpZ,if_pos (by omega)]))
 ·
  have hlt: ¬x+ -y < 0:=of_decide_eq_false h280
  refine A9 ?_
  refine A2 ?_
  refine xa0 rfl (fun h283=> ?_) (fun h283=> ?_)
  ·
   have hne:x+ -y≠0:=fun h=>by have:=len_nil.2 h;omega
   refine A7 ?_
   exact x4 Plain.mk' rfl rfl (Le.int (by rw [cmpZ,if_neg (by omega),if_neg (by omega)]))
  ·
   have hne:x+ -y=0:=len_nil.1 (by omega)
   refine A8 ?_
   exact x4 Plain.mk' rfl rfl (Le.int (by rw [cmpZ,if_neg (by omega),if_pos (by omega)]))
theorem c_RFits (f:Fr):
  Ct Tryz.prog 136 [tFr f] (tB f.sh):=by
 refine Ct.intro Tryz.func136 rfl Tryz.ntmps136 rfl ?_
 intro w F
 refine A9 ?_
 refine A1 ?_
 refine xe8 (0) ti37 rfl rfl rfl (At.t (At.g 0 rfl rfl) (At.g 1 rfl rfl)) rfl ?_
 refine A3 ?_
 refine RGcaseD (t:=8) rfl (fun h27=> ?_) (fun h27=> ?_)
 ·
  refine A2 ?_
  refine xb6 (decide_eq_true h27) rfl rfl (0) ti37 rfl rfl rfl (At.t (At.g 1 rfl rfl) (At.g 1 rfl rfl)) rfl ?_
  refine A7 ?_
  exact x4 Plain.mk' rfl rfl (Le.bool (by rw [Fr.sh,decide_eq_true (show f.n.l.length≤256 by omega),Bool.true_and];exact decide_eq_decide.2 (by omega)))
 ·
  refine A9 ?_
  refine A1 ?_
  exact x4 Plain.mk' rfl rfl (Le.bool (by rw [Fr.sh,decide_eq_false (show ¬f.n.l.length≤256 by omega)];rfl))
theorem one_dec2 {x y:Int}:decide (dig 65536 (Nat.gcd x.natAbs y.natAbs)=[1])=decide (Int.gcd x y=1):=by
  have h1:dig 65536 1=[1]:=by rw [dig_pos x5 (by decide),show (1:Nat) / 65536=0 by decide,xc2]
  refine decide_eq_decide.2 ⟨fun h=> ?_,fun h=> ?_⟩
  · rw [←h1] at h
    have h2:=congrArg (val 65536) h
    rw [val_dig x5,val_dig x5] at h2
    exact h2
  · have h:Nat.gcd x.natAbs y.natAbs=1:=h
    rw [h,h1]
theorem prod_fr {a b:Rat}:Rat.divInt (a.num*b.num) ((a.den:Int)*(b.den:Int))=a*b:=by
  rw [Rat.mul_def,←Int.natCast_mul,Rat.divInt_ofNat,Rat.normalize_eq_mkRat]
theorem c_R2Valid (f:Fr) (hn:Dig 65536 f.n.l) (hd:Dig 65536 f.d.l):
  Ct Tryz.prog 52 [tFr f] (tB f.valid):=by
 obtain ⟨n,d⟩:=f
 replace hn:Dig 65536 n.l:=hn
 replace hd:Dig 65536 d.l:=hd
 refine Ct.intro Tryz.func52 rfl Tryz.ntmps52 rfl ?_
 intro w F
 refine A9 ?_
 refine A2 ?_
 refine R1 (x3 (c_RValid n) fi135 rfl) rfl ?_
 refine A2 ?_
 refine RGcase (t:=7) rfl (fun h39=> ?_) (fun h39=> ?_)
 ·
  have hv1:n.valid=false:=by simpa using h39
  refine A9 ?_
  refine A9 ?_
  refine A9 ?_
  refine A5 ?_
  exact x4 Plain.mk' rfl rfl (Le.bool (by simp only [Fr.valid,hv1,Bool.and_false,Bool.false_and]))
 ·
  have hv1:n.valid=true:=by simpa using h39
  refine A2 ?_
  refine RGon h39 rfl (x3 (c_RValid d) fi135 rfl) rfl ⟨rfl,trivial⟩ trivial trivial ?_
  refine A3 ?_
  refine RGcase (t:=13) rfl (fun h39_2=> ?_) (fun h39_2=> ?_)
  ·
   have hv2:d.valid=false:=by simpa using h39_2
   refine A9 ?_
   refine A9 ?_
   refine A8 ?_
   exact x4 Plain.mk' rfl rfl (Le.bool (by simp only [Fr.valid,hv2,Bool.and_false,Bool.false_and]))
  ·
   have hv2:d.valid=true:=by simpa using h39_2
   obtain ⟨x,rfl,hxl⟩:=Wh.of_valid hn hv1
   obtain ⟨y,rfl,hyl⟩:=Wh.of_valid hd hv2
   have ix:=int_wh x
   have iy:=int_wh y
   refine A1 ?_
   refine RGon h39_2 rfl (x3 (c_RFits _) fi136 rfl) rfl ⟨rfl,trivial⟩ trivial trivial ?_
   refine A3 ?_
   refine RGcase (t:=18) rfl (fun h39_3=> ?_) (fun h39_3=> ?_)
   ·
    have hs:(⟨wh x,wh y⟩:Fr).sh=false:=by simpa using h39_3
    refine A9 ?_
    refine A9 ?_
    refine A3 ?_
    exact x4 Plain.mk' rfl rfl (Le.bool (by simp only [Fr.valid,hs,Bool.false_and]))
   ·
    have hs:(⟨wh x,wh y⟩:Fr).sh=true:=by simpa using h39_3
    refine A2 ?_
    refine xb6 h39_3 rfl rfl (0) ti4 rfl rfl rfl (At.t (At.g 1 rfl rfl) (At.g 0 rfl rfl)) rfl ?_
    refine A2 ?_
    refine RGcase (t:=23) rfl (fun h39_4=> ?_) (fun h39_4=> ?_)
    ·
     have hy0: ¬0 < y:=by have:y < 0:=of_decide_eq_true h39_4;omega
     refine A9 ?_
     refine A7 ?_
     exact x4 Plain.mk' rfl rfl (Le.bool (by simp only [Fr.valid,ix,iy,decide_eq_false hy0,Bool.and_false,Bool.false_and]))
    ·
     refine A2 ?_
     refine xb6 h39_4 rfl rfl (0) ti37 rfl rfl rfl (At.t (At.g 1 rfl rfl) (At.g 1 rfl rfl)) rfl ?_
     refine A5 ?_
     refine xa0 rfl (fun h39_5=> ?_) (fun h39_5=> ?_)
     ·
      have h5:(((wh y).l.length:Nat):Int)=0:=h39_5
      have hy0: ¬0 < y:=fun h=>by have:=len_nil.1 (show (wh y).l.length=0 by omega);omega
      refine A7 ?_
      exact x4 Plain.mk' rfl rfl (Le.bool (by simp only [Fr.valid,ix,iy,decide_eq_false hy0,Bool.and_false,Bool.false_and]))
     ·
      have h5: ¬(((wh y).l.length:Nat):Int)=0:=h39_5
      have hy0:0 < y:=pos_of_wh h39_4 (by omega)
      refine A6 ?_
      refine xe8 (0) ti37 rfl rfl rfl (At.t (At.g 0 rfl rfl) (At.g 1 rfl rfl)) rfl ?_
      refine A2 ?_
      refine xe8 (0) ti37 rfl rfl rfl (At.t (At.g 1 rfl rfl) (At.g 1 rfl rfl)) rfl (R2 (x3 (c_RCommon x.natAbs y.natAbs (by show len16 x≤4000;omega) (by show len16 y≤4000;omega)) fi138 rfl) rfl rfl (R1 (x3 (c_Rone _) fi137 rfl) rfl ?_))
      refine A4 ?_
      exact x4 Plain.mk' rfl rfl (Le.bool (by simp only [Fr.valid,ix,iy,hs,hv1,hv2,decide_eq_true hy0,Bool.true_and];exact one_dec2))
theorem c_R2ValidQ (q:Rat) (h:short q):Ct Tryz.prog 52 [tFr (fr q)] (tB true):=by
  have:=c_R2Valid (fr q) (xb4 x5 _) (xb4 x5 _)
  rw [valid_fr h] at this;exact this
theorem c_R2told (q:Rat):
  Ct Tryz.prog 258 [tFr (fr q)] (tT [tFr (resF q),tI (resFE q)]):=by
 refine Ct.intro Tryz.func258 rfl Tryz.ntmps258 rfl ?_
 intro w F
 refine A3 ?_
 refine RE (x8 (k:=2) (n:=4) (agg:=true) zr41.1 zr41.2 rfl) trivial trivial ⟨rfl,trivial⟩ ?_
 refine A7 ?_
 refine R1 (x3 (c_RFits (fr q)) fi136 rfl) rfl ?_
 refine A3 ?_
 refine xc1 rfl (fun h31=> ?_) (fun h31=> ?_)
 ·
  have hk: ¬short q:=by rw [sh_fr] at h31;simpa using h31
  refine A2 ?_
  refine R0 (xa3 (r:=tS [⟨2,true,(tS [⟨1,false,(tE (.bool false))⟩,⟨1,false,(tLm [])⟩])⟩,⟨2,true,(tS [⟨1,false,(tE (.bool false))⟩,⟨1,false,(tLm [])⟩])⟩]) (ts:=[]) bu41 zr41.2 ⟨_,rfl⟩ rfl Le.refl) ?_
  refine A6 ?_
  exact xa5 Plain.mk' (rs:=[.cell 2 41,.tmp 3]) rfl rfl ⟨⟨_,_,_,_,_,rfl,rfl,ti41,(Le.of (by rw [resF,if_neg hk];rfl))⟩,⟨_,rfl,(Le.int (by rw [resFE,if_neg hk]))⟩,trivial⟩
 ·
  have hk:short q:=by rw [sh_fr] at h31;simpa using h31
  refine A9 ?_
  refine A1 ?_
  exact xa5 Plain.mk' (rs:=[.cell 2 41,.tmp 3]) rfl rfl ⟨⟨_,_,_,_,_,rfl,rfl,ti41,(Le.of (by rw [resF,if_pos hk]))⟩,⟨_,rfl,(Le.int (by rw [resFE,if_pos hk]))⟩,trivial⟩
theorem c_R2Times (a b:Rat) (ha:short a) (hb:short b):
  Ct Tryz.prog 148 [tFr (fr a),tFr (fr b)] (tFr (fr (a*b))):=by
 obtain ⟨an,ad⟩:=ha
 obtain ⟨bn,bd⟩:=hb
 have ha:short a:=⟨an,ad⟩
 have hb:short b:=⟨bn,bd⟩
 have da:=a.den_nz
 have db:=b.den_nz
 have l1:=len16_mul an bn
 have l2:=len16_mul ad bd
 refine Ct.intro Tryz.func148 rfl Tryz.ntmps148 rfl ?_
 intro w F
 refine A4 ?_
 refine RE (x8 (k:=4) (n:=4) (agg:=true) zr41.1 zr41.2 rfl) trivial trivial ⟨rfl,trivial⟩ ?_
 refine A8 ?_
 refine R2 (x3 (c_RProduct a.num b.num (by omega) (by omega)) fi140 rfl) rfl rfl ?_
 refine A4 ?_
 refine R2 (x3 (c_RProduct (a.den:Int) (b.den:Int) (by omega) (by omega)) fi140 rfl) rfl rfl (R2 (x3 (c_RLowest (a.num*b.num) ((a.den:Int)*(b.den:Int)) (by omega) (by omega) (Int.mul_ne_zero (by omega) (by omega))) fi70 rfl) rfl rfl ?_)
 refine A4 ?_
 exact xb8 Plain.mk' rfl ⟨_,_,_,_,_,rfl,rfl,ti41,(Le.of (by rw [prod_fr]))⟩
theorem c_R2Mul (a b:Rat) (ha:short a) (hb:short b):
  Ct Tryz.prog 163 [tFr (fr a),tFr (fr b)] (tT [tFr (resF (a*b)),tI (resFE (a*b))]):=by
 refine Ct.intro Tryz.func163 rfl Tryz.ntmps163 rfl ?_
 intro w F
 refine A4 ?_
 refine RE (x8 (k:=4) (n:=4) (agg:=true) zr41.1 zr41.2 rfl) trivial trivial ⟨rfl,trivial⟩ ?_
 refine A7 ?_
 refine R1 (x3 (c_R2ValidQ a ha) fi52 rfl) rfl ?_
 refine A3 ?_
 refine RGon rfl rfl (x3 (c_R2ValidQ b hb) fi52 rfl) rfl ⟨rfl,trivial⟩ trivial trivial ?_
 refine A9 ?_
 refine A2 ?_
 refine R2 (x3 (c_R2Times a b ha hb) fi148 rfl) rfl rfl (R1 (x3 (c_R2told (a*b)) fi258 rfl) rfl ?_)
 refine A7 ?_
 exact xa5 Plain.mk' (rs:=[.cell 4 41,.tmp 5]) rfl rfl ⟨⟨_,_,_,_,_,rfl,rfl,ti41,Le.refl⟩,⟨_,rfl,Le.refl⟩,trivial⟩
theorem c_R2Order (a b:Rat) (ha:short a) (hb:short b):
  Ct Tryz.prog 53 [tFr (fr a),tFr (fr b)] (tI (cmpQ a b)):=by
 obtain ⟨an,ad⟩:=ha
 obtain ⟨bn,bd⟩:=hb
 have ha:short a:=⟨an,ad⟩
 have hb:short b:=⟨bn,bd⟩
 have da:=a.den_nz
 have db:=b.den_nz
 have l1:=len16_mul an bd
 have l2:=len16_mul bn ad
 refine Ct.intro Tryz.func53 rfl Tryz.ntmps53 rfl ?_
 intro w F
 refine A9 ?_
 refine A4 ?_
 refine R2 (x3 (c_RProduct a.num (b.den:Int) (by omega) (by omega)) fi140 rfl) rfl rfl ?_
 refine A4 ?_
 refine R2 (x3 (c_RProduct b.num (a.den:Int) (by omega) (by omega)) fi140 rfl) rfl rfl (R2 (x3 (c_ROrder (a.num*(b.den:Int)) (b.num*(a.den:Int)) (by omega) (by omega)) fi139 rfl) rfl rfl ?_)
 refine A4 ?_
 exact x4 Plain.mk' rfl rfl (Le.int (cmpQ_eq a b))
theorem c_R2FromInt (n:Int) (h1: -9223372036854775808≤n) (h2:n≤9223372036854775807):
  Ct Tryz.prog 23 [tI n] (tFr (fr (n:Rat))):=by
 refine Ct.intro Tryz.func23 rfl Tryz.ntmps23 rfl ?_
 intro w F
 refine A2 ?_
 refine RE (x8 (k:=2) (n:=4) (agg:=true) zr41.1 zr41.2 rfl) trivial trivial ⟨rfl,trivial⟩ ?_
 refine A5 ?_
 refine R1 (x3 (c_RFromInt n h1 h2) fi71 rfl) rfl (R1 (x3 (c_RFromInt 1 (by decide) (by decide)) fi71 rfl) rfl (R2 (xa3 (r:=tS [⟨2,true,tWh (wh n)⟩,⟨2,true,tWh (wh 1)⟩]) (ts:=[(0,tWh (wh n)),(1,tWh (wh 1))]) bu41 zr41.2 ⟨_,rfl⟩ rfl ⟨_,_,_,_,rfl,Up.f (fs:=[⟨2,true,(tS [⟨1,false,(tE (.bool false))⟩,⟨1,false,(tLm [])⟩])⟩,⟨2,true,(tS [⟨1,false,(tE (.bool false))⟩,⟨1,false,(tLm [])⟩])⟩]) (f:=⟨2,true,(tS [⟨1,false,(tE (.bool false))⟩,⟨1,false,(tLm [])⟩])⟩) (fs':=[⟨2,true,tWh (wh n)⟩,⟨2,true,(tS [⟨1,false,(tE (.bool false))⟩,⟨1,false,(tLm [])⟩])⟩]) 0 rfl rfl rfl,inferInstance,⟨_,_,_,_,rfl,Up.f (fs:=[⟨2,true,tWh (wh n)⟩,⟨2,true,(tS [⟨1,false,(tE (.bool false))⟩,⟨1,false,(tLm [])⟩])⟩]) (f:=⟨2,true,(tS [⟨1,false,(tE (.bool false))⟩,⟨1,false,(tLm [])⟩])⟩) (fs':=[⟨2,true,tWh (wh n)⟩,⟨2,true,tWh (wh 1)⟩]) 1 rfl rfl rfl,inferInstance,Le.refl⟩⟩) rfl rfl ?_))
 refine A4 ?_
 exact xb8 Plain.mk' rfl ⟨_,_,_,_,_,rfl,rfl,ti41,(Le.of (by rw [fr,Rat.num_intCast,Rat.den_intCast];rfl))⟩
end An.S

/- What is lent to a call: steps; whether it is kept; what is written over it. -/
namespace An.S
open Go Go.Proofs An
set_option maxHeartbeats 2000000
set_option maxRecDepth 100000
instance fi75:FnI Tryz.prog 75:=⟨_,Tryz.func75,by kernel_rfl,rfl⟩
instance fi120:FnI Tryz.prog 120:=⟨_,Tryz.func120,by kernel_rfl,rfl⟩
instance fi146:FnI Tryz.prog 146:=⟨_,Tryz.func146,by kernel_rfl,rfl⟩
instance fi157:FnI Tryz.prog 157:=⟨_,Tryz.func157,by kernel_rfl,rfl⟩
instance fi158:FnI Tryz.prog 158:=⟨_,Tryz.func158,by kernel_rfl,rfl⟩
instance fi159:FnI Tryz.prog 159:=⟨_,Tryz.func159,by kernel_rfl,rfl⟩
instance fi257:FnI Tryz.prog 257:=⟨_,Tryz.func257,by kernel_rfl,rfl⟩
/-- The marks behind lent limbs. -/
def mk16:List Nat:=(List.range 12).map fun i=>(8000024+i)%65536
theorem mk16_len:mk16.length=12:=rfl
theorem mk16_at {j:Nat} (h:j < 12):mk16.getD j 0=(8000024+j)%65536:=by
  have: ∀j,j < 12→mk16.getD j 0=(8000024+j)%65536:=by decide
  exact this j h
theorem mk16_take {i:Nat} (h:i < 12):mk16.take (i+1)=mk16.take i++[(8000024+i)%65536]:=by
  rw [List.take_succ_eq_append_getElem (by rw [mk16_len];exact h)]
  congr 2
  have:=mk16_at h
  rw [List.getD_eq_getElem?_getD,List.getElem?_eq_getElem (by rw [mk16_len];exact h)] at this
  exact this
theorem cutM {i:Nat}:IntKind.u16.wrap (1000003*(1+7)+(i:Int))=(((8000024+i)%65536:Nat):Int):=by rw [mu16];omega
abbrev tLmK (l:List Nat):Ty:=tLK 1 false (fun n:Nat=>tE (.int .u16 (n:Int))) l mk16
abbrev tWhK (x:Wh):Ty:=tS [⟨1,false,tB x.neg⟩,⟨1,false,tLmK x.l⟩]
abbrev tFrK (f:Fr):Ty:=tS [⟨2,true,tWhK f.n⟩,⟨2,true,tWhK f.d⟩]
abbrev tVaK (v:Va):Ty:=tS [⟨1,false,tE (.int .u8 (v.kind:Int))⟩,⟨4,true,tFrK v.f⟩,⟨1,false,tI v.i⟩]
theorem whK_le {x:Wh}:Le (tWhK x) (tWh x):=Le.tS ⟨⟨rfl,rfl,Le.refl⟩,⟨rfl,rfl,tLK_le⟩,trivial⟩
theorem frK_le {f:Fr}:Le (tFrK f) (tFr f):=Le.tS ⟨⟨rfl,rfl,whK_le⟩,⟨rfl,rfl,whK_le⟩,trivial⟩
theorem vaK_le {v:Va}:Le (tVaK v) (tVa v):=Le.tS ⟨⟨rfl,rfl,Le.refl⟩,⟨rfl,rfl,frK_le⟩,⟨rfl,rfl,Le.refl⟩,trivial⟩
theorem app_l {l m:List Nat} {i:Nat} (h:i < l.length):(l++m).getD i 0=l.getD i 0:=by
  rw [List.getD_eq_getElem?_getD,List.getElem?_append_left h,←List.getD_eq_getElem?_getD]
theorem app_r {l m:List Nat} {i:Nat} (h:l.length≤i):(l++m).getD i 0=m.getD (i - l.length) 0:=by
  rw [List.getD_eq_getElem?_getD,List.getElem?_append_right h,←List.getD_eq_getElem?_getD]
theorem c_mark1 (i:Nat) (h:i < 12):
  Ct Tryz.prog 146 [tI 1,tI i] (tI (1000003*(1+7)+(i:Int))):=by
 refine Ct.intro Tryz.func146 rfl Tryz.ntmps146 rfl ?_
 intro w F
 refine A9 ?_
 refine R2 (d_mul (wr64 (by omega) (by omega))) rfl rfl ?_
 refine A6 ?_
 exact x4 Plain.mk' rfl rfl Le.refl
abbrev tLmW (l:List Nat):Ty:=tLW 64 1 false (fun n:Nat=>tE (.int .u16 (n:Int))) l mk16
abbrev tWhW (x:Wh):Ty:=tS [⟨1,false,tB x.neg⟩,⟨1,false,tLmW x.l⟩]
abbrev tFrW (f:Fr):Ty:=tS [⟨2,true,tWhW f.n⟩,⟨2,true,tWhW f.d⟩]
abbrev tVaW (v:Va):Ty:=tS [⟨1,false,tE (.int .u8 (v.kind:Int))⟩,⟨4,true,tFrW v.f⟩,⟨1,false,tI v.i⟩]
abbrev tTsW (s:Tst):Ty:=tS [⟨1,false,tI s.lo⟩,⟨1,false,tI s.hi⟩,⟨6,true,tVaW s.v⟩]
theorem whWK {x:Wh}:Le (tWhW x) (tWhK x):=Le.tS ⟨⟨rfl,rfl,Le.refl⟩,⟨rfl,rfl,tLW_le⟩,trivial⟩
theorem frWK {f:Fr}:Le (tFrW f) (tFrK f):=Le.tS ⟨⟨rfl,rfl,whWK⟩,⟨rfl,rfl,whWK⟩,trivial⟩
theorem vaWK {v:Va}:Le (tVaW v) (tVaK v):=Le.tS ⟨⟨rfl,rfl,Le.refl⟩,⟨rfl,rfl,frWK⟩,⟨rfl,rfl,Le.refl⟩,trivial⟩
theorem vaW_le {v:Va}:Le (tVaW v) (tVa v):=Le.trans vaWK vaK_le
theorem tsW_le {s:Tst}:Le (tTsW s) (tTs s):=Le.tS ⟨⟨rfl,rfl,Le.refl⟩,⟨rfl,rfl,Le.refl⟩,⟨rfl,rfl,vaW_le⟩,trivial⟩
/-- A lent step, or a mark behind them. -/
abbrev tTsM (x:Tst×Bool):Ty:=cond x.2 (tTsW x.1) (tTs x.1)
instance {x:Tst×Bool}:Shape (tTsM x) 8 true:=by
  obtain ⟨s,b⟩:=x
  cases b
  · exact (inferInstance:Shape (tTs s) 8 true)
  · exact (inferInstance:Shape (tTsW s) 8 true)
theorem tsM_le {x:Tst×Bool}:Le (tTsM x) (tTs x.1):=by
  obtain ⟨s,b⟩:=x
  cases b
  · exact Le.refl
  · exact tsW_le
def va00:Va:=⟨0,fr0,0⟩
def smk (k i:Nat):Tst:=⟨1000003*((k:Int)+7)+(i:Int),0,va00⟩
def mkT:List Tst:=(List.range 12).map (smk 1)
theorem mkT_len:mkT.length=12:=rfl
theorem mkT_at {j:Nat} (h:j < 12):mkT.getD j tst0=smk 1 j:=by
  have hl:j < mkT.length:=by rw [mkT_len];exact h
  rw [List.getD_eq_getElem?_getD,List.getElem?_eq_getElem hl,Option.getD_some]
  simp [mkT]
theorem mkT_take {i:Nat} (h:i < 12):mkT.take (i+1)=mkT.take i++[smk 1 i]:=by
  rw [List.take_succ_eq_append_getElem (by rw [mkT_len];exact h)]
  congr 2
  have:=mkT_at h
  rw [List.getD_eq_getElem?_getD,List.getElem?_eq_getElem (by rw [mkT_len];exact h)] at this
  exact this
/-- Lent steps and the marks behind them. -/
def lmT (l:List Tst):List (Tst×Bool):=l.map (·,true)
def mmT (m:List Tst):List (Tst×Bool):=m.map (·,false)
abbrev tStW (l:List Tst):Ty:=tLW 59 8 true tTsM (lmT l) (mmT mkT)
theorem xg6 {l:List Tst}:(lmT l).length=l.length:=List.length_map ..
theorem mmT_len {l:List Tst}:(mmT l).length=l.length:=List.length_map ..
theorem lmT_take {l:List Tst} {i:Nat} (h:i < l.length):lmT (l.take (i+1))=lmT (l.take i)++[(l.getD i tst0,true)]:=by
  rw [lmT,lmT,List.take_succ_eq_append_getElem h,List.map_append,List.getD_eq_getElem?_getD,List.getElem?_eq_getElem h];rfl
theorem mmT_snoc {l:List Tst} {x:Tst}:mmT (l++[x])=mmT l++[(x,false)]:=by rw [mmT,List.map_append];rfl
def tm0:Tst×Bool:=(tst0,false)
theorem lm_l {l m:List Tst} {i:Nat} (h:i < l.length):(lmT l++mmT m).getD i tm0=(l.getD i tst0,true):=by
  rw [List.getD_eq_getElem?_getD,List.getElem?_append_left (by rw [xg6];exact h),lmT,List.getElem?_map,List.getElem?_eq_getElem h,List.getD_eq_getElem?_getD,List.getElem?_eq_getElem h];rfl
theorem lm_r {l m:List Tst} {i:Nat} (h:l.length≤i) (h2:i - l.length < m.length):(lmT l++mmT m).getD i tm0=(m.getD (i - l.length) tst0,false):=by
  rw [List.getD_eq_getElem?_getD,List.getElem?_append_right (by rw [xg6];exact h),xg6,mmT,List.getElem?_map,List.getElem?_eq_getElem h2,List.getD_eq_getElem?_getD,List.getElem?_eq_getElem h2];rfl
theorem va00N {G:Dom}:Le (tVa va00) (tG G (tVa va00)):=leG_S ⟨⟨rfl,rfl,tG_E⟩,⟨rfl,rfl,fr0N⟩,⟨rfl,rfl,tG_E⟩,trivial⟩
theorem stW_le {l:List Tst}:Le (tStW l) (tL 8 true tTs l):=fun F w v h=>by
  obtain ⟨A,c,h1,h2,h3,h4⟩:=le_L (fun x=>tsM_le) _ _ _ (tLW_leL _ _ _ h)
  rw [xg6] at h1 h2
  refine ⟨A,c,h1,h2,h3,h4.imp (fun h=>by rw [lmT] at h;exact List.map_eq_nil_iff.1 h) fun ⟨b,o,e,hb,hx⟩=>⟨b,o,e,hb,fun i x hi=>hx i (x,true) (by rw [lmT,List.getElem?_map,hi];rfl)⟩⟩
theorem c_LentLimbsN (l:List Nat) (hl:l.length≤1048576):
    CtN Tryz.prog 257 [tLm l] (fun nw=>tG (up nw) (tLmW l)):=by
  refine CtN.intro Tryz.func257 rfl Tryz.ntmps257 rfl ?_
  intro w F
  refine A9 ?_
  refine A1 ?_
  refine RE (d_makeO (k:=8) (t:=tE (.int .u16 0)) (ts:=([]:List Ent)) (0) (l.length+12) Tryz.underlying37 el64 (fun _ _=>rfl) rfl (by omega) (by omega) (by omega) (by omega) (by omega) rfl) ⟨rfl,rfl,trivial⟩ trivial ⟨rfl,trivial⟩ ?_
  refine A7 ?_
  refine RE (xb9 (k:=8) (k':=11) (ys:=l) (ts':=rW .u16 l) Tryz.underlying37 el64 zf64 rfl rfl (fun _=>inferInstance) rfl (by simp;omega) (by simp;omega) (by simp [rW]) (n':=l.length) (by simp)) ⟨rfl,rfl,trivial⟩ ⟨rfl,trivial⟩ ⟨rfl,trivial⟩ ?_
  refine A9 ?_
  refine A1 ?_
  refine cL (fun (i:Nat)=>i≤12) (fun (i:Nat)=>upd (upd (upd (fun _=>none) 0 (some (.val (tLm l)))) 3 (some (.own (.sl 11 1 0 (l.length+i))))) 4 (some (.val (tI i)))) (fun (i:Nat)=>upd (fun _=>none) 11 (some (⟨64,1,false,rW .u16 (l++mk16.take i)⟩))) [11] (fun (i:Nat)=>12 - i) (0) (Nat.zero_le _) (hh:=((SubK.consI rfl (ImpK.of (by rw [List.take_zero,List.append_nil]))) SubK.nil)) ?_
  intro i hI
  have htl:(l++mk16.take i).length=l.length+i:=by rw [List.length_append,List.length_take,mk16_len];omega
  refine A7 ?_
  refine xa0 rfl (fun h64=> ?_) (fun h64=> ?_)
  ·
    refine A7 ?_
    refine R2 (x3 (c_mark1 i (by omega)) fi146 rfl) rfl rfl ?_
    refine R1 (x6 Tryz.underlying64 (isS Tryz.underlying3) cutM) rfl ?_
    refine R1 (d_nums (n:=1) [((8000024+i)%65536)] Tryz.underlying37 el64 zf64 rfl rfl rfl) rfl ?_
    refine RE (xb9 (k:=11) (k':=21) (ys:=[((8000024+i)%65536)]) (ts':=rW .u16 (l++mk16.take i++[((8000024+i)%65536)])) Tryz.underlying37 el64 zf64 rfl rfl (fun _=>inferInstance) (rW_len.trans htl) (by simp;omega) (by simp;omega) (by simp [rW]) (n':=l.length+i+1) rfl) ⟨rfl,rfl,trivial⟩ ⟨rfl,trivial⟩ ⟨rfl,trivial⟩ ?_
    refine A9 ?_
    exact xe7 (l:=[11]) (fun j=>cond (Nat.beq j 11) 21 (j)) (i+1) ⟨(by omega),(by omega)⟩ (SubR.int rfl (by first | omega | rfl | (dsimp only;omega)) (SubR.cons rfl (SubR.cons rfl SubR.nil))) ((SubKR.consI rfl (ImpK.of (by rw [mk16_take (by omega),←List.append_assoc];exact xf5.symm))) SubKR.nil) (SupG.val (SupG.own rfl (SupG.val SupG.nil))) (SupH.cons rfl (supJ xc7) SupH.nil) (lkOk rfl) rfl rfl (fun _ h=>by cases h)
  ·
    refine A9 ?_
    refine A1 ?_
    refine RE (d_keepOW (k:=11) (f:=fun n:Nat=>tE (.int .u16 (n:Int))) (xs:=l) (ms:=mk16) (up w.heap.size) (fun _ h=>h) sl37 (fun _ h=>h) (fun _ _=>tG_E) (by rw [rW,show i=12 by omega,show mk16.take 12=mk16 from rfl]) (by rw [mk16_len];omega) (by omega) rfl) ⟨rfl,rfl,trivial⟩ ⟨rfl,trivial⟩ trivial ?_
    refine A4 ?_
    exact x4 Plain.mk' rfl rfl Le.refl
theorem c_KeptLimbs (l:List Nat) (hl:l.length≤1048576):
  Ct Tryz.prog 260 [tLmK l,tLm l] (tB true):=by
 have hml:(l++mk16).length=l.length+12:=by rw [List.length_append,mk16_len]
 refine Ct.intro Tryz.func260 rfl Tryz.ntmps260 rfl ?_
 intro w F
 refine A9 ?_
 refine R1 (d_lenK Tryz.underlying37) rfl ?_
 refine A5 ?_
 refine C_bF rfl (decide_eq_false (by omega)) ?_
 refine A8 ?_
 refine R2 (d_sliceK sl37 (by rw [mk16_len];omega)) rfl rfl ?_
 refine A9 ?_
 refine A1 ?_
 refine cL (fun (i:Nat)=>i≤(l++mk16).length) (fun (i:Nat)=>upd (upd (upd (fun _=>none) 1 (some (.val (tLm l)))) 5 (some (.val (tLm (l++mk16))))) 6 (some (.val (tI i)))) (fun (i:Nat)=>fun _=>none) [] (fun (i:Nat)=>(l++mk16).length - i) (0) (Nat.zero_le _) ?_
 intro i hI
 refine A9 ?_
 refine xa0 rfl (fun h75=> ?_) (fun h75=> ?_)
 ·
  refine A9 ?_
  refine A2 ?_
  refine RGcaseD (t:=27) rfl (fun h76=> ?_) (fun h76=> ?_)
  ·
   refine A2 ?_
   refine RGon (decide_eq_true h76) rfl (x7 sl37 (i) (by omega) (gN (by omega))) rfl ⟨rfl,rfl,trivial⟩ trivial trivial ?_
   refine A3 ?_
   refine RGon (decide_eq_true h76) rfl (x7 sl37 (i) (by omega) (gN (by omega))) rfl ⟨rfl,rfl,trivial⟩ trivial trivial ?_
   refine A5 ?_
   refine RGon (xb3 (by rw [app_l (by omega)])) rfl xe0 rfl ⟨rfl,trivial⟩ trivial trivial (RGon (xb3 (by rw [app_l (by omega)])) rfl xe0 rfl ⟨rfl,trivial⟩ trivial trivial (RGon (xb3 (by rw [app_l (by omega)])) rfl (d_len Tryz.underlying37) rfl ⟨rfl,trivial⟩ trivial trivial (RGon (xb3 (by rw [app_l (by omega)])) rfl d_geq rfl ⟨rfl,rfl,trivial⟩ trivial trivial (RGon (xb3 (by rw [app_l (by omega)])) rfl xe0 rfl ⟨rfl,trivial⟩ trivial trivial (RGoff (decide_eq_false (by omega)) rfl rfl (RGoff (decide_eq_false (by omega)) rfl rfl (RGoff (decide_eq_false (by omega)) rfl rfl ?_)))))))
   refine RGoff (decide_eq_false (by omega)) rfl rfl (RGoff (decide_eq_false (by omega)) rfl rfl (RGoff (decide_eq_false (by omega)) rfl rfl (RGoff (decide_eq_false (by omega)) rfl rfl (RGoff (decide_eq_false (by omega)) rfl rfl (RGoff (decide_eq_false (by omega)) rfl rfl (RGoff (decide_eq_false (by omega)) rfl rfl (RGoff (decide_eq_false (by omega)) rfl rfl ?_)))))))
   refine RGoff (decide_eq_false (by omega)) rfl rfl (RGon (xb3 (by rw [app_l (by omega)])) rfl (xf6 (decide_eq_false (by omega))) rfl ⟨rfl,rfl,trivial⟩ trivial trivial (R2 (xf6 (xb3 (by rw [app_l (by omega)]))) rfl rfl ?_))
   refine A9 ?_
   refine A2 ?_
   exact kF (i+1) ⟨(by omega),(by omega)⟩
  ·
   refine A9 ?_
   refine A8 ?_
   refine RGon (decide_eq_true (by omega)) rfl xe0 rfl ⟨rfl,trivial⟩ trivial trivial (RGon (decide_eq_true (by omega)) rfl xe0 rfl ⟨rfl,trivial⟩ trivial trivial (RGon (decide_eq_true (by omega)) rfl (x7 sl37 (i) (by omega) (gN (by omega))) rfl ⟨rfl,rfl,trivial⟩ trivial trivial (RGon (decide_eq_true (by omega)) rfl (d_loadP ti64) rfl ⟨rfl,trivial⟩ trivial trivial (RGon (decide_eq_true (by omega)) rfl xe0 rfl ⟨rfl,trivial⟩ trivial trivial (RGon (decide_eq_true (by omega)) rfl xe0 rfl ⟨rfl,trivial⟩ trivial trivial (RGon (decide_eq_true (by omega)) rfl (d_len Tryz.underlying37) rfl ⟨rfl,trivial⟩ trivial trivial (RGon (decide_eq_true (by omega)) rfl (xd7 (r:=((i - l.length:Nat):Int)) (by rw [wr64 (by omega) (by omega)];omega)) rfl ⟨rfl,rfl,trivial⟩ trivial trivial ?_)))))))
   refine RGon (decide_eq_true (by omega)) rfl (x3 (c_mark1 (i - l.length) (by omega)) fi146 rfl) rfl ⟨rfl,rfl,trivial⟩ trivial trivial (RGon (decide_eq_true (by omega)) rfl (x6 Tryz.underlying64 (isS Tryz.underlying3) cutM) rfl ⟨rfl,trivial⟩ trivial trivial (RGon (decide_eq_true (by omega)) rfl d_eql rfl ⟨rfl,rfl,trivial⟩ trivial trivial (RGon (decide_eq_true (by omega)) rfl d_not rfl ⟨rfl,trivial⟩ trivial trivial (RGon rfl rfl (d_pickT (decide_eq_true (by omega))) rfl ⟨rfl,rfl,trivial⟩ trivial trivial ?_))))
   refine A3 ?_
   refine C_bF rfl (xb3 (by rw [app_r (by omega),mk16_at (by omega)])) ?_
   refine A8 ?_
   exact kF (i+1) ⟨(by omega),(by omega)⟩
 ·
  refine A9 ?_
  refine A2 ?_
  exact x4 Plain.mk' rfl rfl Le.refl
theorem c_LentWholeN (x:Wh) (hl:x.l.length≤1048576):
    CtN Tryz.prog 159 [tWh x] (fun nw=>tG (up nw) (tWhW x)):=by
  refine CtN.intro Tryz.func159 rfl Tryz.ntmps159 rfl ?_
  intro w F
  refine A3 ?_
  refine RE (x8 (k:=2) (n:=2) (agg:=true) zr39.1 zr39.2 rfl) trivial trivial ⟨rfl,trivial⟩ ?_
  refine A6 ?_
  refine R1 (xe2 (ts:=[_]) (r:=tG (up w.heap.size) _) (c_LentLimbsN x.l hl) fi257 (fun m hm=>tG_up hm) ⟨Le.refl,trivial⟩ rfl) rfl ?_
  refine A1 ?_
  refine xh5 (0) ti37 rfl rfl rfl rfl (Up.g 1 rfl rfl rfl) rfl rfl ?_
  refine A3 ?_
  refine C_key (k:=1) (e':=⟨39,2,true,[.val (tS [⟨1,false,tB x.neg⟩,⟨1,false,tG (up w.heap.size) (tLmW x.l)⟩])]⟩) rfl rfl ?_
  refine A6 ?_
  exact xb8 Plain.mk' rfl ⟨_,_,_,_,_,rfl,rfl,ti39,(leG_S ⟨⟨rfl,rfl,tG_E⟩,⟨rfl,rfl,Le.refl⟩,trivial⟩)⟩
theorem c_LentFracN (f:Fr) (h1:f.n.l.length≤1048576) (h2:f.d.l.length≤1048576):
    CtN Tryz.prog 75 [tFr f] (fun nw=>tG (up nw) (tFrW f)):=by
  refine CtN.intro Tryz.func75 rfl Tryz.ntmps75 rfl ?_
  intro w F
  refine A3 ?_
  refine RE (x8 (k:=2) (n:=4) (agg:=true) zr41.1 zr41.2 rfl) trivial trivial ⟨rfl,trivial⟩ ?_
  refine A6 ?_
  refine R1 (xe2 (ts:=[_]) (r:=tG (up w.heap.size) _) (c_LentWholeN f.n h1) fi159 (fun m hm=>tG_up hm) ⟨Le.refl,trivial⟩ rfl) rfl ?_
  refine A1 ?_
  refine xh5 (0) ti39 rfl rfl rfl rfl (Up.g 0 rfl rfl rfl) rfl rfl ?_
  refine A6 ?_
  refine R1 (xe2 (ts:=[_]) (r:=tG (up w.heap.size) _) (c_LentWholeN f.d h2) fi159 (fun m hm=>tG_up hm) ⟨Le.refl,trivial⟩ rfl) rfl ?_
  refine A1 ?_
  refine xh5 (0) ti39 rfl rfl rfl rfl (Up.g 1 rfl rfl rfl) rfl rfl ?_
  refine A3 ?_
  refine C_key (k:=1) (e':=⟨41,4,true,[.val (tS [⟨2,true,tG (up w.heap.size) (tWhW f.n)⟩,⟨2,true,tG (up w.heap.size) (tWhW f.d)⟩])]⟩) rfl rfl ?_
  refine A6 ?_
  exact xb8 Plain.mk' rfl ⟨_,_,_,_,_,rfl,rfl,ti41,(leG_S ⟨⟨rfl,rfl,Le.refl⟩,⟨rfl,rfl,Le.refl⟩,trivial⟩)⟩
theorem c_LentValueN (v:Va) (h1:v.f.n.l.length≤1048576) (h2:v.f.d.l.length≤1048576):
    CtN Tryz.prog 120 [tVa v] (fun nw=>tG (up nw) (tVaW v)):=by
  refine CtN.intro Tryz.func120 rfl Tryz.ntmps120 rfl ?_
  intro w F
  refine A3 ?_
  refine RE (x8 (k:=2) (n:=6) (agg:=true) zr57.1 zr57.2 rfl) trivial trivial ⟨rfl,trivial⟩ ?_
  refine A6 ?_
  refine R1 (xe2 (ts:=[_]) (r:=tG (up w.heap.size) _) (c_LentFracN v.f h1 h2) fi75 (fun m hm=>tG_up hm) ⟨Le.refl,trivial⟩ rfl) rfl ?_
  refine A1 ?_
  refine xh5 (0) ti41 rfl rfl rfl rfl (Up.g 1 rfl rfl rfl) rfl rfl ?_
  refine A3 ?_
  refine C_key (k:=1) (e':=⟨57,6,true,[.val (tS [⟨1,false,tE (.int .u8 (v.kind:Int))⟩,⟨4,true,tG (up w.heap.size) (tFrW v.f)⟩,⟨1,false,tI v.i⟩])]⟩) rfl rfl ?_
  refine A6 ?_
  exact xb8 Plain.mk' rfl ⟨_,_,_,_,_,rfl,rfl,ti57,(leG_S ⟨⟨rfl,rfl,tG_E⟩,⟨rfl,rfl,Le.refl⟩,⟨rfl,rfl,tG_E⟩,trivial⟩)⟩
theorem c_LentStepN (s:Tst) (h1:s.v.f.n.l.length≤1048576) (h2:s.v.f.d.l.length≤1048576):
    CtN Tryz.prog 157 [tTs s] (fun nw=>tG (up nw) (tTsW s)):=by
  refine CtN.intro Tryz.func157 rfl Tryz.ntmps157 rfl ?_
  intro w F
  refine A3 ?_
  refine RE (x8 (k:=2) (n:=8) (agg:=true) zr59.1 zr59.2 rfl) trivial trivial ⟨rfl,trivial⟩ ?_
  refine A6 ?_
  refine R1 (xe2 (ts:=[_]) (r:=tG (up w.heap.size) _) (c_LentValueN s.v h1 h2) fi120 (fun m hm=>tG_up hm) ⟨Le.refl,trivial⟩ rfl) rfl ?_
  refine A1 ?_
  refine xh5 (0) ti57 rfl rfl rfl rfl (Up.g 2 rfl rfl rfl) rfl rfl ?_
  refine A3 ?_
  refine C_key (k:=1) (e':=⟨59,8,true,[.val (tS [⟨1,false,tI s.lo⟩,⟨1,false,tI s.hi⟩,⟨6,true,tG (up w.heap.size) (tVaW s.v)⟩])]⟩) rfl rfl ?_
  refine A6 ?_
  exact xb8 Plain.mk' rfl ⟨_,_,_,_,_,rfl,rfl,ti59,(leG_S ⟨⟨rfl,rfl,tG_E⟩,⟨rfl,rfl,tG_E⟩,⟨rfl,rfl,Le.refl⟩,trivial⟩)⟩
theorem c_markK (k i:Nat) (hk:k < 1000) (hi:i < 10000000):
  Ct Tryz.prog 146 [tI k,tI i] (tI (1000003*((k:Int)+7)+(i:Int))):=by
 refine Ct.intro Tryz.func146 rfl Tryz.ntmps146 rfl ?_
 intro w F
 refine A9 ?_
 refine R2 (d_mul (wr64 (by omega) (by omega))) rfl rfl ?_
 refine A6 ?_
 exact x4 Plain.mk' rfl rfl Le.refl
theorem c_markStep (k i:Nat) (hk:k < 1000) (hi:i < 10000000):
    CtN Tryz.prog 158 [tI k,tI i] (fun nw=>tG (up nw) (tTs (smk k i))):=by
  refine CtN.intro Tryz.func158 rfl Tryz.ntmps158 rfl ?_
  intro w F
  refine A2 ?_
  refine RE (x8 (k:=4) (n:=8) (agg:=true) zr59.1 zr59.2 rfl) trivial trivial ⟨rfl,trivial⟩ ?_
  refine A6 ?_
  refine R2 (x3 (c_markK k i hk hi) fi146 rfl) rfl rfl ?_
  refine R1 (xa3 (r:=tS [⟨1,false,tI (1000003*((k:Int)+7)+(i:Int))⟩,⟨1,false,(tE (.int .i64 0))⟩,⟨6,true,(tS [⟨1,false,(tE (.int .u8 0))⟩,⟨4,true,(tS [⟨2,true,(tS [⟨1,false,(tE (.bool false))⟩,⟨1,false,(tLm [])⟩])⟩,⟨2,true,(tS [⟨1,false,(tE (.bool false))⟩,⟨1,false,(tLm [])⟩])⟩])⟩,⟨1,false,(tE (.int .i64 0))⟩])⟩]) (ts:=[(0,tI (1000003*((k:Int)+7)+(i:Int)))]) bu59 zr59.2 ⟨_,rfl⟩ rfl ⟨_,_,_,_,rfl,Up.f (fs:=[⟨1,false,(tE (.int .i64 0))⟩,⟨1,false,(tE (.int .i64 0))⟩,⟨6,true,(tS [⟨1,false,(tE (.int .u8 0))⟩,⟨4,true,(tS [⟨2,true,(tS [⟨1,false,(tE (.bool false))⟩,⟨1,false,(tLm [])⟩])⟩,⟨2,true,(tS [⟨1,false,(tE (.bool false))⟩,⟨1,false,(tLm [])⟩])⟩])⟩,⟨1,false,(tE (.int .i64 0))⟩])⟩]) (f:=⟨1,false,(tE (.int .i64 0))⟩) (fs':=[⟨1,false,tI (1000003*((k:Int)+7)+(i:Int))⟩,⟨1,false,(tE (.int .i64 0))⟩,⟨6,true,(tS [⟨1,false,(tE (.int .u8 0))⟩,⟨4,true,(tS [⟨2,true,(tS [⟨1,false,(tE (.bool false))⟩,⟨1,false,(tLm [])⟩])⟩,⟨2,true,(tS [⟨1,false,(tE (.bool false))⟩,⟨1,false,(tLm [])⟩])⟩])⟩,⟨1,false,(tE (.int .i64 0))⟩])⟩]) 0 rfl rfl rfl,inferInstance,Le.refl⟩) rfl ?_
  refine A4 ?_
  exact xb8 Plain.mk' rfl ⟨_,_,_,_,_,rfl,rfl,ti59,(leG_S ⟨⟨rfl,rfl,tG_E⟩,⟨rfl,rfl,tG_E⟩,⟨rfl,rfl,va00N⟩,trivial⟩)⟩
theorem c_LentStepsN (l:List Tst) (hl:l.length≤60) (hs: ∀s∈l,s.v.f.n.l.length≤1048576∧s.v.f.d.l.length≤1048576):
    CtN Tryz.prog 74 [tL 8 true tTs l] (fun nw=>tG (up nw) (tStW l)):=by
  refine CtN.intro Tryz.func74 rfl Tryz.ntmps74 rfl ?_
  intro w F
  refine A9 ?_
  refine A1 ?_
  refine RE (d_makeO (k:=10) (t:=(tS [⟨1,false,(tE (.int .i64 0))⟩,⟨1,false,(tE (.int .i64 0))⟩,⟨6,true,(tS [⟨1,false,(tE (.int .u8 0))⟩,⟨4,true,(tS [⟨2,true,(tS [⟨1,false,(tE (.bool false))⟩,⟨1,false,(tLm [])⟩])⟩,⟨2,true,(tS [⟨1,false,(tE (.bool false))⟩,⟨1,false,(tLm [])⟩])⟩])⟩,⟨1,false,(tE (.int .i64 0))⟩])⟩])) (ts:=([]:List Ent)) (0) (l.length+12) Tryz.underlying51 el59 (fun _ _=>⟨_,rfl,rfl,⟨fun _=>rfl,rfl⟩,⟨fun _=>rfl,rfl⟩,⟨fun h=>Bool.noConfusion h,⟨_,rfl,rfl,⟨fun _=>rfl,rfl⟩,⟨fun h=>Bool.noConfusion h,⟨_,rfl,rfl,⟨fun h=>Bool.noConfusion h,⟨_,rfl,rfl,⟨fun _=>rfl,rfl⟩,⟨fun _=>rfl,⟨none,0,rfl,Nat.le_refl _,by decide,.inl rfl⟩⟩,trivial⟩⟩,⟨fun h=>Bool.noConfusion h,⟨_,rfl,rfl,⟨fun _=>rfl,rfl⟩,⟨fun _=>rfl,⟨none,0,rfl,Nat.le_refl _,by decide,.inl rfl⟩⟩,trivial⟩⟩,trivial⟩⟩,⟨fun _=>rfl,rfl⟩,trivial⟩⟩,trivial⟩) rfl (by omega) (by omega) (by omega) (by omega) (by omega) rfl) ⟨rfl,rfl,trivial⟩ trivial ⟨rfl,trivial⟩ ?_
  refine A9 ?_
  refine A1 ?_
  refine cL (fun (i:Nat)=>i≤l.length) (fun (i:Nat)=>upd (upd (upd (fun _=>none) 0 (some (.val (tL 8 true tTs l)))) 3 (some (.own (.sl 10 8 0 i)))) 4 (some (.val (tI i)))) (fun (i:Nat)=>upd (fun _=>none) 10 (some (⟨59,8,true,rV (fun x=>tG (up w.heap.size) (tTsM x)) (lmT (l.take i))⟩))) [10] (fun (i:Nat)=>l.length - i) (0) (Nat.zero_le _) (hh:=((SubK.consI rfl (ImpK.of rfl)) SubK.nil)) ?_
  intro i hI
  have hxl:(lmT (l.take i)).length=i:=by rw [xg6,List.length_take];omega
  refine A9 ?_
  refine xa0 rfl (fun h379=> ?_) (fun h379=> ?_)
  ·
    refine A8 ?_
    refine R2 (x7 sl51 i (by omega) (gD (l:=l) (n:=i) (d:=tst0) (by omega))) rfl rfl ?_
    refine A1 ?_
    refine R1 (xe2 (ts:=[_]) (r:=tG (up w.heap.size) _) (c_LentStepN (l.getD i tst0) (hs _ (xb2 (l:=l) (by omega))).1 (hs _ (xb2 (l:=l) (by omega))).2) fi157 (fun m hm=>tG_up hm) ⟨Le.refl,trivial⟩ rfl) rfl ?_
    refine RE (x8 (k:=5) (n:=8) (agg:=true) zr59.1 zr59.2 rfl) trivial trivial ⟨rfl,trivial⟩ ?_
    refine A6 ?_
    refine R1 (xc9 (n:=1) (f:=(fun x=>tG (up w.heap.size) (tTsM x))) [((l.getD i tst0,true):Tst×Bool)] Tryz.underlying51 el59 zf59 rfl (fun _=>inferInstance) rfl rfl rfl) rfl ?_
    refine RE (xb9 (k:=10) (k':=25) (f:=(fun x=>tG (up w.heap.size) (tTsM x))) (ys:=[((l.getD i tst0,true):Tst×Bool)]) (ts':=rV (fun x=>tG (up w.heap.size) (tTsM x)) ((lmT (l.take i))++[((l.getD i tst0,true):Tst×Bool)])) Tryz.underlying51 el59 zf59 rfl rfl (fun _=>inferInstance) (xf8.trans hxl) (by simp;omega) (by simp;omega) (by simp [rV]) (n':=i+1) rfl) ⟨rfl,rfl,trivial⟩ ⟨rfl,trivial⟩ ⟨rfl,trivial⟩ ?_
    refine A9 ?_
    exact xe7 (l:=[10]) (fun j=>cond (Nat.beq j 10) 25 (j)) (i+1) ⟨(by omega),(by omega)⟩ (SubR.int rfl (by first | omega | rfl | (dsimp only;omega)) (SubR.cons rfl (SubR.cons rfl SubR.nil))) ((SubKR.consI rfl (ImpK.of (by rw [lmT_take (by omega)];exact xe9.symm))) SubKR.nil) (SupG.val (SupG.own rfl (SupG.val SupG.nil))) (SupH.cons rfl (supJ xd6) SupH.nil) (lkOk rfl) rfl rfl (fun _ h=>by cases h)
  ·
    refine A9 ?_
    refine A3 ?_
    have hil:i=l.length:=by omega
    subst hil
    refine cL (fun (i:Nat)=>i≤12) (fun (i:Nat)=>upd (upd (upd (fun _=>none) 0 (some (.val (tL 8 true tTs l)))) 3 (some (.own (.sl 10 8 0 (l.length+i))))) 6 (some (.val (tI i)))) (fun (i:Nat)=>upd (fun _=>none) 10 (some (⟨59,8,true,rV (fun x=>tG (up w.heap.size) (tTsM x)) (lmT l++mmT (mkT.take i))⟩))) [10] (fun (i:Nat)=>12 - i) (0) (Nat.zero_le _) (hh:=((SubK.consI rfl (ImpK.of (by rw [List.take_length,List.take_zero,mmT,List.map_nil,List.append_nil]))) SubK.nil)) ?_
    intro i hI
    have hxl:(lmT l++mmT (mkT.take i)).length=l.length+i:=by rw [List.length_append,xg6,mmT_len,List.length_take,mkT_len];omega
    refine A7 ?_
    refine xa0 rfl (fun h383=> ?_) (fun h383=> ?_)
    ·
      refine A7 ?_
      refine R2 (xe2 (ts:=[_,_]) (r:=tG (up w.heap.size) _) (c_markStep 1 i (by decide) (by omega)) fi158 (fun m hm=>tG_up hm) ⟨Le.refl,Le.refl,trivial⟩ rfl) rfl rfl ?_
      refine R1 (xc9 (n:=1) (f:=(fun x=>tG (up w.heap.size) (tTsM x))) [((smk 1 i,false):Tst×Bool)] Tryz.underlying51 el59 zf59 rfl (fun _=>inferInstance) rfl rfl rfl) rfl ?_
      refine RE (xb9 (k:=10) (k':=34) (f:=(fun x=>tG (up w.heap.size) (tTsM x))) (ys:=[((smk 1 i,false):Tst×Bool)]) (ts':=rV (fun x=>tG (up w.heap.size) (tTsM x)) ((lmT l++mmT (mkT.take i))++[((smk 1 i,false):Tst×Bool)])) Tryz.underlying51 el59 zf59 rfl rfl (fun _=>inferInstance) (xf8.trans hxl) (by simp;omega) (by simp;omega) (by simp [rV]) (n':=l.length+i+1) rfl) ⟨rfl,rfl,trivial⟩ ⟨rfl,trivial⟩ ⟨rfl,trivial⟩ ?_
      refine A9 ?_
      exact xe7 (l:=[10]) (fun j=>cond (Nat.beq j 10) 34 (j)) (i+1) ⟨(by omega),(by omega)⟩ (SubR.int rfl (by first | omega | rfl | (dsimp only;omega)) (SubR.cons rfl (SubR.cons rfl SubR.nil))) ((SubKR.consI rfl (ImpK.of (by rw [mkT_take (by omega),mmT_snoc,←List.append_assoc];exact xe9.symm))) SubKR.nil) (SupG.val (SupG.own rfl (SupG.val SupG.nil))) (SupH.cons rfl (supJ xd6) SupH.nil) (lkOk rfl) rfl rfl (fun _ h=>by cases h)
    ·
      refine A9 ?_
      refine A1 ?_
      refine RE (d_keepOW (k:=10) (f:=(fun x=>tG (up w.heap.size) (tTsM x))) (xs:=lmT l) (ms:=mmT mkT) (up w.heap.size) (fun _ h=>h) sl51 (fun _ h=>h) (fun _ _=>tG_idem) (by rw [rV,show i=12 by omega,show mkT.take 12=mkT from rfl]) (by rw [xg6,mmT_len,mkT_len];omega) (by omega) (by rw [xg6])) ⟨rfl,rfl,trivial⟩ ⟨rfl,trivial⟩ trivial ?_
      refine A4 ?_
      exact x4 Plain.mk' rfl rfl (tG_mono (leLW fun _=>tG_le))
end An.S

/- Whether what was lent is kept; what is written over it. -/
namespace An.S
open Go Go.Proofs An
set_option maxHeartbeats 2000000
set_option maxRecDepth 100000
instance fi83:FnI Tryz.prog 83:=⟨_,Tryz.func83,by kernel_rfl,rfl⟩
instance fi125:FnI Tryz.prog 125:=⟨_,Tryz.func125,by kernel_rfl,rfl⟩
instance fi168:FnI Tryz.prog 168:=⟨_,Tryz.func168,by kernel_rfl,rfl⟩
instance fi170:FnI Tryz.prog 170:=⟨_,Tryz.func170,by kernel_rfl,rfl⟩
instance fi260:FnI Tryz.prog 260:=⟨_,Tryz.func260,by kernel_rfl,rfl⟩
theorem c_KeptWhole (x:Wh) (hl:x.l.length≤1048576):
  Ct Tryz.prog 170 [tWhK x,tWh x] (tB true):=by
 refine Ct.intro Tryz.func170 rfl Tryz.ntmps170 rfl ?_
 intro w F
 refine A9 ?_
 refine A2 ?_
 refine R2 (d_callL (ts:=[tWhK x,tWh x]) (c_SameWhole x x) fi173 rfl ⟨whK_le,Le.refl,trivial⟩) rfl rfl ?_
 refine A1 ?_
 refine RGon (decide_eq_true (by rfl)) rfl (d_fieldO fo39_1.h rfl) rfl ⟨rfl,trivial⟩ trivial trivial (xb6 (decide_eq_true (by rfl)) rfl rfl (0) ti37 rfl rfl rfl (At.g 1 rfl rfl) rfl (RGon (decide_eq_true (by rfl)) rfl (d_fieldO fo39_1.h rfl) rfl ⟨rfl,trivial⟩ trivial trivial (xb6 (decide_eq_true (by rfl)) rfl rfl (0) ti37 rfl rfl rfl (At.g 1 rfl rfl) rfl (RGon (decide_eq_true (by rfl)) rfl (x3 (c_KeptLimbs x.l hl) fi260 rfl) rfl ⟨rfl,rfl,trivial⟩ trivial trivial (R2 (d_pickT (decide_eq_true (by rfl))) rfl rfl ?_)))))
 refine A4 ?_
 exact x4 Plain.mk' rfl rfl Le.refl
theorem c_KeptFrac (f:Fr) (h1:f.n.l.length≤1048576) (h2:f.d.l.length≤1048576):
  Ct Tryz.prog 83 [tFrK f,tFr f] (tB true):=by
 refine Ct.intro Tryz.func83 rfl Tryz.ntmps83 rfl ?_
 intro w F
 refine A9 ?_
 refine A2 ?_
 refine R2 (d_callL (ts:=[tFrK f,tFr f]) (c_SameFrac f f) fi86 rfl ⟨frK_le,Le.refl,trivial⟩) rfl rfl ?_
 refine A1 ?_
 refine RGon (decide_eq_true (by rfl)) rfl (d_fieldO fo41_0.h rfl) rfl ⟨rfl,trivial⟩ trivial trivial (xb6 (decide_eq_true (by rfl)) rfl rfl (0) ti39 rfl rfl rfl (At.g 0 rfl rfl) rfl (RGon (decide_eq_true (by rfl)) rfl (d_fieldO fo41_0.h rfl) rfl ⟨rfl,trivial⟩ trivial trivial (xb6 (decide_eq_true (by rfl)) rfl rfl (0) ti39 rfl rfl rfl (At.g 0 rfl rfl) rfl (RGon (decide_eq_true (by rfl)) rfl (x3 (c_KeptWhole f.n h1) fi170 rfl) rfl ⟨rfl,rfl,trivial⟩ trivial trivial (R2 (d_pickT (decide_eq_true (by rfl))) rfl rfl ?_)))))
 refine A5 ?_
 refine RGon rfl rfl (x3 (c_KeptWhole f.d h2) fi170 rfl) rfl ⟨rfl,rfl,trivial⟩ trivial trivial ?_
 refine A5 ?_
 exact x4 Plain.mk' rfl rfl Le.refl
theorem c_KeptValue (v:Va) (h1:v.f.n.l.length≤1048576) (h2:v.f.d.l.length≤1048576):
  Ct Tryz.prog 125 [tVaK v,tVa v] (tB true):=by
 refine Ct.intro Tryz.func125 rfl Tryz.ntmps125 rfl ?_
 intro w F
 refine A9 ?_
 refine A2 ?_
 refine R2 (d_callL (ts:=[tVaK v,tVa v]) (c_SameValue v v) fi29 rfl ⟨vaK_le,Le.refl,trivial⟩) rfl rfl ?_
 refine A1 ?_
 refine RGon (decide_eq_true (by rfl)) rfl (d_fieldO fo57_1.h rfl) rfl ⟨rfl,trivial⟩ trivial trivial (xb6 (decide_eq_true (by rfl)) rfl rfl (0) ti41 rfl rfl rfl (At.g 1 rfl rfl) rfl (RGon (decide_eq_true (by rfl)) rfl (d_fieldO fo57_1.h rfl) rfl ⟨rfl,trivial⟩ trivial trivial (xb6 (decide_eq_true (by rfl)) rfl rfl (0) ti41 rfl rfl rfl (At.g 1 rfl rfl) rfl (RGon (decide_eq_true (by rfl)) rfl (x3 (c_KeptFrac v.f h1 h2) fi83 rfl) rfl ⟨rfl,rfl,trivial⟩ trivial trivial (R2 (d_pickT (decide_eq_true (by rfl))) rfl rfl ?_)))))
 refine A4 ?_
 exact x4 Plain.mk' rfl rfl Le.refl
theorem c_KeptStep (s:Tst) (h1:s.v.f.n.l.length≤1048576) (h2:s.v.f.d.l.length≤1048576):
  Ct Tryz.prog 168 [tTsW s,tTs s] (tB true):=by
 refine Ct.intro Tryz.func168 rfl Tryz.ntmps168 rfl ?_
 intro w F
 refine A9 ?_
 refine A2 ?_
 refine R2 (d_callL (ts:=[_,_]) (c_SameStep s s) fi169 rfl ⟨tsW_le,Le.refl,trivial⟩) rfl rfl ?_
 refine A1 ?_
 refine RGon (decide_eq_true (by rfl)) rfl (d_fieldO fo59_2.h rfl) rfl ⟨rfl,trivial⟩ trivial trivial (xb6 (decide_eq_true (by rfl)) rfl rfl (0) ti57 rfl rfl rfl (At.g 2 rfl rfl) rfl (RGon (decide_eq_true (by rfl)) rfl (d_fieldO fo59_2.h rfl) rfl ⟨rfl,trivial⟩ trivial trivial (xb6 (decide_eq_true (by rfl)) rfl rfl (0) ti57 rfl rfl rfl (At.g 2 rfl rfl) rfl (RGon (decide_eq_true (by rfl)) rfl (d_callL (ts:=[_,_]) (c_KeptValue s.v h1 h2) fi125 rfl ⟨vaWK,Le.refl,trivial⟩) rfl ⟨rfl,rfl,trivial⟩ trivial trivial (R2 (d_pickT (decide_eq_true (by rfl))) rfl rfl ?_)))))
 refine A4 ?_
 exact x4 Plain.mk' rfl rfl Le.refl
theorem c_markStep1 (i:Nat) (hi:i < 10000000):Ct Tryz.prog 158 [tI 1,tI i] (tTs (smk 1 i)):=(c_markStep 1 i (by decide) hi).toCt fun _=>tG_le
theorem c_KeptSteps (l:List Tst) (hl:l.length≤60) (hs: ∀s∈l,s.v.f.n.l.length≤1048576∧s.v.f.d.l.length≤1048576):
  Ct Tryz.prog 82 [tStW l,tL 8 true tTs l] (tB true):=by
 have hml:(lmT l++mmT mkT).length=l.length+12:=by rw [List.length_append,xg6,mmT_len,mkT_len]
 have hll:(lmT l).length=l.length:=xg6
 refine Ct.intro Tryz.func82 rfl Tryz.ntmps82 rfl ?_
 intro w F
 refine A9 ?_
 refine R1 (d_lenW Tryz.underlying51 hll) rfl ?_
 refine A5 ?_
 refine C_bF rfl (decide_eq_false (by omega)) ?_
 refine A8 ?_
 refine R2 (d_sliceW sl51 (by rw [hll,mmT_len,mkT_len];omega)) rfl rfl ?_
 refine A9 ?_
 refine A1 ?_
 refine cL (fun (i:Nat)=>i≤(lmT l++mmT mkT).length) (fun (i:Nat)=>upd (upd (upd (fun _=>none) 1 (some (.val (tL 8 true tTs l)))) 5 (some (.val (tL 8 true tTsM (lmT l++mmT mkT))))) 6 (some (.val (tI i)))) (fun (i:Nat)=>fun _=>none) [] (fun (i:Nat)=>(lmT l++mmT mkT).length - i) (0) (Nat.zero_le _) ?_
 intro i hI
 refine A9 ?_
 refine xa0 rfl (fun h394=> ?_) (fun h394=> ?_)
 ·
  refine A9 ?_
  refine A2 ?_
  refine RGcaseD (t:=27) rfl (fun h395=> ?_) (fun h395=> ?_)
  ·
   refine A2 ?_
   refine RGon (decide_eq_true h395) rfl (x7 sl51 i (by omega) (gD (l:=(lmT l++mmT mkT)) (n:=i) (d:=tm0) (by omega))) rfl ⟨rfl,rfl,trivial⟩ trivial trivial ?_
   refine A3 ?_
   refine RGon (decide_eq_true h395) rfl (x7 sl51 i (by omega) (gD (l:=l) (n:=i) (d:=tst0) (by omega))) rfl ⟨rfl,rfl,trivial⟩ trivial trivial ?_
   refine A1 ?_
   refine RGon (decide_eq_true h395) rfl (d_callL (ts:=[_,_]) (c_KeptStep (l.getD i tst0) (hs _ (xb2 (l:=l) (by omega))).1 (hs _ (xb2 (l:=l) (by omega))).2) fi168 rfl ⟨(by rw [lm_l (by omega)];exact Le.refl),Le.refl,trivial⟩) rfl ⟨rfl,rfl,trivial⟩ trivial trivial ?_
   refine A8 ?_
   refine RGoff (decide_eq_false (by omega)) rfl rfl (RGoff (decide_eq_false (by omega)) rfl rfl (RGoff (decide_eq_false (by omega)) rfl rfl (RGoff (decide_eq_false (by omega)) rfl rfl (RGoff (decide_eq_false (by omega)) rfl rfl (RGoff (decide_eq_false (by omega)) rfl rfl (RGoff (decide_eq_false (by omega)) rfl rfl (RGoff (decide_eq_false (by omega)) rfl rfl ?_)))))))
   refine RGoff (decide_eq_false (by omega)) rfl rfl (RGoff (decide_eq_false (by omega)) rfl rfl (RGoff (decide_eq_false (by omega)) rfl rfl (RGon rfl rfl (xf6 (decide_eq_false (by omega))) rfl ⟨rfl,rfl,trivial⟩ trivial trivial ?_)))
   refine A9 ?_
   refine A3 ?_
   exact kF (i+1) ⟨(by omega),(by omega)⟩
  ·
   refine A9 ?_
   refine A8 ?_
   refine RGon (decide_eq_true (by omega)) rfl xe0 rfl ⟨rfl,trivial⟩ trivial trivial (RGon (decide_eq_true (by omega)) rfl xe0 rfl ⟨rfl,trivial⟩ trivial trivial (RGon (decide_eq_true (by omega)) rfl (x7 sl51 i (by omega) (gD (l:=(lmT l++mmT mkT)) (n:=i) (d:=tm0) (by omega))) rfl ⟨rfl,rfl,trivial⟩ trivial trivial (RGon (decide_eq_true (by omega)) rfl (d_loadP ti59) rfl ⟨rfl,trivial⟩ trivial trivial (RGon (decide_eq_true (by omega)) rfl xe0 rfl ⟨rfl,trivial⟩ trivial trivial (RGon (decide_eq_true (by omega)) rfl xe0 rfl ⟨rfl,trivial⟩ trivial trivial (RGon (decide_eq_true (by omega)) rfl (d_len Tryz.underlying51) rfl ⟨rfl,trivial⟩ trivial trivial (RGon (decide_eq_true (by omega)) rfl (xd7 (r:=((i - l.length:Nat):Int)) (by rw [wr64 (by omega) (by omega)];omega)) rfl ⟨rfl,rfl,trivial⟩ trivial trivial ?_)))))))
   refine RGon (decide_eq_true (by omega)) rfl (d_callL (ts:=[_,_]) (c_markStep1 (i - l.length) (by omega)) fi158 rfl ⟨Le.refl,Le.refl,trivial⟩) rfl ⟨rfl,rfl,trivial⟩ trivial trivial (RGon (decide_eq_true (by omega)) rfl (d_callL (ts:=[_,_]) (c_SameStep (smk 1 (i - l.length)) (smk 1 (i - l.length))) fi169 rfl ⟨(by rw [lm_r (by omega) (by rw [mkT_len];omega),mkT_at (by omega)];exact Le.refl),Le.refl,trivial⟩) rfl ⟨rfl,rfl,trivial⟩ trivial trivial (RGon (decide_eq_true (by omega)) rfl d_not rfl ⟨rfl,trivial⟩ trivial trivial (RGon rfl rfl (d_pickT (decide_eq_true (by omega))) rfl ⟨rfl,rfl,trivial⟩ trivial trivial ?_)))
   refine A3 ?_
   refine C_bF rfl (xb3 (by rfl)) ?_
   refine A8 ?_
   exact kF (i+1) ⟨(by omega),(by omega)⟩
 ·
  refine A9 ?_
  refine A2 ?_
  exact x4 Plain.mk' rfl rfl Le.refl
end An.S

/- What is written over lent steps and numbers. -/
namespace An.S
open Go Go.Proofs An
set_option maxHeartbeats 2000000
set_option maxRecDepth 100000
instance fi85:FnI Tryz.prog 85:=⟨_,Tryz.func85,by kernel_rfl,rfl⟩
instance fi171:FnI Tryz.prog 171:=⟨_,Tryz.func171,by kernel_rfl,rfl⟩
instance fi172:FnI Tryz.prog 172:=⟨_,Tryz.func172,by kernel_rfl,rfl⟩
instance fi261:FnI Tryz.prog 261:=⟨_,Tryz.func261,by kernel_rfl,rfl⟩
instance fi262:FnI Tryz.prog 262:=⟨_,Tryz.func262,by kernel_rfl,rfl⟩
/-- The first k limbs are written over. -/
def ovr (l:List Nat):Nat→List Nat
  | 0=>l
  | k+1=>(ovr l k).set k ((9000027+k)%65536)
theorem ovr_len {l:List Nat}: ∀{k:Nat},(ovr l k).length=l.length
  | 0=>rfl
  | k+1=>by rw [ovr,List.length_set,ovr_len]
theorem cutM2 {i:Nat}:IntKind.u16.wrap (1000003*(((2:Nat):Int)+7)+(i:Int))=(((9000027+i)%65536:Nat):Int):=by rw [mu16];omega
theorem c_mark2 (i:Nat) (hi:i < 10000000):Ct Tryz.prog 146 [tI 2,tI i] (tI (1000003*(((2:Nat):Int)+7)+(i:Int))):=c_markK 2 i (by decide) hi
theorem c_markStep2 (i:Nat) (hi:i < 10000000):Ct Tryz.prog 158 [tI 2,tI i] (tTs (smk 2 i)):=(c_markStep 2 i (by decide) hi).toCt fun _=>tG_le
theorem c_OverLimbsG (l:List Nat) (n:Nat) (hn:n+12≤l.length) (hb:n≤9000000):
  CtG Tryz.prog 262 [(1,⟨64,1,false,rW .u16 l⟩)] [.own (.sl 1 1 0 n)] (.val (tT [])) [(1,⟨64,1,false,rW .u16 (ovr l (n+12))⟩)] []:=by
 refine CtG.intro [1] Tryz.func262 rfl Tryz.ntmps262 rfl rfl ⟨⟨rfl,xc7⟩,trivial⟩ ?_
 intro w F η
 refine A4 ?_
 refine RE (d_capO Tryz.underlying37) ⟨rfl,trivial⟩ ⟨rfl,trivial⟩ trivial ?_
 refine A3 ?_
 refine R2 (d_minX (v:=((n+12:Nat):Int)) (fun q hq=>by rw [rW_len] at hq;omega)) rfl rfl (RE (d_sliceOX sl37 (n+12) rfl (by rw [rW_len];omega)) ⟨rfl,rfl,trivial⟩ ⟨rfl,trivial⟩ trivial ?_)
 refine A9 ?_
 refine cL (fun (i:Nat)=>i≤n+12) (fun (i:Nat)=>upd (upd (fun _=>none) 2 (some (.own (.sl 1 1 0 (n+12))))) 3 (some (.val (tI i)))) (fun (i:Nat)=>upd (fun _=>none) 1 (some (⟨64,1,false,rW .u16 (ovr l i)⟩))) [1] (fun (i:Nat)=>n+12 - i) (0) (Nat.zero_le _) (hh:=((SubK.consI rfl (ImpK.of rfl)) SubK.nil)) ?_
 intro i hI
 refine A9 ?_
 refine xa0 rfl (fun h85=> ?_) (fun h85=> ?_)
 ·
  refine A8 ?_
  refine R2 (x3 (c_mark2 i (by omega)) fi146 rfl) rfl rfl (R1 (x6 Tryz.underlying64 (isS Tryz.underlying3) cutM2) rfl (R2 (xa6 sl37 (by omega) (by omega) rfl) rfl rfl (RE (xc4 (i) ti64 (rW_lt (by rw [ovr_len];omega)) (by omega) (xf7 (m:=_) rfl)) ⟨rfl,rfl,trivial⟩ ⟨rfl,trivial⟩ trivial ?_)))
  refine A8 ?_
  exact kF (i+1) ⟨(by omega),(by omega)⟩ (hh:=((SubK.consI rfl (ImpK.of rfl)) SubK.nil))
 ·
  have him:i=n+12:=by omega
  subst him
  refine A4 ?_
  exact E_retG0 LentC.mk' rfl (.inr rfl) ⟨rfl,trivial⟩ ⟨⟨rfl,xc7⟩,trivial⟩ rfl
/-- A slice of limbs in a block that may be written over. -/
theorem v_OverLimbs (V:VM) (n:Nat) (hb:n≤9000000):CtV Tryz.prog (XV 64 V) 262 [] [.val (tSlV V n)] 0 0:=by
  intro w η vs hvs _ _ hD hJ
  match vs,hvs with
  | [v],hvs=>
  obtain ⟨b,m,c,rfl,hV,hm⟩:=hvs.1
  have hJ:JV _ V w:=hJ
  obtain ⟨cs,h1,h2,h3,h4,h5⟩:=hJ b m c hV
  obtain ⟨xs,x1,x2⟩:=list_of (α:=Nat) (p:=fun i x=>cs[i]? =some (.int .u16 x)) m h5
  have hown: ∀b',OwnK (⟨fun _=>b,fun _=>c,fun _=>False⟩:Env) [(1,⟨64,1,false,rW .u16 xs⟩)] b'→b'=b:=by
    rintro b' ⟨x,hx,_,rfl⟩
    rfl
  refine (c_OverLimbsG xs n (by omega) hb (fun _=>False) w ⟨fun _=>b,fun _=>c,fun _=>False⟩ [.slice (some ⟨b,0,none⟩) n c] ⟨⟨_,rfl,?_,fun _=> ?_⟩,trivial⟩ ?_ ?_ (fun _ h=>h.elim)).mono ?_
  · show 0+n≤c;omega
  · simp
  · intro x hx
    rw [List.mem_singleton] at hx
    subst hx
    refine ⟨by rw [rW_len,x1];exact h3,(show 0 < 1 by decide),fun _=>rfl,h4,fun _=>⟨cs,h1,by rw [h2,Nat.mul_one],fun i e he=> ?_⟩⟩
    rw [rW,List.getElem?_map] at he
    obtain ⟨y,hy,rfl⟩:=Option.map_eq_some_iff.1 he
    show pick false 1 cs (i*1)=_
    have:=x2 i y hy
    rw [Nat.mul_one,pick,cond_false,Array.getD_eq_getD_getElem?,this];rfl
  · intro x hx y hy hne
    rw [List.mem_singleton] at hx hy
    subst hx hy;exact absurd rfl hne
  · rintro e w' ⟨u,η',rfl,ho⟩
    have hu:u= .tuple #[]:=by
      obtain ⟨us,e1,e2⟩:=ho.res
      cases us with
      | nil=>exact e1
      | cons _ _=>exact e2.elim
    have es:=ho.same 1 (by simp)
    refine ⟨by rw [hu],ho.stp.mono fun b' _ hb'=> .inr ?_,fun b' m' c' hV'=> ?_⟩
    · rw [hown b' hb'];exact ⟨_,hV⟩
    · by_cases hbb:b'=b
      · subst hbb
        rw [hV] at hV'
        cases hV'
        have hk:=ho.keys _ (List.mem_singleton.2 rfl)
        obtain ⟨k1,k2,k3,k4,k5⟩:=hk
        have ec:η'.c 1=c:=es.2
        have eb:η'.b 1=b':=es.1
        simp only at k1 k4 k5
        rw [ec] at k1 k4 k5
        rw [eb] at k5
        rw [rW_len,ovr_len,x1] at k1
        obtain ⟨cs',g1,g2,g3⟩:=k5 (by omega)
        refine ⟨cs',g1,by rw [g2,Nat.mul_one],h3,h4,fun i hi=> ?_⟩
        have:=g3 i _ (rW_get (by rw [ovr_len,x1];exact hi))
        have h0:pick false 1 cs' (i*1)= .int .u16 ((ovr xs (n+12)).getD i 0:Nat):=this
        rw [Nat.mul_one,pick,cond_false,Array.getD_eq_getD_getElem?] at h0
        cases hg:cs'[i]? with
        | none=>rw [Array.getElem?_eq_none_iff] at hg;rw [g2] at hg;omega
        | some z=>rw [hg] at h0;exact ⟨_,by rw [show z=_ from h0]⟩
      · obtain ⟨cs0,z1,z2⟩:=hJ b' m' c' hV'
        exact ⟨cs0,(ho.stp.block b' (xa7 z1) fun h=>hbb (hown b' h)).trans z1,z2⟩
abbrev tWhV (V:VM) (x:Wh):Ty:=tS [⟨1,false,tB x.neg⟩,⟨1,false,tSlV V x.l.length⟩]
abbrev tFrV (V:VM) (f:Fr):Ty:=tS [⟨2,true,tWhV V f.n⟩,⟨2,true,tWhV V f.d⟩]
abbrev tVaV (V:VM) (v:Va):Ty:=tS [⟨1,false,tE (.int .u8 (v.kind:Int))⟩,⟨4,true,tFrV V v.f⟩,⟨1,false,tI v.i⟩]
abbrev tTsV (V:VM) (s:Tst):Ty:=tS [⟨1,false,tI s.lo⟩,⟨1,false,tI s.hi⟩,⟨6,true,tVaV V s.v⟩]
theorem free_wh {V:VM} {x:Wh}:Free (tWhV V x):=Free.S ⟨Free.E,free_tSlV,trivial⟩
theorem free_fr {V:VM} {f:Fr}:Free (tFrV V f):=Free.S ⟨free_wh,free_wh,trivial⟩
theorem free_va {V:VM} {v:Va}:Free (tVaV V v):=Free.S ⟨Free.E,free_fr,Free.E,trivial⟩
theorem free_ts {V:VM} {s:Tst}:Free (tTsV V s):=Free.S ⟨Free.E,Free.E,free_va,trivial⟩
/-- A lent step, or a mark behind them. -/
abbrev tTsVM (V:VM) (x:Tst×Bool):Ty:=cond x.2 (tTsV V x.1) (tTs x.1)
instance {V:VM} {x:Tst×Bool}:Shape (tTsVM V x) 8 true:=by
  obtain ⟨s,b⟩:=x
  cases b
  · exact (inferInstance:Shape (tTs s) 8 true)
  · exact (inferInstance:Shape (tTsV V s) 8 true)
theorem rowV {V:VM} {l:List Tst} {m:List Tst} {i:Nat} (h:i < l.length):(rV (tTsVM V) (lmT l++mmT m))[i]? =some (.val (tTsV V (l.getD i tst0))):=by
  have:=rV_getD (f:=tTsVM V) (xs:=lmT l++mmT m) (i:=i) (d:=tm0) (by rw [List.length_append,xg6];omega)
  rw [lm_l h] at this;exact this
theorem v_OverWhole (V:VM) (x:Wh) (hb:x.l.length≤9000000):
    CtV Tryz.prog (XV 64 V) 172 [] [.val (tWhV V x)] 0 0:=by
  refine CtV.intro 99 [] Tryz.func172 rfl Tryz.ntmps172 rfl rfl trivial rfl ?_
  intro w η hV
  refine A8 ?_
  refine RE (d_callV hV (us:=[_]) (v_OverLimbs V _ hb) fi262 ⟨free_tSlV,trivial⟩ rfl) ⟨rfl,trivial⟩ ⟨rfl,trivial⟩ trivial ?_
  refine A1 ?_
  exact E_retV hV rfl (.inr rfl) rfl
theorem v_OverFrac (V:VM) (f:Fr) (h1:f.n.l.length≤9000000) (h2:f.d.l.length≤9000000):
    CtV Tryz.prog (XV 64 V) 85 [] [.val (tFrV V f)] 0 0:=by
  refine CtV.intro 99 [] Tryz.func85 rfl Tryz.ntmps85 rfl rfl trivial rfl ?_
  intro w η hV
  refine A9 ?_
  refine RE (d_callV hV (us:=[_]) (v_OverWhole V _ h1) fi172 ⟨free_wh,trivial⟩ rfl) ⟨rfl,trivial⟩ ⟨rfl,trivial⟩ trivial ?_
  refine A5 ?_
  refine RE (d_callV hV (us:=[_]) (v_OverWhole V _ h2) fi172 ⟨free_wh,trivial⟩ rfl) ⟨rfl,trivial⟩ ⟨rfl,trivial⟩ trivial ?_
  refine A1 ?_
  exact E_retV hV rfl (.inr rfl) rfl
theorem v_OverValue (V:VM) (v:Va) (h1:v.f.n.l.length≤9000000) (h2:v.f.d.l.length≤9000000):
    CtV Tryz.prog (XV 64 V) 261 [] [.val (tVaV V v)] 0 0:=by
  refine CtV.intro 99 [] Tryz.func261 rfl Tryz.ntmps261 rfl rfl trivial rfl ?_
  intro w η hV
  refine A8 ?_
  refine RE (d_callV hV (us:=[_]) (v_OverFrac V _ h1 h2) fi85 ⟨free_fr,trivial⟩ rfl) ⟨rfl,trivial⟩ ⟨rfl,trivial⟩ trivial ?_
  refine A1 ?_
  exact E_retV hV rfl (.inr rfl) rfl
theorem v_OverStep (V:VM) (s:Tst) (h1:s.v.f.n.l.length≤9000000) (h2:s.v.f.d.l.length≤9000000):
    CtV Tryz.prog (XV 64 V) 171 [] [.val (tTsV V s)] 0 0:=by
  refine CtV.intro 99 [] Tryz.func171 rfl Tryz.ntmps171 rfl rfl trivial rfl ?_
  intro w η hV
  refine A8 ?_
  refine RE (d_callV hV (us:=[_]) (v_OverValue V _ h1 h2) fi261 ⟨free_va,trivial⟩ rfl) ⟨rfl,trivial⟩ ⟨rfl,trivial⟩ trivial ?_
  refine A1 ?_
  exact E_retV hV rfl (.inr rfl) rfl
theorem v_OverSteps (V:VM) (l:List Tst) (hl:l.length≤60) (hs: ∀s∈l,s.v.f.n.l.length≤9000000∧s.v.f.d.l.length≤9000000):
    CtV Tryz.prog (XV 64 V) 84 [(1,⟨59,8,true,rV (tTsVM V) (lmT l++mmT mkT)⟩)] [.own (.sl 1 8 0 l.length)] 0 0:=by
  have hml:(lmT l++mmT mkT).length=l.length+12:=by rw [List.length_append,xg6,mmT_len,mkT_len]
  refine CtV.intro 99 [1] Tryz.func84 rfl Tryz.ntmps84 rfl rfl ⟨⟨rfl,xd6⟩,trivial⟩ rfl ?_
  intro w η hV
  refine A7 ?_
  refine cL (fun (i:Nat)=>i≤l.length) (fun (i:Nat)=>upd (upd (fun _=>none) 0 (some (.own (.sl 1 8 0 l.length)))) 2 (some (.val (tI i)))) (fun (i:Nat)=>upd (upd (fun _=>none) 1 (some (⟨59,8,true,rV (tTsVM V) (lmT l++mmT mkT)⟩))) 99 (some (⟨0,1,false,[]⟩))) [1,99] (fun (i:Nat)=>l.length - i) (0) (Nat.zero_le _) (hh:=((SubK.consI rfl ImpK.refl) ((SubK.consI rfl ImpK.refl) SubK.nil))) ?_
  intro i hI
  refine A9 ?_
  refine xa0 rfl (fun h403=> ?_) (fun h403=> ?_)
  ·
    refine A7 ?_
    refine R2 (xa6 sl51 (by omega) (by omega) rfl) rfl rfl ?_
    refine RE (xd4 (i) ti59 (rowV (by omega)) (by omega)) ⟨rfl,trivial⟩ ⟨rfl,trivial⟩ trivial ?_
    refine RE (d_callV hV (us:=[_]) (v_OverStep V (l.getD i tst0) (hs _ (xb2 (l:=l) (by omega))).1 (hs _ (xb2 (l:=l) (by omega))).2) fi171 ⟨free_ts,trivial⟩ rfl) ⟨rfl,trivial⟩ ⟨rfl,trivial⟩ trivial ?_
    refine A8 ?_
    exact kF (i+1) ⟨(by omega),(by omega)⟩ (hh:=((SubK.consI rfl ImpK.refl) ((SubK.consI rfl ImpK.refl) SubK.nil)))
  ·
    refine A9 ?_
    refine RE (d_capO Tryz.underlying51) ⟨rfl,trivial⟩ ⟨rfl,trivial⟩ trivial ?_
    refine A3 ?_
    refine R2 (d_minX (v:=((l.length+12:Nat):Int)) (fun q hq=>by rw [xf8,hml] at hq;omega)) rfl rfl ?_
    refine RE (d_sliceOX sl51 (l.length+12) rfl (by have:=hml;rw [xf8];omega)) ⟨rfl,rfl,trivial⟩ ⟨rfl,trivial⟩ trivial ?_
    refine A9 ?_
    refine cL (fun (fm:(Nat)×(List (Tst×Bool)))=>(fun (i:Nat) (xs:List (Tst×Bool))=>i≤l.length+12∧xs.length=l.length+12) fm.1 fm.2) (fun (fm:(Nat)×(List (Tst×Bool)))=>(fun (i:Nat) (xs:List (Tst×Bool))=>upd (upd (fun _=>none) 3 (some (.own (.sl 1 8 0 (l.length+12))))) 4 (some (.val (tI i)))) fm.1 fm.2) (fun (fm:(Nat)×(List (Tst×Bool)))=>(fun (i:Nat) (xs:List (Tst×Bool))=>upd (upd (fun _=>none) 1 (some (⟨59,8,true,rV (tTsVM V) xs⟩))) 99 (some (⟨0,1,false,[]⟩))) fm.1 fm.2) [1,99] (fun (fm:(Nat)×(List (Tst×Bool)))=>(fun (i:Nat) (xs:List (Tst×Bool))=>l.length+12 - i) fm.1 fm.2) ((0,(lmT l++mmT mkT))) (by dsimp only;exact ⟨Nat.zero_le _,hml⟩) (hh:=((SubK.consI rfl ImpK.refl) ((SubK.consI rfl ImpK.refl) SubK.nil))) ?_
    intro fm hI
    obtain ⟨i,xs⟩:=fm
    replace hI:i≤l.length+12∧xs.length=l.length+12:=hI
    show wc _ _ _ _ (upd (upd (fun _=>none) 3 (some (.own (.sl 1 8 0 (l.length+12))))) 4 (some (.val (tI i)))) (upd (upd (fun _=>none) 1 (some (⟨59,8,true,rV (tTsVM V) xs⟩))) 99 (some (⟨0,1,false,[]⟩))) _
    obtain ⟨hi,hxl⟩:=hI
    refine A9 ?_
    refine xa0 rfl (fun h407=> ?_) (fun h407=> ?_)
    ·
      refine A8 ?_
      refine R2 (x3 (c_markStep2 i (by omega)) fi158 rfl) rfl rfl ?_
      refine R2 (xa6 sl51 (by omega) (by omega) rfl) rfl rfl ?_
      refine RE (xc4 (e:= .val (tTs (smk 2 i))) (i) ti59 (rV_lt (f:=tTsVM V) (xs:=xs) (by omega)) (by omega) (rV_set (f:=tTsVM V) (xs:=xs) (t:=tTs (smk 2 i)) (m:=(smk 2 i,false)) rfl)) ⟨rfl,rfl,trivial⟩ ⟨rfl,trivial⟩ trivial ?_
      refine A8 ?_
      exact kF ((i+1,xs.set i (smk 2 i,false))) ⟨(by dsimp only;exact ⟨by omega,by rw [List.length_set];exact hxl⟩),(by dsimp only;omega)⟩ (hh:=((SubK.consI rfl ImpK.refl) ((SubK.consI rfl ImpK.refl) SubK.nil)))
    ·
      refine A4 ?_
      exact E_retV hV rfl (.inr rfl) rfl
end An.S

/- Laws that overwrite what they have lent. For any program. -/
namespace An
open Go
section
variable {P:Program} {g:Slots} {h:Keys} {al:Names} {Q:Exit→Act→World→Prop}
abbrev ovb (N:Nat) (w0:World) (F:Dom) (K:Nat) (X:OvJ):Base:=Base.over N w0 F ⟨fun _=>0,fun _=>0,fun _=>False⟩ [] [] K X
theorem RBase.ov {N:Nat} {w0:World} {F:Dom} {K:Nat} {X:OvJ} (h: ∀b,X.D b→w0.heap.size≤b):RBase (ovb N w0 F K X) w0:=⟨Ext.refl w0,fun _ ⟨_,hx,_⟩=>(by cases hx),h⟩
/-- ... and so was what a variable holds. -/
theorem C_lentK {N:Nat} {w0:World} {F:Dom} {x:Code} (K T s k TK es:Nat) {W U:Ty} {agg:Bool} {g':Value→Slots} {h':Value→Keys} (hs:g s=some (.val (tG (up w0.heap.size) W))) (hk:h k=some ⟨TK,es,agg,[.val (tG (up w0.heap.size) U)]⟩) (hK:al K=false)
    (hg: ∀(a:Act) (L:Dom),(∀b,L b→w0.heap.size≤b)→SlC (fun b=> ¬L b) a g (g' (a.tmps.getD s undef)))
    (hh: ∀(w:World) (η:Env) (L:Dom),(∀b,L b→w0.heap.size≤b)→KyC (fun b=> ¬L b) w η h (h' (kval w η k ⟨TK,es,agg,[.val (tG (up w0.heap.size) U)]⟩ 0)))
    (H: ∀(L:Dom) (w1:World) (v u:Value),W.p L w1 v→U.p L w1 u→(∀b,L b→b < w1.heap.size)→(∀b,L b→w0.heap.size≤b)→wc P (ovb N w0 F K (XL T L w1)) x Q (g' v) (upd (h' u) K (some ⟨0,1,false,[]⟩)) (fun j=>al j || Nat.beq j K)):
    wc P (Base.plain N w0 F) x Q g h al:=by
  refine C_at fun a w hs'=> ?_
  obtain ⟨η,st⟩:=hs'
  have hv:=st.slotv hs
  have hu:=st.keyv hk
  exact ⟨ovb N w0 F K (XL T (fun b=>(b < w.heap.size∧ ¬Own h η b)∧up w0.heap.size b) w),g' (a.tmps.getD s undef),_,_,rfl,st.over K (XL T (fun b=>(b < w.heap.size∧ ¬Own h η b)∧up w0.heap.size b) w) (fun b hb=>⟨hb.2,hb.1.1,hb.1.2⟩) ⟨fun _ b _=>rfl,fun h=>(by cases h),fun b hb=>hb.1.1⟩ hK (hg a _ fun b hb=>hb.2) (hh w η _ fun b hb=>hb.2),H _ w _ _ hv hu (fun b hb=>hb.1.1) fun b hb=>hb.2⟩
end
theorem tG_old {n:Nat} {L:Dom} {t:Ty} (h: ∀b,L b→n≤b):Le (tG (fun b=>b < n) t) (tG (fun b=> ¬L b) t):=tG_sub fun b hb hl=>by have:=h b hl;omega
/-- What was lent is handed to a call. -/
theorem XL_hand {T:Nat} {L F:Dom} {w1 w:World} {W:Ty} {v:Value} (hW:W.p L w1 v) (hJ:(XL T L w1).J 0 w):W.p (fun b=>F b∨L b) w v:=W.mono hW fun b _ hb hl _=>⟨.inr hb,(hJ.1 rfl b hb).trans hl⟩
/-- Arguments: what was lent, or others. -/
def HandL (T:Nat) (L:Dom) (w1:World):List Ty→List Ty→Prop
  | [],[]=>True
  | t::r,u::s=>(Le t u∨ ∃v,t=tE v∧u.p L w1 v)∧HandL T L w1 r s
  | _,_=>False
theorem HandL.all {T:Nat} {L F:Dom} {w1 w:World} (hJ:(XL T L w1).J 0 w): ∀{ts us:List Ty} {vs:List Value},HandL T L w1 ts us→Tup.all F w ts vs→Tup.all (fun b=>F b∨L b) w us vs
  | [],[],[],_,_=>trivial
  | t::r,u::s,v::vs,h,hv=>by
    refine ⟨?_,HandL.all hJ h.2 hv.2⟩
    rcases h.1 with h1 | ⟨v',rfl,h2⟩
    · exact u.mono (h1 _ _ _ hv.1) fun b _ hb hl _=>⟨.inl hb,hl⟩
    · have e:v=v':=hv.1
      subst e;exact XL_hand h2 hJ
  | [],[],_::_,_,hv=>hv.elim
  | _::_,_::_,[],_,hv=>hv.elim
  | [],_::_,_,h,_=>h.elim
  | _::_,[],_,h,_=>h.elim
section
variable {P:Program} {c:Base} {d ty:Nat} {pos:String} {af:Array Edge} {gd:Option (Nat×Bool)}
/-- A call that is handed what was lent, and hands back what is new. -/
theorem d_callH {T K:Nat} {L:Dom} {w1:World} {f:FuncId} {xs:List Operand} {aT:Array TypeId} {us us':List Ty} {rr:Nat→Ty} {r:Ty} {w0:World} {η0:Env} {H:List (Nat×HEnt)} (hp:OvC c w0 η0 H K (XL T L w1)) (hc:CtN P f us rr) (hf:FnI P f) (hr: ∀m F w v,(rr m).p F w v→r.p (fun b=>F b∧m≤b) w v)
    (ha:HandL T L w1 us' us) (hl:xs.length=us'.length):
    Does P c ⟨some d,.call {callee:= .value (.func f),args:=xs.toArray,argTypes:=aT},ty,pos,af,gd⟩ ⟨xs.zip (us'.map Ent.val),[(K,⟨0,1,false,[]⟩)],some (d,some (.val r)),[],[]⟩:=
  d_callX hp hc hf hr (fun _ _ _ hJ hv=>HandL.all hJ ha hv) hl
end
theorem hrE {rr:Nat→Ty} {u:Value} (h: ∀m,rr m=tE u) (m:Nat) (F:Dom) (w:World) (v:Value) (hp:(rr m).p F w v):(tE u).p (fun b=>F b∧m≤b) w v:=by rw [h m] at hp;exact hp
theorem hrT {t:Ty} {u:Value} (m:Nat) (F:Dom) (w:World) (v:Value) (hp:(tT [tG (up m) t,tE u]).p F w v):(tT [t,tE u]).p (fun b=>F b∧m≤b) w v:=by
  obtain ⟨vs,h1,h2⟩:=hp
  refine ⟨vs,h1,?_⟩
  match vs,h2 with
  | [a,b],h2=>exact ⟨h2.1,h2.2.1,trivial⟩
  | [],h2=>exact h2.elim
  | [_],h2=>exact h2.2.elim
  | _::_::_::_,h2=>exact h2.2.2.elim
end An

/- What was lent to a law is written over. -/
namespace An.S
open Go Go.Proofs An
set_option maxHeartbeats 2000000
set_option maxRecDepth 100000
/-- Structs, field by field, from one memory to the other. -/
def Trs (F F':Dom) (w w':World):List Fd→List Fd→Prop
  | [],[]=>True
  | f::r,g::s=>(f.n=g.n∧f.agg=g.agg∧ ∀v,f.t.p F w v→g.t.p F' w' v)∧Trs F F' w w' r s
  | _,_=>False
theorem Trs.sum {F F':Dom} {w w':World}: ∀{fs gs:List Fd},Trs F F' w w' fs gs→Fd.sum fs=Fd.sum gs
  | [],[],_=>rfl
  | _::_,_::_,h=>by rw [Fd.sum,Fd.sum,h.1.1,Trs.sum h.2]
  | [],_::_,h=>h.elim
  | _::_,[],h=>h.elim
theorem Trs.all {F F':Dom} {w w':World} {cs:Array Value}: ∀{fs gs:List Fd} {o:Nat},Trs F F' w w' fs gs→Fd.all F w cs o fs→Fd.all F' w' cs o gs
  | [],[],_,_,_=>trivial
  | f::r,g::s,o,h,ha=>by
    obtain ⟨⟨h1,h2,h3⟩,h4⟩:=h
    refine ⟨⟨by rw [←h1,←h2];exact ha.1.1,by rw [←h1,←h2];exact h3 _ ha.1.2⟩,?_⟩
    rw [←h1];exact Trs.all h4 ha.2
  | [],_::_,_,h,_=>h.elim
  | _::_,[],_,h,_=>h.elim
theorem Trs.S {F F':Dom} {w w':World} {fs gs:List Fd} (h:Trs F F' w w' fs gs): ∀v,(tS fs).p F w v→(tS gs).p F' w' v:=fun _ ⟨cs,h1,h2,h3⟩=>⟨cs,h1,h2.trans h.sum,h.all h3⟩
theorem lmW_V {L F:Dom} {w1 w:World} {l:List Nat} (v:Value) (h:(tLmW l).p L w1 v):(tSlV (vOf 64 L w1) l.length).p F w v:=by
  obtain ⟨b,c,cs,h1,hF,hh,h2,h3,h4,h5,h6,hx⟩:=h
  rw [Nat.mul_one] at h2
  obtain ⟨m,hm,hle⟩:=vOf_mk (n:=l.length+12) hF hh (by omega) (fun i hi=>by
    have hlt:i < (l++mk16).length:=by rw [List.length_append,mk16_len];omega
    have:=hx i _ (List.getElem?_eq_getElem hlt)
    have h0:pick false 1 cs (i*1)= .int .u16 (((l++mk16)[i]:Nat):Int):=this
    rw [Nat.mul_one,pick,cond_false,Array.getD_eq_getD_getElem?] at h0
    rw [mk16_len] at h5
    cases hg:cs[i]? with
    | none=>rw [Array.getElem?_eq_none_iff] at hg;omega
    | some z=>rw [hg] at h0;exact ⟨_,by rw [show z=_ from h0]⟩)
  exact ⟨b,m,cs.size,by rw [h1,h2],hm,hle⟩
theorem whW_V {L F:Dom} {w1 w:World} {x:Wh}: ∀v,(tWhW x).p L w1 v→(tWhV (vOf 64 L w1) x).p F w v:=Trs.S ⟨⟨rfl,rfl,fun _ h=>h⟩,⟨rfl,rfl,lmW_V⟩,trivial⟩
theorem frW_V {L F:Dom} {w1 w:World} {f:Fr}: ∀v,(tFrW f).p L w1 v→(tFrV (vOf 64 L w1) f).p F w v:=Trs.S ⟨⟨rfl,rfl,whW_V⟩,⟨rfl,rfl,whW_V⟩,trivial⟩
theorem vaW_V {L F:Dom} {w1 w:World} {x:Va}: ∀v,(tVaW x).p L w1 v→(tVaV (vOf 64 L w1) x).p F w v:=Trs.S ⟨⟨rfl,rfl,fun _ h=>h⟩,⟨rfl,rfl,frW_V⟩,⟨rfl,rfl,fun _ h=>h⟩,trivial⟩
theorem tsW_V {L F:Dom} {w1 w:World} {s:Tst}: ∀v,(tTsW s).p L w1 v→(tTsV (vOf 64 L w1) s).p F w v:=Trs.S ⟨⟨rfl,rfl,fun _ h=>h⟩,⟨rfl,rfl,fun _ h=>h⟩,⟨rfl,rfl,vaW_V⟩,trivial⟩
theorem Free.nil {α:Type} {es:Nat} {agg:Bool} {f:α→Ty}:Free (tL es agg f []):=fun _ _ _ _ _ ⟨A,c,h1,h2,h3,_⟩=>⟨A,c,h1,h2,h3,.inl rfl⟩
theorem free_smk {k i:Nat}:Free (tTs (smk k i)):=Free.S ⟨Free.E,Free.E,Free.S ⟨Free.E,Free.S ⟨Free.S ⟨Free.E,Free.nil,trivial⟩,Free.S ⟨Free.E,Free.nil,trivial⟩,trivial⟩,Free.E,trivial⟩,trivial⟩
theorem lm_mem {l:List Tst} {i:Nat} {x:Tst×Bool} (h:(lmT l++mmT mkT)[i]? =some x):x.2=true∨ ∃j,x=(smk 1 j,false):=by
  have hm:=List.mem_of_getElem? h
  rcases List.mem_append.1 hm with h1 | h1
  · obtain ⟨s,_,rfl⟩:=List.mem_map.1 h1;exact .inl rfl
  · obtain ⟨s,hs,rfl⟩:=List.mem_map.1 h1
    obtain ⟨j,_,rfl⟩:=List.mem_map.1 hs
    exact .inr ⟨j,rfl⟩
theorem tsM_V {L F:Dom} {w1 w:World} {x:Tst×Bool} (hx:x.2=true∨ ∃j,x=(smk 1 j,false)) {v:Value} (h:(tTsM x).p L w1 v):(tTsVM (vOf 64 L w1) x).p F w v:=by
  rcases hx with hx | ⟨j,rfl⟩
  · obtain ⟨s,b⟩:=x
    have hx:b=true:=hx
    subst hx;exact tsW_V v h
  · exact free_smk _ _ _ _ _ h
theorem v_OverStepsL (L:Dom) (w1:World) (l:List Tst) (hl:l.length≤60) (hs: ∀s∈l,s.v.f.n.l.length≤9000000∧s.v.f.d.l.length≤9000000) (v:Value) (hv:(tStW l).p L w1 v):CtV Tryz.prog (XL 64 L w1) 84 [] [.val (tE v)] 0 1:=by
  intro w η vs hvs _ _ hD hJ
  match vs,hvs with
  | [u],hvs=>
  have hu:u=v:=hvs.1
  subst hu
  obtain ⟨b,c,cs,e,hLb,hh,h2,h3,h4,h5,h6,hx⟩:=hv
  have hJ:(∀_:0=0,∀b,L b→w.heap[b]? =w1.heap[b]?)∧_:=hJ
  have hw:=(hJ.1 rfl b hLb).trans hh
  rw [xg6,mmT_len,mkT_len] at h5
  rw [xg6] at e
  have hown: ∀b',OwnK (⟨fun _=>b,fun _=>c,fun _=>False⟩:Env) [(1,⟨59,8,true,rV (tTsVM (vOf 64 (fun b'=>L b'∧b'≠b) w1)) (lmT l++mmT mkT)⟩)] b'→b'=b:=by
    rintro b' ⟨x,hx,_,rfl⟩
    rfl
  refine (v_OverSteps (vOf 64 (fun b'=>L b'∧b'≠b) w1) l hl hs w ⟨fun _=>b,fun _=>c,fun _=>False⟩ [u] ⟨⟨_,e,?_,fun _=> ?_⟩,trivial⟩ ?_ ?_ (fun b' hb'=> ?_) (vOf_JV fun b' hb=>hJ.1 rfl b' hb.1)).mono ?_
  · show 0+l.length≤c;omega
  · simp
  · intro y hy
    rw [List.mem_singleton] at hy
    subst hy
    refine ⟨by rw [xf8,List.length_append,xg6,mmT_len,mkT_len];exact h5,h3,h4,h6,fun _=>⟨cs,hw,h2,fun i ent he=> ?_⟩⟩
    rw [rV,List.getElem?_map] at he
    obtain ⟨y,hy,rfl⟩:=Option.map_eq_some_iff.1 he
    exact tsM_V (lm_mem hy) (hx i y hy)
  · intro x hx y hy hne
    rw [List.mem_singleton] at hx hy
    subst hx hy;exact absurd rfl hne
  · obtain ⟨x,hxb⟩:=hb'
    have h7:=(vOf_some (m:=x.1) (c:=x.2) hxb).1
    exact ⟨(hD b' h7.1).1,fun ho=>h7.2 (hown b' ho)⟩
  · rintro e' w' ⟨r1,r2,r3⟩
    refine ⟨r1,r2.mono fun b' _ hb'=> .inr ?_,fun h=>(by cases h),fun _ b' m c' hV=> ?_,fun b' hb'=>Nat.lt_of_lt_of_le (hD b' hb').1 r2.size⟩
    · rcases hb' with hb' | ⟨x,hxb⟩
      · rw [hown b' hb'];exact hLb
      · exact (vOf_some (m:=x.1) (c:=x.2) hxb).1.1
    · obtain ⟨k1,cs1,k2,_⟩:=vOf_some hV
      have hne:b'≠b:=by
        rintro rfl
        rw [hh] at k2
        have k3:(59:Nat)=64:=by injection k2 with k2;injection k2
        exact absurd k3 (by decide)
      refine r3 b' m c' ?_
      rw [←hV];unfold vOf;rw [if_pos k1,if_pos ⟨k1,hne⟩]
theorem v_OverFracL (L:Dom) (w1:World) (f:Fr) (h1:f.n.l.length≤9000000) (h2:f.d.l.length≤9000000) (v:Value) (hv:(tFrW f).p L w1 v):CtV Tryz.prog (XL 64 L w1) 85 [] [.val (tE v)] 1 1:=by
  intro w η vs hvs _ _ hD hJ
  match vs,hvs with
  | [u],hvs=>
  have hu:u=v:=hvs.1
  subst hu
  have hJ1:JV 64 (vOf 64 L w1) w:=hJ.2.1 rfl
  refine (v_OverFrac (vOf 64 L w1) f h1 h2 w η [u] ⟨frW_V u hv,trivial⟩ (fun _ h=>(by cases h)) (fun _ h=>(by cases h)) (fun b' hb'=> ?_) hJ1).mono ?_
  · obtain ⟨x,hxb⟩:=hb'
    exact hD b' (vOf_some (m:=x.1) (c:=x.2) hxb).1
  · rintro e' w' ⟨r1,r2,r3⟩
    refine ⟨r1,r2.mono fun b' _ hb'=> ?_,fun h=>(by cases h),fun _=>r3,fun b' hb'=>Nat.lt_of_lt_of_le (hD b' hb').1 r2.size⟩
    rcases hb' with hb' | ⟨x,hxb⟩
    · exact .inl hb'
    · exact .inr (vOf_some (m:=x.1) (c:=x.2) hxb).1
end An.S

/- The reference of layer 5 for values. -/
namespace An.S
open Go Go.Proofs An
set_option maxHeartbeats 2000000
set_option maxRecDepth 100000
instance fi199:FnI Tryz.prog 199:=⟨_,Tryz.func199,by kernel_rfl,rfl⟩
theorem fr0_eq {f:Fr} (h1:f.n.neg=false) (h2:f.d.neg=false) (h3:f.n.l.length=0) (h4:f.d.l.length=0):f=fr0:=by
  obtain ⟨⟨n1,l1⟩,⟨n2,l2⟩⟩:=f
  simp only at h1 h2 h3 h4
  rw [h1,h2,List.length_eq_zero_iff.1 h3,List.length_eq_zero_iff.1 h4];rfl
theorem fr0_ne {f:Fr} (h:f.n.neg=true∨f.d.neg=true∨0 < f.n.l.length∨0 < f.d.l.length):f≠fr0:=by
  rintro rfl
  rcases h with h | h | h | h <;> cases h
theorem va_no {v:Va} (h1: ¬(v.kind=2∨v.kind=3)) (h2:v.f≠fr0):v.valid=false:=by
  simp only [Va.valid]
  rw [if_neg h1,decide_eq_false h2]
  simp
theorem va_eq {u v:Va}:u=v↔u.kind=v.kind∧u.i=v.i∧u.f.n=v.f.n∧u.f.d=v.f.d:=by
  constructor
  · rintro rfl;exact ⟨rfl,rfl,rfl,rfl⟩
  · obtain ⟨k,⟨n,d⟩,i⟩:=u
    obtain ⟨k2,⟨n2,d2⟩,i2⟩:=v
    rintro ⟨h1,h2,h3,h4⟩
    simp only at h1 h2 h3 h4
    rw [h1,h2,h3,h4]
theorem c_R5Valid (v:Va) (hD:v.f.dig) (h1:v.f.n.l.length≤1048576) (h2:v.f.d.l.length≤1048576):
  Ct Tryz.prog 122 [tVa v] (tB v.valid):=by
 refine Ct.intro Tryz.func122 rfl Tryz.ntmps122 rfl ?_
 intro w F
 refine A9 ?_
 refine A4 ?_
 refine RGcaseD (t:=6) rfl (fun h14=> ?_) (fun h14=> ?_)
 ·
  refine A9 ?_
  refine A4 ?_
  refine RGcaseD (t:=14) rfl (fun h15=> ?_) (fun h15=> ?_)
  ·
   refine A2 ?_
   refine RGon (decide_eq_true h15) rfl (x3 (c_R2Valid v.f hD.1 hD.2) fi52 rfl) rfl ⟨rfl,trivial⟩ trivial trivial ?_
   refine A6 ?_
   exact x4 Plain.mk' rfl rfl (Le.bool (by simp only [Va.valid];rw [if_pos (show v.kind=2∨v.kind=3 by omega),decide_eq_true h15,Bool.true_and]))
  ·
   refine A9 ?_
   exact x4 Plain.mk' rfl rfl (Le.bool (by simp only [Va.valid];rw [if_pos (show v.kind=2∨v.kind=3 by omega),decide_eq_false h15];rfl))
 ·
  refine A6 ?_
  refine xa0 rfl (fun h14_2=> ?_) (fun h14_2=> ?_)
  ·
   refine A6 ?_
   refine RGcaseD (t:=14) rfl (fun h15=> ?_) (fun h15=> ?_)
   ·
    refine A2 ?_
    refine RGon (decide_eq_true h15) rfl (x3 (c_R2Valid v.f hD.1 hD.2) fi52 rfl) rfl ⟨rfl,trivial⟩ trivial trivial ?_
    refine A6 ?_
    exact x4 Plain.mk' rfl rfl (Le.bool (by simp only [Va.valid];rw [if_pos (show v.kind=2∨v.kind=3 by omega),decide_eq_true h15,Bool.true_and]))
   ·
    refine A9 ?_
    exact x4 Plain.mk' rfl rfl (Le.bool (by simp only [Va.valid];rw [if_pos (show v.kind=2∨v.kind=3 by omega),decide_eq_false h15];rfl))
  ·
   refine A8 ?_
   refine xe8 (0) ti4 rfl rfl rfl (At.t (At.g 1 rfl rfl) (At.t (At.g 0 rfl rfl) (At.g 0 rfl rfl))) rfl ?_
   refine A1 ?_
   refine RGcase (t:=23) rfl (fun h17=> ?_) (fun h17=> ?_)
   ·
    have hnf:v.f≠fr0:=fr0_ne (.inl h17)
    refine A9 ?_
    refine A9 ?_
    refine A9 ?_
    refine A2 ?_
    exact x4 Plain.mk' rfl rfl (Le.bool (va_no (by omega) hnf).symm)
   ·
    refine A3 ?_
    refine xb6 h17 rfl rfl (0) ti4 rfl rfl rfl (At.t (At.g 1 rfl rfl) (At.t (At.g 1 rfl rfl) (At.g 0 rfl rfl))) rfl ?_
    refine A2 ?_
    refine RGcase (t:=29) rfl (fun h17_2=> ?_) (fun h17_2=> ?_)
    ·
     have hnf:v.f≠fr0:=fr0_ne (.inr (.inl h17_2))
     refine A9 ?_
     refine A9 ?_
     refine A5 ?_
     exact x4 Plain.mk' rfl rfl (Le.bool (va_no (by omega) hnf).symm)
    ·
     refine A3 ?_
     refine xb6 h17_2 rfl rfl (0) ti37 rfl rfl rfl (At.t (At.g 1 rfl rfl) (At.t (At.g 0 rfl rfl) (At.g 1 rfl rfl))) rfl ?_
     refine A4 ?_
     refine xb6 h17_2 rfl rfl (0) ti37 rfl rfl rfl (At.t (At.g 1 rfl rfl) (At.t (At.g 1 rfl rfl) (At.g 1 rfl rfl))) rfl ?_
     refine A1 ?_
     refine RGon h17_2 rfl (xd8 (wr64 (by omega) (by omega))) rfl ⟨rfl,rfl,trivial⟩ trivial trivial ?_
     refine A4 ?_
     refine xa0 rfl (fun h17_3=> ?_) (fun h17_3=> ?_)
     ·
      have hnf:v.f≠fr0:=fr0_ne (by omega)
      refine A7 ?_
      exact x4 Plain.mk' rfl rfl (Le.bool (va_no (by omega) hnf).symm)
     ·
      have hf0:v.f=fr0:=fr0_eq h17 h17_2 (by omega) (by omega)
      refine A9 ?_
      refine A7 ?_
      refine xa0 rfl (fun h21=> ?_) (fun h21=> ?_)
      ·
       refine A6 ?_
       refine RGcaseD (t:=50) rfl (fun h22=> ?_) (fun h22=> ?_)
       ·
        refine A9 ?_
        refine A1 ?_
        exact x4 Plain.mk' rfl rfl (Le.bool (by simp only [Va.valid];rw [if_neg (show ¬(v.kind=2∨v.kind=3) by omega),if_pos (show v.kind=1 by omega),decide_eq_true hf0,Bool.true_and,decide_eq_true (show 0≤v.i by omega),decide_eq_true (show v.i≤1 by omega)];rfl))
       ·
        refine A9 ?_
        refine A1 ?_
        exact x4 Plain.mk' rfl rfl (Le.bool (by simp only [Va.valid];rw [if_neg (show ¬(v.kind=2∨v.kind=3) by omega),if_pos (show v.kind=1 by omega),decide_eq_true hf0,Bool.true_and,←Bool.decide_and];exact decide_eq_decide.2 (by omega)))
      ·
       refine A6 ?_
       refine xa0 rfl (fun h23=> ?_) (fun h23=> ?_)
       ·
        refine A6 ?_
        refine RGcaseD (t:=60) rfl (fun h24=> ?_) (fun h24=> ?_)
        ·
         refine A9 ?_
         refine A1 ?_
         exact x4 Plain.mk' rfl rfl (Le.bool (by simp only [Va.valid];rw [if_neg (show ¬(v.kind=2∨v.kind=3) by omega),if_neg (show ¬v.kind=1 by omega),if_pos (show v.kind=4 by omega),decide_eq_true hf0,Bool.true_and,←Bool.decide_and];exact decide_eq_decide.2 (by omega)))
        ·
         refine A9 ?_
         refine A1 ?_
         exact x4 Plain.mk' rfl rfl (Le.bool (by simp only [Va.valid];rw [if_neg (show ¬(v.kind=2∨v.kind=3) by omega),if_neg (show ¬v.kind=1 by omega),if_pos (show v.kind=4 by omega),decide_eq_true hf0,Bool.true_and,decide_eq_false (show ¬0≤v.i by omega)];rfl))
       ·
        refine A7 ?_
        refine xa0 rfl (fun h25=> ?_) (fun h25=> ?_)
        ·
         refine A2 ?_
         refine C_bT rfl (decide_eq_true (by omega)) ?_
         refine A6 ?_
         refine RGcaseD (t:=71) rfl (fun h26=> ?_) (fun h26=> ?_)
         ·
          refine A9 ?_
          refine A1 ?_
          exact x4 Plain.mk' rfl rfl (Le.bool (by simp only [Va.valid];rw [if_neg (show ¬(v.kind=2∨v.kind=3) by omega),if_neg (show ¬v.kind=1 by omega),if_neg (show ¬v.kind=4 by omega),if_pos (show v.kind=5∨v.kind=6 by omega),decide_eq_true hf0,Bool.true_and,←Bool.decide_and];exact decide_eq_decide.2 (by omega)))
         ·
          refine A9 ?_
          refine A1 ?_
          exact x4 Plain.mk' rfl rfl (Le.bool (by simp only [Va.valid];rw [if_neg (show ¬(v.kind=2∨v.kind=3) by omega),if_neg (show ¬v.kind=1 by omega),if_neg (show ¬v.kind=4 by omega),if_pos (show v.kind=5∨v.kind=6 by omega),decide_eq_true hf0,Bool.true_and,decide_eq_false (show ¬ -1048576≤v.i by omega)];rfl))
        ·
         refine A5 ?_
         refine xa0 rfl (fun h25_2=> ?_) (fun h25_2=> ?_)
         ·
          refine A6 ?_
          refine RGcaseD (t:=71) rfl (fun h26=> ?_) (fun h26=> ?_)
          ·
           refine A9 ?_
           refine A1 ?_
           exact x4 Plain.mk' rfl rfl (Le.bool (by simp only [Va.valid];rw [if_neg (show ¬(v.kind=2∨v.kind=3) by omega),if_neg (show ¬v.kind=1 by omega),if_neg (show ¬v.kind=4 by omega),if_pos (show v.kind=5∨v.kind=6 by omega),decide_eq_true hf0,Bool.true_and,←Bool.decide_and];exact decide_eq_decide.2 (by omega)))
          ·
           refine A9 ?_
           refine A1 ?_
           exact x4 Plain.mk' rfl rfl (Le.bool (by simp only [Va.valid];rw [if_neg (show ¬(v.kind=2∨v.kind=3) by omega),if_neg (show ¬v.kind=1 by omega),if_neg (show ¬v.kind=4 by omega),if_pos (show v.kind=5∨v.kind=6 by omega),decide_eq_true hf0,Bool.true_and,decide_eq_false (show ¬ -1048576≤v.i by omega)];rfl))
         ·
          refine A9 ?_
          exact x4 Plain.mk' rfl rfl (Le.bool (by simp only [Va.valid];rw [if_neg (show ¬(v.kind=2∨v.kind=3) by omega),if_neg (show ¬v.kind=1 by omega),if_neg (show ¬v.kind=4 by omega),if_neg (show ¬(v.kind=5∨v.kind=6) by omega)]))
theorem c_R5whole (x y:Wh) (hx:x.l.length≤1048576):
  Ct Tryz.prog 199 [tWh x,tWh y] (tB (decide (x=y))):=by
 refine Ct.intro Tryz.func199 rfl Tryz.ntmps199 rfl ?_
 intro w F
 refine A9 ?_
 refine A7 ?_
 refine RGcase (t:=11) rfl (fun h33=> ?_) (fun h33=> ?_)
 ·
  have hn:x.neg≠y.neg:=fun h=>by rw [h] at h33;simp at h33
  refine A9 ?_
  refine A9 ?_
  exact x4 Plain.mk' rfl rfl (Le.bool (decide_eq_false (fun h=>hn (by rw [h]))).symm)
 ·
  have hn:x.neg=y.neg:=by simpa using h33
  refine A9 ?_
  refine A1 ?_
  refine xa0 rfl (fun h33_2=> ?_) (fun h33_2=> ?_)
  ·
   refine A7 ?_
   exact x4 Plain.mk' rfl rfl (Le.bool (decide_eq_false (fun h=>by rw [h] at h33_2;omega)).symm)
  ·
   have hll:x.l.length=y.l.length:=by omega
   refine A9 ?_
   refine cL (fun (i:Nat)=>i≤x.l.length∧x.l.take i=y.l.take i) (fun (i:Nat)=>upd (upd (upd (fun _=>none) 2 (some (.own (.ptr 2 0)))) 3 (some (.own (.ptr 3 0)))) 5 (some (.val (tI i)))) (fun (i:Nat)=>upd (upd (fun _=>none) 2 (some (⟨39,2,true,[.val (tWh x)]⟩))) 3 (some (⟨39,2,true,[.val (tWh y)]⟩))) [2,3] (fun (i:Nat)=>x.l.length - i) (0) ⟨Nat.zero_le _,rfl⟩ (hh:=((SubK.consI rfl ImpK.refl) ((SubK.consI rfl ImpK.refl) SubK.nil))) ?_
   intro i hI
   obtain ⟨hi,ht⟩:=hI
   refine A9 ?_
   refine A1 ?_
   refine xa0 rfl (fun h36=> ?_) (fun h36=> ?_)
   ·
    refine A9 ?_
    refine R2 (x7 sl37 (i) (by omega) (gN (by omega))) rfl rfl ?_
    refine A4 ?_
    refine R2 (x7 sl37 (i) (by omega) (gN (by omega))) rfl rfl ?_
    refine A4 ?_
    refine xa0 rfl (fun h37=> ?_) (fun h37=> ?_)
    ·
     refine A9 ?_
     refine A2 ?_
     exact x4 Plain.mk' rfl rfl (Le.bool (decide_eq_false (fun h=>by rw [h] at h37;omega)).symm)
    ·
     refine A8 ?_
     exact kF (i+1) ⟨⟨by omega,by rw [xe5 x.l i (by omega),xe5 y.l i (by omega),ht,show x.l.getD i 0=y.l.getD i 0 by omega]⟩,(by omega)⟩ (hh:=((SubK.consI rfl ImpK.refl) ((SubK.consI rfl ImpK.refl) SubK.nil)))
   ·
    refine A9 ?_
    refine A2 ?_
    exact x4 Plain.mk' rfl rfl (Le.bool (decide_eq_true (by rw [show i=x.l.length by omega,List.take_length,hll,List.take_length] at ht;obtain ⟨a,b⟩:=x;obtain ⟨c,d⟩:=y;simp only at hn ht;rw [hn,ht])).symm)
theorem c_R5Same (u v:Va) (h1:u.f.n.l.length≤1048576) (h2:u.f.d.l.length≤1048576):
  Ct Tryz.prog 124 [tVa u,tVa v] (tB (decide (u=v))):=by
 refine Ct.intro Tryz.func124 rfl Tryz.ntmps124 rfl ?_
 intro w F
 refine A9 ?_
 refine A6 ?_
 refine RGcaseD (t:=10) rfl (fun h46=> ?_) (fun h46=> ?_)
 ·
  refine A7 ?_
  refine RGcaseD (t:=17) rfl (fun h46_2=> ?_) (fun h46_2=> ?_)
  ·
   refine A2 ?_
   refine xb6 (decide_eq_true h46_2) rfl rfl (0) ti39 rfl rfl rfl (At.t (At.g 1 rfl rfl) (At.g 0 rfl rfl)) rfl ?_
   refine A2 ?_
   refine xb6 (decide_eq_true h46_2) rfl rfl (0) ti39 rfl rfl rfl (At.t (At.g 1 rfl rfl) (At.g 0 rfl rfl)) rfl (RGon (decide_eq_true h46_2) rfl (x3 (c_R5whole _ _ h1) fi199 rfl) rfl ⟨rfl,rfl,trivial⟩ trivial trivial ?_)
   refine A2 ?_
   refine RGcaseD (t:=26) rfl (fun h46_3=> ?_) (fun h46_3=> ?_)
   ·
    refine A2 ?_
    refine xb6 (decide_eq_true h46_3) rfl rfl (0) ti39 rfl rfl rfl (At.t (At.g 1 rfl rfl) (At.g 1 rfl rfl)) rfl ?_
    refine A2 ?_
    refine xb6 (decide_eq_true h46_3) rfl rfl (0) ti39 rfl rfl rfl (At.t (At.g 1 rfl rfl) (At.g 1 rfl rfl)) rfl (RGon (decide_eq_true h46_3) rfl (x3 (c_R5whole _ _ h2) fi199 rfl) rfl ⟨rfl,rfl,trivial⟩ trivial trivial ?_)
    refine A5 ?_
    exact x4 Plain.mk' rfl rfl (Le.bool (decide_eq_decide.2 (by rw [va_eq];exact ⟨fun h=>⟨by omega,by omega,h46_3,h⟩,fun h=>h.2.2.2⟩)))
   ·
    refine A9 ?_
    refine A3 ?_
    exact x4 Plain.mk' rfl rfl (Le.bool (decide_eq_false (fun h=>h46_3 (va_eq.1 h).2.2.1)).symm)
  ·
   refine A9 ?_
   refine A9 ?_
   refine A3 ?_
   exact x4 Plain.mk' rfl rfl (Le.bool (decide_eq_false (fun h=>h46_2 (va_eq.1 h).2.1)).symm)
 ·
  refine A9 ?_
  refine A9 ?_
  refine A9 ?_
  refine A1 ?_
  exact x4 Plain.mk' rfl rfl (Le.bool (decide_eq_false (fun h=>h46 (by rw [h]))).symm)
end An.S

/- Layer 5, as the reference tells it: what a timeline is, parts. Plain data. -/
namespace An.S
open Go
/-- A step, as the reference looks at it. -/
def rOk (l:List Tst) (i:Nat):Prop:=((0≤(l.getD i tst0).lo∧(l.getD i tst0).lo < (l.getD i tst0).hi∧(l.getD i tst0).hi≤65536)∧(l.getD i tst0).v.valid=true∧(l.getD i tst0).v.kind=(l.getD 0 tst0).v.kind)∧
  (i=0∨(l.getD (i - 1) tst0).hi≤(l.getD i tst0).lo∧ ¬((l.getD (i - 1) tst0).hi=(l.getD i tst0).lo∧(l.getD (i - 1) tst0).v=(l.getD i tst0).v))
theorem right_R {l:List Tst}:tRight l=true↔ ∀i,i < l.length→rOk l i:=by
  constructor
  · intro h i hi
    have h1:=xh2 h hi
    exact ⟨⟨⟨h1.1,h1.2.1,h1.2.2.1⟩,tRight_valid h _ (xb2 hi),kind_at h hi⟩,h1.2.2.2.imp id fun h2=>⟨h2.1,h2.2.2⟩⟩
  · intro h
    refine tRight_iff.2 ⟨fun i hi=>tOk_iff.2 ?_,fun s hs=> ?_⟩
    · have h1:=h i hi
      refine ⟨h1.1.1.1,h1.1.1.2.1,h1.1.1.2.2,h1.2.imp id fun h2=>⟨h2.1,?_,h2.2⟩⟩
      rw [h1.1.2.2]
      by_cases h0:i=0
      · subst h0;rfl
      · exact (h (i - 1) (by omega)).1.2.2
    · obtain ⟨i,hi,rfl⟩:=exists_getD hs
      exact (h i hi).1.2.1
theorem right_no {l:List Tst} {i:Nat} (hi:i < l.length) (h: ¬rOk l i):false=tRight l:=by
  cases hr:tRight l with
  | false=>rfl
  | true=>exact absurd (right_R.1 hr i hi) h
def parR (acc:List Tst) (s:Tst):List Tst:=if s.lo < s.hi then acc++[s] else acc
def cutR (l:List Tst) (a b:Int):List Tst:=(l.map (clip a b)).foldl parR []
theorem cutR_next {l:List Tst} {a b:Int} {i:Nat} (hi:i < l.length):cutR (l.take (i+1)) a b=parR (cutR (l.take i) a b) (clip a b (l.getD i tst0)):=by
  rw [cutR,cutR,List.take_succ_eq_append_getElem hi,List.map_append,List.foldl_append,List.getD_eq_getElem?_getD,List.getElem?_eq_getElem hi];rfl
theorem cutT_next {l:List Tst} {a b:Int} {i:Nat} (hi:i < l.length):cutT (l.take (i+1)) a b=pst1 (cutT (l.take i) a b) (clip a b (l.getD i tst0)):=by
  rw [cutT,cutT,List.take_succ_eq_append_getElem hi,List.map_append,pst,List.foldl_append,List.getD_eq_getElem?_getD,List.getElem?_eq_getElem hi];rfl
theorem cutR_len {l:List Tst} {a b:Int}: ∀{i:Nat},i≤l.length→(cutR (l.take i) a b).length≤i
  | 0,_=>by simp [cutR]
  | i+1,hi=>by
    have:=cutR_len (l:=l) (a:=a) (b:=b) (i:=i) (by omega)
    rw [cutR_next (by omega),parR]
    split
    · simp;omega
    · omega
theorem cut_R' {l:List Tst} {a b:Int} (h:tRight l=true): ∀i,i≤l.length→cutR (l.take i) a b=cutT (l.take i) a b∧ ∀x∈cutR (l.take i) a b,∃j,j < i∧x=clip a b (l.getD j tst0)∧x.lo < x.hi
  | 0,_=>⟨by simp [cutR,cutT,pst],fun x hx=>by simp [cutR] at hx⟩
  | i+1,hi=>by
    obtain ⟨h1,h2⟩:=cut_R' h i (by omega)
    rw [cutR_next (by omega),cutT_next (by omega),←h1]
    have h3:=xh2 h (i:=i) (by omega)
    refine ⟨?_,fun x hx=> ?_⟩
    · rw [parR,pst1]
      by_cases c1:(clip a b (l.getD i tst0)).lo < (clip a b (l.getD i tst0)).hi
      · rw [if_pos c1,if_neg (by omega),if_neg]
        rintro ⟨q1,q2,q3⟩
        obtain ⟨j,hj,e,hlt⟩:=h2 _ (xb2 (l:=cutR (l.take i) a b) (i:=(cutR (l.take i) a b).length - 1) (by omega))
        rw [e] at q2 q3 hlt
        simp only [clip] at q2 q3 hlt c1
        have h4:=tRight_lt h hj (by omega)
        have e1:(l.getD j tst0).hi=(l.getD i tst0).lo:=by omega
        by_cases hji:j=i - 1
        · subst hji
          rcases h3.2.2.2 with h0 | h0
          · omega
          · exact h0.2.2 ⟨e1,q3⟩
        · have h5:=tRight_lt h (i:=j) (j:=i - 1) (by omega) (by omega)
          have h6:=(xh2 h (i:=i - 1) (by omega)).2.1
          have h7:=tRight_lt h (i:=i - 1) (j:=i) (by omega) (by omega)
          omega
      · rw [if_neg c1,if_pos (by omega)]
    · rw [parR] at hx
      split at hx
      · rename_i hc
        rcases List.mem_append.1 hx with hx | hx
        · obtain ⟨j,hj,h4⟩:=h2 x hx
          exact ⟨j,by omega,h4⟩
        · rw [List.mem_singleton.1 hx];exact ⟨i,by omega,rfl,hc⟩
      · obtain ⟨j,hj,h4⟩:=h2 x hx
        exact ⟨j,by omega,h4⟩
theorem cut_R {l:List Tst} {a b:Int} (h:tRight l=true):cutR l a b=cutT l a b:=by
  have:=(cut_R' (a:=a) (b:=b) h l.length (Nat.le_refl _)).1
  rwa [List.take_length] at this
end An.S

/- The reference of layer 5: what a timeline is, parts, sums. -/
namespace An.S
open Go Go.Proofs An
set_option maxHeartbeats 2000000
set_option maxRecDepth 100000
instance fi23:FnI Tryz.prog 23:=⟨_,Tryz.func23,by kernel_rfl,rfl⟩
instance fi107:FnI Tryz.prog 107:=⟨_,Tryz.func107,by kernel_rfl,rfl⟩
instance fi116:FnI Tryz.prog 116:=⟨_,Tryz.func116,by kernel_rfl,rfl⟩
instance fi122:FnI Tryz.prog 122:=⟨_,Tryz.func122,by kernel_rfl,rfl⟩
instance fi124:FnI Tryz.prog 124:=⟨_,Tryz.func124,by kernel_rfl,rfl⟩
instance fi163:FnI Tryz.prog 163:=⟨_,Tryz.func163,by kernel_rfl,rfl⟩
instance fi193:FnI Tryz.prog 193:=⟨_,Tryz.func193,by kernel_rfl,rfl⟩
instance fi194:FnI Tryz.prog 194:=⟨_,Tryz.func194,by kernel_rfl,rfl⟩
instance fi195:FnI Tryz.prog 195:=⟨_,Tryz.func195,by kernel_rfl,rfl⟩
instance fi227:FnI Tryz.prog 227:=⟨_,Tryz.func227,by kernel_rfl,rfl⟩
theorem c_R2Plus (a b:Rat) (ha:short a) (hb:short b):
  Ct Tryz.prog 227 [tFr (fr a),tFr (fr b)] (tFr (fr (a+b))):=by
 obtain ⟨an,ad⟩:=ha
 obtain ⟨bn,bd⟩:=hb
 have ha:short a:=⟨an,ad⟩
 have hb:short b:=⟨bn,bd⟩
 have da:=a.den_nz
 have db:=b.den_nz
 have l1:=len16_mul an bd
 have l2:=len16_mul bn ad
 have l3:=len16_mul ad bd
 have l4:=len16_add (x:=a.num*(b.den:Int)) (y:=b.num*(a.den:Int)) (k:=512) (by omega) (by omega)
 refine Ct.intro Tryz.func227 rfl Tryz.ntmps227 rfl ?_
 intro w F
 refine A4 ?_
 refine RE (x8 (k:=4) (n:=4) (agg:=true) zr41.1 zr41.2 rfl) trivial trivial ⟨rfl,trivial⟩ ?_
 refine A8 ?_
 refine R2 (x3 (c_RProduct a.num (b.den:Int) (by omega) (by omega)) fi140 rfl) rfl rfl ?_
 refine A4 ?_
 refine R2 (x3 (c_RProduct b.num (a.den:Int) (by omega) (by omega)) fi140 rfl) rfl rfl (R2 (x3 (c_RSum (a.num*(b.den:Int)) (b.num*(a.den:Int)) (by omega) (by omega)) fi217 rfl) rfl rfl (RE (x8 (k:=5) (n:=2) (agg:=true) zr39.1 zr39.2 rfl) trivial trivial ⟨rfl,trivial⟩ ?_))
 refine A9 ?_
 refine A1 ?_
 refine R2 (x3 (c_RProduct (a.den:Int) (b.den:Int) (by omega) (by omega)) fi140 rfl) rfl rfl (R2 (x3 (c_RLowest (a.num*(b.den:Int)+b.num*(a.den:Int)) ((a.den:Int)*(b.den:Int)) (by omega) (by omega) (Int.mul_ne_zero (by omega) (by omega))) fi70 rfl) rfl rfl ?_)
 refine A4 ?_
 exact xb8 Plain.mk' rfl ⟨_,_,_,_,_,rfl,rfl,ti41,(Le.of (by rw [add_divInt]))⟩
theorem c_R2Add (a b:Rat) (ha:short a) (hb:short b):
  Ct Tryz.prog 193 [tFr (fr a),tFr (fr b)] (tT [tFr (resF (a+b)),tI (resFE (a+b))]):=by
 refine Ct.intro Tryz.func193 rfl Tryz.ntmps193 rfl ?_
 intro w F
 refine A4 ?_
 refine RE (x8 (k:=4) (n:=4) (agg:=true) zr41.1 zr41.2 rfl) trivial trivial ⟨rfl,trivial⟩ ?_
 refine A7 ?_
 refine R1 (x3 (c_R2ValidQ a ha) fi52 rfl) rfl ?_
 refine A3 ?_
 refine RGon rfl rfl (x3 (c_R2ValidQ b hb) fi52 rfl) rfl ⟨rfl,trivial⟩ trivial trivial ?_
 refine A9 ?_
 refine A2 ?_
 refine R2 (x3 (c_R2Plus a b ha hb) fi227 rfl) rfl rfl (R1 (x3 (c_R2told (a+b)) fi258 rfl) rfl ?_)
 refine A7 ?_
 exact xa5 Plain.mk' (rs:=[.cell 4 41,.tmp 5]) rfl rfl ⟨⟨_,_,_,_,_,rfl,rfl,ti41,Le.refl⟩,⟨_,rfl,Le.refl⟩,trivial⟩
theorem c_R2MulT (f:Fr) (n:Int) (hf1:f=fr f.rat) (hf2:short f.rat) (hn:short (n:Rat)):Ct Tryz.prog 163 [tFr f,tFr (fr (n:Rat))] (tT [tFr (resF (f.rat*(n:Rat))),tI (resFE (f.rat*(n:Rat)))]):=by
  have h:=c_R2Mul f.rat (n:Rat) hf2 hn
  rw [←hf1] at h;exact h
theorem c_R2AddR (q p:Rat) (hq:short q) (hp:short p):Ct Tryz.prog 193 [tFr (fr q),tFr (resF p)] (tT [tFr (resF (q+p)),tI (resFE (q+p))]):=by
  rw [show resF p=fr p from if_pos hp];exact c_R2Add q p hq hp
theorem c_R5Right (l:List Tst) (hl:l.length≤500000) (hD: ∀s∈l,s.v.f.dig) (hs: ∀s∈l,s.v.f.n.l.length≤1048576∧s.v.f.d.l.length≤1048576):
    Ct Tryz.prog 107 [tL 8 true tTs l] (tB (tRight l)):=by
  refine Ct.intro Tryz.func107 rfl Tryz.ntmps107 rfl ?_
  intro w F
  refine A9 ?_
  refine A3 ?_
  refine cL (fun (i:Nat)=>i≤l.length∧ ∀j,j < i→rOk l j) (fun (i:Nat)=>upd (upd (fun _=>none) 0 (some (.val (tL 8 true tTs l)))) 3 (some (.val (tI i)))) (fun (i:Nat)=>fun _=>none) [] (fun (i:Nat)=>l.length - i) (0) ⟨Nat.zero_le _,fun j hj=>by omega⟩ ?_
  intro i hI
  obtain ⟨hi,hok⟩:=hI
  refine A9 ?_
  refine xa0 rfl (fun h51=> ?_) (fun h51=> ?_)
  ·
    refine A9 ?_
    refine R2 (x7 sl51 (i) (by omega) (gD (l:=l) (n:=i) (d:=tst0) (by omega))) rfl rfl (R1 (xa9 fo59_0.h (At.f 0 rfl rfl) rfl) rfl ?_)
    refine A3 ?_
    refine RGcaseD (t:=16) rfl (fun h52=> ?_) (fun h52=> ?_)
    ·
      refine A9 ?_
      refine A9 ?_
      refine A9 ?_
      refine A9 ?_
      refine A9 ?_
      refine A9 ?_
      refine A4 ?_
      exact x4 Plain.mk' rfl rfl (Le.bool (right_no (i:=i) (by omega) (fun h=>by have q1:=h.1.1;have q2:=h.1.2.1;have q3:=h.1.2.2;first | omega | (rw [q2] at h52_4;cases h52_4))))
    ·
      refine A2 ?_
      refine RGon (decide_eq_false h52) rfl (x7 sl51 (i) (by omega) (gD (l:=l) (n:=i) (d:=tst0) (by omega))) rfl ⟨rfl,rfl,trivial⟩ trivial trivial (RGon (decide_eq_false h52) rfl (xa9 fo59_0.h (At.f 0 rfl rfl) rfl) rfl ⟨rfl,trivial⟩ trivial trivial ?_)
      refine A3 ?_
      refine RGon (decide_eq_false h52) rfl (x7 sl51 (i) (by omega) (gD (l:=l) (n:=i) (d:=tst0) (by omega))) rfl ⟨rfl,rfl,trivial⟩ trivial trivial (RGon (decide_eq_false h52) rfl (xa9 fo59_1.h (At.f 1 rfl rfl) rfl) rfl ⟨rfl,trivial⟩ trivial trivial ?_)
      refine A4 ?_
      refine RGcaseD (t:=29) rfl (fun h52_2=> ?_) (fun h52_2=> ?_)
      ·
        refine A9 ?_
        refine A9 ?_
        refine A9 ?_
        refine A9 ?_
        refine A9 ?_
        exact x4 Plain.mk' rfl rfl (Le.bool (right_no (i:=i) (by omega) (fun h=>by have q1:=h.1.1;have q2:=h.1.2.1;have q3:=h.1.2.2;first | omega | (rw [q2] at h52_4;cases h52_4))))
      ·
        refine A2 ?_
        refine RGon (decide_eq_false h52_2) rfl (x7 sl51 (i) (by omega) (gD (l:=l) (n:=i) (d:=tst0) (by omega))) rfl ⟨rfl,rfl,trivial⟩ trivial trivial (RGon (decide_eq_false h52_2) rfl (xa9 fo59_1.h (At.f 1 rfl rfl) rfl) rfl ⟨rfl,trivial⟩ trivial trivial ?_)
        refine A4 ?_
        refine RGcaseD (t:=37) rfl (fun h52_3=> ?_) (fun h52_3=> ?_)
        ·
          refine A9 ?_
          refine A9 ?_
          refine A9 ?_
          refine A9 ?_
          refine A1 ?_
          exact x4 Plain.mk' rfl rfl (Le.bool (right_no (i:=i) (by omega) (fun h=>by have q1:=h.1.1;have q2:=h.1.2.1;have q3:=h.1.2.2;first | omega | (rw [q2] at h52_4;cases h52_4))))
        ·
          refine A2 ?_
          refine RGon (decide_eq_false h52_3) rfl (x7 sl51 (i) (by omega) (gD (l:=l) (n:=i) (d:=tst0) (by omega))) rfl ⟨rfl,rfl,trivial⟩ trivial trivial (RGon (decide_eq_false h52_3) rfl (xa9 fo59_2.h (At.f 2 rfl rfl) rfl) rfl ⟨rfl,trivial⟩ trivial trivial ?_)
          refine A1 ?_
          refine RGon (decide_eq_false h52_3) rfl (x3 (c_R5Valid _ (hD _ (xb2 (l:=l) (i:=i) (by omega))) (hs _ (xb2 (l:=l) (i:=i) (by omega))).1 (hs _ (xb2 (l:=l) (i:=i) (by omega))).2) fi122 rfl) rfl ⟨rfl,trivial⟩ trivial trivial ?_
          refine A3 ?_
          refine RGcase (t:=46) rfl (fun h52_4=> ?_) (fun h52_4=> ?_)
          ·
            refine A9 ?_
            refine A9 ?_
            refine A9 ?_
            refine A1 ?_
            exact x4 Plain.mk' rfl rfl (Le.bool (right_no (i:=i) (by omega) (fun h=>by have q1:=h.1.1;have q2:=h.1.2.1;have q3:=h.1.2.2;first | omega | (rw [q2] at h52_4;cases h52_4))))
          ·
            have hv:(l.getD i tst0).v.valid=true:=by simpa using h52_4
            refine A2 ?_
            refine RGon h52_4 rfl (x7 sl51 (i) (by omega) (gD (l:=l) (n:=i) (d:=tst0) (by omega))) rfl ⟨rfl,rfl,trivial⟩ trivial trivial (RGon h52_4 rfl (xa9 fo59_2.h (At.f 2 rfl rfl) rfl) rfl ⟨rfl,trivial⟩ trivial trivial (RGon h52_4 rfl (xa9 fo57_0.h (At.f 0 rfl rfl) rfl) rfl ⟨rfl,trivial⟩ trivial trivial ?_))
            refine A2 ?_
            refine RGon h52_4 rfl (x7 sl51 (0) (by omega) (gD (l:=l) (n:=0) (d:=tst0) (by omega))) rfl ⟨rfl,rfl,trivial⟩ trivial trivial (RGon h52_4 rfl (xa9 fo59_2.h (At.f 2 rfl rfl) rfl) rfl ⟨rfl,trivial⟩ trivial trivial (RGon h52_4 rfl (xa9 fo57_0.h (At.f 0 rfl rfl) rfl) rfl ⟨rfl,trivial⟩ trivial trivial ?_))
            refine A5 ?_
            refine xa0 rfl (fun h52_5=> ?_) (fun h52_5=> ?_)
            ·
              refine A9 ?_
              refine A3 ?_
              exact x4 Plain.mk' rfl rfl (Le.bool (right_no (i:=i) (by omega) (fun h=>by have q1:=h.1.1;have q2:=h.1.2.1;have q3:=h.1.2.2;first | omega | (rw [q2] at h52_4;cases h52_4))))
            ·
              refine A7 ?_
              refine RGcaseD (t:=62) rfl (fun h55=> ?_) (fun h55=> ?_)
              ·
                refine A2 ?_
                refine RGon (decide_eq_true h55) rfl (xd7 (wr64 (by omega) (by omega))) rfl ⟨rfl,rfl,trivial⟩ trivial trivial (RGon (decide_eq_true h55) rfl (x7 sl51 (i - 1) (by omega) (gD (l:=l) (n:=i - 1) (d:=tst0) (by omega))) rfl ⟨rfl,rfl,trivial⟩ trivial trivial (RGon (decide_eq_true h55) rfl (xa9 fo59_1.h (At.f 1 rfl rfl) rfl) rfl ⟨rfl,trivial⟩ trivial trivial ?_))
                refine A3 ?_
                refine RGon (decide_eq_true h55) rfl (x7 sl51 (i) (by omega) (gD (l:=l) (n:=i) (d:=tst0) (by omega))) rfl ⟨rfl,rfl,trivial⟩ trivial trivial (RGon (decide_eq_true h55) rfl (xa9 fo59_0.h (At.f 0 rfl rfl) rfl) rfl ⟨rfl,trivial⟩ trivial trivial ?_)
                refine A3 ?_
                refine RGcaseD (t:=75) rfl (fun h55_2=> ?_) (fun h55_2=> ?_)
                ·
                  refine A9 ?_
                  refine A9 ?_
                  refine A8 ?_
                  refine RGon (decide_eq_true h55) rfl (d_pickT (decide_eq_true h55_2)) rfl ⟨rfl,rfl,trivial⟩ trivial trivial ?_
                  refine A9 ?_
                  refine A6 ?_
                  exact x4 Plain.mk' rfl rfl (Le.bool (right_no (i:=i) (by omega) (fun h=>by have q:=h.2;first | omega | exact (q.resolve_left (by omega)).2 ⟨by omega,by assumption⟩)))
                ·
                  refine A2 ?_
                  refine RGon (decide_eq_false h55_2) rfl (xd7 (wr64 (by omega) (by omega))) rfl ⟨rfl,rfl,trivial⟩ trivial trivial (RGon (decide_eq_false h55_2) rfl (x7 sl51 (i - 1) (by omega) (gD (l:=l) (n:=i - 1) (d:=tst0) (by omega))) rfl ⟨rfl,rfl,trivial⟩ trivial trivial (RGon (decide_eq_false h55_2) rfl (xa9 fo59_1.h (At.f 1 rfl rfl) rfl) rfl ⟨rfl,trivial⟩ trivial trivial ?_))
                  refine A3 ?_
                  refine RGon (decide_eq_false h55_2) rfl (x7 sl51 (i) (by omega) (gD (l:=l) (n:=i) (d:=tst0) (by omega))) rfl ⟨rfl,rfl,trivial⟩ trivial trivial (RGon (decide_eq_false h55_2) rfl (xa9 fo59_0.h (At.f 0 rfl rfl) rfl) rfl ⟨rfl,trivial⟩ trivial trivial ?_)
                  refine A3 ?_
                  refine RGcaseD (t:=88) rfl (fun h55_3=> ?_) (fun h55_3=> ?_)
                  ·
                    refine A2 ?_
                    refine RGon (decide_eq_true h55_3) rfl (xd7 (wr64 (by omega) (by omega))) rfl ⟨rfl,rfl,trivial⟩ trivial trivial (RGon (decide_eq_true h55_3) rfl (x7 sl51 (i - 1) (by omega) (gD (l:=l) (n:=i - 1) (d:=tst0) (by omega))) rfl ⟨rfl,rfl,trivial⟩ trivial trivial (RGon (decide_eq_true h55_3) rfl (xa9 fo59_2.h (At.f 2 rfl rfl) rfl) rfl ⟨rfl,trivial⟩ trivial trivial ?_))
                    refine A3 ?_
                    refine RGon (decide_eq_true h55_3) rfl (x7 sl51 (i) (by omega) (gD (l:=l) (n:=i) (d:=tst0) (by omega))) rfl ⟨rfl,rfl,trivial⟩ trivial trivial (RGon (decide_eq_true h55_3) rfl (xa9 fo59_2.h (At.f 2 rfl rfl) rfl) rfl ⟨rfl,trivial⟩ trivial trivial ?_)
                    refine A1 ?_
                    refine RGon (decide_eq_true h55_3) rfl (x3 (c_R5Same _ _ (hs _ (xb2 (l:=l) (i:=i - 1) (by omega))).1 (hs _ (xb2 (l:=l) (i:=i - 1) (by omega))).2) fi124 rfl) rfl ⟨rfl,rfl,trivial⟩ trivial trivial (RGon (decide_eq_false h55_2) rfl (d_pickT (decide_eq_true h55_3)) rfl ⟨rfl,rfl,trivial⟩ trivial trivial (RGon (decide_eq_true h55) rfl (xf6 (decide_eq_false h55_2)) rfl ⟨rfl,rfl,trivial⟩ trivial trivial ?_))
                    refine A3 ?_
                    refine xa0 rfl (fun h55_4=> ?_) (fun h55_4=> ?_)
                    ·
                      refine A9 ?_
                      refine A2 ?_
                      exact x4 Plain.mk' rfl rfl (Le.bool (right_no (i:=i) (by omega) (fun h=>by have q:=h.2;first | omega | exact (q.resolve_left (by omega)).2 ⟨by omega,by assumption⟩)))
                    ·
                      refine A8 ?_
                      exact K_fam (i+1) ⟨⟨by omega,fun j hj=>by
    by_cases hji:j=i
    · subst hji;exact ⟨⟨⟨by omega,by omega,by omega⟩,hv,by omega⟩,.inr ⟨by omega,fun h=>h55_4 h.2⟩⟩
    · exact hok j (by omega)⟩, (by omega)⟩ (Sub.int rfl (by first | omega | rfl | (dsimp only; omega)) (Sub.cons rfl Sub.nil)) SubK.nil (SupG.val (SupG.val SupG.nil)) SupH.nil (lkOk rfl)
                  ·
                    refine A9 ?_
                    refine A3 ?_
                    refine RGon (decide_eq_false h55_2) rfl (xf6 (decide_eq_false h55_3)) rfl ⟨rfl,rfl,trivial⟩ trivial trivial (RGon (decide_eq_true h55) rfl (xf6 (decide_eq_false h55_2)) rfl ⟨rfl,rfl,trivial⟩ trivial trivial ?_)
                    refine A9 ?_
                    refine A3 ?_
                    exact K_fam (i+1) ⟨⟨by omega,fun j hj=>by
    by_cases hji:j=i
    · subst hji;exact ⟨⟨⟨by omega,by omega,by omega⟩,hv,by omega⟩,.inr ⟨by omega,fun h=>by omega⟩⟩
    · exact hok j (by omega)⟩, (by omega)⟩ (Sub.int rfl (by first | omega | rfl | (dsimp only; omega)) (Sub.cons rfl Sub.nil)) SubK.nil (SupG.val (SupG.val SupG.nil)) SupH.nil (lkOk rfl)
              ·
                refine A9 ?_
                refine A9 ?_
                refine A9 ?_
                refine A9 ?_
                refine A9 ?_
                refine A7 ?_
                exact K_fam (i+1) ⟨⟨by omega,fun j hj=>by
    by_cases hji:j=i
    · subst hji;exact ⟨⟨⟨by omega,by omega,by omega⟩,hv,by omega⟩,.inl (by omega)⟩
    · exact hok j (by omega)⟩,(by omega)⟩ (Sub.int rfl (by first | omega | rfl | (dsimp only;omega)) (Sub.cons rfl Sub.nil)) SubK.nil (SupG.val (SupG.val SupG.nil)) SupH.nil (lkOk rfl)
  ·
    refine A9 ?_
    refine A2 ?_
    exact x4 Plain.mk' rfl rfl (Le.bool (right_R.2 (fun j hj=>hok j (by omega))).symm)
theorem c_R5within (a b:Int):
  Ct Tryz.prog 194 [tI a,tI b] (tB (Sn.ok ⟨a,b⟩)):=by
 refine Ct.intro Tryz.func194 rfl Tryz.ntmps194 rfl ?_
 intro w F
 refine A9 ?_
 refine A1 ?_
 refine RGcaseD (t:=7) rfl (fun h91=> ?_) (fun h91=> ?_)
 ·
  refine A5 ?_
  refine RGcaseD (t:=12) rfl (fun h91_2=> ?_) (fun h91_2=> ?_)
  ·
   refine A7 ?_
   exact x4 Plain.mk' rfl rfl (Le.bool (by simp [Sn.ok, *]))
  ·
   refine A7 ?_
   exact x4 Plain.mk' rfl rfl (Le.bool (by simp [Sn.ok, *]))
 ·
  refine A9 ?_
  refine A3 ?_
  exact x4 Plain.mk' rfl rfl (Le.bool (by simp [Sn.ok, *]))
theorem c_R5part (zs:List Tst) (s:Tst) (a b:Int) (hz:zs.length≤1000000):
  CtG Tryz.prog 195 [(1,⟨59,8,true,rV tTs zs⟩)] [.own (.sl 1 8 0 zs.length),.val (tTs s),.val (tI a),.val (tI b)] (.own (.sl 90 8 0 (parR zs (clip a b s)).length)) [(90,⟨59,8,true,rV tTs (parR zs (clip a b s))⟩)] [90]:=by
 refine CtG.intro [1] Tryz.func195 rfl Tryz.ntmps195 rfl rfl ⟨⟨rfl,xd6⟩,trivial⟩ ?_
 intro w F η
 refine C_renS (t:=0) (k:=1) 90 rfl rfl rfl ?_
 refine A9 ?_
 refine A2 ?_
 refine R2 d_max2 rfl rfl ?_
 refine A3 ?_
 refine R2 d_min2 rfl rfl ?_
 refine A1 ?_
 refine xh5 (0) ti3 rfl rfl rfl rfl (Up.g 0 rfl rfl rfl) rfl rfl ?_
 refine A1 ?_
 refine xh5 (0) ti3 rfl rfl rfl rfl (Up.g 1 rfl rfl rfl) rfl rfl ?_
 refine A2 ?_
 refine xe6 (fun (_j:Unit)=>True) (fun (_j:Unit)=>upd (fun _=>none) 0 (some (.own (.sl 90 8 0 (parR zs (clip a b s)).length)))) (fun (_j:Unit)=>upd (fun _=>none) 90 (some (⟨59,8,true,rV tTs (parR zs (clip a b s))⟩))) (nm [90,1]) ?_ ?_
 ·
  refine A9 ?_
  refine xa0 rfl (fun h106=> ?_) (fun h106=> ?_)
  ·
   refine A3 ?_
   refine R1 (xc9 (n:=1) (f:=tTs) [(clip a b s)] Tryz.underlying51 el59 zf59 rfl (fun _=>inferInstance) rfl rfl rfl) rfl (RE (xb9 (k:=90) (k':=27) (f:=tTs) (ys:=[(clip a b s)]) (ts':=rV tTs (zs++[(clip a b s)])) Tryz.underlying51 el59 zf59 rfl rfl (fun _=>inferInstance) xf8 (by simp;omega) (by simp;omega) (by simp [rV]) (n':=zs.length+1) rfl) ⟨rfl,rfl,trivial⟩ ⟨rfl,trivial⟩ ⟨rfl,trivial⟩ ?_)
   refine A2 ?_
   have e:(parR zs (clip a b s))=zs++[(clip a b s)]:=if_pos h106
   exact xe7 (l:=[90,1]) (fun j=>cond (Nat.beq j 90) 27 (j)) (()) trivial ((SubR.consI rfl (Imp.of (by rw [e,List.length_append];rfl))) SubR.nil) ((SubKR.consI rfl (ImpK.of (by rw [e];exact xe9.symm))) SubKR.nil) (SupG.own rfl SupG.nil) (SupH.cons rfl (supJ xd6) SupH.nil) (lkOk rfl) rfl rfl (fun _ h=>by cases h)
  ·
   refine A1 ?_
   have e:(parR zs (clip a b s))=zs:=if_neg h106
   exact kF (()) trivial (hg:=((Sub.consI rfl (Imp.of (by rw [e]))) Sub.nil)) (hh:=((SubK.consI rfl (ImpK.of (by rw [e]))) SubK.nil))
 ·
  intro _j hj106
  refine A7 ?_
  exact xd5 LentC.mk' rfl rfl Imp.refl ⟨rfl,trivial⟩ rfl ⟨⟨rfl,xd6⟩,trivial⟩ rfl
theorem c_R5Cut (l:List Tst) (hl:l.length≤500000) (a b:Int) (hD: ∀s∈l,s.v.f.dig) (hs: ∀s∈l,s.v.f.n.l.length≤1048576∧s.v.f.d.l.length≤1048576):
  Ct Tryz.prog 116 [tL 8 true tTs l,tI a,tI b] (tT [tL 8 true tTs (if (tRight l=true∧Sn.ok ⟨a,b⟩=true) then cutR l a b else []),tI (if (tRight l=true∧Sn.ok ⟨a,b⟩=true) then 0 else 2)]):=by
 refine Ct.intro Tryz.func116 rfl Tryz.ntmps116 rfl ?_
 intro w F
 refine A9 ?_
 refine A1 ?_
 refine R1 (x3 (c_R5Right l hl hD hs) fi107 rfl) rfl ?_
 refine A2 ?_
 refine RGcase (t:=13) rfl (fun h114=> ?_) (fun h114=> ?_)
 ·
  refine A9 ?_
  refine A7 ?_
  exact xc0 Plain.mk' rfl rfl rfl (leNil (if_neg (fun h=>by simp [h.1] at*))) (Le.int (if_neg (fun h=>by simp [h.1] at*)).symm)
 ·
  refine A2 ?_
  refine RGon h114 rfl (x3 (c_R5within a b) fi194 rfl) rfl ⟨rfl,rfl,trivial⟩ trivial trivial ?_
  refine A4 ?_
  refine xc1 rfl (fun h114_2=> ?_) (fun h114_2=> ?_)
  ·
   refine A8 ?_
   exact xc0 Plain.mk' rfl rfl rfl (leNil (if_neg (fun h=>by simp [h.1,h.2] at*))) (Le.int (if_neg (fun h=>by simp [h.1,h.2] at*)).symm)
  ·
   refine A4 ?_
   refine RE (xg5 (k:=8) 59 8 true rfl (fun h=>by cases h)) trivial trivial ⟨rfl,trivial⟩ ?_
   refine A9 ?_
   have hok:(tRight l=true∧Sn.ok ⟨a,b⟩=true):=by simpa using And.intro h114 h114_2
   refine cL (fun (fm:(Nat)×(List Tst))=>(fun (i:Nat) (zs:List Tst)=>i≤l.length∧zs=cutR (l.take i) a b) fm.1 fm.2) (fun (fm:(Nat)×(List Tst))=>(fun (i:Nat) (zs:List Tst)=>upd (upd (upd (upd (upd (fun _=>none) 0 (some (.val (tL 8 true tTs l)))) 1 (some (.val (tI a)))) 2 (some (.val (tI b)))) 8 (some (.own (.sl 8 8 0 zs.length)))) 9 (some (.val (tI i)))) fm.1 fm.2) (fun (fm:(Nat)×(List Tst))=>(fun (i:Nat) (zs:List Tst)=>upd (fun _=>none) 8 (some (⟨59,8,true,rV tTs zs⟩))) fm.1 fm.2) [8] (fun (fm:(Nat)×(List Tst))=>(fun (i:Nat) (zs:List Tst)=>l.length - i) fm.1 fm.2) ((0,[])) (by dsimp only;exact ⟨Nat.zero_le _,rfl⟩) (hh:=((SubK.consI rfl ImpK.refl) SubK.nil)) ?_
   intro fm hI
   obtain ⟨i,zs⟩:=fm
   replace hI:i≤l.length∧zs=cutR (l.take i) a b:=hI
   show wc _ _ _ _ (upd (upd (upd (upd (upd (fun _=>none) 0 (some (.val (tL 8 true tTs l)))) 1 (some (.val (tI a)))) 2 (some (.val (tI b)))) 8 (some (.own (.sl 8 8 0 zs.length)))) 9 (some (.val (tI i)))) (upd (fun _=>none) 8 (some (⟨59,8,true,rV tTs zs⟩))) _
   obtain ⟨hi,hz⟩:=hI
   have hzl:zs.length≤i:=by rw [hz];exact cutR_len hi
   refine A9 ?_
   refine xa0 rfl (fun h118=> ?_) (fun h118=> ?_)
   ·
    refine A8 ?_
    refine R2 (x7 sl51 (i) (by omega) (gD (l:=l) (n:=i) (d:=tst0) (by omega))) rfl rfl ?_
    refine A3 ?_
    refine RE (xg8 (fun j=>cond (Nat.beq j 1) 8 (32)) (c_R5part zs (l.getD i tst0) a b (by omega)) fi195 rfl (krC (ρ:=fun j=>cond (Nat.beq j 1) 8 (32)) (k:=1) xe9 (krN (ρ:=fun j=>cond (Nat.beq j 1) 8 (32)))) (krC (ρ:=fun j=>cond (Nat.beq j 1) 8 (32)) (k:=90) xe9 (krN (ρ:=fun j=>cond (Nat.beq j 1) 8 (32)))) ⟨⟨rfl,xd6⟩,trivial⟩ rfl) ⟨rfl,rfl,rfl,rfl,trivial⟩ ⟨rfl,trivial⟩ ⟨rfl,trivial⟩ ?_
    refine A9 ?_
    exact xe7 (l:=[8]) (fun j=>cond (Nat.beq j 8) 32 (j)) ((i+1,parR zs (clip a b (l.getD i tst0)))) ⟨(by dsimp only;exact ⟨by omega,by rw [cutR_next (by omega),←hz]⟩),(by dsimp only;omega)⟩ (SubR.int rfl (by first | omega | rfl | (dsimp only;omega)) (SubR.cons rfl (SubR.int rfl (by first | omega | rfl | (dsimp only;omega)) (SubR.int rfl (by first | omega | rfl | (dsimp only;omega)) (SubR.cons rfl SubR.nil))))) ((SubKR.consI rfl (ImpK.of xe9.symm)) SubKR.nil) (SupG.val (SupG.own rfl (SupG.val (SupG.val (SupG.val SupG.nil))))) (SupH.cons rfl (supJ xd6) SupH.nil) (lkOk rfl) rfl rfl (fun _ h=>by cases h)
   ·
    refine A7 ?_
    refine RE (xg4 (f:=tTs) (xs:=zs) (fun _ h=>h) (rV_all rfl) rfl) ⟨rfl,trivial⟩ ⟨rfl,trivial⟩ trivial ?_
    refine A5 ?_
    exact xc0 Plain.mk' rfl rfl rfl (Le.of (by rw [if_pos hok,hz,show i=l.length by omega,List.take_length])) (Le.int (by rw [if_pos hok]))
theorem c_R5Sum (l:List Tst) (hl:l.length≤500000) (a b:Int) (hD: ∀s∈l,s.v.f.dig) (hs: ∀s∈l,s.v.f.n.l.length≤1048576∧s.v.f.d.l.length≤1048576):
  Ct Tryz.prog 115 [tL 8 true tTs l,tI a,tI b] (tT [tFr (if sumC l a b then sumF (sumT (cutT l a b)) else fr0),tI (if sumC l a b then sumE (sumT (cutT l a b)) else 2)]):=by
 have hcut:=c_R5Cut l hl a b hD hs
 obtain ⟨part,hpart⟩: ∃p:List Tst,p=(if (tRight l=true∧Sn.ok ⟨a,b⟩=true) then cutR l a b else []):=⟨_,rfl⟩
 obtain ⟨er,her⟩: ∃e:Int,e=(if (tRight l=true∧Sn.ok ⟨a,b⟩=true) then 0 else 2):=⟨_,rfl⟩
 rw [←hpart,←her] at hcut
 refine Ct.intro Tryz.func115 rfl Tryz.ntmps115 rfl ?_
 intro w F
 refine A2 ?_
 refine RE (x8 (k:=6) (n:=4) (agg:=true) zr41.1 zr41.2 rfl) trivial trivial ⟨rfl,trivial⟩ ?_
 refine A8 ?_
 refine R3 (x3 hcut fi116 rfl) rfl rfl rfl ?_
 refine A7 ?_
 refine xe6 (fun (_j:Unit)=>numK l∧(tRight l=true∧Sn.ok ⟨a,b⟩=true)) (fun (_j:Unit)=>upd (upd (fun _=>none) 6 (some (.own (.ptr 6 0)))) 8 (some (.val (tL 8 true tTs part)))) (fun (_j:Unit)=>upd (fun _=>none) 6 (some (⟨41,4,true,[.val (tFr fr0)]⟩))) (nm [6]) ?_ ?_
 ·
  refine A5 ?_
  refine RGcaseD (t:=23) rfl (fun h156=> ?_) (fun h156=> ?_)
  ·
   have hb0: ¬(tRight l=true∧Sn.ok ⟨a,b⟩=true):=fun h=>h156 (by rw [her,if_pos h])
   have hb: ¬sumC l a b:=fun h=>hb0 h.1
   refine A9 ?_
   refine A9 ?_
   refine A7 ?_
   refine R0 (xa3 (r:=tS [⟨2,true,(tS [⟨1,false,(tE (.bool false))⟩,⟨1,false,(tLm [])⟩])⟩,⟨2,true,(tS [⟨1,false,(tE (.bool false))⟩,⟨1,false,(tLm [])⟩])⟩]) (ts:=[]) bu41 zr41.2 ⟨_,rfl⟩ rfl Le.refl) ?_
   refine A6 ?_
   exact xa5 Plain.mk' (rs:=[.cell 6 41,.tmp 7]) rfl rfl ⟨⟨_,_,_,_,_,rfl,rfl,ti41,(Le.of (by rw [if_neg hb];rfl))⟩,⟨_,rfl,(Le.int (by rw [if_neg hb]))⟩,trivial⟩
  ·
   have hok:(tRight l=true∧Sn.ok ⟨a,b⟩=true):=Classical.byContradiction fun h=>h156 (by rw [her,if_neg h];decide)
   refine A4 ?_
   refine RGcaseD (t:=27) rfl (fun h156_2=> ?_) (fun h156_2=> ?_)
   ·
    refine A1 ?_
    refine RGon (decide_eq_true h156_2) rfl (x7 sl51 (0) (by omega) (gD (l:=l) (n:=0) (d:=tst0) (by omega))) rfl ⟨rfl,rfl,trivial⟩ trivial trivial (RGon (decide_eq_true h156_2) rfl (xa9 fo59_2.h (At.f 2 rfl rfl) rfl) rfl ⟨rfl,trivial⟩ trivial trivial (RGon (decide_eq_true h156_2) rfl (xa9 fo57_0.h (At.f 0 rfl rfl) rfl) rfl ⟨rfl,trivial⟩ trivial trivial ?_))
    refine A2 ?_
    refine RGon (decide_eq_false h156) rfl (d_pickT (decide_eq_true h156_2)) rfl ⟨rfl,rfl,trivial⟩ trivial trivial ?_
    refine A1 ?_
    refine RGcaseD (t:=35) rfl (fun h156_3=> ?_) (fun h156_3=> ?_)
    ·
     refine A1 ?_
     refine RGon (decide_eq_true h156_3) rfl (x7 sl51 (0) (by omega) (gD (l:=l) (n:=0) (d:=tst0) (by omega))) rfl ⟨rfl,rfl,trivial⟩ trivial trivial (RGon (decide_eq_true h156_3) rfl (xa9 fo59_2.h (At.f 2 rfl rfl) rfl) rfl ⟨rfl,trivial⟩ trivial trivial (RGon (decide_eq_true h156_3) rfl (xa9 fo57_0.h (At.f 0 rfl rfl) rfl) rfl ⟨rfl,trivial⟩ trivial trivial ?_))
     refine A2 ?_
     refine RGon (decide_eq_false h156) rfl (d_pickT (decide_eq_true h156_3)) rfl ⟨rfl,rfl,trivial⟩ trivial trivial ?_
     refine A3 ?_
     refine xa0 rfl (fun h156_4=> ?_) (fun h156_4=> ?_)
     ·
      refine A2 ?_
      refine R0 (xa3 (r:=tS [⟨2,true,(tS [⟨1,false,(tE (.bool false))⟩,⟨1,false,(tLm [])⟩])⟩,⟨2,true,(tS [⟨1,false,(tE (.bool false))⟩,⟨1,false,(tLm [])⟩])⟩]) (ts:=[]) bu41 zr41.2 ⟨_,rfl⟩ rfl Le.refl) ?_
      refine A6 ?_
      exact xa5 Plain.mk' (rs:=[.cell 6 41,.tmp 7]) rfl rfl ⟨⟨_,_,_,_,_,rfl,rfl,ti41,(Le.of (by rw [if_neg (fun h=>by have:=h.2;simp only [numK] at this;omega)];rfl))⟩,⟨_,rfl,(Le.int (by rw [if_neg (fun h=>by have:=h.2;simp only [numK] at this;omega)]))⟩,trivial⟩
     ·
      refine A1 ?_
      exact kF (()) ⟨by simp only [numK];omega,hok⟩ (hh:=((SubK.consI rfl ImpK.refl) SubK.nil))
    ·
     refine A6 ?_
     refine RGon (decide_eq_false h156) rfl (xf6 (decide_eq_false h156_3)) rfl ⟨rfl,rfl,trivial⟩ trivial trivial ?_
     refine A5 ?_
     exact kF (()) ⟨by simp only [numK];omega,hok⟩ (hh:=((SubK.consI rfl ImpK.refl) SubK.nil))
   ·
    refine A6 ?_
    refine RGon (decide_eq_false h156) rfl (xf6 (decide_eq_false h156_2)) rfl ⟨rfl,rfl,trivial⟩ trivial trivial ?_
    refine A7 ?_
    refine RGon (decide_eq_false h156) rfl (xf6 rfl) rfl ⟨rfl,rfl,trivial⟩ trivial trivial ?_
    refine A5 ?_
    exact kF (()) ⟨by simp only [numK];omega,hok⟩ (hh:=((SubK.consI rfl ImpK.refl) SubK.nil))
 ·
  intro _j hnk
  refine A2 ?_
  refine R1 (x3 (c_R2FromInt 0 (by decide) (by decide)) fi23 rfl) rfl (RE (x8 (k:=10) (n:=4) (agg:=true) zr41.1 zr41.2 rfl) trivial trivial ⟨rfl,trivial⟩ ?_)
  refine A9 ?_
  refine A1 ?_
  have hok:=hnk.2
  have hc:sumC l a b:=⟨hok,hnk.1⟩
  have hnum:=cut_num (a:=a) (b:=b) hok.1 hD hc.2
  rw [if_pos hok,cut_R hok.1] at hpart
  rw [←hpart] at hnum
  refine C_len (s:=8) rfl (fun hl0=> ?_)
  refine cL (fun (fm:(Nat)×(Rat))=>(fun (i:Nat) (q:Rat)=>i≤part.length∧sumT (part.take i)=some q∧short q) fm.1 fm.2) (fun (fm:(Nat)×(Rat))=>(fun (i:Nat) (q:Rat)=>upd (upd (upd (upd (fun _=>none) 6 (some (.own (.ptr 6 0)))) 8 (some (.val (tL 8 true tTs part)))) 10 (some (.own (.ptr 10 0)))) 11 (some (.val (tI i)))) fm.1 fm.2) (fun (fm:(Nat)×(Rat))=>(fun (i:Nat) (q:Rat)=>upd (upd (fun _=>none) 6 (some (⟨41,4,true,[.val (tFr fr0)]⟩))) 10 (some (⟨41,4,true,[.val (tFr (fr q))]⟩))) fm.1 fm.2) [6,10] (fun (fm:(Nat)×(Rat))=>(fun (i:Nat) (q:Rat)=>part.length - i) fm.1 fm.2) ((0,((0:Int):Rat))) (by dsimp only;exact ⟨Nat.zero_le _,rfl,xf9 (Nat.le_trans (len16_64 (by decide) (by decide)) (by decide))⟩) (hh:=((SubK.consI rfl ImpK.refl) ((SubK.consI rfl ImpK.refl) SubK.nil))) ?_
  intro fm hI
  obtain ⟨i,q⟩:=fm
  replace hI:i≤part.length∧sumT (part.take i)=some q∧short q:=hI
  show wc _ _ _ _ (upd (upd (upd (upd (fun _=>none) 6 (some (.own (.ptr 6 0)))) 8 (some (.val (tL 8 true tTs part)))) 10 (some (.own (.ptr 10 0)))) 11 (some (.val (tI i)))) (upd (upd (fun _=>none) 6 (some (⟨41,4,true,[.val (tFr fr0)]⟩))) 10 (some (⟨41,4,true,[.val (tFr (fr q))]⟩))) _
  obtain ⟨hi,hq,hsq⟩:=hI
  refine A9 ?_
  refine xa0 rfl (fun h160=> ?_) (fun h160=> ?_)
  ·
   refine A8 ?_
   obtain ⟨n1,n2,n3,n4,n5⟩:=hnum _ (xb2 (l:=part) (i:=i) (by omega))
   refine R2 (x7 sl51 (i) (by omega) (gD (l:=part) (n:=i) (d:=tst0) (by omega))) rfl rfl (R1 (xa9 fo59_2.h (At.f 2 rfl rfl) rfl) rfl (R1 (xa9 fo57_1.h (At.f 1 rfl rfl) rfl) rfl ?_))
   refine A3 ?_
   refine R2 (x7 sl51 (i) (by omega) (gD (l:=part) (n:=i) (d:=tst0) (by omega))) rfl rfl (R1 (xa9 fo59_1.h (At.f 1 rfl rfl) rfl) rfl ?_)
   refine A3 ?_
   refine R2 (x7 sl51 (i) (by omega) (gD (l:=part) (n:=i) (d:=tst0) (by omega))) rfl rfl (R1 (xa9 fo59_0.h (At.f 0 rfl rfl) rfl) rfl ?_)
   refine A2 ?_
   refine R1 (x3 (c_R2FromInt ((part.getD i tst0).hi - (part.getD i tst0).lo) (by omega) (by omega)) fi23 rfl) rfl (R2 (x3 (c_R2MulT (part.getD i tst0).v.f ((part.getD i tst0).hi - (part.getD i tst0).lo) n4 n5 (xf9 (Nat.le_trans (len16_64 (by omega) (by omega)) (by decide)))) fi163 rfl) rfl rfl ?_)
   refine A3 ?_
   refine RE (x8 (k:=12) (n:=4) (agg:=true) zr41.1 zr41.2 rfl) trivial trivial ⟨rfl,trivial⟩ ?_
   refine A9 ?_
   refine A2 ?_
   refine xa0 rfl (fun h162=> ?_) (fun h162=> ?_)
   ·
    refine A2 ?_
    refine R0 (xa3 (r:=tS [⟨2,true,(tS [⟨1,false,(tE (.bool false))⟩,⟨1,false,(tLm [])⟩])⟩,⟨2,true,(tS [⟨1,false,(tE (.bool false))⟩,⟨1,false,(tLm [])⟩])⟩]) (ts:=[]) bu41 zr41.2 ⟨_,rfl⟩ rfl Le.refl) ?_
    refine A9 ?_
    refine A3 ?_
    exact xa5 Plain.mk' (rs:=[.cell 6 41,.tmp 7]) rfl rfl ⟨⟨_,_,_,_,_,rfl,rfl,ti41,(Le.of (by rw [if_pos hc,←hpart,xh4 (i:=i+1) (by rw [xf3 (by omega),hq,sumStep,if_neg (fun h=>xc5 h162 h.1)])];rfl))⟩,⟨_,rfl,(Le.int (by rw [if_pos hc,←hpart,xh4 (i:=i+1) (by rw [xf3 (by omega),hq,sumStep,if_neg (fun h=>xc5 h162 h.1)]),resFE,if_neg (xc5 h162)];rfl))⟩,trivial⟩
   ·
    have hp:=xf1 (Decidable.not_not.1 h162)
    refine A6 ?_
    refine R2 (x3 (c_R2AddR q ((part.getD i tst0).v.f.rat*(((part.getD i tst0).hi - (part.getD i tst0).lo:Int):Rat)) hsq hp) fi193 rfl) rfl rfl ?_
    refine A9 ?_
    refine A4 ?_
    refine xa0 rfl (fun h166=> ?_) (fun h166=> ?_)
    ·
     refine A2 ?_
     refine R0 (xa3 (r:=tS [⟨2,true,(tS [⟨1,false,(tE (.bool false))⟩,⟨1,false,(tLm [])⟩])⟩,⟨2,true,(tS [⟨1,false,(tE (.bool false))⟩,⟨1,false,(tLm [])⟩])⟩]) (ts:=[]) bu41 zr41.2 ⟨_,rfl⟩ rfl Le.refl) ?_
     refine A9 ?_
     refine A2 ?_
     exact xa5 Plain.mk' (rs:=[.cell 6 41,.tmp 7]) rfl rfl ⟨⟨_,_,_,_,_,rfl,rfl,ti41,(Le.of (by rw [if_pos hc,←hpart,xh4 (i:=i+1) (by rw [xf3 (by omega),hq,sumStep,if_neg (fun h=>xc5 h166 h.2)])];rfl))⟩,⟨_,rfl,(Le.int (by rw [if_pos hc,←hpart,xh4 (i:=i+1) (by rw [xf3 (by omega),hq,sumStep,if_neg (fun h=>xc5 h166 h.2)]),resFE,if_neg (xc5 h166)];rfl))⟩,trivial⟩
    ·
     have h166z:=Decidable.not_not.1 h166
     refine A8 ?_
     exact kF ((i+1,q+((part.getD i tst0).v.f.rat*(((part.getD i tst0).hi - (part.getD i tst0).lo:Int):Rat)))) ⟨(by dsimp only;exact ⟨by omega,by rw [xf3 (by omega),hq,sumStep,if_pos ⟨hp,xf1 h166z⟩],xf1 h166z⟩),(by dsimp only;omega)⟩ (hh:=((SubK.consI rfl (ImpK.of (by dsimp only;rw [resF,if_pos (xf1 h166z)];rfl))) ((SubK.consI rfl ImpK.refl) SubK.nil)))
  ·
   refine A9 ?_
   refine A4 ?_
   exact xa5 Plain.mk' (rs:=[.cell 6 41,.tmp 7]) rfl rfl ⟨⟨_,_,_,_,_,rfl,rfl,ti41,(Le.of (by rw [if_pos hc,←hpart,←List.take_length (l:=part),←show i=part.length by omega,hq];rfl))⟩,⟨_,rfl,(Le.int (by rw [if_pos hc,←hpart,←List.take_length (l:=part),←show i=part.length by omega,hq];rfl))⟩,trivial⟩
end An.S

/- Law 5: TimelineSums: the program and the reference agree on sums. -/
namespace An.S
open Go Go.Proofs An
set_option maxHeartbeats 2000000
set_option maxRecDepth 100000
instance fi24:FnI Tryz.prog 24:=⟨_,Tryz.func24,by kernel_rfl,rfl⟩
instance fi25:FnI Tryz.prog 25:=⟨_,Tryz.func25,by kernel_rfl,rfl⟩
instance fi36:FnI Tryz.prog 36:=⟨_,Tryz.func36,by kernel_rfl,rfl⟩
instance fi37:FnI Tryz.prog 37:=⟨_,Tryz.func37,by kernel_rfl,rfl⟩
instance fi74:FnI Tryz.prog 74:=⟨_,Tryz.func74,by kernel_rfl,rfl⟩
instance fi82:FnI Tryz.prog 82:=⟨_,Tryz.func82,by kernel_rfl,rfl⟩
instance fi84:FnI Tryz.prog 84:=⟨_,Tryz.func84,by kernel_rfl,rfl⟩
instance fi115:FnI Tryz.prog 115:=⟨_,Tryz.func115,by kernel_rfl,rfl⟩
/-- How many limbs steps have. -/
def limS (l:List Tst):Nat:=(l.map fun s=>s.v.f.n.l.length+s.v.f.d.l.length).sum
def fewB (l:List Tst):Bool:=decide (l.length≤60) && decide (limS l≤1200)
theorem limS_next {l:List Tst} {i:Nat} (hi:i < l.length):limS (l.take (i+1))=limS (l.take i)+((l.getD i tst0).v.f.n.l.length+(l.getD i tst0).v.f.d.l.length):=by
  rw [limS,limS,List.take_succ_eq_append_getElem hi,List.map_append,List.sum_append_nat,List.getD_eq_getElem?_getD,List.getElem?_eq_getElem hi];simp
theorem limS_le {l:List Tst} (h: ∀s∈l,s.v.f.n.l.length≤70368744177664∧s.v.f.d.l.length≤70368744177664): ∀{i:Nat},i≤l.length→limS (l.take i)≤i*140737488355328
  | 0,_=>by simp [limS]
  | i+1,hi=>by
    have h1:=limS_le h (i:=i) (by omega)
    have h2:=h _ (xb2 (l:=l) (i:=i) (by omega))
    rw [limS_next (by omega)];omega
theorem limS_mem {l:List Tst}: ∀s∈l,s.v.f.n.l.length+s.v.f.d.l.length≤limS l:=by
  induction l with
  | nil=>intro s hs;cases hs
  | cons x r ih=>
    intro s hs
    rw [limS,List.map_cons,List.sum_cons]
    rcases List.mem_cons.1 hs with rfl | hs
    · omega
    · have:=ih s hs;rw [limS] at this;omega
theorem few_of {l:List Tst} (h:fewB l=true):l.length≤60∧ ∀s∈l,s.v.f.n.l.length≤1200∧s.v.f.d.l.length≤1200:=by
  simp only [fewB,Bool.and_eq_true,decide_eq_true_eq] at h
  exact ⟨h.1,fun s hs=>by have:=limS_mem s hs;omega⟩
theorem few_1 {l:List Tst} {i:Nat} (h:l.length≤60) (hi:i=l.length):decide ((limS (l.take i):Int)≤1200)=fewB l:=by
  subst hi
  rw [fewB,decide_eq_true h,Bool.true_and,List.take_length]
  exact decide_eq_decide.2 (by omega)
theorem few_0 {l:List Tst} (h: ¬l.length≤60):false=fewB l:=by rw [fewB,decide_eq_false h,Bool.false_and]
theorem c_SameFracT (x:Fr):Ct Tryz.prog 86 [tFr x,tFr x] (tB true):=by
  have:=c_SameFrac x x
  rw [decide_eq_true rfl] at this;exact this
theorem c_Few (l:List Tst) (hr: ∀s∈l,s.v.f.n.l.length≤70368744177664∧s.v.f.d.l.length≤70368744177664):
  Ct Tryz.prog 24 [tL 8 true tTs l] (tB (fewB l)):=by
 refine Ct.intro Tryz.func24 rfl Tryz.ntmps24 rfl ?_
 intro w F
 refine A9 ?_
 refine A8 ?_
 refine cL (fun (i:Nat)=>i≤l.length∧i≤60) (fun (i:Nat)=>upd (upd (upd (fun _=>none) 0 (some (.val (tL 8 true tTs l)))) 3 (some (.val (tI (limS (l.take i)))))) 4 (some (.val (tI i)))) (fun (i:Nat)=>fun _=>none) [] (fun (i:Nat)=>60 - i) (0) ⟨Nat.zero_le _,by decide⟩ (hg:=(sI (Sub.le rfl (Le.int rfl) (sC Sub.nil)))) ?_
 intro i hI
 obtain ⟨hi,hi2⟩:=hI
 have hb:=limS_le hr hi
 refine A8 ?_
 refine RGcaseD (t:=9) rfl (fun h14=> ?_) (fun h14=> ?_)
 ·
  refine A5 ?_
  refine xa0 rfl (fun h14_2=> ?_) (fun h14_2=> ?_)
  ·
   refine A8 ?_
   have hsr:=hr _ (xb2 (l:=l) (i:=i) (by omega))
   refine R2 (x7 sl51 (i) (by omega) (gD (l:=l) (n:=i) (d:=tst0) (by omega))) rfl rfl (R1 (xa9 fo59_2.h (At.f 2 rfl rfl) rfl) rfl (R1 (xa9 fo57_1.h (At.f 1 rfl rfl) rfl) rfl ?_))
   refine A1 ?_
   refine R1 (x3 (c_Limbs _ (by omega) (by omega)) fi25 rfl) rfl ?_
   refine A9 ?_
   refine A1 ?_
   exact kF (i+1) ⟨⟨by omega,by omega⟩,(by omega)⟩ (hg:=(sI (Sub.le rfl (Le.int (by rw [limS_next (by omega)];omega)) (sC Sub.nil))))
  ·
   refine A9 ?_
   refine A2 ?_
   refine RGcaseD (t:=27) rfl (fun h17=> ?_) (fun h17=> ?_)
   ·
    refine A7 ?_
    exact x4 Plain.mk' rfl rfl (Le.bool (few_1 (by omega) (by omega)))
   ·
    refine A7 ?_
    exact x4 Plain.mk' rfl rfl (Le.bool (few_0 (by omega)))
 ·
  refine A9 ?_
  refine A8 ?_
  refine RGcaseD (t:=27) rfl (fun h17=> ?_) (fun h17=> ?_)
  ·
   refine A7 ?_
   exact x4 Plain.mk' rfl rfl (Le.bool (few_1 (by omega) (by omega)))
  ·
   refine A7 ?_
   exact x4 Plain.mk' rfl rfl (Le.bool (few_0 (by omega)))
end An.S

/- What the readers of law 5 read, within the reach: steps, numbers. -/
namespace An.S
open Go Go.Proofs An
open Go.ChangeShapes Go.WideShapes Go.ChangeAt Go.RowKit
set_option maxRecDepth 100000
theorem own:ownKnob Tryz.prog.godebug=none:=by kernel_rfl
theorem laidOut:laidOutB Tryz.prog=true:=by kernel_rfl
theorem oBool:Opn Tryz.prog 4 1 false (fun b:Bool=>tB b) (fun _=>True):=Opn.bool Tryz.underlying4 (by kernel_rfl)
theorem oInt:Opn Tryz.prog 3 1 false (fun n:Int=>tI n) (fun n=>IntKind.i64.min≤n∧n≤IntKind.i64.max):=Opn.int Tryz.underlying3 (by kernel_rfl)
theorem oU16:Opn Tryz.prog 64 1 false (fun n:Nat=>tE (.int .u16 n)) (fun n=>n < 65536):=Opn.nat Tryz.underlying64 (by kernel_rfl) rfl rfl
theorem oU8:Opn Tryz.prog 5 1 false (fun n:Nat=>tE (.int .u8 n)) (fun n=>n < 256):=Opn.nat Tryz.underlying5 (by kernel_rfl) rfl rfl
theorem oLm:OpnW Tryz.prog 37 1 false (fun l:List Nat=>tLm l) (fun l=>Dig 65536 l∧l.length≤70368744177664):=(OpnW.slice (by_:=2) Tryz.underlying37 (by kernel_rfl) (by kernel_rfl) (OpnW.of oU16)).as id (fun _=>rfl) (fun l h=>⟨h.1,by have h2:l.length*2≤140737488351232:=h.2;show l.length≤_;omega⟩)
/-- Numbers whose limbs are within the reach. -/
def whFits (x:Wh):Prop:=Dig 65536 x.l∧x.l.length≤70368744177664
def frFits (x:Fr):Prop:=whFits x.n∧whFits x.d
theorem oWh:OpnW Tryz.prog 39 2 true (fun x:Wh=>tWh x) whFits:=
  (OpnW.struct Tryz.underlying39 (by kernel_rfl) (by decide) (OpnWF.cons (OpnW.of oBool) rfl rfl (OpnWF.cons oLm rfl rfl OpnWF.nil rfl) rfl)).as (fun x=>⟨x.1,x.2.1⟩) (fun _=>rfl) (fun _ h=>h.2.1)
theorem oFr:OpnW Tryz.prog 41 4 true (fun x:Fr=>tFr x) frFits:=
  (OpnW.struct Tryz.underlying41 (by kernel_rfl) (by decide) (OpnWF.cons oWh rfl rfl (OpnWF.cons oWh rfl rfl OpnWF.nil rfl) rfl)).as (fun x=>⟨x.1,x.2.1⟩) (fun _=>rfl) (fun _ h=>⟨h.1,h.2.1⟩)
theorem oVa:OpnW Tryz.prog 57 6 true (fun x:Va=>tVa x) (fun x=>frFits x.f):=
  (OpnW.struct Tryz.underlying57 (by kernel_rfl) (by decide) (OpnWF.cons (OpnW.of oU8) rfl rfl (OpnWF.cons oFr rfl rfl (OpnWF.cons (OpnW.of oInt) rfl rfl OpnWF.nil rfl) rfl) rfl)).as (fun x=>⟨x.1,x.2.1,x.2.2.1⟩) (fun _=>rfl) (fun _ h=>h.2.1)
theorem oTs:OpnW Tryz.prog 59 8 true (fun x:Tst=>tTs x) (fun x=>frFits x.v.f):=
  (OpnW.struct Tryz.underlying59 (by kernel_rfl) (by decide) (OpnWF.cons (OpnW.of oInt) rfl rfl (OpnWF.cons (OpnW.of oInt) rfl rfl (OpnWF.cons oVa rfl rfl OpnWF.nil rfl) rfl) rfl)).as (fun x=>⟨x.1,x.2.1,x.2.2.1⟩) (fun _=>rfl) (fun _ h=>h.2.2.1)
theorem oSteps:OpnW Tryz.prog 51 1 false (fun l:List Tst=>tL 8 true tTs l) (fun l=> ∀s∈l,frFits s.v.f):=(OpnW.slice (by_:=96) Tryz.underlying51 (by kernel_rfl) (by kernel_rfl) oTs).as id (fun _=>rfl) (fun l h=>h.1)
theorem oIntW:OpnW Tryz.prog 3 1 false (fun n:Int=>tI n) (fun n=>IntKind.i64.min≤n∧n≤IntKind.i64.max):=OpnW.of oInt
theorem digs {l:List Tst} (h: ∀s∈l,frFits s.v.f): ∀s∈l,s.v.f.dig:=fun s hs=>⟨(h s hs).1.1,(h s hs).2.1⟩
theorem lens {l:List Tst} (h: ∀s∈l,frFits s.v.f): ∀s∈l,s.v.f.n.l.length≤70368744177664∧s.v.f.d.l.length≤70368744177664:=fun s hs=>⟨(h s hs).1.2,(h s hs).2.2⟩
/-- What a contract says, as the frame of a statement wants it. -/
theorem walked {f:FuncId} {ts:List Ty} (h:Ct Tryz.prog f ts (tB true)) {vs:List Value} {W:World} (ha:Tup.all (Old W) W ts vs):Calls Tryz.prog f vs.toArray W fun e W'=>e= .returned (.bool true)∧Ext W W':=
  (h (Old W) W vs ha).mono fun e W' ⟨v,h1,h2,h3⟩=>by
    have h3:v= .bool true:=h3
    subst h3;exact ⟨h1,h2⟩
end An.S

/- The reference of layer 8: records, years, limits. -/
namespace An.S
open Go Go.Proofs An
set_option maxHeartbeats 2000000
set_option maxRecDepth 100000
instance fi20:FnI Tryz.prog 20:=⟨_,Tryz.func20,by kernel_rfl,rfl⟩
instance fi53:FnI Tryz.prog 53:=⟨_,Tryz.func53,by kernel_rfl,rfl⟩
instance fi77:FnI Tryz.prog 77:=⟨_,Tryz.func77,by kernel_rfl,rfl⟩
instance fi81:FnI Tryz.prog 81:=⟨_,Tryz.func81,by kernel_rfl,rfl⟩
instance fi162:FnI Tryz.prog 162:=⟨_,Tryz.func162,by kernel_rfl,rfl⟩
instance fi165:FnI Tryz.prog 165:=⟨_,Tryz.func165,by kernel_rfl,rfl⟩
theorem c_R2OrderV (f g:Fr) (hf:f.dig) (hg:g.dig) (vf:f.valid=true) (vg:g.valid=true):Ct Tryz.prog 53 [tFr f,tFr g] (tI (cmpQ f.rat g.rat)):=by
  obtain ⟨e1,s1⟩:=Fr.of_valid' hf vf
  obtain ⟨e2,s2⟩:=Fr.of_valid' hg vg
  have h:=c_R2Order f.rat g.rat s1 s2
  rw [←e1,←e2] at h;exact h
def cmpV (f g:Fr):Int:=if f.valid=true∧g.valid=true then cmpQ f.rat g.rat else 0
theorem c_R2Cmp (f g:Fr) (hf:f.dig) (hg:g.dig):
  Ct Tryz.prog 165 [tFr f,tFr g] (tI (cmpV f g)):=by
 refine Ct.intro Tryz.func165 rfl Tryz.ntmps165 rfl ?_
 intro w F
 refine A9 ?_
 refine A2 ?_
 refine R1 (x3 (c_R2Valid f hf.1 hf.2) fi52 rfl) rfl ?_
 refine A2 ?_
 refine RGcase (t:=8) rfl (fun h175=> ?_) (fun h175=> ?_)
 ·
  refine A9 ?_
  refine A5 ?_
  exact x4 Plain.mk' rfl rfl (Le.int (by rw [cmpV,if_neg (fun h=>by simp [h.1] at*)]))
 ·
  have vf:f.valid=true:=by simpa using h175
  refine A1 ?_
  refine RGon h175 rfl (x3 (c_R2Valid g hg.1 hg.2) fi52 rfl) rfl ⟨rfl,trivial⟩ trivial trivial ?_
  refine A4 ?_
  refine xc1 rfl (fun h175_2=> ?_) (fun h175_2=> ?_)
  ·
   refine A7 ?_
   exact x4 Plain.mk' rfl rfl (Le.int (by rw [cmpV,if_neg (fun h=>by simp [h.1,h.2] at*)]))
  ·
   refine A6 ?_
   refine R2 (x3 (c_R2OrderV f g hf hg vf (by simpa using h175_2)) fi53 rfl) rfl rfl ?_
   refine A4 ?_
   exact x4 Plain.mk' rfl rfl (Le.int (by rw [cmpV,if_pos ⟨vf,by simpa using h175_2⟩]))
theorem c_R2Cmp1 (f:Fr) (hf:f.dig):Ct Tryz.prog 165 [tFr f,tFr (fr ((1:Int):Rat))] (tI (if f.valid=true then cmpQ f.rat 1 else 0)):=by
  have h:=c_R2Cmp f (fr ((1:Int):Rat)) hf ⟨xb4 x5 _,xb4 x5 _⟩
  have e:cmpV f (fr ((1:Int):Rat))=if f.valid=true then cmpQ f.rat 1 else 0:=by
    rw [cmpV,rat_fr]
    by_cases hv:f.valid=true
    · rw [if_pos ⟨hv,valid_fr short_one⟩,if_pos hv];rfl
    · rw [if_neg (fun h=>hv h.1),if_neg hv]
  rw [e] at h;exact h
theorem c_R2CmpE {x:Fr} {q:Rat} (hx:x=fr q) (hq:short q) (f:Fr) (hF:f.dig) (hv:f.valid=true):Ct Tryz.prog 165 [tFr x,tFr f] (tI (cmpQ q f.rat)):=by
  have h:=c_R2Cmp (fr q) f ⟨xb4 x5 _,xb4 x5 _⟩ hF
  rw [cmpV,if_pos ⟨valid_fr hq,hv⟩,rat_fr,←hx] at h;exact h
/-- A step of a record, as the reference looks at it. -/
def r8 (s:Tst):Prop:=s.v.kind=2∧s.v.f.n.neg=false∧ ¬0 < (if s.v.f.valid=true then cmpQ s.v.f.rat 1 else 0)
theorem sRight_R {l:List Tst} (h: ∀i,i < l.length→r8 (l.getD i tst0)):tRight l=sRight l:=by
  cases hr:tRight l with
  | false=>rw [sRight,hr];rfl
  | true=>
    rw [sRight,hr,Bool.true_and]
    refine (List.all_eq_true.2 fun s hs=> ?_).symm
    obtain ⟨i,hi,rfl⟩:=exists_getD hs
    obtain ⟨h1,h2,h3⟩:=h i hi
    have hv:=num_valid (tRight_valid hr _ hs) h1
    rw [if_pos hv,xg3] at h3
    simp only [sOk,h1,h2,Decidable.not_not.1 h3,decide_true,Bool.not_false,Bool.and_self]
theorem sRight_no {l:List Tst} {i:Nat} (hi:i < l.length) (h:sOk (l.getD i tst0)=false):false=sRight l:=by
  cases hr:sRight l with
  | false=>rfl
  | true=>
    simp only [sRight,Bool.and_eq_true,List.all_eq_true] at hr
    rw [hr.2 _ (xb2 hi)] at h;cases h
theorem sOk_cmp {s:Tst} (h:0 < (if s.v.f.valid=true then cmpQ s.v.f.rat 1 else 0)):sOk s=false:=by
  split at h
  · rw [xg3] at h
    simp [sOk,h]
  · omega
theorem c_R8Right (l:List Tst) (hl:l.length≤500000) (hD: ∀s∈l,s.v.f.dig) (hs: ∀s∈l,s.v.f.n.l.length≤1048576∧s.v.f.d.l.length≤1048576):
    Ct Tryz.prog 81 [tL 8 true tTs l] (tB (sRight l)):=by
  refine Ct.intro Tryz.func81 rfl Tryz.ntmps81 rfl ?_
  intro w F
  refine A9 ?_
  refine A3 ?_
  refine cL (fun (i:Nat)=>i≤l.length∧ ∀j,j < i→r8 (l.getD j tst0)) (fun (i:Nat)=>upd (upd (fun _=>none) 0 (some (.val (tL 8 true tTs l)))) 3 (some (.val (tI i)))) (fun (i:Nat)=>fun _=>none) [] (fun (i:Nat)=>l.length - i) (0) ⟨Nat.zero_le _,fun j hj=>by omega⟩ ?_
  intro i hI
  obtain ⟨hi,hok⟩:=hI
  refine A9 ?_
  refine xa0 rfl (fun h16=> ?_) (fun h16=> ?_)
  ·
    refine A8 ?_
    refine R2 (x7 sl51 (i) (by omega) (gD (l:=l) (n:=i) (d:=tst0) (by omega))) rfl rfl (R1 (xa9 fo59_2.h (At.f 2 rfl rfl) rfl) rfl (R1 (xa9 fo57_0.h (At.f 0 rfl rfl) rfl) rfl ?_))
    refine A3 ?_
    refine RGcaseD (t:=17) rfl (fun h17=> ?_) (fun h17=> ?_)
    ·
      refine A9 ?_
      refine A9 ?_
      refine A9 ?_
      refine A7 ?_
      exact x4 Plain.mk' rfl rfl (Le.bool (sRight_no (i:=i) (by omega) (by rw [sOk,decide_eq_false (by omega)];rfl)))
    ·
      refine A2 ?_
      refine RGon (decide_eq_false h17) rfl (x7 sl51 (i) (by omega) (gD (l:=l) (n:=i) (d:=tst0) (by omega))) rfl ⟨rfl,rfl,trivial⟩ trivial trivial (RGon (decide_eq_false h17) rfl (xa9 fo59_2.h (At.f 2 rfl rfl) rfl) rfl ⟨rfl,trivial⟩ trivial trivial (RGon (decide_eq_false h17) rfl (xa9 fo57_1.h (At.f 1 rfl rfl) rfl) rfl ⟨rfl,trivial⟩ trivial trivial (RGon (decide_eq_false h17) rfl (xa9 fo41_0.h (At.f 0 rfl rfl) rfl) rfl ⟨rfl,trivial⟩ trivial trivial (RGon (decide_eq_false h17) rfl (xa9 fo39_0.h (At.f 0 rfl rfl) rfl) rfl ⟨rfl,trivial⟩ trivial trivial ?_))))
      refine A3 ?_
      refine RGcase (t:=27) rfl (fun h17_2=> ?_) (fun h17_2=> ?_)
      ·
        refine A9 ?_
        refine A9 ?_
        refine A6 ?_
        exact x4 Plain.mk' rfl rfl (Le.bool (sRight_no (i:=i) (by omega) (by rw [sOk,h17_2];simp)))
      ·
        refine A2 ?_
        refine RGon h17_2 rfl (x7 sl51 (i) (by omega) (gD (l:=l) (n:=i) (d:=tst0) (by omega))) rfl ⟨rfl,rfl,trivial⟩ trivial trivial (RGon h17_2 rfl (xa9 fo59_2.h (At.f 2 rfl rfl) rfl) rfl ⟨rfl,trivial⟩ trivial trivial (RGon h17_2 rfl (xa9 fo57_1.h (At.f 1 rfl rfl) rfl) rfl ⟨rfl,trivial⟩ trivial trivial ?_))
        refine A1 ?_
        refine RGon h17_2 rfl (x3 (c_R2FromInt 1 (by decide) (by decide)) fi23 rfl) rfl ⟨rfl,trivial⟩ trivial trivial (RGon h17_2 rfl (x3 (c_R2Cmp1 _ (hD _ (xb2 (l:=l) (i:=i) (by omega)))) fi165 rfl) rfl ⟨rfl,rfl,trivial⟩ trivial trivial ?_)
        refine A4 ?_
        refine xa0 rfl (fun h17_3=> ?_) (fun h17_3=> ?_)
        ·
          refine A9 ?_
          refine A2 ?_
          exact x4 Plain.mk' rfl rfl (Le.bool (sRight_no (i:=i) (by omega) (sOk_cmp h17_3)))
        ·
          refine A8 ?_
          exact K_fam (i+1) ⟨⟨by omega,fun j hj=>by
    by_cases hji:j=i
    · subst hji;exact ⟨by omega,h17_2,h17_3⟩
    · exact hok j (by omega)⟩,(by omega)⟩ (Sub.int rfl (by first | omega | rfl | (dsimp only;omega)) (Sub.cons rfl Sub.nil)) SubK.nil (SupG.val (SupG.val SupG.nil)) SupH.nil (lkOk rfl)
  ·
    refine A8 ?_
    refine R1 (x3 (c_R5Right l hl hD hs) fi107 rfl) rfl ?_
    refine A4 ?_
    exact x4 Plain.mk' rfl rfl (Le.bool (sRight_R fun j hj=>hok j (by omega)))
theorem c_R8may (l:List Tst) (hl:l.length≤500000) (a b:Int) (hD: ∀s∈l,s.v.f.dig) (hs: ∀s∈l,s.v.f.n.l.length≤1048576∧s.v.f.d.l.length≤1048576):
  Ct Tryz.prog 162 [tL 8 true tTs l,tI a,tI b] (tB (askB l a b)):=by
 refine Ct.intro Tryz.func162 rfl Tryz.ntmps162 rfl ?_
 intro w F
 refine A8 ?_
 refine R1 (x3 (c_R8Right l hl hD hs) fi81 rfl) rfl ?_
 refine A1 ?_
 refine RGcase (t:=9) rfl (fun h26=> ?_) (fun h26=> ?_)
 ·
  refine A4 ?_
  refine RGcaseD (t:=13) rfl (fun h26_2=> ?_) (fun h26_2=> ?_)
  ·
   refine A4 ?_
   refine RGcaseD (t:=17) rfl (fun h26_3=> ?_) (fun h26_3=> ?_)
   ·
    refine A4 ?_
    refine RGcaseD (t:=21) rfl (fun h26_4=> ?_) (fun h26_4=> ?_)
    ·
     refine A7 ?_
     exact x4 Plain.mk' rfl rfl (Le.bool (by simp only [askB];simp [*]))
    ·
     refine A7 ?_
     exact x4 Plain.mk' rfl rfl (Le.bool (by simp only [askB];simp [*]))
   ·
    refine A9 ?_
    refine A2 ?_
    exact x4 Plain.mk' rfl rfl (Le.bool (by simp only [askB];simp [*]))
  ·
   refine A9 ?_
   refine A6 ?_
   exact x4 Plain.mk' rfl rfl (Le.bool (by simp only [askB];simp [*]))
 ·
  refine A9 ?_
  refine A9 ?_
  refine A1 ?_
  exact x4 Plain.mk' rfl rfl (Le.bool (by simp only [askB];simp [*]))
theorem cutT_nil {l:List Tst} {a:Int}:cutT l a a=[]:=by
  rw [cutT]
  suffices h: ∀ps:List Tst,(∀s∈ps,s.hi≤s.lo)→pst [] ps=[] from h _ fun s hs=>by
    obtain ⟨x,_,rfl⟩:=List.mem_map.1 hs
    show min x.hi a≤max x.lo a;omega
  intro ps
  induction ps with
  | nil=>intro _;rfl
  | cons s r ih=>
    intro h
    show pst (pst1 [] s) r=[]
    rw [pst1,if_pos (h s (List.mem_cons_self ..))]
    exact ih fun x hx=>h x (List.mem_cons_of_mem _ hx)
theorem mulO_0:mulO ((0:Int):Rat) q4=some ((0:Int):Rat):=by
  have e:((0:Int):Rat)*q4=((0:Int):Rat):=Rat.zero_mul _
  rw [mulO,e,if_pos (xf9 (len16_small (by decide) (by decide)))]
theorem yq_max {l:List Tst} {a b:Int}:(sumT (cutT l a (max a b))).bind (fun q=>mulO q q4)=yq l a b:=by
  rw [yq]
  by_cases h:b≤a
  · rw [if_pos h,show max a b=a by omega,cutT_nil]
    exact mulO_0
  · rw [if_neg h,show max a b=b by omega]
theorem ask_max {l:List Tst} {a b:Int} (h:askB l a b=true):sumC l a (max a b):=by
  obtain ⟨h1,h2,h3,h4,h5⟩:=askB_iff.1 h
  simp only [sRight,Bool.and_eq_true,List.all_eq_true] at h1
  refine ⟨⟨h1.1,by simp [Sn.ok];omega⟩,?_⟩
  rcases Nat.eq_zero_or_pos l.length with h0 | h0
  · exact .inl h0
  · have:=h1.2 _ (xb2 (l:=l) h0)
    simp only [sOk,Bool.and_eq_true,decide_eq_true_eq] at this
    exact .inr (.inl this.1.1)
theorem c_R5SumOk (l:List Tst) (hl:l.length≤500000) (a b:Int) (hD: ∀s∈l,s.v.f.dig) (hs: ∀s∈l,s.v.f.n.l.length≤1048576∧s.v.f.d.l.length≤1048576) (h:sumC l a b):Ct Tryz.prog 115 [tL 8 true tTs l,tI a,tI b] (tT [tFr (sumF (sumT (cutT l a b))),tI (sumE (sumT (cutT l a b)))]):=by
  have:=c_R5Sum l hl a b hD hs
  rw [if_pos h,if_pos h] at this;exact this
theorem c_R2MulQ4 {o:Option Rat} {q:Rat} (ho:o=some q) (hq:short q):Ct Tryz.prog 163 [tFr (sumF o),tFr (fr (Rat.divInt 4 1461))] (tT [tFr (resF (q*q4)),tI (resFE (q*q4))]):=by
  have h:=c_R2Mul q q4 hq short_q4
  rw [ho]
  have e:Rat.divInt 4 1461=q4:=by decide+kernel
  rw [e];exact h
theorem c_R8Years (l:List Tst) (hl:l.length≤500000) (a b:Int) (hD: ∀s∈l,s.v.f.dig) (hs: ∀s∈l,s.v.f.n.l.length≤1048576∧s.v.f.d.l.length≤1048576):
  Ct Tryz.prog 77 [tL 8 true tTs l,tI a,tI b] (tT [tFr (if askB l a b=true then sumF (yq l a b) else fr0),tI (if askB l a b=true then sumE (yq l a b) else 2)]):=by
 refine Ct.intro Tryz.func77 rfl Tryz.ntmps77 rfl ?_
 intro w F
 refine A2 ?_
 refine RE (x8 (k:=6) (n:=4) (agg:=true) zr41.1 zr41.2 rfl) trivial trivial ⟨rfl,trivial⟩ ?_
 refine A9 ?_
 refine R3 (x3 (c_R8may l hl a b hD hs) fi162 rfl) rfl rfl rfl ?_
 refine A3 ?_
 refine xc1 rfl (fun h31=> ?_) (fun h31=> ?_)
 ·
  have hk: ¬askB l a b=true:=by simpa using h31
  refine A2 ?_
  refine R0 (xa3 (r:=tS [⟨2,true,(tS [⟨1,false,(tE (.bool false))⟩,⟨1,false,(tLm [])⟩])⟩,⟨2,true,(tS [⟨1,false,(tE (.bool false))⟩,⟨1,false,(tLm [])⟩])⟩]) (ts:=[]) bu41 zr41.2 ⟨_,rfl⟩ rfl Le.refl) ?_
  refine A6 ?_
  exact xa5 Plain.mk' (rs:=[.cell 6 41,.tmp 7]) rfl rfl ⟨⟨_,_,_,_,_,rfl,rfl,ti41,(Le.of (by rw [if_neg hk];rfl))⟩,⟨_,rfl,(Le.int (by rw [if_neg hk]))⟩,trivial⟩
 ·
  have hk:askB l a b=true:=by simpa using h31
  refine A2 ?_
  refine xe6 (fun (_j:Unit)=>True) (fun (_j:Unit)=>upd (upd (upd (upd (upd (fun _=>none) 0 (some (.val (tL 8 true tTs l)))) 1 (some (.val (tI a)))) 2 (some (.val (tI (max a b))))) 6 (some (.own (.ptr 6 0)))) 7 (some (.val (tI 0)))) (fun (_j:Unit)=>upd (fun _=>none) 6 (some (⟨41,4,true,[.val (tFr fr0)]⟩))) (nm [6]) ?_ ?_
  ·
   refine A7 ?_
   refine xa0 rfl (fun h34=> ?_) (fun h34=> ?_)
   ·
    refine A4 ?_
    exact kF (()) trivial (hh:=((SubK.consI rfl ImpK.refl) SubK.nil))
   ·
    refine A1 ?_
    exact kF (()) trivial (hh:=((SubK.consI rfl ImpK.refl) SubK.nil))
  ·
   intro _j hj34
   refine A5 ?_
   refine R3 (x3 (c_R5SumOk l hl a (max a b) hD hs (ask_max hk)) fi115 rfl) rfl rfl rfl ?_
   refine A3 ?_
   refine RE (x8 (k:=8) (n:=4) (agg:=true) zr41.1 zr41.2 rfl) trivial trivial ⟨rfl,trivial⟩ ?_
   refine A9 ?_
   refine A2 ?_
   refine xa0 rfl (fun h38=> ?_) (fun h38=> ?_)
   ·
    refine A2 ?_
    refine R0 (xa3 (r:=tS [⟨2,true,(tS [⟨1,false,(tE (.bool false))⟩,⟨1,false,(tLm [])⟩])⟩,⟨2,true,(tS [⟨1,false,(tE (.bool false))⟩,⟨1,false,(tLm [])⟩])⟩]) (ts:=[]) bu41 zr41.2 ⟨_,rfl⟩ rfl Le.refl) ?_
    refine A7 ?_
    exact xa5 Plain.mk' (rs:=[.cell 6 41,.tmp 7]) rfl rfl ⟨⟨_,_,_,_,_,rfl,rfl,ti41,(Le.of (by rw [if_pos hk,←yq_max];cases hsm:sumT (cutT l a (max a b)) with | none=>rfl | some q=>rw [hsm] at h38;exact absurd rfl h38))⟩,⟨_,rfl,(Le.int (by rw [if_pos hk,←yq_max];cases hsm:sumT (cutT l a (max a b)) with | none=>rfl | some q=>rw [hsm] at h38;exact absurd rfl h38))⟩,trivial⟩
   ·
    obtain ⟨q,hq,hqs⟩:=sumF_short (fun q h=>sumT_short h) (Decidable.not_not.1 h38)
    refine A5 ?_
    refine R2 (x3 (c_RQuick 4 1461 (by decide) (by decide) (by decide) (by decide) (by decide)) fi20 rfl) rfl rfl (R2 (x3 (c_R2MulQ4 hq hqs) fi163 rfl) rfl rfl ?_)
    refine A7 ?_
    exact xa5 Plain.mk' (rs:=[.cell 6 41,.tmp 7]) rfl rfl ⟨⟨_,_,_,_,_,rfl,rfl,ti41,(Le.of (by rw [if_pos hk,←yq_max,hq,resF_mulO];rfl))⟩,⟨_,rfl,(Le.int (by rw [if_pos hk,←yq_max,hq,resFE_mulO];rfl))⟩,trivial⟩
theorem c_R8Capped (l:List Tst) (hl:l.length≤500000) (a b:Int) (hD: ∀s∈l,s.v.f.dig) (hs: ∀s∈l,s.v.f.n.l.length≤1048576∧s.v.f.d.l.length≤1048576) (f:Fr) (hF:f.dig):
  Ct Tryz.prog 79 [tL 8 true tTs l,tI a,tI b,tFr f] (tT [tFr (if capC l a b f then sumF (capO l a b f) else fr0),tI (if capC l a b f then sumE (capO l a b f) else 2)]):=by
 refine Ct.intro Tryz.func79 rfl Tryz.ntmps79 rfl ?_
 intro w F
 refine A3 ?_
 refine RE (x8 (k:=8) (n:=4) (agg:=true) zr41.1 zr41.2 rfl) trivial trivial ⟨rfl,trivial⟩ ?_
 refine A9 ?_
 refine R3 (x3 (c_R8may l hl a b hD hs) fi162 rfl) rfl rfl rfl ?_
 refine A2 ?_
 refine RGcase (t:=17) rfl (fun h46=> ?_) (fun h46=> ?_)
 ·
  refine A9 ?_
  refine A5 ?_
  refine R0 (xa3 (r:=tS [⟨2,true,(tS [⟨1,false,(tE (.bool false))⟩,⟨1,false,(tLm [])⟩])⟩,⟨2,true,(tS [⟨1,false,(tE (.bool false))⟩,⟨1,false,(tLm [])⟩])⟩]) (ts:=[]) bu41 zr41.2 ⟨_,rfl⟩ rfl Le.refl) ?_
  refine A6 ?_
  exact xa5 Plain.mk' (rs:=[.cell 8 41,.tmp 9]) rfl rfl ⟨⟨_,_,_,_,_,rfl,rfl,ti41,(Le.of (by rw [if_neg (fun h:capC l a b f=>by simp [h.2] at*)];rfl))⟩,⟨_,rfl,(Le.int (by rw [if_neg (fun h:capC l a b f=>by simp [h.2] at*)]))⟩,trivial⟩
 ·
  have hk0:askB l a b=true:=by simpa using h46
  refine A1 ?_
  refine RGon h46 rfl (x3 (c_R2Valid f hF.1 hF.2) fi52 rfl) rfl ⟨rfl,trivial⟩ trivial trivial ?_
  refine A3 ?_
  refine RGcase (t:=22) rfl (fun h46_2=> ?_) (fun h46_2=> ?_)
  ·
   refine A9 ?_
   refine R0 (xa3 (r:=tS [⟨2,true,(tS [⟨1,false,(tE (.bool false))⟩,⟨1,false,(tLm [])⟩])⟩,⟨2,true,(tS [⟨1,false,(tE (.bool false))⟩,⟨1,false,(tLm [])⟩])⟩]) (ts:=[]) bu41 zr41.2 ⟨_,rfl⟩ rfl Le.refl) ?_
   refine A6 ?_
   exact xa5 Plain.mk' (rs:=[.cell 8 41,.tmp 9]) rfl rfl ⟨⟨_,_,_,_,_,rfl,rfl,ti41,(Le.of (by rw [if_neg (fun h:capC l a b f=>by simp [h.1.1,h.2] at*)];rfl))⟩,⟨_,rfl,(Le.int (by rw [if_neg (fun h:capC l a b f=>by simp [h.1.1,h.2] at*)]))⟩,trivial⟩
  ·
   refine A2 ?_
   refine xb6 h46_2 rfl rfl (0) ti4 rfl rfl rfl (At.t (At.g 0 rfl rfl) (At.g 0 rfl rfl)) rfl ?_
   refine A3 ?_
   refine xc1 rfl (fun h46_3=> ?_) (fun h46_3=> ?_)
   ·
    refine A2 ?_
    refine R0 (xa3 (r:=tS [⟨2,true,(tS [⟨1,false,(tE (.bool false))⟩,⟨1,false,(tLm [])⟩])⟩,⟨2,true,(tS [⟨1,false,(tE (.bool false))⟩,⟨1,false,(tLm [])⟩])⟩]) (ts:=[]) bu41 zr41.2 ⟨_,rfl⟩ rfl Le.refl) ?_
    refine A6 ?_
    exact xa5 Plain.mk' (rs:=[.cell 8 41,.tmp 9]) rfl rfl ⟨⟨_,_,_,_,_,rfl,rfl,ti41,(Le.of (by rw [if_neg (fun h:capC l a b f=>by simp [h.1.1,h.1.2,h.2] at*)];rfl))⟩,⟨_,rfl,(Le.int (by rw [if_neg (fun h:capC l a b f=>by simp [h.1.1,h.1.2,h.2] at*)]))⟩,trivial⟩
   ·
    have hv2:f.valid=true∧f.n.neg=false:=⟨by simpa using h46_2,h46_3⟩
    have hf:=Fr.of_valid' hF hv2.1
    refine A7 ?_
    refine R3 (x3 (c_R8Years l hl a b hD hs) fi77 rfl) rfl rfl rfl ?_
    refine A3 ?_
    refine RE (x8 (k:=10) (n:=4) (agg:=true) zr41.1 zr41.2 rfl) trivial trivial ⟨rfl,trivial⟩ ?_
    refine A9 ?_
    refine A1 ?_
    refine RGcaseD (t:=37) rfl (fun h50=> ?_) (fun h50=> ?_)
    ·
     obtain ⟨hk,q,hq,hqs⟩:=yr_ok (l:=l) (a:=a) (b:=b) (by assumption)
     have hc:capC l a b f:=⟨hv2,hk⟩
     refine A2 ?_
     refine RGon (decide_eq_true h50) rfl (x3 (c_R2CmpE (x:=if askB l a b=true then sumF (yq l a b) else fr0) (q:=q) (by rw [if_pos hk,hq];rfl) hqs f hF hv2.1) fi165 rfl) rfl ⟨rfl,rfl,trivial⟩ trivial trivial ?_
     refine A4 ?_
     refine xa0 rfl (fun h50_2=> ?_) (fun h50_2=> ?_)
     ·
      refine A9 ?_
      exact xa5 Plain.mk' (rs:=[.cell 8 41,.tmp 9]) rfl rfl ⟨⟨_,_,_,_,_,rfl,rfl,ti41,(Le.of (by rw [if_pos hc,capO,hq,Option.map_some,if_neg (xg3.1 (by assumption))];exact congrArg tFr hf.1))⟩,⟨_,rfl,(Le.int (by rw [if_pos hc,capO,hq];rfl))⟩,trivial⟩
     ·
      refine A9 ?_
      refine A2 ?_
      exact xa5 Plain.mk' (rs:=[.cell 8 41,.tmp 9]) rfl rfl ⟨⟨_,_,_,_,_,rfl,rfl,ti41,(Le.of (by rw [if_pos hc,capO,hq,if_pos hk,Option.map_some,if_pos (Decidable.byContradiction fun h=>absurd (xg3.2 h) (by omega))]))⟩,⟨_,rfl,(Le.int (by rw [if_pos hc,capO,hq,if_pos hk];rfl))⟩,trivial⟩
    ·
     refine A9 ?_
     refine A9 ?_
     refine A1 ?_
     exact xa5 Plain.mk' (rs:=[.cell 8 41,.tmp 9]) rfl rfl ⟨⟨_,_,_,_,_,rfl,rfl,ti41,(Le.of (by rw [(cap_bad hv2 (by assumption)).1];cases hy:yq l a b with | none=>split <;> rfl | some q=>exact absurd (show (if askB l a b=true then sumE (yq l a b) else 2)=0 by rw [if_pos hk0,hy];rfl) (by assumption)))⟩,⟨_,rfl,(Le.int (cap_bad hv2 (by assumption)).2)⟩,trivial⟩
end An.S

/- Layer 8: service records in order; sums of days. Plain data, but for what the walks define. -/
namespace An.S
open Go
theorem wkS_asc {l:List Tst} {a b:Int} (h:tRight l=true) (h0:0≤a) (h1:b≤65536) (hab:a < b):ascS (wkS l a b):=by
  refine ⟨fun s hs=> ?_,?_⟩
  · obtain ⟨x,hx,rfl⟩:=List.mem_map.1 hs
    obtain ⟨hm,hi⟩:=List.mem_filter.1 hx
    obtain ⟨i,hi2,rfl⟩:=exists_getD hm
    have h3:=xh2 h hi2
    have h4: ¬_:=fun h'=>by rw [idle_iff.2 h'] at hi;cases hi
    simp only [okS,clipS]
    omega
  · refine (((tRight_pair h).filter _).map (S:=fun s t=>s.hi≤t.lo) (clipS a b) fun s t hst=> ?_)
    simp only [clipS];omega
theorem wkd_eq {l:List Tst} {a b:Int} (h:tRight l=true) (h0:0≤a) (h1:b≤65536):wkd l a b=if b≤a then [] else mrg (wkS l a b):=by
  rw [wkd];split
  · rfl
  · rename_i hab
    have ha:=wkS_asc h h0 h1 (by omega)
    rw [if_pos (ascS_ok ha),mkS,ascS_pos ha,ascS_srt ha]
end An.S

/- Law 8: records are built, days are counted. -/
namespace An.S
open Go Go.Proofs An
set_option maxHeartbeats 2000000
def befS (day:Int) (s:Sn):Int:=if s.lo < day then min s.hi day - s.lo else 0
def bef (l:List Sn) (day:Int):Int:=(l.map (befS day)).sum
def bFrom (m:List Nat) (k:Nat) (t:Int):Int:=t+((m.getD (3*k) 0:Nat):Int)%2000
def bEnd (m:List Nat) (k:Nat) (t:Int):Int:=bFrom m k t+1+((m.getD (3*k+1) 0:Nat):Int)%2000
def bQ (m:List Nat) (k:Nat):Int:=((m.getD (3*k+2) 0:Nat):Int)%5
def qv (q:Int):Va:=⟨2,fr (kfr q 4),0⟩
def bSt (m:List Nat) (k:Nat) (t:Int):Tst:=⟨bFrom m k t,bEnd m k t,qv (bQ m k)⟩
def bRun (m:List Nat):Nat→Nat→List Tst→Int→List Tst
  | 0,_,out,_=>out
  | f+1,k,out,t=>if 3*k+2 < m.length∧k < 40 then (if 65536 < bEnd m k t then out else bRun m f (k+1) (pst1 out (bSt m k t)) (bEnd m k t)) else out
def builtT (m:List Nat):List Tst:=bRun m 41 0 [] 0
end An.S

/- Law 8: quarters, the examples of the chapter. -/
namespace An.S
open Go Go.Proofs An
set_option maxHeartbeats 2000000
set_option maxRecDepth 100000
instance fi31:FnI Tryz.prog 31:=⟨_,Tryz.func31,by kernel_rfl,rfl⟩
instance fi78:FnI Tryz.prog 78:=⟨_,Tryz.func78,by kernel_rfl,rfl⟩
instance fi87:FnI Tryz.prog 87:=⟨_,Tryz.func87,by kernel_rfl,rfl⟩
instance fi88:FnI Tryz.prog 88:=⟨_,Tryz.func88,by kernel_rfl,rfl⟩
instance fi89:FnI Tryz.prog 89:=⟨_,Tryz.func89,by kernel_rfl,rfl⟩
instance fi90:FnI Tryz.prog 90:=⟨_,Tryz.func90,by kernel_rfl,rfl⟩
instance fi91:FnI Tryz.prog 91:=⟨_,Tryz.func91,by kernel_rfl,rfl⟩
instance fi93:FnI Tryz.prog 93:=⟨_,Tryz.func93,by kernel_rfl,rfl⟩
/-- The sum, and the number, of the quarters up to n that a value is. -/
def qsum (v:Va):Nat→Int
  | 0=>0
  | n+1=>qsum v n+if v=qv ((n:Int)+1) then (n:Int)+1 else 0
def qcnt (v:Va):Nat→Int
  | 0=>0
  | n+1=>qcnt v n+if v=qv ((n:Int)+1) then 1 else 0
def dys (a b:Int) (s:Tst):Int:=min s.hi b - max s.lo a
def quS1 (a b:Int) (s:Tst):Int:=if dys a b s≤0 then 0 else qsum s.v 4*dys a b s
def quW1 (a b:Int) (s:Tst):Int:=if dys a b s≤0 then 0 else qcnt s.v 4*dys a b s
def quS (l:List Tst) (a b:Int):Int:=(l.map (quS1 a b)).sum
def quW (l:List Tst) (a b:Int):Int:=(l.map (quW1 a b)).sum
theorem dig_fr (q:Rat):(fr q).dig:=⟨xb4 x5 _,xb4 x5 _⟩
def exL:List Tst:=[(⟨0,100,⟨2,fr (kfr 1 1),0⟩⟩:Tst),(⟨100,150,⟨2,fr (kfr 1 2),0⟩⟩:Tst),(⟨160,200,⟨2,fr (kfr 0 1),0⟩⟩:Tst),(⟨200,300,⟨2,fr (kfr 1 4),0⟩⟩:Tst)]
theorem exD: ∀s∈exL,s.v.f.dig:=fun s hs=>by
  simp only [exL,List.mem_cons,List.not_mem_nil,or_false] at hs
  rcases hs with rfl | rfl | rfl | rfl <;> exact dig_fr _
theorem c_example:
  Ct Tryz.prog 87 [] (tL 8 true tTs exL):=by
 refine Ct.intro Tryz.func87 rfl Tryz.ntmps87 rfl ?_
 intro w F
 refine A7 ?_
 refine RE (x3 (c_step08 0 100 1 1 (by decide) (by decide) (by decide) (by decide)) fi31 rfl) ⟨rfl,rfl,rfl,rfl,trivial⟩ trivial trivial (RE (x3 (c_step08 100 150 1 2 (by decide) (by decide) (by decide) (by decide)) fi31 rfl) ⟨rfl,rfl,rfl,rfl,trivial⟩ trivial trivial (RE (x3 (c_step08 160 200 0 1 (by decide) (by decide) (by decide) (by decide)) fi31 rfl) ⟨rfl,rfl,rfl,rfl,trivial⟩ trivial trivial (RE (x3 (c_step08 200 300 1 4 (by decide) (by decide) (by decide) (by decide)) fi31 rfl) ⟨rfl,rfl,rfl,rfl,trivial⟩ trivial trivial (RE (xc9 (n:=4) (f:=tTs) [(⟨0,100,⟨2,fr (kfr 1 1),0⟩⟩:Tst),(⟨100,150,⟨2,fr (kfr 1 2),0⟩⟩:Tst),(⟨160,200,⟨2,fr (kfr 0 1),0⟩⟩:Tst),(⟨200,300,⟨2,fr (kfr 1 4),0⟩⟩:Tst)] Tryz.underlying51 el59 zf59 rfl (fun _=>inferInstance) rfl rfl rfl) ⟨rfl,rfl,rfl,rfl,trivial⟩ trivial trivial ?_))))
 refine A4 ?_
 exact x4 Plain.mk' rfl rfl Le.refl
theorem c_YearsV (l:List Tst) (a b:Int) (q:Rat) (hl:l.length≤500000) (hD: ∀s∈l,s.v.f.dig) (hk:askB l a b=true) (hy:yq l a b=some q):Ct Tryz.prog 76 [tL 8 true tTs l,tI a,tI b] (tT [tFr (fr q),tI 0]):=by
  have h:=c_Years l a b hl hD
  rw [if_pos hk,if_pos hk,hy] at h;exact h
theorem c_CappedV (l:List Tst) (a b:Int) (f:Fr) (q:Rat) (hl:l.length≤500000) (hD: ∀s∈l,s.v.f.dig) (hF:f.dig) (hk:capC l a b f) (hy:capO l a b f=some q):Ct Tryz.prog 78 [tL 8 true tTs l,tI a,tI b,tFr f] (tT [tFr (fr q),tI 0]):=by
  have h:=c_Capped l a b f hl hD hF
  rw [if_pos hk,if_pos hk,hy] at h;exact h
theorem c_MonthsV (f:Fr) (n:Int) (hF:f.dig) (hc:moC f) (hn:(m12 f).floor=n):Ct Tryz.prog 88 [tFr f] (tT [tI n,tI 0]):=by
  have h:=c_Months f hF
  rw [if_pos hc,if_pos hc.1,if_pos hc,hn] at h;exact h
theorem c_WorkedV (l:List Tst) (a b:Int) (w:List Sn) (hl:l.length≤500000) (hD: ∀s∈l,s.v.f.dig) (hk:askB l a b=true) (hw:wkd l a b=w):Ct Tryz.prog 89 [tL 8 true tTs l,tI a,tI b] (tT [tL 2 true tSn w,tI 0]):=by
  have h:=c_Worked l a b hl hD
  rw [if_pos hk,if_pos hk,hw] at h;exact h
theorem c_BreaksV (l:List Tst) (a b:Int) (w:List Sn) (hl:l.length≤500000) (hD: ∀s∈l,s.v.f.dig) (hk:askB l a b=true) (hw:brk (wkd l a b)=w):Ct Tryz.prog 90 [tL 8 true tTs l,tI a,tI b] (tT [tL 2 true tSn w,tI 0]):=by
  have h:=c_Breaks l a b hl hD
  rw [if_pos hk,if_pos hk,hw] at h;exact h
theorem c_PeriodsV (l:List Tst) (a b d:Int) (w:List Sn) (hl:l.length≤500000) (hD: ∀s∈l,s.v.f.dig) (hk:askB l a b=true∧sVal (wkd l a b)=true∧0≤d) (hw:brg d (wkd l a b)=w):Ct Tryz.prog 91 [tL 8 true tTs l,tI a,tI b,tI d] (tT [tL 2 true tSn w,tI 0]):=by
  have h:=c_Periods l a b d hl hD
  rw [if_pos hk,if_pos hk,hw] at h;exact h
theorem c_sameF (f:Fr):Ct Tryz.prog 86 [tFr f,tFr f] (tB true):=by
  have h:=c_SameFrac f f
  rw [decide_eq_true rfl] at h;exact h
theorem c_sameS (w:List Sn):Ct Tryz.prog 92 [tL 2 true tSn w,tL 2 true tSn w] (tB true):=by
  have h:=c_SameSpans w w
  rw [decide_eq_true rfl] at h;exact h
theorem exW:wkd exL 0 300=[⟨0,150⟩,⟨200,300⟩]:=(wkd_eq (by decide+kernel) (by decide) (by decide)).trans (by decide+kernel)
theorem exV:wkd exL 150 220=[⟨200,220⟩]:=(wkd_eq (by decide+kernel) (by decide) (by decide)).trans (by decide+kernel)
theorem c_awake:
  Ct Tryz.prog 27 [] (tB true):=by
 refine Ct.intro Tryz.func27 rfl Tryz.ntmps27 rfl ?_
 intro w F
 refine A7 ?_
 refine R0 (x3 c_example fi87 rfl) ?_
 refine A6 ?_
 refine R3 (x3 (c_YearsV exL 0 300 (kfr 200 487) (by decide) exD (by decide+kernel) (by decide+kernel)) fi76 rfl) rfl rfl rfl ?_
 refine A3 ?_
 refine RE (x8 (k:=2) (n:=4) (agg:=true) zr41.1 zr41.2 rfl) trivial trivial ⟨rfl,trivial⟩ ?_
 refine A7 ?_
 refine R3 (x3 (c_YearsV exL 50 50 (kfr 0 1) (by decide) exD (by decide+kernel) (by decide+kernel)) fi76 rfl) rfl rfl rfl ?_
 refine A3 ?_
 refine RE (x8 (k:=4) (n:=4) (agg:=true) zr41.1 zr41.2 rfl) trivial trivial ⟨rfl,trivial⟩ ?_
 refine A7 ?_
 refine R3 (x3 (c_YearsV exL 120 110 (kfr 0 1) (by decide) exD (by decide+kernel) (by decide+kernel)) fi76 rfl) rfl rfl rfl ?_
 refine A3 ?_
 refine RE (x8 (k:=6) (n:=4) (agg:=true) zr41.1 zr41.2 rfl) trivial trivial ⟨rfl,trivial⟩ ?_
 refine A7 ?_
 refine R2 (x3 (c_KFrac 1 3 (by decide) (by decide) (by decide) (by decide)) fi32 rfl) rfl rfl (RE (x3 (c_CappedV exL 0 300 (fr (kfr 1 3)) (kfr 1 3) (by decide) exD (dig_fr _) (by decide+kernel) (by decide+kernel)) fi78 rfl) ⟨rfl,rfl,rfl,rfl,trivial⟩ trivial trivial ?_)
 refine A3 ?_
 refine RE (x8 (k:=8) (n:=4) (agg:=true) zr41.1 zr41.2 rfl) trivial trivial ⟨rfl,trivial⟩ ?_
 refine A6 ?_
 refine R2 (x3 (c_KFrac 5 4 (by decide) (by decide) (by decide) (by decide)) fi32 rfl) rfl rfl (R1 (x3 (c_MonthsV (fr (kfr 5 4)) 15 (dig_fr _) (by decide+kernel) (by decide+kernel)) fi88 rfl) rfl ?_)
 refine A9 ?_
 refine R2 (x3 (c_KFrac 1 13 (by decide) (by decide) (by decide) (by decide)) fi32 rfl) rfl rfl (R1 (x3 (c_MonthsV (fr (kfr 1 13)) 0 (dig_fr _) (by decide+kernel) (by decide+kernel)) fi88 rfl) rfl ?_)
 refine A9 ?_
 refine A9 ?_
 refine A5 ?_
 refine RGon (decide_eq_false (by omega)) rfl (xd4 (0) ti41 rfl rfl) rfl ⟨rfl,trivial⟩ ⟨rfl,trivial⟩ trivial (RGon (decide_eq_false (by omega)) rfl (x3 (c_KFrac 200 487 (by decide) (by decide) (by decide) (by decide)) fi32 rfl) rfl ⟨rfl,rfl,trivial⟩ trivial trivial (RGon (decide_eq_false (by omega)) rfl (x3 (c_sameF _) fi86 rfl) rfl ⟨rfl,rfl,trivial⟩ trivial trivial (RGon (decide_eq_false (by omega)) rfl d_not rfl ⟨rfl,trivial⟩ trivial trivial (R2 (xf6 (decide_eq_false (by omega))) rfl rfl ?_))))
 refine A2 ?_
 refine RGon rfl rfl (x3 (c_KFrac 0 1 (by decide) (by decide) (by decide) (by decide)) fi32 rfl) rfl ⟨rfl,rfl,trivial⟩ trivial trivial (RGon rfl rfl (x3 (c_sameF _) fi86 rfl) rfl ⟨rfl,rfl,trivial⟩ trivial trivial ?_)
 refine A5 ?_
 refine RGon rfl rfl (x3 (c_sameF _) fi86 rfl) rfl ⟨rfl,rfl,trivial⟩ trivial trivial ?_
 refine A4 ?_
 refine RGon rfl rfl (x3 (c_KFrac 1 3 (by decide) (by decide) (by decide) (by decide)) fi32 rfl) rfl ⟨rfl,rfl,trivial⟩ trivial trivial (RGon rfl rfl (x3 (c_sameF _) fi86 rfl) rfl ⟨rfl,rfl,trivial⟩ trivial trivial ?_)
 refine A7 ?_
 refine RGon (decide_eq_false (by omega)) rfl xe0 rfl ⟨rfl,trivial⟩ trivial trivial (RGon (decide_eq_false (by omega)) rfl d_neq rfl ⟨rfl,rfl,trivial⟩ trivial trivial (R2 (xf6 (decide_eq_false (by omega))) rfl rfl ?_))
 refine A2 ?_
 refine C_bF rfl (decide_eq_false (by omega)) ?_
 refine A5 ?_
 refine R3 (x3 (c_WorkedV exL 0 300 [(⟨0,150⟩:Sn),(⟨200,300⟩:Sn)] (by decide) exD (by decide+kernel) exW) fi89 rfl) rfl rfl rfl ?_
 refine A9 ?_
 refine A1 ?_
 refine R3 (x3 (c_BreaksV exL 0 300 [(⟨150,200⟩:Sn)] (by decide) exD (by decide+kernel) (by rw [exW];decide+kernel)) fi90 rfl) rfl rfl rfl ?_
 refine A9 ?_
 refine A1 ?_
 refine RE (x3 (c_PeriodsV exL 0 300 50 [(⟨0,300⟩:Sn)] (by decide) exD ⟨by decide+kernel,by rw [exW];decide+kernel,by decide⟩ (by rw [exW];decide+kernel)) fi91 rfl) ⟨rfl,rfl,rfl,rfl,trivial⟩ trivial trivial ?_
 refine A9 ?_
 refine A1 ?_
 refine RE (x3 (c_PeriodsV exL 0 300 49 [(⟨0,150⟩:Sn),(⟨200,300⟩:Sn)] (by decide) exD ⟨by decide+kernel,by rw [exW];decide+kernel,by decide⟩ (by rw [exW];decide+kernel)) fi91 rfl) ⟨rfl,rfl,rfl,rfl,trivial⟩ trivial trivial ?_
 refine A9 ?_
 refine A1 ?_
 refine R3 (x3 (c_WorkedV exL 150 220 [(⟨200,220⟩:Sn)] (by decide) exD (by decide+kernel) exV) fi89 rfl) rfl rfl rfl ?_
 refine A9 ?_
 refine A1 ?_
 refine R3 (x3 (c_BreaksV exL 150 220 [] (by decide) exD (by decide+kernel) (by rw [exV];decide+kernel)) fi90 rfl) rfl rfl rfl ?_
 refine A9 ?_
 refine A9 ?_
 refine A9 ?_
 refine RGon (decide_eq_true (by omega)) rfl xe0 rfl ⟨rfl,trivial⟩ trivial trivial (RGon (decide_eq_true (by omega)) rfl xe0 rfl ⟨rfl,trivial⟩ trivial trivial (RGon (decide_eq_true (by omega)) rfl (x3 (c_to 0 150) fi93 rfl) rfl ⟨rfl,rfl,trivial⟩ trivial trivial (RGon (decide_eq_true (by omega)) rfl (x3 (c_to 200 300) fi93 rfl) rfl ⟨rfl,rfl,trivial⟩ trivial trivial (RGon (decide_eq_true (by omega)) rfl (xc9 (n:=2) (f:=tSn) [(⟨0,150⟩:Sn),(⟨200,300⟩:Sn)] Tryz.underlying113 el119 zf119 rfl (fun _=>inferInstance) rfl rfl rfl) rfl ⟨rfl,rfl,trivial⟩ trivial trivial (RGon (decide_eq_true (by omega)) rfl (d_callF (c_sameS [(⟨0,150⟩:Sn),(⟨200,300⟩:Sn)]) fi92 rfl) rfl ⟨rfl,rfl,rfl,trivial⟩ trivial trivial (R2 (d_pickT (decide_eq_true (by omega))) rfl rfl ?_))))))
 refine A3 ?_
 refine RGon rfl rfl (x3 (c_to 150 200) fi93 rfl) rfl ⟨rfl,rfl,trivial⟩ trivial trivial (RGon rfl rfl (xc9 (n:=1) (f:=tSn) [(⟨150,200⟩:Sn)] Tryz.underlying113 el119 zf119 rfl (fun _=>inferInstance) rfl rfl rfl) rfl ⟨rfl,trivial⟩ trivial trivial (RGon rfl rfl (d_callF (c_sameS [(⟨150,200⟩:Sn)]) fi92 rfl) rfl ⟨rfl,rfl,rfl,trivial⟩ trivial trivial ?_))
 refine A4 ?_
 refine RGon rfl rfl (x3 (c_to 0 300) fi93 rfl) rfl ⟨rfl,rfl,trivial⟩ trivial trivial (RGon rfl rfl (xc9 (n:=1) (f:=tSn) [(⟨0,300⟩:Sn)] Tryz.underlying113 el119 zf119 rfl (fun _=>inferInstance) rfl rfl rfl) rfl ⟨rfl,trivial⟩ trivial trivial (RGon rfl rfl (d_callF (c_sameS [(⟨0,300⟩:Sn)]) fi92 rfl) rfl ⟨rfl,rfl,rfl,trivial⟩ trivial trivial ?_))
 refine A5 ?_
 refine RGon rfl rfl (d_callF (c_sameS [(⟨0,150⟩:Sn),(⟨200,300⟩:Sn)]) fi92 rfl) rfl ⟨rfl,rfl,rfl,trivial⟩ trivial trivial ?_
 refine A4 ?_
 refine RGon rfl rfl (x3 (c_to 200 220) fi93 rfl) rfl ⟨rfl,rfl,trivial⟩ trivial trivial (RGon rfl rfl (xc9 (n:=1) (f:=tSn) [(⟨200,220⟩:Sn)] Tryz.underlying113 el119 zf119 rfl (fun _=>inferInstance) rfl rfl rfl) rfl ⟨rfl,trivial⟩ trivial trivial (RGon rfl rfl (d_callF (c_sameS [(⟨200,220⟩:Sn)]) fi92 rfl) rfl ⟨rfl,rfl,rfl,trivial⟩ trivial trivial ?_))
 refine A9 ?_
 refine A1 ?_
 exact x4 Plain.mk' rfl rfl (Le.bool (by decide))
end An.S

/- Law 8: ServiceYears: the program and the reference agree on years and limits. -/
namespace An.S
open Go Go.Proofs An
set_option maxHeartbeats 2000000
set_option maxRecDepth 100000
instance fi26:FnI Tryz.prog 26:=⟨_,Tryz.func26,by kernel_rfl,rfl⟩
instance fi27:FnI Tryz.prog 27:=⟨_,Tryz.func27,by kernel_rfl,rfl⟩
instance fi79:FnI Tryz.prog 79:=⟨_,Tryz.func79,by kernel_rfl,rfl⟩
theorem c_years8 (l:List Tst) (a b:Int) (f:Fr) (hl:l.length≤60) (hD: ∀s∈l,s.v.f.dig) (hs: ∀s∈l,s.v.f.n.l.length≤1200∧s.v.f.d.l.length≤1200) (hF:f.dig) (hf1:f.n.l.length≤600) (hf2:f.d.l.length≤600):
  Ct Tryz.prog 26 [tL 8 true tTs l,tI a,tI b,tFr f] (tB true):=by
 refine Ct.introO Tryz.func26 rfl Tryz.ntmps26 rfl ?_
 intro w F
 refine A9 ?_
 refine R1 (xe2 (ts:=[_]) (r:=tG (up w.heap.size) _) (c_LentStepsN l hl (fun s hsm=>by have:=hs s hsm;omega)) fi74 (fun m hm=>tG_up hm) ⟨tG_le,trivial⟩ rfl) rfl ?_
 refine A1 ?_
 refine R1 (xe2 (ts:=[_]) (r:=tG (up w.heap.size) _) (c_LentFracN f (by omega) (by omega)) fi75 (fun m hm=>tG_up hm) ⟨tG_le,trivial⟩ rfl) rfl (RE (x8 (k:=10) (n:=4) (agg:=true) zr41.1 zr41.2 rfl) trivial trivial ⟨rfl,trivial⟩ ?_)
 refine A5 ?_
 refine C_lentK (W:=tStW l) (U:=tFrW f) (agg:=true) 99 64 9 10 41 4 (g':=fun v=>upd (upd (upd (upd (upd (upd (upd (fun _=>none) 0 (some (.val (tL 8 true tTs l)))) 1 (some (.val (tI a)))) 2 (some (.val (tI b)))) 7 (some (.own (.ptr 7 0)))) 8 (some (.val (tB false)))) 9 (some (.val (tE v)))) 10 (some (.own (.ptr 10 0)))) (h':=fun u=>upd (upd (fun _=>none) 7 (some ⟨41,4,true,[.val (tFr f)]⟩)) 10 (some ⟨41,4,true,[.val (tE u)]⟩)) rfl rfl rfl (fun _ L hL=>SlC.cons rfl .own (SlC.cons rfl .cst (SlC.cons rfl (.val tG_E) (SlC.cons rfl .own (SlC.cons rfl (.val tG_E) (SlC.cons rfl (.val tG_E) (SlC.cons rfl (.val (tG_old hL)) (SlC.nil)))))))) (fun _ _ _ hL=>KyC.cons rfl .cst (KyC.cons rfl (.val (tG_old hL)) KyC.nil)) ?_
 intro L w1 v u hv hu hL1 hL2
 refine A4 ?_
 refine RE (d_callH (us':=[tE v,tI a,tI b]) (r:=tT [tFr (if askB l a b=true then sumF (yq l a b) else fr0),tI (if askB l a b=true then sumE (yq l a b) else 2)]) OvC.mk' (c_YearsN l a b (by omega) hD) fi76 hrT ⟨.inr ⟨_,rfl,stW_le _ _ _ hv⟩,.inl Le.refl,.inl Le.refl,trivial⟩ rfl) ⟨rfl,rfl,rfl,trivial⟩ ⟨rfl,trivial⟩ trivial ?_
 refine A3 ?_
 refine RE (x8 (k:=11) (n:=4) (agg:=true) zr41.1 zr41.2 rfl) trivial trivial ⟨rfl,trivial⟩ ?_
 refine A9 ?_
 refine R3 (x3 (c_R8Years l (by omega) a b hD (fun s hsm=>by have:=hs s hsm;omega)) fi77 rfl) rfl rfl rfl ?_
 refine A3 ?_
 refine RE (x8 (k:=13) (n:=4) (agg:=true) zr41.1 zr41.2 rfl) trivial trivial ⟨rfl,trivial⟩ ?_
 refine A9 ?_
 refine A1 ?_
 refine RE (d_callH (us':=[tE v,tI a,tI b,tE u]) (r:=tT [tFr (if capC l a b f then sumF (capO l a b f) else fr0),tI (if capC l a b f then sumE (capO l a b f) else 2)]) OvC.mk' (c_CappedN l a b f (by omega) hD hF) fi78 hrT ⟨.inr ⟨_,rfl,stW_le _ _ _ hv⟩,.inl Le.refl,.inl Le.refl,.inr ⟨_,rfl,frK_le _ _ _ (frWK _ _ _ hu)⟩,trivial⟩ rfl) ⟨rfl,rfl,rfl,rfl,trivial⟩ ⟨rfl,trivial⟩ trivial ?_
 refine A3 ?_
 refine RE (x8 (k:=15) (n:=4) (agg:=true) zr41.1 zr41.2 rfl) trivial trivial ⟨rfl,trivial⟩ ?_
 refine A9 ?_
 refine A1 ?_
 refine RE (x3 (c_R8Capped l (by omega) a b hD (fun s hsm=>by have:=hs s hsm;omega) f hF) fi79 rfl) ⟨rfl,rfl,rfl,rfl,trivial⟩ trivial trivial ?_
 refine A3 ?_
 refine RE (x8 (k:=17) (n:=4) (agg:=true) zr41.1 zr41.2 rfl) trivial trivial ⟨rfl,trivial⟩ ?_
 refine A9 ?_
 refine A2 ?_
 refine RGon (decide_eq_false (by simp)) rfl xe0 rfl ⟨rfl,trivial⟩ trivial trivial (RGon (decide_eq_false (by simp)) rfl xe0 rfl ⟨rfl,trivial⟩ trivial trivial (RGon (decide_eq_false (by simp)) rfl d_neq rfl ⟨rfl,rfl,trivial⟩ trivial trivial (R2 (xf6 (decide_eq_false (by simp))) rfl rfl ?_)))
 refine A1 ?_
 refine RGon (decide_eq_false (by simp)) rfl xe0 rfl ⟨rfl,trivial⟩ trivial trivial (RGon (decide_eq_false (by simp)) rfl (d_callH (us':=[tE v]) (r:=tB (sRight l)) (rr:=fun _=>tB (sRight l)) OvC.mk' (c_SvRight l hD) fi80 (hrE fun _=>rfl) ⟨.inr ⟨_,rfl,stW_le _ _ _ hv⟩,trivial⟩ rfl) rfl ⟨rfl,trivial⟩ ⟨rfl,trivial⟩ trivial (RGon (decide_eq_false (by simp)) rfl xe0 rfl ⟨rfl,trivial⟩ trivial trivial (RGon (decide_eq_false (by simp)) rfl (x3 (c_R8Right l (by omega) hD (fun s hsm=>by have:=hs s hsm;omega)) fi81 rfl) rfl ⟨rfl,trivial⟩ trivial trivial (RGon (decide_eq_false (by simp)) rfl (d_neqB Tryz.underlying4) rfl ⟨rfl,rfl,trivial⟩ trivial trivial (R2 (xf6 (decide_eq_false (by simp))) rfl rfl ?_)))))
 refine A1 ?_
 refine RGon (by simp) rfl xe0 rfl ⟨rfl,trivial⟩ trivial trivial (RGon (by simp) rfl xe0 rfl ⟨rfl,trivial⟩ trivial trivial (RGon (by simp) rfl (d_callH (us':=[tE v,tL 8 true tTs l]) (r:=tB true) (rr:=fun _=>tB true) OvC.mk' (c_KeptSteps l hl (fun s hsm=>by have:=hs s hsm;omega)) fi82 (hrE fun _=>rfl) ⟨.inr ⟨_,rfl,hv⟩,.inl Le.refl,trivial⟩ rfl) rfl ⟨rfl,rfl,trivial⟩ ⟨rfl,trivial⟩ trivial (RGon (by simp) rfl d_not rfl ⟨rfl,trivial⟩ trivial trivial (R2 (xf6 (by simp)) rfl rfl ?_))))
 refine A3 ?_
 refine RGon rfl rfl (d_callH (us':=[tE u,tFr f]) (r:=tB true) (rr:=fun _=>tB true) OvC.mk' (c_KeptFrac f (by omega) (by omega)) fi83 (hrE fun _=>rfl) ⟨.inr ⟨_,rfl,frWK _ _ _ hu⟩,.inl Le.refl,trivial⟩ rfl) rfl ⟨rfl,rfl,trivial⟩ ⟨rfl,trivial⟩ trivial ?_
 refine A9 ?_
 refine A1 ?_
 refine RE (d_callV (us:=[tE v]) OvC.mk' (v_OverStepsL L w1 l hl (fun s hsm=>by have:=hs s hsm;omega) v hv) fi84 ⟨Free.E,trivial⟩ rfl) ⟨rfl,trivial⟩ ⟨rfl,trivial⟩ trivial ?_
 refine A5 ?_
 refine RE (d_callV (us:=[tE u]) OvC.mk' (v_OverFracL L w1 f (by omega) (by omega) u hu) fi85 ⟨Free.E,trivial⟩ rfl) ⟨rfl,trivial⟩ ⟨rfl,trivial⟩ trivial ?_
 refine A6 ?_
 refine R2 (x3 (c_SameFracT _) fi86 rfl) rfl rfl ?_
 refine A3 ?_
 refine RGon rfl rfl (x3 (c_SameFracT _) fi86 rfl) rfl ⟨rfl,rfl,trivial⟩ trivial trivial ?_
 refine A5 ?_
 exact E_retB (RBase.ov hL2) trivial rfl rfl
theorem c_SvcYears (l:List Tst) (a b:Int) (f:Fr) (hD: ∀s∈l,s.v.f.dig) (hr: ∀s∈l,s.v.f.n.l.length≤70368744177664∧s.v.f.d.l.length≤70368744177664) (hF:f.dig) (hf1:f.n.l.length≤70368744177664) (hf2:f.d.l.length≤70368744177664):
  Ct Tryz.prog 5 [tL 8 true tTs l,tI a,tI b,tFr f] (tB true):=by
 refine Ct.intro Tryz.func5 rfl Tryz.ntmps5 rfl ?_
 intro w F
 refine A9 ?_
 refine R1 (x3 (c_Few l hr) fi24 rfl) rfl ?_
 refine A2 ?_
 refine RGcase (t:=12) rfl (fun h86=> ?_) (fun h86=> ?_)
 ·
  refine A9 ?_
  refine A3 ?_
  refine RGon rfl rfl (x3 c_awake fi27 rfl) rfl trivial trivial trivial ?_
  refine A5 ?_
  exact x4 Plain.mk' rfl rfl Le.refl
 ·
  have hf:=few_of (l:=l) (by simpa using h86)
  refine A1 ?_
  refine RGon h86 rfl (x3 (c_Limbs f (by omega) (by omega)) fi25 rfl) rfl ⟨rfl,trivial⟩ trivial trivial ?_
  refine A3 ?_
  refine RGcaseD (t:=17) rfl (fun h86_2=> ?_) (fun h86_2=> ?_)
  ·
   refine A7 ?_
   refine RGon rfl rfl (x3 c_awake fi27 rfl) rfl trivial trivial trivial ?_
   refine A5 ?_
   exact x4 Plain.mk' rfl rfl Le.refl
  ·
   have hfl:f.n.l.length≤600∧f.d.l.length≤600:=by omega
   refine A4 ?_
   refine RGon (decide_eq_false h86_2) rfl (x3 (c_years8 l a b f hf.1 hD hf.2 hF hfl.1 hfl.2) fi26 rfl) rfl ⟨rfl,rfl,rfl,rfl,trivial⟩ trivial trivial ?_
   refine A2 ?_
   refine RGon rfl rfl (x3 c_awake fi27 rfl) rfl trivial trivial trivial ?_
   refine A5 ?_
   exact x4 Plain.mk' rfl rfl Le.refl
end An.S
