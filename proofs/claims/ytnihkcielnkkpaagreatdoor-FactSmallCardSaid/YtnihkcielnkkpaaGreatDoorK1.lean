/- Part 1 of a proof: LibA, LibB, LibC, LibD, LibE, LibF, LibG, LibH, LibI, LibJ, LibK, LibL, LibM, LibN, LibO, LibP, LibQ, LibR. -/
import Derived.WalkKit
import Derived.WalkSpells
import Derived.OrdersIn
import Derived.TacticsIn
import Derived.RangeFuncLeaves
import Derived.RangeFuncSeq
import Derived.Great.FillDense
set_option maxHeartbeats 4000000
set_option maxRecDepth 100000
namespace An
open Go
abbrev zaa (a b:Nat) (f:Nat->Nat) (j:Nat):Nat:=cond (Nat.beq j a) b (f j)
abbrev zab (a b j:Nat):Nat:=cond (Nat.beq j a) b j
abbrev zbf:=@decide_eq_true
abbrev zbg:=@decide_eq_false
abbrev zbh:=@List.getD_eq_getElem?_getD
abbrev zbi:=@List.getElem?_eq_getElem
abbrev zbj:=@List.mem_singleton
abbrev zbk:=@Array.getD_eq_getD_getElem?
abbrev zbm:=@List.length_append
abbrev zbn:=@Result.andThen_ok
abbrev zbo:=@List.getElem?_eq_some_iff
abbrev zbp:=@List.mem_append
abbrev zbq:=@Nat.le_refl
abbrev zbr:=@List.mem_cons
abbrev zbs:=@List.getElem?_map
abbrev zbt:=@Nat.zero_le
abbrev zbu:=@Sem.run_bind
abbrev zbv:=@Bool.and_eq_true
abbrev zbw:=@decide_eq_true_eq
abbrev zbx:=@Sem.run_pure
abbrev zby:=@List.mem_cons_self
abbrev zbz:=@Nat.mul_le_mul_right
abbrev zca:=@List.take_succ_eq_append_getElem
abbrev zcb:=@Nat.lt_or_ge
abbrev zcc:=@List.mem_flatMap
abbrev zcd:=@List.mem_cons_of_mem
abbrev zce:=@Nat.lt_of_lt_of_le
abbrev zcf:=@List.take_length
abbrev zcg:=@List.pairwise_cons
abbrev zch:=@List.length_map
abbrev zci:=@List.mem_map
abbrev zcj:=@run_underlying
abbrev zck:=@Option.some.injEq
abbrev zcm:=@Array.getElem?_eq_getElem
abbrev zcn:=@Nat.zero_add
abbrev zco:=@Nat.eq_zero_or_pos
abbrev zcp:=@List.getElem?_cons_zero
abbrev zcq:=@Array.getElem?_extract
abbrev zcr:=@List.getElem?_append_right
abbrev zcs:=@List.map_toArray
abbrev zct:=@List.getElem?_append_left
abbrev zcu:=@List.length_take
abbrev zcv:=@List.getElem?_eq_none
abbrev zcw:=@Nat.succ_mul
abbrev zcx:=@List.mem_range
abbrev zcy:=@List.map_cons
abbrev zcz:=@List.mem_map_of_mem
abbrev zda:=@List.eq_nil_of_length_eq_zero
abbrev zdb:=@List.length_cons
abbrev zdc:=@Nat.le_trans
abbrev zdd:=@Option.map_eq_some_iff
abbrev zde:=@List.length_eq_zero_iff
abbrev zdf:=@List.not_mem_nil
abbrev zdg:=@List.append_assoc
abbrev zdh:=@Nat.add_mul
abbrev zdi:=@Array.ext_getElem?
abbrev zdj:=@Array.empty_append
abbrev zdk:=@List.all_eq_true
abbrev zdm:=@Option.map_some
abbrev zdn:=@List.length_set
abbrev zdo:=@Nat.le_of_ble_eq_true
abbrev zdp:=@Bool.or_eq_true
abbrev zdq:=@Bool.true_and
abbrev zdr:=@Nat.mul_one
abbrev zds:=@Nat.eq_of_beq_eq_true
abbrev zdt:=@of_decide_eq_true
abbrev zdu:=@Array.append_empty
abbrev zdv:=@Nat.div_eq_of_lt
abbrev zdw:=@List.mem_of_getElem?
abbrev zdx:=@List.pairwise_iff_getElem
abbrev zdy:=@cond_false
abbrev zdz:=@List.append_nil
abbrev zea:=@Int.le_refl
abbrev zeb:=@List.getElem?_of_mem
abbrev zec:=@List.pairwise_append
abbrev zed:=@List.flatMap_cons
abbrev zee:=@Array.getElem?_setIfInBounds
abbrev zef:=@Nat.zero_mul
abbrev zeg:=@List.flatMap_append
abbrev zeh:=@Nat.add_zero
abbrev zei:=@Calls.mono
abbrev zej:=@List.take_zero
abbrev zek:=@List.pairwise_singleton
abbrev zem:=@Nat.mul_comm
abbrev zen:=@Value.agg.injEq
abbrev zeo:=@Option.map_none
abbrev zep:=@Nat.mod_eq_of_lt
abbrev zeq:=@decide_eq_decide
abbrev zer:=@List.getElem?_toArray
abbrev zes:=@Array.getElem?_toList
abbrev zet:=@List.getElem?_range
abbrev zeu:=@Array.getElem?_eq_some_iff
abbrev zev:=@cond_true
abbrev zew:=@Bool.not_eq_true'
abbrev zex:=@Nat.pow_succ
abbrev zey:=@Nat.div_div_eq_div_mul
abbrev zez:=@List.map_append
abbrev zfa:=@List.getElem_mem
abbrev zfb:=@Nat.mod_lt
abbrev zfc:=@List.ext_getElem?
abbrev zfd:=@Nat.add_mul_div_left
abbrev zfe:=@Array.getElem?_push
abbrev zff:=@Array.size_append
abbrev zfg:=@List.map_nil
abbrev zfh:=@Array.getElem?_append
abbrev zfi:=@getElem!_pos
abbrev zfj:=@Bool.false_and
abbrev zfk:=@List.getElem?_set
abbrev zfm:=@Bool.false_eq_true
abbrev zfn:=@Nat.min_eq_left
abbrev zfo:=@Array.getElem?_eq_none
abbrev zfp:=@List.length_singleton
abbrev zfq:=@Classical.byContradiction
abbrev zfr:=@Array.getElem?_setIfInBounds_ne
abbrev zfs:=@Nat.pow_pos
abbrev zft:=@Nat.pow_zero
abbrev zfu:=@Nat.mul_assoc
abbrev zfv:=@Option.bind_eq_some_iff
abbrev zfw:=@List.map_congr_left
abbrev zfx:=@Nat.add_mul_mod_self_left
abbrev zfy:=@List.mem_or_eq_of_mem_set
abbrev zfz:=@Nat.div_add_mod
abbrev zga:=@Nat.mul_add
abbrev zgb:=@Nat.gcd_comm
abbrev zgc:=@Nat.div_lt_of_lt_mul
abbrev zgd:=@Nat.add_assoc
abbrev zge:=@Nat.mul_le_mul_left
abbrev Dom:=Nat->Prop
def isData:Obj->Bool
 | .cells ..=>true
 | .map ..=>true
 | _=>false
def Keep (F F':Dom) (w w':World):Prop:= ∀b o,F b->w.heap[b]? =some o->isData o=true->F' b/\w'.heap[b]? =some o
structure Ty where
  p:Dom->World->Value->Prop
  mono: ∀{F F':Dom} {w w':World} {v:Value},p F w v->Keep F F' w w'->p F' w' v
def tE (u:Value):Ty:=⟨fun _ _ v=>v=u,fun h _=>h⟩
abbrev tB (b:Bool):Ty:=tE (.bool b)
abbrev tI (n:Int):Ty:=tE (.int .i64 n)
def pick (agg:Bool) (n:Nat) (cs:Array Value) (o:Nat):Value:=cond agg (.agg (cs.extract o (o+n))) (cs.getD o undef)
def Mem (w:World) (b o n:Nat) (agg:Bool) (v:Value):Prop:=
 ∃cs T fr,w.heap[b]? =some (.cells cs T fr)/\o+n<=cs.size/\0 < n/\(agg=false->n=1)/\v=pick agg n cs o
theorem xa7 {w:World} {b:Nat} {o:Obj} (h:w.heap[b]? =some o):b < w.heap.size:=by
 rcases zcb b w.heap.size with hlt | hge
 ·exact hlt
 ·rw [zfo hge] at h;cases h
theorem Mem.keep {F F':Dom} {w w':World} {b o n:Nat} {agg:Bool} {v:Value} (h:Mem w b o n agg v) (hk:Keep F F' w w') (hF:F b):F' b/\Mem w' b o n agg v:=by
 obtain ⟨cs,T,fr,h1,h2⟩:=h;obtain ⟨h3,h4⟩:=hk b _ hF h1 rfl;exact ⟨h3,cs,T,fr,h4,h2⟩
structure Fd where
  n:Nat
  agg:Bool
  t:Ty
def Fd.sum:List Fd->Nat
 | []=>0
 | f::r=>f.n+Fd.sum r
def Fd.all (F:Dom) (w:World) (cs:Array Value):Nat->List Fd->Prop
 | _,[]=>True
 | o,f::r=>((f.agg=false->f.n=1)/\f.t.p F w (pick f.agg f.n cs o))/\Fd.all F w cs (o+f.n) r
theorem Fd.all_mono {F F':Dom} {w w':World} {cs:Array Value} (hk:Keep F F' w w'):
  ∀(fs:List Fd) (o:Nat),Fd.all F w cs o fs->Fd.all F' w' cs o fs
 | [],_,_=>trivial
 | f::r,_,h=>⟨⟨h.1.1,f.t.mono h.1.2 hk⟩,Fd.all_mono hk r _ h.2⟩
def tS (fs:List Fd):Ty:=
  ⟨fun F w v=> ∃cs,v= .agg cs/\cs.size=Fd.sum fs/\Fd.all F w cs 0 fs,
   fun ⟨cs,h1,h2,h3⟩ hk=>⟨cs,h1,h2,Fd.all_mono hk fs 0 h3⟩⟩
def Tup.all (F:Dom) (w:World):List Ty->List Value->Prop
 | [],[]=>True
 | t::r,v::s=>t.p F w v/\Tup.all F w r s
 | _,_=>False
theorem Tup.all_mono {F F':Dom} {w w':World} (hk:Keep F F' w w'):
  ∀(ts:List Ty) (vs:List Value),Tup.all F w ts vs->Tup.all F' w' ts vs
 | [],[],_=>trivial
 | t::r,_::s,h=>⟨t.mono h.1 hk,Tup.all_mono hk r s h.2⟩
 | [],_::_,h=>h
 | _::_,[],h=>h
def tT (ts:List Ty):Ty:=
 ⟨fun F w v=> ∃vs:List Value,v= .tuple vs.toArray/\Tup.all F w ts vs,fun ⟨vs,h1,h2⟩ hk=>⟨vs,h1,Tup.all_mono hk ts vs h2⟩⟩
def tL {α:Type} (es:Nat) (agg:Bool) (f:α->Ty) (xs:List α):Ty:=
  ⟨fun F w v=> ∃(A:Option Addr) (c:Nat),v= .slice A xs.length c/\xs.length<=c/\c<=9223372036854775807/\
      (xs=[]∨ ∃b o,A=some ⟨b,o,none⟩/\F b/\ ∀i x,xs[i]? =some x-> ∃u,Mem w b (o+i*es) es agg u/\(f x).p F w u),
   fun ⟨A,c,h1,h2,h2',h3⟩ hk=>⟨A,c,h1,h2,h2',by
      rcases h3 with h3 | ⟨b,o,hA,hF,hx⟩
      · exact .inl h3
      · cases xs with
        | nil=>exact .inl rfl
        | cons y ys=>
          obtain ⟨u,hm,_⟩:=hx 0 y rfl;exact .inr ⟨b,o,hA,(hm.keep hk hF).1,fun i x hi=>let ⟨u,hm,hu⟩:=hx i x hi;⟨u,(hm.keep hk hF).2,(f x).mono hu hk⟩⟩⟩⟩
def tP (n:Nat) (agg:Bool) (t:Ty):Ty:=
  ⟨fun F w v=> ∃b o u,v= .pointer (some ⟨b,o,none⟩)/\F b/\Mem w b o n agg u/\t.p F w u,
   fun ⟨b,o,u,h1,h2,h3,h4⟩ hk=>⟨b,o,u,h1,(h3.keep hk h2).1,(h3.keep hk h2).2,t.mono h4 hk⟩⟩
def tX {ι:Type} (pre:ι->Prop) (f:ι->Ty):Ty:=
 ⟨fun F w v=> ∃y,pre y/\(f y).p F w v,fun ⟨y,h1,h2⟩ hk=>⟨y,h1,(f y).mono h2 hk⟩⟩
structure Env where
  b:Nat->Nat
  c:Nat->Nat
  vo:Dom
def sumN:List (Nat×Bool)->Nat
 | []=>0
 | x::r=>x.1+sumN r
inductive VP where
  | ptr (k off:Nat)
  | sl (k es off len:Nat)
  | fn (f:FuncId) (caps:List VP)
  | ty (u:Ty)
  | st (ns:List (Nat×Bool)) (fs:List VP)
  | tup (fs:List VP)
mutual
def VP.supp:VP->List Nat
  | .ptr k _=>[k]
  | .sl k _ _ _=>[k]
  | .fn _ caps=>VP.supps caps
  | .ty _=>[]
  | .st _ fs=>VP.supps fs
  | .tup fs=>VP.supps fs
def VP.supps:List VP->List Nat
  | []=>[]
  | v::r=>v.supp++VP.supps r
end
mutual
def VP.sat (F:Dom) (w:World) (η:Env):VP->Value->Prop
  | .ptr k off,v=>v= .pointer (some ⟨η.b k,off,none⟩)
  | .sl k es off len,v=> ∃A,v= .slice A len (η.c k - off)/\off+len<=η.c k/\(off < η.c k->A=some ⟨η.b k,off*es,none⟩)
  | .fn f caps,v=> ∃vs:List Value,v= .func (.func f) #[] vs.toArray/\VP.sats F w η caps vs
  | .ty u,v=>u.p F w v
  | .st ns fs,v=> ∃cs,v= .agg cs/\cs.size=sumN ns/\VP.satf F w η cs 0 ns fs
  | .tup fs,v=> ∃vs:List Value,v= .tuple vs.toArray/\VP.sats F w η fs vs
def VP.sats (F:Dom) (w:World) (η:Env):List VP->List Value->Prop
  | [],[]=>True
  | p::r,v::s=>p.sat F w η v/\VP.sats F w η r s
  | _,_=>False
def VP.satf (F:Dom) (w:World) (η:Env) (cs:Array Value):Nat->List (Nat×Bool)->List VP->Prop
  | _,[],[]=>True
  | o,n::ns,p::r=>(n.2=false->n.1=1)/\p.sat F w η (pick n.2 n.1 cs o)/\VP.satf F w η cs (o+n.1) ns r
  | _,_,_=>False
end
mutual
theorem VP.sat_go {F F':Dom} {w w':World} {η η':Env} (hK:Keep F F' w w'): ∀(p:VP) (v:Value),(∀k∈p.supp,η'.b k=η.b k/\η'.c k=η.c k)->p.sat F w η v->p.sat F' w' η' v
  | .ptr k off,v,h,hs=>by
    have:=h k (by simp [VP.supp]);simp only [VP.sat] at*
    rw [hs,this.1]
  | .sl k es off len,v,h,hs=>by
    have:=h k (by simp [VP.supp]);simp only [VP.sat] at*
    rw [this.1,this.2];exact hs
  | .fn f caps,v,h,hs=>by
    simp only [VP.sat,VP.supp] at*
    obtain ⟨vs,h1,h2⟩:=hs;exact ⟨vs,h1,VP.sats_go hK caps vs h h2⟩
  | .ty u,v,_,hs=>by
    simp only [VP.sat] at*
    exact u.mono hs hK
  | .st ns fs,v,h,hs=>by
    simp only [VP.sat,VP.supp] at*
    obtain ⟨cs,h1,h2,h3⟩:=hs;exact ⟨cs,h1,h2,VP.satf_go hK cs fs 0 ns h h3⟩
  | .tup fs,v,h,hs=>by
    simp only [VP.sat,VP.supp] at*
    obtain ⟨vs,h1,h2⟩:=hs;exact ⟨vs,h1,VP.sats_go hK fs vs h h2⟩
theorem VP.sats_go {F F':Dom} {w w':World} {η η':Env} (hK:Keep F F' w w'): ∀(ps:List VP) (vs:List Value),(∀k∈VP.supps ps,η'.b k=η.b k/\η'.c k=η.c k)->VP.sats F w η ps vs->VP.sats F' w' η' ps vs
  | [],[],_,_=>by simp only [VP.sats]
  | p::r,v::s,h,hs=>by
    simp only [VP.sats,VP.supps,zbp] at*
    exact ⟨VP.sat_go hK p v (fun k hk=>h k (.inl hk)) hs.1,VP.sats_go hK r s (fun k hk=>h k (.inr hk)) hs.2⟩
  | [],_::_,_,hs=>by simp only [VP.sats] at hs
  | _::_,[],_,hs=>by simp only [VP.sats] at hs
theorem VP.satf_go {F F':Dom} {w w':World} {η η':Env} (hK:Keep F F' w w') (cs:Array Value): ∀(ps:List VP) (o:Nat) (ns:List (Nat×Bool)),(∀k∈VP.supps ps,η'.b k=η.b k/\η'.c k=η.c k)->VP.satf F w η cs o ns ps->VP.satf F' w' η' cs o ns ps
  | [],_,[],_,_=>by simp only [VP.satf]
  | p::r,o,n::ns,h,hs=>by
    simp only [VP.satf,VP.supps,zbp] at*
    exact ⟨hs.1,VP.sat_go hK p _ (fun k hk=>h k (.inl hk)) hs.2.1,VP.satf_go hK cs r _ ns (fun k hk=>h k (.inr hk)) hs.2.2⟩
  | [],_,_::_,_,hs=>by simp only [VP.satf] at hs
  | _::_,_,[],_,hs=>by simp only [VP.satf] at hs
end
inductive Ent where
  | val (t:Ty)
  | own (p:VP)
def Ent.supp:Ent->List Nat
 | .val _=>[]
 | .own p=>p.supp
def Ent.sat (F:Dom) (w:World) (η:Env):Ent->Value->Prop
 | .val t,v=>t.p F w v
 | .own p,v=>p.sat F w η v
structure HEnt where
  T:TypeId
  es:Nat
  agg:Bool
  ts:List Ent
def HEnt.supp (x:HEnt):List Nat:=x.ts.flatMap Ent.supp
def HEnt.sat (F:Dom) (w:World) (η:Env) (k:Nat) (x:HEnt):Prop:=
 x.ts.length<=η.c k/\0 < x.es/\(x.agg=false->x.es=1)/\η.c k<=9223372036854775807/\
  (0 < η.c k-> ∃cs,w.heap[η.b k]? =some (.cells cs x.T (0,0))/\cs.size=η.c k*x.es/\ ∀(i:Nat) (e:Ent),x.ts[i]? =some e->e.sat F w η (pick x.agg x.es cs (i*x.es)))
theorem Ent.sat_go {F F':Dom} {w w':World} {η η':Env} {e:Ent} {v:Value} (h:e.sat F w η v) (hK:Keep F F' w w') (hk: ∀k∈e.supp,η'.b k=η.b k/\η'.c k=η.c k):e.sat F' w' η' v:=by
 cases e with
 | val t=>exact t.mono h hK
 | own p=>exact p.sat_go hK v hk h
theorem HEnt.lt {F:Dom} {w:World} {η:Env} {k:Nat} {x:HEnt} (h:x.sat F w η k) (hc:0 < η.c k):η.b k < w.heap.size:=by
 obtain ⟨cs,hb,_⟩:=h.2.2.2.2 hc;exact xa7 hb
theorem HEnt.data {F:Dom} {w:World} {η:Env} {k:Nat} {x:HEnt} (h:x.sat F w η k) (hc:0 < η.c k): ∃o,w.heap[η.b k]? =some o/\isData o=true:=by
 obtain ⟨cs,hb,_⟩:=h.2.2.2.2 hc;exact ⟨_,hb,rfl⟩
theorem HEnt.mem_supp {x:HEnt} {i:Nat} {e:Ent} (hi:x.ts[i]? =some e) {k:Nat} (hk:k∈e.supp):k∈x.supp:=
 zcc.2 ⟨e,zdw hi,hk⟩
theorem HEnt.sat_go {F F':Dom} {w w':World} {η η':Env} {k:Nat} {x:HEnt} (h:x.sat F w η k) (hb:0 < η.c k->w'.heap[η.b k]? =w.heap[η.b k]?) (hK:Keep F F' w w')
  (hk0:η'.b k=η.b k/\η'.c k=η.c k) (hk: ∀k∈x.supp,η'.b k=η.b k/\η'.c k=η.c k):x.sat F' w' η' k:=by
 obtain ⟨h3,h4,h5,h6,h7⟩:=h;refine ⟨by rw [hk0.2];exact h3,h4,h5,by rw [hk0.2];exact h6,fun hc=> ?_⟩;rw [hk0.2] at hc;obtain ⟨cs,h1,h2,h8⟩:=h7 hc;exact ⟨cs,by rw [hk0.1];exact (hb hc).trans h1,by rw [hk0.2];exact h2,fun i e hi=>Ent.sat_go (h8 i e hi) hK fun j hj=>hk j (HEnt.mem_supp hi hj)⟩
def upd {α:Type} (g:Nat->Option α) (s:Nat) (e:Option α):Nat->Option α:=fun t=>cond (Nat.beq t s) e (g t)
theorem x7 {α:Type} (g:Nat->Option α) (s:Nat) (e:Option α):upd g s e s=e:=by simp [upd]
theorem x3 {α:Type} (g:Nat->Option α) (s:Nat) (e:Option α) {t:Nat} (h:t≠s):upd g s e t=g t:=by
 have:Nat.beq t s=false:=by
  cases hb:Nat.beq t s with
  | false=>rfl
  | true=>exact absurd (zds hb) h
 simp [upd,this]
abbrev uN {α:Type}:Nat->Option α:=fun _=>none
abbrev uV (g:Nat->Option Ent) (s:Nat) (t:Ty):Nat->Option Ent:=upd g s (some (.val t))
abbrev uO (g:Nat->Option Ent) (s:Nat) (p:VP):Nat->Option Ent:=upd g s (some (.own p))
abbrev uK (h:Nat->Option HEnt) (k T es:Nat) (agg:Bool) (ts:List Ent):Nat->Option HEnt:=upd h k (some ⟨T,es,agg,ts⟩)
theorem qA {α:Type} {a:α}:a=a/\True:=⟨rfl,trivial⟩
theorem qB {α β:Type} {a:α} {b:β}:a=a/\b=b/\True:=⟨rfl,rfl,trivial⟩
theorem qC {α β γ:Type} {a:α} {b:β} {c:γ}:a=a/\b=b/\c=c/\True:=⟨rfl,rfl,rfl,trivial⟩
theorem qD {α β γ δ:Type} {a:α} {b:β} {c:γ} {d:δ}:a=a/\b=b/\c=c/\d=d/\True:=⟨rfl,rfl,rfl,rfl,trivial⟩
abbrev wB {α β τ:Type} (f:α->β->τ) (p:α×β):τ:=f p.1 p.2
abbrev wC {α β γ τ:Type} (f:α->β->γ->τ) (p:α×β×γ):τ:=f p.1 p.2.1 p.2.2
abbrev wD {α β γ δ τ:Type} (f:α->β->γ->δ->τ) (p:α×β×γ×δ):τ:=f p.1 p.2.1 p.2.2.1 p.2.2.2
abbrev wE {α β γ δ ε τ:Type} (f:α->β->γ->δ->ε->τ) (p:α×β×γ×δ×ε):τ:=f p.1 p.2.1 p.2.2.1 p.2.2.2.1 p.2.2.2.2
abbrev wF {α β γ δ ε ζ τ:Type} (f:α->β->γ->δ->ε->ζ->τ) (p:α×β×γ×δ×ε×ζ):τ:=f p.1 p.2.1 p.2.2.1 p.2.2.2.1 p.2.2.2.2.1 p.2.2.2.2.2
abbrev wG {α β γ δ ε ζ θ τ:Type} (f:α->β->γ->δ->ε->ζ->θ->τ) (p:α×β×γ×δ×ε×ζ×θ):τ:=f p.1 p.2.1 p.2.2.1 p.2.2.2.1 p.2.2.2.2.1 p.2.2.2.2.2.1 p.2.2.2.2.2.2
abbrev wH {α β γ δ ε ζ θ κ τ:Type} (f:α->β->γ->δ->ε->ζ->θ->κ->τ) (p:α×β×γ×δ×ε×ζ×θ×κ):τ:=f p.1 p.2.1 p.2.2.1 p.2.2.2.1 p.2.2.2.2.1 p.2.2.2.2.2.1 p.2.2.2.2.2.2.1 p.2.2.2.2.2.2.2
abbrev wI {α β γ δ ε ζ θ κ ν τ:Type} (f:α->β->γ->δ->ε->ζ->θ->κ->ν->τ) (p:α×β×γ×δ×ε×ζ×θ×κ×ν):τ:=f p.1 p.2.1 p.2.2.1 p.2.2.2.1 p.2.2.2.2.1 p.2.2.2.2.2.1 p.2.2.2.2.2.2.1 p.2.2.2.2.2.2.2.1 p.2.2.2.2.2.2.2.2
structure Stp (O:Dom) (w w':World):Prop where
  os:w'.os=w.os
  tape:w'.tape=w.tape
  output:w'.output=w.output
  size:w.heap.size<=w'.heap.size
  block: ∀b,b < w.heap.size-> ¬O b->w'.heap[b]? =w.heap[b]?
theorem Stp.refl (O:Dom) (w:World):Stp O w w:=⟨rfl,rfl,rfl,zbq _,fun _ _ _=>rfl⟩
theorem Stp.mono {O O':Dom} {a b:World} (h:Stp O a b) (hO: ∀i,i < a.heap.size->O i->O' i):Stp O' a b:=
 ⟨h.os,h.tape,h.output,h.size,fun i hi hn=>h.block i hi fun h'=>hn (hO i hi h')⟩
structure Ext (w w':World):Prop where
  os:w'.os=w.os
  tape:w'.tape=w.tape
  output:w'.output=w.output
  size:w.heap.size<=w'.heap.size
  block: ∀b,b < w.heap.size->w'.heap[b]? =w.heap[b]?
theorem Ext.refl (w:World):Ext w w:=⟨rfl,rfl,rfl,zbq _,fun _ _=>rfl⟩
theorem Ext.trans {a b c:World} (h:Ext a b) (k:Ext b c):Ext a c:=
 ⟨k.os.trans h.os,k.tape.trans h.tape,k.output.trans h.output,zdc h.size k.size,fun i hi=>(k.block i (zce hi h.size)).trans (h.block i hi)⟩
theorem Ext.push (w:World) (o:Obj):Ext w {w with heap:=w.heap.push o}:=
 ⟨rfl,rfl,rfl,by simp,fun b hb=>by show (w.heap.push o)[b]? =_;rw [zfe,if_neg (by omega)]⟩
theorem Ext.drew (w:World):Ext w {w with drawn:=w.drawn+1}:=⟨rfl,rfl,rfl,zbq _,fun _ _=>rfl⟩
theorem Ext.stp {w w':World} (h:Ext w w') (O:Dom):Stp O w w':=⟨h.os,h.tape,h.output,h.size,fun b hb _=>h.block b hb⟩
structure Base where
  N:Nat
  w0:World
  F0:Dom
  ln:List Nat
  lη:Env
  lb:Dom
  ro:Option Nat
  df:List Nat
  pn:List (Nat×Obj)
  vi:Dom
  yk:Option Nat
  V0:Dom
  J:Nat->Dom->Dom->World->Prop
  Jc: ∀n O O' V w w',J n O V w->Stp O w w'->(∀b,O' b->b < w'.heap.size/\(O b∨w.heap.size<=b))->J n O' V w'
def Own (h:Nat->Option HEnt) (η:Env):Dom:=fun b=> ∃k x,h k=some x/\0 < η.c k/\b=η.b k
def Base.chg (c:Base) (h:Nat->Option HEnt) (η:Env):Dom:=fun b=>Own h η b∨c.vi b∨ ∃x∈c.pn,b=x.1
def Base.dom (c:Base) (h:Nat->Option HEnt) (η:Env):Dom:=fun b=>(c.w0.heap.size<=b∨(c.F0 b/\ ¬c.lb b))/\ ¬Own h η b/\ ¬η.vo b/\ ¬c.vi b
structure Base.Fr (c:Base) (w:World) (η:Env):Prop where
  os:w.os=c.w0.os
  tape:w.tape=c.w0.tape
  output:w.output=c.w0.output
  size:c.w0.heap.size<=w.heap.size
  block: ∀b,b < c.w0.heap.size-> ¬c.lb b-> ¬η.vo b->w.heap[b]? =c.w0.heap[b]?
  vold: ∀b,c.V0 b->η.vo b
  vnew: ∀b,η.vo b->b < w.heap.size/\c.yk.isSome=true/\(c.V0 b∨c.w0.heap.size<=b)
abbrev Slots:=Nat->Option Ent
abbrev Keys:=Nat->Option HEnt
structure St' (c:Base) (g:Slots) (h:Keys) (al:Nat->Bool) (a:Act) (w:World) (η:Env):Prop where
  tn:a.tmps.size=c.N
  df:a.defers=c.df.map fun D=>{target:= .collected D,args:= #[]}
  slot: ∀s e,g s=some e->s < c.N/\(∀k∈e.supp,al k=true)/\e.sat (c.dom h η) w η (a.tmps.getD s undef)
  key: ∀k x,h k=some x->al k=true/\(∀j∈x.supp,al j=true)/\x.sat (c.dom h η) w η k/\(0 < η.c k->(c.w0.heap.size<=η.b k∨c.lb (η.b k))/\ ¬η.vo (η.b k)/\ ¬c.vi (η.b k))
  inj: ∀k k' x x',h k=some x->h k'=some x'->k≠k'->0 < η.c k->0 < η.c k'->η.b k≠η.b k'
  fr:c.Fr w η
  lk: ∀k∈c.ln,al k=true/\η.b k=c.lη.b k/\η.c k=c.lη.c k
  pin: ∀x∈c.pn,w.heap[x.1]? =some x.2/\isData x.2=false/\(c.w0.heap.size<=x.1∨c.lb x.1)/\ ¬η.vo x.1/\ ¬c.vi x.1
  vol: ∀b,c.vi b->b < w.heap.size
  yal: ∀k,c.yk=some k->al k=true
  jj: ∀k x,c.yk=some k->h k=some x->c.J x.T (c.chg h η) η.vo w
  lbl: ∀b,c.lb b->b < c.w0.heap.size
def St (c:Base) (g:Slots) (h:Keys) (al:Nat->Bool) (a:Act) (w:World):Prop:= ∃η,St' c g h al a w η
section
variable {c:Base} {g:Slots} {h:Keys} {al:Nat->Bool} {a:Act} {w w':World} {η:Env}
theorem St'.klt (s:St' c g h al a w η) {k:Nat} {x:HEnt} (hk:h k=some x) (hc:0 < η.c k):η.b k < w.heap.size:=HEnt.lt (s.key k x hk).2.2.1 hc
theorem St'.olt (s:St' c g h al a w η) {b:Nat} (hb:Own h η b):b < w.heap.size:=by
 obtain ⟨k,x,hk,hc,rfl⟩:=hb;exact s.klt hk hc
theorem St'.npin (s:St' c g h al a w η) {x:Nat×Obj} (hx:x∈c.pn): ¬Own h η x.1:=by
 rintro ⟨k,y,hk,hc,e⟩;obtain ⟨o,ho,hd⟩:=HEnt.data (s.key k y hk).2.2.1 hc;obtain ⟨h1,h2,_⟩:=s.pin x hx;rw [<-e,h1] at ho;cases ho;rw [h2] at hd;cases hd
theorem jj6 (s:St' c g h al a w η) (e:Stp (Own h η) w w'):c.Fr w' η:=
 ⟨e.os.trans s.fr.os,e.tape.trans s.fr.tape,e.output.trans s.fr.output,zdc s.fr.size e.size,fun b hb hl hv=>by
  refine (e.block b (zce hb s.fr.size) ?_).trans (s.fr.block b hb hl hv);rintro ⟨k,x,hk,hc,rfl⟩;rcases ((s.key k x hk).2.2.2 hc).1 with h1 | h1
  ·omega
  ·exact hl h1,s.fr.vold,fun b hb=>⟨zce (s.fr.vnew b hb).1 e.size,(s.fr.vnew b hb).2⟩⟩
theorem qi7 (s:St' c g h al a w η) (e:Stp (Own h η) w w'): ∀x∈c.pn,w'.heap[x.1]? =some x.2/\isData x.2=false/\(c.w0.heap.size<=x.1∨c.lb x.1)/\ ¬η.vo x.1/\ ¬c.vi x.1:=fun x hx=>by
 obtain ⟨h1,h2,h3,h4,h5⟩:=s.pin x hx;exact ⟨(e.block x.1 (xa7 h1) (s.npin hx)).trans h1,h2,h3,h4,h5⟩
theorem St'.chg_lt (s:St' c g h al a w η) {b:Nat} (hb:c.chg h η b):b < w.heap.size:=by
 rcases hb with hb | hb | ⟨x,hx,rfl⟩
 ·exact s.olt hb
 ·exact s.vol b hb
 ·exact xa7 (s.pin x hx).1
theorem St'.ext (s:St' c g h al a w η) (e:Ext w w'):St' c g h al a w' η where
 tn:=s.tn
 df:=s.df
 slot:=fun t x hx=>⟨(s.slot t x hx).1,(s.slot t x hx).2.1,Ent.sat_go (s.slot t x hx).2.2 (fun b _ hb hl _=>⟨hb,(e.block b (xa7 hl)).trans hl⟩) fun _ _=>⟨rfl,rfl⟩⟩
 key:=fun k x hx=>⟨(s.key k x hx).1,(s.key k x hx).2.1,HEnt.sat_go (s.key k x hx).2.2.1 (fun hc=>e.block _ (s.klt hx hc)) (fun b _ hb hl _=>⟨hb,(e.block b (xa7 hl)).trans hl⟩) ⟨rfl,rfl⟩ fun _ _=>⟨rfl,rfl⟩,(s.key k x hx).2.2.2⟩
 inj:=s.inj
 fr:=jj6 s (e.stp _)
 lk:=s.lk
 pin:=qi7 s (e.stp _)
 vol:=fun b hv=>zce (s.vol b hv) e.size
 yal:=s.yal
 jj:=fun k x h1 h2=>c.Jc _ _ _ _ _ _ (s.jj k x h1 h2) (e.stp _) fun _ hb=>⟨zce (s.chg_lt hb) e.size,.inl hb⟩
 lbl:=s.lbl
theorem zp6 {a:Act} {d:Nat} {v:Value} (h:d < a.tmps.size):(a.put (some d) v).tmps.getD d undef=v:=by
 simp [Act.put,h]
theorem yg7 {a:Act} {d t:Nat} {v:Value} (h:d≠t):(a.put (some d) v).tmps.getD t undef=a.tmps.getD t undef:=by
 simp [Act.put,Array.getElem?_setIfInBounds_ne h]
theorem qd1 {a:Act} {d:Option Nat} {v:Value}:(a.put d v).tmps.size=a.tmps.size:=by
 cases d <;> simp [Act.put]
theorem zf8 {a:Act} {d:Option Nat} {v:Value}:(a.put d v).defers=a.defers:=by cases d <;> rfl
theorem St'.put (s:St' c g h al a w η) {d:Nat} (hd:d < c.N) {e:Ent} {v:Value} (he:e.sat (c.dom h η) w η v) (ha: ∀k∈e.supp,al k=true):
  St' c (upd g d (some e)) h al (a.put (some d) v) w η where
 tn:=by rw [qd1];exact s.tn
 df:=by rw [zf8];exact s.df
 slot:=fun t x hx=>by
  by_cases htd:t=d
  ·subst htd;rw [x7] at hx;cases hx;exact ⟨hd,ha,by rw [zp6 (by rw [s.tn];exact hd)];exact he⟩
  ·rw [x3 _ _ _ htd] at hx;rw [yg7 (fun h=>htd h.symm)];exact s.slot t x hx
 key:=s.key
 inj:=s.inj
 fr:=s.fr
 lk:=s.lk
 pin:=s.pin
 vol:=s.vol
 yal:=s.yal
 jj:=s.jj
 lbl:=s.lbl
theorem St'.lose (s:St' c g h al a w η) (d:Option Nat) (v:Value):
  St' c (match d with | some d=>upd g d none | none=>g) h al (a.put d v) w η where
 tn:=by rw [qd1];exact s.tn
 df:=by rw [zf8];exact s.df
 slot:=fun t x hx=>by
  cases d with
  | none=>exact s.slot t x hx
  | some d=>
   simp only at hx;by_cases htd:t=d
   ·subst htd;rw [x7] at hx;cases hx
   ·rw [x3 _ _ _ htd] at hx;rw [yg7 (fun h=>htd h.symm)];exact s.slot t x hx
 key:=s.key
 inj:=s.inj
 fr:=s.fr
 lk:=s.lk
 pin:=s.pin
 vol:=s.vol
 yal:=s.yal
 jj:=s.jj
 lbl:=s.lbl
def Env.set (η:Env) (k b n:Nat):Env:=⟨fun j=>if j=k then b else η.b j,fun j=>if j=k then n else η.c j,η.vo⟩
theorem Env.set_b (η:Env) (k b n:Nat):(η.set k b n).b k=b:=by simp [Env.set]
theorem Env.set_c (η:Env) (k b n:Nat):(η.set k b n).c k=n:=by simp [Env.set]
theorem Env.set_other (η:Env) {k j:Nat} (b n:Nat) (h:j≠k):(η.set k b n).b j=η.b j/\(η.set k b n).c j=η.c j:=by simp [Env.set,h]
theorem St'.turn (s:St' c g h al a w η) {h':Keys} {al':Nat->Bool} {η':Env} (hal: ∀k,al k=true->al' k=true) (hag: ∀k,al k=true->η'.b k=η.b k/\η'.c k=η.c k) (hvo:η'.vo=η.vo)
  (e:Stp (Own h η) w w') (hlt: ∀b,Own h' η' b->b < w'.heap.size/\(Own h η b∨w.heap.size<=b))
  (hkey: ∀k x,h' k=some x->Keep (c.dom h η) (c.dom h' η') w w'->al' k=true/\(∀j∈x.supp,al' j=true)/\x.sat (c.dom h' η') w' η' k)
  (hinj: ∀k k' x x',h' k=some x->h' k'=some x'->k≠k'->0 < η'.c k->0 < η'.c k'->η'.b k≠η'.b k')
  (hy: ∀k x,c.yk=some k->h' k=some x-> ∃x0,h k=some x0/\x0.T=x.T):St' c g h' al' a w' η':=by
 have hdom: ∀b,c.dom h η b->b < w.heap.size->c.dom h' η' b:=fun b hb hl=>⟨hb.1,fun ho=>by
  rcases (hlt b ho).2 with h1 | h1
  ·exact hb.2.1 h1
  ·omega,by rw [hvo];exact hb.2.2.1,hb.2.2.2⟩
 have hK:Keep (c.dom h η) (c.dom h' η') w w':=fun b o hb hl _=>⟨hdom b hb (xa7 hl),(e.block b (xa7 hl) hb.2.1).trans hl⟩
 refine ⟨s.tn,s.df,fun t y hy=> ?_,fun k x hx=> ?_,hinj,?_,fun k hk=> ?_,?_,fun b hv=>zce (s.vol b hv) e.size,fun k hk=>hal k (s.yal k hk),fun k x h1 h2=> ?_,s.lbl⟩
 ·obtain ⟨h1,h2,h3⟩:=s.slot t y hy;exact ⟨h1,fun j hj=>hal j (h2 j hj),Ent.sat_go h3 hK fun j hj=>hag j (h2 j hj)⟩
 ·obtain ⟨h1,h2,h3⟩:=hkey k x hx hK;refine ⟨h1,h2,h3,fun hc=> ?_⟩;obtain ⟨h4,h5⟩:=hlt _ ⟨k,x,hx,hc,rfl⟩;rw [hvo];rcases h5 with ⟨j,y,hj,hcj,ej⟩ | h5
  ·rw [ej];exact (s.key j y hj).2.2.2 hcj
  ·exact ⟨.inl (zdc s.fr.size h5),fun hv=>by have:=(s.fr.vnew _ hv).1;omega,fun hv=>by have:=s.vol _ hv;omega⟩
 ·have:=jj6 s e;exact ⟨this.os,this.tape,this.output,this.size,by rw [hvo];exact this.block,by rw [hvo];exact this.vold,by rw [hvo];exact this.vnew⟩
 ·obtain ⟨h1,h2⟩:=s.lk k hk;exact ⟨hal k h1,by rw [(hag k h1).1,(hag k h1).2];exact h2⟩
 ·rw [hvo];exact qi7 s e
 ·obtain ⟨x0,hx0,hT⟩:=hy k x h1 h2;rw [<-hT,hvo];refine c.Jc _ _ _ _ _ _ (s.jj k x0 h1 hx0) (e.mono fun b _ hb=> .inl hb) fun b hb=> ?_;rcases hb with hb | hb | ⟨x,hx,rfl⟩
  ·exact ⟨(hlt b hb).1,(hlt b hb).2.imp .inl id⟩
  ·exact ⟨zce (s.vol b hb) e.size,.inl (.inr (.inl hb))⟩
  ·exact ⟨zce (xa7 (s.pin x hx).1) e.size,.inl (.inr (.inr ⟨x,hx,rfl⟩))⟩
theorem St'.new' (s:St' c g h al a w η) (k:Nat) (hk:al k=false) (x:HEnt) (n b0:Nat) (hn:x.ts.length<=n)
  (hes:0 < x.es) (hagg:x.agg=false->x.es=1) (hmax:n<=9223372036854775807) (hsupp: ∀j∈x.supp,al j=true) (e:Ext w w') (hb0:0 < n->w.heap.size<=b0/\ ∃cs,w'.heap[b0]? =some (.cells cs x.T (0,0))/\cs.size=n*x.es/\
   ∀(i:Nat) (e:Ent),x.ts[i]? =some e->e.sat (c.dom h η) w η (pick x.agg x.es cs (i*x.es))):
  St' c g (upd h k (some x)) (fun j=>Nat.beq j k || al j) a w' (η.set k b0 n):=by
 have hne: ∀j,al j=true->j≠k:=fun j hj e=>by rw [e,hk] at hj;cases hj
 have hag: ∀j,al j=true->(η.set k b0 n).b j=η.b j/\(η.set k b0 n).c j=η.c j:=fun j hj=>η.set_other _ _ (hne j hj);refine s.turn (fun j hj=>by simp [hj]) hag rfl (e.stp _) ?_ ?_ ?_ ?_
 ·rintro b ⟨j,y,hy,hc,rfl⟩;by_cases hjk:j=k
  ·subst hjk;rw [Env.set_c] at hc;rw [Env.set_b];obtain ⟨h1,cs,h2,_⟩:=hb0 hc;exact ⟨xa7 h2,.inr h1⟩
  ·rw [x3 _ _ _ hjk] at hy;rw [(η.set_other _ _ hjk).2] at hc;rw [(η.set_other _ _ hjk).1];exact ⟨zce (s.klt hy hc) e.size,.inl ⟨j,y,hy,hc,rfl⟩⟩
 ·intro j y hy hK;by_cases hjk:j=k
  ·subst hjk;rw [x7] at hy;cases hy;refine ⟨by simp,fun i hi=>by simp [hsupp i hi],by rw [Env.set_c];exact hn,hes,hagg,by rw [Env.set_c];exact hmax,fun hc=> ?_⟩;rw [Env.set_c] at hc;obtain ⟨_,cs,h1,h2,h3⟩:=hb0 hc;refine ⟨cs,by rw [Env.set_b];exact h1,by rw [Env.set_c];exact h2,fun i e' he=> ?_⟩;exact Ent.sat_go (h3 i e' he) hK fun j hj=>hag j (hsupp j (HEnt.mem_supp he hj))
  ·rw [x3 _ _ _ hjk] at hy;obtain ⟨h1,h2,h3,h4⟩:=s.key j y hy;exact ⟨by simp [h1],fun i hi=>by simp [h2 i hi],HEnt.sat_go h3 (fun hc=>e.block _ (HEnt.lt h3 hc)) hK (hag j h1) fun i hi=>hag i (h2 i hi)⟩
 ·intro j j' y y' hy hy' hne' hc hc';by_cases hjk:j=k
  ·subst hjk;have hj':j'≠j:=fun h=>hne' h.symm;rw [x3 _ _ _ hj'] at hy';rw [(η.set_other _ _ hj').2] at hc';rw [Env.set_c] at hc;have:=s.klt hy' hc';have:=(hb0 hc).1;rw [Env.set_b,(η.set_other _ _ hj').1];omega
  ·rw [x3 _ _ _ hjk] at hy;rw [(η.set_other _ _ hjk).2] at hc;by_cases hjk':j'=k
   ·subst hjk';have:=s.klt hy hc;rw [Env.set_c] at hc';have:=(hb0 hc').1;rw [Env.set_b,(η.set_other _ _ hjk).1];omega
   ·rw [x3 _ _ _ hjk'] at hy';rw [(η.set_other _ _ hjk').2] at hc';rw [(η.set_other _ _ hjk).1,(η.set_other _ _ hjk').1];exact s.inj j j' y y' hy hy' hne' hc hc'
 ·intro j y hj hy;rw [x3 _ _ _ (hne j (s.yal j hj))] at hy;exact ⟨y,hy,rfl⟩
theorem St'.new (s:St' c g h al a w η) (k:Nat) (hk:al k=false) (x:HEnt) (cs:Array Value) (n:Nat) (hcs:cs.size=n*x.es) (hn:x.ts.length<=n)
  (hes:0 < x.es) (hagg:x.agg=false->x.es=1) (hmax:n<=9223372036854775807) (hsupp: ∀j∈x.supp,al j=true)
  (hsat: ∀(i:Nat) (e:Ent),x.ts[i]? =some e->e.sat (c.dom h η) w η (pick x.agg x.es cs (i*x.es))):
  St' c g (upd h k (some x)) (fun j=>Nat.beq j k || al j) a {w with heap:=w.heap.push (.cells cs x.T)} (η.set k w.heap.size n):=
 s.new' k hk x n w.heap.size hn hes hagg hmax hsupp (Ext.push w _) fun _=>⟨zbq _,cs,by show (w.heap.push _)[w.heap.size]? =_;simp,hcs,hsat⟩
theorem St'.write (s:St' c g h al a w η) (k:Nat) {x0:HEnt} (hk:h k=some x0) (x:HEnt) (cs:Array Value) (hcs:cs.size=η.c k*x.es) (hn:x.ts.length<=η.c k)
  (hes:0 < x.es) (hagg:x.agg=false->x.es=1) (hsupp: ∀j∈x.supp,al j=true)
  (hsat: ∀(i:Nat) (e:Ent),x.ts[i]? =some e->e.sat (c.dom h η) w η (pick x.agg x.es cs (i*x.es)))
  (hc0:0 < η.c k) (hb:w'.heap[η.b k]? =some (.cells cs x.T (0,0))) (hsz:w'.heap.size=w.heap.size) (hos:w'.os=w.os) (htape:w'.tape=w.tape) (hout:w'.output=w.output)
  (hoth: ∀b,b≠η.b k->w'.heap[b]? =w.heap[b]?) (hT:x.T=x0.T):
  St' c g (upd h k (some x)) al a w' η:=by
 have hown: ∀b,Own (upd h k (some x)) η b->Own h η b:=by
  rintro b ⟨j,y,hy,hc,rfl⟩;by_cases hjk:j=k
  ·subst hjk;exact ⟨j,x0,hk,hc,rfl⟩
  ·rw [x3 _ _ _ hjk] at hy;exact ⟨j,y,hy,hc,rfl⟩
 refine s.turn (fun j hj=>hj) (fun _ _=>⟨rfl,rfl⟩) rfl ⟨hos,htape,hout,by omega,fun b _ hn=>hoth b fun e=>hn ⟨k,x0,hk,hc0,e⟩⟩ ?_ ?_ ?_ ?_
 ·intro b hb;have:=hown b hb;exact ⟨by rw [hsz];exact s.olt this,.inl this⟩
 ·intro j y hy hK;by_cases hjk:j=k
  ·subst hjk;rw [x7] at hy;cases hy;obtain ⟨h1,h2,h3,h4⟩:=s.key j x0 hk;exact ⟨h1,hsupp,hn,hes,hagg,h3.2.2.2.1,fun _=>⟨cs,hb,hcs,fun i e he=>Ent.sat_go (hsat i e he) hK fun _ _=>⟨rfl,rfl⟩⟩⟩
  ·rw [x3 _ _ _ hjk] at hy;obtain ⟨h1,h2,h3,h4⟩:=s.key j y hy;exact ⟨h1,h2,HEnt.sat_go h3 (fun hc=>hoth _ (s.inj j k y x0 hy hk hjk hc hc0)) hK ⟨rfl,rfl⟩ fun _ _=>⟨rfl,rfl⟩⟩
 ·intro j j' y y' hy hy' hne' hc hc';have e1: ∀j y,upd h k (some x) j=some y-> ∃z,h j=some z:=fun j y hy=>by
   by_cases hjk:j=k
   ·subst hjk;exact ⟨x0,hk⟩
   ·rw [x3 _ _ _ hjk] at hy;exact ⟨y,hy⟩
  obtain ⟨z,hz⟩:=e1 j y hy;obtain ⟨z',hz'⟩:=e1 j' y' hy';exact s.inj j j' z z' hz hz' hne' hc hc'
 ·intro j y hj hy;by_cases hjk:j=k
  ·subst hjk;rw [x7] at hy;cases hy;exact ⟨x0,hk,hT.symm⟩
  ·rw [x3 _ _ _ hjk] at hy;exact ⟨y,hy,rfl⟩
end
def look (g:Slots):Operand->Option Ent
 | .tmp s=>g s
 | .const v=>some (.val (tE v))
 | .global n=>some (.val (tE (.pointer (some ⟨n,0,none⟩))))
 | .func f=>some (.val (tE (.func (.func f) #[] #[])))
structure Eff where
  rd:List (Operand×Ent)
  kr:List (Nat×HEnt)
  d:Option (Nat×Option Ent)
  kw:List (Nat×Option HEnt)
  nk:List Nat
def Rd (g:Slots):List (Operand×Ent)->Prop
 | []=>True
 | x::r=>look g x.1=some x.2/\Rd g r
def Kr (h:Keys):List (Nat×HEnt)->Prop
 | []=>True
 | x::r=>h x.1=some x.2/\Kr h r
def Nk (al:Nat->Bool):List Nat->Prop
 | []=>True
 | k::r=>al k=false/\Nk al r
def Eff.g (E:Eff) (g:Slots):Slots:=match E.d with
 | some x=>upd g x.1 x.2
 | none=>g
def updK (h:Keys):List (Nat×Option HEnt)->Keys
 | []=>h
 | x::r=>updK (upd h x.1 x.2) r
def Eff.h (E:Eff) (h:Keys):Keys:=updK h E.kw
def memK (j:Nat):List Nat->Bool
 | []=>false
 | [k]=>Nat.beq j k
 | k::r=>Nat.beq j k || memK j r
def Eff.al (E:Eff) (al:Nat->Bool):Nat->Bool:=match E.nk with
 | []=>al
 | ks=>fun j=>memK j ks || al j
structure Eff.Pre (E:Eff) (c:Base) (g:Slots) (h:Keys) (al:Nat->Bool):Prop where
  rd:Rd g E.rd
  kr:Kr h E.kr
  nk:Nk al E.nk
  d: ∀x,E.d=some x->x.1 < c.N
def NoQ:Exit->Act->World->Prop:=fun _ _ _=>False
def fc (ro:Option Nat):Fence:={Fence.wide with round:=ro}
def Does (P:Program) (c:Base) (o:Oper) (E:Eff):Prop:=
 ∀g h al a w,E.Pre c g h al->St c g h al a w->o.wpIn (fc c.ro) 0 P a w (fun a' w'=>St c (E.g g) (E.h h) (E.al al) a' w') NoQ
section
variable {P:Program} {c:Base} {g:Slots} {h:Keys} {al:Nat->Bool} {a:Act} {w w':World} {η:Env}
theorem xa2 (s:St' c g h al a w η) {x:Operand} {e:Ent} (hx:look g x=some e):e.sat (c.dom h η) w η (a.eval x)/\ ∀k∈e.supp,al k=true:=by
 cases x with
 | tmp t=>exact ⟨(s.slot t e hx).2.2,(s.slot t e hx).2.1⟩
 | const v=>cases hx;exact ⟨rfl,fun k hk=>by cases hk⟩
 | global n=>cases hx;exact ⟨rfl,fun k hk=>by cases hk⟩
 | func f=>cases hx;exact ⟨rfl,fun k hk=>by cases hk⟩
theorem yh4 {ro:Option Nat} {ρ:Operand->Value} {o:Oper} {n:Next} (hr:(execOp ρ o).run P w= .ok n w') (hn: ∀d,n≠ .defer d):(o.semAt ro ρ).run P w= .ok n w':=by
 rw [Oper.semAt_eq,hr];intro cl hc;simp only [execOp,hc,zbu] at hr;cases h1:(resolve ρ cl o.type).run P w with
 | ok d w1=>rw [h1] at hr;simp only [zbn,zbx,Result.ok.injEq] at hr;exact hn d hr.1.symm
 | halt x w1=>rw [h1] at hr;simp [Result.andThen] at hr
theorem xd0 {o:Oper} {ro:Option Nat} {K:Act->World->Prop} {Q:Exit->Act->World->Prop} {v:Value} (hr:(execOp a.eval o).run P w= .ok (.value v) w') (hk:K (a.put o.dst v) w'):o.wpIn (fc ro) 0 P a w K Q:=
 ⟨fun _ _=>trivial,by show o.uponIn _ _ _ _ _ _ ((o.semAt ro a.eval).run P w);rw [yh4 hr (fun d h=>by cases h)];exact hk⟩
theorem ye4 {o:Oper} {ro:Option Nat} {K:Act->World->Prop} {Q:Exit->Act->World->Prop} (hr:(execOp a.eval o).run P w= .ok .skip w') (hk:K (a.put o.dst undef) w'):o.wpIn (fc ro) 0 P a w K Q:=
 ⟨fun _ _=>trivial,by show o.uponIn _ _ _ _ _ _ ((o.semAt ro a.eval).run P w);rw [yh4 hr (fun d h=>by cases h)];exact hk⟩
theorem Does.value {o:Oper} {rd:List (Operand×Ent)} {kr:List (Nat×HEnt)} {d:Nat} {e:Ent} (hd:o.dst=some d)
  (hr: ∀g h al a w η,Rd g rd->Kr h kr->St' c g h al a w η-> ∃v w',(execOp a.eval o).run P w= .ok (.value v) w'/\Ext w w'/\e.sat (c.dom h η) w' η v/\ ∀k∈e.supp,al k=true):
  Does P c o ⟨rd,kr,some (d,some e),[],[]⟩:=by
 intro g h al a w hp ⟨η,s⟩;obtain ⟨v,w',h1,h2,h3,h4⟩:=hr g h al a w η hp.rd hp.kr s;refine xd0 h1 ?_;rw [hd];exact ⟨η,(s.ext h2).put (hp.d _ rfl) h3 h4⟩
variable {d t:Nat} {pos:String} {af:Array Edge} {gd:Option (Nat×Bool)}
theorem xa3 {x:Operand} {e:Ent}:Does P c ⟨some d,.move x,t,pos,af,gd⟩ ⟨[(x,e)],[],some (d,some e),[],[]⟩:=
 Does.value rfl fun g h al a w η hr _ s=>⟨a.eval x,w,by simp [execOp,go_sem],Ext.refl w,xa2 s hr.1⟩
theorem xb0 {x:Operand} {e:Ent}:Does P c ⟨some d,.assign x,t,pos,af,gd⟩ ⟨[(x,e)],[],some (d,some e),[],[]⟩:=
 Does.value rfl fun g h al a w η hr _ s=>⟨a.eval x,w,by simp [execOp,go_sem],Ext.refl w,xa2 s hr.1⟩
theorem xi7 {op:BinOp} {T yT:TypeId} {x y:Operand} {u v r:Value}
  (hr: ∀w,(do eqGuard op T x y u v;binOp op T u v:Sem Value).run P w= .ok r w):
  Does P c ⟨some d,.binOp op T x y yT,t,pos,af,gd⟩ ⟨[(x,.val (tE u)),(y,.val (tE v))],[],some (d,some (.val (tE r))),[],[]⟩:=
 Does.value rfl fun g h al a w η hrd _ s=>by
  have h1:a.eval x=u:=(xa2 s hrd.1).1;have h2:a.eval y=v:=(xa2 s hrd.2.1).1;refine ⟨r,w,?_,Ext.refl w,rfl,fun k hk=>by cases hk⟩;simp only [execOp,h1,h2,zbu,hr w,zbn,zbx]
section ints
variable {T yT:TypeId} {x y:Operand} {k:IntKind} {m n r:Int}
theorem xh3 (hr:k.wrap (m+n)=r):Does P c ⟨some d,.binOp .add T x y yT,t,pos,af,gd⟩ ⟨[(x,.val (tE (.int k m))),(y,.val (tE (.int k n)))],[],some (d,some (.val (tE (.int k r)))),[],[]⟩:=
 xi7 fun w=>by simp [go_sem,Op.intArith,hr]
theorem xh2 (hr:k.wrap (m - n)=r):Does P c ⟨some d,.binOp .sub T x y yT,t,pos,af,gd⟩ ⟨[(x,.val (tE (.int k m))),(y,.val (tE (.int k n)))],[],some (d,some (.val (tE (.int k r)))),[],[]⟩:=
 xi7 fun w=>by simp [go_sem,Op.intArith,hr]
theorem xj8 (hr:k.wrap (m*n)=r):Does P c ⟨some d,.binOp .mul T x y yT,t,pos,af,gd⟩ ⟨[(x,.val (tE (.int k m))),(y,.val (tE (.int k n)))],[],some (d,some (.val (tE (.int k r)))),[],[]⟩:=
 xi7 fun w=>by simp [go_sem,Op.intArith,hr]
theorem ya8 (hn:n≠0) (hr:k.wrap (m.tdiv n)=r):Does P c ⟨some d,.binOp .quo T x y yT,t,pos,af,gd⟩ ⟨[(x,.val (tE (.int k m))),(y,.val (tE (.int k n)))],[],some (d,some (.val (tE (.int k r)))),[],[]⟩:=
 xi7 fun w=>by simp [go_sem,Op.intDiv,hn,hr]
theorem ya4 (hn:n≠0) (hr:m.tmod n=r):Does P c ⟨some d,.binOp .rem T x y yT,t,pos,af,gd⟩ ⟨[(x,.val (tE (.int k m))),(y,.val (tE (.int k n)))],[],some (d,some (.val (tE (.int k r)))),[],[]⟩:=
 xi7 fun w=>by simp [go_sem,Op.intDiv,hn,hr]
theorem zr6:Does P c ⟨some d,.binOp .lss T x y yT,t,pos,af,gd⟩ ⟨[(x,.val (tE (.int k m))),(y,.val (tE (.int k n)))],[],some (d,some (.val (tB (decide (m < n))))),[],[]⟩:=
 xi7 fun w=>by simp [go_sem]
theorem zd4:Does P c ⟨some d,.binOp .leq T x y yT,t,pos,af,gd⟩ ⟨[(x,.val (tE (.int k m))),(y,.val (tE (.int k n)))],[],some (d,some (.val (tB (decide (m<=n))))),[],[]⟩:=
 xi7 fun w=>by simp [go_sem]
theorem xw8:Does P c ⟨some d,.binOp .gtr T x y yT,t,pos,af,gd⟩ ⟨[(x,.val (tE (.int k m))),(y,.val (tE (.int k n)))],[],some (d,some (.val (tB (decide (n < m))))),[],[]⟩:=
 xi7 fun w=>by simp [go_sem]
theorem qu4:Does P c ⟨some d,.binOp .geq T x y yT,t,pos,af,gd⟩ ⟨[(x,.val (tE (.int k m))),(y,.val (tE (.int k n)))],[],some (d,some (.val (tB (decide (n<=m))))),[],[]⟩:=
 xi7 fun w=>by simp [go_sem]
theorem ya7:Does P c ⟨some d,.binOp .eql T x y yT,t,pos,af,gd⟩ ⟨[(x,.val (tE (.int k m))),(y,.val (tE (.int k n)))],[],some (d,some (.val (tB (decide (m=n))))),[],[]⟩:=
 xi7 fun w=>by simp [go_sem];rfl
theorem zr4:Does P c ⟨some d,.binOp .neq T x y yT,t,pos,af,gd⟩ ⟨[(x,.val (tE (.int k m))),(y,.val (tE (.int k n)))],[],some (d,some (.val (tB (decide (m≠n))))),[],[]⟩:=
 xi7 fun w=>by simp [go_sem,bne];by_cases hmn:m=n <;> simp [hmn]
theorem d_shl {j:IntKind} (h0:0<=n) (hr:k.wrap (m*2 ^ (min n.toNat k.bits))=r):Does P c ⟨some d,.binOp .shl T x y yT,t,pos,af,gd⟩ ⟨[(x,.val (tE (.int k m))),(y,.val (tE (.int j n)))],[],some (d,some (.val (tE (.int k r)))),[],[]⟩:=
 xi7 fun w=>by
  have h1: ¬n < 0:=by omega
  simp only [binOp,Op.shift,if_neg h1,eqGuard_shl,zbu,zbx,zbn,hr]
theorem ya2 {j:IntKind} (h0:0<=n) (hr:m.fdiv (2 ^ (min n.toNat k.bits))=r):Does P c ⟨some d,.binOp .shr T x y yT,t,pos,af,gd⟩ ⟨[(x,.val (tE (.int k m))),(y,.val (tE (.int j n)))],[],some (d,some (.val (tE (.int k r)))),[],[]⟩:=
 xi7 fun w=>by
  have h1: ¬n < 0:=by omega
  simp only [binOp,Op.shift,if_neg h1,eqGuard_shr,zbu,zbx,zbn,hr]
theorem d_bits {op:BinOp} (ho:op= .and∨op= .or∨op= .xor∨op= .andNot) (hr: ∀w,(Op.intBits op k m n).run P w= .ok (.int k r) w):
  Does P c ⟨some d,.binOp op T x y yT,t,pos,af,gd⟩ ⟨[(x,.val (tE (.int k m))),(y,.val (tE (.int k n)))],[],some (d,some (.val (tE (.int k r)))),[],[]⟩:=
 xi7 fun w=>by rcases ho with rfl | rfl | rfl | rfl <;> simp only [eqGuard_and,eqGuard_or,eqGuard_xor,eqGuard_andNot,binOp_and,binOp_or,binOp_xor,binOp_andNot,zbu,zbx,zbn,hr w]
end ints
theorem xj9 {T:TypeId} {x:Operand} {b:Bool}:Does P c ⟨some d,.unOp .not T x,t,pos,af,gd⟩ ⟨[(x,.val (tB b))],[],some (d,some (.val (tB (!b)))),[],[]⟩:=
 Does.value rfl fun g h al a w η hrd _ s=>by
  have h1:a.eval x= .bool b:=(xa2 s hrd.1).1;exact ⟨_,w,by simp only [execOp,h1,Op.unary,zbu,zbx,zbn],Ext.refl w,rfl,fun k hk=>by cases hk⟩
theorem d_neg {T:TypeId} {x:Operand} {k:IntKind} {n r:Int} (hr:k.wrap (0 - n)=r):Does P c ⟨some d,.unOp .neg T x,t,pos,af,gd⟩ ⟨[(x,.val (tE (.int k n)))],[],some (d,some (.val (tE (.int k r)))),[],[]⟩:=
 Does.value rfl fun g h al a w η hrd _ s=>by
  have h1:a.eval x= .int k n:=(xa2 s hrd.1).1;exact ⟨_,w,by simp only [execOp,h1,Op.unary,Op.intArith,zbu,zbx,zbn,hr],Ext.refl w,rfl,fun k hk=>by cases hk⟩
theorem Tup.get {F:Dom} {w:World}: ∀(ts:List Ty) (vs:List Value) (i:Nat) (u:Ty),Tup.all F w ts vs->ts[i]? =some u-> ∃v,vs[i]? =some v/\u.p F w v
 | t::r,v::s,0,u,h,hi=>⟨v,rfl,by cases hi;exact h.1⟩
 | t::r,v::s,i+1,u,h,hi=>Tup.get r s i u h.2 hi
 | [],_,i,u,_,hi=>by simp at hi
 | _::_,[],_,_,h,_=>h.elim
theorem ye1 {x:Operand} {ts:List Ty} {i:Nat} {u:Ty} (hi:ts[i]? =some u):Does P c ⟨some d,.extract x i,t,pos,af,gd⟩ ⟨[(x,.val (tT ts))],[],some (d,some (.val u)),[],[]⟩:=
 Does.value rfl fun g h al a w η hrd _ s=>by
  obtain ⟨vs,h1,h2⟩:=(xa2 s hrd.1).1;obtain ⟨v,h3,h4⟩:=Tup.get ts vs i u h2 hi;have h1':a.eval x= .tuple vs.toArray:=h1;exact ⟨v,w,by simp only [execOp,h1'];simp [Instr.extract,h3,go_sem],Ext.refl w,h4,fun k hk=>by cases hk⟩
theorem xa8 {src dst:TypeId} {x:Operand} {j k:IntKind} {n r:Int} (hd:P.underlying dst=some (.int k)) (hs:(P.underlying src).isSome=true) (hr:k.wrap n=r):
  Does P c ⟨some d,.convert src dst x,t,pos,af,gd⟩ ⟨[(x,.val (tE (.int j n)))],[],some (d,some (.val (tE (.int k r)))),[],[]⟩:=
 Does.value rfl fun g h al a w η hrd _ s=>by
  have h1:a.eval x= .int j n:=(xa2 s hrd.1).1;obtain ⟨ds,hds⟩:=Option.isSome_iff_exists.1 hs;refine ⟨.int k r,w,?_,Ext.refl w,rfl,fun k hk=>by cases hk⟩;simp only [execOp,h1,convert,zbu,zcj hds,zcj hd,zbn];cases ds <;> simp [Conv.intToInt,hr,go_sem]
theorem ya9 {T:TypeId} {x:Operand} {α:Type} {es:Nat} {agg:Bool} {f:α->Ty} {xs:List α} {E:TypeId} (hT:P.underlying T=some (.slice E)):
  Does P c ⟨some d,.call {callee:= .builtin .len,args:= #[x],argTypes:= #[T]},t,pos,af,gd⟩ ⟨[(x,.val (tL es agg f xs))],[],some (d,some (.val (tI xs.length))),[],[]⟩:=
 Does.value rfl fun g h al a w η hrd _ s=>by
  obtain ⟨A,cc,h1,_⟩:=(xa2 s hrd.1).1;have h1:a.eval x= .slice A xs.length cc:=h1;exact ⟨_,w,by simp only [execOp,resolve,invoke,builtin,zcs,zcy,zfg,h1];simp [Builtin.len_,run_underlying hT,goInt,go_sem],Ext.refl w,rfl,fun k hk=>by cases hk⟩
theorem zt4 {T:TypeId} {x:Operand} {k es off len:Nat} {E:TypeId} (hT:P.underlying T=some (.slice E)):
  Does P c ⟨some d,.call {callee:= .builtin .len,args:= #[x],argTypes:= #[T]},t,pos,af,gd⟩ ⟨[(x,.own (.sl k es off len))],[],some (d,some (.val (tI len))),[],[]⟩:=
 Does.value rfl fun g h al a w η hrd _ s=>by
  have h0:=(xa2 s hrd.1).1;obtain ⟨A,h1,_⟩:=h0;have h1:a.eval x= .slice A len (η.c k - off):=h1;exact ⟨_,w,by simp only [execOp,resolve,invoke,builtin,zcs,zcy,zfg,h1];simp [Builtin.len_,run_underlying hT,goInt,go_sem],Ext.refl w,rfl,fun k hk=>by cases hk⟩
end
structure Sm where
  rs:List Nat
  d:Option Nat
  kr:List Nat
  kw:List Nat
  nk:List Nat
def slotsOf:List (Operand×Ent)->List Nat
 | []=>[]
 | (.tmp s,_)::r=>s::slotsOf r
 | _::r=>slotsOf r
def Eff.sm (E:Eff):Sm:=⟨slotsOf E.rd,E.d.map (·.1),E.kr.map (·.1),E.kw.map (·.1),E.nk⟩
def memN (n:Nat):List Nat->Bool
 | []=>false
 | x::r=>Nat.beq x n || memN n r
def meets:List Nat->List Nat->Bool
 | [],_=>false
 | x::r,l=>memN x l || meets r l
def memO (d:Option Nat) (l:List Nat):Bool:=match d with
 | some d=>memN d l
 | none=>false
def sameO (a b:Option Nat):Bool:=match a,b with
 | some x,some y=>Nat.beq x y
 | _,_=>false
def indep (a b:Sm):Bool:=
 !memO a.d b.rs && !sameO a.d b.d && !memO b.d a.rs && !meets a.kw b.kr && !meets a.kw b.kw && !meets b.kw a.kr
def masks:List Oper->Array Nat->Array Nat
 | [],acc=>acc
 | o::r,acc=>masks r (acc.push (o.after.toList.foldl (fun s e=>cond (Region.binds .any e) (s ||| 2 ^ e.on ||| acc.getD e.on 0) s) 0))
def goesWith (m:Nat) (b:Sm):Nat->List Sm->Bool
 | _,[]=>true
 | j,a::r=>(m.testBit j || indep a b) && goesWith m b (j+1) r
def goAll (ms:Array Nat):List Sm->List Sm->Bool
 | _,[]=>true
 | done,b::r=>goesWith (ms.getD done.length 0) b 0 done && goAll ms (done++[b]) r
def dOk (N:Nat):List Sm->Bool
 | []=>true
 | s::r=>(match s.d with | some d=>Nat.blt d N | none=>true) && dOk N r
def nkOk:List Sm->List Nat->Bool
 | [],_=>true
 | s::r,seen=> !meets s.nk seen && nkOk r (s.nk++seen)
theorem xb2 {n:Nat}: ∀{l:List Nat},memN n l=true↔n∈l
 | []=>by simp [memN]
 | x::r=>by
  simp only [memN,zdp,zbr,xb2 (l:=r)];constructor
  ·rintro (h | h)
   ·exact .inl (zds h).symm
   ·exact .inr h
  ·rintro (h | h)
   ·exact .inl (by rw [h];exact Nat.beq_refl x)
   ·exact .inr h
theorem y7: ∀{l m:List Nat},meets l m=true↔ ∃x,x∈l/\x∈m
 | [],m=>by simp [meets]
 | x::r,m=>by simp [meets,xb2,y7 (l:=r)]
structure Indep (a b:Sm):Prop where
  h1: ∀d,a.d=some d->d∉b.rs
  h2: ∀d,a.d=some d->b.d≠some d
  h3: ∀d,b.d=some d->d∉a.rs
  h4: ∀k∈a.kw,k∉b.kr
  h5: ∀k∈a.kw,k∉b.kw
  h6: ∀k∈b.kw,k∉a.kr
theorem Indep.of {a b:Sm} (h:indep a b=true):Indep a b:=by
 simp only [indep,zbv,zew] at h;obtain ⟨⟨⟨⟨⟨h1,h2⟩,h3⟩,h4⟩,h5⟩,h6⟩:=h;refine ⟨fun d hd hm=> ?_,fun d hd hb=> ?_,fun d hd hm=> ?_,fun k hk hm=> ?_,fun k hk hm=> ?_,fun k hk hm=> ?_⟩
 ·simp [hd,memO,xb2.2 hm] at h1
 ·simp [hd,hb,sameO] at h2
 ·simp [hd,memO,xb2.2 hm] at h3
 ·rw [y7.2 ⟨k,hk,hm⟩] at h4;cases h4
 ·rw [y7.2 ⟨k,hk,hm⟩] at h5;cases h5
 ·rw [y7.2 ⟨k,hk,hm⟩] at h6;cases h6
def kwVal (kw:List (Nat×Option HEnt)) (k:Nat):Option (Option HEnt):=match kw with
 | []=>none
 | x::r=>match kwVal r k with
  | some v=>some v
  | none=>if k=x.1 then some x.2 else none
theorem wf1 (kw:List (Nat×Option HEnt)): ∀(h:Keys) (k:Nat),updK h kw k=(kwVal kw k).getD (h k):=by
 induction kw with
 | nil=>intro h k;rfl
 | cons x r ih=>
  intro h k;simp only [updK,kwVal,ih];cases hv:kwVal r k with
  | some v=>rfl
  | none=>
   by_cases hk:k=x.1
   ·subst hk;simp [x7]
   ·simp [x3 _ _ _ hk,hk]
theorem qu7 {kw:List (Nat×Option HEnt)} {k:Nat}:(kwVal kw k).isSome=true↔k∈kw.map (·.1):=by
 induction kw with
 | nil=>simp [kwVal]
 | cons x r ih=>
  simp only [kwVal,zcy,zbr];cases hv:kwVal r k with
  | some v=>rw [hv] at ih;simp at ih;simp [ih]
  | none=>
   rw [hv] at ih;simp at ih;by_cases hk:k=x.1
   ·simp [hk]
   ·simp [hk];exact ih
structure Chg (β:Type) where
  v:Nat->Option β
def Chg.run {β:Type} (C:Chg β) (f:Nat->β):Nat->β:=fun s=>(C.v s).getD (f s)
def runC {β:Type} (D:Nat->Bool):Nat->List (Chg β)->(Nat->β)->Nat->β
 | _,[],f=>f
 | i,C::r,f=>runC D (i+1) r (cond (D i) (C.run f) f)
theorem xh1 {β:Type} {D D':Nat->Bool} {s:Nat}: ∀(l:List (Chg β)) (i:Nat) (f f':Nat->β),f s=f' s->
  (∀j C,l[j]? =some C->(C.v s).isSome=true->D (i+j)=D' (i+j))->runC D i l f s=runC D' i l f' s
 | [],_,_,_,hf,_=>hf
 | C::r,i,f,f',hf,h=>by
  simp only [runC];refine xh1 r (i+1) _ _ ?_ fun j C' hj hs=>by
   have:=h (j+1) C' hj hs
   rwa [show i+(j+1)=i+1+j from by omega] at this
  cases hv:C.v s with
  | none=>cases D i <;> cases D' i <;> simp [Chg.run,hv,hf]
  | some x=>
   have:=h 0 C rfl (by simp [hv]);simp only [zeh] at this;rw [this];cases D' i <;> simp [Chg.run,hv,hf]
theorem zm6 {β:Type} {D:Nat->Bool} {s:Nat} {x:β}: ∀(l:List (Chg β)) (i:Nat) (f:Nat->β) (k:Nat) (C:Chg β),l[k]? =some C->C.v s=some x->D (i+k)=true->
  (∀j C',l[j]? =some C'->k < j->(C'.v s).isSome=true->D (i+j)=false)->runC D i l f s=x
 | [],_,_,_,_,hk,_,_,_=>by simp at hk
 | C0::r,i,f,0,C,hk,hv,hD,h=>by
  simp only [zcp,zck] at hk;subst hk;simp only [zeh] at hD;simp only [runC,hD,zev];have:runC D (i+1) r (C0.run f) s=runC (fun _=>false) (i+1) r (C0.run f) s:=xh1 r _ _ _ rfl fun j C' hj hs=>by
   have:=h (j+1) C' hj (by omega) hs
   rwa [show i+(j+1)=i+1+j from by omega] at this
  rw [this];have h0: ∀(l:List (Chg β)) (i:Nat) (f:Nat->β),runC (fun _=>false) i l f=f:=by
   intro l
   induction l with
   | nil=>intro i f;rfl
   | cons C l ih=>intro i f;simp only [runC,zdy];exact ih _ _
  rw [h0];simp [Chg.run,hv]
 | C0::r,i,f,k+1,C,hk,hv,hD,h=>by
  simp only [runC];refine zm6 r (i+1) _ k C hk hv (by rw [show i+1+k=i+(k+1) from by omega];exact hD) fun j C' hj hlt hs=>by
   have:=h (j+1) C' hj (by omega) hs
   rwa [show i+(j+1)=i+1+j from by omega] at this
def Eff.cg (E:Eff):Chg (Option Ent):=⟨fun s=>match E.d with | some x=>if s=x.1 then some x.2 else none | none=>none⟩
def Eff.ch (E:Eff):Chg (Option HEnt):=⟨kwVal E.kw⟩
def Eff.ca (E:Eff):Chg Bool:=⟨fun s=>if memN s E.nk then some true else none⟩
theorem Eff.cg_run (E:Eff) (g:Slots):E.cg.run g=E.g g:=by
 funext s;simp only [Chg.run,Eff.cg,Eff.g];cases E.d with
 | none=>rfl
 | some x=>
  by_cases h:s=x.1
  ·subst h;simp [x7]
  ·simp [h,x3 _ _ _ h]
theorem Eff.ch_run (E:Eff) (h:Keys):E.ch.run h=E.h h:=by
 funext k;simp only [Chg.run,Eff.ch,Eff.h,wf1]
theorem zk3 (a b:Nat):Nat.beq a b=Nat.beq b a:=by
 cases h:Nat.beq a b with
 | true=>rw [zds h,Nat.beq_refl]
 | false=>
  cases h':Nat.beq b a with
  | false=>rfl
  | true=>rw [zds h',Nat.beq_refl] at h;cases h
theorem zi6 (j:Nat): ∀l:List Nat,memK j l=memN j l
 | []=>rfl
 | [k]=>by simp [memK,memN,zk3]
 | k::x::r=>by simp only [memK,memN,zi6 j (x::r),zk3 j k]
theorem Eff.ca_run (E:Eff) (al:Nat->Bool):E.ca.run al=E.al al:=by
 funext s;simp only [Chg.run,Eff.ca,Eff.al];cases E.nk with
 | nil=>rfl
 | cons k r=>
  simp only [zi6];cases memN s (k::r) <;> simp
theorem Eff.ca_mem {E:Eff} {s:Nat} (h:(E.ca.v s).isSome=true):s∈E.nk:=by
 simp only [Eff.ca] at h;split at h
 ·rename_i h';exact xb2.1 h'
 ·cases h
theorem Eff.cg_some {E:Eff} {s:Nat}:(E.cg.v s).isSome=true↔E.sm.d=some s:=by
 simp only [Eff.cg,Eff.sm];cases E.d with
 | none=>simp
 | some x=>
  by_cases h:s=x.1
  ·simp [h]
  ·simp [h];exact fun e=>h e.symm
theorem Eff.ch_some {E:Eff} {k:Nat}:(E.ch.v k).isSome=true↔k∈E.sm.kw:=qu7
def DoesR (P:Program) (c:Base) (ops:Array Oper) (o:Oper) (E:Eff):Prop:=
 ∀g h al a w,E.Pre c g h al->St c g h al a w->
  if Region.wanted o (yielded ops a.tmps) then o.wpIn (fc c.ro) 0 P a w (fun a' w'=>St c (E.g g) (E.h h) (E.al al) a' w') NoQ else St c (E.g g) (E.h h) (E.al al) (a.put o.dst undef) w
structure Eff.PreL (E:Eff) (g:Slots) (h:Keys) (al:Nat->Bool):Prop where
  rd:Rd g E.rd
  kr:Kr h E.kr
  nk:Nk al E.nk
theorem Rd.congr {g g':Slots}: ∀{l:List (Operand×Ent)},(∀s∈slotsOf l,g s=g' s)->Rd g l->Rd g' l
 | [],_,_=>trivial
 | (.tmp s,e)::r,h,hr=>⟨by have:=h s (by simp [slotsOf]);simp only [look];rw [<-this];exact hr.1,Rd.congr (fun t ht=>h t (by simp [slotsOf,ht])) hr.2⟩
 | (.const v,e)::r,h,hr=>⟨hr.1,Rd.congr (fun t ht=>h t (by simpa [slotsOf] using ht)) hr.2⟩
 | (.global v,e)::r,h,hr=>⟨hr.1,Rd.congr (fun t ht=>h t (by simpa [slotsOf] using ht)) hr.2⟩
 | (.func v,e)::r,h,hr=>⟨hr.1,Rd.congr (fun t ht=>h t (by simpa [slotsOf] using ht)) hr.2⟩
theorem Kr.congr {h h':Keys}: ∀{l:List (Nat×HEnt)},(∀s∈l.map (·.1),h s=h' s)->Kr h l->Kr h' l
 | [],_,_=>trivial
 | x::r,hh,hr=>⟨by rw [<-hh x.1 (by simp)];exact hr.1,Kr.congr (fun t ht=>hh t (zcd _ ht)) hr.2⟩
theorem Nk.congr {al al':Nat->Bool}: ∀{l:List Nat},(∀s∈l,al s=al' s)->Nk al l->Nk al' l
 | [],_,_=>trivial
 | k::r,h,hr=>⟨by rw [<-h k (by simp)];exact hr.1,Nk.congr (fun t ht=>h t (by simp [ht])) hr.2⟩
def Closed (ops:List Oper) (D:Nat->Bool):Prop:= ∀i o,ops[i]? =some o->D i=true-> ∀e∈o.after.toList,Region.binds .any e=true->D e.on=true
theorem zj9 {acc:Array Nat} {D:Nat->Bool} (hacc: ∀(i:Nat) (m:Nat),acc[i]? =some m->D i=true-> ∀j,m.testBit j=true->D j=true):
  ∀(l:List Edge) (s:Nat),(∀j,s.testBit j=true->D j=true)->(∀e∈l,Region.binds .any e=true->D e.on=true)->
   ∀j,(l.foldl (fun s e=>cond (Region.binds .any e) (s ||| 2 ^ e.on ||| acc.getD e.on 0) s) s).testBit j=true->D j=true
 | [],s,hs,_,j,hj=>hs j hj
 | e::r,s,hs,hl,j,hj=>by
  simp only [List.foldl_cons] at hj;refine zj9 hacc r _ ?_ (fun e' he'=>hl e' (by simp [he'])) j hj;intro i hi;cases hb:Region.binds .any e with
  | false=>rw [hb] at hi;exact hs i hi
  | true=>
   rw [hb] at hi;simp only [zev,Nat.testBit_or,Nat.testBit_two_pow,zdp,zbw] at hi;have hon:=hl e (by simp) hb;rcases hi with (hi | hi) | hi
   ·exact hs i hi
   ·rw [<-hi];exact hon
   ·rw [zbk] at hi;cases hm:acc[e.on]? with
    | none=>rw [hm] at hi;simp at hi
    | some m=>rw [hm] at hi;exact hacc e.on m hm hon i hi
theorem ya3 {ops:List Oper}: ∀(l:List Oper) (acc:Array Nat),(∀j o,l[j]? =some o->ops[acc.size+j]? =some o)->
  (∀D,Closed ops D-> ∀(i m:Nat),acc[i]? =some m->(∀o,ops[i]? =some o-> ∀e∈o.after.toList,Region.binds .any e=true->D e.on=true)-> ∀j,m.testBit j=true->D j=true)->
  ∀D,Closed ops D-> ∀(i m:Nat),(masks l acc)[i]? =some m->(∀o,ops[i]? =some o-> ∀e∈o.after.toList,Region.binds .any e=true->D e.on=true)-> ∀j,m.testBit j=true->D j=true
 | [],acc,_,hacc=>hacc
 | o::r,acc,hl,hacc=>by
  simp only [masks];refine ya3 r _ (fun j o' hj=>by
   have:=hl (j+1) o' hj;rw [Array.size_push,show acc.size+1+j=acc.size+(j+1) from by omega];exact this) ?_
  intro D hD i m hm hi j hj;rw [zfe] at hm;split at hm
  ·rename_i h0;cases hm;have ho:ops[acc.size]? =some o:=by simpa using hl 0 o rfl
   refine zj9 (fun i m hm hDi=>hacc D hD i m hm fun o' ho'=>hD i o' ho' hDi) _ 0 (by simp) ?_ j hj;exact hi o (by rw [h0];exact ho)
  ·exact hacc D hD i m hm hi j hj
theorem yk4 {m:Nat} {b:Sm}: ∀(l:List Sm) (j:Nat),goesWith m b j l=true-> ∀i a,l[i]? =some a->m.testBit (j+i)=true∨Indep a b
 | a::r,j,h,0,a',hi=>by
  simp only [goesWith,zbv,zdp] at h;simp only [zcp,zck] at hi;subst hi;exact h.1.imp id Indep.of
 | a::r,j,h,i+1,a',hi=>by
  simp only [goesWith,zbv] at h;have:=yk4 r (j+1) h.2 i a' hi
  rwa [show j+1+i=j+(i+1) from by omega] at this
 | [],_,_,i,a,hi=>by simp at hi
theorem yi6 {ms:Array Nat}: ∀(l done:List Sm),goAll ms done l=true-> ∀i j a b,i < j->done.length<=j->(done++l)[i]? =some a->(done++l)[j]? =some b->
  (ms.getD j 0).testBit i=true∨Indep a b
 | [],done,_,i,j,a,b,hij,hle,ha,hb=>by
  simp at hb;obtain ⟨h1,_⟩:=zbo.1 hb;omega
 | x::r,done,h,i,j,a,b,hij,hle,ha,hb=>by
  simp only [goAll,zbv] at h;by_cases hj:j=done.length
  ·subst hj;rw [zcr (zbq _)] at hb;simp at hb;subst hb;rw [zct (by omega)] at ha;have:=yk4 done 0 h.1 i a ha;simpa using this
  ·have e:done++x::r=(done++[x])++r:=by simp
   rw [e] at ha hb;exact yi6 r (done++[x]) h.2 i j a b hij (by simp;omega) ha hb
theorem yj6 {N:Nat}: ∀{l:List Sm},dOk N l=true-> ∀(i:Nat) (s:Sm),l[i]? =some s-> ∀d,s.d=some d->d < N
 | x::r,h,0,s,hi,d,hd=>by
  simp only [zcp,zck] at hi;subst hi;simp only [dOk,hd,zbv] at h;simpa using h.1
 | x::r,h,i+1,s,hi,d,hd=>by
  simp only [dOk,zbv] at h;exact yj6 h.2 i s hi d hd
 | [],_,i,s,hi,_,_=>by simp at hi
theorem xo1: ∀{l:List Sm} {seen:List Nat},nkOk l seen=true->(∀(i:Nat) (s:Sm),l[i]? =some s-> ∀k∈s.nk,k∉seen)/\
  ∀(i j:Nat) (s t:Sm),i < j->l[i]? =some s->l[j]? =some t-> ∀k∈s.nk,k∉t.nk
 | [],_,_=>⟨fun i s hi=>by simp at hi,fun i j s t _ hi=>by simp at hi⟩
 | x::r,seen,h=>by
  simp only [nkOk,zbv,zew] at h;obtain ⟨ih1,ih2⟩:=xo1 h.2;refine ⟨fun i s hi k hk hm=> ?_,fun i j s t hij hi hj k hk hm=> ?_⟩
  ·cases i with
   | zero=>
    simp only [zcp,zck] at hi;subst hi;rw [y7.2 ⟨k,hk,hm⟩] at h;exact absurd h.1 (by simp)
   | succ i=>exact ih1 i s hi k hk (by simp [hm])
  ·cases j with
   | zero=>omega
   | succ j=>
    cases i with
    | zero=>
     simp only [zcp,zck] at hi;subst hi;exact ih1 j t hj k hm (by simp [hk])
    | succ i=>exact ih2 i j s t (by omega) hi hj k hk hm
theorem xv2 {β:Type} {l:List (Chg β)} {D D':Nat->Bool} {i:Nat} {C:Chg β} (hl:l[i]? =some C) (hD': ∀j,j≠i->D' j=D j) (hi:D' i=true)
  (hlast: ∀j C',l[j]? =some C'->i < j-> ∀s,(C.v s).isSome=true->(C'.v s).isSome=true->D j=false) (f:Nat->β):
  C.run (runC D 0 l f)=runC D' 0 l f:=by
 funext s;cases hv:C.v s with
 | some x=>
  have h1:runC D' 0 l f s=x:=zm6 l 0 f i C hl hv (by simpa using hi) fun j C' hj hlt hs=>by
   rw [zcn,hD' j (by omega)];exact hlast j C' hj hlt s (by simp [hv]) hs
  rw [h1];simp [Chg.run,hv]
 | none=>
  simp only [Chg.run,hv,Option.getD_none];exact xh1 l 0 f f rfl fun j C' hj hs=>by
   by_cases hji:j=i
   ·subst hji;rw [hl] at hj;cases hj;rw [hv] at hs;cases hs
   ·simp only [zcn];exact (hD' j hji).symm
theorem zg7 {P:Program} {ro:Option Nat} {o:Oper} {a:Act} {w:World} {K:Act->World->Prop} {Q:Exit->Act->World->Prop} (h:o.wpIn (fc ro) 0 P a w K NoQ):o.wpIn (fc ro) 0 P a w K Q:=by
 refine ⟨h.1,?_⟩;have h:=h.2;generalize (o.semAt (fc ro).round a.eval).run P w=r at*
 cases r with
 | ok n w'=>
  cases n <;> simp only [Oper.uponIn] at h ⊢ <;>
   first
    | exact h
    | exact ⟨h.1,h.2.mono (fun e w'' he=>by
      cases e with
      | returned v=>exact he
      | panicked ch=>exact he.elim
      | outgrown=>obtain ⟨_,_,hq⟩:=he;exact hq.elim)⟩
    | exact h.elim
 | halt x w'=>cases x <;> simp only [Oper.uponIn,NoQ] at h
section
variable {P:Program} {c:Base}
def edgesOk:Nat->List Oper->Bool
 | _,[]=>true
 | i,o::r=>o.after.toList.all (fun e=> !Region.binds .any e || Nat.blt e.on i) && edgesOk (i+1) r
theorem xt5: ∀(l:List Oper) (j:Nat),edgesOk j l=true-> ∀(i:Nat) (o:Oper),l[i]? =some o-> ∀e∈o.after.toList,Region.binds .any e=true->e.on < j+i
 | x::r,j,h,0,o,hi,e,he,hb=>by
  simp only [zcp,zck] at hi;subst hi;simp only [edgesOk,zbv,zdk,zdp,zew] at h;rcases h.1 e he with h1 | h1
  ·rw [h1] at hb;cases hb
  ·simpa using h1
 | x::r,j,h,i+1,o,hi,e,he,hb=>by
  simp only [edgesOk,zbv] at h;have:=xt5 r (j+1) h.2 i o hi e he hb;omega
 | [],_,_,i,_,hi,_,_,_=>by simp at hi
def left (D:Nat->Bool):Nat->Nat
 | 0=>0
 | n+1=>left D n+cond (D n) 0 1
theorem za5 {D D':Nat->Bool}: ∀n,(∀j,j < n->D j=D' j)->left D n=left D' n
 | 0,_=>rfl
 | n+1,h=>by simp only [left];rw [za5 n fun j hj=>h j (by omega),h n (by omega)]
theorem yw7 {D D':Nat->Bool} {i:Nat} (h: ∀j,j≠i->D' j=D j) (h1:D' i=true) (h0:D i=false): ∀n,i < n->left D' n+1=left D n
 | 0,hi=>by omega
 | n+1,hi=>by
  simp only [left];by_cases hin:i=n
  ·subst hin;rw [h1,h0,za5 i fun j hj=>h j (by omega)];rfl
  ·have:=yw7 h h1 h0 n (by omega);rw [h n (by omega)];omega
theorem yp1 {D:Nat->Bool}: ∀n,left D n=0-> ∀j,j < n->D j=true
 | 0,_,j,hj=>by omega
 | n+1,h,j,hj=>by
  simp only [left] at h;by_cases hjn:j=n
  ·subst hjn;cases hd:D j with
   | true=>rfl
   | false=>rw [hd] at h;simp at h
  ·exact yp1 n (by omega) j (by omega)
theorem je3 {ops:List Oper} {Es:List Eff} {g0:Slots} {h0:Keys} {al0:Nat->Bool} {Q:Exit->Act->World->Prop} (hlen:ops.length=Es.length)
  (hD: ∀(i:Nat) (o:Oper) (E:Eff),ops[i]? =some o->Es[i]? =some E->DoesR P c ops.toArray o E)
  (hpre: ∀(i:Nat) (E:Eff),Es[i]? =some E->E.PreL (runC (fun j=>decide (j < i)) 0 (Es.map Eff.cg) g0) (runC (fun j=>decide (j < i)) 0 (Es.map Eff.ch) h0) (runC (fun j=>decide (j < i)) 0 (Es.map Eff.ca) al0))
  (hgo:goAll (masks ops #[]) [] (Es.map Eff.sm)=true) (hd:dOk c.N (Es.map Eff.sm)=true) (hnk:nkOk (Es.map Eff.sm) []=true) (hed:edgesOk 0 ops=true)
  (hQ: ∀a w,St c (runC (fun _=>true) 0 (Es.map Eff.cg) g0) (runC (fun _=>true) 0 (Es.map Eff.ch) h0) (runC (fun _=>true) 0 (Es.map Eff.ca) al0) a w->Q .normal a w):
  ∀(fuel:Nat) (listed:Array Bool) (a:Act) (w:World),listed.size=ops.length->Closed ops (fun i=>listed.getD i false)->
   left (fun i=>listed.getD i false) ops.length<=fuel->
   St c (runC (fun i=>listed.getD i false) 0 (Es.map Eff.cg) g0) (runC (fun i=>listed.getD i false) 0 (Es.map Eff.ch) h0) (runC (fun i=>listed.getD i false) 0 (Es.map Eff.ca) al0) a w->
   wpAnyIn (fc c.ro) 0 P .any ops.toArray Q fuel listed a w:=by
 have hsm: ∀(i:Nat) (E:Eff),Es[i]? =some E->(Es.map Eff.sm)[i]? =some E.sm:=fun i E h=>by rw [zbs,h];rfl
 have hpair: ∀(i j:Nat) (E E':Eff),i < j->Es[i]? =some E->Es[j]? =some E'->((masks ops #[]).getD j 0).testBit i=true∨Indep E.sm E'.sm:=fun i j E E' hij hi hj=>
  yi6 (Es.map Eff.sm) [] hgo i j _ _ hij (zbt _) (by simpa using hsm i E hi) (by simpa using hsm j E' hj)
 have hmask: ∀D,Closed ops D-> ∀i j,((masks ops #[]).getD i 0).testBit j=true->(∀o,ops[i]? =some o-> ∀e∈o.after.toList,Region.binds .any e=true->D e.on=true)->D j=true:=by
  intro D hcl i j hj hi;rw [zbk] at hj;cases hm:(masks ops #[])[i]? with
  | none=>rw [hm] at hj;simp at hj
  | some m=>rw [hm] at hj;exact ya3 (ops:=ops) ops #[] (by simp) (by simp) D hcl i m hm hi j hj
 have hmaskD: ∀D,Closed ops D-> ∀i j,((masks ops #[]).getD i 0).testBit j=true->D i=true->D j=true:=fun D hcl i j hj hi=>hmask D hcl i j hj fun o ho=>hcl i o ho hi;have hend: ∀(listed:Array Bool) (a:Act) (w:World),listed.size=ops.length->Closed ops (fun i=>listed.getD i false)->Region.ready .any ops.toArray listed=[]->
   St c (runC (fun i=>listed.getD i false) 0 (Es.map Eff.cg) g0) (runC (fun i=>listed.getD i false) 0 (Es.map Eff.ch) h0) (runC (fun i=>listed.getD i false) 0 (Es.map Eff.ca) al0) a w->Q .normal a w:=by
  intro listed a w hsz hcl hr hs;have hall: ∀i,i < ops.length->listed.getD i false=true:=by
   intro i
   induction i using Nat.strongRecOn with
   | _ i ih=>
    intro hi;cases hl:listed.getD i false with
    | true=>rfl
    | false=>
     exfalso;have:i∈Region.ready .any ops.toArray listed:=by
      rw [mem_ready];refine ⟨?_,ops[i],by simp [hi],fun e he hb=> ?_⟩
      ·rw [zbk] at hl ⊢;rw [zcm (by omega)] at hl ⊢;simpa using hl
      ·have hon:=xt5 ops 0 hed i ops[i] (zbi hi) e (by simpa using he) hb;exact ih e.on (by omega) (by omega)
     rw [hr] at this;cases this
  have hcong: ∀{β:Type} (l:List (Chg β)) (f:Nat->β),l.length=ops.length->runC (fun i=>listed.getD i false) 0 l f=runC (fun _=>true) 0 l f:=fun l f hl=>by
   funext s;refine xh1 l 0 f f rfl fun j C hj _=> ?_;rw [zcn];exact hall j (by have:=(zbo.1 hj).1;omega)
  rw [hcong _ _ (by simp [hlen]),hcong _ _ (by simp [hlen]),hcong _ _ (by simp [hlen])] at hs;exact hQ a w hs
 intro fuel
 induction fuel with
 | zero=>
  intro listed a w hsz hcl hleft hs;have hnil:Region.ready .any ops.toArray listed=[]:=by
   cases hr:Region.ready .any ops.toArray listed with
   | nil=>rfl
   | cons i rs=>
    have hi:i∈Region.ready .any ops.toArray listed:=by rw [hr];simp
    rw [mem_ready] at hi;obtain ⟨h1,o,ho,_⟩:=hi;have hlt:i < ops.length:=by
     have:=(zeu.1 ho).1;simpa using this
    have this:listed.getD i false=true:=yp1 (D:=fun i=>listed.getD i false) ops.length (by omega) i hlt;rw [zbk,zcm (by omega)] at h1 this;simp at h1 this;rw [h1] at this;cases this
  exact ⟨hnil,hend listed a w hsz hcl hnil hs⟩
 | succ fuel ih=>
  intro listed a w hsz hcl hleft hs;refine ⟨fun hr=>hend listed a w hsz hcl hr hs,fun i hi=> ?_⟩;rw [mem_ready] at hi;obtain ⟨h1,o,ho,hedge⟩:=hi;have hlt:i < ops.length:=by
   have:=(zeu.1 ho).1;simpa using this
  have ho':ops[i]? =some o:=by simpa using ho
  have hEi:Es[i]? =some (Es[i]'(by omega)):=zbi (by omega);generalize hE:Es[i]'(by omega)=E at hEi;have hDi:listed.getD i false=false:=by
   rw [zbk,zcm (by omega)] at h1 ⊢;simpa using h1
  have hahead: ∀j E',Es[j]? =some E'->j≠i-> ¬Indep E'.sm E.sm-> ¬Indep E.sm E'.sm->listed.getD j false=decide (j < i):=by
   intro j E' hj hji hn1 hn2;rcases zcb j i with hlt' | hge
   ·rw [zbf hlt'];rcases hpair j i E' E hlt' hj hEi with hb | hb
    ·exact hmask _ hcl i j hb fun o' ho'' e he hbd=>by
      rw [ho'] at ho'';cases ho'';exact hedge e (by simpa using he) hbd
    ·exact absurd hb hn1
   ·rw [zbg (by omega)];rcases hpair i j E E' (by omega) hEi hj with hb | hb
    ·cases hd':listed.getD j false with
     | false=>rfl
     | true=>
      have this:listed.getD i false=true:=hmaskD _ hcl j i hb hd';rw [hDi] at this;cases this
    ·exact absurd hb hn2
  have hp0:=hpre i E hEi;have hpD:E.Pre c (runC (fun i=>listed.getD i false) 0 (Es.map Eff.cg) g0) (runC (fun i=>listed.getD i false) 0 (Es.map Eff.ch) h0) (runC (fun i=>listed.getD i false) 0 (Es.map Eff.ca) al0):=by
   refine ⟨Rd.congr (fun s hs=> ?_) hp0.rd,Kr.congr (fun s hs=> ?_) hp0.kr,Nk.congr (fun s hs=> ?_) hp0.nk,fun x hx=> ?_⟩
   ·refine xh1 _ 0 _ _ rfl fun j C hj hsome=> ?_;rw [zbs] at hj;cases hj':Es[j]? with
    | none=>rw [hj'] at hj;cases hj
    | some E'=>
     rw [hj'] at hj;cases hj;have hw:=Eff.cg_some.1 hsome;rw [zcn];by_cases hji:j=i
     ·subst hji;rw [zbg (by omega)];exact hDi.symm
     ·exact (hahead j E' hj' hji (fun hI=>hI.h1 s hw hs) (fun hI=>hI.h3 s hw hs)).symm
   ·refine xh1 _ 0 _ _ rfl fun j C hj hsome=> ?_;rw [zbs] at hj;cases hj':Es[j]? with
    | none=>rw [hj'] at hj;cases hj
    | some E'=>
     rw [hj'] at hj;cases hj;have hw:=Eff.ch_some.1 hsome;rw [zcn];by_cases hji:j=i
     ·subst hji;rw [zbg (by omega)];exact hDi.symm
     ·exact (hahead j E' hj' hji (fun hI=>hI.h4 s hw hs) (fun hI=>hI.h6 s hw hs)).symm
   ·refine xh1 _ 0 _ _ rfl fun j C hj hsome=> ?_;rw [zbs] at hj;cases hj':Es[j]? with
    | none=>rw [hj'] at hj;cases hj
    | some E'=>
     rw [hj'] at hj;cases hj;rw [zcn];by_cases hji:j=i
     ·subst hji;rw [zbg (by omega)];exact hDi.symm
     ·exfalso;have hm:s∈E'.nk:=Eff.ca_mem hsome;have hs':s∈E.sm.nk:=hs;rcases zcb j i with hlt' | hge
      ·exact (xo1 hnk).2 j i _ _ hlt' (hsm j E' hj') (hsm i E hEi) s hm hs'
      ·exact (xo1 hnk).2 i j _ _ (by omega) (hsm i E hEi) (hsm j E' hj') s hs' hm
   ·exact yj6 hd i _ (hsm i E hEi) x.1 (by simp [Eff.sm,hx])
  have hD': ∀j,j≠i->(listed.setIfInBounds i true).getD j false=listed.getD j false:=fun j hj=>getD_set_ne false (fun h=>hj h.symm);have hi':(listed.setIfInBounds i true).getD i false=true:=by
   rw [zbk];simp [hsz,hlt]
  have hg':E.g (runC (fun i=>listed.getD i false) 0 (Es.map Eff.cg) g0)=runC (fun j=>(listed.setIfInBounds i true).getD j false) 0 (Es.map Eff.cg) g0:=by
   rw [<-Eff.cg_run];refine xv2 (D':=fun j=>(listed.setIfInBounds i true).getD j false) (i:=i) (by rw [zbs,hEi];rfl) hD' hi' (fun j C' hj hij s h1 h2=> ?_) _;rw [zbs] at hj;cases hj':Es[j]? with
   | none=>rw [hj'] at hj;cases hj
   | some E'=>
    rw [hj'] at hj;cases hj;have:=hahead j E' hj' (by omega) (fun hI=>hI.h2 s (Eff.cg_some.1 h2) (Eff.cg_some.1 h1)) (fun hI=>hI.h2 s (Eff.cg_some.1 h1) (Eff.cg_some.1 h2));rw [this,zbg (by omega)]
  have hh':E.h (runC (fun i=>listed.getD i false) 0 (Es.map Eff.ch) h0)=runC (fun j=>(listed.setIfInBounds i true).getD j false) 0 (Es.map Eff.ch) h0:=by
   rw [<-Eff.ch_run];refine xv2 (D':=fun j=>(listed.setIfInBounds i true).getD j false) (i:=i) (by rw [zbs,hEi];rfl) hD' hi' (fun j C' hj hij s h1 h2=> ?_) _;rw [zbs] at hj;cases hj':Es[j]? with
   | none=>rw [hj'] at hj;cases hj
   | some E'=>
    rw [hj'] at hj;cases hj;have:=hahead j E' hj' (by omega) (fun hI=>hI.h5 s (Eff.ch_some.1 h2) (Eff.ch_some.1 h1)) (fun hI=>hI.h5 s (Eff.ch_some.1 h1) (Eff.ch_some.1 h2));rw [this,zbg (by omega)]
  have ha':E.al (runC (fun i=>listed.getD i false) 0 (Es.map Eff.ca) al0)=runC (fun j=>(listed.setIfInBounds i true).getD j false) 0 (Es.map Eff.ca) al0:=by
   rw [<-Eff.ca_run];refine xv2 (D':=fun j=>(listed.setIfInBounds i true).getD j false) (i:=i) (by rw [zbs,hEi];rfl) hD' hi' (fun j C' hj hij s h1 h2=> ?_) _;rw [zbs] at hj;cases hj':Es[j]? with
   | none=>rw [hj'] at hj;cases hj
   | some E'=>
    rw [hj'] at hj;cases hj;exfalso;exact (xo1 hnk).2 i j _ _ hij (hsm i E hEi) (hsm j E' hj') s (Eff.ca_mem h1) (Eff.ca_mem h2)
  have hcl':Closed ops (fun j=>(listed.setIfInBounds i true).getD j false):=by
   intro j o' hj hDj e he hb;by_cases hji:j=i
   ·subst hji;rw [ho'] at hj;cases hj;exact getD_set_true (hedge e (by simpa using he) hb)
   ·simp only [hD' j hji] at hDj;exact getD_set_true (hcl j o' hj hDj e he hb)
  have hleft':left (fun j=>(listed.setIfInBounds i true).getD j false) ops.length<=fuel:=by
   have:=yw7 (D:=fun j=>listed.getD j false) (D':=fun j=>(listed.setIfInBounds i true).getD j false) (i:=i) hD' hi' hDi ops.length hlt;omega
  have hdo:=hD i o E ho' hEi _ _ _ a w hpD hs;have hgo': ∀a' w',St c (E.g (runC (fun i=>listed.getD i false) 0 (Es.map Eff.cg) g0)) (E.h (runC (fun i=>listed.getD i false) 0 (Es.map Eff.ch) h0)) (E.al (runC (fun i=>listed.getD i false) 0 (Es.map Eff.ca) al0)) a' w'->
    wpAnyIn (fc c.ro) 0 P .any ops.toArray Q fuel (listed.setIfInBounds i true) a' w':=fun a' w' hs'=>by
   rw [hg',hh',ha'] at hs';exact ih _ a' w' (by simp [hsz]) hcl' hleft' hs'
  unfold wpOpIn;rw [ho];simp only;split
  ·rename_i hw;rw [if_pos hw] at hdo;exact Oper.wpIn_mono hgo' (zg7 hdo)
  ·rename_i hw;rw [if_neg hw] at hdo;exact ⟨fun _ _=>trivial,hgo' _ _ hdo⟩
end
abbrev Names:=Nat->Bool
def RSeq (P:Program) (c:Base) (A:Array Oper) (K:List Sm->Slots->Keys->Names->Prop):List Oper->List Sm->Slots->Keys->Names->Prop
 | [],sms,g,h,al=>K sms g h al
 | o::r,sms,g,h,al=> ∃E:Eff,DoesR P c A o E/\E.PreL g h al/\RSeq P c A K r (sms++[E.sm]) (E.g g) (E.h h) (E.al al)
def wk (c:Base) (e:Exit) (Q:Exit->Act->World->Prop) (g:Slots) (h:Keys) (al:Names):Prop:= ∀a w,St c g h al a w->Q e a w
def wc (P:Program) (c:Base) (x:Code) (Q:Exit->Act->World->Prop) (g:Slots) (h:Keys) (al:Names):Prop:= ∀a w,St c g h al a w->x.wpIn (fc c.ro) 0 P Q a w
def chk (ops:List Oper) (sms:List Sm) (N:Nat):Bool:=goAll (masks ops #[]) [] sms && dOk N sms && nkOk sms [] && edgesOk 0 ops
def runT {β:Type}:List (Chg β)->(Nat->β)->Nat->β
 | [],f=>f
 | C::r,f=>runT r (C.run f)
theorem xw6 {β:Type}: ∀(l m:List (Chg β)) (f:Nat->β),runT (l++m) f=runT m (runT l f)
 | [],_,_=>rfl
 | C::r,m,f=>by simp only [List.cons_append,runT];exact xw6 r m _
theorem xo0 {β:Type}: ∀(l:List (Chg β)) (i:Nat) (f:Nat->β),runC (fun _=>true) i l f=runT l f
 | [],_,_=>rfl
 | C::r,i,f=>by simp only [runC,runT,zev];exact xo0 r _ _
theorem xs4 {β:Type}: ∀(l:List (Chg β)) (k i:Nat) (f:Nat->β),runC (fun j=>decide (j < k)) i l f=runT (l.take (k - i)) f
 | [],k,i,f=>by simp [runC,runT]
 | C::r,k,i,f=>by
  simp only [runC];by_cases h:i < k
  ·rw [zbf h,show k - i=(k - (i+1))+1 from by omega,List.take_succ_cons,runT,zev];exact xs4 r k (i+1) _
  ·rw [zbg h,show k - i=0 from by omega,zej,runT,zdy];rw [xs4 r k (i+1),show k - (i+1)=0 from by omega,zej,runT]
theorem RSeq.split {P:Program} {c:Base} {A:Array Oper} {K:List Sm->Slots->Keys->Names->Prop} {g0:Slots} {h0:Keys} {al0:Names}: ∀(rest:List Oper) (done:List Eff),
  RSeq P c A K rest (done.map Eff.sm) (runT (done.map Eff.cg) g0) (runT (done.map Eff.ch) h0) (runT (done.map Eff.ca) al0)->
  ∃Es:List Eff,Es.length=rest.length/\(∀(i:Nat) (o:Oper) (E:Eff),rest[i]? =some o->Es[i]? =some E->DoesR P c A o E/\
   E.PreL (runT ((done++Es.take i).map Eff.cg) g0) (runT ((done++Es.take i).map Eff.ch) h0) (runT ((done++Es.take i).map Eff.ca) al0))/\
   K ((done++Es).map Eff.sm) (runT ((done++Es).map Eff.cg) g0) (runT ((done++Es).map Eff.ch) h0) (runT ((done++Es).map Eff.ca) al0)
 | [],done,h=>⟨[],rfl,fun i o E hi=>by simp at hi,by simpa [RSeq] using h⟩
 | o::r,done,h=>by
  obtain ⟨E,h1,h2,h3⟩:=h;have e1:done.map Eff.sm++[E.sm]=(done++[E]).map Eff.sm:=by simp
  have e2:E.g (runT (done.map Eff.cg) g0)=runT ((done++[E]).map Eff.cg) g0:=by rw [zez,xw6,<-Eff.cg_run];rfl
  have e3:E.h (runT (done.map Eff.ch) h0)=runT ((done++[E]).map Eff.ch) h0:=by rw [zez,xw6,<-Eff.ch_run];rfl
  have e4:E.al (runT (done.map Eff.ca) al0)=runT ((done++[E]).map Eff.ca) al0:=by rw [zez,xw6,<-Eff.ca_run];rfl
  rw [e1,e2,e3,e4] at h3;obtain ⟨Es,h4,h5,h6⟩:=RSeq.split r (done++[E]) h3;refine ⟨E::Es,by simp [h4],fun i o' E' hi hE=> ?_,by simpa using h6⟩;cases i with
  | zero=>
   simp only [zcp,zck] at hi hE;subst hi;subst hE;exact ⟨h1,by simpa using h2⟩
  | succ i=>
   have:=h5 i o' E' hi hE;simpa using this
section
variable {P:Program} {c:Base} {Q:Exit->Act->World->Prop} {g:Slots} {h:Keys} {al:Names}
theorem za0 (hm:P.follows .mixedOrders=true) {id:Nat} {ops:List Oper}
  (H:RSeq P c ops.toArray (fun sms g h al=>chk ops sms c.N=true/\wk c .normal Q g h al) ops [] g h al):wc P c (.region id ops.toArray true) Q g h al:=by
 intro a w hs;obtain ⟨Es,h1,h2,h3,h4⟩:=RSeq.split (g0:=g) (h0:=h) (al0:=al) ops [] H;simp only [chk,zbv,List.nil_append] at h3;refine wpIn_region_any hm ?_;have hsz:(Array.replicate ops.toArray.size false).size=ops.length:=by simp
 have hfalse:(fun i=>(Array.replicate ops.toArray.size false).getD i false)=fun _=>false:=by
  funext i;rw [zbk,Array.getElem?_replicate];split <;> rfl
 have h0: ∀{β:Type} (l:List (Chg β)) (i:Nat) (f:Nat->β),runC (fun _=>false) i l f=f:=by
  intro β l
  induction l with
  | nil=>intro i f;rfl
  | cons C l ih=>intro i f;simp only [runC,zdy];exact ih _ _
 refine je3 (g0:=g) (h0:=h) (al0:=al) h1.symm (fun i o E ho hE=>(h2 i o E ho hE).1) (fun i E hE=> ?_) h3.1.1.1 h3.1.1.2 h3.1.2 h3.2 (fun a w hs=> ?_) _ _ a _ hsz ?_ ?_ ?_
 ·have hi:i < ops.length:=by have:=(zbo.1 hE).1;omega
  have:=(h2 i ops[i] E (zbi hi) hE).2;rw [xs4,xs4,xs4];simpa [List.map_take] using this
 ·rw [xo0,xo0,xo0] at hs;exact h4 a w (by simpa using hs)
 ·rw [hfalse];intro i o _ hD;cases hD
 ·rw [hfalse];have: ∀n,left (fun _=>false) n=n:=by
   intro n
   induction n with
   | zero=>rfl
   | succ n ih=>simp only [left,ih];rfl
  rw [this];simp
 ·rw [hfalse,h0,h0,h0];obtain ⟨η,s⟩:=hs;exact ⟨η,s.ext (Ext.drew w)⟩
theorem RSeq.list {A:Array Oper} {rest':List Oper}: ∀(rest:List Oper) (sms:List Sm) (g:Slots) (h:Keys) (al:Names),
  RSeq P c A (fun sms g h al=>dOk c.N sms=true/\ ∀a w,St c g h al a w->wpListIn (fc c.ro) 0 P A Q rest' a w) rest sms g h al-> ∀a w,St c g h al a w->wpListIn (fc c.ro) 0 P A Q (rest++rest') a w
 | [],sms,g,h,al,H,a,w,hs=>H.2 a w hs
 | o::r,sms,g,h,al,H,a,w,hs=>by
  obtain ⟨E,h1,h2,h3⟩:=H;have hall: ∀(rest:List Oper) (sms:List Sm) (g:Slots) (h:Keys) (al:Names),RSeq P c A (fun sms g h al=>dOk c.N sms=true/\ ∀a w,St c g h al a w->wpListIn (fc c.ro) 0 P A Q rest' a w) rest sms g h al-> ∀s∈sms,∀d,s.d=some d->d < c.N:=by
   intro rest
   induction rest with
   | nil=>
    intro sms g h al H s hs d hd;obtain ⟨i,hi⟩:=zeb hs;exact yj6 H.1 i s hi d hd
   | cons o r ih=>
    intro sms g h al H s hs;obtain ⟨E,_,_,h3⟩:=H;exact ih _ _ _ _ h3 s (by simp [hs])
  have hp:E.Pre c g h al:=⟨h2.rd,h2.kr,h2.nk,fun x hx=>hall r _ _ _ _ h3 E.sm (by simp) x.1 (by simp [Eff.sm,hx])⟩
  have hdo:=h1 g h al a w hp hs;rw [List.cons_append];unfold wpListIn;split
  ·rename_i hw;rw [if_pos hw] at hdo;exact Oper.wpIn_mono (fun a' w' hs'=>RSeq.list r _ _ _ _ h3 a' w' hs') (zg7 hdo)
  ·rename_i hw;rw [if_neg hw] at hdo;exact ⟨fun _ _=>trivial,RSeq.list r _ _ _ _ h3 _ _ hdo⟩
theorem xe0 {id:Nat} {ops:List Oper} (H:RSeq P c ops.toArray (fun sms g h al=>dOk c.N sms=true/\wk c .normal Q g h al) ops [] g h al):wc P c (.region id ops.toArray false) Q g h al:=
 fun a w hs=>wpIn_region_lit (by
  have:=RSeq.list (rest':=[]) ops [] g h al H a w hs;simpa using this)
def wl (P:Program) (c:Base) (A:Array Oper) (Q:Exit->Act->World->Prop) (l:List Oper) (g:Slots) (h:Keys) (al:Names):Prop:= ∀a w,St c g h al a w->wpListIn (fc c.ro) 0 P A Q l a w
theorem xi3 {id:Nat} {ops:List Oper} (H:wl P c ops.toArray Q ops g h al):wc P c (.region id ops.toArray false) Q g h al:=fun a w hs=>wpIn_region_lit (H a w hs)
theorem yf4 {A:Array Oper} (pre:List Oper) {rest:List Oper} (H:RSeq P c A (fun sms g h al=>dOk c.N sms=true/\wl P c A Q rest g h al) pre [] g h al):wl P c A Q (pre++rest) g h al:=
 fun a w hs=>RSeq.list pre [] g h al H a w hs
theorem xg3 {A:Array Oper} (H:wk c .normal Q g h al):wl P c A Q [] g h al:=H
theorem zr5 {A:Array Oper} {N:Nat} {rest:List Oper} {sms:List Sm} (h1:dOk N sms=true) (h2:wl P c A Q rest g h al):RSeq P c A (fun sms g h al=>dOk N sms=true/\wl P c A Q rest g h al) [] sms g h al:=⟨h1,h2⟩
section
variable {A:Array Oper} {K:List Sm->Slots->Keys->Names->Prop} {rest:List Oper} {sms:List Sm} {o:Oper}
theorem DoesR.of {E:Eff} (hg:o.guard=none) (h:Does P c o E):DoesR P c A o E:=by
 intro g h' al a w hp hs;rw [if_pos (by simp [Region.wanted,hg])];exact h g h' al a w hp hs
theorem xc9 {N:Nat} (h1:dOk N sms=true) (h2:wk c .normal Q g h al):RSeq P c A (fun sms g h al=>dOk N sms=true/\wk c .normal Q g h al) [] sms g h al:=⟨h1,h2⟩
theorem zr0 {N:Nat} {ops:List Oper} (h1:chk ops sms N=true) (h2:wk c .normal Q g h al):RSeq P c A (fun sms g h al=>chk ops sms N=true/\wk c .normal Q g h al) [] sms g h al:=⟨h1,h2⟩
variable {dst:Option Nat} {op:Op} {ty:Nat} {pos:String} {af:Array Edge} {x y z:Operand} {e1 e2 e3:Ent}
theorem R0 {s:Nat} {e:Ent} (hd:Does P c ⟨dst,op,ty,pos,af,none⟩ ⟨[],[],some (s,some e),[],[]⟩)
  (H:RSeq P c A K rest (sms++[⟨slotsOf [],some s,[],[],[]⟩]) (upd g s (some e)) h al):RSeq P c A K (⟨dst,op,ty,pos,af,none⟩::rest) sms g h al:=
 ⟨_,.of rfl hd,⟨trivial,trivial,trivial⟩,H⟩
theorem R1 {s:Nat} {e:Ent} (hd:Does P c ⟨dst,op,ty,pos,af,none⟩ ⟨[(x,e1)],[],some (s,some e),[],[]⟩) (h1:look g x=some e1)
  (H:RSeq P c A K rest (sms++[⟨slotsOf [(x,e1)],some s,[],[],[]⟩]) (upd g s (some e)) h al):RSeq P c A K (⟨dst,op,ty,pos,af,none⟩::rest) sms g h al:=
 ⟨_,.of rfl hd,⟨⟨h1,trivial⟩,trivial,trivial⟩,H⟩
theorem R2 {s:Nat} {e:Ent} (hd:Does P c ⟨dst,op,ty,pos,af,none⟩ ⟨[(x,e1),(y,e2)],[],some (s,some e),[],[]⟩) (h1:look g x=some e1) (h2:look g y=some e2)
  (H:RSeq P c A K rest (sms++[⟨slotsOf [(x,e1),(y,e2)],some s,[],[],[]⟩]) (upd g s (some e)) h al):RSeq P c A K (⟨dst,op,ty,pos,af,none⟩::rest) sms g h al:=
 ⟨_,.of rfl hd,⟨⟨h1,h2,trivial⟩,trivial,trivial⟩,H⟩
theorem R3 {s:Nat} {e:Ent} (hd:Does P c ⟨dst,op,ty,pos,af,none⟩ ⟨[(x,e1),(y,e2),(z,e3)],[],some (s,some e),[],[]⟩) (h1:look g x=some e1) (h2:look g y=some e2) (h3:look g z=some e3)
  (H:RSeq P c A K rest (sms++[⟨slotsOf [(x,e1),(y,e2),(z,e3)],some s,[],[],[]⟩]) (upd g s (some e)) h al):RSeq P c A K (⟨dst,op,ty,pos,af,none⟩::rest) sms g h al:=
 ⟨_,.of rfl hd,⟨⟨h1,h2,h3,trivial⟩,trivial,trivial⟩,H⟩
theorem RE {E:Eff} (hd:Does P c ⟨dst,op,ty,pos,af,none⟩ E) (h1:Rd g E.rd) (h2:Kr h E.kr) (h3:Nk al E.nk)
  (H:RSeq P c A K rest (sms++[E.sm]) (E.g g) (E.h h) (E.al al)):RSeq P c A K (⟨dst,op,ty,pos,af,none⟩::rest) sms g h al:=
 ⟨_,.of rfl hd,⟨h1,h2,h3⟩,H⟩
theorem Rt {rd:List (Operand×Ent)} {d:Option (Nat×Option Ent)} {kw:List (Nat×Option HEnt)} (hd:Does P c ⟨dst,op,ty,pos,af,none⟩ ⟨rd,[],d,kw,[]⟩) (h1:Rd g rd)
 (H:RSeq P c A K rest (sms++[Eff.sm ⟨rd,[],d,kw,[]⟩]) (Eff.g ⟨rd,[],d,kw,[]⟩ g) (Eff.h ⟨rd,[],d,kw,[]⟩ h) (Eff.al ⟨rd,[],d,kw,[]⟩ al)):RSeq P c A K (⟨dst,op,ty,pos,af,none⟩::rest) sms g h al:=RE hd h1 trivial trivial H
end
theorem xd9 {x y:Code} (H:wc P c x (Exit.then (y.wpIn (fc c.ro) 0 P Q) Q) g h al):wc P c (.seq x y) Q g h al:=fun a w hs=>wpIn_seq (H a w hs)
theorem xq5 (H:wk c .normal Q g h al):wc P c .skip Q g h al:=fun a w hs=>wpIn_skip (H a w hs)
theorem xt9 (H:wk c .ret Q g h al):wc P c .ret Q g h al:=fun a w hs=>wpIn_ret (H a w hs)
theorem yf6 {id:Nat} (H:wk c (.exit id) Q g h al):wc P c (.exit id) Q g h al:=fun a w hs=>wpIn_exit (H a w hs)
theorem xi1 {id:Nat} {x:Code} (H:wc P c x (Exit.inBlock id Q) g h al):wc P c (.block id x) Q g h al:=fun a w hs=>wpIn_block (H a w hs)
theorem xb6 {y:Code} (H:wc P c y Q g h al):wk c .normal (Exit.then (y.wpIn (fc c.ro) 0 P Q) Q) g h al:=H
theorem yp9 {F:Act->World->Prop} (H: ∀a w,St c g h al a w->F a w):wk c .normal (Exit.then F Q) g h al:=H
theorem ym0 {F:Act->World->Prop} (H:wk c .ret Q g h al):wk c .ret (Exit.then F Q) g h al:=H
theorem xw9 {F:Act->World->Prop} {id:Nat} (H:wk c (.exit id) Q g h al):wk c (.exit id) (Exit.then F Q) g h al:=H
theorem xz6 {id:Nat} (H:wk c .normal Q g h al):wk c .normal (Exit.inBlock id Q) g h al:=H
theorem K_retB {id:Nat} (H:wk c .ret Q g h al):wk c .ret (Exit.inBlock id Q) g h al:=H
theorem yq0 {id:Nat} (H:wk c .normal Q g h al):wk c (.exit id) (Exit.inBlock id Q) g h al:=fun a w hs=>by
 simp only [Exit.inBlock,if_true];exact H a w hs
theorem K_exO {id id':Nat} (hne:Nat.beq id id'=false) (H:wk c (.exit id) Q g h al):wk c (.exit id) (Exit.inBlock id' Q) g h al:=fun a w hs=>by
 have: ¬id=id':=fun e=>by rw [e,Nat.beq_refl] at hne;cases hne
 simp only [Exit.inBlock,if_neg this];exact H a w hs
theorem xc7 {x:Operand} {t f:Code} {b:Bool} (hx:look g x=some (.val (tB b))) (ht:b=true->wc P c t Q g h al) (hf:b=false->wc P c f Q g h al):
  wc P c (.cond x t f) Q g h al:=fun a w hs=>by
 obtain ⟨η,s⟩:=hs;have h1:a.eval x= .bool b:=(xa2 s hx).1;exact wpIn_cond_split h1 (fun hb=>ht hb a w ⟨η,s⟩) (fun hb=>hf hb a w ⟨η,s⟩)
theorem yn3 {x:Operand} {t f:Code} {b:Bool} (hx:look g x=some (.val (tB b))) (hb:b=true) (ht:wc P c t Q g h al):wc P c (.cond x t f) Q g h al:=xc7 hx (fun _=>ht) (fun h=>by rw [hb] at h;cases h)
theorem xi8 {x:Operand} {t f:Code} {b:Bool} (hx:look g x=some (.val (tB b))) (hb:b=false) (hf:wc P c f Q g h al):wc P c (.cond x t f) Q g h al:=xc7 hx (fun h=>by rw [hb] at h;cases h) (fun _=>hf)
theorem x9 {x:Operand} {t f:Code} {p:Prop} [Decidable p] (hx:look g x=some (.val (tB (decide p)))) (ht:p->wc P c t Q g h al) (hf: ¬p->wc P c f Q g h al):
  wc P c (.cond x t f) Q g h al:=xc7 hx (fun hb=>ht (zdt hb)) (fun hb=>hf (of_decide_eq_false hb))
theorem yq7 {x:Operand} {t f:Code} {p:Prop} [Decidable p] (hx:look g x=some (.val (tB (!decide p)))) (ht: ¬p->wc P c t Q g h al) (hf:p->wc P c f Q g h al):
  wc P c (.cond x t f) Q g h al:=xc7 hx (fun hb=>ht (by simpa using hb)) (fun hb=>hf (by simpa using hb))
def Imp (e e':Ent):Prop:= ∀F w η v,e.sat F w η v->e'.sat F w η v
def ImpK (x x':HEnt):Prop:= ∀F w η k,x.sat F w η k->x'.sat F w η k
def Le (t t':Ty):Prop:= ∀F w v,t.p F w v->t'.p F w v
theorem Imp.refl {e:Ent}:Imp e e:=fun _ _ _ _ h=>h
theorem ImpK.refl {e:HEnt}:ImpK e e:=fun _ _ _ _ h=>h
abbrev zap:=@ImpK.refl
theorem Le.refl {t:Ty}:Le t t:=fun _ _ _ h=>h
abbrev zao:=@Le.refl
theorem Le.of {t t':Ty} (h:t=t'):Le t t':=h▸Le.refl
theorem Imp.of {e e':Ent} (h:e=e'):Imp e e':=h▸Imp.refl
abbrev zaw:=@Imp.of
theorem Imp.le {t t':Ty} (h:Le t t'):Imp (.val t) (.val t'):=fun F w _ v hv=>h F w v hv
theorem Le.int {k:IntKind} {m n:Int} (h:m=n):Le (tE (.int k m)) (tE (.int k n)):=h▸Le.refl
abbrev zba:=@Le.int
theorem Le.bool {m n:Bool} (h:m=n):Le (tB m) (tB n):=h▸Le.refl
abbrev zau:=@Le.bool
theorem Imp.int {k:IntKind} {m n:Int} (h:m=n):Imp (.val (tE (.int k m))) (.val (tE (.int k n))):=h▸Imp.refl
theorem ImpK.ts {T es:Nat} {agg:Bool} {ts ts':List Ent} (hl:ts'.length<=ts.length) (h: ∀(i:Nat) (e':Ent),ts'[i]? =some e'-> ∃e,ts[i]? =some e/\Imp e e'):ImpK ⟨T,es,agg,ts⟩ ⟨T,es,agg,ts'⟩:=fun F w η _ ⟨h3,h4,h5,h6,h7⟩=>
 ⟨zdc hl h3,h4,h5,h6,fun hc=>let ⟨cs,h1,h2,h8⟩:=h7 hc;⟨cs,h1,h2,fun i e' hi=>let ⟨e,he,him⟩:=h i e' hi;him F w η _ (h8 i e he)⟩⟩
theorem ImpK.one {T es:Nat} {agg:Bool} {e e':Ent} (h:Imp e e'):ImpK ⟨T,es,agg,[e]⟩ ⟨T,es,agg,[e']⟩:=
 .ts (by simp) fun i e'' hi=>by
  cases i with
  | zero=>simp only [zcp,zck] at hi;subst hi;exact ⟨e,rfl,h⟩
  | succ i=>simp at hi
def Sub (g' g:Slots):Prop:= ∀t x,g' t=some x-> ∃y,g t=some y/\Imp y x
def SubK (h' h:Keys):Prop:= ∀t x,h' t=some x-> ∃y,h t=some y/\y.T=x.T/\ImpK y x
def SupG (g:Slots) (al:Names):Prop:= ∀t x,g t=some x-> ∀k∈x.supp,al k=true
def SupH (h:Keys) (al:Names):Prop:= ∀k x,h k=some x->al k=true/\ ∀j∈x.supp,al j=true
theorem Sub.nil:Sub (fun _=>none) g:=fun t x hx=>by cases hx
abbrev zay:=@Sub.nil
theorem Sub.consI {g':Slots} {s:Nat} {e e':Ent} (h1:g s=some e) (hi:Imp e e') (h2:Sub g' g):Sub (upd g' s (some e')) g:=fun t x hx=>by
 by_cases hts:t=s
 ·subst hts;rw [x7] at hx;cases hx;exact ⟨e,h1,hi⟩
 ·rw [x3 _ _ _ hts] at hx;exact h2 t x hx
abbrev zav:=@Sub.consI
theorem Sub.cons {g':Slots} {s:Nat} {e:Ent} (h1:g s=some e) (h2:Sub g' g):Sub (upd g' s (some e)) g:= .consI h1 .refl h2
abbrev zan:=@Sub.cons
theorem Sub.int {g':Slots} {s:Nat} {k:IntKind} {m n:Int} (h1:g s=some (.val (tE (.int k m)))) (hmn:m=n) (h2:Sub g' g):Sub (upd g' s (some (.val (tE (.int k n))))) g:= .consI h1 (.int hmn) h2
theorem zae {g':Slots} {s:Nat} {k:IntKind} {m n:Int} (h1:g s=some (.val (tE (.int k m)))) (h2:Sub g' g) (hmn:m=n:=by first | omega | rfl | (dsimp only;omega)):Sub (upd g' s (some (.val (tE (.int k n))))) g:=Sub.int h1 hmn h2
theorem Sub.le {g':Slots} {s:Nat} {t t':Ty} (h1:g s=some (.val t)) (hl:Le t t') (h2:Sub g' g):Sub (upd g' s (some (.val t'))) g:= .consI h1 (.le hl) h2
theorem Sub.refl:Sub g g:=fun _ x h=>⟨x,h,.refl⟩
theorem SubK.nil:SubK (fun _=>none) h:=fun t x hx=>by cases hx
abbrev zax:=@SubK.nil
theorem SubK.consI {h':Keys} {s:Nat} {e e':HEnt} (h1:h s=some e) (hi:ImpK e e') (h2:SubK h' h) (hT:e.T=e'.T:=by rfl):SubK (upd h' s (some e')) h:=fun t x hx=>by
 by_cases hts:t=s
 ·subst hts;rw [x7] at hx;cases hx;exact ⟨e,h1,hT,hi⟩
 ·rw [x3 _ _ _ hts] at hx;exact h2 t x hx
abbrev zaq:=@SubK.consI
theorem SubK.cons {h':Keys} {s:Nat} {e:HEnt} (h1:h s=some e) (h2:SubK h' h):SubK (upd h' s (some e)) h:= .consI h1 .refl h2
theorem SubK.refl:SubK h h:=fun _ x h=>⟨x,h,rfl,.refl⟩
theorem SupG.nil:SupG (fun _=>none) al:=fun t x hx=>by cases hx
abbrev zar:=@SupG.nil
theorem SupG.val {g':Slots} {s:Nat} {t:Ty} (h2:SupG g' al):SupG (upd g' s (some (.val t))) al:=fun u x hx=>by
 by_cases hts:u=s
 ·subst hts;rw [x7] at hx;cases hx;intro k hk;cases hk
 ·rw [x3 _ _ _ hts] at hx;exact h2 u x hx
abbrev zaj:=@SupG.val
def allN (al:Names):List Nat->Bool
 | []=>true
 | k::r=>al k && allN al r
theorem yd8: ∀{l:List Nat},allN al l=true-> ∀k∈l,al k=true
 | [],_,k,hk=>by cases hk
 | x::r,h,k,hk=>by
  simp only [allN,zbv] at h;rcases zbr.1 hk with rfl | hk
  ·exact h.1
  ·exact yd8 h.2 k hk
theorem SupG.own {g':Slots} {s:Nat} {p:VP} (h1:allN al p.supp=true) (h2:SupG g' al):SupG (upd g' s (some (.own p))) al:=fun u x hx=>by
 by_cases hts:u=s
 ·subst hts;rw [x7] at hx;cases hx;exact yd8 h1
 ·rw [x3 _ _ _ hts] at hx;exact h2 u x hx
abbrev zak:=@SupG.own
theorem SupH.nil:SupH (fun _=>none) al:=fun t x hx=>by cases hx
abbrev zaz:=@SupH.nil
theorem SupH.cons {h':Keys} {s:Nat} {x:HEnt} (h0:al s=true) (h1: ∀j∈x.supp,al j=true) (h2:SupH h' al):SupH (upd h' s (some x)) al:=fun k y hy=>by
 by_cases hks:k=s
 ·subst hks;rw [x7] at hy;cases hy;exact ⟨h0,h1⟩
 ·rw [x3 _ _ _ hks] at hy;exact h2 k y hy
abbrev zam:=@SupH.cons
def nm (l:List Nat):Names:=fun j=>memN j l
structure LkOk (c:Base) (al':Names):Prop where
  ln: ∀k∈c.ln,al' k=true
  yk: ∀k,c.yk=some k->al' k=true
def lkB (ln:List Nat) (yk:Option Nat) (al':Names):Bool:=allN al' ln && (match yk with | some k=>al' k | none=>true)
theorem lkOk {al':Names} (h:lkB c.ln c.yk al'=true):LkOk c al':=by
 simp only [lkB,zbv] at h;refine ⟨yd8 h.1,fun k hk=> ?_⟩;rw [hk] at h;exact h.2
def Env.pre (η:Env) (ρ:Nat->Nat):Env:=⟨fun k=>η.b (ρ k),fun k=>η.c (ρ k),η.vo⟩
mutual
def VP.ren (ρ:Nat->Nat):VP->VP
  | .ptr k off=> .ptr (ρ k) off
  | .sl k es off len=> .sl (ρ k) es off len
  | .fn f caps=> .fn f (VP.rens ρ caps)
  | .ty u=> .ty u
  | .st ns fs=> .st ns (VP.rens ρ fs)
  | .tup fs=> .tup (VP.rens ρ fs)
def VP.rens (ρ:Nat->Nat):List VP->List VP
  | []=>[]
  | p::r=>p.ren ρ::VP.rens ρ r
end
def Ent.ren (ρ:Nat->Nat):Ent->Ent
 | .val t=> .val t
 | .own p=> .own (p.ren ρ)
def HEnt.ren (ρ:Nat->Nat) (x:HEnt):HEnt:=⟨x.T,x.es,x.agg,x.ts.map (Ent.ren ρ)⟩
mutual
theorem VP.sat_ren {F:Dom} {w:World} {η:Env} {ρ:Nat->Nat}: ∀(p:VP) (v:Value),(p.ren ρ).sat F w η v↔p.sat F w (η.pre ρ) v
  | .ptr k off,v=>by simp only [VP.ren,VP.sat,Env.pre]
  | .sl k es off len,v=>by simp only [VP.ren,VP.sat,Env.pre]
  | .fn f caps,v=>by simp only [VP.ren,VP.sat,VP.sats_ren caps]
  | .ty u,v=>by simp only [VP.ren,VP.sat]
  | .st ns fs,v=>by simp only [VP.ren,VP.sat,VP.satf_ren _ fs]
  | .tup fs,v=>by simp only [VP.ren,VP.sat,VP.sats_ren fs]
theorem VP.sats_ren {F:Dom} {w:World} {η:Env} {ρ:Nat->Nat}: ∀(ps:List VP) (vs:List Value),VP.sats F w η (VP.rens ρ ps) vs↔VP.sats F w (η.pre ρ) ps vs
  | [],[]=>by simp only [VP.rens,VP.sats]
  | p::r,v::s=>by simp only [VP.rens,VP.sats,VP.sat_ren p,VP.sats_ren r]
  | [],_::_=>by simp only [VP.rens,VP.sats]
  | _::_,[]=>by simp only [VP.rens,VP.sats]
theorem VP.satf_ren {F:Dom} {w:World} {η:Env} {ρ:Nat->Nat} (cs:Array Value): ∀(ps:List VP) (o:Nat) (ns:List (Nat×Bool)),VP.satf F w η cs o ns (VP.rens ρ ps)↔VP.satf F w (η.pre ρ) cs o ns ps
  | [],_,[]=>by simp only [VP.rens,VP.satf]
  | p::r,o,n::ns=>by simp only [VP.rens,VP.satf,VP.sat_ren p,VP.satf_ren cs r]
  | [],_,_::_=>by simp only [VP.rens,VP.satf]
  | _::_,_,[]=>by simp only [VP.rens,VP.satf]
end
theorem Ent.sat_ren {F:Dom} {w:World} {η:Env} {ρ:Nat->Nat} {e:Ent} {v:Value}:(e.ren ρ).sat F w η v↔e.sat F w (η.pre ρ) v:=by
 cases e with
 | val t=>exact Iff.rfl
 | own p=>exact VP.sat_ren p v
theorem HEnt.sat_ren {F:Dom} {w:World} {η:Env} {ρ:Nat->Nat} {k:Nat} {x:HEnt}:(x.ren ρ).sat F w η (ρ k)↔x.sat F w (η.pre ρ) k:=by
 simp only [HEnt.sat,HEnt.ren,zch,Env.pre];constructor
 ·rintro ⟨h1,h2,h3,h4,h5⟩;refine ⟨h1,h2,h3,h4,fun hc=> ?_⟩;obtain ⟨cs,h6,h7,h8⟩:=h5 hc;exact ⟨cs,h6,h7,fun i e hi=>Ent.sat_ren.1 (h8 i (e.ren ρ) (by rw [zbs,hi];rfl))⟩
 ·rintro ⟨h1,h2,h3,h4,h5⟩;refine ⟨h1,h2,h3,h4,fun hc=> ?_⟩;obtain ⟨cs,h6,h7,h8⟩:=h5 hc;refine ⟨cs,h6,h7,fun i e hi=> ?_⟩;rw [zbs] at hi;obtain ⟨e',he',rfl⟩:=zdd.1 hi;exact Ent.sat_ren.2 (h8 i e' he')
def SubR (ρ:Nat->Nat) (g' g:Slots):Prop:= ∀t x,g' t=some x-> ∃y,g t=some y/\Imp y (x.ren ρ)
def SubKR (ρ:Nat->Nat) (h' h:Keys):Prop:= ∀t x,h' t=some x-> ∃y,h (ρ t)=some y/\y.T=x.T/\ImpK y (x.ren ρ)
theorem SubR.nil {ρ:Nat->Nat}:SubR ρ (fun _=>none) g:=fun t x hx=>by cases hx
abbrev zbd:=@SubR.nil
theorem SubR.consI {ρ:Nat->Nat} {g':Slots} {s:Nat} {e e':Ent} (h1:g s=some e) (hi:Imp e (e'.ren ρ)) (h2:SubR ρ g' g):SubR ρ (upd g' s (some e')) g:=fun t x hx=>by
 by_cases hts:t=s
 ·subst hts;rw [x7] at hx;cases hx;exact ⟨e,h1,hi⟩
 ·rw [x3 _ _ _ hts] at hx;exact h2 t x hx
abbrev zbc:=@SubR.consI
theorem SubR.cons {ρ:Nat->Nat} {g':Slots} {s:Nat} {e':Ent} (h1:g s=some (e'.ren ρ)) (h2:SubR ρ g' g):SubR ρ (upd g' s (some e')) g:= .consI h1 .refl h2
abbrev zas:=@SubR.cons
theorem SubR.int {ρ:Nat->Nat} {g':Slots} {s:Nat} {k:IntKind} {m n:Int} (h1:g s=some (.val (tE (.int k m)))) (hmn:m=n) (h2:SubR ρ g' g):SubR ρ (upd g' s (some (.val (tE (.int k n))))) g:= .consI h1 (.int hmn) h2
theorem zaf {ρ:Nat->Nat} {g':Slots} {s:Nat} {k:IntKind} {m n:Int} (h1:g s=some (.val (tE (.int k m)))) (h2:SubR ρ g' g) (hmn:m=n:=by first | omega | rfl | (dsimp only;omega)):SubR ρ (upd g' s (some (.val (tE (.int k n))))) g:=SubR.int h1 hmn h2
theorem SubKR.nil {ρ:Nat->Nat}:SubKR ρ (fun _=>none) h:=fun t x hx=>by cases hx
abbrev zbe:=@SubKR.nil
theorem SubKR.consI {ρ:Nat->Nat} {h':Keys} {s:Nat} {e e':HEnt} (h1:h (ρ s)=some e) (hi:ImpK e (e'.ren ρ)) (h2:SubKR ρ h' h) (hT:e.T=e'.T:=by rfl):SubKR ρ (upd h' s (some e')) h:=fun t x hx=>by
 by_cases hts:t=s
 ·subst hts;rw [x7] at hx;cases hx;exact ⟨e,h1,hT,hi⟩
 ·rw [x3 _ _ _ hts] at hx;exact h2 t x hx
abbrev zbb:=@SubKR.consI
def injN (ρ:Nat->Nat):List Nat->Bool
 | []=>true
 | k::r=>(r.all fun j=>Nat.beq k j || !Nat.beq (ρ k) (ρ j)) && injN ρ r
theorem ym8 {a b:Nat} (h:Nat.beq a b=false):a≠b:=fun e=>by rw [e,Nat.beq_refl] at h;cases h
theorem xm4 {ρ:Nat->Nat}: ∀{l:List Nat},injN ρ l=true-> ∀j k,j∈l->k∈l->j≠k->ρ j≠ρ k
 | [],_,j,_,hj,_,_=>by cases hj
 | x::r,h,j,k,hj,hk,hne=>by
  simp only [injN,zbv,zdk,zdp,zew] at h;rcases zbr.1 hj with e1 | hj'
  ·rcases zbr.1 hk with e2 | hk'
   ·exact absurd (e1.trans e2.symm) hne
   ·rcases h.1 k hk' with h' | h'
    ·exact absurd (e1.trans (zds h')) hne
    ·rw [e1];exact ym8 h'
  ·rcases zbr.1 hk with e2 | hk'
   ·rcases h.1 j hj' with h' | h'
    ·exact absurd (e2.trans (zds h')).symm hne
    ·rw [e2];exact fun e=>ym8 h' e.symm
   ·exact xm4 h.2 j k hj' hk' hne
def fixN (ρ:Nat->Nat):List Nat->Bool
 | []=>true
 | k::r=>Nat.beq (ρ k) k && fixN ρ r
theorem zo5 {ρ:Nat->Nat}: ∀{l:List Nat},fixN ρ l=true-> ∀k∈l,ρ k=k
 | [],_,k,hk=>by cases hk
 | x::r,h,k,hk=>by
  simp only [fixN,zbv] at h;rcases zbr.1 hk with rfl | hk
  ·exact zds h.1
  ·exact zo5 h.2 k hk
theorem St.weakenR {g':Slots} {h':Keys} (l:List Nat) (ρ:Nat->Nat) {a:Act} {w:World} (hs:St c g h al a w) (hg:SubR ρ g' g) (hh:SubKR ρ h' h) (sg:SupG g' (nm l)) (sh:SupH h' (nm l)) (hlk:LkOk c (nm l))
  (hρ:injN ρ l=true) (hf:fixN ρ c.ln=true) (hy: ∀k,c.yk=some k->ρ k=k):St c g' h' (nm l) a w:=by
 obtain ⟨η,s⟩:=hs;have hmem: ∀k x,h' k=some x->k∈l:=fun k x hx=>xb2.1 (sh k x hx).1;have hown: ∀b,Own h' (η.pre ρ) b->Own h η b:=by
  rintro b ⟨k,x,hk,hc,rfl⟩;obtain ⟨y,hy,_⟩:=hh k x hk;exact ⟨ρ k,y,hy,hc,rfl⟩
 have hdom:Keep (c.dom h η) (c.dom h' (η.pre ρ)) w w:=fun b o hb hl _=>⟨⟨hb.1,fun ho=>hb.2.1 (hown b ho),hb.2.2⟩,hl⟩
 refine ⟨η.pre ρ,s.tn,s.df,fun t x hx=> ?_,fun k x hx=> ?_,fun k k' x x' hx hx' hne hc hc'=> ?_,⟨s.fr.os,s.fr.tape,s.fr.output,s.fr.size,s.fr.block,s.fr.vold,s.fr.vnew⟩,fun k hk=> ?_,s.pin,s.vol,hlk.yk,fun k x hk hx=> ?_,s.lbl⟩
 ·obtain ⟨y,hy,hi⟩:=hg t x hx;exact ⟨(s.slot t y hy).1,sg t x hx,Ent.sat_go (Ent.sat_ren.1 (hi _ _ _ _ (s.slot t y hy).2.2)) hdom fun _ _=>⟨rfl,rfl⟩⟩
 ·obtain ⟨y,hy,_,hi⟩:=hh k x hx;exact ⟨(sh k x hx).1,(sh k x hx).2,HEnt.sat_go (HEnt.sat_ren.1 (hi _ _ _ _ (s.key (ρ k) y hy).2.2.1)) (fun _=>rfl) hdom ⟨rfl,rfl⟩ (fun _ _=>⟨rfl,rfl⟩),(s.key (ρ k) y hy).2.2.2⟩
 ·obtain ⟨y,hy,_⟩:=hh k x hx;obtain ⟨y',hy',_⟩:=hh k' x' hx';exact s.inj (ρ k) (ρ k') y y' hy hy' (xm4 hρ k k' (hmem k x hx) (hmem k' x' hx') hne) hc hc'
 ·refine ⟨hlk.ln k hk,?_⟩;have e:=zo5 hf k hk;show η.b (ρ k)=_/\η.c (ρ k)=_;rw [e];exact (s.lk k hk).2
 ·obtain ⟨y,hyk,hT,_⟩:=hh k x hx;rw [hy k hk] at hyk;rw [<-hT];refine c.Jc _ _ _ _ _ _ (s.jj k y hk hyk) (Stp.refl _ _) fun b hb=> ?_;have hb':c.chg h η b:=hb.imp (hown b) id;exact ⟨s.chg_lt hb',.inl hb'⟩
theorem St'.weaken {g':Slots} {h':Keys} {al':Names} {a:Act} {w:World} {η:Env} (s:St' c g h al a w η) (hg:Sub g' g) (hh:SubK h' h) (sg:SupG g' al') (sh:SupH h' al') (hlk:LkOk c al'):
  St' c g' h' al' a w η:=by
 have hown: ∀b,Own h' η b->Own h η b:=by
  rintro b ⟨k,x,hk,hc,rfl⟩;obtain ⟨y,hy,_⟩:=hh k x hk;exact ⟨k,y,hy,hc,rfl⟩
 have hdom:Keep (c.dom h η) (c.dom h' η) w w:=fun b o hb hl _=>⟨⟨hb.1,fun ho=>hb.2.1 (hown b ho),hb.2.2⟩,hl⟩
 refine ⟨s.tn,s.df,fun t x hx=> ?_,fun k x hx=> ?_,fun k k' x x' hx hx' hne hc hc'=> ?_,s.fr,fun k hk=>⟨hlk.ln k hk,(s.lk k hk).2⟩,s.pin,s.vol,hlk.yk,fun k x hk hx=> ?_,s.lbl⟩
 ·obtain ⟨y,hy,hi⟩:=hg t x hx;exact ⟨(s.slot t y hy).1,sg t x hx,Ent.sat_go (hi _ _ _ _ (s.slot t y hy).2.2) hdom fun _ _=>⟨rfl,rfl⟩⟩
 ·obtain ⟨y,hy,_,hi⟩:=hh k x hx;exact ⟨(sh k x hx).1,(sh k x hx).2,HEnt.sat_go (hi _ _ _ _ (s.key k y hy).2.2.1) (fun _=>rfl) hdom ⟨rfl,rfl⟩ (fun _ _=>⟨rfl,rfl⟩),(s.key k y hy).2.2.2⟩
 ·obtain ⟨y,hy,_⟩:=hh k x hx;obtain ⟨y',hy',_⟩:=hh k' x' hx';exact s.inj k k' y y' hy hy' hne hc hc'
 ·obtain ⟨y,hyk,hT,_⟩:=hh k x hx;rw [<-hT];refine c.Jc _ _ _ _ _ _ (s.jj k y hk hyk) (Stp.refl _ _) fun b hb=> ?_;have hb':c.chg h η b:=hb.imp (hown b) id;exact ⟨s.chg_lt hb',.inl hb'⟩
theorem St.weaken {g':Slots} {h':Keys} {al':Names} {a:Act} {w:World} (hs:St c g h al a w) (hg:Sub g' g) (hh:SubK h' h) (sg:SupG g' al') (sh:SupH h' al') (hlk:LkOk c al'):
  St c g' h' al' a w:=let ⟨η,s⟩:=hs;⟨η,s.weaken hg hh sg sh hlk⟩
theorem zb3 {e:Exit} (l:List Nat) (ρ:Nat->Nat) {g':Slots} {h':Keys} (hg:SubR ρ g' g) (hh:SubKR ρ h' h) (sg:SupG g' (nm l)) (sh:SupH h' (nm l)) (hlk:LkOk c (nm l)) (hρ:injN ρ l=true) (hf:fixN ρ c.ln=true) (hy: ∀k,c.yk=some k->ρ k=k)
  (H:wk c e Q g' h' (nm l)):wk c e Q g h al:=fun a w hs=>H a w (hs.weakenR l ρ hg hh sg sh hlk hρ hf hy)
def Fam (c:Base) {ι:Type} (I:ι->Prop) (G:ι->Slots) (H:ι->Keys) (al:Names) (a:Act) (w:World):Prop:= ∃i,I i/\St c (G i) (H i) al a w
theorem Fam.mk {ι:Type} {I:ι->Prop} {G:ι->Slots} {H:ι->Keys} {al':Names} (i:ι) (hi:I i) (hg:Sub (G i) g) (hh:SubK (H i) h) (sg:SupG (G i) al') (sh:SupH (H i) al') (hlk:LkOk c al')
  {a:Act} {w:World} (hs:St c g h al a w):Fam c I G H al' a w:=⟨i,hi,hs.weaken hg hh sg sh hlk⟩
theorem xi4 {ι:Type} (I:ι->Prop) (G:ι->Slots) (H:ι->Keys) (al':Names) {x y:Code} (hx:wc P c x (Exit.then (Fam c I G H al') Q) g h al) (hy: ∀i,I i->wc P c y Q (G i) (H i) al'):
  wc P c (.seq x y) Q g h al:=fun a w hs=>
 wpIn_seq (Code.wpIn_mono (fun e a w hq=>by
  cases e with
  | normal=>obtain ⟨i,hi,hs'⟩:=hq;exact hy i hi a w hs'
  | _=>exact hq) (hx a w hs))
theorem xf5 {ι:Type} {I:ι->Prop} {G:ι->Slots} {H:ι->Keys} {al':Names} (i:ι) (hi:I i) (hg:Sub (G i) g) (hh:SubK (H i) h) (sg:SupG (G i) al') (sh:SupH (H i) al') (hlk:LkOk c al'):
  wk c .normal (Exit.then (Fam c I G H al') Q) g h al:=fun _ _ hs=>Fam.mk i hi hg hh sg sh hlk hs
theorem xh8 {ι:Type} (I:ι->Prop) (G:ι->Slots) (H:ι->Keys) (al':Names) (μ:ι->Nat) {x:Code} (i:ι) (hi:I i) (hg:Sub (G i) g) (hh:SubK (H i) h) (sg:SupG (G i) al') (sh:SupH (H i) al') (hlk:LkOk c al')
  (round: ∀i,I i->wc P c x (Exit.then (Fam c (fun j=>I j/\μ j < μ i) G H al') Q) (G i) (H i) al'):wc P c (.loop x) Q g h al:=by
 intro a w hs b k cs hro hb hr;have key: ∀n i,μ i=n->I i-> ∀a w,St c (G i) (H i) al' a w->
   ∃e a' w',Q e a' w'/\ArrivesIn (Machine.fenced P (fc c.ro)) P (lone (b.atR a (.code x:: .inLoop x::k)) cs w) b k cs e a' w':=by
  intro n
  induction n using Nat.strongRecOn with
  | _ n ih=>
   intro i hn hi a w hs;obtain ⟨e,a₁,w₁,hq,harr⟩:=round i hi a w hs b (.inLoop x::k) cs hro hb hr;cases e with
   | normal=>
    obtain ⟨j,⟨hj,hlt⟩,hs'⟩:=hq;obtain ⟨e₂,a₂,w₂,hq₂,harr₂⟩:=ih (μ j) (hn▸hlt) j rfl hj a₁ w₁ hs';exact ⟨e₂,a₂,w₂,hq₂,.of_steps (StepsIn.trans harr (.one (fenced_calm hb hr rfl) stepR_inLoop)) harr₂⟩
   | exit id=>exact ⟨_,a₁,w₁,hq,.pass (x:= .inLoop x) rfl (fun _ _=> .inl (by simp)) harr⟩
   | goto l=>exact ⟨_,a₁,w₁,hq,.pass (x:= .inLoop x) rfl (fun _ _=> .inl (by simp)) harr⟩
   | ret=>exact ⟨_,a₁,w₁,hq,.pass (x:= .inLoop x) rfl (fun _ _=> .inl (by simp)) harr⟩
   | panic ch=>exact ⟨_,a₁,w₁,hq,.pass (x:= .inLoop x) rfl (fun _ _=> .inl (by simp)) harr⟩
   | outgrown=>exact ⟨_,a₁,w₁,hq,.pass (x:= .inLoop x) rfl (fun _ _=> .inl (by simp)) harr⟩
 obtain ⟨e,a',w',hq,harr⟩:=key _ i rfl hi a w (hs.weaken hg hh sg sh hlk);exact ⟨e,a',w',hq,.of_steps (.one (fenced_calm hb hr rfl) stepR_loop) harr⟩
def Ct (P:Program) (f:FuncId) (ts:List Ty) (r:Ty):Prop:=
 ∀(F:Dom) (w:World) (vs:List Value),Tup.all F w ts vs->Calls P f vs.toArray w fun e w'=> ∃v,e= .returned v/\Ext w w'/\r.p (fun b=>w.heap.size<=b∨F b) w' v
def args:Nat->List Ty->Slots
 | _,[]=>fun _=>none
 | i,t::r=>upd (args (i+1) r) i (some (.val t))
theorem ye2: ∀(ts:List Ty) (i s:Nat) (e:Ent),args i ts s=some e-> ∃j t,s=i+j/\ts[j]? =some t/\e= .val t
 | [],i,s,e,h=>by cases h
 | t::r,i,s,e,h=>by
  simp only [args] at h;by_cases hs:s=i
  ·subst hs;rw [x7] at h;cases h;exact ⟨0,t,rfl,rfl,rfl⟩
  ·rw [x3 _ _ _ hs] at h;obtain ⟨j,u,h1,h2,h3⟩:=ye2 r (i+1) s e h;exact ⟨j+1,u,by omega,h2,h3⟩
def Base.plain (N:Nat) (w:World) (F:Dom):Base:=⟨N,w,F,[],⟨fun _=>0,fun _=>0,fun _=>False⟩,fun _=>False,none,[],[],fun _=>False,none,fun _=>False,fun _ _ _ _=>True,fun _ _ _ _ _ _ _ _ _=>trivial⟩
def Base.with (c:Base) (df:List Nat) (pn:List (Nat×Obj)):Base:={c with df,pn}
def PostR (P:Program) (fn:Func) (R:Value->World->Prop):Exit->Act->World->Prop:=bodyPostM (fc none) 0 P fn fun e w=> ∃v,e= .returned v/\R v w
def Post (P:Program) (w0:World) (F:Dom) (fn:Func) (r:Ty):Exit->Act->World->Prop:=PostR P fn fun v w=>Ext w0 w/\r.p (fun b=>w0.heap.size<=b∨F b) w v
theorem xh6 {f:FuncId} {fn:Func} {x:Code} {vs:Array Value} {w:World} {R:Value->World->Prop} (hf:P.funcs[f]? =some fn) (hb:fn.body=some x)
  (H:x.wpIn (fc none) 0 P (PostR P fn R) {tmps:=vs++Array.replicate (fn.ntmps - vs.size) undef,defers:=[]} w):Calls P f vs w fun e w'=> ∃v,e= .returned v/\R v w':=
 callsIn_wide.1 (callsIn_of_wp_marks (F:=fc none) (n:=0) hf hb trivial H)
theorem Ct.intro {f:FuncId} {fn:Func} {x:Code} {N:Nat} {ts:List Ty} {r:Ty} (hf:P.funcs[f]? =some fn) (hb:fn.body=some x) (hN:fn.ntmps=N) (hlb:Nat.ble ts.length N=true)
  (H: ∀w F,wc P (Base.plain N w F) x (Post P w F fn r) (args 0 ts) (fun _=>none) (fun _=>false)):Ct P f ts r:=by
 intro F w vs hvs;have hl:ts.length<=N:=zdo hlb;have hlen:vs.length=ts.length:=by
  clear H hlb hl
  induction ts generalizing vs with
  | nil=>cases vs with
   | nil=>rfl
   | cons=>exact hvs.elim
  | cons t r ih=>cases vs with
   | nil=>exact hvs.elim
   | cons v s=>simp [ih s hvs.2]
 refine xh6 hf hb (H w F _ w ⟨⟨fun _=>0,fun _=>0,fun _=>False⟩,?_⟩);refine ⟨?_,rfl,fun s e hs=> ?_,fun k x hx=>(by cases hx),fun k k' x x' hx=>(by cases hx),⟨rfl,rfl,rfl,zbq _,fun _ _ _ _=>rfl,fun _ hb=>hb,fun _ hb=>hb.elim⟩,fun x hx=>(by cases hx),fun x hx=>(by cases hx),fun b hb=>hb.elim,fun k hk=>(by cases hk),fun k x hk=>(by cases hk),fun b hb=>hb.elim⟩
 ·simp [hlen,hN,Base.plain];omega
 ·obtain ⟨j,t,h1,h2,h3⟩:=ye2 ts 0 s e hs;subst h3;have hj:j < ts.length:=(zbo.1 h2).1;obtain ⟨v,hv,hp⟩:=Tup.get ts vs j t hvs h2;refine ⟨by show s < N;omega,fun k hk=>(by cases hk),?_⟩;have e1:(vs.toArray++Array.replicate (fn.ntmps - vs.toArray.size) undef).getD s undef=v:=by
   rw [zbk,zfh,if_pos (by simp;omega)];rw [h1,zcn,zer,hv];rfl
  show t.p _ w _;simp only [e1];exact t.mono hp fun b o hb hl _=>⟨⟨.inr ⟨hb,fun hv=>hv⟩,fun ⟨k,x,hk,_⟩=>(by cases hk),fun hv=>hv,fun hv=>hv⟩,hl⟩
theorem St'.close {df:List Nat} {D:Nat} (hc:c.df=D::df) {a:Act} {w:World} {η:Env} (s:St' c g h al a w η) (hD:(D,Obj.deferred (some []))∈c.pn):
  ∀a',a'.tmps=a.tmps->a'.defers=df.map (fun D=>{target:= .collected D,args:= #[]})->St' {c with df,pn:=c.pn.filter (fun x=> !Nat.beq x.1 D)} g h al a' (w.putObj D (.deferred none)) η:=fun a' ha hd=>by
 obtain ⟨h1,h2,h3,h4,h5⟩:=s.pin _ hD;simp only at h1 h3 h4 h5;have hlt:=xa7 h1;have hoth: ∀b,b≠D->(w.putObj D (.deferred none)).heap[b]? =w.heap[b]? :=fun b hb=>World.putObj_heap_other hb;have hsz:(w.putObj D (.deferred none)).heap.size=w.heap.size:=by simp [World.putObj]
 have hno: ¬Own h η D:=s.npin hD;have hK:Keep (c.dom h η) (c.dom h η) w (w.putObj D (.deferred none)):=fun b o hb hl hd=>⟨hb,(hoth b fun e=>by
  rw [e,h1] at hl;cases hl;cases hd).trans hl⟩
 refine ⟨by rw [ha];exact s.tn,hd,fun t x hx=> ?_,fun k x hx=> ?_,s.inj,⟨s.fr.os,s.fr.tape,s.fr.output,by rw [hsz];exact s.fr.size,fun b hb hl hv=> ?_,s.fr.vold,fun b hb=>by rw [hsz];exact s.fr.vnew b hb⟩,s.lk,fun x hx=> ?_,fun b hb=>by rw [hsz];exact s.vol b hb,s.yal,fun k x hk hx=> ?_,s.lbl⟩
 ·rw [ha];exact ⟨(s.slot t x hx).1,(s.slot t x hx).2.1,Ent.sat_go (s.slot t x hx).2.2 hK fun _ _=>⟨rfl,rfl⟩⟩
 ·exact ⟨(s.key k x hx).1,(s.key k x hx).2.1,HEnt.sat_go (s.key k x hx).2.2.1 (fun hc=>hoth _ fun e=>hno ⟨k,x,hx,hc,e.symm⟩) hK ⟨rfl,rfl⟩ fun _ _=>⟨rfl,rfl⟩,(s.key k x hx).2.2.2⟩
 ·rw [hoth b (by
   rintro rfl;have hb:b < c.w0.heap.size:=hb;rcases h3 with h3 | h3
   ·omega
   ·exact hl h3)]
  exact s.fr.block b hb hl hv
 ·obtain ⟨hx1,hx2⟩:=List.mem_filter.1 hx;have hne:x.1≠D:=fun e=>by rw [e,Nat.beq_refl] at hx2;cases hx2
  obtain ⟨p1,p2⟩:=s.pin x hx1;exact ⟨(hoth _ hne).trans p1,p2⟩
 ·refine c.Jc _ _ _ _ _ _ (s.jj k x hk hx) ⟨rfl,rfl,rfl,by rw [hsz];exact zbq _,fun b _ hn=>hoth b fun e=>hn (.inr (.inr ⟨_,hD,e⟩))⟩ fun b hb=> ?_;have hb':c.chg h η b:=hb.imp id (.imp id fun ⟨x,hx,e⟩=>⟨x,(List.mem_filter.1 hx).1,e⟩);exact ⟨by rw [hsz];exact s.chg_lt hb',.inl hb'⟩
def dfB:List Nat->List (Nat×Obj)->Prop
 | [],_=>True
 | D::r,pn=>(D,Obj.deferred (some []))∈pn/\D∉r/\dfB r pn
theorem yz9 {D:Nat} {pn:List (Nat×Obj)}: ∀{l:List Nat},D∉l->dfB l pn->dfB l (pn.filter fun x=> !Nat.beq x.1 D)
 | [],_,_=>trivial
 | E::r,hD,h=>by
  simp only [zbr,not_or] at hD;refine ⟨List.mem_filter.2 ⟨h.1,?_⟩,h.2.1,yz9 hD.2 h.2.2⟩;cases hb:Nat.beq E D with
  | false=>rfl
  | true=>exact absurd (zds hb).symm hD.1
theorem za3 {fn:Func} {R:Value->World->Prop} (H: ∀(df:List Nat) (pn:List (Nat×Obj)) (a:Act) (w:World) (η:Env),St' (c.with df pn) g h al a w η-> ∃v,(results fn a.tmps).run P w= .ok v w/\R v w):
  ∀(df:List Nat) (pn:List (Nat×Obj)),dfB df pn-> ∀(a:Act) (w:World) (η:Env),St' (c.with df pn) g h al a w η->
   LeavesInM (fc none) 0 P fn a.tmps (fun e w=> ∃v,e= .returned v/\R v w) a.defers .returning w
 | [],pn,_,a,w,η,s=>by
  obtain ⟨v,h1,h2⟩:=H [] pn a w η s;rw [s.df];exact ⟨v,h1,v,rfl,h2⟩
 | D::df,pn,hd,a,w,η,s=>by
  rw [s.df];refine ⟨by simp,.inl ⟨D,_,rfl,run_takeDeferred (s.pin _ hd.1).1,?_⟩⟩;have s':=St'.close (c:=c.with (D::df) pn) (D:=D) (df:=df) rfl s hd.1 {tmps:=a.tmps,defers:=df.map (fun D=>{target:= .collected D,args:= #[]})} rfl rfl;exact za3 H df _ (yz9 hd.2.1 hd.2.2) _ _ _ s'
theorem yd7 {fn:Func} {R:Value->World->Prop} {e:Exit} (he:e= .ret∨e= .normal) (hd:dfB c.df c.pn)
  (H: ∀(df:List Nat) (pn:List (Nat×Obj)) (a:Act) (w:World) (η:Env),St' (c.with df pn) g h al a w η-> ∃v,(results fn a.tmps).run P w= .ok v w/\R v w):wk c e (PostR P fn R) g h al:=by
 intro a w ⟨η,s⟩;have:=za3 H c.df c.pn hd a w η s;rcases he with rfl | rfl <;> exact this
structure Plain (c:Base) (w0:World) (F:Dom):Prop where
  w0:c.w0=w0
  F0:c.F0=F
  lb: ∀b,¬c.lb b
  V0: ∀b,¬c.V0 b
  df:dfB c.df c.pn
theorem Plain.mk' {N:Nat} {w:World} {F:Dom}:Plain (Base.plain N w F) w F:=⟨rfl,rfl,fun _ h=>h,fun _ h=>h,trivial⟩
theorem zr3 {fn:Func} {r:Ty} {w0:World} {F:Dom} {e:Exit} (he:e= .ret∨e= .normal) (hp:Plain c w0 F)
  (H: ∀(c':Base) (a:Act) (w:World) (η:Env),c'.N=c.N->St' c' g h al a w η-> ∃v,(results fn a.tmps).run P w= .ok v w/\r.p (c'.dom h η) w v):wk c e (Post P w0 F fn r) g h al:=
 yd7 he hp.df fun df pn a w η s=>by
  obtain ⟨v,h1,h2⟩:=H (c.with df pn) a w η rfl s;have e0:(c.with df pn).w0=w0:=hp.w0;have h0: ∀b,b < w0.heap.size-> ¬η.vo b:=fun b hlt hb=>by
   rcases (s.fr.vnew b hb).2.2 with h3 | h3
   ·exact hp.V0 b h3
   ·rw [e0] at h3;omega
  refine ⟨v,h1,⟨e0▸s.fr.os,e0▸s.fr.tape,e0▸s.fr.output,e0▸s.fr.size,fun b hb=> ?_⟩,r.mono h2 fun b o hb hl _=>⟨?_,hl⟩⟩
  ·have:=s.fr.block b (by rw [e0];exact hb) (hp.lb b) (h0 b hb)
   rwa [e0] at this
  ·have:=hb.1;rw [e0] at this;exact this.imp id fun hb'=>by have:=hb'.1;show F b;rw [<-hp.F0];exact this
theorem xp4 {a:Act} {w:World} {η:Env} (s:St' c g h al a w η) {t:Nat} {u:Ty} (hx:g t=some (.val u)):u.p (c.dom h η) w (a.tmps.getD t undef):=(s.slot t _ hx).2.2
theorem zr7 {fn:Func} {r r':Ty} {t:Nat} {w0:World} {F:Dom} (hp:Plain c w0 F) (hr:fn.results= #[.tmp t]) (hx:g t=some (.val r')) (hl:Le r' r):wk c .ret (Post P w0 F fn r) g h al:=
 zr3 (.inl rfl) hp (fun _ a w _ _ s=>⟨_,results_tmp hr a.tmps P w,hl _ _ _ (xp4 s hx)⟩)
theorem E1 {N:Nat} {fn:Func} {r r':Ty} {t:Nat} {w0:World} {F:Dom} (hr:fn.results= #[.tmp t]) (hx:g t=some (.val r')) (hl:Le r' r):wk (Base.plain N w0 F) .ret (Post P w0 F fn r) g h al:=zr7 Plain.mk' hr hx hl
theorem zw7 {fn:Func} {r1 r2 r1' r2':Ty} {t u:Nat} {w0:World} {F:Dom} (hp:Plain c w0 F) (hr:fn.results= #[.tmp t,.tmp u]) (hx:g t=some (.val r1')) (hy:g u=some (.val r2')) (h1:Le r1' r1) (h2:Le r2' r2):wk c .ret (Post P w0 F fn (tT [r1,r2])) g h al:=
 zr3 (.inl rfl) hp (fun _ a w _ _ s=>⟨_,results_tmp2 hr a.tmps P w,[_,_],rfl,h1 _ _ _ (xp4 s hx),h2 _ _ _ (xp4 s hy),trivial⟩)
theorem E2 {N:Nat} {fn:Func} {r1 r2 r1' r2':Ty} {t u:Nat} {w0:World} {F:Dom} (hr:fn.results= #[.tmp t,.tmp u]) (hx:g t=some (.val r1')) (hy:g u=some (.val r2')) (h1:Le r1' r1) (h2:Le r2' r2):wk (Base.plain N w0 F) .ret (Post P w0 F fn (tT [r1,r2])) g h al:=zw7 Plain.mk' hr hx hy h1 h2
end
def aggB (P:Program) (T:TypeId):Option Bool:=match P.underlying T with
 | some (.struct _) | some (.array _ _)=>some true
 | some _=>some false
 | none=>none
class TyI (P:Program) (T:TypeId) (n:outParam Nat) (agg:outParam Bool):Prop where
  size:(P.info? T).map (·.size)=some n
  agg:aggB P T=some agg
section
variable {P:Program} {w w':World}
theorem TyI.size_run {T n:Nat} {agg:Bool} (t:TyI P T n agg) (w:World):(Go.sizeOf T:Sem Nat).run P w= .ok n w:=by
 have h:=t.size;cases hi:P.info? T with
 | none=>rw [hi] at h;cases h
 | some i=>
  rw [hi] at h;simp only [zdm,zck] at h;simp [Go.sizeOf,typeInfo,hi,h,go_sem]
theorem TyI.agg_run {T n:Nat} {agg:Bool} (t:TyI P T n agg) (w:World):(isAgg T).run P w= .ok agg w:=by
 have h:=t.agg;simp only [aggB] at h;cases hu:P.underlying T with
 | none=>rw [hu] at h;cases h
 | some d=>
  rw [hu] at h;simp only [Go.isAgg,zbu,zcj hu,zbn];cases d <;> simp at h <;> subst h <;> rfl
theorem zh4 {b o:Nat} {cs:Array Value} {T:TypeId} {fr:Nat×Nat} (hb:w.heap[b]? =some (.cells cs T fr)):w.cell? ⟨b,o,none⟩=cs[o]? :=by
 simp [World.cell?,hb]
theorem zo3 {b o:Nat} {cs:Array Value} {T:TypeId} {fr:Nat×Nat} (hb:w.heap[b]? =some (.cells cs T fr)) (ho:o < cs.size):
  (load ⟨b,o,none⟩).run P w= .ok (cs.getD o undef) w:=by
 simp [load,Sem.run,zh4 hb,ho]
theorem xq4 {b o:Nat} {cs:Array Value} {T:TypeId} {fr:Nat×Nat} (hb:w.heap[b]? =some (.cells cs T fr)):
  ∀(n i:Nat) (acc:Array Value),o+i+n<=cs.size->(loadCellsFrom ⟨b,o,none⟩ i n acc).run P w= .ok (acc++cs.extract (o+i) (o+i+n)) w
 | 0,i,acc,_=>by
  simp only [loadCellsFrom,zbx]
  congr 1
  apply Array.ext';simp [List.extract_eq_take_drop]
 | n+1,i,acc,h=>by
  have ha:(⟨b,o,none⟩:Addr).add i=⟨b,o+i,none⟩:=Addr.add_lit b o i;simp only [loadCellsFrom,zbu,ha,zo3 (P:=P) hb (show o+i < cs.size by omega),zbn];rw [xq4 hb n (i+1) _ (by omega)]
  congr 1
  apply Array.ext';simp only [Array.toList_append,Array.toList_push,Array.toList_extract,zdg,List.singleton_append]
  congr 1
  rw [show o+(i+1)=o+i+1 from by omega,show o+i+1+n=o+i+(n+1) from by omega];rw [List.extract_eq_take_drop,List.extract_eq_take_drop,show o+i+(n+1) - (o+i)=(o+i+(n+1) - (o+i+1))+1 from by omega];rw [List.drop_eq_getElem_cons (show o+i < cs.toList.length by simp;omega),List.take_succ_cons];simp [show o+i < cs.size by omega]
theorem xq6 {T n:Nat} {agg:Bool} (t:TyI P T n agg) {b o:Nat} {cs:Array Value} {E:TypeId} {fr:Nat×Nat} (hb:w.heap[b]? =some (.cells cs E fr)) (ho:o+n<=cs.size)
  (h1:agg=false->n=1):(loadVar T ⟨b,o,none⟩).run P w= .ok (pick agg n cs o) w:=by
 simp only [loadVar,zbu,t.agg_run w,zbn];cases agg with
 | true=>
  simp only [↓reduceIte,zbu,t.size_run w,zbn,loadCells,xq4 (P:=P) hb n 0 #[] (by omega),zbx,pick,zev];simp
 | false=>
  simp only [zfm,↓reduceIte,pick,zdy];exact zo3 hb (by have:=h1 rfl;omega)
def putAt (cs:Array Value) (o:Nat):List Value->Array Value
 | []=>cs
 | v::r=>putAt (cs.setIfInBounds o v) (o+1) r
theorem xc8: ∀(vs:List Value) (cs:Array Value) (o:Nat),(putAt cs o vs).size=cs.size
 | [],_,_=>rfl
 | v::r,cs,o=>by simp only [putAt];rw [xc8 r];simp
theorem xh7: ∀(vs:List Value) (cs:Array Value) (o i:Nat),i < cs.size->(putAt cs o vs)[i]? =if o<=i/\i < o+vs.length then vs[i - o]? else cs[i]?
 | [],cs,o,i,_=>by simp [putAt];omega
 | v::r,cs,o,i,hi=>by
  simp only [putAt];rw [xh7 r _ _ _ (by simpa using hi)];by_cases h1:i=o
  ·subst h1;rw [if_neg (by omega),if_pos (by simp)];simp [hi]
  ·by_cases h2:o<=i/\i < o+(v::r).length
   ·rw [if_pos (by simp only [zdb] at h2;omega),if_pos h2];rw [show i - o=(i - (o+1))+1 from by omega];simp
   ·rw [if_neg (by simp only [zdb] at h2;omega),if_neg h2];rw [zfr (by omega)]
def World.blk (w:World) (b:Nat) (o:Obj):World:={w with heap:=w.heap.setIfInBounds b o}
theorem World.blk_same {w:World} {b:Nat} {o:Obj} (h:b < w.heap.size):(World.blk w b o).heap[b]? =some o:=by simp [World.blk,h]
theorem World.blk_other {w:World} {b b':Nat} {o:Obj} (h:b'≠b):(World.blk w b o).heap[b']? =w.heap[b']? :=by
 simp [World.blk,Array.getElem?_setIfInBounds_ne (Ne.symm h)]
theorem qf2 {b o:Nat} {cs:Array Value} {T:TypeId} {v:Value} (hb:w.heap[b]? =some (.cells cs T (0,0))):w.setCell ⟨b,o,none⟩ v=World.blk w b (.cells (cs.setIfInBounds o v) T (0,0)):=by
 have hlt:=xa7 hb;simp only [World.setCell,World.blk]
 congr 1
 apply zdi;intro i;rw [Array.getElem?_modify,zee];by_cases hi:b=i
 ·subst hi;simp only [if_true,hlt,hb,zdm];simp
 ·simp [hi]
def one:Value->Bool
 | .agg _ | .tuple _=>false
 | _=>true
theorem qt8 {b o:Nat} {cs:Array Value} {T:TypeId} {v:Value} (hb:w.heap[b]? =some (.cells cs T (0,0))) (ho:o < cs.size) (hv:one v=true):
  (store ⟨b,o,none⟩ v).run P w= .ok () (World.blk w b (.cells (cs.setIfInBounds o v) T (0,0))):=by
 have hc:w.cell? ⟨b,o,none⟩=some cs[o]:=by rw [zh4 hb];simp [ho]
 have hf:w.frozen? ⟨b,o,none⟩=false:=by simp [World.frozen?,hb]
 have hs:=qf2 (o:=o) (v:=v) hb;cases v <;> first | (simp [one] at hv;done) | (simp only [store,Sem.run,hc,hf,zfm,↓reduceIte,hs])
theorem xp7 {b:Nat} {T:TypeId} {o:Nat}: ∀(vs:List Value) (cs:Array Value) (i:Nat) (w:World),w.heap[b]? =some (.cells cs T (0,0))->o+i+vs.length<=cs.size->(∀v∈vs,one v=true)->
  ∃w',(storeCells ⟨b,o,none⟩ vs i).run P w= .ok () w'/\w'.heap[b]? =some (.cells (putAt cs (o+i) vs) T (0,0))/\w'.heap.size=w.heap.size/\w'.os=w.os/\w'.tape=w.tape/\w'.output=w.output/\
   ∀b',b'≠b->w'.heap[b']? =w.heap[b']?
 | [],cs,i,w,hb,_,_=>⟨w,by simp [storeCells,go_sem],hb,rfl,rfl,rfl,rfl,fun _ _=>rfl⟩
 | v::r,cs,i,w,hb,hl,hv=>by
  have ha:(⟨b,o,none⟩:Addr).add i=⟨b,o+i,none⟩:=Addr.add_lit b o i;simp only [zdb] at hl;have h1:=qt8 (P:=P) (o:=o+i) (v:=v) hb (by omega) (hv v (by simp));obtain ⟨w',h2,h3,h4,h5,h6,h7,h8⟩:=xp7 (o:=o) r (cs.setIfInBounds (o+i) v) (i+1) (World.blk w b (.cells (cs.setIfInBounds (o+i) v) T (0,0))) (World.blk_same (xa7 hb)) (by simp;omega) (fun u hu=>hv u (by simp [hu]));refine ⟨w',?_,by rw [<-zgd] at h3;exact h3,by rw [h4];simp [World.blk],h5,h6,h7,fun b' hb'=>(h8 b' hb').trans (World.blk_other hb')⟩;simp only [storeCells,zbu,ha,h1,zbn,h2]
def Flat (n:Nat) (agg:Bool) (v:Value):Prop:=v.cells.size=n/\(∀u∈v.cells.toList,one u=true)/\(agg=true-> ∃cs,v= .agg cs)/\(agg=false->one v=true/\n=1)
theorem yk9 {n:Nat} {agg:Bool} {v:Value} (h:Flat n agg v):pick agg n v.cells 0=v:=by
 obtain ⟨h1,_,h3,h4⟩:=h;cases agg with
 | true=>
  obtain ⟨cs,rfl⟩:=h3 rfl;simp only [Value.cells] at h1;simp [pick,Value.cells,<-h1]
 | false=>
  obtain ⟨h5,_⟩:=h4 rfl;cases v <;> first | (simp [pick,Value.cells];done) | (simp [one] at h5)
theorem yd5 {T n:Nat} {agg:Bool} (t:TyI P T n agg) {b o:Nat} {cs:Array Value} {E:TypeId} {v:Value} (hb:w.heap[b]? =some (.cells cs E (0,0))) (ho:o+n<=cs.size) (hv:Flat n agg v):
  ∃w',(storeVar T ⟨b,o,none⟩ v).run P w= .ok () w'/\w'.heap[b]? =some (.cells (putAt cs o v.cells.toList) E (0,0))/\w'.heap.size=w.heap.size/\w'.os=w.os/\w'.tape=w.tape/\w'.output=w.output/\
   ∀b',b'≠b->w'.heap[b']? =w.heap[b']? :=by
 obtain ⟨w',h1,h2⟩:=xp7 (P:=P) (o:=o) v.cells.toList cs 0 w hb (by simp [hv.1];omega) hv.2.1;refine ⟨w',?_,by simpa using h2⟩;simp only [storeVar,zbu,t.size_run w,zbn,hv.1,ne_eq,not_true_eq_false,↓reduceIte];exact h1
end
class Shape (t:Ty) (n:Nat) (agg:Bool):Prop where
  flat: ∀{F:Dom} {w:World} {v:Value},t.p F w v->Flat n agg v
class ShapeE (e:Ent) (n:Nat) (agg:Bool):Prop where
  flat: ∀{F:Dom} {w:World} {η:Env} {v:Value},e.sat F w η v->Flat n agg v
theorem xd2 {v:Value} (h:one v=true):Flat 1 false v:=by
 cases v <;> first | (simp [one] at h;done) | exact ⟨rfl,by simp [Value.cells,one],(fun h=>by cases h),fun _=>⟨rfl,rfl⟩⟩
theorem xv1 {cs:Array Value} (h: ∀u∈cs.toList,one u=true):Flat cs.size true (.agg cs):=⟨rfl,h,fun _=>⟨cs,rfl⟩,fun h=>by cases h⟩
instance {k:IntKind} {m:Int}:Shape (tE (.int k m)) 1 false:=⟨fun h=>by rw [h];exact xd2 rfl⟩
instance {b:Bool}:Shape (tE (.bool b)) 1 false:=⟨fun h=>by rw [h];exact xd2 rfl⟩
instance {s:ByteArray}:Shape (tE (.string s)) 1 false:=⟨fun h=>by rw [h];exact xd2 rfl⟩
instance {a:Option Addr}:Shape (tE (.pointer a)) 1 false:=⟨fun h=>by rw [h];exact xd2 rfl⟩
instance {a:Option Addr} {n c:Nat}:Shape (tE (.slice a n c)) 1 false:=⟨fun h=>by rw [h];exact xd2 rfl⟩
instance {r:Option Nat}:Shape (tE (.map r)) 1 false:=⟨fun h=>by rw [h];exact xd2 rfl⟩
instance {f:Fn} {a b:Array Value}:Shape (tE (.func f a b)) 1 false:=⟨fun h=>by rw [h];exact xd2 rfl⟩
instance {α:Type} {es:Nat} {agg:Bool} {f:α->Ty} {xs:List α}:Shape (tL es agg f xs) 1 false:=⟨fun ⟨_,_,h,_⟩=>by rw [h];exact xd2 rfl⟩
instance {n:Nat} {agg:Bool} {t:Ty}:Shape (tP n agg t) 1 false:=⟨fun ⟨_,_,_,h,_⟩=>by rw [h];exact xd2 rfl⟩
instance {t:Ty} {n:Nat} {agg:Bool} [h:Shape t n agg]:ShapeE (.val t) n agg:=⟨fun hs=>h.flat hs⟩
instance {k o:Nat}:ShapeE (.own (.ptr k o)) 1 false:=⟨fun h=>by have h:_=_:=h;rw [h];exact xd2 rfl⟩
instance {k es o l:Nat}:ShapeE (.own (.sl k es o l)) 1 false:=⟨fun h=>by obtain ⟨_,h,_⟩:=h;rw [h];exact xd2 rfl⟩
instance {f:FuncId} {cs:List VP}:ShapeE (.own (.fn f cs)) 1 false:=⟨fun h=>by obtain ⟨_,h,_⟩:=h;rw [h];exact xd2 rfl⟩
class ShapeF (fs:List Fd):Prop where
  all: ∀f∈fs,Shape f.t f.n f.agg
instance:ShapeF []:=⟨fun f h=>by cases h⟩
instance {n:Nat} {agg:Bool} {t:Ty} {r:List Fd} [h1:Shape t n agg] [h2:ShapeF r]:ShapeF (⟨n,agg,t⟩::r):=
  ⟨fun f h => by rcases zbr.1 h with rfl | h
                 · exact h1
                 · exact h2.all f h⟩
def Fd.off:List Fd->Nat->Nat
 | [],_=>0
 | _::_,0=>0
 | f::r,i+1=>f.n+Fd.off r i
theorem Fd.off_le: ∀{fs:List Fd} {i:Nat} {f:Fd},fs[i]? =some f->Fd.off fs i+f.n<=Fd.sum fs
 | f::r,0,g,h=>by
  simp only [zcp,zck] at h;subst h;simp [Fd.off,Fd.sum]
 | f::r,i+1,g,h=>by
  have:=Fd.off_le (fs:=r) (i:=i) h;simp only [Fd.off,Fd.sum];omega
 | [],i,g,h=>by simp at h
theorem Fd.all_get {F:Dom} {w:World} {cs:Array Value}: ∀{fs:List Fd} {o i:Nat} {f:Fd},Fd.all F w cs o fs->fs[i]? =some f->
  (f.agg=false->f.n=1)/\f.t.p F w (pick f.agg f.n cs (o+Fd.off fs i))
 | f::r,o,0,g,h,hi=>by
  simp only [zcp,zck] at hi;subst hi;exact h.1
 | f::r,o,i+1,g,h,hi=>by
  have:=Fd.all_get (fs:=r) (o:=o+f.n) (i:=i) h.2 hi;simpa [Fd.off,Nat.add_assoc] using this
 | [],_,i,g,_,hi=>by simp at hi
theorem zb4 {agg:Bool} {n o:Nat} {cs:Array Value} (h:o+n<=cs.size) (h1:agg=false->n=1) (hf:Flat n agg (pick agg n cs o)): ∀j,o<=j->j < o+n-> ∃u,cs[j]? =some u/\one u=true:=by
 intro j hj hlt;have hjs:j < cs.size:=by omega
 refine ⟨cs[j],by simp [hjs],hf.2.1 _ ?_⟩;cases agg with
 | true=>
  simp only [pick,zev,Value.cells];rw [Array.mem_toList_iff,Array.mem_iff_getElem?];refine ⟨j - o,?_⟩;rw [zcq];rw [if_pos (by omega),show o+(j - o)=j from by omega];simp [hjs]
 | false=>
  have:=h1 rfl;have hjo:j=o:=by omega
  subst hjo;have h4:=(hf.2.2.2 rfl).1;simp only [pick,zdy] at h4 ⊢;have e:cs.getD j undef=cs[j]:=by simp [hjs]
  rw [e] at h4 ⊢;cases hc:cs[j] <;> rw [hc] at h4 <;> first | (simp [one] at h4;done) | simp [Value.cells]
theorem Fd.all_one {F:Dom} {w:World} {cs:Array Value}: ∀{fs:List Fd} {o:Nat},(∀f∈fs,Shape f.t f.n f.agg)->Fd.all F w cs o fs->o+Fd.sum fs<=cs.size->
  ∀j,o<=j->j < o+Fd.sum fs-> ∃u,cs[j]? =some u/\one u=true
 | [],o,_,_,_,j,hj,hlt=>by simp [Fd.sum] at hlt;omega
 | f::r,o,hs,h,hl,j,hj,hlt=>by
  simp only [Fd.sum] at hl hlt;by_cases hjn:j < o+f.n
  ·exact zb4 (by omega) h.1.1 ((hs f (by simp)).flat h.1.2) j hj hjn
  ·exact Fd.all_one (fs:=r) (o:=o+f.n) (fun g hg=>hs g (by simp [hg])) h.2 (by omega) j (by omega) (by omega)
theorem Shape.tS {fs:List Fd} (hs: ∀f∈fs,Shape f.t f.n f.agg):Shape (tS fs) (Fd.sum fs) true:=⟨fun {F w v} h=>by
 obtain ⟨cs,h1,h2,h3⟩:=h;subst h1;rw [<-h2];refine xv1 fun u hu=> ?_;obtain ⟨j,hj⟩:=zeb hu;rw [zes] at hj;have hjs:j < cs.size:=(zeu.1 hj).1;obtain ⟨u',h4,h5⟩:=Fd.all_one hs h3 (by omega) j (by omega) (by omega);rw [hj] at h4;cases h4;exact h5⟩
theorem ShS {fs:List Fd} {n:Nat} (hn:Fd.sum fs=n) [h:ShapeF fs]:Shape (tS fs) n true:=hn▸Shape.tS h.all
def At (t:Ty) (o n:Nat) (agg:Bool) (t':Ty):Prop:=
 ∀F w v,t.p F w v-> ∃cs,v= .agg cs/\o+n<=cs.size/\t'.p F w (pick agg n cs o)/\(agg=false->n=1)
theorem At.f {fs:List Fd} (i:Nat) {f:Fd} (hi:fs[i]? =some f) {o:Nat} (ho:Fd.off fs i=o):At (tS fs) o f.n f.agg f.t:=fun F w v ⟨cs,h1,h2,h3⟩=>by
 subst ho;have:=Fd.all_get h3 hi;have hle:=Fd.off_le hi;exact ⟨cs,h1,by omega,by simpa using this.2,this.1⟩
theorem xo3 {agg:Bool} {n o o1 n1:Nat} {cs:Array Value} (h:o1+n1<=cs.size) (h':o+n<=n1) (h1:agg=false->n=1):pick agg n (cs.extract o1 (o1+n1)) o=pick agg n cs (o1+o):=by
 cases agg with
 | true=>
  simp only [pick,zev,zen];rw [Array.extract_extract]
  congr 1
  ·omega
 | false=>
  have:=h1 rfl;simp only [pick,zdy];rw [zbk,zbk,zcq,if_pos (by omega)]
theorem At.t {t t1 t':Ty} {o1 n1 o2 n:Nat} {agg:Bool} (h1:At t o1 n1 true t1) (h2:At t1 o2 n agg t'):At t (o1+o2) n agg t':=fun F w v hv=>by
 obtain ⟨cs,e1,e2,e3,_⟩:=h1 F w v hv;obtain ⟨cs',f1,f2,f3,f4⟩:=h2 F w _ e3;simp only [pick,zev,zen] at f1;subst f1;have hsz:(cs.extract o1 (o1+n1)).size=n1:=by simp;omega
 rw [hsz] at f2;exact ⟨cs,e1,by omega,by rw [<-xo3 e2 f2 f4];exact f3,f4⟩
theorem xf6 {agg:Bool} {n o o':Nat} {cs:Array Value} {vs:List Value} (h:o+n<=cs.size) (h1:agg=false->n=1) (hd:o+n<=o'∨o'+vs.length<=o):pick agg n (putAt cs o' vs) o=pick agg n cs o:=by
 have hg: ∀j,o<=j->j < o+n->(putAt cs o' vs)[j]? =cs[j]? :=fun j hj hl=>by rw [xh7 _ _ _ _ (by omega),if_neg (by omega)]
 cases agg with
 | true=>
  simp only [pick,zev,zen];apply zdi;intro i;rw [zcq,zcq,xc8];split
  ·exact hg (o+i) (by omega) (by omega)
  ·rfl
 | false=>
  have:=h1 rfl;simp only [pick,zdy];rw [zbk,zbk,hg o (by omega) (by omega)]
theorem xn8 {agg:Bool} {n o:Nat} {cs:Array Value} {v:Value} (h:o+n<=cs.size) (hf:Flat n agg v):pick agg n (putAt cs o v.cells.toList) o=v:=by
 obtain ⟨h1,_,h3,h4⟩:=hf;have hg: ∀j,o<=j->j < o+n->(putAt cs o v.cells.toList)[j]? =v.cells[j - o]? :=fun j hj hl=>by
  rw [xh7 _ _ _ _ (by omega),if_pos (by simp [h1];omega)];simp
 cases agg with
 | true=>
  obtain ⟨vs,rfl⟩:=h3 rfl;simp only [Value.cells] at h1 hg ⊢;simp only [pick,zev,zen];apply zdi;intro i;rw [zcq,xc8];split
  ·rw [hg (o+i) (by omega) (by omega),show o+i - o=i from by omega]
  ·rw [zfo (by omega)]
 | false=>
  obtain ⟨h5,h6⟩:=h4 rfl;subst h6;simp only [pick,zdy];rw [zbk,hg o (by omega) (by omega),Nat.sub_self];cases v <;> first | (simp [Value.cells];done) | (simp [one] at h5)
theorem Fd.all_put {F:Dom} {w:World} {cs:Array Value} {v:Value} {t':Ty}: ∀{fs:List Fd} {o i:Nat} {f:Fd},Fd.all F w cs o fs->o+Fd.sum fs<=cs.size->fs[i]? =some f->Flat f.n f.agg v->t'.p F w v->
  Fd.all F w (putAt cs (o+Fd.off fs i) v.cells.toList) o (fs.set i ⟨f.n,f.agg,t'⟩)
 | g::r,o,0,f,h,hl,hi,hv,ht=>by
  simp only [zcp,zck] at hi;subst hi;simp only [Fd.sum] at hl;simp only [Fd.off,zeh,List.set_cons_zero];refine ⟨⟨h.1.1,by rw [xn8 (by omega) hv];exact ht⟩,?_⟩;have hlen:v.cells.toList.length=g.n:=by simpa using hv.1
  have key: ∀(l:List Fd) (o':Nat),o+g.n<=o'->o'+Fd.sum l<=cs.size->Fd.all F w cs o' l->Fd.all F w (putAt cs o v.cells.toList) o' l:=by
   intro l
   induction l with
   | nil=>intro o' _ _ _;trivial
   | cons x l ih=>
    intro o' ho' hs ha;simp only [Fd.sum] at hs;exact ⟨⟨ha.1.1,by rw [xf6 (by omega) ha.1.1 (.inr (by omega))];exact ha.1.2⟩,ih (o'+x.n) (by omega) (by omega) ha.2⟩
  exact key r (o+g.n) (zbq _) (by omega) h.2
 | g::r,o,i+1,f,h,hl,hi,hv,ht=>by
  simp only [Fd.sum] at hl;simp only [Fd.off,List.set_cons_succ];have:=Fd.all_put (fs:=r) (o:=o+g.n) (i:=i) h.2 (by omega) hi hv ht;refine ⟨⟨h.1.1,by rw [xf6 (by omega) h.1.1 (.inl (by omega))];exact h.1.2⟩,by rw [<-zgd];exact this⟩
 | [],_,i,f,_,_,hi,_,_=>by simp at hi
theorem Fd.sum_set: ∀{fs:List Fd} {i:Nat} {f:Fd} {t':Ty},fs[i]? =some f->Fd.sum (fs.set i ⟨f.n,f.agg,t'⟩)=Fd.sum fs
 | g::r,0,f,t',h=>by
  simp only [zcp,zck] at h;subst h;rfl
 | g::r,i+1,f,t',h=>by simp only [List.set_cons_succ,Fd.sum];rw [Fd.sum_set (fs:=r) (i:=i) h]
 | [],i,f,t',h=>by simp at h
def Up (t:Ty) (o n:Nat) (agg:Bool) (t' t2:Ty):Prop:=
 ∀F w cs v,t.p F w (.agg cs)->Flat n agg v->t'.p F w v->o+n<=cs.size/\t2.p F w (.agg (putAt cs o v.cells.toList))
theorem Up.f {fs:List Fd} (i:Nat) {f:Fd} {t':Ty} (hi:fs[i]? =some f) {o:Nat} (ho:Fd.off fs i=o) {fs':List Fd} (hfs:fs.set i ⟨f.n,f.agg,t'⟩=fs'):Up (tS fs) o f.n f.agg t' (tS fs'):=fun F w cs v h hv ht=>by
 obtain ⟨cs',h1,h2,h3⟩:=h;cases h1;subst hfs ho;have hle:=Fd.off_le hi;refine ⟨by omega,_,rfl,by rw [xc8,Fd.sum_set hi];exact h2,?_⟩;have:=Fd.all_put h3 (by omega) hi hv ht;simpa using this
theorem yk6 {cs:Array Value} {o1 n1 o2:Nat} {vs:List Value} (h:o1+n1<=cs.size) (h':o2+vs.length<=n1):
  putAt cs o1 (putAt (cs.extract o1 (o1+n1)) o2 vs).toList=putAt cs (o1+o2) vs:=by
 have hsz:(cs.extract o1 (o1+n1)).size=n1:=by simp;omega
 have hlen:(putAt (cs.extract o1 (o1+n1)) o2 vs).toList.length=n1:=by simp [xc8];omega
 apply zdi;intro i;by_cases hi:i < cs.size
 ·rw [xh7 _ _ _ _ hi,xh7 _ _ _ _ hi,hlen];by_cases h1:o1<=i/\i < o1+n1
  ·rw [if_pos h1,zes,xh7 _ _ _ _ (by omega)];by_cases h2:o2<=i - o1/\i - o1 < o2+vs.length
   ·rw [if_pos h2,if_pos (by omega),show i - o1 - o2=i - (o1+o2) from by omega]
   ·rw [if_neg h2,if_neg (by omega),zcq,if_pos (by omega),show o1+(i - o1)=i from by omega]
  ·rw [if_neg h1,if_neg (by omega)]
 ·rw [zfo (by rw [xc8];omega),zfo (by rw [xc8];omega)]
theorem Up.t {t t1 t1' t' t2:Ty} {o1 n1 o2 n:Nat} {agg:Bool} (ha:At t o1 n1 true t1) (h1:Up t o1 n1 true t1' t2) (h2:Up t1 o2 n agg t' t1') [hs:Shape t1' n1 true]:Up t (o1+o2) n agg t' t2:=fun F w cs v h hv ht=>by
 obtain ⟨cs',e1,e2,e3,_⟩:=ha F w _ h;cases e1;obtain ⟨f1,f2⟩:=h2 F w _ v e3 hv ht;have hsz:(cs.extract o1 (o1+n1)).size=n1:=by simp;omega
 rw [hsz] at f1;obtain ⟨_,g2⟩:=h1 F w cs _ h (hs.flat f2) f2;have g2:t2.p F w (.agg (putAt cs o1 (putAt (cs.extract o1 (o1+n1)) o2 v.cells.toList).toList)):=g2;rw [yk6 e2 (by have:=hv.1;rw [Array.length_toList];omega)] at g2;exact ⟨by omega,g2⟩
def fieldO (P:Program) (S f:Nat):Option Nat:=match P.underlying S with
 | some (.struct fs)=>match fs[f]? with
  | some fd=>match P.info? fd.type with
   | some i=>if i.size=0 then none else some fd.offset
   | none=>none
  | none=>none
 | _=>none
section
variable {P:Program} {c:Base} {d ty:Nat} {pos:String} {af:Array Edge} {gd:Option (Nat×Bool)}
theorem ys9 {S f o b p:Nat} (hf:fieldO P S f=some o) (w:World):(Instr.fieldAt S (.pointer (some ⟨b,p,none⟩)) f).run P w= .ok (.pointer (some ⟨b,p+o,none⟩)) w:=by
 simp only [fieldO] at hf;cases hu:P.underlying S with
 | none=>rw [hu] at hf;cases hf
 | some ds=>
  rw [hu] at hf;cases ds with
  | struct fs=>
   simp only at hf;cases hfd:fs[f]? with
   | none=>rw [hfd] at hf;cases hf
   | some fd=>
    rw [hfd] at hf;simp only at hf;cases hi:P.info? fd.type with
    | none=>rw [hi] at hf;cases hf
    | some i=>
     rw [hi] at hf;simp only at hf;by_cases hz:i.size=0
     ·simp [hz] at hf
     ·rw [if_neg hz] at hf;simp only [zck] at hf;subst hf;simp [Instr.fieldAt,run_underlying hu,hfd,Instr.sureAddr,fieldPlace,Go.sizeOf,typeInfo,hi,hz,Addr.add_lit,go_sem]
  | _=>cases hf
theorem d_box {T n k:Nat} {agg:Bool} {x:Operand} {e:Ent} [he:ShapeE e n agg] (_ti:TyI P T n agg) (hn:Nat.blt 0 n=true):
  Does P c ⟨some d,.box T x,ty,pos,af,gd⟩ ⟨[(x,e)],[],some (d,some (.own (.ptr k 0))),[(k,some ⟨T,n,agg,[e]⟩)],[k]⟩:=by
 intro g h al a w hp ⟨η,s⟩;obtain ⟨hx,hs⟩:=xa2 s hp.rd.1;have hfl:=he.flat hx;have hn':0 < n:=by simpa using hn
 have hnew:=s.new k hp.nk.1 ⟨T,n,agg,[e]⟩ (a.eval x).cells 1 (by simp [hfl.1]) (by simp) hn' (fun h=>(hfl.2.2.2 h).2) (by decide)
  (fun j hj=>hs j (by simpa [HEnt.supp] using hj)) (fun i e' hi=>by
   cases i with
   | zero=>
    simp only [zcp,zck] at hi;subst hi;simp only [zef];rw [yk9 hfl];exact hx
   | succ i=>simp at hi)
 refine xd0 (v:= .pointer (some ⟨w.heap.size,0,none⟩)) (w':={w with heap:=w.heap.push (.cells (a.eval x).cells T)}) (by simp [execOp,Instr.box,newVar,newRow,newObj,Sem.run,go_sem]) ?_;refine ⟨_,hnew.put (hp.d _ rfl) ?_ ?_⟩
 ·show _=_;simp [Env.set_b]
 ·intro j hj;simp only [Ent.supp,VP.supp,zbj] at hj;subst hj;simp
theorem xb8 {T n k:Nat} {agg:Bool} {z:Value} {t:Ty} (hz:(P.info? T).bind (·.zero)=some z) (ht: ∀F w,t.p F w z) [he:Shape t n agg] (hn:Nat.blt 0 n=true):
  Does P c ⟨some d,.alloc T,ty,pos,af,gd⟩ ⟨[],[],some (d,some (.own (.ptr k 0))),[(k,some ⟨T,n,agg,[.val t]⟩)],[k]⟩:=by
 intro g h al a w hp ⟨η,s⟩;have hfl:=he.flat (ht (c.dom h η) w);have hn':0 < n:=by simpa using hn
 have hnew:=s.new k hp.nk.1 ⟨T,n,agg,[.val t]⟩ z.cells 1 (by simp [hfl.1]) (by simp) hn' (fun h=>(hfl.2.2.2 h).2) (by decide)
  (fun j hj=>by simp [HEnt.supp,Ent.supp] at hj) (fun i e' hi=>by
   cases i with
   | zero=>
    simp only [zcp,zck] at hi;subst hi;simp only [zef];rw [yk9 hfl];exact ht _ _
   | succ i=>simp at hi)
 obtain ⟨i,hi,hz'⟩:=zfv.1 hz;refine xd0 (v:= .pointer (some ⟨w.heap.size,0,none⟩)) (w':={w with heap:=w.heap.push (.cells z.cells T)}) (by
  simp [execOp,Instr.alloc,zeroValue,typeInfo,hi,hz',newVar,newRow,newObj,Sem.run,go_sem]) ?_
 refine ⟨_,hnew.put (hp.d _ rfl) ?_ ?_⟩
 ·show _=_;simp [Env.set_b]
 ·intro j hj;simp only [Ent.supp,VP.supp,zbj] at hj;subst hj;simp
theorem xa5 {T T0 es k p:Nat} {agg:Bool} {x:Operand} {ts:List Ent} {e:Ent} (i:Nat) (ti:TyI P T es agg) (hi:ts[i]? =some e) (hp:i*es=p):
  Does P c ⟨some d,.load T x,ty,pos,af,gd⟩ ⟨[(x,.own (.ptr k p))],[(k,⟨T0,es,agg,ts⟩)],some (d,some e),[],[]⟩:=
 Does.value rfl fun g h al a w η hrd hkr s=>by
  subst hp;have h1:a.eval x= .pointer (some ⟨η.b k,i*es,none⟩):=(xa2 s hrd.1).1;obtain ⟨h2,h3,⟨h6,h7,h8,h9,hmem⟩,h11⟩:=s.key k _ hkr.1;have hil:i < ts.length:=(zbo.1 hi).1;have h6:ts.length<=η.c k:=h6;obtain ⟨cs,h4,h5,h10⟩:=hmem (by omega);have hle:i*es+es<=cs.size:=by
   rw [h5,<-zcw];exact zbz _ (by omega)
  refine ⟨_,w,?_,Ext.refl w,h10 i e hi,fun j hj=>h3 j (HEnt.mem_supp hi hj)⟩;simp only [execOp,h1,Instr.loadAt,Instr.sureAddr,zbu,zbx,zbn,xq6 ti h4 hle h8]
theorem xp2 {T T0 es k p n o:Nat} {agg':Bool} {x:Operand} {ts:List Ent} {t t':Ty} (i:Nat) (ti:TyI P T n agg') (hi:ts[i]? =some (.val t)) (hat:At t o n agg' t') (hp:i*es+o=p):
  Does P c ⟨some d,.load T x,ty,pos,af,gd⟩ ⟨[(x,.own (.ptr k p))],[(k,⟨T0,es,true,ts⟩)],some (d,some (.val t')),[],[]⟩:=
 Does.value rfl fun g h al a w η hrd hkr s=>by
  subst hp;have h1:a.eval x= .pointer (some ⟨η.b k,i*es+o,none⟩):=(xa2 s hrd.1).1;obtain ⟨h2,h3,⟨h6,h7,h8,h9,hmem⟩,h11⟩:=s.key k _ hkr.1;have hil:i < ts.length:=(zbo.1 hi).1;have h6:ts.length<=η.c k:=h6;obtain ⟨cs,h4,h5,h10⟩:=hmem (by omega);have hle:i*es+es<=cs.size:=by
   rw [h5,<-zcw];exact zbz _ (by omega)
  obtain ⟨cs',e1,e2,e3,e4⟩:=hat _ _ _ (h10 i _ hi);simp only [pick,zev,zen] at e1;subst e1;have hsz:(cs.extract (i*es) (i*es+es)).size=es:=by simp;omega
  have e2':o+n<=es:=by rw [<-hsz];exact e2
  have e3':t'.p (c.dom h η) w (pick agg' n cs (i*es+o)):=by rw [<-xo3 hle e2' e4];exact e3
  refine ⟨_,w,?_,Ext.refl w,e3',fun j hj=>by cases hj⟩;simp only [execOp,h1,Instr.loadAt,Instr.sureAddr,zbu,zbx,zbn,xq6 ti h4 (show i*es+o+n<=cs.size by omega) e4]
theorem List.getElem?_set_cases {α:Type} {l:List α} {i j:Nat} {a b:α} (h:(l.set i a)[j]? =some b):(j=i/\b=a/\i < l.length)∨(j≠i/\l[j]? =some b):=by
 by_cases hji:j=i
 ·subst hji;by_cases hl:j < l.length
  ·rw [List.getElem?_set_self hl] at h;cases h;exact .inl ⟨rfl,rfl,hl⟩
  ·rw [zcv (by simp;omega)] at h;cases h
 ·rw [List.getElem?_set_ne (fun h=>hji h.symm)] at h;exact .inr ⟨hji,h⟩
theorem xc1 {T T0 es k p:Nat} {agg:Bool} {x y:Operand} {ts ts':List Ent} {e:Ent} (i:Nat) [he:ShapeE e es agg] (ti:TyI P T es agg) (hi:Nat.blt i ts.length=true) (hp:i*es=p) (hts:ts.set i e=ts'):
  Does P c ⟨none,.store T x y,ty,pos,af,gd⟩ ⟨[(x,.own (.ptr k p)),(y,e)],[(k,⟨T0,es,agg,ts⟩)],none,[(k,some ⟨T0,es,agg,ts'⟩)],[]⟩:=by
 intro g h al a w hpre ⟨η,s⟩;subst hp hts;have h1:a.eval x= .pointer (some ⟨η.b k,i*es,none⟩):=(xa2 s hpre.rd.1).1;obtain ⟨hy,hys⟩:=xa2 s hpre.rd.2.1;have hfl:=he.flat hy;obtain ⟨h2,h3,⟨h6,h7,h8,h9,hmem⟩,h11⟩:=s.key k _ hpre.kr.1;have hil:i < ts.length:=by simpa using hi
 have h6:ts.length<=η.c k:=h6;have hc0:0 < η.c k:=by omega
 obtain ⟨cs,h4,h5,h10⟩:=hmem hc0;have hle:i*es+es<=cs.size:=by
  rw [h5,<-zcw];exact zbz _ (by omega)
 obtain ⟨w',r1,r2,r3,r4,r5,r6,r7⟩:=yd5 (P:=P) ti h4 hle hfl;refine ye4 (w':=w') (by simp only [execOp,h1,Instr.storeAt,Instr.sureAddr,zbu,zbx,zbn,r1]) ?_;have hlen:(a.eval y).cells.toList.length=es:=by simpa using hfl.1
 have hw:=s.write (w':=w') k hpre.kr.1 ⟨T0,es,agg,ts.set i e⟩ (putAt cs (i*es) (a.eval y).cells.toList) (by rw [xc8];exact h5) (by simpa using h6) h7 h8
  (fun j hj=>by
   simp only [HEnt.supp,zcc] at hj;obtain ⟨e',he',hj⟩:=hj;obtain ⟨j',hj'⟩:=zeb he';rcases List.getElem?_set_cases hj' with ⟨_,rfl,_⟩ | ⟨_,hj''⟩
   ·exact hys j hj
   ·exact h3 j (HEnt.mem_supp hj'' hj))
  (fun j e' hj=>by
   rcases List.getElem?_set_cases hj with ⟨rfl,rfl,_⟩ | ⟨hne,hj'⟩
   ·simp only [];rw [xn8 hle hfl];exact hy
   ·have hjl:j < ts.length:=(zbo.1 hj').1;have hjle:j*es+es<=cs.size:=by
     rw [h5,<-zcw];exact zbz _ (by omega)
    simp only [];rw [xf6 hjle h8 ?_]
    ·exact h10 j e' hj'
    ·rcases zcb j i with hlt | hge
     ·left;rw [<-zcw];exact zbz _ hlt
     ·right;rw [hlen,<-zcw];exact zbz _ (by omega))
  hc0 r2 r3 r4 r5 r6 r7 rfl
 exact ⟨η,hw.lose none undef⟩
theorem xn1 {T T0 es k p n o:Nat} {agg':Bool} {x y:Operand} {ts ts':List Ent} {t t' t2:Ty} (i:Nat) [he:Shape t' n agg'] (ti:TyI P T n agg') (hi:ts[i]? =some (.val t)) (hup:Up t o n agg' t' t2) (hp:i*es+o=p)
  (hts:ts.set i (.val t2)=ts'):
  Does P c ⟨none,.store T x y,ty,pos,af,gd⟩ ⟨[(x,.own (.ptr k p)),(y,.val t')],[(k,⟨T0,es,true,ts⟩)],none,[(k,some ⟨T0,es,true,ts'⟩)],[]⟩:=by
 intro g h al a w hpre ⟨η,s⟩;subst hp hts;have h1:a.eval x= .pointer (some ⟨η.b k,i*es+o,none⟩):=(xa2 s hpre.rd.1).1;obtain ⟨hy,_⟩:=xa2 s hpre.rd.2.1;have hfl:=he.flat hy;obtain ⟨h2,h3,⟨h6,h7,h8,h9,hmem⟩,h11⟩:=s.key k _ hpre.kr.1;have hil:i < ts.length:=(zbo.1 hi).1;have h6:ts.length<=η.c k:=h6;have hc0:0 < η.c k:=by omega
 obtain ⟨cs,h4,h5,h10⟩:=hmem hc0;have hle:i*es+es<=cs.size:=by
  rw [h5,<-zcw];exact zbz _ (by omega)
 have hsz:(cs.extract (i*es) (i*es+es)).size=es:=by simp;omega
 obtain ⟨u1,u2⟩:=hup (c.dom h η) w _ _ (h10 i _ hi) hfl hy;have u1':o+n<=es:=by rw [<-hsz];exact u1
 obtain ⟨w',r1,r2,r3,r4,r5,r6,r7⟩:=yd5 (P:=P) ti h4 (show i*es+o+n<=cs.size by omega) hfl;refine ye4 (w':=w') (by simp only [execOp,h1,Instr.storeAt,Instr.sureAddr,zbu,zbx,zbn,r1]) ?_;have hlen:(a.eval y).cells.toList.length=n:=by simpa using hfl.1
 have hnew:pick true es (putAt cs (i*es+o) (a.eval y).cells.toList) (i*es)= .agg (putAt (cs.extract (i*es) (i*es+es)) o (a.eval y).cells.toList):=by
  rw [<-yk6 hle (show o+(a.eval y).cells.toList.length<=es by omega)];have hf:Flat es true (.agg (putAt (cs.extract (i*es) (i*es+es)) o (a.eval y).cells.toList))->pick true es (putAt cs (i*es) (putAt (cs.extract (i*es) (i*es+es)) o (a.eval y).cells.toList).toList) (i*es)=_:=fun hf=>xn8 hle hf;simp only [pick,zev,zen];apply zdi;intro j;rw [zcq,xc8];by_cases hj:j < es
  ·rw [if_pos (by omega),xh7 _ _ _ _ (by omega),if_pos (by simp [xc8];omega),show i*es+j - i*es=j from by omega];simp
  ·rw [if_neg (by omega),zfo (by rw [xc8];omega)]
 have hw:=s.write (w':=w') k hpre.kr.1 ⟨T0,es,true,ts.set i (.val t2)⟩ (putAt cs (i*es+o) (a.eval y).cells.toList) (by rw [xc8];exact h5) (by simpa using h6) h7 h8
  (fun j hj=>by
   simp only [HEnt.supp,zcc] at hj;obtain ⟨e',he',hj⟩:=hj;obtain ⟨j',hj'⟩:=zeb he';rcases List.getElem?_set_cases hj' with ⟨_,rfl,_⟩ | ⟨_,hj''⟩
   ·cases hj
   ·exact h3 j (HEnt.mem_supp hj'' hj))
  (fun j e' hj=>by
   rcases List.getElem?_set_cases hj with ⟨rfl,rfl,_⟩ | ⟨hne,hj'⟩
   ·simp only [];rw [hnew];exact u2
   ·have hjl:j < ts.length:=(zbo.1 hj').1;have hjle:j*es+es<=cs.size:=by
     rw [h5,<-zcw];exact zbz _ (by omega)
    simp only [];rw [xf6 hjle h8 ?_]
    ·exact h10 j e' hj'
    ·rcases zcb j i with hlt | hge
     ·left;have:j*es+es<=i*es:=by rw [<-zcw];exact zbz _ hlt
      omega
     ·right;have:i*es+es<=j*es:=by rw [<-zcw];exact zbz _ (by omega)
      omega)
  hc0 r2 r3 r4 r5 r6 r7 rfl
 exact ⟨η,hw.lose none undef⟩
theorem xb5 {S f k p o p':Nat} {x:Operand} (hf:fieldO P S f=some o) (hp:p+o=p'):
  Does P c ⟨some d,.fieldAddr S x f,ty,pos,af,gd⟩ ⟨[(x,.own (.ptr k p))],[],some (d,some (.own (.ptr k p'))),[],[]⟩:=
 Does.value rfl fun g h al a w η hrd _ s=>by
  subst hp;obtain ⟨h1,h2⟩:=xa2 s hrd.1;have h1:a.eval x= .pointer (some ⟨η.b k,p,none⟩):=h1;exact ⟨_,w,by simp only [execOp,h1,zbu,ys9 hf w,zbn,zbx],Ext.refl w,rfl,h2⟩
theorem xf2 {T n:Nat} {agg:Bool} {x:Operand} {t:Ty} (ti:TyI P T n agg):
  Does P c ⟨some d,.load T x,ty,pos,af,gd⟩ ⟨[(x,.val (tP n agg t))],[],some (d,some (.val t)),[],[]⟩:=
 Does.value rfl fun g h al a w η hrd _ s=>by
  obtain ⟨b,o,u,h1,h2,⟨cs,T',fr,h3,h4,h5,h6,h7⟩,h8⟩:=(xa2 s hrd.1).1;have h1:a.eval x= .pointer (some ⟨b,o,none⟩):=h1;subst h7;exact ⟨_,w,by simp only [execOp,h1,Instr.loadAt,Instr.sureAddr,zbu,zbx,zbn,xq6 ti h3 h4 h6],Ext.refl w,h8,fun j hj=>by cases hj⟩
theorem xa6 {S f n o n':Nat} {agg':Bool} {x:Operand} {t t':Ty} (hf:fieldO P S f=some o) (hat:At t o n' agg' t') (hn:Nat.blt 0 n'=true):
  Does P c ⟨some d,.fieldAddr S x f,ty,pos,af,gd⟩ ⟨[(x,.val (tP n true t))],[],some (d,some (.val (tP n' agg' t'))),[],[]⟩:=
 Does.value rfl fun g h al a w η hrd _ s=>by
  obtain ⟨b,p,u,h1,h2,⟨cs,T',fr,h3,h4,h5,h6,h7⟩,h8⟩:=(xa2 s hrd.1).1;have h1:a.eval x= .pointer (some ⟨b,p,none⟩):=h1;subst h7;obtain ⟨cs',e1,e2,e3,e4⟩:=hat _ _ _ h8;simp only [pick,zev,zen] at e1;subst e1;have hsz:(cs.extract p (p+n)).size=n:=by simp;omega
  rw [hsz] at e2;refine ⟨.pointer (some ⟨b,p+o,none⟩),w,by simp only [execOp,h1,zbu,ys9 hf w,zbn,zbx],Ext.refl w,?_,fun j hj=>by cases hj⟩;exact ⟨b,p+o,_,rfl,h2,⟨cs,T',fr,h3,by omega,by simpa using hn,e4,rfl⟩,by rw [<-xo3 h4 e2 e4];exact e3⟩
class SlI (P:Program) (T:Nat) (E es:outParam Nat) (agg:outParam Bool):Prop where
  und:P.underlying T=some (.slice E)
  el:TyI P E es agg
theorem yt6 {T E es:Nat} {agg:Bool} (sl:SlI P T E es agg) {k:IntKind} {b o len cap:Nat} {i:Int} (h0:0<=i) (h1:i < len) (w:World):
  (Instr.indexAt T (.slice (some ⟨b,o,none⟩) len cap) (.int k i)).run P w= .ok (.pointer (some ⟨b,o+i.toNat*es,none⟩)) w:=by
 simp only [Instr.indexAt,asIntOf,zbu,zbx,zcj sl.und,zbn,h0,h1,and_self,↓reduceIte,sl.el.size_run w,Addr.add_lit]
theorem x5 {T E es:Nat} {agg:Bool} {x y:Operand} {k:IntKind} {α:Type} {f:α->Ty} {xs:List α} {i:Int} {u:α} (sl:SlI P T E es agg) (n:Nat) (hn:i=(n:Int)) (hu:xs[n]? =some u):
  Does P c ⟨some d,.indexAddr T x y,ty,pos,af,gd⟩ ⟨[(x,.val (tL es agg f xs)),(y,.val (tE (.int k i)))],[],some (d,some (.val (tP es agg (f u)))),[],[]⟩:=
 Does.value rfl fun g h al a w η hrd _ s=>by
  obtain ⟨A,cc,h1,h2,h3,h4⟩:=(xa2 s hrd.1).1;have h1:a.eval x= .slice A xs.length cc:=h1;have h5:a.eval y= .int k i:=(xa2 s hrd.2.1).1;have h0:0<=i:=by omega
  have hnn:i.toNat=n:=by omega
  rw [<-hnn] at hu;have hlt:i.toNat < xs.length:=(zbo.1 hu).1;rcases h4 with h4 | ⟨b,o,rfl,hF,h6⟩
  ·subst h4;simp at hlt
  ·obtain ⟨v,hm,hv⟩:=h6 i.toNat u hu;exact ⟨_,w,by simp only [execOp,h1,h5,zbu,yt6 sl h0 (show i < xs.length by omega) w,zbn,zbx],Ext.refl w,⟨b,_,v,rfl,hF,hm,hv⟩,fun j hj=>by cases hj⟩
theorem xa0 {T E es:Nat} {agg:Bool} {x y:Operand} {k:IntKind} {q off len p:Nat} {i:Int} (sl:SlI P T E es agg) (h0:0<=i) (hi:i < len) (hp:(off+i.toNat)*es=p):
  Does P c ⟨some d,.indexAddr T x y,ty,pos,af,gd⟩ ⟨[(x,.own (.sl q es off len)),(y,.val (tE (.int k i)))],[],some (d,some (.own (.ptr q p))),[],[]⟩:=
 Does.value rfl fun g h al a w η hrd _ s=>by
  subst hp;obtain ⟨h1,h2⟩:=xa2 s hrd.1;obtain ⟨A,h1,h3,h4⟩:=h1;have h1:a.eval x= .slice A len (η.c q - off):=h1;have h5:a.eval y= .int k i:=(xa2 s hrd.2.1).1;have hA:=h4 (by omega);subst hA;exact ⟨.pointer (some ⟨η.b q,off*es+i.toNat*es,none⟩),w,by simp only [execOp,h1,h5,zbu,yt6 sl h0 hi w,zbn,zbx],Ext.refl w,by show _=_;rw [zdh],h2⟩
theorem zag {T E es:Nat} {agg:Bool} {x y:Operand} {k:IntKind} {q off len p:Nat} {i:Int} (sl:SlI P T E es agg) (hp:(off+i.toNat)*es=p) (h0:0<=i:=by omega) (hi:i < len:=by omega):Does P c ⟨some d,.indexAddr T x y,ty,pos,af,gd⟩ ⟨[(x,.own (.sl q es off len)),(y,.val (tE (.int k i)))],[],some (d,some (.own (.ptr q p))),[],[]⟩:=xa0 sl h0 hi hp
theorem xd1 {f : FuncId} {fn : Func} (hf : P.funcs[f]? = some fn) (hn : (fn.name == "runtime.NumGoroutine") = false) (hb : fn.body.isNone = false) (vs : Array Value) (w : World) :
  (callFunc f vs).run P w= .ok (.enter f vs) w:=by
 have hp:(program).run P w= .ok P w:=rfl;simp only [callFunc,zbu,hp,zbn,hf,hn,hb,zfm,↓reduceIte,zbx]
theorem Tup.all_of {g:Slots} {h:Keys} {al:Nat->Bool} {a:Act} {w:World} {η:Env} (s:St' c g h al a w η): ∀(xs:List Operand) (ts:List Ty),Rd g (xs.zip (ts.map Ent.val))->xs.length=ts.length->
  Tup.all (c.dom h η) w ts (xs.map a.eval)
 | [],[],_,_=>trivial
 | x::r,t::ts,hr,hl=>⟨(xa2 s hr.1).1,Tup.all_of s r ts hr.2 (by simpa using hl)⟩
 | [],_::_,_,hl=>by simp at hl
 | _::_,[],_,hl=>by simp at hl
class FnI (P:Program) (f:FuncId):Prop where
  ex : ∃ fn, P.funcs[f]? = some fn /\ (fn.name == "runtime.NumGoroutine") = false /\ fn.body.isNone = false
theorem ze1 {ro:Option Nat} {n:Nat} {f:FuncId} {vs:Array Value} {w:World} {R:Ending->World->Prop} (h:Calls P f vs w R):CallsIn (fc ro) n P f vs w R:=by
 cases ro with
 | none=>exact callsIn_wide.2 h
 | some l=>exact (callsIn_wide.2 h:CallsIn Fence.wide n P f vs w R)
theorem xe6 {o:Oper} {ro:Option Nat} {a:Act} {w w':World} {K:Act->World->Prop} {Q:Exit->Act->World->Prop} {f:FuncId} {vs:Array Value} (hr:(execOp a.eval o).run P w= .ok (.enter f vs) w')
  (hc:Calls P f vs w' fun e w''=> ∃v,e= .returned v/\K (a.put o.dst v) w''):o.wpIn (fc ro) 0 P a w K Q:=
 ⟨fun _ _=>trivial,by
  show o.uponIn _ _ _ _ _ _ ((o.semAt ro a.eval).run P w);rw [yh4 hr (fun d h=>by cases h)];refine ⟨fun h=>(by cases h),ze1 (hc.mono fun e w'' he=> ?_)⟩;obtain ⟨v,rfl,hk⟩:=he;exact hk⟩
theorem x4 {f:FuncId} {xs:List Operand} {aT:Array TypeId} {ts:List Ty} {r:Ty} (hc:Ct P f ts r) (hf:FnI P f) (hl:xs.length=ts.length):
  Does P c ⟨some d,.call {callee:= .value (.func f),args:=xs.toArray,argTypes:=aT},ty,pos,af,gd⟩ ⟨xs.zip (ts.map Ent.val),[],some (d,some (.val r)),[],[]⟩:=by
 intro g h al a w hp ⟨η,s⟩;obtain ⟨fn,h1,h2,h3⟩:=hf;have hargs:=Tup.all_of s xs ts hp.rd hl;have hrun:(execOp a.eval ⟨some d,.call {callee:= .value (.func f),args:=xs.toArray,argTypes:=aT},ty,pos,af,gd⟩).run P w= .ok (.enter f (xs.map a.eval).toArray) w:=by
  simp only [execOp,resolve,Act.eval,Deferred.ofValue,zbu,zbx,zbn,invoke];simp only [zdu,zdj,zcs];exact xd1 h1 h2 h3 _ w
 refine xe6 hrun (zei (hc (c.dom h η) w (xs.map a.eval) hargs) ?_);rintro e w' ⟨v,rfl,hext,hr⟩;refine ⟨v,rfl,η,(s.ext hext).put (hp.d _ rfl) (e:= .val r) (r.mono hr fun b o hb hl _=>⟨?_,hl⟩) (fun k hk=>by cases hk)⟩;rcases hb with hb | hb
 ·refine ⟨.inl (zdc s.fr.size hb),fun ho=> ?_,fun hv=> ?_,fun hv=> ?_⟩
  ·have:=s.olt ho;omega
  ·have:=(s.fr.vnew b hv).1;omega
  ·have:=s.vol b hv;omega
 ·exact hb
end
theorem wr64 {x:Int} (h1: -9223372036854775808<=x) (h2:x<=9223372036854775807):IntKind.i64.wrap x=x:=by
 rw [IntKind.wrap_i64];omega
theorem zah {x:Int} (h1:-9223372036854775808<=x:=by omega) (h2:x<=9223372036854775807:=by omega):IntKind.i64.wrap x=x:=wr64 h1 h2
theorem wu64 {x:Int} (h1:0<=x) (h2:x < 18446744073709551616):IntKind.u64.wrap x=x:=by
 rw [IntKind.wrap_u64];omega
theorem wu32 {x:Int} (h1:0<=x) (h2:x < 4294967296):IntKind.u32.wrap x=x:=by
 rw [IntKind.wrap_u32];omega
theorem wu16 {x:Int} (h1:0<=x) (h2:x < 65536):IntKind.u16.wrap x=x:=by
 rw [IntKind.wrap_u16];omega
theorem wu8 {x:Int} (h1:0<=x) (h2:x < 256):IntKind.u8.wrap x=x:=by
 rw [IntKind.wrap_u8];omega
theorem mu64 {x:Int}:IntKind.u64.wrap x=x%18446744073709551616:=IntKind.wrap_u64 x
theorem mu32 {x:Int}:IntKind.u32.wrap x=x%4294967296:=IntKind.wrap_u32 x
theorem mu16 {x:Int}:IntKind.u16.wrap x=x%65536:=IntKind.wrap_u16 x
theorem gD {α:Type} {l:List α} {n:Nat} {d:α} (h:n < l.length):l[n]? =some (l.getD n d):=by
 rw [zbh,zbi h];rfl
theorem zai {α:Type} {l:List α} {n:Nat} {d:α} (h:n < l.length:=by omega):l[n]? =some (l.getD n d):=gD h
theorem gN {l:List Nat} {n:Nat} (h:n < l.length):l[n]? =some (l.getD n 0):=gD h
section
variable {P:Program} {c:Base} {Q:Exit->Act->World->Prop} {g:Slots} {h:Keys} {al:Names}
theorem xg9 {s:Nat} {α:Type} {es:Nat} {agg:Bool} {f:α->Ty} {xs:List α} {x:Code} (hx:g s=some (.val (tL es agg f xs))) (H:xs.length<=9223372036854775807->wc P c x Q g h al):wc P c x Q g h al:=fun a w hs=>by
 obtain ⟨η,st⟩:=hs;obtain ⟨A,cc,_,h2,h3,_⟩:=(st.slot s _ hx).2.2;exact H (zdc h2 h3) a w ⟨η,st⟩
end
abbrev tWs (l:List Nat):Ty:=tL 1 false (fun n:Nat=>tE (.int .u32 n)) l
abbrev tLm (l:List Nat):Ty:=tL 1 false (fun n:Nat=>tE (.int .u16 n)) l
abbrev zac:Ty:=tS [⟨1,false,(tE (.bool false))⟩,⟨1,false,(tLm [])⟩]
abbrev zad:Ty:=tS [⟨2,true,(zac)⟩,⟨2,true,(zac)⟩]
structure ElI (P:Program) (E es by_:Nat) (agg:Bool) (z:Value):Prop where
  el:TyI P E es agg
  bytes:(P.info? E).map (·.bytes)=some by_
  zero:(P.info? E).bind (·.zero)=some z
section
variable {P:Program} {c:Base} {d ty:Nat} {pos:String} {af:Array Edge} {gd:Option (Nat×Bool)}
theorem ElI.parts {E es by_:Nat} {agg:Bool} {z:Value} (h:ElI P E es by_ agg z): ∃i,P.info? E=some i/\i.size=es/\i.bytes=by_/\i.zero=some z:=by
 obtain ⟨i,h1,h2⟩:=zfv.1 h.zero;refine ⟨i,h1,?_,?_,h2⟩
 ·have:=h.el.size;rw [h1] at this;simpa using this
 ·have:=h.bytes;rw [h1] at this;simpa using this
theorem zp0 {agg:Bool} {es n i:Nat} {z:Value} (hz:Flat es agg z) (h0:0 < es) (hi:i < n):pick agg es (madeCells z.cells (n*es)) (i*es)=z:=by
 have hle:i*es+es<=n*es:=by rw [<-zcw];exact zbz _ hi
 have hsz:=hz.1;have hg: ∀j,j < es->(madeCells z.cells (n*es))[i*es+j]? =z.cells[j]? :=fun j hj=>by
  have:i*es+j < n*es:=by omega
  simp only [madeCells,Array.getElem?_map,hsz];rw [zcm (by simp;omega)];simp only [Array.getElem_range,zdm];rw [show (i*es+j)%es=j from by rw [zem,Nat.mul_add_mod];exact zep hj];rw [zfi z.cells j (by omega),zcm (by omega)]
 have hall:=yk9 hz;cases agg with
 | true=>
  obtain ⟨cs,rfl⟩:=hz.2.2.1 rfl;simp only [Value.cells] at hsz hg ⊢;simp only [pick,zev,zen];apply zdi;intro j;rw [zcq,size_madeCells];by_cases hj:j < es
  ·rw [if_pos (by omega),hg j hj]
  ·rw [if_neg (by omega),zfo (by omega)]
 | false=>
  have h4:=hz.2.2.2 rfl;have:=h4.2;subst this;simp only [pick,zdy] at hall ⊢;have:=hg 0 (by omega);rw [zbk];rw [zeh] at this;rw [this,<-zbk];exact hall
theorem xi0 {T E es by_ k:Nat} {agg:Bool} {z:Value} {t:Ty} {x y:Operand} {kl kc:IntKind} {l m:Int} (n q:Nat) (sl:P.underlying T=some (.slice E)) (el:ElI P E es by_ agg z) (ht: ∀F w,t.p F w z) [he:Shape t es agg] (h0:Nat.blt 0 es=true)
  (hl:l=(n:Int)) (hm:m=(q:Int)) (hnq:n<=q) (hb:by_*q<=281474976710656) (h63:q<=9223372036854775807) {ts:List Ent} (hts:List.replicate n (.val t)=ts):
  Does P c ⟨some d,.makeSlice T x y,ty,pos,af,gd⟩ ⟨[(x,.val (tE (.int kl l))),(y,.val (tE (.int kc m)))],[],some (d,some (.own (.sl k es 0 n))),[(k,some ⟨E,es,agg,ts⟩)],[k]⟩:=by
 intro g h al a w hp ⟨η,s⟩;subst hts hl hm;have h1:a.eval x= .int kl n:=(xa2 s hp.rd.1).1;have h2:a.eval y= .int kc q:=(xa2 s hp.rd.2.1).1;obtain ⟨i,hi,hs,hby,hz⟩:=el.parts;have hfl:=he.flat (ht (c.dom h η) w);have h0':0 < es:=by simpa using h0
 have hr:=run_make (P:=P) w T E i z sl hi hz kl kc n q (by omega) (by omega) (by rw [hby];have:=hb;omega) (by omega);simp only [Int.toNat_natCast,hs] at hr;have hnew:=s.new k hp.nk.1 ⟨E,es,agg,List.replicate n (.val t)⟩ (madeCells z.cells (q*es)) q (by rw [size_madeCells]) (by simpa using hnq) h0' (fun h=>(hfl.2.2.2 h).2) h63
  (fun j hj=>by
   simp only [HEnt.supp,zcc] at hj;obtain ⟨e,he,hj⟩:=hj;rw [(List.mem_replicate.1 he).2] at hj;cases hj)
  (fun j e hj=>by
   have hjn:j < n:=by have:=(zbo.1 hj).1;simpa using this
   simp only [List.getElem?_replicate,hjn,↓reduceIte,zck] at hj;subst hj;simp only [];rw [zp0 hfl h0' (by omega)];exact ht _ _)
 refine xd0 (v:= .slice (some ⟨w.heap.size,0,none⟩) n q) (w':={w with heap:=w.heap.push (.cells (madeCells z.cells (q*es)) E)}) (by
  simp only [execOp,h1,h2,zbu,hr,zbn,zbx];rfl) ?_
 refine ⟨_,hnew.put (hp.d _ rfl) ?_ ?_⟩
 ·exact ⟨some ⟨w.heap.size,0,none⟩,by simp [Env.set_c],by simpa [Env.set_c] using hnq,fun _=>by simp [Env.set_b]⟩
 ·intro j hj;simp only [Ent.supp,VP.supp,zbj] at hj;subst hj;simp
def cutRd (lo hi:Option Operand) (l h:Int):List (Operand×Ent):=
 (match lo with | some x=>[(x,.val (tI l))] | none=>[])++(match hi with | some x=>[(x,.val (tI h))] | none=>[])
theorem xn6 {g:Slots} {h:Keys} {al:Nat->Bool} {a:Act} {w:World} {η:Env} (s:St' c g h al a w η) {b:Bool} {len cap l u:Nat} {lo hi:Option Operand}
  (hlo:lo=none->l=0) (hhi:hi=none->u=len) (hr:Rd g (cutRd lo hi l u)) (h1:l<=u) (h2:u<=cap):
  (Instr.sliceBounds b len cap (lo.map a.eval) (hi.map a.eval) none).run P w= .ok (l,u,cap) w:=by
 have e1:=fun (k:IntKind) code=>run_sliceBound (P:=P) (w:=w) k (u:Int) cap code (by omega) (by omega);have e2:=fun (k:IntKind) code=>run_sliceBound (P:=P) (w:=w) k (l:Int) u code (by omega) (by omega);simp only [Int.toNat_natCast] at e1 e2;cases lo with
 | none=>
  have:=hlo rfl;subst this;cases hi with
  | none=>
   have:=hhi rfl;subst this;simp only [Instr.sliceBounds,zeo,zbu,zbx,zbn]
  | some x=>
   have hx:a.eval x= .int .i64 u:=(xa2 s hr.1).1;simp only [Instr.sliceBounds,zeo,zdm,hx,zbu,zbx,zbn,e1]
 | some y=>
  have hy:a.eval y= .int .i64 l:=(xa2 s hr.1).1;cases hi with
  | none=>
   have:=hhi rfl;subst this;simp only [Instr.sliceBounds,zeo,zdm,hy,zbu,zbx,zbn,e2]
  | some x=>
   have hx:a.eval x= .int .i64 u:=(xa2 s hr.2.1).1;simp only [Instr.sliceBounds,zdm,hx,hy,zbu,zbx,zbn,e1,e2]
theorem js3 {T E es k off len l u:Nat} {agg:Bool} {x:Operand} {lo hi:Option Operand} (sl:SlI P T E es agg) (hlo:lo=none->l=0) (hhi:hi=none->u=len) (h1:l<=u) (h2:u<=len) {off' len':Nat} (ho:off+l=off') (hl:u - l=len'):
  Does P c ⟨some d,.slice T x lo hi none,ty,pos,af,gd⟩ ⟨(x,.own (.sl k es off len))::cutRd lo hi l u,[],some (d,some (.own (.sl k es off' len'))),[],[]⟩:=
 Does.value rfl fun g h al a w η hrd _ s=>by
  subst ho hl;obtain ⟨hx,hs⟩:=xa2 s hrd.1;obtain ⟨A,hA,hcap,hadr⟩:=hx;have hA:a.eval x= .slice A len (η.c k - off):=hA;have hb:=xn6 (P:=P) (b:=true) (len:=len) (cap:=η.c k - off) s hlo hhi hrd.2 h1 (by omega);refine ⟨.slice (if η.c k - off=l then A else A.map (·.add (l*es))) (u - l) (η.c k - off - l),w,?_,Ext.refl w,?_,hs⟩
  ·simp only [execOp,hA,Instr.sliceAt,zbu,zcj sl.und,zbn,Instr.slice,zeo,hb,sl.el.size_run w,zbx]
  ·refine ⟨_,by rw [Nat.sub_sub],by omega,fun hlt=> ?_⟩;rw [if_neg (by omega),hadr (by omega)];simp [Addr.add_lit,Nat.add_mul]
theorem zu7 {T E es l u:Nat} {agg:Bool} {α:Type} {f:α->Ty} {xs ys:List α} {x:Operand} {lo hi:Option Operand} (sl:SlI P T E es agg) (hlo:lo=none->l=0) (hhi:hi=none->u=xs.length) (h1:l<=u) (h2:u<=xs.length) (hy:(xs.take u).drop l=ys):
  Does P c ⟨some d,.slice T x lo hi none,ty,pos,af,gd⟩ ⟨(x,.val (tL es agg f xs))::cutRd lo hi l u,[],some (d,some (.val (tL es agg f ys))),[],[]⟩:=
 Does.value rfl fun g h al a w η hrd _ s=>by
  subst hy;obtain ⟨A,cap,hA,hc1,hc2,hm⟩:=(xa2 s hrd.1).1;have hA:a.eval x= .slice A xs.length cap:=hA;have hb:=xn6 (P:=P) (b:=true) (len:=xs.length) (cap:=cap) s hlo hhi hrd.2 h1 (by omega);have hlen:((xs.take u).drop l).length=u - l:=by simp;omega
  refine ⟨.slice (if cap=l then A else A.map (·.add (l*es))) (u - l) (cap - l),w,?_,Ext.refl w,?_,fun j hj=>by cases hj⟩
  ·simp only [execOp,hA,Instr.sliceAt,zbu,zcj sl.und,zbn,Instr.slice,zeo,hb,sl.el.size_run w,zbx]
  ·refine ⟨_,cap - l,by rw [hlen],by omega,by omega,?_⟩;by_cases hul:u=l
   ·left;apply zda;omega
   ·rcases hm with hm | ⟨b,o,hAb,hF,hx⟩
    ·subst hm;simp at h2;omega
    ·refine .inr ⟨b,o+l*es,?_,hF,fun i v hi=> ?_⟩
     ·rw [if_neg (by omega),hAb];simp [Addr.add_lit]
     ·have hi':xs[l+i]? =some v:=by
       rw [List.getElem?_drop,List.getElem?_take] at hi;split at hi
       ·exact hi
       ·cases hi
      obtain ⟨uu,h3,h4⟩:=hx (l+i) v hi';exact ⟨uu,by rw [zgd,<-zdh];exact h3,h4⟩
end
section
variable {P:Program} {c:Base} {d ty:Nat} {pos:String} {af:Array Edge} {gd:Option (Nat×Bool)}
theorem xr0 (w:World) (es k cap:Nat) (A:Option Addr):(Builtin.firstCells es 0 (.slice A k cap)).run P w= .ok #[] w:=by
 cases A <;> simp [Builtin.firstCells,loadCells,loadCellsFrom,go_sem]
theorem xr1 {w:World} {es n k cap b o:Nat} {cs:Array Value} {T:TypeId} {fr:Nat×Nat} (hb:w.heap[b]? =some (.cells cs T fr)) (hl:o+n*es<=cs.size):
  (Builtin.firstCells es n (.slice (some ⟨b,o,none⟩) k cap)).run P w= .ok (cs.extract o (o+n*es)) w:=by
 have:=xq4 (P:=P) hb (n*es) 0 #[] (by omega);simp only [Builtin.firstCells,loadCells,this];simp
theorem xz2 {t ty E es by_ n cap m c2:Nat} {i:TypeInfo} {z:Value} {A A2:Option Addr} {w:World} (ht:P.underlying t=some (.slice E)) (hi:P.info? E=some i) (hs:i.size=es) (hby:i.bytes=by_) (hz:i.zero=some z) (hzs:z.cells.size=es) (h0:0 < es)
  (hn:n<=cap) (cs:Array Value) {b:Nat} (hrow:0 < cap->A=some ⟨b,0,none⟩/\w.heap[b]? =some (.cells cs E (0,0))/\cs.size=cap*es)
  (news:Array Value) (hnews:news.size=m*es) (hsrc: ∀w':World,w'.heap=w.heap->(Builtin.firstCells es m (.slice A2 m c2)).run P w'= .ok news w') (hone: ∀v∈news.toList,one v=true)
  (h63:n+m<=9223372036854775807) (hbytes:(n+m)*by_<=140737488355328):
  (n+m<=cap/\ ∃w',(Builtin.append_ #[t,t] ty #[.slice A n cap,.slice A2 m c2]).run P w= .ok (.slice A (n+m) cap) w'/\
   (0 < cap->w'.heap[b]? =some (.cells (putAt cs (n*es) news.toList) E (0,0))/\w'.heap.size=w.heap.size/\w'.os=w.os/\w'.tape=w.tape/\w'.output=w.output/\ ∀b',b'≠b->w'.heap[b']? =w.heap[b']?)/\(cap=0->w'=w))∨
  (cap < n+m/\ ∃w' cap' rest,(Builtin.append_ #[t,t] ty #[.slice A n cap,.slice A2 m c2]).run P w= .ok (.slice (some ⟨w.heap.size,0,none⟩) (n+m) cap') w'/\n+m<=cap'/\cap'<=9223372036854775807/\
   rest.size=(cap' - (n+m))*es/\w'.heap=w.heap.push (.cells (cs.extract 0 (n*es)++news++rest) E (0,0))/\w'.os=w.os/\w'.tape=w.tape/\w'.output=w.output/\(cs.extract 0 (n*es)).size=n*es):=by
 subst hs hby;by_cases hfit:n+m<=cap
 ·left;refine ⟨hfit,?_⟩;rcases zco cap with hc | hc
  ·subst hc;have hm:m=0:=by omega
   have hn0:n=0:=by omega
   subst hm hn0;have hnil:news= #[]:=Array.eq_empty_of_size_eq_zero (by rw [hnews];simp);refine ⟨w,?_,fun h=>by omega,fun _=>rfl⟩;subst hnil;cases A with
   | none=>simp [Builtin.append_,run_underlying ht,Go.sizeOf,typeInfo,hi,Builtin.lenOf,hsrc w rfl]
   | some a=>simp [Builtin.append_,run_underlying ht,Go.sizeOf,typeInfo,hi,Builtin.lenOf,hsrc w rfl,storeCells]
  ·obtain ⟨hA,hb,hcs⟩:=hrow hc;subst hA;have hle:n*i.size+m*i.size<=cs.size:=by rw [hcs,<-zdh];exact zbz _ hfit
   obtain ⟨w',r1,r2,r3,r4,r5,r6,r7⟩:=xp7 (P:=P) (o:=n*i.size) news.toList cs 0 w hb (by simp [hnews];omega) hone;refine ⟨w',?_,fun _=>⟨by simpa using r2,r3,r4,r5,r6,r7⟩,fun h=>by omega⟩;simp [Builtin.append_,run_underlying ht,Go.sizeOf,typeInfo,hi,Builtin.lenOf,hsrc w rfl,hfit,Addr.add_lit,r1]
 ·right;refine ⟨by omega,?_⟩;have hold: ∀w':World,w'.heap=w.heap->(Builtin.firstCells i.size n (.slice A n cap)).run P w'= .ok (cs.extract 0 (n*i.size)) w':=by
   intro w' hw';rcases zco n with hn0 | hn0
   ·subst hn0;rw [xr0];simp
   ·obtain ⟨hA,hb,hcs⟩:=hrow (by omega);subst hA;have hle:n*i.size<=cs.size:=by rw [hcs];exact zbz _ hn
    have:=xr1 (P:=P) (w:=w') (es:=i.size) (n:=n) (k:=n) (cap:=cap) (o:=0) (by rw [hw'];exact hb) (by omega);simpa using this
  have hsz:(cs.extract 0 (n*i.size)).size=n*i.size:=by
   rcases zco n with hn0 | hn0
   ·subst hn0;simp
   ·obtain ⟨hA,hb,hcs⟩:=hrow (by omega);have hle:n*i.size<=cs.size:=by rw [hcs];exact zbz _ hn
    simp;omega
  have hbig: ¬(281474976710656 < Builtin.nextslicecap (n+m) cap*i.bytes):=by
   have:=growslice_fits (need:=n+m) (old:=cap) (bytes:=i.bytes) (by omega) hbytes;omega
  have h63':n+m<=maxLen:=h63;refine ⟨{w.drew with heap:=w.heap.push (.cells (cs.extract 0 (n*i.size)++news++Builtin.zeroCells z.cells (grownCap w (n+m) cap E - (n+m))) E (0,0))},grownCap w (n+m) cap E,Builtin.zeroCells z.cells (grownCap w (n+m) cap E - (n+m)),?_,grownCap_ge _ _ _ _,grownCap_le_maxLen _ _ _ _ h63',by rw [size_zeroCells,hzs],rfl,rfl,rfl,rfl,hsz⟩;have e1:=hold w.drew rfl;have e2:=hsrc w.drew rfl;have hcast: ¬(9223372036854775807:Int) < (n:Int)+(m:Int):=by omega
  simp [Builtin.append_,run_underlying ht,Go.sizeOf,typeInfo,zeroValue,hi,hz,Builtin.lenOf,hfit,hcast,hbig,Question.forced,e1,e2,newRow,grownCap];rfl
variable {g:Slots} {h:Keys} {al:Names} {a:Act} {w w':World} {η:Env}
theorem ju7 {k:Nat} {b:Nat} (hb:Own (upd h k none) η b):Own h η b:=by
 obtain ⟨j,x,hx,hc,rfl⟩:=hb;by_cases hjk:j=k
 ·subst hjk;rw [x7] at hx;cases hx
 ·rw [x3 _ _ _ hjk] at hx;exact ⟨j,x,hx,hc,rfl⟩
theorem Keep.drop (k:Nat):Keep (c.dom h η) (c.dom (upd h k none) η) w w:=fun _ _ hb hl _=>⟨⟨hb.1,fun ho=>hb.2.1 (ju7 ho),hb.2.2⟩,hl⟩
theorem St'.drop (s:St' c g h al a w η) (k:Nat):St' c g (upd h k none) al a w η:=by
 have hsub: ∀j x,upd h k none j=some x->h j=some x:=fun j x hx=>by
  by_cases hjk:j=k
  ·subst hjk;rw [x7] at hx;cases hx
  ·rwa [x3 _ _ _ hjk] at hx
 refine s.turn (fun _ h=>h) (fun _ _=>⟨rfl,rfl⟩) rfl (Stp.refl _ _) ?_ (fun j x hx hK=> ?_) (fun j j' x x' hx hx'=>s.inj j j' x x' (hsub j x hx) (hsub j' x' hx')) fun j x _ hx=>⟨x,hsub j x hx,rfl⟩
 ·rintro b ⟨j,x,hx,hc,rfl⟩;exact ⟨s.klt (hsub j x hx) hc,.inl ⟨j,x,hsub j x hx,hc,rfl⟩⟩
 ·exact ⟨(s.key j x (hsub j x hx)).1,(s.key j x (hsub j x hx)).2.1,HEnt.sat_go (s.key j x (hsub j x hx)).2.2.1 (fun _=>rfl) hK ⟨rfl,rfl⟩ fun _ _=>⟨rfl,rfl⟩⟩
theorem St'.rename (s:St' c g h al a w η) {k k':Nat} {x:HEnt} (hk:h k=some x) (hk':al k'=false):
  St' c g (upd (upd h k none) k' (some x)) (fun j=>Nat.beq j k' || al j) a w (η.set k' (η.b k) (η.c k)):=by
 have hne: ∀j,al j=true->j≠k':=fun j hj e=>by rw [e,hk'] at hj;cases hj
 have hag: ∀j,al j=true->(η.set k' (η.b k) (η.c k)).b j=η.b j/\(η.set k' (η.b k) (η.c k)).c j=η.c j:=fun j hj=>η.set_other _ _ (hne j hj);have hal: ∀j y,h j=some y->al j=true:=fun j y hy=>(s.key j y hy).1;have key: ∀j y,upd (upd h k none) k' (some x) j=some y-> ∃j0,h j0=some y/\(η.set k' (η.b k) (η.c k)).b j=η.b j0/\(η.set k' (η.b k) (η.c k)).c j=η.c j0/\((j=k'/\j0=k)∨(j≠k'/\j0=j/\j≠k)):=by
  intro j y hy;by_cases hjk:j=k'
  ·subst hjk;rw [x7] at hy;cases hy;exact ⟨k,hk,Env.set_b _ _ _ _,Env.set_c _ _ _ _,.inl ⟨rfl,rfl⟩⟩
  ·rw [x3 _ _ _ hjk] at hy;by_cases hjk2:j=k
   ·subst hjk2;rw [x7] at hy;cases hy
   ·rw [x3 _ _ _ hjk2] at hy;exact ⟨j,hy,(hag j (hal j y hy)).1,(hag j (hal j y hy)).2,.inr ⟨hjk,rfl,hjk2⟩⟩
 refine s.turn (fun j hj=>by simp [hj]) hag rfl (Stp.refl _ _) ?_ (fun j y hy hK=> ?_) (fun j j' y y' hy hy' hne' hc hc'=> ?_) (fun j y hj hy=> ?_)
 ·rintro b ⟨j,y,hy,hc,rfl⟩;obtain ⟨j0,h1,h2,h3,_⟩:=key j y hy;rw [h3] at hc;rw [h2];exact ⟨s.klt h1 hc,.inl ⟨j0,y,h1,hc,rfl⟩⟩
 ·obtain ⟨j0,e1,e2,e3,e4⟩:=key j y hy;obtain ⟨h1,h2,⟨h3,h4,h5,h6,h7⟩,h8⟩:=s.key j0 y e1;refine ⟨?_,fun i hi=>by simp [h2 i hi],by rw [e3];exact h3,h4,h5,by rw [e3];exact h6,fun hc=> ?_⟩
  ·rcases e4 with ⟨rfl,_⟩ | ⟨_,rfl,_⟩
   ·simp
   ·simp [h1]
  ·rw [e3] at hc;obtain ⟨cs,q1,q2,q3⟩:=h7 hc;exact ⟨cs,by rw [e2];exact q1,by rw [e3];exact q2,fun i e he=>Ent.sat_go (q3 i e he) hK fun j hj=>hag j (h2 j (HEnt.mem_supp he hj))⟩
 ·obtain ⟨j0,a1,a2,a3,a4⟩:=key j y hy;obtain ⟨j1,b1,b2,b3,b4⟩:=key j' y' hy';rw [a3] at hc;rw [b3] at hc';rw [a2,b2];refine s.inj j0 j1 y y' a1 b1 ?_ hc hc';rcases a4 with ⟨rfl,rfl⟩ | ⟨h1,rfl,h2⟩ <;> rcases b4 with ⟨rfl,rfl⟩ | ⟨h3,rfl,h4⟩
  ·exact absurd rfl hne'
  ·exact Ne.symm h4
  ·exact h2
  ·exact hne'
 ·obtain ⟨j0,a1,_,_,a4⟩:=key j y hy;rcases a4 with ⟨rfl,_⟩ | ⟨_,rfl,_⟩
  ·exact absurd rfl (hne _ (s.yal _ hj))
  ·exact ⟨y,a1,rfl⟩
theorem xe5 {agg:Bool} {n o:Nat} {xs ys:Array Value} (h:o+n<=xs.size) (h1:agg=false->n=1):pick agg n (xs++ys) o=pick agg n xs o:=by
 cases agg with
 | true=>
  simp only [pick,zev,zen];apply zdi;intro i;rw [zcq,zcq];by_cases hi:i < n
  ·rw [if_pos (by simp;omega),if_pos (by omega),Array.getElem?_append_left (by omega)]
  ·rw [if_neg (by omega),if_neg (by omega)]
 | false=>
  have:=h1 rfl;simp only [pick,zdy];rw [zbk,zbk,Array.getElem?_append_left (by omega)]
theorem xk9 {agg:Bool} {n o:Nat} {xs ys:Array Value} (h:o+n<=ys.size) (h1:agg=false->n=1):pick agg n (xs++ys) (xs.size+o)=pick agg n ys o:=by
 cases agg with
 | true=>
  simp only [pick,zev,zen];apply zdi;intro i;rw [zcq,zcq];by_cases hi:i < n
  ·rw [if_pos (by simp;omega),if_pos (by omega),Array.getElem?_append_right (by omega),show xs.size+o+i - xs.size=o+i from by omega]
  ·rw [if_neg (by omega),if_neg (by omega)]
 | false=>
  have:=h1 rfl;simp only [pick,zdy];rw [zbk,zbk,Array.getElem?_append_right (by omega),show xs.size+o - xs.size=o from by omega]
theorem xr2 {agg:Bool} {n o m:Nat} {cs:Array Value} (h:o+n<=m) (hm:m<=cs.size) (h1:agg=false->n=1):pick agg n (cs.extract 0 m) o=pick agg n cs o:=by
 have:=xo3 (agg:=agg) (n:=n) (o:=o) (o1:=0) (n1:=m) (cs:=cs) (by omega) h h1;simpa using this
theorem zn5 {α:Type} {es:Nat} {agg:Bool} {f:α->Ty} {ys:List α} {F:Dom} {v:Value} (hf: ∀y,Shape (f y) es agg) (h0:0 < es) (hy:(tL es agg f ys).p F w v):
  ∃A2 c2 news,v= .slice A2 ys.length c2/\news.size=ys.length*es/\(∀w':World,w'.heap=w.heap->(Builtin.firstCells es ys.length (.slice A2 ys.length c2)).run P w'= .ok news w')/\(∀u∈news.toList,one u=true)/\
   (∀(i:Nat) (y:α),ys[i]? =some y->(f y).p F w (pick agg es news (i*es)))/\(agg=false->es=1∨ys=[]):=by
 obtain ⟨A,cc,h1,h2,h3,h4⟩:=hy;rcases h4 with h4 | ⟨b,o,rfl,hF,hx⟩
 ·subst h4;exact ⟨A,cc,#[],h1,by simp,fun w' _=>by rw [List.length_nil,xr0],by simp,fun i y hi=>by simp at hi,fun _=> .inr rfl⟩
 ·cases hl:ys with
  | nil=>subst hl;exact ⟨some ⟨b,o,none⟩,cc,#[],h1,by simp,fun w' _=>by rw [List.length_nil,xr0],by simp,fun i y hi=>by simp at hi,fun _=> .inr rfl⟩
  | cons y0 r=>
   rw [<-hl];have hpos:0 < ys.length:=by rw [hl];simp
   obtain ⟨u0,⟨cs,T,fr,hb,hle0,_,hagg,_⟩,_⟩:=hx 0 y0 (by rw [hl];rfl);have hall: ∀(i:Nat) (y:α),ys[i]? =some y->o+i*es+es<=cs.size/\(f y).p F w (pick agg es cs (o+i*es)):=fun i y hi=>by
    obtain ⟨u,⟨cs',T',fr',hb',hle,_,_,hu⟩,hp⟩:=hx i y hi;rw [hb] at hb';cases hb';exact ⟨hle,by rw [<-hu];exact hp⟩
   have hsz:o+ys.length*es<=cs.size:=by
    have:=(hall (ys.length - 1) _ (zbi (by omega))).1;have e:(ys.length - 1)*es+es=ys.length*es:=by rw [<-zcw];congr 1;omega
    omega
   have hpk: ∀(i:Nat) (y:α),ys[i]? =some y->pick agg es (cs.extract o (o+ys.length*es)) (i*es)=pick agg es cs (o+i*es):=fun i y hi=>by
    have hil:i < ys.length:=(zbo.1 hi).1;have:i*es+es<=ys.length*es:=by rw [<-zcw];exact zbz _ hil
    exact xo3 hsz this hagg
   refine ⟨some ⟨b,o,none⟩,cc,cs.extract o (o+ys.length*es),h1,by simp;omega,fun w' hw'=>xr1 (by rw [hw'];exact hb) hsz,?_,fun i y hi=>by rw [hpk i y hi];exact (hall i y hi).2,fun h=> .inl (hagg h)⟩;intro u hu;obtain ⟨j,hj⟩:=zeb hu;rw [zes] at hj;have hjl:j < ys.length*es:=by
    have:=(zeu.1 hj).1;simp at this;omega
   have hq:j / es < ys.length:=(Nat.div_lt_iff_lt_mul h0).2 hjl;have hy:=zbi hq;have hfl:=(hf (ys[j / es])).flat (hall _ _ hy).2;have hcell:=zb4 (cs:=cs) (o:=o+j / es*es) (hall _ _ hy).1 hagg hfl (o+j) (by have:=Nat.div_mul_le_self j es;omega) (by
    have:=Nat.mod_add_div j es;have:=zfb j h0;have e:es*(j / es)=j / es*es:=zem _ _;omega)
   obtain ⟨u',hu',h1'⟩:=hcell;rw [zcq] at hj;split at hj
   ·rw [hj] at hu';cases hu';exact h1'
   ·cases hj
theorem xb3 {T E es by_ k k' n:Nat} {agg:Bool} {z:Value} {α:Type} {f:α->Ty} {ys:List α} {x y:Operand} {ts ts':List Ent} {T0:Nat} (sl:P.underlying T=some (.slice E)) (el:ElI P E es by_ agg z) (hz:Flat es agg z) (hT:T0=E) (h0:Nat.blt 0 es=true)
  (hf: ∀y,Shape (f y) es agg) (hn:ts.length=n) (hb:(n+ys.length)*by_<=140737488355328) (h63:n+ys.length<=9223372036854775807) (hts:ts++ys.map (fun y=> .val (f y))=ts') {n':Nat} (hn':n+ys.length=n'):
  Does P c ⟨some d,.call {callee:= .builtin .append,args:= #[x,y],argTypes:= #[T,T]},ty,pos,af,gd⟩ ⟨[(x,.own (.sl k es 0 n)),(y,.val (tL es agg f ys))],[(k,⟨T0,es,agg,ts⟩)],some (d,some (.own (.sl k' es 0 n'))),[(k,none),(k',some ⟨T0,es,agg,ts'⟩)],[k']⟩:=by
 intro g h al a w hp ⟨η,s⟩;subst hts hT hn hn';have h0':0 < es:=by simpa using h0
 obtain ⟨hx,hxs⟩:=xa2 s hp.rd.1;obtain ⟨A,hA,hcap,hadr⟩:=hx;simp only [Nat.sub_zero,zcn,zef] at hA hcap hadr;obtain ⟨A2,c2,news,hy,hns,hsrc,hone,hnp,_⟩:=zn5 (P:=P) hf h0' (xa2 s hp.rd.2.1).1;have hA:a.eval x= .slice A ts.length (η.c k):=hA;have hy:a.eval y= .slice A2 ys.length c2:=hy;obtain ⟨i,hi,hsz,hby,hz'⟩:=el.parts;obtain ⟨k1,k2,⟨k3,k4,k5,k6,k7⟩,k8⟩:=s.key k _ hp.kr.1;simp only at k3 k4 k5 k6 k7;have hexec: ∀v w',(Builtin.append_ #[T,T] ty #[.slice A ts.length (η.c k),.slice A2 ys.length c2]).run P w= .ok v w'->
   (execOp a.eval ⟨some d,.call {callee:= .builtin .append,args:= #[x,y],argTypes:= #[T,T]},ty,pos,af,gd⟩).run P w= .ok (.value v) w':=fun v w' hr=>by
  simp only [execOp,resolve,invoke,builtin,zcs,zcy,zfg,hA,hy,zbu,zbx,zbn,hr]
 have hsupp: ∀j∈HEnt.supp ⟨T0,es,agg,ts++ys.map fun y=> .val (f y)⟩,al j=true:=fun j hj=>by
  simp only [HEnt.supp,zcc] at hj;obtain ⟨e,he,hj⟩:=hj;rcases zbp.1 he with he | he
  ·exact k2 j (zcc.2 ⟨e,he,hj⟩)
  ·obtain ⟨y,_,rfl⟩:=zci.1 he;cases hj
 have hlk: ∀(l:List Ent) (i:Nat) (e:Ent),(ts++ys.map fun y=>Ent.val (f y))[i]? =some e->(ts[i]? =some e/\i < ts.length)∨(∃y,ys[i - ts.length]? =some y/\e= .val (f y)/\ts.length<=i):=fun _ i e he=>by
  rcases zcb i ts.length with hlt | hge
  ·rw [zct hlt] at he;exact .inl ⟨he,hlt⟩
  ·rw [zcr hge,zbs] at he;obtain ⟨y,hy,rfl⟩:=zdd.1 he;exact .inr ⟨y,hy,rfl,hge⟩
 rcases zco (η.c k) with hc | hc
 ·
  have hts:ts=[]:=zda (by omega);subst hts;rcases xz2 (P:=P) (ty:=ty) (A:=A) (n:=0) (cap:=η.c k) (A2:=A2) (c2:=c2) (w:=w) (b:=0) sl hi hsz hby hz' hz.1 h0' (by simp) #[] (fun h=>by omega) news hns hsrc hone h63 hb with ⟨hfit,w',hr,_,hw⟩ | ⟨hgt,w',cap',rest,hr,hle,hmax,hrest,hheap,hos,htape,hout,_⟩
  ·have hys:ys=[]:=zda (by omega);subst hys;have:=hw hc;subst this;refine xd0 (hexec _ _ hr) ?_;have s2:=s.rename hp.kr.1 hp.nk.1;refine ⟨_,s2.put (hp.d _ rfl) (e:= .own (.sl k' es 0 (0+0))) ⟨A,?_,?_,?_⟩ ?_⟩
   ·simp [Env.set_c]
   ·simp
   ·intro h;rw [Env.set_c] at h;exact absurd h (by simp [hc])
   ·intro j hj;simp only [Ent.supp,VP.supp,zbj] at hj;subst hj;simp
  ·refine xd0 (hexec _ _ hr) ?_;have hext:Ext w w':=⟨hos,htape,hout,by rw [hheap];simp,fun b hb=>by rw [hheap,zfe,if_neg (by omega)]⟩
   have s2:=(s.drop k).new' k' hp.nk.1 ⟨T0,es,agg,[]++ys.map fun y=> .val (f y)⟩ cap' w.heap.size (by simpa using hle) h0' k5 hmax hsupp hext (fun _=>⟨zbq _,#[]++news++rest,by rw [hheap];simp,by
     simp only [zff,hns,hrest,Array.size_empty];rw [zcn,<-zdh];congr 1;simp at hle;omega,fun j e hj=>by
     simp only [List.nil_append,zbs] at hj;obtain ⟨y,hy',rfl⟩:=zdd.1 hj;have hjl:j < ys.length:=(zbo.1 hy').1;have hle':j*es+es<=news.size:=by rw [hns,<-zcw];exact zbz _ hjl
     simp only [zdj];rw [xe5 hle' k5];exact (f y).mono (hnp j y hy') (Keep.drop k)⟩)
   refine ⟨_,s2.put (hp.d _ rfl) (e:= .own (.sl k' es 0 (0+ys.length))) ⟨some ⟨w.heap.size,0,none⟩,?_,?_,?_⟩ ?_⟩
   ·simp [Env.set_c]
   ·simpa [Env.set_c] using hle
   ·intro _;simp [Env.set_b]
   ·intro j hj;simp only [Ent.supp,VP.supp,zbj] at hj;subst hj;simp
 ·obtain ⟨cs,m1,m2,m3⟩:=k7 hc;have hAv:=hadr hc;rcases xz2 (P:=P) (ty:=ty) (A:=A) (n:=ts.length) (cap:=η.c k) (A2:=A2) (c2:=c2) (w:=w) (b:=η.b k) sl hi hsz hby hz' hz.1 h0' k3 cs (fun _=>⟨hAv,m1,m2⟩) news hns hsrc hone h63 hb with ⟨hfit,w',hr,hw,_⟩ | ⟨hgt,w',cap',rest,hr,hle,hmax,hrest,hheap,hos,htape,hout,hold⟩
  ·obtain ⟨q1,q2,q3,q4,q5,q6⟩:=hw hc;refine xd0 (hexec _ _ hr) ?_;have hsz2:ts.length*es+ys.length*es<=cs.size:=by rw [m2,<-zdh];exact zbz _ hfit
   have hnl:news.toList.length=ys.length*es:=by simpa using hns
   have s1:=s.write (w':=w') k hp.kr.1 ⟨T0,es,agg,ts++ys.map fun y=> .val (f y)⟩ (putAt cs (ts.length*es) news.toList) (by rw [xc8];exact m2) (by simpa using hfit) h0' k5 hsupp
    (fun j e hj=>by
     rcases hlk [] j e hj with ⟨he,hjl⟩ | ⟨y,hy',rfl,hge⟩
     ·have hle':j*es+es<=ts.length*es:=by rw [<-zcw];exact zbz _ hjl
      simp only [];rw [xf6 (by omega) k5 (.inl hle')];exact m3 j e he
     ·have hjl:j - ts.length < ys.length:=(zbo.1 hy').1;have hle':(j - ts.length)*es+es<=ys.length*es:=by rw [<-zcw];exact zbz _ hjl
      have e1:j*es=ts.length*es+(j - ts.length)*es:=by rw [<-zdh];congr 1;omega
      have hpk:pick agg es (putAt cs (ts.length*es) news.toList) (j*es)=pick agg es news ((j - ts.length)*es):=by
       have hg: ∀q,q < es->(putAt cs (ts.length*es) news.toList)[j*es+q]? =news[(j - ts.length)*es+q]? :=fun q hq=>by
        rw [xh7 _ _ _ _ (by omega),if_pos (by omega),zes]
        congr 1;omega
       cases agg with
       | true=>
        simp only [pick,zev,zen];apply zdi;intro q;rw [zcq,zcq,xc8];by_cases hq:q < es
        ·rw [if_pos (by omega),if_pos (by omega),hg q hq]
        ·rw [if_neg (by omega),if_neg (by omega)]
       | false=>
        simp only [pick,zdy];have:=hg 0 h0';rw [zbk,zbk];simp only [zeh] at this;rw [this]
      simp only [];rw [hpk];exact hnp _ y hy')
    hc q1 q2 q3 q4 q5 q6 rfl
   have s2:=s1.rename (x7 _ _ _) hp.nk.1;have hcomm:upd (upd (upd h k (some ⟨T0,es,agg,ts++ys.map fun y=> .val (f y)⟩)) k none) k' (some ⟨T0,es,agg,ts++ys.map fun y=> .val (f y)⟩)=upd (upd h k none) k' (some ⟨T0,es,agg,ts++ys.map fun y=> .val (f y)⟩):=by
    funext j;by_cases hj:j=k'
    ·subst hj;simp [x7]
    ·rw [x3 _ _ _ hj,x3 _ _ _ hj];by_cases hj2:j=k
     ·subst hj2;simp [x7]
     ·rw [x3 _ _ _ hj2,x3 _ _ _ hj2,x3 _ _ _ hj2]
   rw [hcomm] at s2;refine ⟨_,s2.put (hp.d _ rfl) (e:= .own (.sl k' es 0 (ts.length+ys.length))) ⟨A,?_,?_,?_⟩ ?_⟩
   ·simp [Env.set_c]
   ·simpa [Env.set_c] using hfit
   ·intro _;rw [hAv];simp [Env.set_b]
   ·intro j hj;simp only [Ent.supp,VP.supp,zbj] at hj;subst hj;simp
  ·refine xd0 (hexec _ _ hr) ?_;have hext:Ext w w':=⟨hos,htape,hout,by rw [hheap];simp,fun b hb=>by rw [hheap,zfe,if_neg (by omega)]⟩
   have hdk:Keep (c.dom h η) (c.dom (upd h k none) η) w w:=Keep.drop k;have s2:=(s.drop k).new' k' hp.nk.1 ⟨T0,es,agg,ts++ys.map fun y=> .val (f y)⟩ cap' w.heap.size (by simpa using hle) h0' k5 hmax hsupp hext (fun _=>⟨zbq _,cs.extract 0 (ts.length*es)++news++rest,by rw [hheap];simp,by
     simp only [zff,hns,hrest,hold];rw [<-zdh,<-zdh];congr 1;omega,fun j e hj=>by
     rcases hlk [] j e hj with ⟨he,hjl⟩ | ⟨y,hy',rfl,hge⟩
     ·have hle':j*es+es<=ts.length*es:=by rw [<-zcw];exact zbz _ hjl
      simp only [];rw [Array.append_assoc,xe5 (by rw [hold];exact hle') k5,xr2 hle' (by simp at hold;omega) k5];exact Ent.sat_go (m3 j e he) hdk fun _ _=>⟨rfl,rfl⟩
     ·have hjl:j - ts.length < ys.length:=(zbo.1 hy').1;have hle':(j - ts.length)*es+es<=ys.length*es:=by rw [<-zcw];exact zbz _ hjl
      have e1:j*es=(cs.extract 0 (ts.length*es)).size+(j - ts.length)*es:=by rw [hold,<-zdh];congr 1;omega
      simp only [];rw [Array.append_assoc,e1,xk9 (by simp only [zff,hns];omega) k5,xe5 (by rw [hns];exact hle') k5];exact (f y).mono (hnp _ y hy') hdk⟩)
   refine ⟨_,s2.put (hp.d _ rfl) (e:= .own (.sl k' es 0 (ts.length+ys.length))) ⟨some ⟨w.heap.size,0,none⟩,?_,?_,?_⟩ ?_⟩
   ·simp [Env.set_c]
   ·simpa [Env.set_c] using hle
   ·intro _;simp [Env.set_b]
   ·intro j hj;simp only [Ent.supp,VP.supp,zbj] at hj;subst hj;simp
end
section
variable {P:Program} {c:Base} {g:Slots} {h:Keys} {al:Names} {a:Act} {w:World} {η:Env}
theorem zg2 {α:Type} {f:α->Ent} {ts:List Ent} {off len:Nat} {xs:List α} (hts:(ts.drop off).take len=xs.map f) (i:Nat) (x:α) (hi:xs[i]? =some x):ts[off+i]? =some (f x):=by
 have h2:((ts.drop off).take len)[i]? =some (f x):=by rw [hts,zbs,hi];rfl
 rw [List.getElem?_take] at h2;split at h2
 ·rwa [List.getElem?_drop] at h2
 ·cases h2
theorem St'.give (s:St' c g h al a w η) {k:Nat} {T es off len:Nat} {agg:Bool} {ts:List Ent} {α:Type} {f:α->Ty} {xs:List α} (hk:h k=some ⟨T,es,agg,ts⟩) (hlb: ∀b,¬c.lb b)
  (hts:(ts.drop off).take len=xs.map fun x=> .val (f x)) (hl:xs.length=len) {v:Value} (hv:(Ent.own (.sl k es off len)).sat (c.dom h η) w η v):(tL es agg f xs).p (c.dom (upd h k none) η) w v:=by
 subst hl;obtain ⟨A,h1,h2,h3⟩:=hv;obtain ⟨h4,h5,⟨h6,h7,h8,h9,h10⟩,h11⟩:=s.key k _ hk;simp only at h7 h8 h9 h10;refine ⟨A,_,h1,by omega,by omega,?_⟩;rcases zco xs.length with h0 | h0
 ·exact .inl (zda h0)
 ·have hc:0 < η.c k:=by omega
  obtain ⟨cs,e1,e2,e3⟩:=h10 hc;obtain ⟨d1,d2,d3⟩:=h11 hc;have d1:c.w0.heap.size<=η.b k:=d1.resolve_right (hlb _);refine .inr ⟨η.b k,off*es,h3 (by omega),⟨.inl d1,?_,d2,d3⟩,fun i x hi=> ?_⟩
  ·rintro ⟨j,y,hj,hcj,e⟩;by_cases hjk:j=k
   ·subst hjk;rw [x7] at hj;cases hj
   ·rw [x3 _ _ _ hjk] at hj;exact s.inj j k y _ hj hk hjk hcj hc e.symm
  ·have hil:i < xs.length:=(zbo.1 hi).1;have he:=e3 (off+i) _ (zg2 hts i x hi);have hle:off*es+i*es+es<=cs.size:=by
    rw [e2,<-zdh,<-zcw];exact zbz _ (by omega)
   refine ⟨_,⟨cs,_,_,e1,hle,h7,h8,rfl⟩,?_⟩;rw [<-zdh];exact (f x).mono he (Keep.drop k)
def NoLb (c:Base):Prop:= ∀b,¬c.lb b
variable {d ty:Nat} {pos:String} {af:Array Edge} {gd:Option (Nat×Bool)}
theorem Does.give {o:Oper} {rd:List (Operand×Ent)} {k:Nat} {x:HEnt} {d:Nat} {t:Ty} (hd:o.dst=some d)
  (hr: ∀g h al a w η,Rd g rd->h k=some x->St' c g h al a w η-> ∃v,(execOp a.eval o).run P w= .ok (.value v) w/\t.p (c.dom (upd h k none) η) w v):
  Does P c o ⟨rd,[(k,x)],some (d,some (.val t)),[(k,none)],[]⟩:=by
 intro g h al a w hp ⟨η,s⟩;obtain ⟨v,h1,h2⟩:=hr g h al a w η hp.rd hp.kr.1 s;refine xd0 h1 ?_;rw [hd];exact ⟨η,(s.drop k).put (hp.d _ rfl) (e:= .val t) h2 fun j hj=>by cases hj⟩
theorem xi6 {x:Operand} {k T es off len:Nat} {agg:Bool} {ts:List Ent} {α:Type} {f:α->Ty} {xs:List α} (hlb:NoLb c) (hts:(ts.drop off).take len=xs.map fun x=> .val (f x)) (hl:xs.length=len):
  Does P c ⟨some d,.move x,ty,pos,af,gd⟩ ⟨[(x,.own (.sl k es off len))],[(k,⟨T,es,agg,ts⟩)],some (d,some (.val (tL es agg f xs))),[(k,none)],[]⟩:=
 Does.give rfl fun g h al a w η hr hk s=>⟨a.eval x,by simp [execOp,go_sem],s.give hk hlb hts hl (xa2 s hr.1).1⟩
theorem ym3 {x:Operand} {k T es off len:Nat} {agg:Bool} {ts:List Ent} {α:Type} {f:α->Ty} {xs:List α} (hlb:NoLb c) (hts:(ts.drop off).take len=xs.map fun x=> .val (f x)) (hl:xs.length=len):
  Does P c ⟨some d,.assign x,ty,pos,af,gd⟩ ⟨[(x,.own (.sl k es off len))],[(k,⟨T,es,agg,ts⟩)],some (d,some (.val (tL es agg f xs))),[(k,none)],[]⟩:=
 Does.give rfl fun g h al a w η hr hk s=>⟨a.eval x,by simp [execOp,go_sem],s.give hk hlb hts hl (xa2 s hr.1).1⟩
theorem zs4 {Q:Exit->Act->World->Prop} {x:Code} {t k T es off len:Nat} {agg:Bool} {ts:List Ent} {α:Type} {f:α->Ty} {xs:List α} (hg:g t=some (.own (.sl k es off len))) (hk:h k=some ⟨T,es,agg,ts⟩) (hlb:NoLb c)
  (hts:(ts.drop off).take len=xs.map fun x=> .val (f x)) (hl:xs.length=len) (H:wc P c x Q (upd g t (some (.val (tL es agg f xs)))) (upd h k none) al):wc P c x Q g h al:=fun a w ⟨η,s⟩=>by
 have h2:=s.give hk hlb hts hl (s.slot t _ hg).2.2;have s2:=(s.drop k).put (s.slot t _ hg).1 (e:= .val (tL es agg f xs)) h2 fun j hj=>by cases hj
 refine H a w ⟨η,?_⟩;have e:a.put (some t) (a.tmps.getD t undef)=a:=by
  have hlt:t < a.tmps.size:=by rw [s.tn];exact (s.slot t _ hg).1
  have:a.tmps.setIfInBounds t (a.tmps.getD t undef)=a.tmps:=by
   apply zdi;intro i;rw [zee];by_cases hi:t=i
   ·subst hi;simp [hlt]
   ·simp [hi]
  simp only [Act.put,this]
 rwa [e] at s2
theorem St'.ghost (s:St' c g h al a w η) (k:Nat) (hk:al k=false) (T es:Nat) (agg:Bool) (hes:0 < es) (hagg:agg=false->es=1): ∃η',St' c g (upd h k (some ⟨T,es,agg,[]⟩)) (fun j=>Nat.beq j k || al j) a w η'/\η'.c k=0/\ ∀j,j≠k->η'.b j=η.b j/\η'.c j=η.c j:=
 ⟨_,s.new' k hk ⟨T,es,agg,[]⟩ 0 0 (zbq _) hes hagg (by decide) (fun j hj=>by cases hj) (Ext.refl w) fun h=>absurd h (Nat.lt_irrefl _),Env.set_c _ _ _ _,fun j hj=>η.set_other _ _ hj⟩
theorem xg1 {k:Nat} (T es:Nat) (agg:Bool) (hes:Nat.blt 0 es=true) (hagg:agg=false->es=1):
  Does P c ⟨some d,.assign (.const (.slice none 0 0)),ty,pos,af,gd⟩ ⟨[],[],some (d,some (.own (.sl k es 0 0))),[(k,some ⟨T,es,agg,[]⟩)],[k]⟩:=by
 intro g h al a w hp ⟨η,s⟩;obtain ⟨η',s',hc,_⟩:=s.ghost k hp.nk.1 T es agg (by simpa using hes) hagg;refine xd0 (v:= .slice none 0 0) (w':=w) (by simp [execOp,Act.eval,go_sem]) ?_;refine ⟨η',s'.put (hp.d _ rfl) (e:= .own (.sl k es 0 0)) ⟨none,by rw [hc],by omega,fun h=>by omega⟩ fun j hj=> ?_⟩;simp only [Ent.supp,VP.supp,zbj] at hj;subst hj;simp
end
section
variable {P:Program} {c:Base} {g:Slots} {h:Keys} {al:Names} {Q:Exit->Act->World->Prop}
variable {A:Array Oper} {K:List Sm->Slots->Keys->Names->Prop} {rest:List Oper} {sms:List Sm}
variable {dst:Option Nat} {op:Op} {ty:Nat} {pos:String} {af:Array Edge}
theorem yo8 {g:Slots} {h:Keys} {al:Names} {a:Act} {w:World} {η:Env} (s:St' c g h al a w η) {j t:Nat} (hj:(A[j]?).bind (·.dst)=some t) {b:Bool} (hb:g t=some (.val (tB b))):yielded A a.tmps j=some b:=by
 have h1:a.tmps.getD t undef= .bool b:=(s.slot t _ hb).2.2;have h2:t < a.tmps.size:=by rw [s.tn];exact (s.slot t _ hb).1
 rw [zbk,zcm h2] at h1;simp only [yielded,hj,Option.bind_some,zcm h2];simp only [Option.getD_some] at h1;rw [h1]
theorem RGon {E:Eff} {j t:Nat} {want b:Bool} (hb:b=want) (hj:(A[j]?).bind (·.dst)=some t) (hd:Does P c ⟨dst,op,ty,pos,af,some (j,want)⟩ E) (hg:g t=some (.val (tB b))) (h1:Rd g E.rd) (h2:Kr h E.kr) (h3:Nk al E.nk)
  (H:RSeq P c A K rest (sms++[⟨t::slotsOf E.rd,E.d.map (·.1),E.kr.map (·.1),E.kw.map (·.1),E.nk⟩]) (E.g g) (E.h h) (E.al al)):RSeq P c A K (⟨dst,op,ty,pos,af,some (j,want)⟩::rest) sms g h al:=
 ⟨⟨(.tmp t,.val (tB b))::E.rd,E.kr,E.d,E.kw,E.nk⟩,fun g h' al a w hp hs=>by
  obtain ⟨η,s⟩:=hs;have:=yo8 s hj hp.rd.1;rw [if_pos (by simp [Region.wanted,this,hb])];exact hd g h' al a w ⟨hp.rd.2,hp.kr,hp.nk,hp.d⟩ ⟨η,s⟩,⟨⟨hg,h1⟩,h2,h3⟩,H⟩
theorem Rg {rd:List (Operand×Ent)} {d:Option (Nat×Option Ent)} {kw:List (Nat×Option HEnt)} {j t:Nat} {want b:Bool} (hb:b=want) (hj:(A[j]?).bind (·.dst)=some t) (hd:Does P c ⟨dst,op,ty,pos,af,some (j,want)⟩ ⟨rd,[],d,kw,[]⟩) (hg:g t=some (.val (tB b))) (h1:Rd g rd)
 (H:RSeq P c A K rest (sms++[⟨t::slotsOf rd,d.map (·.1),[],kw.map (·.1),[]⟩]) (Eff.g ⟨rd,[],d,kw,[]⟩ g) (Eff.h ⟨rd,[],d,kw,[]⟩ h) (Eff.al ⟨rd,[],d,kw,[]⟩ al)):RSeq P c A K (⟨dst,op,ty,pos,af,some (j,want)⟩::rest) sms g h al:=RGon hb hj hd hg h1 trivial trivial H
def offG (dst:Option Nat) (g:Slots):Slots:=match dst with | some d=>upd g d (some (.val (tE undef))) | none=>g
theorem St'.off {a:Act} {w:World} {η:Env} (s:St' c g h al a w η) (hd: ∀d,dst=some d->d < c.N):St' c (offG dst g) h al (a.put dst undef) w η:=by
 cases dst with
 | none=>exact s.lose none undef
 | some d=>exact s.put (hd d rfl) (e:= .val (tE undef)) rfl fun j hj=>by cases hj
theorem qi4 (dst:Option Nat) (g:Slots) (rd:List (Operand×Ent)):Eff.g ⟨rd,[],dst.map (·,some (.val (tE undef))),[],[]⟩ g=offG dst g:=by cases dst <;> rfl
theorem RGoff {j t:Nat} {want b:Bool} (hb:b= !want) (hj:(A[j]?).bind (·.dst)=some t) (hg:g t=some (.val (tB b)))
  (H:RSeq P c A K rest (sms++[⟨[t],dst,[],[],[]⟩]) (offG dst g) h al):RSeq P c A K (⟨dst,op,ty,pos,af,some (j,want)⟩::rest) sms g h al:=
 ⟨⟨[(.tmp t,.val (tB b))],[],dst.map (·,some (.val (tE undef))),[],[]⟩,fun g h' al a w hp hs=>by
  obtain ⟨η,s⟩:=hs;have:=yo8 s hj hp.rd.1;rw [if_neg (by simp [Region.wanted,this,hb]),qi4];exact ⟨η,s.off fun d hd=>hp.d (d,some (.val (tE undef))) (by simp only [hd,zdm])⟩,⟨⟨hg,trivial⟩,trivial,trivial⟩,by cases dst <;> exact H⟩
theorem RGoffU {j t:Nat} {want:Bool} (hj:(A[j]?).bind (·.dst)=some t) (hg:g t=some (.val (tE undef)))
  (H:RSeq P c A K rest (sms++[⟨[t],dst,[],[],[]⟩]) (offG dst g) h al):RSeq P c A K (⟨dst,op,ty,pos,af,some (j,want)⟩::rest) sms g h al:=
 ⟨⟨[(.tmp t,.val (tE undef))],[],dst.map (·,some (.val (tE undef))),[],[]⟩,fun g h' al a w hp hs=>by
  obtain ⟨η,s⟩:=hs;have h1:a.tmps.getD t undef=undef:=(s.slot t _ hp.rd.1).2.2;have h2:t < a.tmps.size:=by rw [s.tn];exact (s.slot t _ hp.rd.1).1
  have:yielded A a.tmps j=none:=by
   rw [zbk,zcm h2] at h1;simp only [yielded,hj,Option.bind_some,zcm h2];simp only [Option.getD_some] at h1;rw [h1];rfl
  rw [if_neg (by simp [Region.wanted,this]),qi4];exact ⟨η,s.off fun d hd=>hp.d (d,some (.val (tE undef))) (by simp only [hd,zdm])⟩,⟨⟨hg,trivial⟩,trivial,trivial⟩,by cases dst <;> exact H⟩
theorem RGcase {t:Nat} {b:Bool} {ops:List Oper} (hg:g t=some (.val (tB b))) (h1:b=true->RSeq P c A K ops sms g h al) (h2:b=false->RSeq P c A K ops sms g h al):RSeq P c A K ops sms g h al:=by
 have _:=hg;cases b with
 | true=>exact h1 rfl
 | false=>exact h2 rfl
theorem RGcaseD {t:Nat} {p:Prop} [Decidable p] {ops:List Oper} (hg:g t=some (.val (tB (decide p)))) (h1:p->RSeq P c A K ops sms g h al) (h2: ¬p->RSeq P c A K ops sms g h al):RSeq P c A K ops sms g h al:=
 RGcase hg (fun h=>h1 (zdt h)) (fun h=>h2 (of_decide_eq_false h))
theorem xd6 {p:Prop} [Decidable p] (h: ¬p):(!decide p)=true:=by simp [h]
theorem xb4 {p:Prop} [Decidable p] (h:p):(!decide p)=false:=by simp [h]
variable {d:Nat} {gd:Option (Nat×Bool)}
theorem xc6 {x y z:Operand} {b:Bool} {e:Ent} (hb:b=true):Does P c ⟨some d,.pick x y z,ty,pos,af,gd⟩ ⟨[(x,.val (tB b)),(y,e)],[],some (d,some e),[],[]⟩:=
 Does.value rfl fun g h al a w η hrd _ s=>by
  have h1:a.eval x= .bool b:=(xa2 s hrd.1).1;subst hb;exact ⟨_,w,by simp only [execOp,h1,asBool,zbu,zbx,zbn,↓reduceIte],Ext.refl w,xa2 s hrd.2.1⟩
theorem xc4 {x y z:Operand} {b:Bool} {e:Ent} (hb:b=false):Does P c ⟨some d,.pick x y z,ty,pos,af,gd⟩ ⟨[(x,.val (tB b)),(z,e)],[],some (d,some e),[],[]⟩:=
 Does.value rfl fun g h al a w η hrd _ s=>by
  have h1:a.eval x= .bool b:=(xa2 s hrd.1).1;subst hb;exact ⟨_,w,by simp only [execOp,h1,asBool,zbu,zbx,zbn,↓reduceIte,zfm],Ext.refl w,xa2 s hrd.2.1⟩
theorem zb7 {T:TypeId} (hT:P.underlying T=some .bool) (p q:Bool) (w:World):(Op.equal T (.bool p) (.bool q)).run P w= .ok (p==q) w:=by
 have key: ∀d,(Op.equalIn (d+1) T (.bool p) (.bool q)).run P w= .ok (p==q) w:=fun d=>by
  simp only [Op.equalIn,zbu,zcj hT,zbn,zbx]
 exact key 9999
theorem jb2 {T yT:TypeId} {x y:Operand} {p q:Bool} (hT:P.underlying T=some .bool):Does P c ⟨some d,.binOp .eql T x y yT,ty,pos,af,gd⟩ ⟨[(x,.val (tB p)),(y,.val (tB q))],[],some (d,some (.val (tB (p==q)))),[],[]⟩:=
 xi7 fun w=>by simp only [eqGuard_at_bool,binOp,zbu,zbx,zbn,zb7 hT]
theorem zu1 {T yT:TypeId} {x y:Operand} {p q:Bool} (hT:P.underlying T=some .bool):Does P c ⟨some d,.binOp .neq T x y yT,ty,pos,af,gd⟩ ⟨[(x,.val (tB p)),(y,.val (tB q))],[],some (d,some (.val (tB (!(p==q))))),[],[]⟩:=
 xi7 fun w=>by simp only [eqGuard_at_bool,binOp,zbu,zbx,zbn,zb7 hT]
theorem qt6 {T E:TypeId} (hT:P.underlying T=some (.slice E)) (A:Option Addr) (n cc:Nat) (w:World):(Op.equal T (.slice A n cc) (.slice none 0 0)).run P w= .ok A.isNone w:=by
 have key: ∀d,(Op.equalIn (d+1) T (.slice A n cc) (.slice none 0 0)).run P w= .ok A.isNone w:=fun d=>by
  cases A <;> simp only [Op.equalIn,zbu,zcj hT,zbn,zbx] <;> rfl
 exact key 9999
theorem za9 {T yT:TypeId} {x y:Operand} {k:IntKind} {m n:Int} (hm:0<=m) (hn:0 < n) (hr:k.wrap (m / n)=m / n):Does P c ⟨some d,.binOp .quo T x y yT,ty,pos,af,gd⟩ ⟨[(x,.val (tE (.int k m))),(y,.val (tE (.int k n)))],[],some (d,some (.val (tE (.int k (m / n))))),[],[]⟩:=
 ya8 (by omega) (by rw [Int.tdiv_eq_ediv_of_nonneg hm];exact hr)
theorem xj4 {T yT:TypeId} {x y:Operand} {k:IntKind} {m n:Int} (hm:0<=m) (hn:0 < n):Does P c ⟨some d,.binOp .rem T x y yT,ty,pos,af,gd⟩ ⟨[(x,.val (tE (.int k m))),(y,.val (tE (.int k n)))],[],some (d,some (.val (tE (.int k (m%n))))),[],[]⟩:=
 ya4 (by omega) (Int.tmod_eq_emod_of_nonneg hm)
theorem xt6 {f:FuncId} {xs:List Operand} {ps:List VP} (hl:xs.length=ps.length):
  Does P c ⟨some d,.makeFunc (.func f) #[] xs.toArray,ty,pos,af,gd⟩ ⟨xs.zip (ps.map Ent.own),[],some (d,some (.own (.fn f ps))),[],[]⟩:=
 Does.value rfl fun g h al a w η hrd _ s=>by
  have key: ∀(xs:List Operand) (ps:List VP),Rd g (xs.zip (ps.map Ent.own))->xs.length=ps.length->VP.sats (c.dom h η) w η ps (xs.map a.eval)/\ ∀k∈VP.supps ps,al k=true:=by
   intro xs
   induction xs with
   | nil=>intro ps _ hl;cases ps with
    | nil=>exact ⟨trivial,fun k hk=>by cases hk⟩
    | cons=>simp at hl
   | cons x r ih=>intro ps hr hl;cases ps with
    | nil=>simp at hl
    | cons p ps=>
     obtain ⟨h1,h2⟩:=xa2 s hr.1;obtain ⟨h3,h4⟩:=ih ps hr.2 (by simpa using hl);exact ⟨⟨h1,h3⟩,fun k hk=>by
      simp only [VP.supps,zbp] at hk;rcases hk with hk | hk
      ·exact h2 k hk
      ·exact h4 k hk⟩
  obtain ⟨h1,h2⟩:=key xs ps hrd hl;exact ⟨.func (.func f) #[] (xs.map a.eval).toArray,w,by simp [execOp,Instr.makeFunc,go_sem],Ext.refl w,⟨_,rfl,h1⟩,h2⟩
def ResOne (P:Program) (g:Slots) (h:Keys):ResultVar->Ty->Prop
 | .tmp s,t=> ∃t',g s=some (.val t')/\Le t' t
 | .cell s T,t=> ∃k T0 n agg t',g s=some (.own (.ptr k 0))/\h k=some ⟨T0,n,agg,[.val t']⟩/\TyI P T n agg/\Le t' t
def ResL (P:Program) (g:Slots) (h:Keys):List ResultVar->List Ty->Prop
 | [],[]=>True
 | r::rs,t::ts=>ResOne P g h r t/\ResL P g h rs ts
 | _,_=>False
def readR (tmps:Array Value):ResultVar->Sem Value
 | .tmp t=>pure (tmps.getD t undef)
 | .cell a t=>do loadVar t (<-asAddr (tmps.getD a undef))
theorem ResOne.run {g:Slots} {h:Keys} {al:Names} {a:Act} {w:World} {η:Env} (s:St' c g h al a w η): ∀{r:ResultVar} {t:Ty},ResOne P g h r t-> ∃v,(readR a.tmps r).run P w= .ok v w/\t.p (c.dom h η) w v
 | .tmp u,t,⟨t',h1,h2⟩=>⟨_,by simp [readR],h2 _ _ _ (xp4 s h1)⟩
 | .cell u T,t,⟨k,T0,n,agg,t',h1,h2,ti,hl⟩=>by
  have e1:a.tmps.getD u undef= .pointer (some ⟨η.b k,0,none⟩):=(s.slot u _ h1).2.2;obtain ⟨h3,h4,⟨h6,h7,h8,h9,h10⟩,h11⟩:=s.key k _ h2;simp only [zfp] at h6;simp only at h7 h8 h9 h10;obtain ⟨cs,q1,q2,q3⟩:=h10 (by omega);have hle:0+n<=cs.size:=by rw [q2,zcn];exact Nat.le_mul_of_pos_left _ (by omega)
  have q4:=q3 0 _ rfl;rw [zef] at q4;exact ⟨_,by simp only [readR,e1,asAddr,zbu,zbx,zbn,xq6 ti q1 hle h8],hl _ _ _ q4⟩
theorem ye7 {fn:Func} {rs:List ResultVar} (hr:fn.results=rs.toArray) {tmps:Array Value} {w:World} {vs:List Value} (hv:(rs.mapM (readR tmps)).run P w= .ok vs w):
  (results fn tmps).run P w= .ok (if h:vs.toArray.size=1 then vs.toArray[0] else .tuple vs.toArray) w:=by
 have h2:(results fn tmps)=(do
   let vs <-rs.toArray.mapM (readR tmps)
   pure (if h:vs.size=1 then vs[0] else .tuple vs)):=by
  simp only [results,hr];rfl
 rw [h2,List.mapM_toArray,zbu];simp only [Sem.run_map,hv,zbn];rfl
theorem ResL.run {g:Slots} {h:Keys} {al:Names} {a:Act} {w:World} {η:Env} (s:St' c g h al a w η): ∀{rs:List ResultVar} {ts:List Ty},ResL P g h rs ts-> ∃vs,(rs.mapM (readR a.tmps)).run P w= .ok vs w/\vs.length=rs.length/\Tup.all (c.dom h η) w ts vs
 | [],[],_=>⟨[],by simp,rfl,trivial⟩
 | r::rs,t::ts,⟨h1,h2⟩=>by
  obtain ⟨v,e1,e2⟩:=h1.run s;obtain ⟨vs,e3,e4,e5⟩:=ResL.run s h2;exact ⟨v::vs,by simp [List.mapM_cons,Sem.run_bind,e1,e3],by simp [e4],e2,e5⟩
 | [],_::_,h=>h.elim
 | _::_,[],h=>h.elim
theorem ji3 {fn:Func} {rs:List ResultVar} {ts:List Ty} {w0:World} {F:Dom} (hp:Plain c w0 F) (hr:fn.results=rs.toArray) (hn:Nat.beq rs.length 1=false) (H:ResL P g h rs ts):wk c .ret (Post P w0 F fn (tT ts)) g h al:=
 zr3 (.inl rfl) hp (fun c' a w η _ s=>by
  obtain ⟨vs,h1,h2,h3⟩:=H.run s;have hne: ¬vs.toArray.size=1:=by
   simp only [List.size_toArray,h2];exact ym8 hn
  have:=ye7 (P:=P) hr h1;rw [dif_neg hne] at this;exact ⟨_,this,vs,rfl,h3⟩)
theorem EN {N:Nat} {fn:Func} {rs:List ResultVar} {ts:List Ty} {w0:World} {F:Dom} (hr:fn.results=rs.toArray) (hn:Nat.beq rs.length 1=false) (H:ResL P g h rs ts):wk (Base.plain N w0 F) .ret (Post P w0 F fn (tT ts)) g h al:=ji3 Plain.mk' hr hn H
theorem E_retC {fn:Func} {r:ResultVar} {t:Ty} {w0:World} {F:Dom} (hp:Plain c w0 F) (hr:fn.results= #[r]) (H:ResOne P g h r t):wk c .ret (Post P w0 F fn t) g h al:=
 zr3 (.inl rfl) hp (fun c' a w η _ s=>by
  obtain ⟨vs,h1,h2,h3⟩:=ResL.run (rs:=[r]) (ts:=[t]) s ⟨H,trivial⟩;obtain ⟨v,rfl⟩: ∃v,vs=[v]:=by
   match vs,h2 with
   | [v],_=>exact ⟨v,rfl⟩
  exact ⟨_,ye7 (P:=P) (rs:=[r]) hr h1,h3.1⟩)
theorem EC {N:Nat} {fn:Func} {r:ResultVar} {t:Ty} {w0:World} {F:Dom} (hr:fn.results= #[r]) (H:ResOne P g h r t):wk (Base.plain N w0 F) .ret (Post P w0 F fn t) g h al:=E_retC Plain.mk' hr H
end
section
variable {P:Program} {c:Base} {g:Slots} {h:Keys} {al:Names} {Q:Exit->Act->World->Prop}
variable {d ty:Nat} {pos:String} {af:Array Edge} {gd:Option (Nat×Bool)}
theorem zm8: ∀(vs:List Value) (cs:Array Value) (o k:Nat),(vs.zipIdx k).foldl (fun cs (x:Value×Nat)=>cs.setIfInBounds (o+x.2) x.1) cs=putAt cs (o+k) vs
 | [],_,_,_=>rfl
 | v::r,cs,o,k=>by
  simp only [List.zipIdx_cons,List.foldl_cons,putAt];rw [zm8 r _ o (k+1)];rfl
theorem zo8 {pl:Nat->Option (Nat×Nat)} {cs:Array Value} {i o n:Nat} {v:Value} {r:List (Nat×Value)} (hp:pl i=some (o,n)) (hs:v.cells.size=n) (hle:o+n<=cs.size):
  Instr.fill pl cs ((i,v)::r)=Instr.fill pl (putAt cs o v.cells.toList) r:=by
 have e:(v.cells.zipIdx.foldl (fun cs (c,j)=>cs.setIfInBounds (o+j) c) cs)=putAt cs o v.cells.toList:=by
  rw [<-Array.foldl_toList,Array.toList_zipIdx];exact zm8 v.cells.toList cs o 0
 simp only [Instr.fill,hp];rw [if_neg (by rw [hs];simp;omega),<-e]
def Bld (pl:Nat->Option (Nat×Nat)):Ty->List (Nat×Ty)->Ty->Prop
 | t,[],r=>Le t r
 | t,(i,u)::ps,r=> ∃o n agg t2,pl i=some (o,n)/\Up t o n agg u t2/\Shape u n agg/\Bld pl t2 ps r
theorem Bld.fill {pl:Nat->Option (Nat×Nat)} {F:Dom} {w:World}: ∀{ps:List (Nat×Ty)} {t r:Ty} {cs:Array Value} {vs:List Value},Bld pl t ps r->t.p F w (.agg cs)->Tup.all F w (ps.map (·.2)) vs->
  ∃cs',Instr.fill pl cs ((ps.map (·.1)).zip vs)=some cs'/\r.p F w (.agg cs')
 | [],t,r,cs,[],hb,ht,_=>⟨cs,rfl,hb _ _ _ ht⟩
 | [],_,_,_,_::_,_,_,hv=>hv.elim
 | _::_,_,_,_,[],_,_,hv=>hv.elim
 | (i,u)::ps,t,r,cs,v::vs,⟨o,n,agg,t2,h1,h2,h3,h4⟩,ht,hv=>by
  have hf:=h3.flat hv.1;obtain ⟨h5,h6⟩:=h2 F w cs v ht hf hv.1;obtain ⟨cs',h7,h8⟩:=Bld.fill h4 h6 hv.2;refine ⟨cs',?_,h8⟩;rw [zcy,List.zip_cons_cons,zo8 h1 hf.1 h5];exact h7
structure BuI (P:Program) (T:TypeId) (pl:Nat->Option (Nat×Nat)) (z:Value):Prop where
  run: ∀(parts:Array (Nat×Value)) (w:World) (cs:Array Value),Instr.fill pl z.cells parts.toList=some cs->(Instr.build T parts).run P w= .ok (.agg cs) w
def plOf (P:Program) (fs:Array Field):Option (List (Nat×Nat)):=fs.toList.mapM fun f=>(P.info? f.type).map fun i=>(f.offset,i.size)
theorem qt9 {fs:List Field}: ∀{pl:List (Nat×Nat)} (w:World),(fs.mapM fun f=>(P.info? f.type).map fun i=>(f.offset,i.size))=some pl->
  (fs.mapM fun f=>(do pure (f.offset,<-Go.sizeOf f.type):Sem (Nat×Nat))).run P w= .ok pl w:=by
 induction fs with
 | nil=>intro pl w h;simp at h;subst h;simp
 | cons f r ih=>
  intro pl w h;simp only [List.mapM_cons,Option.bind_eq_bind] at h;cases hi:P.info? f.type with
  | none=>rw [hi] at h;simp at h
  | some i=>
   rw [hi] at h;simp only [zdm,Option.bind_some] at h;obtain ⟨pl',h1,h2⟩:=zfv.1 h;simp only [Option.pure_def,zck] at h2;subst h2;have hs:(Go.sizeOf f.type).run P w= .ok i.size w:=by simp [Go.sizeOf,typeInfo,hi,go_sem]
   simp only [List.mapM_cons,zbu,hs,zbn,zbx,ih w h1]
theorem yz7 (E:TypeId) (cs:Array Value) (w:World):(newRow E cs).run P w= .ok ⟨w.heap.size,0,none⟩ {w with heap:=w.heap.push (.cells cs E)}:=by
 simp [newRow,newObj,Sem.run,go_sem]
theorem yz4 {T:TypeId} {z:Value} (hz:(P.info? T).bind (·.zero)=some z) (w:World):(zeroValue T).run P w= .ok z w:=by
 obtain ⟨i,hi,hz'⟩:=zfv.1 hz;simp [zeroValue,typeInfo,hi,hz',go_sem]
theorem BuI.struct {T:TypeId} {fs:Array Field} {pl:List (Nat×Nat)} {z:Value} (hu:P.underlying T=some (.struct fs)) (hp:plOf P fs=some pl) (hz:(P.info? T).bind (·.zero)=some z):BuI P T (fun i=>pl[i]?) z:=by
 refine ⟨fun parts w cs hf=> ?_⟩;have h1:(fs.mapM fun f=>(do pure (f.offset,<-Go.sizeOf f.type):Sem (Nat×Nat))).run P w= .ok pl.toArray w:=by
  have:=qt9 (P:=P) (fs:=fs.toList) w hp;have e:fs=fs.toList.toArray:=by simp
  rw [e,List.mapM_toArray,Sem.run_map,this];rfl
 simp only [Instr.build,zbu,yz4 hz,zbn,zcj hu,h1];have e:(fun x:Nat=>pl.toArray[x]?)=fun i:Nat=>pl[i]? :=by funext i;simp
 rw [e,hf];simp
theorem ys5 {T:TypeId} {pl:Nat->Option (Nat×Nat)} {z:Value} {t r:Ty} {ps:List (Nat×Operand)} {ts:List (Nat×Ty)} (bu:BuI P T pl z) (hz: ∀F w,t.p F w z) (hag: ∃cs,z= .agg cs) (hl:ps.map (·.1)=ts.map (·.1)) (hb:Bld pl t ts r):
  Does P c ⟨some d,.build T ps.toArray,ty,pos,af,gd⟩ ⟨(ps.map (·.2)).zip ((ts.map (·.2)).map Ent.val),[],some (d,some (.val r)),[],[]⟩:=
 Does.value rfl fun g h al a w η hrd _ s=>by
  have hlen:ps.length=ts.length:=by simpa using congrArg List.length hl
  have hv:=Tup.all_of s (ps.map (·.2)) (ts.map (·.2)) hrd (by simpa using hlen);obtain ⟨cs,rfl⟩:=hag;obtain ⟨cs',h1,h2⟩:=hb.fill (F:=c.dom h η) (w:=w) (hz _ _) hv;refine ⟨.agg cs',w,?_,Ext.refl w,h2,fun j hj=>by cases hj⟩;have e:(ps.toArray.map fun (i,x)=>(i,a.eval x)).toList=(ts.map (·.1)).zip ((ps.map (·.2)).map a.eval):=by
   rw [<-hl];simp only [Array.toList_map,List.map_map];clear hrd hl hb hlen hv h1 h2
   induction ps with
   | nil=>rfl
   | cons p r ih=>simp [ih]
  simp only [execOp,zbu];rw [bu.run _ w cs' (by rw [e];exact h1)];rfl
theorem zf4 {es N:Nat} {agg:Bool} (h0:0 < es): ∀(vs:List Value) (j:Nat) (cs:Array Value),cs.size=N*es->j+vs.length<=N->(∀v∈vs,Flat es agg v)->
  ∃cs',Instr.fill (fun i=>some (i*es,es)) cs ((List.range' j vs.length).zip vs)=some cs'/\cs'.size=cs.size/\(∀i v,vs[i]? =some v->pick agg es cs' ((j+i)*es)=v)/\(∀i,i < j->pick agg es cs' (i*es)=pick agg es cs (i*es))
 | [],j,cs,_,_,_=>⟨cs,rfl,rfl,fun i v h=>by simp at h,fun _ _=>rfl⟩
 | v::vs,j,cs,hs,hl,hf=>by
  have hv:=hf v (by simp);have hle:j*es+es<=cs.size:=by rw [hs,<-zcw];exact zbz _ (by simp at hl;omega)
  have hvl:v.cells.toList.length=es:=by simpa using hv.1
  have h1:agg=false->es=1:=fun e=>(hv.2.2.2 e).2;obtain ⟨cs',e1,e2,e3,e4⟩:=zf4 h0 vs (j+1) (putAt cs (j*es) v.cells.toList) (by rw [xc8];exact hs) (by simp at hl;omega) fun u hu=>hf u (by simp [hu]);refine ⟨cs',?_,by rw [e2,xc8],fun i u hi=> ?_,fun i hi=> ?_⟩
  ·rw [zdb,List.range'_succ,List.zip_cons_cons,zo8 (by rfl) hv.1 hle];exact e1
  ·cases i with
   | zero=>
    simp only [zcp,zck] at hi;subst hi;rw [zeh,e4 j (by omega),xn8 hle hv]
   | succ i=>
    rw [show j+(i+1)=j+1+i from by omega];exact e3 i u (by simpa using hi)
  ·have hil:i*es+es<=j*es:=by rw [<-zcw];exact zbz _ hi
   rw [e4 i (by omega),xf6 (by omega) h1 (.inl hil)]
theorem yg5 {T E es by_:Nat} {agg:Bool} {z:Value} (sl:P.underlying T=some (.slice E)) (el:ElI P E es by_ agg z) (_hz:z.cells.size=es) (h0:0 < es) (vs:List Value) (hlen:vs.length*es<=16777216) (hf: ∀v∈vs,Flat es agg v) (w:World) (parts:Array (Nat×Value))
  (hp:parts.toList=(List.range vs.length).zip vs):
  ∃cs,(Instr.buildSlice T vs.length parts).run P w= .ok (.slice (some ⟨w.heap.size,0,none⟩) vs.length vs.length) {w with heap:=w.heap.push (.cells cs E)}/\cs.size=vs.length*es/\ ∀i v,vs[i]? =some v->pick agg es cs (i*es)=v:=by
 obtain ⟨i,hi,hs,hby,hz'⟩:=el.parts;obtain ⟨cs,e1,e2,e3,_⟩:=zf4 (N:=vs.length) h0 vs 0 (madeCells z.cells (vs.length*es)) (size_madeCells _ _) (by omega) hf;refine ⟨cs,?_,by rw [e2,size_madeCells],fun i v hi=>by have:=e3 i v hi;rwa [zcn] at this⟩;have hbig: ¬vs.length*es > 2 ^ 24:=by omega
 have hz1:(P.info? E).bind (·.zero)=some z:=el.zero;by_cases hz0:vs.length*es=0
 ·have h1:vs=[]:=zda (by
   rcases Nat.mul_eq_zero.1 hz0 with h | h
   ·exact h
   ·omega)
  subst h1;have hcs:cs= #[]:=Array.eq_empty_of_size_eq_zero (by rw [e2];simp [size_madeCells]);subst hcs;have hf0:Instr.fill (fun i=>some (i*es,es)) ((Array.range (([]:List Value).length*es)).map ((#[]:Array Value)[· %(#[]:Array Value).size]!)) parts.toList=some #[]:=by
   rw [hp];simp [Instr.fill]
  simp only [Instr.buildSlice,zbu,zcj sl,zbn,el.el.size_run w,if_neg hbig,if_pos hz0,zbx,hf0,yz7]
 ·have e1':Instr.fill (fun i=>some (i*es,es)) ((Array.range (vs.length*es)).map (z.cells[· %z.cells.size]!)) parts.toList=some cs:=by
   rw [hp,List.range_eq_range'];exact e1
  simp only [Instr.buildSlice,zbu,zcj sl,zbn,el.el.size_run w,if_neg hbig,if_neg hz0,yz4 hz1,zbx,e1',yz7]
theorem zm9 {T E es by_ n:Nat} {agg:Bool} {z:Value} {α:Type} {f:α->Ty} {ps:List (Nat×Operand)} {ts:List Ty} (ys:List α) (sl:P.underlying T=some (.slice E)) (el:ElI P E es by_ agg z) (hz:Flat es agg z) (h0:Nat.blt 0 es=true) (hs: ∀y,Shape (f y) es agg)
  (hp:ps.map (·.1)=List.range n) (hn:ts.length=n) (hy:ys.length=n) (hlen:Nat.ble (n*es) 16777216=true) (hle: ∀(i:Nat) (t:Ty) (y:α),ts[i]? =some t->ys[i]? =some y->Le t (f y)):
  Does P c ⟨some d,.buildSlice T n ps.toArray,ty,pos,af,gd⟩ ⟨(ps.map (·.2)).zip (ts.map Ent.val),[],some (d,some (.val (tL es agg f ys))),[],[]⟩:=
 Does.value rfl fun g h al a w η hrd _ s=>by
  have h0':0 < es:=by simpa using h0
  have hpl:ps.length=n:=by simpa using congrArg List.length hp
  have hv:=Tup.all_of s (ps.map (·.2)) ts hrd (by simp [hpl,hn]);obtain ⟨vs,hvs⟩: ∃vs,(ps.map (·.2)).map a.eval=vs:=⟨_,rfl⟩
  rw [hvs] at hv;have hvl:vs.length=n:=by rw [<-hvs];simpa using hpl
  have hget: ∀(i:Nat) (v:Value) (y:α),vs[i]? =some v->ys[i]? =some y->(f y).p (c.dom h η) w v:=fun i v y hi hyi=>by
   have hlt:i < ts.length:=by have:=(zbo.1 hi).1;omega
   obtain ⟨v',h1,h2⟩:=Tup.get ts vs i _ hv (zbi hlt);rw [hi] at h1;cases h1;exact hle i _ y (zbi hlt) hyi _ _ _ h2
  have hflat: ∀v∈vs,Flat es agg v:=fun v hv'=>by
   obtain ⟨i,hi⟩:=zeb hv';have hlt:i < ys.length:=by have:=(zbo.1 hi).1;omega
   exact (hs _).flat (hget i v _ hi (zbi hlt))
  have hparts:(ps.toArray.map fun (i,x)=>(i,a.eval x)).toList=(List.range vs.length).zip vs:=by
   rw [hvl,<-hp,<-hvs];simp only [Array.toList_map,List.map_map];clear hrd hp hpl hv hvs
   induction ps with
   | nil=>rfl
   | cons p r ih=>simp [ih]
  obtain ⟨cs,h1,h2,h3⟩:=yg5 (P:=P) sl el hz.1 h0' vs (by rw [hvl];exact zdo hlen) hflat w _ hparts;rw [hvl] at h1;have hext:=Ext.push w (.cells cs E);refine ⟨.slice (some ⟨w.heap.size,0,none⟩) n n,{w with heap:=w.heap.push (.cells cs E)},by simp only [execOp,zbu,h1,zbn,zbx],hext,?_,fun j hj=>by cases hj⟩;refine ⟨some ⟨w.heap.size,0,none⟩,n,by rw [hy],by omega,by have:=zdo hlen;have:n<=n*es:=Nat.le_mul_of_pos_right _ h0';omega,?_⟩;refine .inr ⟨_,0,rfl,⟨.inl s.fr.size,fun ho=>by have:=s.olt ho;omega,fun hv=>by have:=(s.fr.vnew _ hv).1;omega,fun hv=>by have:=s.vol _ hv;omega⟩,fun i y hi=> ?_⟩;have hil:i < n:=by have:=(zbo.1 hi).1;omega
  have hvi:vs[i]? =some (vs[i]'(by omega)):=zbi _;refine ⟨_,⟨cs,E,(0,0),by show (w.heap.push _)[w.heap.size]? =_;simp,?_,h0',fun e=>((hs y).flat (hget i _ y hvi hi)).2.2.2 e |>.2,rfl⟩,?_⟩
  ·rw [h2,zcn,<-zcw];exact zbz _ (by omega)
  ·rw [zcn,h3 i _ hvi];exact (f y).mono (hget i _ y hvi hi) fun b o hb hl _=>⟨hb,(hext.block b (xa7 hl)).trans hl⟩
theorem xj0 {T E es by_ n k:Nat} {agg:Bool} {z:Value} {ps:List (Nat×Operand)} {ents:List Ent} (sl:P.underlying T=some (.slice E)) (el:ElI P E es by_ agg z) (hz:Flat es agg z) (h0:Nat.blt 0 es=true) (hs: ∀e∈ents,ShapeE e es agg)
  (hp:ps.map (·.1)=List.range n) (hn:ents.length=n) (hlen:Nat.ble (n*es) 16777216=true):
  Does P c ⟨some d,.buildSlice T n ps.toArray,ty,pos,af,gd⟩ ⟨(ps.map (·.2)).zip ents,[],some (d,some (.own (.sl k es 0 n))),[(k,some ⟨E,es,agg,ents⟩)],[k]⟩:=by
 intro g h al a w hpre ⟨η,s⟩;have h0':0 < es:=by simpa using h0
 have hpl:ps.length=n:=by simpa using congrArg List.length hp
 obtain ⟨vs,hvs⟩: ∃vs,(ps.map (·.2)).map a.eval=vs:=⟨_,rfl⟩
 have hvl:vs.length=n:=by rw [<-hvs];simpa using hpl
 have key: ∀(xs:List Operand) (es:List Ent),Rd g (xs.zip es)->xs.length=es.length-> ∀(i:Nat) (x:Operand) (e:Ent),xs[i]? =some x->es[i]? =some e->look g x=some e:=by
  intro xs
  induction xs with
  | nil=>intro es _ _ i x e hx;simp at hx
  | cons x r ih=>intro es hr hl i y e hx he;cases es with
   | nil=>simp at hl
   | cons e' es=>
    cases i with
    | zero=>
     simp only [zcp,zck] at hx he;subst hx;subst he;exact hr.1
    | succ i=>exact ih es hr.2 (by simpa using hl) i y e (by simpa using hx) (by simpa using he)
 have hget: ∀(i:Nat) (v:Value) (e:Ent),vs[i]? =some v->ents[i]? =some e->e.sat (c.dom h η) w η v/\ ∀k∈e.supp,al k=true:=fun i v e hi he=>by
  have hlt:i < (ps.map (·.2)).length:=by have:=(zbo.1 hi).1;simp;omega
  have:=key _ _ hpre.rd (by simp [hpl,hn]) i _ e (zbi hlt) he;rw [<-hvs,zbs,zbi hlt] at hi;simp only [zdm,zck] at hi;rw [<-hi];exact xa2 s this
 have hflat: ∀v∈vs,Flat es agg v:=fun v hv'=>by
  obtain ⟨i,hi⟩:=zeb hv';have hlt:i < ents.length:=by have:=(zbo.1 hi).1;omega
  exact (hs _ (zfa hlt)).flat (hget i v _ hi (zbi hlt)).1
 have hparts:(ps.toArray.map fun (i,x)=>(i,a.eval x)).toList=(List.range vs.length).zip vs:=by
  rw [hvl,<-hp,<-hvs];simp only [Array.toList_map,List.map_map];clear hpre hp hpl hvs
  induction ps with
  | nil=>rfl
  | cons p r ih=>simp [ih]
 obtain ⟨cs,h1,h2,h3⟩:=yg5 (P:=P) sl el hz.1 h0' vs (by rw [hvl];exact zdo hlen) hflat w _ hparts;rw [hvl] at h1;have hagg:agg=false->es=1:=fun e=>(hz.2.2.2 e).2;have hmax:n<=9223372036854775807:=by have:=zdo hlen;have:n<=n*es:=Nat.le_mul_of_pos_right _ h0';omega
 have hnew:=s.new k hpre.nk.1 ⟨E,es,agg,ents⟩ cs n (by rw [h2,hvl]) (by simp [hn]) h0' hagg hmax
  (fun j hj=>by
   simp only [HEnt.supp,zcc] at hj;obtain ⟨e,he,hj⟩:=hj;obtain ⟨i,hi⟩:=zeb he;have hlt:i < vs.length:=by have:=(zbo.1 hi).1;omega
   exact (hget i _ e (zbi hlt) hi).2 j hj)
  (fun i e hi=>by
   have hlt:i < vs.length:=by have:=(zbo.1 hi).1;simp only at this;omega
   have hvi:vs[i]? =some (vs[i]'hlt):=zbi hlt;show e.sat _ _ _ (pick agg es cs (i*es));rw [h3 i _ hvi];exact (hget i _ e hvi hi).1)
 refine xd0 (v:= .slice (some ⟨w.heap.size,0,none⟩) n n) (w':={w with heap:=w.heap.push (.cells cs E)}) (by simp only [execOp,zbu,h1,zbn,zbx]) ?_;refine ⟨_,hnew.put (hpre.d _ rfl) (e:= .own (.sl k es 0 n)) ⟨some ⟨w.heap.size,0,none⟩,by simp [Env.set_c],by simp [Env.set_c],fun _=>by simp [Env.set_b]⟩ fun j hj=> ?_⟩;simp only [Ent.supp,VP.supp,zbj] at hj;subst hj;simp
theorem wa3 {T E es by_:Nat} {agg:Bool} {z:Value} {α:Type} {f:α->Ty} {y0:α} {x y:Operand} {kl kc:IntKind} {l m:Int} (n q:Nat) (sl:P.underlying T=some (.slice E)) (el:ElI P E es by_ agg z) (ht: ∀F w,(f y0).p F w z) (he:Shape (f y0) es agg) (h0:Nat.blt 0 es=true)
  (hl:l=(n:Int)) (hm:m=(q:Int)) (hnq:n<=q) (hb:by_*q<=281474976710656) (h63:q<=9223372036854775807) {ys:List α} (hys:List.replicate n y0=ys):
  Does P c ⟨some d,.makeSlice T x y,ty,pos,af,gd⟩ ⟨[(x,.val (tE (.int kl l))),(y,.val (tE (.int kc m)))],[],some (d,some (.val (tL es agg f ys))),[],[]⟩:=
 Does.value rfl fun g h al a w η hrd _ s=>by
  subst hys hl hm;have h1:a.eval x= .int kl n:=(xa2 s hrd.1).1;have h2:a.eval y= .int kc q:=(xa2 s hrd.2.1).1;obtain ⟨i,hi,hs,hby,hz⟩:=el.parts;have hfl:=he.flat (ht (c.dom h η) w);have h0':0 < es:=by simpa using h0
  have hr:=run_make (P:=P) w T E i z sl hi hz kl kc n q (by omega) (by omega) (by rw [hby];have:=hb;omega) (by omega);simp only [Int.toNat_natCast,hs] at hr;have hext:=Ext.push w (.cells (madeCells z.cells (q*es)) E);refine ⟨.slice (some ⟨w.heap.size,0,none⟩) n q,{w with heap:=w.heap.push (.cells (madeCells z.cells (q*es)) E)},by simp only [execOp,h1,h2,zbu,hr,zbn,zbx];rfl,hext,?_,fun j hj=>by cases hj⟩;refine ⟨some ⟨w.heap.size,0,none⟩,q,by simp,by simpa using hnq,h63,.inr ⟨_,0,rfl,⟨.inl s.fr.size,fun ho=>by have:=s.olt ho;omega,fun hv=>by have:=(s.fr.vnew _ hv).1;omega,fun hv=>by have:=s.vol _ hv;omega⟩,fun j v hj=> ?_⟩⟩;have hjn:j < n:=by have:=(zbo.1 hj).1;simpa using this
  simp only [List.getElem?_replicate,hjn,↓reduceIte,zck] at hj;subst hj;refine ⟨z,⟨madeCells z.cells (q*es),E,(0,0),by show (w.heap.push _)[w.heap.size]? =_;simp,?_,h0',fun e=>(hfl.2.2.2 e).2,?_⟩,ht _ _⟩
  ·rw [size_madeCells,zcn,<-zcw];exact zbz _ (by omega)
  ·rw [zcn,zp0 hfl h0' (by omega)]
theorem zc6 {x y:Operand} {aT:Array TypeId} {k:IntKind} {m n:Int}:Does P c ⟨some d,.call {callee:= .builtin .max,args:= #[x,y],argTypes:=aT},ty,pos,af,gd⟩ ⟨[(x,.val (tE (.int k m))),(y,.val (tE (.int k n)))],[],some (d,some (.val (tE (.int k (max m n))))),[],[]⟩:=
 Does.value rfl fun g h al a w η hrd _ s=>by
  have h1:a.eval x= .int k m:=(xa2 s hrd.1).1;have h2:a.eval y= .int k n:=(xa2 s hrd.2.1).1;refine ⟨_,w,?_,Ext.refl w,rfl,fun j hj=>by cases hj⟩;have e:(if n > m then n else m)=max m n:=by split <;> omega
  simp only [execOp,resolve,invoke,builtin,zcs,zcy,zfg,h1,h2];simp [Builtin.max_,Builtin.max2,go_sem,e]
theorem zt2 {x y:Operand} {aT:Array TypeId} {k:IntKind} {m n:Int}:Does P c ⟨some d,.call {callee:= .builtin .min,args:= #[x,y],argTypes:=aT},ty,pos,af,gd⟩ ⟨[(x,.val (tE (.int k m))),(y,.val (tE (.int k n)))],[],some (d,some (.val (tE (.int k (min m n))))),[],[]⟩:=
 Does.value rfl fun g h al a w η hrd _ s=>by
  have h1:a.eval x= .int k m:=(xa2 s hrd.1).1;have h2:a.eval y= .int k n:=(xa2 s hrd.2.1).1;refine ⟨_,w,?_,Ext.refl w,rfl,fun j hj=>by cases hj⟩;have e:(if n < m then n else m)=min m n:=by split <;> omega
  simp only [execOp,resolve,invoke,builtin,zcs,zcy,zfg,h1,h2];simp [Builtin.min_,Builtin.min2,go_sem,e]
end
theorem Bc {pl:Nat->Option (Nat×Nat)} {fs:List Fd} {t0 t r:Ty} {ts:List (Nat×Ty)} {n o:Nat} {agg:Bool} (i:Nat) (hp:pl i=some (o,n)) (hi:fs[i]? =some ⟨n,agg,t0⟩) (ho:Fd.off fs i=o) [hs:Shape t n agg] (h:Bld pl (tS (fs.set i ⟨n,agg,t⟩)) ts r):Bld pl (tS fs) ((i,t)::ts) r:=⟨_,_,_,_,hp,Up.f i hi ho rfl,hs,h⟩
theorem xd3 {P:Program} {c:Base} {d ty:Nat} {pos:String} {af:Array Edge} {gd:Option (Nat×Bool)} {T:TypeId} {pl:Nat->Option (Nat×Nat)} {z:Value} {t r:Ty} {ps:List (Nat×Operand)} {ts:List (Nat×Ty)} (bu:BuI P T pl z) (hz: ∀F w,t.p F w z) (hb:Bld pl t ts r) (hag: ∃cs,z= .agg cs:=by exact ⟨_,rfl⟩) (hl:ps.map (·.1)=ts.map (·.1):=by rfl):
 Does P c ⟨some d,.build T ps.toArray,ty,pos,af,gd⟩ ⟨(ps.map (·.2)).zip ((ts.map (·.2)).map Ent.val),[],some (d,some (.val r)),[],[]⟩:=ys5 bu hz hag hl hb
def SatL (F:Dom) (w:World) (η:Env):List Ent->List Value->Prop
 | [],[]=>True
 | e::r,v::s=>e.sat F w η v/\SatL F w η r s
 | _,_=>False
def AllK (F:Dom) (w:World) (η:Env) (H:List (Nat×HEnt)):Prop:= ∀x∈H,x.2.sat F w η x.1
def OwnK (η:Env) (H:List (Nat×HEnt)):Dom:=fun b=> ∃x∈H,0 < η.c x.1/\b=η.b x.1
def InjK (η:Env) (H:List (Nat×HEnt)):Prop:= ∀x∈H,∀y∈H,x.1≠y.1->0 < η.c x.1->0 < η.c y.1->η.b x.1≠η.b y.1
structure Out (F:Dom) (w:World) (η:Env) (H:List (Nat×HEnt)) (re:Ent) (H':List (Nat×HEnt)) (nn:List Nat) (v:Value) (w':World) (η':Env):Prop where
  stp:Stp (OwnK η H) w w'
  same: ∀k,k∉nn->η'.b k=η.b k/\η'.c k=η.c k
  res:re.sat (fun b=>(w.heap.size<=b∨F b)/\ ¬OwnK η' H' b) w' η' v
  keys:AllK (fun b=>(w.heap.size<=b∨F b)/\ ¬OwnK η' H' b) w' η' H'
  inj:InjK η' H'
  new: ∀b,OwnK η' H' b->OwnK η H b∨w.heap.size<=b
def CtG (P:Program) (f:FuncId) (H:List (Nat×HEnt)) (ps:List Ent) (re:Ent) (H':List (Nat×HEnt)) (nn:List Nat):Prop:=
 ∀(F:Dom) (w:World) (η:Env) (vs:List Value),SatL F w η ps vs->AllK F w η H->InjK η H->(∀b,F b-> ¬OwnK η H b)->
  Calls P f vs.toArray w fun e w'=> ∃v η',e= .returned v/\Out F w η H re H' nn v w' η'
def suppE (ps:List Ent):List Nat:=ps.flatMap Ent.supp
def suppH (H:List (Nat×HEnt)):List Nat:=H.flatMap fun x=>x.1::x.2.supp
def subN (l m:List Nat):Bool:=l.all fun k=>memN k m
theorem xe8 {l m:List Nat} (h:subN l m=true): ∀k∈l,k∈m:=fun k hk=>xb2.1 (zdk.1 h k hk)
def SupX (ts:List Ent) (l:List Nat):Prop:= ∀k∈ts.flatMap Ent.supp,k∈l
def SupHs:List (Nat×HEnt)->List Nat->Prop
 | [],_=>True
 | x::r,l=>(memN x.1 l=true/\SupX x.2.ts l)/\SupHs r l
theorem SupX.lit {ts:List Ent} {l:List Nat} (h:subN (ts.flatMap Ent.supp) l=true):SupX ts l:=xe8 h
theorem SupX.map {α:Type} {f:α->Ty} {xs:List α} {l:List Nat}:SupX (xs.map fun x=> .val (f x)) l:=fun k hk=>by
 simp only [zcc,zci] at hk;obtain ⟨e,⟨x,_,rfl⟩,hk⟩:=hk;cases hk
theorem SupHs.spec: ∀{H:List (Nat×HEnt)} {l:List Nat},SupHs H l-> ∀k∈suppH H,k∈l
 | [],_,_,k,hk=>by cases hk
 | x::r,l,h,k,hk=>by
  simp only [suppH,zed,zbp,zbr] at hk;rcases hk with (rfl | hk) | hk
  ·exact xb2.1 h.1.1
  ·exact h.1.2 k hk
  ·exact SupHs.spec h.2 k hk
def ykB (yk:Option Nat) (l:List Nat):Bool:=match yk with | some k=> !memN k l | none=>true
mutual
theorem VP.ren_supp1 {ρ:Nat->Nat}: ∀p:VP,∀j∈(p.ren ρ).supp,∃k∈p.supp,j=ρ k
  | .ptr k off,j,hj=>by simp only [VP.ren,VP.supp,zbj] at hj ⊢;exact ⟨k,rfl,hj⟩
  | .sl k es off len,j,hj=>by simp only [VP.ren,VP.supp,zbj] at hj ⊢;exact ⟨k,rfl,hj⟩
  | .fn f caps,j,hj=>by simp only [VP.ren,VP.supp] at hj ⊢;exact VP.ren_supps caps j hj
  | .ty u,j,hj=>by simp only [VP.ren,VP.supp] at hj;cases hj
  | .st ns fs,j,hj=>by simp only [VP.ren,VP.supp] at hj ⊢;exact VP.ren_supps fs j hj
  | .tup fs,j,hj=>by simp only [VP.ren,VP.supp] at hj ⊢;exact VP.ren_supps fs j hj
theorem VP.ren_supps {ρ:Nat->Nat}: ∀ps:List VP,∀j∈VP.supps (VP.rens ρ ps),∃k∈VP.supps ps,j=ρ k
  | [],j,hj=>by simp only [VP.rens,VP.supps] at hj;cases hj
  | p::r,j,hj=>by
    simp only [VP.rens,VP.supps,zbp] at hj ⊢;rcases hj with hj | hj
    · obtain ⟨k,hk,e⟩:=VP.ren_supp1 p j hj
      exact ⟨k,.inl hk,e⟩
    · obtain ⟨k,hk,e⟩:=VP.ren_supps r j hj
      exact ⟨k,.inr hk,e⟩
end
theorem VP.ren_supp {ρ:Nat->Nat}:(∀p:VP,∀j∈(p.ren ρ).supp,∃k∈p.supp,j=ρ k)/\(∀ps:List VP,∀j∈VP.supps (VP.rens ρ ps),∃k∈VP.supps ps,j=ρ k):=⟨VP.ren_supp1,VP.ren_supps⟩
section
variable {P:Program} {c:Base} {g:Slots} {h:Keys} {al:Names}
def Env.mix (η:Env) (ρ:Nat->Nat) (nn:List Nat) (η':Env):Env:=
 ⟨fun j=>match nn.find? (fun n=>Nat.beq (ρ n) j) with | some n=>η'.b n | none=>η.b j,fun j=>match nn.find? (fun n=>Nat.beq (ρ n) j) with | some n=>η'.c n | none=>η.c j,η.vo⟩
theorem wc9 {η η':Env} {ρ:Nat->Nat} {nn:List Nat} (hi:injN ρ nn=true) {n:Nat} (hn:n∈nn):(η.mix ρ nn η').b (ρ n)=η'.b n/\(η.mix ρ nn η').c (ρ n)=η'.c n:=by
 have:nn.find? (fun m=>Nat.beq (ρ m) (ρ n))=some n:=by
  cases hf:nn.find? (fun m=>Nat.beq (ρ m) (ρ n)) with
  | none=>
   have:=List.find?_eq_none.1 hf n hn;simp at this
  | some m=>
   have h1:=List.find?_some hf;have h2:=List.mem_of_find?_eq_some hf;have h3:=zds h1;by_cases hmn:m=n
   ·rw [hmn]
   ·exact absurd h3 (xm4 hi m n h2 hn hmn)
 simp only [Env.mix,this,and_self]
theorem wg2 {η η':Env} {ρ:Nat->Nat} {nn:List Nat} {j:Nat} (hj: ∀n∈nn,ρ n≠j):(η.mix ρ nn η').b j=η.b j/\(η.mix ρ nn η').c j=η.c j:=by
 have:nn.find? (fun m=>Nat.beq (ρ m) j)=none:=List.find?_eq_none.2 fun m hm hb=>hj m hm (zds hb);simp only [Env.mix,this,and_self]
def kwOf (ρ:Nat->Nat) (H H':List (Nat×HEnt)):List (Nat×Option HEnt):=H.map (fun x=>(ρ x.1,none))++H'.map (fun x=>(ρ x.1,some (x.2.ren ρ)))
theorem xw0 {ρ:Nat->Nat} {H H':List (Nat×HEnt)} {j:Nat} {y:HEnt} (hy:updK h (kwOf ρ H H') j=some y):(∃x∈H',j=ρ x.1/\y=x.2.ren ρ)∨(h j=some y/\ ∀x∈H,j≠ρ x.1):=by
 have key: ∀(l:List (Nat×Option HEnt)) (h:Keys),updK h l j=some y->(∃x∈l,x.1=j/\x.2=some y)∨(h j=some y/\ ∀x∈l,x.1≠j):=by
  intro l
  induction l with
  | nil=>intro h hy;exact .inr ⟨hy,fun x hx=>by cases hx⟩
  | cons x r ih=>
   intro h hy;rcases ih _ hy with ⟨z,hz,h1,h2⟩ | ⟨h1,h2⟩
   ·exact .inl ⟨z,zcd _ hz,h1,h2⟩
   ·by_cases hx:x.1=j
    ·subst hx;rw [x7] at h1;exact .inl ⟨x,by simp,rfl,h1⟩
    ·rw [x3 _ _ _ (fun e=>hx e.symm)] at h1;exact .inr ⟨h1,fun z hz=>by
      rcases zbr.1 hz with rfl | hz
      ·exact hx
      ·exact h2 z hz⟩
 rcases key _ _ hy with ⟨z,hz,h1,h2⟩ | ⟨h1,h2⟩
 ·simp only [kwOf,zbp,zci] at hz;rcases hz with ⟨x,hx,rfl⟩ | ⟨x,hx,rfl⟩
  ·cases h2
  ·simp only [zck] at h2;exact .inl ⟨x,hx,h1.symm,h2.symm⟩
 ·exact .inr ⟨h1,fun x hx e=>h2 (ρ x.1,none) (by simp only [kwOf,zbp,zci];exact .inl ⟨x,hx,rfl⟩) e.symm⟩
variable {a:Act} {w w':World} {η:Env}
theorem St'.back (s:St' c g h al a w η) (ρ:Nat->Nat) {H H':List (Nat×HEnt)} {re:Ent} {nn:List Nat} {v:Value} {η':Env} (hH: ∀x∈H,h (ρ x.1)=some (x.2.ren ρ)) (ho:Out (c.dom h η) w (η.pre ρ) H re H' nn v w' η')
  (hnn: ∀n∈nn,al (ρ n)=false) (hi1:injN ρ nn=true) (hal: ∀k∈re.supp++suppH H',k∈nn∨al (ρ k)=true) (hyk:ykB c.yk (H'.map fun x=>ρ x.1)=true):
  St' c g (updK h (kwOf ρ H H')) (fun j=>memN j (nn.map ρ) || al j) a w' (η.mix ρ nn η')/\(re.ren ρ).sat (c.dom (updK h (kwOf ρ H H')) (η.mix ρ nn η')) w' (η.mix ρ nn η') v:=by
 have hne: ∀j,al j=true-> ∀n∈nn,ρ n≠j:=fun j hj n hn e=>by rw [<-e,hnn n hn] at hj;cases hj
 have hag: ∀j,al j=true->(η.mix ρ nn η').b j=η.b j/\(η.mix ρ nn η').c j=η.c j:=fun j hj=>wg2 (hne j hj);have hpre: ∀k∈re.supp++suppH H',(η.mix ρ nn η').b (ρ k)=η'.b k/\(η.mix ρ nn η').c (ρ k)=η'.c k:=fun k hk=>by
  by_cases hkn:k∈nn
  ·exact wc9 hi1 hkn
  ·have h1:=hag (ρ k) ((hal k hk).resolve_left hkn);obtain ⟨h2,h3⟩:=ho.same k hkn;exact ⟨h1.1.trans h2.symm,h1.2.trans h3.symm⟩
 have hname: ∀x∈H',x.1∈re.supp++suppH H':=fun x hx=>zbp.2 (.inr (zcc.2 ⟨x,hx,by simp⟩));have hsup: ∀x∈H',∀k∈x.2.supp,k∈re.supp++suppH H':=fun x hx k hk=>zbp.2 (.inr (zcc.2 ⟨x,hx,by simp [hk]⟩));have hownH: ∀b,OwnK (η.pre ρ) H b->Own h η b:=by
  rintro b ⟨x,hx,hc,rfl⟩;exact ⟨ρ x.1,_,hH x hx,hc,rfl⟩
 have hown': ∀b,Own (updK h (kwOf ρ H H')) (η.mix ρ nn η') b->OwnK η' H' b∨ ∃j y,h j=some y/\(∀x∈H,j≠ρ x.1)/\0 < η.c j/\b=η.b j:=by
  rintro b ⟨j,y,hy,hc,rfl⟩;rcases xw0 hy with ⟨x,hx,rfl,rfl⟩ | ⟨h1,h2⟩
  ·obtain ⟨e1,e2⟩:=hpre x.1 (hname x hx);rw [e2] at hc;exact .inl ⟨x,hx,hc,e1⟩
  ·obtain ⟨e1,e2⟩:=hag j (s.key j y h1).1;rw [e2] at hc;rw [e1];exact .inr ⟨j,y,h1,h2,hc,rfl⟩
 have hdomF: ∀b,((w.heap.size<=b∨c.dom h η b)/\ ¬OwnK η' H' b)->c.dom (updK h (kwOf ρ H H')) (η.mix ρ nn η') b:=fun b hb=>by
  refine ⟨?_,fun ho'=> ?_,fun hv=> ?_,fun hv=> ?_⟩
  ·rcases hb.1 with h1 | h1
   ·exact .inl (zdc s.fr.size h1)
   ·exact h1.1
  ·rcases hown' b ho' with h1 | ⟨j,y,h1,_,h3,rfl⟩
   ·exact hb.2 h1
   ·rcases hb.1 with h4 | h4
    ·have:=s.klt h1 h3;omega
    ·exact h4.2.1 ⟨j,y,h1,h3,rfl⟩
  ·rcases hb.1 with h4 | h4
   ·have:=(s.fr.vnew b hv).1;omega
   ·exact h4.2.2.1 hv
  ·rcases hb.1 with h4 | h4
   ·have:=s.vol b hv;omega
   ·exact h4.2.2.2 hv
 have hKF:Keep (fun b=>(w.heap.size<=b∨c.dom h η b)/\ ¬OwnK η' H' b) (c.dom (updK h (kwOf ρ H H')) (η.mix ρ nn η')) w' w':=fun b o hb hl _=>⟨hdomF b hb,hl⟩
 have hres:(re.ren ρ).sat (c.dom (updK h (kwOf ρ H H')) (η.mix ρ nn η')) w' (η.mix ρ nn η') v:=
  Ent.sat_ren.2 (Ent.sat_go ho.res hKF fun k hk=>hpre k (zbp.2 (.inl hk)))
 refine ⟨s.turn (fun j hj=>by simp [hj]) hag rfl (ho.stp.mono fun b _ hb=>hownH b hb) (fun b hb=> ?_) (fun j y hy hK=> ?_) (fun j j' y y' hy hy' hne' hc hc'=> ?_) (fun j y hj hy=> ?_),hres⟩
 ·rcases hown' b hb with ⟨x,hx,hc,rfl⟩ | ⟨j,y,h1,_,h3,rfl⟩
  ·exact ⟨HEnt.lt (ho.keys x hx) hc,(ho.new _ ⟨x,hx,hc,rfl⟩).imp (hownH _) id⟩
  ·exact ⟨zce (s.klt h1 h3) ho.stp.size,.inl ⟨j,y,h1,h3,rfl⟩⟩
 ·rcases xw0 hy with ⟨x,hx,rfl,rfl⟩ | ⟨h1,h2⟩
  ·have hal': ∀k∈re.supp++suppH H',(memN (ρ k) (nn.map ρ) || al (ρ k))=true:=fun k hk=>by
    rcases hal k hk with h1 | h1
    ·rw [xb2.2 (zcz h1)];rfl
    ·rw [h1,Bool.or_true]
   refine ⟨hal' x.1 (hname x hx),fun j hj=> ?_,HEnt.sat_ren.2 (HEnt.sat_go (ho.keys x hx) (fun _=>rfl) hKF (hpre x.1 (hname x hx)) fun k hk=>hpre k (hsup x hx k hk))⟩;have key: ∀ts:List Ent,(∀k∈ts.flatMap Ent.supp,k∈x.2.supp)-> ∀j∈(ts.map (Ent.ren ρ)).flatMap Ent.supp,∃k∈x.2.supp,j=ρ k:=by
    have hvp:(∀p:VP,∀j∈(p.ren ρ).supp,∃k∈p.supp,j=ρ k)/\(∀ps:List VP,∀j∈VP.supps (VP.rens ρ ps),∃k∈VP.supps ps,j=ρ k):=VP.ren_supp;intro ts hts j hj;rw [zcc] at hj;obtain ⟨e,he,hj⟩:=hj;obtain ⟨e0,he0,rfl⟩:=zci.1 he;cases e0 with
    | val t=>cases hj
    | own p=>
     obtain ⟨k,hk,rfl⟩:=hvp.1 p j hj;exact ⟨k,hts k (zcc.2 ⟨_,he0,hk⟩),rfl⟩
   obtain ⟨k,hk,rfl⟩:=key x.2.ts (fun k hk=>hk) j hj;exact hal' k (hsup x hx k hk)
  ·obtain ⟨k1,k2,k3,k4⟩:=s.key j y h1;refine ⟨by simp [k1],fun i hi=>by simp [k2 i hi],HEnt.sat_go k3 (fun hc=>ho.stp.block _ (HEnt.lt k3 hc) ?_) hK (hag j k1) fun i hi=>hag i (k2 i hi)⟩;rintro ⟨x,hx,hcx,e⟩;exact s.inj j (ρ x.1) y _ h1 (hH x hx) (h2 x hx) hc hcx e
 ·rcases xw0 hy with ⟨x,hx,rfl,rfl⟩ | ⟨h1,h2⟩
  ·obtain ⟨e1,e2⟩:=hpre x.1 (hname x hx);rw [e2] at hc;rw [e1];rcases xw0 hy' with ⟨x',hx',rfl,rfl⟩ | ⟨h3,h4⟩
   ·obtain ⟨e3,e4⟩:=hpre x'.1 (hname x' hx');rw [e4] at hc';rw [e3];exact ho.inj x hx x' hx' (fun e=>hne' (by rw [e])) hc hc'
   ·obtain ⟨e3,e4⟩:=hag j' (s.key j' y' h3).1;rw [e4] at hc';rw [e3];rcases ho.new _ ⟨x,hx,hc,rfl⟩ with ⟨z,hz,hcz,ez⟩ | h5
    ·rw [ez];exact s.inj (ρ z.1) j' _ y' (hH z hz) h3 (fun e=>h4 z hz e.symm) hcz hc'
    ·have:=s.klt h3 hc';omega
  ·obtain ⟨e1,e2⟩:=hag j (s.key j y h1).1;rw [e2] at hc;rw [e1];rcases xw0 hy' with ⟨x',hx',rfl,rfl⟩ | ⟨h3,h4⟩
   ·obtain ⟨e3,e4⟩:=hpre x'.1 (hname x' hx');rw [e4] at hc';rw [e3];rcases ho.new _ ⟨x',hx',hc',rfl⟩ with ⟨z,hz,hcz,ez⟩ | h5
    ·rw [ez];exact s.inj j (ρ z.1) y _ h1 (hH z hz) (h2 z hz) hc hcz
    ·have:=s.klt h1 hc;omega
   ·obtain ⟨e3,e4⟩:=hag j' (s.key j' y' h3).1;rw [e4] at hc';rw [e3];exact s.inj j j' y y' h1 h3 hne' hc hc'
 ·rcases xw0 hy with ⟨x,hx,rfl,rfl⟩ | ⟨h1,h2⟩
  ·exfalso;rw [hj] at hyk;simp only [ykB,zew] at hyk;have:memN (ρ x.1) (H'.map fun x=>ρ x.1)=true:=xb2.2 (zcz (f:=fun x:Nat×HEnt=>ρ x.1) hx);rw [this] at hyk;cases hyk
  ·exact ⟨y,h1,rfl⟩
end
section
variable {P:Program} {c:Base} {g:Slots} {h:Keys} {al:Names} {d ty:Nat} {pos:String} {af:Array Edge} {gd:Option (Nat×Bool)}
theorem SatL.of {g:Slots} {h:Keys} {al:Names} {a:Act} {w:World} {η:Env} (s:St' c g h al a w η) {ρ:Nat->Nat}: ∀(xs:List Operand) (ps:List Ent),Rd g (xs.zip (ps.map (Ent.ren ρ)))->xs.length=ps.length->
  SatL (c.dom h η) w (η.pre ρ) ps (xs.map a.eval)/\ ∀k∈suppE (ps.map (Ent.ren ρ)),al k=true
 | [],[],_,_=>⟨trivial,fun k hk=>by cases hk⟩
 | x::r,e::es,hr,hl=>by
  obtain ⟨h1,h2⟩:=xa2 s hr.1;obtain ⟨h3,h4⟩:=SatL.of s r es hr.2 (by simpa using hl);refine ⟨⟨Ent.sat_ren.1 h1,h3⟩,fun k hk=> ?_⟩;simp only [suppE,zcy,zed,zbp] at hk;rcases hk with hk | hk
  ·exact h2 k hk
  ·exact h4 k hk
 | [],_::_,_,hl=>by simp at hl
 | _::_,[],_,hl=>by simp at hl
theorem SatL.append {F:Dom} {w:World} {η:Env}: ∀{ps qs:List Ent} {vs us:List Value},SatL F w η ps vs->SatL F w η qs us->SatL F w η (ps++qs) (vs++us)
 | [],_,[],_,_,h=>h
 | _::_,_,_::_,_,h1,h2=>⟨h1.1,SatL.append h1.2 h2⟩
 | [],_,_::_,_,h,_=>h.elim
 | _::_,_,[],_,h,_=>h.elim
theorem SatL.own {F:Dom} {w:World} {η:Env}: ∀{ps:List VP} {vs:List Value},VP.sats F w η ps vs->SatL F w η (ps.map Ent.own) vs
 | [],[],_=>trivial
 | _::_,_::_,h=>⟨h.1,SatL.own h.2⟩
 | [],_::_,h=>h.elim
 | _::_,[],h=>h.elim
def gB (ρ:Nat->Nat) (H H':List (Nat×HEnt)) (re:Ent) (ps:List Ent) (nn:List Nat) (yk:Option Nat):Bool:=
 injN ρ nn && injN ρ (H.map (·.1)) && subN re.supp (nn++(suppE ps++H.map (·.1))) && ykB yk (H'.map fun x=>ρ x.1)
theorem xn4 {ρ:Nat->Nat} {ps:List Ent} {k:Nat} (hk:k∈suppE ps):ρ k∈suppE (ps.map (Ent.ren ρ)):=by
 have hvp:(∀p:VP,∀j∈p.supp,ρ j∈(p.ren ρ).supp)/\(∀ps:List VP,∀j∈VP.supps ps,ρ j∈VP.supps (VP.rens ρ ps)):=by
  constructor
  ·intro p;exact VP.rec (motive_1:=fun p=> ∀j∈p.supp,ρ j∈(p.ren ρ).supp) (motive_2:=fun ps=> ∀j∈VP.supps ps,ρ j∈VP.supps (VP.rens ρ ps))
    (fun k off j hj=>by simp only [VP.supp,VP.ren,zbj] at hj ⊢;rw [hj]) (fun k es off len j hj=>by simp only [VP.supp,VP.ren,zbj] at hj ⊢;rw [hj])
    (fun f caps ih j hj=>by simp only [VP.supp,VP.ren] at hj ⊢;exact ih j hj) (fun u j hj=>by simp only [VP.supp] at hj;cases hj) (fun ns fs ih j hj=>by simp only [VP.supp,VP.ren] at hj ⊢;exact ih j hj) (fun fs ih j hj=>by simp only [VP.supp,VP.ren] at hj ⊢;exact ih j hj)
    (fun j hj=>by simp only [VP.supps] at hj;cases hj) (fun p r ih1 ih2 j hj=>by
     simp only [VP.supps,VP.rens,zbp] at hj ⊢;exact hj.imp (ih1 j) (ih2 j)) p
  ·intro ps;exact VP.rec_1 (motive_1:=fun p=> ∀j∈p.supp,ρ j∈(p.ren ρ).supp) (motive_2:=fun ps=> ∀j∈VP.supps ps,ρ j∈VP.supps (VP.rens ρ ps))
    (fun k off j hj=>by simp only [VP.supp,VP.ren,zbj] at hj ⊢;rw [hj]) (fun k es off len j hj=>by simp only [VP.supp,VP.ren,zbj] at hj ⊢;rw [hj])
    (fun f caps ih j hj=>by simp only [VP.supp,VP.ren] at hj ⊢;exact ih j hj) (fun u j hj=>by simp only [VP.supp] at hj;cases hj) (fun ns fs ih j hj=>by simp only [VP.supp,VP.ren] at hj ⊢;exact ih j hj) (fun fs ih j hj=>by simp only [VP.supp,VP.ren] at hj ⊢;exact ih j hj)
    (fun j hj=>by simp only [VP.supps] at hj;cases hj) (fun p r ih1 ih2 j hj=>by
     simp only [VP.supps,VP.rens,zbp] at hj ⊢;exact hj.imp (ih1 j) (ih2 j)) ps
 simp only [suppE,zcc,zci] at hk ⊢;obtain ⟨e,he,hk⟩:=hk;refine ⟨e.ren ρ,⟨e,he,rfl⟩,?_⟩;cases e with
 | val t=>cases hk
 | own p=>exact hvp.1 p k hk
theorem qd0 {o:Oper} {f:FuncId} {vs:List Value} {H H':List (Nat×HEnt)} {ps:List Ent} {re:Ent} {nn:List Nat} {a:Act} {w:World} {η:Env} {K:Act->World->Prop} {Q:Exit->Act->World->Prop} (ρ:Nat->Nat) (hc:CtG P f H ps re H' nn) (s:St' c g h al a w η)
    (hrun:(execOp a.eval o).run P w= .ok (.enter f vs.toArray) w) (hsat:SatL (c.dom h η) w (η.pre ρ) ps vs) (hps: ∀k∈suppE ps,al (ρ k)=true) (hH:Kr h (H.map fun x=>(ρ x.1,x.2.ren ρ))) (hnk:Nk al (nn.map ρ)) (hok:gB ρ H H' re ps nn c.yk=true) (hsH:SupHs H' (nn++(suppE ps++H.map (·.1)))) (hd:o.dst=some d) (hdN:d < c.N)
    (hK: ∀a' w',St c (upd g d (some (re.ren ρ))) (updK h (kwOf ρ H H')) (fun j=>memN j (nn.map ρ) || al j) a' w'->K a' w'):o.wpIn (fc c.ro) 0 P a w K Q:=by
  simp only [gB,zbv] at hok;have hH': ∀x∈H,h (ρ x.1)=some (x.2.ren ρ):=by
    have key: ∀l:List (Nat×HEnt),Kr h (l.map fun x=>(ρ x.1,x.2.ren ρ))-> ∀x∈l,h (ρ x.1)=some (x.2.ren ρ):=by
      intro l
      induction l with
      | nil=>intro _ x hx;cases hx
      | cons y r ih => intro hr x hx; rcases zbr.1 hx with rfl | hx
                       · exact hr.1
                       · exact ih hr.2 x hx
    exact key H hH
  have hnn: ∀n∈nn,al (ρ n)=false:=by
    have key: ∀l:List Nat,Nk al (l.map ρ)-> ∀n∈l,al (ρ n)=false:=by
      intro l
      induction l with
      | nil=>intro _ n hn;cases hn
      | cons y r ih => intro hr n hn; rcases zbr.1 hn with rfl | hn
                       · exact hr.1
                       · exact ih hr.2 n hn
    exact key nn hnk
  have hall:AllK (c.dom h η) w (η.pre ρ) H:=fun x hx=>HEnt.sat_ren.1 (s.key _ _ (hH' x hx)).2.2.1;refine xe6 hrun (zei (hc (c.dom h η) w (η.pre ρ) vs hsat hall (fun x hx y hy hne hcx hcy=> ?_) (fun b hb ho=> ?_)) ?_)
  · exact s.inj (ρ x.1) (ρ y.1) _ _ (hH' x hx) (hH' y hy) (xm4 hok.1.1.2 x.1 y.1 (zcz hx) (zcz hy) hne) hcx hcy
  · obtain ⟨x,hx,hcx,rfl⟩:=ho
    exact hb.2.1 ⟨ρ x.1,_,hH' x hx,hcx,rfl⟩
  · rintro e w' ⟨v,η',rfl,hout⟩
    obtain ⟨s',hres⟩:=s.back ρ hH' hout hnn hok.1.1.1 (fun k hk=>by
      have hm:k∈nn++(suppE ps++H.map (·.1)):=by
        rcases zbp.1 hk with hk | hk
        · exact xe8 hok.1.2 k hk
        · exact hsH.spec k hk
      rw [zbp,zbp] at hm;rcases hm with hm | hm | hm
      · exact .inl hm
      · exact .inr (hps k hm)
      · right
        obtain ⟨x,hx,rfl⟩:=zci.1 hm;exact (s.key _ _ (hH' x hx)).1) hok.2
    refine ⟨v,rfl,?_⟩;rw [hd];refine hK _ _ ⟨_,s'.put hdN hres fun k hk=> ?_⟩;cases re with
    | val t=>cases hk
    | own p=>
      obtain ⟨j,hj,rfl⟩:=VP.ren_supp1 p k hk;have hm:=xe8 hok.1.2 j hj;rw [zbp,zbp] at hm;rcases hm with hm | hm | hm
      · rw [xb2.2 (zcz hm)];rfl
      · rw [hps j hm,Bool.or_true]
      · obtain ⟨x,hx,rfl⟩:=zci.1 hm
        rw [(s.key _ _ (hH' x hx)).1,Bool.or_true]
theorem qb7 {nn:List Nat} {al:Names} {a:Act} {w:World} {g:Slots} {h:Keys} {rd:List (Operand×Ent)} {kr:List (Nat×HEnt)} {dd:Option (Nat×Option Ent)} {kw:List (Nat×Option HEnt)} (hs:St c g h (fun j=>memN j nn || al j) a w):St c g h (Eff.al ⟨rd,kr,dd,kw,nn⟩ al) a w:=by
 have:Eff.al ⟨rd,kr,dd,kw,nn⟩ al=fun j=>memN j nn || al j:=by
  cases nn with
  | nil=>rfl
  | cons k r=>funext j;simp only [Eff.al,zi6]
 rw [this];exact hs
theorem jz6 {f:FuncId} {xs:List Operand} {aT:Array TypeId} {H H':List (Nat×HEnt)} {ps:List Ent} {re:Ent} {nn:List Nat} (ρ:Nat->Nat) (hc:CtG P f H ps re H' nn) (hf:FnI P f) (hl:xs.length=ps.length) (hok:gB ρ H H' re ps nn c.yk=true) (hsH:SupHs H' (nn++(suppE ps++H.map (·.1)))):
  Does P c ⟨some d,.call {callee:= .value (.func f),args:=xs.toArray,argTypes:=aT},ty,pos,af,gd⟩ ⟨xs.zip (ps.map (Ent.ren ρ)),H.map (fun x=>(ρ x.1,x.2.ren ρ)),some (d,some (re.ren ρ)),kwOf ρ H H',nn.map ρ⟩:=by
 intro g h al a w hp ⟨η,s⟩;obtain ⟨fn,h1,h2,h3⟩:=hf;obtain ⟨hsat,hal⟩:=SatL.of s xs ps hp.rd hl;have hrun:(execOp a.eval ⟨some d,.call {callee:= .value (.func f),args:=xs.toArray,argTypes:=aT},ty,pos,af,gd⟩).run P w= .ok (.enter f (xs.map a.eval).toArray) w:=by
  simp only [execOp,resolve,Act.eval,Deferred.ofValue,zbu,zbx,zbn,invoke];simp only [zdu,zdj,zcs];exact xd1 h1 h2 h3 _ w
 exact qd0 ρ hc s hrun hsat (fun k hk=>hal _ (xn4 hk)) hp.kr hp.nk hok hsH rfl (hp.d _ rfl) fun a' w' hs=>qb7 hs
theorem wh6 {f:FuncId} {x:Operand} {caps:List VP} {xs:List Operand} {aT:Array TypeId} {H H':List (Nat×HEnt)} {ps:List Ent} {re:Ent} {nn:List Nat} (ρ:Nat->Nat) (hc:CtG P f H (ps++caps.map Ent.own) re H' nn) (hf:FnI P f) (hl:xs.length=ps.length) (hok:gB ρ H H' re (ps++caps.map Ent.own) nn c.yk=true) (hsH:SupHs H' (nn++(suppE (ps++caps.map Ent.own)++H.map (·.1)))):
  Does P c ⟨some d,.call {callee:= .value x,args:=xs.toArray,argTypes:=aT},ty,pos,af,gd⟩ ⟨(x,.own (.fn f (VP.rens ρ caps)))::xs.zip (ps.map (Ent.ren ρ)),H.map (fun x=>(ρ x.1,x.2.ren ρ)),some (d,some (re.ren ρ)),kwOf ρ H H',nn.map ρ⟩:=by
 intro g h al a w hp ⟨η,s⟩;obtain ⟨fn,h1,h2,h3⟩:=hf;obtain ⟨hsat,hal⟩:=SatL.of s xs ps hp.rd.2 hl;obtain ⟨hx,hxs⟩:=xa2 s hp.rd.1;obtain ⟨vs,hv,hcaps⟩:=hx;have hv:a.eval x= .func (.func f) #[] vs.toArray:=hv;have hrun:(execOp a.eval ⟨some d,.call {callee:= .value x,args:=xs.toArray,argTypes:=aT},ty,pos,af,gd⟩).run P w= .ok (.enter f (xs.map a.eval++vs).toArray) w:=by
  simp only [execOp,resolve,hv,Deferred.ofValue,zbu,zbx,zbn,invoke];simp only [zcs,List.append_toArray];exact xd1 h1 h2 h3 _ w
 have hsat2:SatL (c.dom h η) w (η.pre ρ) (ps++caps.map Ent.own) (xs.map a.eval++vs):=hsat.append (SatL.own ((VP.sats_ren caps vs).1 hcaps));refine qd0 ρ hc s hrun hsat2 (fun k hk=> ?_) hp.kr hp.nk hok hsH rfl (hp.d _ rfl) fun a' w' hs=>qb7 hs;simp only [suppE,zeg,zbp] at hk;rcases hk with hk | hk
 ·exact hal _ (xn4 hk)
 ·refine hxs _ ?_;have key: ∀l:List VP,k∈(l.map Ent.own).flatMap Ent.supp->ρ k∈VP.supps (VP.rens ρ l):=by
   intro l
   induction l with
   | nil=>intro hk;cases hk
   | cons p r ih=>
    intro hk;simp only [zcy,zed,zbp,VP.rens,VP.supps] at hk ⊢;rcases hk with hk | hk
    ·left;have:=xn4 (ρ:=ρ) (ps:=[.own p]) (k:=k) (by simp only [suppE,zed,List.flatMap_nil,zdz];exact hk);simpa [suppE,Ent.ren,Ent.supp] using this
    ·exact .inr (ih hk)
  exact key caps hk
def Base.lent (N:Nat) (w:World) (F:Dom) (η:Env) (l0:List Nat) (H:List (Nat×HEnt)):Base:=⟨N,w,F,l0,η,OwnK η H,none,[],[],fun _=>False,none,fun _=>False,fun _ _ _ _=>True,fun _ _ _ _ _ _ _ _ _=>trivial⟩
def argsE:Nat->List Ent->Slots
 | _,[]=>fun _=>none
 | i,t::r=>upd (argsE (i+1) r) i (some t)
def keysOf (H:List (Nat×HEnt)):Keys:=updK (fun _=>none) (H.map fun x=>(x.1,some x.2))
theorem xp5: ∀(ts:List Ent) (i s:Nat) (e:Ent),argsE i ts s=some e-> ∃j,s=i+j/\ts[j]? =some e
 | [],i,s,e,h=>by cases h
 | t::r,i,s,e,h=>by
  simp only [argsE] at h;by_cases hs:s=i
  ·subst hs;rw [x7] at h;cases h;exact ⟨0,rfl,rfl⟩
  ·rw [x3 _ _ _ hs] at h;obtain ⟨j,h1,h2⟩:=xp5 r (i+1) s e h;exact ⟨j+1,by omega,h2⟩
theorem xd4 {H:List (Nat×HEnt)} {k:Nat} {x:HEnt} (hk:keysOf H k=some x):(k,x)∈H:=by
 have key: ∀(l:List (Nat×HEnt)) (h:Keys),updK h (l.map fun x=>(x.1,some x.2)) k=some x->(k,x)∈l∨h k=some x:=by
  intro l
  induction l with
  | nil=>intro h hy;exact .inr hy
  | cons y r ih=>
   intro h hy;rcases ih _ hy with h1 | h1
   ·exact .inl (zcd _ h1)
   ·by_cases hyk:k=y.1
    ·subst hyk;rw [x7] at h1;cases h1;exact .inl (by simp)
    ·rw [x3 _ _ _ hyk] at h1;exact .inr h1
 rcases key H _ hk with h1 | h1
 ·exact h1
 ·cases h1
theorem SatL.get {F:Dom} {w:World} {η:Env}: ∀(ts:List Ent) (vs:List Value) (i:Nat) (u:Ent),SatL F w η ts vs->ts[i]? =some u-> ∃v,vs[i]? =some v/\u.sat F w η v
 | t::r,v::s,0,u,h,hi=>⟨v,rfl,by cases hi;exact h.1⟩
 | t::r,v::s,i+1,u,h,hi=>SatL.get r s i u h.2 hi
 | [],_,i,u,_,hi=>by simp at hi
 | _::_,[],_,_,h,_=>h.elim
theorem SatL.len {F:Dom} {w:World} {η:Env}: ∀{ts:List Ent} {vs:List Value},SatL F w η ts vs->vs.length=ts.length
 | [],[],_=>rfl
 | _::_,_::_,h=>by simp [SatL.len h.2]
 | [],_::_,h=>h.elim
 | _::_,[],h=>h.elim
def PostG (P:Program) (w:World) (F:Dom) (η:Env) (fn:Func) (H:List (Nat×HEnt)) (re:Ent) (H':List (Nat×HEnt)) (nn:List Nat):Exit->Act->World->Prop:=PostR P fn fun v w'=> ∃η',Out F w η H re H' nn v w' η'
theorem CtG.intro {f:FuncId} {fn:Func} {x:Code} {N:Nat} {H H':List (Nat×HEnt)} {ps:List Ent} {re:Ent} {nn:List Nat} (l0:List Nat) (hf:P.funcs[f]? =some fn) (hb:fn.body=some x) (hN:fn.ntmps=N) (hlb:Nat.ble ps.length N=true) (hl0:subN (suppE ps) l0=true) (hlH:SupHs H l0)
  (hw: ∀w F η,wc P (Base.lent N w F η l0 H) x (PostG P w F η fn H re H' nn) (argsE 0 ps) (keysOf H) (nm l0)):CtG P f H ps re H' nn:=by
 intro F w η vs hvs hK hinj hF;have hl:ps.length<=N:=zdo hlb;have hlen:=hvs.len;have hmem: ∀k∈suppE ps++suppH H,k∈l0:=fun k hk=>by
  rcases zbp.1 hk with hk | hk
  ·exact xe8 hl0 k hk
  ·exact hlH.spec k hk
 refine zei (xh6 (R:=fun v w'=> ∃η',Out F w η H re H' nn v w' η') hf hb (hw w F η _ w ⟨⟨η.b,η.c,fun _=>False⟩,?_⟩)) (fun e w' ⟨v,he,η',ho⟩=>⟨v,η',he,ho⟩);have hKp:Keep F ((Base.lent N w F η l0 H).dom (keysOf H) ⟨η.b,η.c,fun _=>False⟩) w w:=fun b o hb hl _=>⟨⟨.inr ⟨hb,hF b hb⟩,fun ⟨k,x,hk,hc,e⟩=>hF b hb ⟨(k,x),xd4 hk,hc,e⟩,fun hv=>hv,fun hv=>hv⟩,hl⟩
 refine ⟨?_,rfl,fun s e hs=> ?_,fun k x hx=> ?_,fun k k' x x' hx hx' hne hc hc'=> ?_,⟨rfl,rfl,rfl,zbq _,fun _ _ _ _=>rfl,fun _ hb=>hb,fun _ hb=>hb.elim⟩,fun k hk=>⟨xb2.2 hk,rfl,rfl⟩,fun x hx=>(by cases hx),fun b hb=>hb.elim,fun k hk=>(by cases hk),fun k x hk=>(by cases hk),fun b hb=> ?_⟩
 ·simp [hlen,hN,Base.lent];omega
 ·obtain ⟨j,h1,h2⟩:=xp5 ps 0 s e hs;have hj:j < ps.length:=(zbo.1 h2).1;obtain ⟨v,hv,hp⟩:=SatL.get ps vs j e hvs h2;refine ⟨by show s < N;omega,fun k hk=>xb2.2 (hmem k (zbp.2 (.inl (zcc.2 ⟨e,zdw h2,hk⟩)))),?_⟩;have e1:(vs.toArray++Array.replicate (fn.ntmps - vs.toArray.size) undef).getD s undef=v:=by
   rw [zbk,zfh,if_pos (by simp;omega)];rw [h1,zcn,zer,hv];rfl
  simp only [e1];exact Ent.sat_go hp hKp fun _ _=>⟨rfl,rfl⟩
 ·have hm:=xd4 hx;exact ⟨xb2.2 (hmem k (zbp.2 (.inr (zcc.2 ⟨_,hm,by simp⟩)))),fun j hj=>xb2.2 (hmem j (zbp.2 (.inr (zcc.2 ⟨_,hm,by simp [hj]⟩)))),
   HEnt.sat_go (hK _ hm) (fun _=>rfl) hKp ⟨rfl,rfl⟩ fun _ _=>⟨rfl,rfl⟩,fun hc=>⟨.inr ⟨_,hm,hc,rfl⟩,fun hv=>hv,fun hv=>hv⟩⟩
 ·exact hinj _ (xd4 hx) _ (xd4 hx') hne hc hc'
 ·obtain ⟨x,hx,hc,rfl⟩:=hb;exact HEnt.lt (hK x hx) hc
structure LentC (c:Base) (w:World) (F:Dom) (η:Env) (l0:List Nat) (H:List (Nat×HEnt)):Prop where
  w0:c.w0=w
  F0:c.F0=F
  ln:c.ln=l0
  lb:c.lb=OwnK η H
  lη:c.lη=η
  yk:c.yk=none
  df:dfB c.df c.pn
theorem LentC.mk' {N:Nat} {w:World} {F:Dom} {η:Env} {l0:List Nat} {H:List (Nat×HEnt)}:LentC (Base.lent N w F η l0 H) w F η l0 H:=⟨rfl,rfl,rfl,rfl,rfl,rfl,trivial⟩
theorem Kr.get {h:Keys}: ∀{l:List (Nat×HEnt)},Kr h l-> ∀x∈l,h x.1=some x.2
 | [],_,x,hx=>by cases hx
 | y::r,hr,x,hx=>by
  rcases zbr.1 hx with rfl | hx
  ·exact hr.1
  ·exact Kr.get hr.2 x hx
theorem zu3 {fn:Func} {w0:World} {F:Dom} {η0:Env} {l0:List Nat} {H H':List (Nat×HEnt)} {re:Ent} {nn:List Nat} {e:Exit} (he:e= .ret∨e= .normal) (hp:LentC c w0 F η0 l0 H) (hk:Kr h H') (hs:subN re.supp (nn++l0)=true) (hsH:SupHs H' (nn++l0)) (hd:(nn.all fun k=> !memN k l0)=true)
  (hr: ∀(c':Base) (a:Act) (w:World) (η:Env),c'.N=c.N->St' c' g h al a w η-> ∃v,(results fn a.tmps).run P w= .ok v w/\re.sat (c'.dom h η) w η v):wk c e (PostG P w0 F η0 fn H re H' nn) g h al:=
 yd7 he hp.df fun df pn a w η s=>by
  obtain ⟨v,h1,h2⟩:=hr (c.with df pn) a w η rfl s;have h0: ∀b,¬η.vo b:=fun b hb=>by have:=(s.fr.vnew b hb).2.1;simp [Base.with,hp.yk] at this
  have e0:(c.with df pn).w0=w0:=hp.w0;have hget:=hk.get;obtain ⟨η',hη'⟩: ∃η':Env,η'=⟨fun k=>if memN k nn then η.b k else η0.b k,fun k=>if memN k nn then η.c k else η0.c k,η0.vo⟩:=⟨_,rfl⟩
  have hag: ∀k∈re.supp++suppH H',η'.b k=η.b k/\η'.c k=η.c k:=fun k hk=>by
   have hm:k∈nn++l0:=by
    rcases zbp.1 hk with hk | hk
    ·exact xe8 hs k hk
    ·exact hsH.spec k hk
   rcases zbp.1 hm with h3 | h3
   ·rw [hη'];simp only [xb2.2 h3,↓reduceIte,and_self]
   ·have hnot: ¬memN k nn=true:=fun hm=>by
     have:=zdk.1 hd k (xb2.1 hm);rw [xb2.2 h3] at this;cases this
    have hkl:k∈(c.with df pn).ln:=by show k∈c.ln;rw [hp.ln];exact h3
    obtain ⟨_,h4,h5⟩:=s.lk k hkl;have hl:(c.with df pn).lη=η0:=hp.lη;rw [hl] at h4 h5;rw [hη'];simp only [if_neg hnot];exact ⟨h4.symm,h5.symm⟩
  have hname: ∀x∈H',x.1∈re.supp++suppH H':=fun x hx=>zbp.2 (.inr (zcc.2 ⟨x,hx,by simp⟩));have hsup: ∀x∈H',∀k∈x.2.supp,k∈re.supp++suppH H':=fun x hx k hk=>zbp.2 (.inr (zcc.2 ⟨x,hx,by simp [hk]⟩));have hown: ∀b,OwnK η' H' b->Own h η b:=by
   rintro b ⟨x,hx,hc,rfl⟩;obtain ⟨e1,e2⟩:=hag x.1 (hname x hx);rw [e2] at hc;exact ⟨x.1,x.2,hget x hx,hc,e1⟩
  have hK:Keep ((c.with df pn).dom h η) (fun b=>(w0.heap.size<=b∨F b)/\ ¬OwnK η' H' b) w w:=fun b o hb hl _=>by
   refine ⟨⟨?_,fun ho=>hb.2.1 (hown b ho)⟩,hl⟩;have:=hb.1;rw [e0] at this;exact this.imp id fun hb'=>by have:=hb'.1;show F b;rw [<-hp.F0];exact this
  refine ⟨v,h1,η',⟨?_,fun k hkn=> ?_,Ent.sat_go h2 hK fun k hk=>hag k (zbp.2 (.inl hk)),fun x hx=>HEnt.sat_go (s.key _ _ (hget x hx)).2.2.1 (fun _=>rfl) hK (hag x.1 (hname x hx)) fun k hk=>hag k (hsup x hx k hk),fun x hx y hy hne hcx hcy=> ?_,fun b hb=> ?_⟩⟩
  ·refine ⟨e0▸s.fr.os,e0▸s.fr.tape,e0▸s.fr.output,e0▸s.fr.size,fun b hb hn=> ?_⟩;have:=s.fr.block b (by rw [e0];exact hb) (by show ¬c.lb b;rw [hp.lb];exact hn) (h0 b)
   rwa [e0] at this
  ·have hnot: ¬memN k nn=true:=fun hm=>hkn (xb2.1 hm);rw [hη'];simp only [if_neg hnot,and_self]
  ·obtain ⟨e1,e2⟩:=hag x.1 (hname x hx);obtain ⟨e3,e4⟩:=hag y.1 (hname y hy);rw [e2] at hcx;rw [e4] at hcy;rw [e1,e3];exact s.inj _ _ _ _ (hget x hx) (hget y hy) hne hcx hcy
  ·obtain ⟨k,x,hk,hc,rfl⟩:=hown b hb;have:=((s.key k x hk).2.2.2 hc).1;rw [e0] at this;refine this.symm.imp (fun h'=> ?_) id;have h':c.lb (η.b k):=h'
   rwa [hp.lb] at h'
theorem xg0 {fn:Func} {w0:World} {F:Dom} {η0:Env} {l0:List Nat} {H H':List (Nat×HEnt)} {re:Ent} {nn:List Nat} {t:Nat} {e:Ent} (hp:LentC c w0 F η0 l0 H) (hr:fn.results= #[.tmp t]) (hx:g t=some e) (hi:Imp e re) (hk:Kr h H') (hs:subN re.supp (nn++l0)=true) (hsH:SupHs H' (nn++l0)) (hd:(nn.all fun k=> !memN k l0)=true):
  wk c .ret (PostG P w0 F η0 fn H re H' nn) g h al:=
 zu3 (.inl rfl) hp hk hs hsH hd fun _ a w _ _ s=>⟨_,results_tmp hr a.tmps P w,hi _ _ _ _ (s.slot t _ hx).2.2⟩
theorem xg2 {fn:Func} {w0:World} {F:Dom} {η0:Env} {l0:List Nat} {H H':List (Nat×HEnt)} {nn:List Nat} {e:Exit} (hp:LentC c w0 F η0 l0 H) (hr:fn.results= #[]) (he:e= .ret∨e= .normal) (hk:Kr h H') (hsH:SupHs H' (nn++l0)) (hd:(nn.all fun k=> !memN k l0)=true):
  wk c e (PostG P w0 F η0 fn H (.val (tT [])) H' nn) g h al:=
 zu3 he hp hk rfl hsH hd fun _ a w _ _ _=>⟨_,results_none hr a.tmps P w,[],rfl,trivial⟩
end
structure Kept (V V':Dom) (w w':World):Prop where
  stp:Stp V w w'
  le: ∀b,V b->V' b
  lt: ∀b,V' b->b < w'.heap.size/\(V b∨w.heap.size<=b)
def YHyp (P:Program) (w0:World) (F0:Dom) (J:Nat->Dom->Dom->World->Prop) (l N:Nat) (ys:Nat->List Ty):Prop:=
 ∀(k:Nat),k < N-> ∀(O V:Dom) (W:World) (vals:List Value) (D:Dom),J (2*k) O V W->Tup.all D W (ys k) vals->(∀b,D b-> ¬O b/\ ¬V b/\(w0.heap.size<=b∨F0 b))->
  YieldAt (fc none) 0 P l vals.toArray W fun e W'=> ∃V',Kept V V' W W'/\((e= .returned (.bool true)/\J (2*k+2) O V' W')∨(e= .returned (.bool false)/\J (2*k+3) O V' W'))
def JcOf (J:Nat->Dom->Dom->World->Prop):Prop:= ∀n O O' V w w',J n O V w->Stp O w w'->(∀b,O' b->b < w'.heap.size/\(O b∨w.heap.size<=b))->J n O' V w'
def ItC (P:Program) (f:FuncId) (H:List (Nat×HEnt)) (caps:List VP) (N:Nat) (ys:Nat->List Ty):Prop:=
 ∀(F:Dom) (w:World) (η:Env) (vs:List Value) (l:Nat) (V:Dom) (J:Nat->Dom->Dom->World->Prop),JcOf J->
  VP.sats F w η caps vs->AllK F w η H->InjK η H->(∀b,F b-> ¬V b/\ ¬OwnK η H b)->(∀b,OwnK η H b-> ¬V b)->(∀b,V b->b < w.heap.size)->
  YHyp P w F J l N ys->J 0 (OwnK η H) V w->
  Calls P f (Value.func (.yield l) #[] #[]::vs).toArray w fun e w'=> ∃v,e= .returned v/\ ∃O V',J (2*N) O V' w'∨ ∃k,k < N/\J (2*k+3) O V' w'
section
variable {P:Program} {c:Base} {g:Slots} {h:Keys} {al:Names} {Q:Exit->Act->World->Prop}
structure ItB (P:Program) (c:Base) (K l N:Nat) (ys:Nat->List Ty):Prop where
  yk:c.yk=some K
  ln:K∈c.ln
  c0:c.lη.c K=0
  hy:YHyp P c.w0 c.F0 c.J l N ys
  ro:c.ro=none
theorem St'.fed {a:Act} {w w':World} {η:Env} (s:St' c g h al a w η) {K n m:Nat} {V':Dom} (hyk:c.yk=some K) (hln:K∈c.ln) (hc0:c.lη.c K=0) (hK:h K=some ⟨n,1,false,[]⟩) (hk:Kept η.vo V' w w') (hJ:c.J m (c.chg h η) V' w'):
  St' c g (upd h K (some ⟨m,1,false,[]⟩)) al a w' ⟨η.b,η.c,V'⟩:=by
 have hcK:η.c K=0:=by rw [(s.lk K hln).2.2];exact hc0
 have hsome: ∀k x,upd h K (some ⟨m,1,false,[]⟩) k=some x->k≠K->h k=some x:=fun k x hx hne=>by rwa [x3 _ _ _ hne] at hx
 have hown: ∀b,Own (upd h K (some ⟨m,1,false,[]⟩)) ⟨η.b,η.c,V'⟩ b↔Own h η b:=fun b=>by
  constructor
  ·rintro ⟨k,x,hx,hc,rfl⟩;by_cases hkK:k=K
   ·subst hkK;simp only at hc;omega
   ·exact ⟨k,x,hsome k x hx hkK,hc,rfl⟩
  ·rintro ⟨k,x,hx,hc,rfl⟩;by_cases hkK:k=K
   ·subst hkK;omega
   ·exact ⟨k,x,by rw [x3 _ _ _ hkK];exact hx,hc,rfl⟩
 have hKp:Keep (c.dom h η) (c.dom (upd h K (some ⟨m,1,false,[]⟩)) ⟨η.b,η.c,V'⟩) w w':=fun b o hb hl _=>by
  refine ⟨⟨hb.1,fun ho=>hb.2.1 ((hown b).1 ho),fun hv=> ?_,hb.2.2.2⟩,(hk.stp.block b (xa7 hl) hb.2.2.1).trans hl⟩;rcases (hk.lt b hv).2 with h1 | h1
  ·exact hb.2.2.1 h1
  ·have:=xa7 hl;omega
 refine ⟨s.tn,s.df,fun t x hx=> ?_,fun k x hx=> ?_,fun k k' x x' hx hx' hne hc hc'=> ?_,⟨hk.stp.os.trans s.fr.os,hk.stp.tape.trans s.fr.tape,hk.stp.output.trans s.fr.output,zdc s.fr.size hk.stp.size,fun b hb hl hv=> ?_,fun b hb=>hk.le b (s.fr.vold b hb),fun b hb=> ?_⟩,
  s.lk,fun x hx=> ?_,fun b hb=>zce (s.vol b hb) hk.stp.size,s.yal,fun k x h1 h2=> ?_,s.lbl⟩
 ·exact ⟨(s.slot t x hx).1,(s.slot t x hx).2.1,Ent.sat_go (s.slot t x hx).2.2 hKp fun _ _=>⟨rfl,rfl⟩⟩
 ·by_cases hkK:k=K
  ·subst hkK;rw [x7] at hx;cases hx;exact ⟨(s.key k _ hK).1,fun j hj=>(by cases hj),⟨by simp,by simp,fun _=>rfl,by simp only [hcK];omega,fun hc=>by simp only [hcK] at hc;omega⟩,fun hc=>by simp only [hcK] at hc;omega⟩
  ·have hx':=hsome k x hx hkK;obtain ⟨h1,h2,h3,h4⟩:=s.key k x hx';refine ⟨h1,h2,HEnt.sat_go h3 (fun hc=>hk.stp.block _ (HEnt.lt h3 hc) (h4 hc).2.1) hKp ⟨rfl,rfl⟩ fun _ _=>⟨rfl,rfl⟩,fun hc=>⟨(h4 hc).1,fun hv=> ?_,(h4 hc).2.2⟩⟩;rcases (hk.lt _ hv).2 with h5 | h5
   ·exact (h4 hc).2.1 h5
   ·have:=HEnt.lt h3 hc;simp only at h5;omega
 ·by_cases hkK:k=K
  ·subst hkK;simp only at hc;omega
  ·by_cases hkK':k'=K
   ·subst hkK';simp only at hc';omega
   ·exact s.inj k k' x x' (hsome k x hx hkK) (hsome k' x' hx' hkK') hne hc hc'
 ·have hvo: ¬η.vo b:=fun h'=>hv (hk.le b h');exact (hk.stp.block b (zce hb s.fr.size) hvo).trans (s.fr.block b hb hl hvo)
 ·obtain ⟨h1,h2⟩:=hk.lt b hb;refine ⟨h1,by rw [hyk];rfl,?_⟩;rcases h2 with h2 | h2
  ·exact (s.fr.vnew b h2).2.2
  ·exact .inr (zdc s.fr.size h2)
 ·obtain ⟨p1,p2,p3,p4,p5⟩:=s.pin x hx;refine ⟨(hk.stp.block _ (xa7 p1) p4).trans p1,p2,p3,fun hv=> ?_,p5⟩;rcases (hk.lt _ hv).2 with h5 | h5
  ·exact p4 h5
  ·have:=xa7 p1;omega
 ·rw [hyk] at h1;cases h1;rw [x7] at h2;cases h2;refine c.Jc _ _ _ _ _ _ hJ (Stp.refl _ _) fun b hb=> ?_;have hb':c.chg h η b:=hb.imp (hown b).1 id;exact ⟨zce (s.chg_lt hb') hk.stp.size,.inl hb'⟩
def LeL:List Ty->List Ty->Prop
 | [],[]=>True
 | t::r,u::s=>Le t u/\LeL r s
 | _,_=>False
theorem LeL.all {F:Dom} {w:World}: ∀{ts us:List Ty} {vs:List Value},LeL ts us->Tup.all F w ts vs->Tup.all F w us vs
 | [],[],[],_,_=>trivial
 | _::_,_::_,_::_,h1,h2=>⟨h1.1 _ _ _ h2.1,LeL.all h1.2 h2.2⟩
 | [],[],_::_,_,h=>h.elim
 | _::_,_::_,[],_,h=>h.elim
 | [],_::_,_,h,_=>h.elim
 | _::_,[],_,h,_=>h.elim
theorem yu7 {A:Array Oper} {rest:List Oper} {K l N k:Nat} {ys:Nat->List Ty} {x:Operand} {xs:List Operand} {aT:Array TypeId} {ts:List Ty} {d ty:Nat} {pos:String} {af:Array Edge} {gd:Option (Nat×Bool)}
  (hB:ItB P c K l N ys) (hw: ∀a w η,St' c g h al a w η->Region.wanted ⟨some d,.call {callee:= .value x,args:=xs.toArray,argTypes:=aT},ty,pos,af,gd⟩ (yielded A a.tmps)=true) (hdN:Nat.blt d c.N=true)
  (hx:look g x=some (.val (tE (.func (.yield l) #[] #[])))) (hr:Rd g (xs.zip (ts.map Ent.val))) (hl:xs.length=ts.length) (hK:h K=some ⟨2*k,1,false,[]⟩) (hk:k < N) (hle:LeL ts (ys k))
  (hT:wl P c A Q rest (upd g d (some (.val (tB true)))) (upd h K (some ⟨2*(k+1),1,false,[]⟩)) al) (hF:wl P c A Q rest (upd g d (some (.val (tB false)))) (upd h K (some ⟨2*k+3,1,false,[]⟩)) al):
  wl P c A Q (⟨some d,.call {callee:= .value x,args:=xs.toArray,argTypes:=aT},ty,pos,af,gd⟩::rest) g h al:=fun a w ⟨η,s⟩=>by
 unfold wpListIn;rw [if_pos (hw a w η s)];have h1:a.eval x= .func (.yield l) #[] #[]:=(xa2 s hx).1;have hv:=LeL.all hle (Tup.all_of s xs ts hr hl);have hj:=s.jj K _ hB.yk hK;have hD: ∀b,(c.dom h η b/\ ¬ ∃x∈c.pn,b=x.1)-> ¬c.chg h η b/\ ¬η.vo b/\(c.w0.heap.size<=b∨c.F0 b):=fun b hb=>⟨fun ho=>by
  rcases ho with ho | ho | ho
  ·exact hb.1.2.1 ho
  ·exact hb.1.2.2.2 ho
  ·exact hb.2 ho,hb.1.2.2.1,hb.1.1.imp id (·.1)⟩
 obtain ⟨fn,tmps,assign,body,hrun,hround⟩:=hB.hy k hk (c.chg h η) η.vo w (xs.map a.eval) (fun b=>c.dom h η b/\ ¬ ∃x∈c.pn,b=x.1) hj
  (Tup.all_mono (fun b o hb hl hd=>⟨⟨hb,fun ⟨y,hy,e⟩=>by
   obtain ⟨p1,p2,_⟩:=s.pin y hy;rw [<-e,hl] at p1;cases p1;rw [p2] at hd;cases hd⟩,hl⟩) _ _ hv) hD
 ·have hex:(execOp a.eval ⟨some d,.call {callee:= .value x,args:=xs.toArray,argTypes:=aT},ty,pos,af,gd⟩).run P w= .ok (.round l fn tmps assign body) w:=by
   simp only [execOp,resolve,h1,Deferred.ofValue,zbu,zbx,zbn,invoke];simp only [zdj,zcs];exact hrun
  refine ⟨fun _ _=>trivial,?_⟩;show Oper.uponIn _ _ _ _ _ _ _ (Sem.run P (Oper.semAt c.ro a.eval _) w);rw [yh4 hex (fun d h=>by cases h)];rw [hB.ro];refine ⟨fun h=>(by cases h),RoundIn.mono hround fun e w' he=> ?_⟩;obtain ⟨V',hkp,he⟩:=he;have hd:d < c.N:=by simpa using hdN
  rcases he with ⟨rfl,hJ⟩ | ⟨rfl,hJ⟩
  ·have s':=s.fed hB.yk hB.ln hB.c0 hK hkp hJ;have:=hT _ _ ⟨_,s'.put hd (e:= .val (tB true)) rfl fun j hj=>by cases hj⟩;rw [hB.ro] at this;exact this
  ·have s':=s.fed hB.yk hB.ln hB.c0 hK hkp hJ;have:=hF _ _ ⟨_,s'.put hd (e:= .val (tB false)) rfl fun j hj=>by cases hj⟩;rw [hB.ro] at this;exact this
theorem xk4 {A:Array Oper} {o:Oper} (ho:o.guard=none): ∀a w η,St' c g h al a w η->Region.wanted o (yielded A a.tmps)=true:=fun _ _ _ _=>by simp [Region.wanted,ho]
def Base.iter (N:Nat) (w:World) (F:Dom) (η:Env) (l0:List Nat) (H:List (Nat×HEnt)) (K:Nat) (V:Dom) (J:Nat->Dom->Dom->World->Prop) (Jc:JcOf J):Base:=⟨N,w,F,K::l0,η.set K 0 0,OwnK η H,none,[],[],fun _=>False,some K,V,J,Jc⟩
def PostI (P:Program) (fn:Func) (J:Nat->Dom->Dom->World->Prop) (N:Nat):Exit->Act->World->Prop:=PostR P fn fun _ w'=> ∃O V',J (2*N) O V' w'∨ ∃k,k < N/\J (2*k+3) O V' w'
theorem ItC.intro {f:FuncId} {fn:Func} {x:Code} {N M K:Nat} {H:List (Nat×HEnt)} {caps:List VP} {ys:Nat->List Ty} (l0:List Nat) (hf:P.funcs[f]? =some fn) (hb:fn.body=some x) (hN:fn.ntmps=M) (hlb:Nat.blt caps.length M=true) (hl0:subN (suppE (caps.map Ent.own)) l0=true) (hlH:SupHs H l0) (hKl:memN K l0=false)
  (hw: ∀w F η l V J Jc,ItB P (Base.iter M w F η l0 H K V J Jc) K l N ys->wc P (Base.iter M w F η l0 H K V J Jc) x (PostI P fn J N) (argsE 0 (.val (tE (.func (.yield l) #[] #[]))::caps.map Ent.own)) (upd (keysOf H) K (some ⟨0,1,false,[]⟩)) (nm (K::l0))):ItC P f H caps N ys:=by
 intro F w η vs l V J Jc hvs hK hinj hF hOV hV hY hJ;have hl:caps.length < M:=by simpa using hlb
 have hsat:SatL F w η (.val (tE (.func (.yield l) #[] #[]))::caps.map Ent.own) (Value.func (.yield l) #[] #[]::vs):=⟨rfl,SatL.own hvs⟩
 have hlen:=hsat.len;have hmem: ∀k∈suppE (caps.map Ent.own)++suppH H,k∈l0:=fun k hk=>by
  rcases zbp.1 hk with hk | hk
  ·exact xe8 hl0 k hk
  ·exact hlH.spec k hk
 have hne: ∀k,k∈l0->k≠K:=fun k hk e=>by rw [e] at hk;rw [xb2.2 hk] at hKl;cases hKl
 have hag: ∀k,k∈l0->(η.set K 0 0).b k=η.b k/\(η.set K 0 0).c k=η.c k:=fun k hk=>η.set_other _ _ (hne k hk);have hnH: ∀x∈H,x.1∈l0:=fun x hx=>hmem _ (zbp.2 (.inr (zcc.2 ⟨x,hx,by simp⟩)));have hkey: ∀k y,upd (keysOf H) K (some ⟨0,1,false,[]⟩) k=some y->(k=K/\y=⟨0,1,false,[]⟩)∨(k≠K/\(k,y)∈H):=fun k y hy=>by
  by_cases hk:k=K
  ·subst hk;rw [x7] at hy;cases hy;exact .inl ⟨rfl,rfl⟩
  ·rw [x3 _ _ _ hk] at hy;exact .inr ⟨hk,xd4 hy⟩
 have hown: ∀b,Own (upd (keysOf H) K (some ⟨0,1,false,[]⟩)) ⟨(η.set K 0 0).b,(η.set K 0 0).c,V⟩ b->OwnK η H b:=by
  rintro b ⟨k,y,hy,hc,rfl⟩;rcases hkey k y hy with ⟨rfl,_⟩ | ⟨_,hm⟩
  ·simp only [Env.set_c] at hc;omega
  ·obtain ⟨e1,e2⟩:=hag k (hnH _ hm);simp only [e1,e2] at hc ⊢;exact ⟨_,hm,hc,rfl⟩
 have hKp:Keep F ((Base.iter M w F η l0 H K V J Jc).dom (upd (keysOf H) K (some ⟨0,1,false,[]⟩)) ⟨(η.set K 0 0).b,(η.set K 0 0).c,V⟩) w w:=fun b o hb hl _=>⟨⟨.inr ⟨hb,(hF b hb).2⟩,fun ho=>(hF b hb).2 (hown b ho),(hF b hb).1,fun hv=>hv⟩,hl⟩
 refine zei (xh6 (R:=fun _ w'=> ∃O V',J (2*N) O V' w'∨ ∃k,k < N/\J (2*k+3) O V' w') hf hb (hw w F η l V J Jc ⟨rfl,by simp [Base.iter],Env.set_c _ _ _ _,hY,rfl⟩ _ w ⟨⟨(η.set K 0 0).b,(η.set K 0 0).c,V⟩,?_⟩)) (fun e w' ⟨v,he,ho⟩=>⟨v,he,ho⟩);refine ⟨?_,rfl,fun s e hs=> ?_,fun k x hx=> ?_,fun k k' x x' hx hx' hne' hc hc'=> ?_,⟨rfl,rfl,rfl,zbq _,fun _ _ _ _=>rfl,fun _ hb=>hb,fun b hb=>⟨hV b hb,rfl,.inl hb⟩⟩,fun k hk=>⟨xb2.2 hk,rfl,rfl⟩,fun x hx=>(by cases hx),fun b hb=>hb.elim,fun k hk=> ?_,fun k x hk hx=> ?_,fun b hb=> ?_⟩
 ·simp only [zdb,zch] at hlen;simp [hlen,hN,Base.iter];omega
 ·obtain ⟨j,h1,h2⟩:=xp5 _ 0 s e hs;have hj:j < caps.length+1:=by have:=(zbo.1 h2).1;simpa using this
  obtain ⟨v,hv,hp⟩:=SatL.get _ _ j e hsat h2;have hsup: ∀k∈e.supp,k∈l0:=fun k hk=>by
   cases j with
   | zero=>
    simp only [zcp,zck] at h2;subst h2;cases hk
   | succ j=>
    simp only [List.getElem?_cons_succ] at h2;exact hmem k (zbp.2 (.inl (zcc.2 ⟨e,zdw h2,hk⟩)))
  refine ⟨by show s < M;omega,fun k hk=>xb2.2 (by simp [hsup k hk]),?_⟩;have hl3:vs.length=caps.length:=by simpa using hlen
  have e1:((Value.func (.yield l) #[] #[]::vs).toArray++Array.replicate (fn.ntmps - (Value.func (.yield l) #[] #[]::vs).toArray.size) undef).getD s undef=v:=by
   rw [zbk,zfh,if_pos (by simp;omega)];rw [h1,zcn,zer,hv];rfl
  simp only [e1];exact Ent.sat_go hp hKp fun k hk=>hag k (hsup k hk)
 ·rcases hkey k x hx with ⟨rfl,rfl⟩ | ⟨_,hm⟩
  ·exact ⟨xb2.2 (by simp),fun j hj=>(by cases hj),⟨by simp,by simp,fun _=>rfl,by simp [Env.set_c],fun hc=>by simp only [Env.set_c] at hc;omega⟩,fun hc=>by simp only [Env.set_c] at hc;omega⟩
  ·have hsup: ∀j∈x.supp,j∈l0:=fun j hj=>hmem j (zbp.2 (.inr (zcc.2 ⟨_,hm,by simp [hj]⟩)));obtain ⟨e1,e2⟩:=hag k (hnH _ hm);refine ⟨xb2.2 (by simp [hnH _ hm]),fun j hj=>xb2.2 (by simp [hsup j hj]),HEnt.sat_go (hK _ hm) (fun _=>rfl) hKp (hag k (hnH _ hm)) fun j hj=>hag j (hsup j hj),fun hc=> ?_⟩;simp only [e1,e2] at hc ⊢;exact ⟨.inr ⟨_,hm,hc,rfl⟩,hOV _ ⟨_,hm,hc,rfl⟩,fun hv=>hv⟩
 ·rcases hkey k x hx with ⟨rfl,_⟩ | ⟨_,hm⟩
  ·simp only [Env.set_c] at hc;omega
  ·rcases hkey k' x' hx' with ⟨rfl,_⟩ | ⟨_,hm'⟩
   ·simp only [Env.set_c] at hc';omega
   ·obtain ⟨e1,e2⟩:=hag k (hnH _ hm);obtain ⟨e3,e4⟩:=hag k' (hnH _ hm');simp only [e1,e2,e3,e4] at hc hc' ⊢;exact hinj _ hm _ hm' hne' hc hc'
 ·have hk:some K=some k:=hk;cases hk;exact xb2.2 (by simp)
 ·have hk:some K=some k:=hk;cases hk;rw [x7] at hx;cases hx;refine Jc _ _ _ _ _ _ hJ (Stp.refl _ _) fun b hb=> ?_;rcases hb with hb | hb | ⟨x,hx,_⟩
  ·have:=hown b hb;obtain ⟨x,hx,hc,rfl⟩:=this;exact ⟨HEnt.lt (hK x hx) hc,.inl ⟨x,hx,hc,rfl⟩⟩
  ·exact hb.elim
  ·cases hx
 ·obtain ⟨x,hx,hc,rfl⟩:=hb;exact HEnt.lt (hK x hx) hc
theorem E_it {fn:Func} {K l N n:Nat} {ys:Nat->List Ty} {J:Nat->Dom->Dom->World->Prop} {e:Exit} (hB:ItB P c K l N ys) (hJ:c.J=J) (hd:dfB c.df c.pn) (hr:fn.results= #[]) (he:e= .ret∨e= .normal) (hK:h K=some ⟨n,1,false,[]⟩) (hn:n=2*N∨ ∃k,k < N/\n=2*k+3):wk c e (PostI P fn J N) g h al:=
 yd7 he hd fun df pn a w η s=>by
  have hj:=s.jj K _ hB.yk hK;have hj:c.J n ((c.with df pn).chg h η) η.vo w:=hj;rw [hJ] at hj;refine ⟨_,results_none hr a.tmps P w,(c.with df pn).chg h η,η.vo,?_⟩;rcases hn with rfl | ⟨k,hk,rfl⟩
  ·exact .inl hj
  ·exact .inr ⟨k,hk,hj⟩
end
def Base.lpb (c:Base) (D lp:Nat) (obj:Obj) (O:Dom):Base:={c with pn:=(lp,obj)::(D,.deferred (some []))::c.pn,vi:=O}
def Base.rnd (c:Base) (D lp:Nat) (obj:Obj) (O:Dom) (W:World) (ln:List Nat) (lη:Env) (lb V0:Dom):Base:=
 {c with w0:=W,F0:=fun b=>(c.w0.heap.size<=b∨c.F0 b)/\ ¬c.lb b,ln,lη,lb,ro:=some lp,df:=[],pn:=(lp,obj)::(D,.deferred (some []))::c.pn,vi:=O,V0}
def Base.lp (c:Base) (D:Nat):Base:={c with df:=D::c.df,pn:=(D,.deferred (some []))::c.pn}
theorem Plain.loop {c:Base} {w0:World} {F:Dom} {D:Nat} (h:Plain c w0 F) (hD:D∉c.df):Plain (c.lp D) w0 F:=by
 refine ⟨h.w0,h.F0,h.lb,h.V0,?_⟩;have key: ∀l:List Nat,dfB l c.pn->dfB l ((D,Obj.deferred (some []))::c.pn):=by
  intro l
  induction l with
  | nil=>intro _;trivial
  | cons x r ih=>intro hx;exact ⟨zcd _ hx.1,hx.2.1,ih hx.2.2⟩
 exact ⟨List.Mem.head _,hD,key _ h.df⟩
theorem LentC.loop {c:Base} {w0:World} {F:Dom} {η:Env} {l0:List Nat} {H:List (Nat×HEnt)} {D:Nat} (h:LentC c w0 F η l0 H) (hD:D∉c.df):LentC (c.lp D) w0 F η l0 H:=by
 refine ⟨h.w0,h.F0,h.ln,h.lb,h.lη,h.yk,?_⟩;have key: ∀l:List Nat,dfB l c.pn->dfB l ((D,Obj.deferred (some []))::c.pn):=by
  intro l
  induction l with
  | nil=>intro _;trivial
  | cons x r ih=>intro hx;exact ⟨zcd _ hx.1,hx.2.1,ih hx.2.2⟩
 exact ⟨List.Mem.head _,hD,key _ h.df⟩
section
variable {P:Program} {c:Base} {g:Slots} {h:Keys} {al:Names} {Q:Exit->Act->World->Prop} {a:Act} {w w':World} {η:Env}
theorem qg3 (w:World) (l:Nat) (o:Obj):(w.putObj l o).heap.size=w.heap.size:=by simp [World.putObj]
theorem St'.repin (s:St' c g h al a w η) {lp:Nat} {o o':Obj} {rest:List (Nat×Obj)} (hp:c.pn=(lp,o)::rest) (hne: ∀x∈rest,x.1≠lp) (hnd:isData o'=false):St' {c with pn:=(lp,o')::rest} g h al a (w.putObj lp o') η:=by
 have hm:(lp,o)∈c.pn:=by rw [hp];simp
 obtain ⟨h1,h2,h3,h4,h5⟩:=s.pin _ hm;simp only at h1 h2 h3 h4 h5;have hlt:=xa7 h1;have hoth: ∀b,b≠lp->(w.putObj lp o').heap[b]? =w.heap[b]? :=fun b hb=>World.putObj_heap_other hb;have hsz:=qg3 w lp o';have hno: ¬Own h η lp:=s.npin hm;have hK:Keep (c.dom h η) (c.dom h η) w (w.putObj lp o'):=fun b o2 hb hl hd=>⟨hb,(hoth b fun e=>by
  rw [e,h1] at hl;cases hl;rw [h2] at hd;cases hd).trans hl⟩
 refine ⟨s.tn,s.df,fun t x hx=> ?_,fun k x hx=> ?_,s.inj,⟨s.fr.os,s.fr.tape,s.fr.output,by rw [hsz];exact s.fr.size,fun b hb hl hv=> ?_,s.fr.vold,fun b hb=>by rw [hsz];exact s.fr.vnew b hb⟩,s.lk,fun x hx=> ?_,fun b hb=>by rw [hsz];exact s.vol b hb,s.yal,fun k x hk hx=> ?_,s.lbl⟩
 ·exact ⟨(s.slot t x hx).1,(s.slot t x hx).2.1,Ent.sat_go (s.slot t x hx).2.2 hK fun _ _=>⟨rfl,rfl⟩⟩
 ·exact ⟨(s.key k x hx).1,(s.key k x hx).2.1,HEnt.sat_go (s.key k x hx).2.2.1 (fun hc=>hoth _ fun e=>hno ⟨k,x,hx,hc,e.symm⟩) hK ⟨rfl,rfl⟩ fun _ _=>⟨rfl,rfl⟩,(s.key k x hx).2.2.2⟩
 ·rw [hoth b (by
   rintro rfl;have hb:b < c.w0.heap.size:=hb;rcases h3 with h3 | h3
   ·omega
   ·exact hl h3)]
  exact s.fr.block b hb hl hv
 ·rcases zbr.1 hx with rfl | hx
  ·exact ⟨World.putObj_heap_same hlt,hnd,h3,h4,h5⟩
  ·obtain ⟨p1,p2⟩:=s.pin x (by rw [hp];simp [hx]);exact ⟨(hoth _ (hne x hx)).trans p1,p2⟩
 ·refine c.Jc _ _ _ _ _ _ (s.jj k x hk hx) ⟨rfl,rfl,rfl,by rw [hsz];exact zbq _,fun b _ hn=>hoth b fun e=>hn (.inr (.inr ⟨_,hm,e⟩))⟩ fun b hb=> ?_;have hb':c.chg h η b:=hb.imp id (.imp id fun ⟨x,hx,e⟩=>by
   rcases zbr.1 hx with rfl | hx
   ·exact ⟨_,hm,e⟩
   ·exact ⟨x,by rw [hp];simp [hx],e⟩)
  exact ⟨by rw [hsz];exact s.chg_lt hb',.inl hb'⟩
theorem St'.fedOn {D lp:Nat} {obj:Obj} {O O':Dom} (s:St' (c.lpb D lp obj O) g h al a w η) (st:Stp O w w') (hO0: ∀b,O b->c.w0.heap.size<=b∨c.lb b) (hO: ∀b,O' b->b < w'.heap.size/\(O b∨w.heap.size<=b)):St' (c.lpb D lp obj O') g h al a w' η:=by
 have hsz:c.w0.heap.size<=w.heap.size:=s.fr.size;have hnO: ∀b,b < w.heap.size-> ¬O b-> ¬O' b:=fun b hb hn ho=>by
  rcases (hO b ho).2 with h1 | h1
  ·exact hn h1
  ·omega
 have hK:Keep ((c.lpb D lp obj O).dom h η) ((c.lpb D lp obj O').dom h η) w w':=fun b o hb hl _=>⟨⟨hb.1,hb.2.1,hb.2.2.1,hnO b (xa7 hl) hb.2.2.2⟩,(st.block b (xa7 hl) hb.2.2.2).trans hl⟩
 refine ⟨s.tn,s.df,fun t x hx=> ?_,fun k x hx=> ?_,s.inj,⟨st.os.trans s.fr.os,st.tape.trans s.fr.tape,st.output.trans s.fr.output,zdc s.fr.size st.size,fun b hb hl hv=> ?_,s.fr.vold,fun b hb=>⟨zce (s.fr.vnew b hb).1 st.size,(s.fr.vnew b hb).2⟩⟩,s.lk,fun x hx=> ?_,fun b hb=> ?_,s.yal,fun k x hk hx=> ?_,s.lbl⟩
 ·exact ⟨(s.slot t x hx).1,(s.slot t x hx).2.1,Ent.sat_go (s.slot t x hx).2.2 hK fun _ _=>⟨rfl,rfl⟩⟩
 ·obtain ⟨h1,h2,h3,h4⟩:=s.key k x hx;exact ⟨h1,h2,HEnt.sat_go h3 (fun hc=>st.block _ (HEnt.lt h3 hc) (h4 hc).2.2) hK ⟨rfl,rfl⟩ fun _ _=>⟨rfl,rfl⟩,fun hc=>⟨(h4 hc).1,(h4 hc).2.1,hnO _ (HEnt.lt h3 hc) (h4 hc).2.2⟩⟩
 ·have hb:b < c.w0.heap.size:=hb;refine (st.block b (by omega) fun ho=> ?_).trans (s.fr.block b hb hl hv);rcases hO0 b ho with h1 | h1
  ·omega
  ·exact hl h1
 ·obtain ⟨p1,p2,p3,p4,p5⟩:=s.pin x hx;exact ⟨(st.block _ (xa7 p1) p5).trans p1,p2,p3,p4,hnO _ (xa7 p1) p5⟩
 ·exact (hO b hb).1
 ·refine c.Jc _ _ _ _ _ _ (s.jj k x hk hx) (st.mono fun b _ hb=> .inr (.inl hb)) fun b hb=> ?_;rcases hb with hb | hb | ⟨y,hy,e⟩
  ·exact ⟨zce (s.olt hb) st.size,.inl (.inl hb)⟩
  ·exact ⟨(hO b hb).1,(hO b hb).2.imp (fun h'=> .inr (.inl h')) id⟩
  ·exact ⟨by rw [e];exact zce (xa7 (s.pin y hy).1) st.size,.inl (.inr (.inr ⟨y,hy,e⟩))⟩
def setP:Slots->List Nat->List Ty->Slots
 | g,p::ps,t::ts=>setP (upd g p (some (.val t))) ps ts
 | g,_,_=>g
theorem qk8 {F:Dom} {N:Nat}: ∀(ps:List Nat) (ts:List Ty) (vs:List Value) (g:Slots) (tmps:Array Value),tmps.size=N->(∀p∈ps,p < N)->Tup.all F w ts vs->ps.length=ts.length->
  (∀s e,g s=some e->s < N/\(∀k∈e.supp,al k=true)/\e.sat F w η (tmps.getD s undef))->
  ((ps.zip vs).foldl (fun t (x:Nat×Value)=>t.setIfInBounds x.1 x.2) tmps).size=N/\ ∀s e,setP g ps ts s=some e->s < N/\(∀k∈e.supp,al k=true)/\e.sat F w η (((ps.zip vs).foldl (fun t (x:Nat×Value)=>t.setIfInBounds x.1 x.2) tmps).getD s undef)
 | [],[],[],g,tmps,h1,_,_,_,h2=>⟨h1,h2⟩
 | p::ps,t::ts,v::vs,g,tmps,h1,hp,hv,hl,h2=>
  qk8 ps ts vs (upd g p (some (.val t))) (tmps.setIfInBounds p v) (by simpa using h1) (fun q hq=>hp q (by simp [hq])) hv.2 (by simpa using hl) (fun s e hs=>by
   by_cases hsp:s=p
   ·subst hsp;rw [x7] at hs;cases hs;have hlt:=hp s (by simp);exact ⟨hlt,fun k hk=>(by cases hk),by rw [zbk];simp [h1,hlt];exact hv.1⟩
   ·rw [x3 _ _ _ hsp] at hs;obtain ⟨e1,e2,e3⟩:=h2 s e hs;refine ⟨e1,e2,?_⟩;rw [zbk,zfr (fun e=>hsp e.symm),<-zbk];exact e3)
 | [],_::_,_,_,_,_,_,_,hl,_=>by simp at hl
 | _::_,[],_,_,_,_,_,_,hl,_=>by simp at hl
 | [],[],_::_,_,_,_,_,hv,_,_=>hv.elim
 | _::_,_::_,[],_,_,_,_,hv,_,_=>hv.elim
theorem jt7 (ps:List Nat) (vs:List Value) (tmps:Array Value):(ps.toArray.zip vs.toArray).foldl (fun t (x:Nat×Value)=>t.setIfInBounds x.1 x.2) tmps=(ps.zip vs).foldl (fun t (x:Nat×Value)=>t.setIfInBounds x.1 x.2) tmps:=by
 rw [<-Array.foldl_toList,Array.toList_zip]
def lbR (c:Base) (D lp:Nat) (h:Keys) (η:Env):Dom:=fun b=>Own h η b∨b=lp∨b=D∨ ∃x∈c.pn,b=x.1
theorem St'.begin {D lp:Nat} {obj:Obj} {O V:Dom} (s:St' (c.lpb D lp obj O) g h al a w η) (ln:List Nat) (hln: ∀k∈ln,al k=true) {ps:List Nat} {ts:List Ty} {vs:List Value} {D0:Dom} (hV: ∀b,Own h η b->V b) (hV2: ∀b,η.vo b->V b)
  (hD0: ∀b,D0 b-> ¬O b/\ ¬V b/\(c.w0.heap.size<=b∨(c.F0 b/\ ¬c.lb b))) (hv:Tup.all D0 w ts vs) (hps: ∀p∈ps,p < c.N) (hl:ps.length=ts.length):
  St' (c.rnd D lp obj O w ln η (lbR c D lp h η) η.vo) (setP g ps ts) h al {tmps:=(ps.zip vs).foldl (fun t (x:Nat×Value)=>t.setIfInBounds x.1 x.2) a.tmps,defers:=[]} w η:=by
 have hsz:c.w0.heap.size<=w.heap.size:=s.fr.size;have hlb: ∀b,lbR c D lp h η b->b < w.heap.size:=by
  rintro b (hb | rfl | rfl | ⟨x,hx,rfl⟩)
  ·exact s.olt hb
  ·exact xa7 (s.pin (b,obj) (by simp [Base.lpb])).1
  ·exact xa7 (s.pin (b,Obj.deferred (some [])) (by simp [Base.lpb])).1
  ·exact xa7 (s.pin x (by simp [Base.lpb,hx])).1
 have hpinD: ∀b o,w.heap[b]? =some o->isData o=true-> ∀x∈(c.lpb D lp obj O).pn,b≠x.1:=fun b o hl hd x hx e=>by
  obtain ⟨p1,p2,_⟩:=s.pin x hx;rw [<-e,hl] at p1;cases p1;rw [p2] at hd;cases hd
 have hlbD: ∀b o,w.heap[b]? =some o->isData o=true-> ¬Own h η b-> ¬lbR c D lp h η b:=fun b o hl hd h1=>by
  rintro (hb | rfl | rfl | ⟨x,hx,rfl⟩)
  ·exact h1 hb
  ·exact hpinD _ o hl hd (b,obj) (by simp [Base.lpb]) rfl
  ·exact hpinD _ o hl hd (b,Obj.deferred (some [])) (by simp [Base.lpb]) rfl
  ·exact hpinD _ o hl hd x (by simp [Base.lpb,hx]) rfl
 have hK:Keep ((c.lpb D lp obj O).dom h η) ((c.rnd D lp obj O w ln η (lbR c D lp h η) η.vo).dom h η) w w:=fun b o hb hl hd=>by
  refine ⟨⟨.inr ⟨⟨hb.1.imp id (·.1),?_⟩,hlbD b o hl hd hb.2.1⟩,hb.2⟩,hl⟩;rcases hb.1 with h1 | h1
  ·intro hb';have hb':(c.lpb D lp obj O).lb b:=hb';have h2:=s.lbl b hb';have h1:c.w0.heap.size<=b:=h1;have h2:b < c.w0.heap.size:=h2;omega
  ·exact h1.2
 have hKD:Keep D0 ((c.rnd D lp obj O w ln η (lbR c D lp h η) η.vo).dom h η) w w:=fun b o hb hl hd=>by
  obtain ⟨e1,e2,e3⟩:=hD0 b hb;have h1: ¬Own h η b:=fun ho=>e2 (hV b ho);have h2: ¬η.vo b:=fun ho=>e2 (hV2 b ho);refine ⟨⟨.inr ⟨⟨e3.imp id (·.1),?_⟩,hlbD b o hl hd h1⟩,h1,h2,e1⟩,hl⟩;rcases e3 with h3 | h3
  ·intro hb';have h4:=s.lbl b hb';have h4:b < c.w0.heap.size:=h4;omega
  ·exact h3.2
 obtain ⟨t1,t2⟩:=qk8 (w:=w) (al:=al) (η:=η) (F:=(c.rnd D lp obj O w ln η (lbR c D lp h η) η.vo).dom h η) (N:=c.N) ps ts vs g a.tmps s.tn hps (Tup.all_mono hKD _ _ hv) hl (fun t e ht=>⟨(s.slot t e ht).1,(s.slot t e ht).2.1,Ent.sat_go (s.slot t e ht).2.2 hK fun _ _=>⟨rfl,rfl⟩⟩);refine ⟨t1,rfl,t2,fun k x hx=> ?_,s.inj,⟨rfl,rfl,rfl,zbq _,fun _ _ _ _=>rfl,fun _ hb=>hb,fun b hb=>⟨(s.fr.vnew b hb).1,(s.fr.vnew b hb).2.1,.inl hb⟩⟩,fun k hk=>⟨hln k hk,rfl,rfl⟩,fun x hx=> ?_,s.vol,s.yal,s.jj,hlb⟩
 ·obtain ⟨h1,h2,h3,h4⟩:=s.key k x hx;exact ⟨h1,h2,HEnt.sat_go h3 (fun _=>rfl) hK ⟨rfl,rfl⟩ fun _ _=>⟨rfl,rfl⟩,fun hc=>⟨.inr (.inl ⟨k,x,hx,hc,rfl⟩),(h4 hc).2⟩⟩
 ·obtain ⟨p1,p2,p3,p4⟩:=s.pin x hx;refine ⟨p1,p2,.inr ?_,p4⟩;rcases zbr.1 hx with rfl | hx
  ·exact .inr (.inl rfl)
  ·rcases zbr.1 hx with rfl | hx
   ·exact .inr (.inr (.inl rfl))
   ·exact .inr (.inr (.inr ⟨x,hx,rfl⟩))
theorem St'.endOwn {D lp:Nat} {obj':Obj} {O:Dom} {ln:List Nat} {g3:Slots} {h3:Keys} {al3:Names} {a3:Act} {w3:World} {η3:Env} (s3:St' (c.rnd D lp obj' O w ln η (lbR c D lp h η) η.vo) g3 h3 al3 a3 w3 η3):
  ∀k x,h3 k=some x->0 < η3.c k->w.heap.size<=η3.b k∨Own h η (η3.b k):=fun k x hx hc=>by
 obtain ⟨_,_,q3,q4⟩:=s3.key k x hx;rcases (q4 hc).1 with h1 | h1
 ·exact .inl h1
 ·rcases h1 with hb | hb | hb | ⟨y,hy,e⟩
  ·exact .inr hb
  ·exact absurd ⟨k,x,hx,hc,hb.symm⟩ (s3.npin (x:=(lp,obj')) (by simp [Base.rnd]))
  ·exact absurd ⟨k,x,hx,hc,hb.symm⟩ (s3.npin (x:=(D,Obj.deferred (some []))) (by simp [Base.rnd]))
  ·exact absurd ⟨k,x,hx,hc,e.symm⟩ (s3.npin (x:=y) (by simp [Base.rnd,hy]))
theorem St'.endR {D lp:Nat} {obj obj':Obj} {O:Dom} {ln:List Nat} {g3:Slots} {h3:Keys} {al3:Names} {a3:Act} {w3:World} {η3:Env} (s:St' (c.lpb D lp obj O) g h al a w η) (s3:St' (c.rnd D lp obj' O w ln η (lbR c D lp h η) η.vo) g3 h3 al3 a3 w3 η3)
  (hal: ∀k,al k=true->al3 k=true) (hln: ∀k∈c.ln,k∈ln) (hg: ∀t e,g t=some e-> ∀k∈e.supp,k∈ln):St' (c.lpb D lp obj' O) g h3 al3 a w3 η3:=by
 have hsz:c.w0.heap.size<=w.heap.size:=s.fr.size;have hsz3:w.heap.size<=w3.heap.size:=s3.fr.size;have hag: ∀k∈ln,η3.b k=η.b k/\η3.c k=η.c k:=fun k hk=>(s3.lk k hk).2;have hpinD: ∀b o,w.heap[b]? =some o->isData o=true-> ∀x∈(c.lpb D lp obj O).pn,b≠x.1:=fun b o hl hd x hx e=>by
  obtain ⟨p1,p2,_⟩:=s.pin x hx;rw [<-e,hl] at p1;cases p1;rw [p2] at hd;cases hd
 have hlbD: ∀b o,w.heap[b]? =some o->isData o=true-> ¬Own h η b-> ¬lbR c D lp h η b:=fun b o hl hd h1=>by
  rintro (hb | rfl | rfl | ⟨x,hx,rfl⟩)
  ·exact h1 hb
  ·exact hpinD _ o hl hd (b,obj) (by simp [Base.lpb]) rfl
  ·exact hpinD _ o hl hd (b,Obj.deferred (some [])) (by simp [Base.lpb]) rfl
  ·exact hpinD _ o hl hd x (by simp [Base.lpb,hx]) rfl
 have hvo3: ∀b,b < w.heap.size->η3.vo b->η.vo b:=fun b hb hv=>by
  rcases (s3.fr.vnew b hv).2.2 with h1 | h1
  ·exact h1
  ·have h1:w.heap.size<=b:=h1;omega
 have hown3:=St'.endOwn s3;have hK:Keep ((c.lpb D lp obj O).dom h η) ((c.lpb D lp obj' O).dom h3 η3) w w3:=fun b o hb hl hd=>by
  have hlt:=xa7 hl;have hnl:=hlbD b o hl hd hb.2.1;have hnv: ¬η3.vo b:=fun hv=>hb.2.2.1 (hvo3 b hlt hv);refine ⟨⟨hb.1,?_,hnv,hb.2.2.2⟩,(s3.fr.block b hlt hnl hnv).trans hl⟩;rintro ⟨k,x,hx,hc,rfl⟩;rcases hown3 k x hx hc with h1 | h1
  ·omega
  ·exact hb.2.1 h1
 have hK3:Keep ((c.rnd D lp obj' O w ln η (lbR c D lp h η) η.vo).dom h3 η3) ((c.lpb D lp obj' O).dom h3 η3) w3 w3:=fun b o hb hl _=>by
  refine ⟨⟨?_,hb.2⟩,hl⟩;rcases hb.1 with h1 | h1
  ·have h1:w.heap.size<=b:=h1;exact .inl (zdc hsz h1)
  ·rcases h1.1.1 with h2 | h2
   ·exact .inl h2
   ·exact .inr ⟨h2,h1.1.2⟩
 have hnlb: ∀b,b < c.w0.heap.size-> ¬c.lb b-> ¬lbR c D lp h η b:=fun b hb hn=>by
  rintro (⟨k,x,hx,hc,rfl⟩ | hp | hp | ⟨x,hx,e⟩)
  ·rcases ((s.key k x hx).2.2.2 hc).1 with h1 | h1
   ·have h1:c.w0.heap.size<=η.b k:=h1;omega
   ·exact hn h1
  ·rcases (s.pin (lp,obj) (by simp [Base.lpb])).2.2.1 with h1 | h1
   ·have h1:c.w0.heap.size<=lp:=h1;omega
   ·exact hn (hp▸h1)
  ·rcases (s.pin (D,Obj.deferred (some [])) (by simp [Base.lpb])).2.2.1 with h1 | h1
   ·have h1:c.w0.heap.size<=D:=h1;omega
   ·exact hn (hp▸h1)
  ·rcases (s.pin x (by simp [Base.lpb,hx])).2.2.1 with h1 | h1
   ·have h1:c.w0.heap.size<=x.1:=h1;omega
   ·exact hn (e▸h1)
 refine ⟨s.tn,s.df,fun t x hx=> ?_,fun k x hx=> ?_,s3.inj,⟨s3.fr.os.trans s.fr.os,s3.fr.tape.trans s.fr.tape,s3.fr.output.trans s.fr.output,zdc s.fr.size s3.fr.size,fun b hb hl hv=> ?_,fun b hb=>s3.fr.vold b (s.fr.vold b hb),fun b hb=>⟨(s3.fr.vnew b hb).1,(s3.fr.vnew b hb).2.1,?_⟩⟩,fun k hk=> ?_,fun x hx=> ?_,fun b hb=> ?_,s3.yal,s3.jj,s.lbl⟩
 ·obtain ⟨h1,h2,h4⟩:=s.slot t x hx;exact ⟨h1,fun k hk=>hal k (h2 k hk),Ent.sat_go h4 hK fun k hk=>hag k (hg t x hx k hk)⟩
 ·obtain ⟨h1,h2,h4,h5⟩:=s3.key k x hx;refine ⟨h1,h2,HEnt.sat_go h4 (fun _=>rfl) hK3 ⟨rfl,rfl⟩ fun _ _=>⟨rfl,rfl⟩,fun hc=>⟨?_,(h5 hc).2⟩⟩;rcases hown3 k x hx hc with h6 | ⟨j,y,hj,hcj,e⟩
  ·exact .inl (zdc hsz h6)
  ·rw [e];exact ((s.key j y hj).2.2.2 hcj).1
 ·have hb:b < c.w0.heap.size:=hb;exact (s3.fr.block b (zce hb hsz) (hnlb b hb hl) hv).trans (s.fr.block b hb hl fun h'=>hv (s3.fr.vold b h'))
 ·rcases (s3.fr.vnew b hb).2.2 with h1 | h1
  ·exact (s.fr.vnew b h1).2.2
  ·exact .inr (zdc hsz h1)
 ·obtain ⟨h1,h2,h4⟩:=s.lk k hk;obtain ⟨e1,e2⟩:=hag k (hln k hk);exact ⟨hal k h1,e1.trans h2,e2.trans h4⟩
 ·obtain ⟨p1,p2,p3,p4⟩:=s3.pin x hx;refine ⟨p1,p2,?_,p4⟩;rcases zbr.1 hx with rfl | hx
  ·exact (s.pin (lp,obj) (by simp [Base.lpb])).2.2.1
  ·exact (s.pin x (by rw [Base.lpb];exact zcd _ hx)).2.2.1
 ·exact zce (s.vol b hb) hsz3
theorem St'.behind {D lp:Nat} {obj:Obj} {O:Dom} (s:St' (c.lpb D lp obj O) g h al a w η) (hvi: ∀b,¬c.vi b):
  St' (c.lp D) g h al {a with defers:={target:= .collected D,args:= #[]}::a.defers} w η:=by
 have hK:Keep ((c.lpb D lp obj O).dom h η) ((c.lp D).dom h η) w w:=fun b o hb hl _=>⟨⟨hb.1,hb.2.1,hb.2.2.1,hvi b⟩,hl⟩
 refine ⟨s.tn,?_,fun t x hx=> ?_,fun k x hx=> ?_,s.inj,⟨s.fr.os,s.fr.tape,s.fr.output,s.fr.size,s.fr.block,s.fr.vold,s.fr.vnew⟩,s.lk,fun x hx=> ?_,fun b hb=>(hvi b hb).elim,s.yal,fun k x hk hx=> ?_,s.lbl⟩
 ·show _::a.defers=_;rw [s.df];rfl
 ·exact ⟨(s.slot t x hx).1,(s.slot t x hx).2.1,Ent.sat_go (s.slot t x hx).2.2 hK fun _ _=>⟨rfl,rfl⟩⟩
 ·obtain ⟨h1,h2,h3,h4⟩:=s.key k x hx;exact ⟨h1,h2,HEnt.sat_go h3 (fun _=>rfl) hK ⟨rfl,rfl⟩ fun _ _=>⟨rfl,rfl⟩,fun hc=>⟨(h4 hc).1,(h4 hc).2.1,hvi _⟩⟩
 ·obtain ⟨p1,p2,p3,p4,_⟩:=s.pin x (zcd _ hx);exact ⟨p1,p2,p3,p4,hvi _⟩
 ·refine c.Jc _ _ _ _ _ _ (s.jj k x hk hx) (Stp.refl _ _) fun b hb=> ?_;have hb':(c.lpb D lp obj O).chg h η b:=by
   rcases hb with hb | hb | ⟨y,hy,e⟩
   ·exact .inl hb
   ·exact (hvi b hb).elim
   ·exact .inr (.inr ⟨y,zcd _ hy,e⟩)
  exact ⟨s.chg_lt hb',.inl hb'⟩
end
end An
