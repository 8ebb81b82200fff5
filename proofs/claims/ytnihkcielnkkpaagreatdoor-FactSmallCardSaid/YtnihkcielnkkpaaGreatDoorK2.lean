/- Part 2 of a proof: LibS, LibT, LibU, LibV, Num, Num2, Num3, Pack, Borrow, Cmp, Row, Arith, LibW, LibX, LibAu, W1, W2, W3, Mul, Shift, W4, Knuth, Dstep, W5, Div, W6, Diff, W7, Lehmer, W8, Wh, Wh2, W9, Wh3, W10, Fr, W11, W12, Split, Tl, LibZa, S1, Ref, Ref2, Ref3, S2, S3, S4, Tl2, S5, LibY, LibZ, S6, LibZb, S7, Tl3, S8, Sv, Tv, Tv2, Tv3, LibZe, LibZd, Tw, LibZf, P1, Gs, Tx, Chg, Chg2a. -/
import Derived.Test.YtnihkcielnkkpaaGreatDoorProg
import Derived.Lib.BitFns
import Derived.ProofKit
import Derived.OpenShut
import Derived.Deep.Slices
import Derived.Shelf.SlSortCmp.NoneTotal
import Derived.Shelf.Sort.Plain
import Derived.Shelf.Slices.In.SortNone
import Derived.Shelf.Slices.CompactI
import Derived.Test.YtnihkcielnkkpaaGreatDoorK1
set_option maxHeartbeats 4000000
set_option maxRecDepth 100000
namespace An
open Go
def codeOf:Exit->Code
 | .exit id=> .exit id
 | _=> .ret
def SS (c:Base) (D lp:Nat) (obj:Obj) (O V:Dom) (G0:Slots) (h:Keys) (l:List Nat) (a:Act) (W:World):Prop:=
 ∃η,St' (c.lpb D lp obj O) G0 h (nm l) a W η/\(∀b,Own h η b->V b)/\(∀b,η.vo b->V b)/\(∀b,V b->b < W.heap.size)/\(∀x∈(c.lpb D lp obj O).pn,V x.1)/\(∀b,O b->c.w0.heap.size<=b∨c.lb b)
theorem SS.on {c:Base} {D lp:Nat} {obj:Obj} {O O' V:Dom} {G0:Slots} {h:Keys} {l:List Nat} {a:Act} {W W':World} (s:SS c D lp obj O V G0 h l a W) (st:Stp O W W') (hO: ∀b,O' b->b < W'.heap.size/\(O b∨W.heap.size<=b)):SS c D lp obj O' V G0 h l a W':=by
 obtain ⟨η,s,h1,h2,h3,h4,h5⟩:=s;refine ⟨η,s.fedOn st h5 hO,h1,h2,fun b hb=>zce (h3 b hb) st.size,h4,fun b hb=> ?_⟩;rcases (hO b hb).2 with h6 | h6
 ·exact h5 b h6
 ·exact .inl (zdc s.fr.size h6)
def PostRnd {ι κ:Type} (cB:Base) (I:Nat->ι->Prop) (H:Nat->ι->Keys) (Ix:Exit->κ->Prop) (Hx:κ->Keys) (l:List Nat) (k:Nat):Exit->Act->World->Prop
 | .normal,a,w=> ∃i,I (k+1) i/\St cB (fun _=>none) (H (k+1) i) (nm l) a w
 | e,a,w=> ∃i,Ix e i/\St cB (fun _=>none) (Hx i) (nm l) a w
def JC {ι κ:Type} (c:Base) (D lp:Nat) (rec_:LoopState->Option Code->Loop) (G0:Slots) (l:List Nat) (a:Act) (I:Nat->ι->Prop) (H:Nat->ι->Keys) (Ix:Exit->κ->Prop) (Hx:κ->Keys) (n:Nat) (O V:Dom) (W:World):Prop:=
 (∃k i,n=2*k/\I k i/\SS c D lp (.loop (rec_ .ready none)) O V G0 (H k i) l a W)∨(∃k e i,n=2*k+3/\Ix e i/\SS c D lp (.loop (rec_ .done (some (codeOf e)))) O V G0 (Hx i) l a W)
section
variable {P:Program} {c:Base} {g:Slots} {h:Keys} {al:Names} {Q:Exit->Act->World->Prop}
theorem xz0 {ι κ:Type} {I:Nat->ι->Prop} {H:Nat->ι->Keys} {Ix:Exit->κ->Prop} {Hx:κ->Keys} {l:List Nat} {k:Nat} (i:ι) (hi:I (k+1) i) (hh:SubK (H (k+1) i) h) (sh:SupH (H (k+1) i) (nm l)) (hlk:LkOk c (nm l)):wk c .normal (PostRnd c I H Ix Hx l k) g h al:=
 fun _ _ hs=>⟨i,hi,hs.weaken zay hh zar sh hlk⟩
theorem jw2 {x:Operand} {ps:List Nat} {assign body:Code} {f:FuncId} {Hl:List (Nat×HEnt)} {caps:List VP} {N:Nat} {ys:Nat->List Ty} (ρ:Nat->Nat)
    (hro:c.ro=none) (hvi: ∀b,¬c.vi b) (hdf:dfB c.df c.pn) (hit:ItC P f Hl caps N ys) (hf:FnI P f)
    (hx:look g x=some (.own (.fn f (VP.rens ρ caps)))) (hHl:Kr h (Hl.map fun y=>(ρ y.1,y.2.ren ρ))) (hρ:injN ρ (Hl.map (·.1))=true)
    (hps:(ps.all fun p=>Nat.blt p c.N)=true) (hys: ∀k,k < N->(ys k).length=ps.length)
    (G0:Slots) (l nG:List Nat) (hG:Sub G0 g) (hGn:SupG G0 (nm nG)) (hnG:subN (nG++c.ln) l=true) (hlk:LkOk c (nm l))
    {ι:Type} (I:Nat->ι->Prop) (H:Nat->ι->Keys) (hH: ∀k i,SupH (H k i) (nm l)) (hdis: ∀k i,∀y∈Hl,H k i (ρ y.1)=none)
    {κ:Type} (Ix:Exit->κ->Prop) (Hx:κ->Keys) (hIx: ∀e i,Ix e i->e= .ret∨ ∃id,e= .exit id)
    (i0:ι) (h0:I 0 i0) (hK0:SubK (H 0 i0) h)
    (round: ∀(D lp:Nat) (o1 o2:Obj) (O:Dom) (W:World) (lη:Env) (lb V0:Dom) (k:Nat) (i:ι),k < N->I k i->c.w0.heap.size<=W.heap.size->
      ∃g1 h1 al1,wc P (c.rnd D lp o1 O W (nG++c.ln) lη lb V0) assign (Exit.then (fun a w=>St (c.rnd D lp o1 O W (nG++c.ln) lη lb V0) g1 h1 al1 a w) (fun _ _ _=>False)) (setP G0 ps (ys k)) (H k i) (nm l)/\
        wc P (c.rnd D lp o2 O W (nG++c.ln) lη lb V0) body (PostRnd (c.rnd D lp o2 O W (nG++c.ln) lη lb V0) I H Ix Hx l k) g1 h1 al1)
    (done: ∀D,D∉c.df-> ∀i,I N i->wk (c.lp D) .normal Q G0 (H N i) (nm l))
    (stop: ∀D,D∉c.df-> ∀e i,Ix e i->wk (c.lp D) e Q G0 (Hx i) (nm l)):
    wc P c (.rangeFunc x ps.toArray assign body) Q g h al:=by
  intro a w ⟨η,s⟩;rw [hro];refine wpIn_rangeFunc fun fn _=> ?_;obtain ⟨rec_,hrec⟩: ∃rec_:LoopState->Option Code->Loop,rec_=fun st pe=>{state:=st,pending:=pe,fn,tmps:=a.tmps,params:=ps.toArray,assign,body,defers:=w.heap.size}:=⟨_,rfl⟩
  obtain ⟨D,hD⟩: ∃D,D=w.heap.size:=⟨_,rfl⟩
  obtain ⟨lp,hlp⟩: ∃lp,lp=w.heap.size+1:=⟨_,rfl⟩
  obtain ⟨W1,hW1⟩: ∃W1,W1=(w.alloc (.deferred (some []))).alloc (.loop (rec_ .ready none)):=⟨_,rfl⟩
  have hext:Ext w W1:=by
    rw [hW1];exact (Ext.push w _).trans (Ext.push _ _)
  have hsz1:W1.heap.size=w.heap.size+2:=by rw [hW1,World.size_alloc,World.size_alloc]
  have hL1:W1.heap[lp]? =some (.loop (rec_ .ready none)):=by
    rw [hW1,hlp];have:=World.alloc_heap_new (w.alloc (.deferred (some []))) (.loop (rec_ .ready none));rwa [World.size_alloc] at this
  have hK1:W1.heap[D]? =some (.deferred (some [])):=by
    rw [hW1,hD];show ((w.heap.push _).push _)[w.heap.size]? =_;rw [zfe,if_neg (by simp)];simp
  have hHl':=Kr.get hHl;have hH': ∀y∈Hl,h (ρ y.1)=some (y.2.ren ρ):=fun y hy=>hHl' (ρ y.1,y.2.ren ρ) (zcz (f:=fun y:Nat×HEnt=>(ρ y.1,y.2.ren ρ)) hy);have hDdf:D∉c.df:=fun hm=>by
    have key: ∀l:List Nat,dfB l c.pn->D∈l->(D,Obj.deferred (some []))∈c.pn:=by
      intro l
      induction l with
      | nil=>intro _ h;cases h
      | cons E r ih => intro hd hm; rcases zbr.1 hm with rfl | hm
                       · exact hd.1
                       · exact ih hd.2.2 hm
    have:=xa7 (s.pin _ (key _ hdf hm)).1;simp only at this;omega
  have hpnlt: ∀y∈c.pn,y.1 < w.heap.size:=fun y hy=>xa7 (s.pin y hy).1;have hneq: ∀(o:Obj) (y:Nat×Obj),y∈(D,Obj.deferred (some []))::c.pn->y.1≠lp:=fun _ y hy=>by
    rcases zbr.1 hy with rfl | hy
    · simp only;omega
    · have:=hpnlt y hy;omega
  obtain ⟨hxs,_⟩:=xa2 s hx;obtain ⟨vs,hv,hcaps⟩:=hxs;have hv:a.eval x= .func (.func f) #[] vs.toArray:=hv;obtain ⟨fnf,hf1,hf2,hf3⟩:=hf;obtain ⟨O0,hO0⟩: ∃O0:Dom,O0=OwnK (η.pre ρ) Hl:=⟨_,rfl⟩
  have hO0own: ∀b,O0 b->Own h η b:=fun b hb=>by
    rw [hO0] at hb;obtain ⟨y,hy,hc,rfl⟩:=hb;exact ⟨ρ y.1,_,hH' y hy,hc,rfl⟩
  have hownsub: ∀b,Own (H 0 i0) η b->Own h η b:=by
    rintro b ⟨k,y,hk,hc,rfl⟩;obtain ⟨z,hz,_⟩:=hK0 k y hk;exact ⟨k,z,hz,hc,rfl⟩
  have hsep: ∀b,Own (H 0 i0) η b-> ¬O0 b:=by
    rintro b ⟨k,y,hk,hc,rfl⟩ hb;rw [hO0] at hb;obtain ⟨z,hz,hcz,e⟩:=hb;obtain ⟨y',hy',_⟩:=hK0 k y hk;exact s.inj k (ρ z.1) y' _ hy' (hH' z hz) (fun e'=>by rw [e',hdis 0 i0 z hz] at hk;cases hk) hc hcz e
  have s1:=s.ext hext;have hlt1: ∀b,Own h η b->b < w.heap.size:=fun b hb=>s.olt hb;have hvolt: ∀b,η.vo b->b < w.heap.size:=fun b hb=>(s.fr.vnew b hb).1;have hKl:Keep (c.dom h η) ((c.lpb D lp (.loop (rec_ .ready none)) O0).dom (H 0 i0) η) W1 W1:=fun b o hb hl _=>⟨⟨hb.1,fun ho=>hb.2.1 (hownsub b ho),hb.2.2.1,fun ho=>hb.2.1 (hO0own b ho)⟩,hl⟩
  have sL:St' (c.lpb D lp (.loop (rec_ .ready none)) O0) G0 (H 0 i0) (nm l) a W1 η:=by
    refine ⟨s1.tn,s1.df,fun t e ht=> ?_,fun k y hk=> ?_,fun k k' y y' hk hk' hne hc hc'=> ?_,⟨s1.fr.os,s1.fr.tape,s1.fr.output,s1.fr.size,s1.fr.block,s1.fr.vold,s1.fr.vnew⟩,fun k hk=>⟨hlk.ln k hk,(s1.lk k hk).2⟩,fun y hy=> ?_,fun b hb=>zce (hlt1 b (hO0own b hb)) hext.size,hlk.yk,fun k y hk hy=> ?_,s1.lbl⟩
    · obtain ⟨e',he',hi⟩:=hG t e ht
      exact ⟨(s1.slot t e' he').1,fun k hk=>xb2.2 (xe8 hnG k (zbp.2 (.inl (xb2.1 (hGn t e ht k hk))))),Ent.sat_go (hi _ _ _ _ (s1.slot t e' he').2.2) hKl fun _ _=>⟨rfl,rfl⟩⟩
    · obtain ⟨z,hz,_,hi⟩:=hK0 k y hk
      obtain ⟨h1,h2,h3,h4⟩:=s1.key k z hz;exact ⟨(hH 0 i0 k y hk).1,(hH 0 i0 k y hk).2,HEnt.sat_go (hi _ _ _ _ h3) (fun _=>rfl) hKl ⟨rfl,rfl⟩ fun _ _=>⟨rfl,rfl⟩,fun hc=>⟨(h4 hc).1,(h4 hc).2.1,hsep _ ⟨k,y,hk,hc,rfl⟩⟩⟩
    · obtain ⟨z,hz,_⟩:=hK0 k y hk
      obtain ⟨z',hz',_⟩:=hK0 k' y' hk';exact s1.inj k k' z z' hz hz' hne hc hc'
    · rcases zbr.1 hy with rfl | hy
      · exact ⟨hL1,rfl,.inl (by have:=s.fr.size;show c.w0.heap.size<=lp;omega),fun hv=>by have:=hvolt _ hv;simp only at this;omega,fun hv=>by have:=hlt1 _ (hO0own _ hv);simp only at this;omega⟩
      · rcases zbr.1 hy with rfl | hy
        · exact ⟨hK1,rfl,.inl (by have:=s.fr.size;show c.w0.heap.size<=D;omega),fun hv=>by have:=hvolt _ hv;simp only at this;omega,fun hv=>by have:=hlt1 _ (hO0own _ hv);simp only at this;omega⟩
        · obtain ⟨p1,p2,p3,p4,_⟩:=s1.pin y hy
          exact ⟨p1,p2,p3,p4,fun hv=>s.npin hy (hO0own _ hv)⟩
    · obtain ⟨z,hz,hT,_⟩:=hK0 k y hy
      rw [<-hT];refine c.Jc _ _ _ _ _ _ (s.jj k z hk hz) (hext.stp _) fun b hb=> ?_;rcases hb with hb | hb | ⟨y,hy,e⟩
      · exact ⟨zce (hlt1 b (hownsub b hb)) hext.size,.inl (.inl (hownsub b hb))⟩
      · exact ⟨zce (hlt1 b (hO0own b hb)) hext.size,.inl (.inl (hO0own b hb))⟩
      · rcases zbr.1 hy with rfl | hy
        · exact ⟨by simp only at e;omega,.inr (by simp only at e;omega)⟩
        · rcases zbr.1 hy with rfl | hy
          · exact ⟨by simp only at e;omega,.inr (by simp only at e;omega)⟩
          · exact ⟨by rw [e];exact zce (hpnlt y hy) hext.size,.inl (.inr (.inr ⟨y,hy,e⟩))⟩
  obtain ⟨V0,hV0⟩: ∃V0:Dom,V0=fun b=>Own (H 0 i0) η b∨η.vo b∨b=lp∨b=D∨ ∃y∈c.pn,b=y.1:=⟨_,rfl⟩
  have hV0lt: ∀b,V0 b->b < W1.heap.size:=fun b hb=>by
    rw [hV0] at hb;rcases hb with hb | hb | hb | hb | ⟨y,hy,e⟩
    · exact zce (hlt1 b (hownsub b hb)) hext.size
    · exact zce (hvolt b hb) hext.size
    · omega
    · omega
    · rw [e];exact zce (hpnlt y hy) hext.size
  have hSS0:SS c D lp (.loop (rec_ .ready none)) O0 V0 G0 (H 0 i0) l a W1:=by
    refine ⟨η,sL,fun b hb=>by rw [hV0];exact .inl hb,fun b hb=>by rw [hV0];exact .inr (.inl hb),hV0lt,fun y hy=> ?_,fun b hb=> ?_⟩
    · rw [hV0]
      rcases zbr.1 hy with rfl | hy
      · exact .inr (.inr (.inl rfl))
      · rcases zbr.1 hy with rfl | hy
        · exact .inr (.inr (.inr (.inl rfl)))
        · exact .inr (.inr (.inr (.inr ⟨y,hy,rfl⟩)))
    · obtain ⟨k,y,hk,hc,rfl⟩:=hO0own b hb
      exact ((s.key k y hk).2.2.2 hc).1
  obtain ⟨F,hF⟩: ∃F:Dom,F=fun b=>c.dom h η b/\b < w.heap.size/\ ¬ ∃y∈c.pn,b=y.1:=⟨_,rfl⟩
  have hKF:Keep (c.dom h η) F w W1:=fun b o hb hl hd=>by
    have hnp: ¬ ∃y∈c.pn,b=y.1:=by
      rintro ⟨y,hy,e⟩;obtain ⟨p1,p2,_⟩:=s.pin y hy;rw [<-e,hl] at p1;cases p1;rw [p2] at hd;cases hd
    exact ⟨by rw [hF];exact ⟨hb,xa7 hl,hnp⟩,(hext.block b (xa7 hl)).trans hl⟩
  have hsats:VP.sats F W1 (η.pre ρ) caps vs:=VP.sats_go hKF caps vs (fun _ _=>⟨rfl,rfl⟩) ((VP.sats_ren caps vs).1 hcaps);have hAll:AllK F W1 (η.pre ρ) Hl:=fun y hy=>HEnt.sat_go (HEnt.sat_ren.1 (s.key _ _ (hH' y hy)).2.2.1) (fun hc=>hext.block _ (s.klt (hH' y hy) hc)) hKF ⟨rfl,rfl⟩ fun _ _=>⟨rfl,rfl⟩
  have hInj:InjK (η.pre ρ) Hl:=fun y hy z hz hne hcy hcz=>s.inj (ρ y.1) (ρ z.1) _ _ (hH' y hy) (hH' z hz) (xm4 hρ y.1 z.1 (zcz hy) (zcz hz) hne) hcy hcz;have hFV: ∀b,F b-> ¬V0 b/\ ¬OwnK (η.pre ρ) Hl b:=fun b hb=>by
    rw [hF] at hb;obtain ⟨hb,hlt,hnp⟩:=hb;refine ⟨fun hv=> ?_,fun ho=>hb.2.1 (hO0own b (by rw [hO0];exact ho))⟩;rw [hV0] at hv;rcases hv with hv | hv | hv | hv | hv
    · exact hb.2.1 (hownsub b hv)
    · exact hb.2.2.1 hv
    · omega
    · omega
    · exact hnp hv
  have hOV: ∀b,OwnK (η.pre ρ) Hl b-> ¬V0 b:=fun b ho hv=>by
    have ho':O0 b:=by rw [hO0];exact ho
    rw [hV0] at hv;rcases hv with hv | hv | hv | hv | ⟨y,hy,e⟩
    · exact hsep b hv ho'
    · obtain ⟨k,y,hk,hc,rfl⟩:=hO0own b ho'
      exact ((s.key k y hk).2.2.2 hc).2.1 hv
    · have:=hlt1 b (hO0own b ho');omega
    · have:=hlt1 b (hO0own b ho');omega
    · rw [e] at ho';exact s.npin hy (hO0own _ ho')
  have hJc:JcOf (JC c D lp rec_ G0 l a I H Ix Hx):=fun n O O' V W W' hj st hO=>by
    rcases hj with ⟨k,i,e,hi,hs⟩ | ⟨k,e',i,e,hi,hs⟩
    · exact .inl ⟨k,i,e,hi,hs.on st hO⟩
    · exact .inr ⟨k,e',i,e,hi,hs.on st hO⟩
  have hY:YHyp P W1 F (JC c D lp rec_ G0 l a I H Ix Hx) lp N ys:=by
    intro k hk O V W vals D0 hj hvals hD0;have hev: ∃i,I k i/\SS c D lp (.loop (rec_ .ready none)) O V G0 (H k i) l a W:=by
      rcases hj with ⟨k',i,e,hi,hs⟩ | ⟨k',e',i,e,hi,hs⟩
      · have:k'=k:=by omega
        subst this;exact ⟨i,hi,hs⟩
      · omega
    obtain ⟨i,hi,η',s',hV1,hV2,hV3,hV4,hV5⟩:=hev;have hlen:vals.length=ps.length:=by
      have key: ∀(ts:List Ty) (us:List Value),Tup.all D0 W ts us->us.length=ts.length:=by
        intro ts
        induction ts with
        | nil=>intro us h;cases us with
          | nil=>rfl
          | cons=>exact h.elim
        | cons t r ih=>intro us h;cases us with
          | nil=>exact h.elim
          | cons u us=>simp [ih us h.2]
      rw [key _ _ hvals,hys k hk]
    have hpinl:W.heap[lp]? =some (.loop (rec_ .ready none)):=(s'.pin (lp,_) (List.Mem.head _)).1;have hy:=run_yield (P:=P) (args:=vals.toArray) hpinl (by rw [hrec];simp [hlen]);refine ⟨_,_,_,_,hy,roundIn_of_wpIn trivial ?_⟩;obtain ⟨g1,h1,al1,hassign,hbody⟩:=round D lp (.loop (rec_ .ready none)) (.loop {rec_ .ready none with state:= .busy}) O W η' (lbR c D lp (H k i) η') η'.vo k i hk hi s'.fr.size;have hlnl: ∀k∈nG++c.ln,nm l k=true:=fun k hk=>xb2.2 (xe8 hnG k hk);have hbase: ∀b,D0 b-> ¬O b/\ ¬V b/\(c.w0.heap.size<=b∨(c.F0 b/\ ¬c.lb b)):=fun b hb=>by
      obtain ⟨e1,e2,e3⟩:=hD0 b hb;refine ⟨e1,e2,?_⟩;rcases e3 with e3 | e3
      · left;have:=s.fr.size;omega
      · rw [hF] at e3;exact e3.1.1
    have hpsN: ∀p∈ps,p < c.N:=fun p hp=>by have:=zdk.1 hps p hp;simpa using this
    have sb:=s'.begin (nG++c.ln) hlnl hV1 hV2 hbase hvals hpsN (hys k hk).symm;have hfold:(rec_ .ready none).tmps=a.tmps/\(rec_ .ready none).params=ps.toArray/\(rec_ .ready none).fn=fn/\(rec_ .ready none).assign=assign/\(rec_ .ready none).body=body:=by rw [hrec];exact ⟨rfl,rfl,rfl,rfl,rfl⟩
    rw [hfold.1,hfold.2.1,hfold.2.2.2.1,hfold.2.2.2.2];have hz:=jt7 ps vals a.tmps;have hz':(ps.toArray.zip vals.toArray).foldl (fun tmps (x:Tmp×Value)=>match x with | (t,a)=>tmps.setIfInBounds t a) a.tmps=(ps.zip vals).foldl (fun t (x:Nat×Value)=>t.setIfInBounds x.1 x.2) a.tmps:=hz;rw [hz'];refine wpIn_mono (hassign _ _ ⟨η',sb⟩) fun e a₁ w₁ hq=> ?_;cases e with
    | normal=>
      obtain ⟨η1,sa⟩:=hq;have hp1:w₁.heap[lp]? =some (.loop (rec_ .ready none)):=(sa.pin (lp,_) (List.Mem.head _)).1;refine ⟨_,run_beginRound hp1 (by rw [hrec]),?_⟩;have sb2:=sa.repin (o':= .loop {rec_ .ready none with state:= .busy}) rfl (hneq (.loop (rec_ .ready none))) rfl;refine wpIn_mono (hbody _ _ ⟨η1,sb2⟩) fun e₂ a₂ w₂ hq₂=> ?_;have fin: ∀(jump:Option Code) (h3:Keys) (a₂:Act) (w₂:World),St (c.rnd D lp (.loop {rec_ .ready none with state:= .busy}) O W (nG++c.ln) η' (lbR c D lp (H k i) η') η'.vo) (fun _=>none) h3 (nm l) a₂ w₂->
          ∃w₃ V',(Instr.endRound lp jump).run P w₂= .ok (.bool jump.isNone) w₃/\Kept V V' W w₃/\SS c D lp (.loop (rec_ (if jump.isNone then .ready else .done) jump)) O V' G0 h3 l a w₃:=by
        intro jump h3 a₂ w₂ ⟨η3,s3⟩;have hp3:w₂.heap[lp]? =some (.loop {rec_ .ready none with state:= .busy}):=(s3.pin (lp,_) (List.Mem.head _)).1;have he:=run_endRound (P:=P) jump hp3;have hobj:({({rec_ .ready none with state:= .busy}:Loop) with state:=if jump.isNone then .ready else .done,pending:=jump}:Loop)=rec_ (if jump.isNone then .ready else .done) jump:=by rw [hrec]
        rw [hobj] at he;have s4:St' (c.rnd D lp (.loop (rec_ (if jump.isNone then .ready else .done) jump)) O W (nG++c.ln) η' (lbR c D lp (H k i) η') η'.vo) (fun _=>none) h3 (nm l) a₂ _ η3:=s3.repin (o':= .loop (rec_ (if jump.isNone then .ready else .done) jump)) rfl (hneq (.loop (rec_ .ready none))) rfl;have s5:=s'.endR (obj':= .loop (rec_ (if jump.isNone then .ready else .done) jump)) s4 (fun _ h=>h) (fun k hk=>zbp.2 (.inr hk)) (fun t e ht k hk=>zbp.2 (.inl (xb2.1 (hGn t e ht k hk))));have hown:=St'.endOwn s4;have hsz4:W.heap.size<=(w₂.putObj lp (.loop (rec_ (if jump.isNone then .ready else .done) jump))).heap.size:=s4.fr.size;refine ⟨_,fun b=>V b∨(W.heap.size<=b/\b < (w₂.putObj lp (.loop (rec_ (if jump.isNone then .ready else .done) jump))).heap.size),he,⟨⟨s4.fr.os,s4.fr.tape,s4.fr.output,hsz4,fun b hb hn=> ?_⟩,fun b hb=> .inl hb,fun b hb=> ?_⟩,η3,s5,?_,fun b hb=> ?_,fun b hb=> ?_,fun y hy=> ?_,hV5⟩
        · refine s4.fr.block b hb (fun hl=> ?_) fun hv=> ?_
          · rcases hl with hl | hl | hl | ⟨y,hy,e⟩
            · exact hn (hV1 b hl)
            · exact hn (hl▸hV4 (lp,_) (List.Mem.head _))
            · exact hn (hl▸hV4 (D,_) (List.Mem.tail _ (List.Mem.head _)))
            · exact hn (e▸hV4 y (List.Mem.tail _ (List.Mem.tail _ hy)))
          · rcases (s4.fr.vnew b hv).2.2 with h6 | h6
            · exact hn (hV2 b h6)
            · have h6:W.heap.size<=b:=h6
              omega
        · rcases hb with hb | hb
          · exact ⟨zce (hV3 b hb) hsz4,.inl hb⟩
          · exact ⟨hb.2,.inr hb.1⟩
        · rintro b ⟨k',y,hk',hc,rfl⟩
          rcases hown k' y hk' hc with h6 | h6
          · exact .inr ⟨h6,HEnt.lt (s4.key k' y hk').2.2.1 hc⟩
          · exact .inl (hV1 _ h6)
        · rcases (s4.fr.vnew b hb).2.2 with h6 | h6
          · exact .inl (hV2 b h6)
          · exact .inr ⟨h6,(s4.fr.vnew b hb).1⟩
        · rcases hb with hb | hb
          · exact zce (hV3 b hb) hsz4
          · exact hb.2
        · left
          rcases zbr.1 hy with rfl | hy
          · exact hV4 (lp,.loop (rec_ .ready none)) (List.Mem.head _)
          · exact hV4 y (List.Mem.tail _ hy)
      cases e₂ with
      | normal=>
        obtain ⟨i',hi',hs'⟩:=hq₂;obtain ⟨w₃,V',h6,h7,h8⟩:=fin none _ _ _ hs';exact ⟨_,_,h6,V',h7,.inl ⟨rfl,.inl ⟨k+1,i',by omega,hi',h8⟩⟩⟩
      | ret=>
        obtain ⟨i',hi',hs'⟩:=hq₂;obtain ⟨w₃,V',h6,h7,h8⟩:=fin (some .ret) _ _ _ hs';exact ⟨_,_,h6,V',h7,.inr ⟨rfl,.inr ⟨k,.ret,i',rfl,hi',h8⟩⟩⟩
      | exit id=>
        obtain ⟨i',hi',hs'⟩:=hq₂;obtain ⟨w₃,V',h6,h7,h8⟩:=fin (some (.exit id)) _ _ _ hs';exact ⟨_,_,h6,V',h7,.inr ⟨rfl,.inr ⟨k,.exit id,i',rfl,hi',h8⟩⟩⟩
      | goto t=>
        obtain ⟨i',hi',hs'⟩:=hq₂;rcases hIx _ _ hi' with h6 | ⟨_,h6⟩ <;> cases h6
      | panic ch=>
        obtain ⟨i',hi',hs'⟩:=hq₂;rcases hIx _ _ hi' with h6 | ⟨_,h6⟩ <;> cases h6
      | outgrown=>
        obtain ⟨i',hi',hs'⟩:=hq₂;rcases hIx _ _ hi' with h6 | ⟨_,h6⟩ <;> cases h6
    | exit id=>exact hq.elim
    | goto t=>exact hq.elim
    | ret=>exact hq.elim
    | panic chain=>exact hq.elim
    | outgrown=>exact hq.elim
  refine ⟨lp,[{target:= .collected D,args:= #[]}],W1,{target:= .fn (.func f) vs.toArray,args:= #[.func (.yield lp) #[] #[]]},W1,f,(Value.func (.yield lp) #[] #[]::vs).toArray,W1,?_,?_,fun _ _=>trivial,?_,fun h=>(by cases h),?_⟩
  · show (Instr.enterLoop fn a.tmps ps.toArray assign body none).run P w=_
    rw [run_enterLoop_outer,hlp,hD,hW1,hrec]
  · simp only [resolve,hv]
    simp [go_sem,Act.eval,Deferred.ofValue]
  · have:=xd1 (P:=P) hf1 hf2 hf3 (Value.func (.yield lp) #[] #[]::vs).toArray W1
    simp only [invoke];have e: #[Value.func (.yield lp) #[] #[]]++vs.toArray=(Value.func (.yield lp) #[] #[]::vs).toArray:=by simp
    rw [e];exact this
  · refine ze1 (ro:=none) (zei (hit F W1 (η.pre ρ) vs lp V0 (JC c D lp rec_ G0 l a I H Ix Hx) hJc hsats hAll hInj hFV hOV hV0lt hY (.inl ⟨0,i0,rfl,h0,by rw [<-hO0];exact hSS0⟩)) ?_)
    rintro e W2 ⟨v,rfl,O,V,hj⟩;have last: ∀(st:LoopState) (pe:Option Code) (h3:Keys),st≠ .busy->SS c D lp (.loop (rec_ st pe)) O V G0 h3 l a W2-> ∃W3,(Instr.endLoop lp).run P W2= .ok pe W3/\St (c.lp D) G0 h3 (nm l) {a with defers:={target:= .collected D,args:= #[]}::a.defers} W3:=by
      intro st pe h3 hst ⟨η3,s3,_⟩;have hp3:W2.heap[lp]? =some (.loop (rec_ st pe)):=(s3.pin (lp,_) (List.Mem.head _)).1;have he:=run_endLoop (P:=P) hp3 (by rw [hrec];exact hst);have s4:=s3.repin (o':= .loop {rec_ st pe with state:= .exhausted}) rfl (hneq (.loop (rec_ .ready none))) rfl;have:(rec_ st pe).pending=pe:=by rw [hrec]
      exact ⟨_,he.trans (congrArg (Result.ok · _) this),η3,St'.behind (obj:= .loop {rec_ st pe with state:= .exhausted}) s4 hvi⟩
    have even: ∀i,I N i->SS c D lp (.loop (rec_ .ready none)) O V G0 (H N i) l a W2->rangePost (fc none) 0 P lp Q {a with defers:=[{target:= .collected D,args:= #[]}]++a.defers} (.returned v) W2:=fun i hi hs=>by
      obtain ⟨W3,h6,h7⟩:=last _ _ _ (by simp) hs;exact ⟨none,W3,h6,done D hDdf i hi _ _ h7⟩
    have odd: ∀e i,Ix e i->SS c D lp (.loop (rec_ .done (some (codeOf e)))) O V G0 (Hx i) l a W2->rangePost (fc none) 0 P lp Q {a with defers:=[{target:= .collected D,args:= #[]}]++a.defers} (.returned v) W2:=fun e i hi hs=>by
      obtain ⟨W3,h6,h7⟩:=last _ _ _ (by simp) hs;have hq:=stop D hDdf e i hi _ _ h7;refine ⟨some (codeOf e),W3,h6,?_⟩;rcases hIx e i hi with rfl | ⟨id,rfl⟩
      · exact wpIn_ret hq
      · exact wpIn_exit hq
    rcases hj with hj | ⟨k,hk,hj⟩
    · rcases hj with ⟨k',i,e,hi,hs⟩ | ⟨k',e',i,e,hi,hs⟩
      · have:k'=N:=by omega
        subst this;exact even i hi hs
      · omega
    · rcases hj with ⟨k',i,e,hi,hs⟩ | ⟨k',e',i,e,hi,hs⟩
      · omega
      · exact odd e' i hi hs
theorem ys2 {x:Operand} {ps:List Nat} {assign body:Code} {f:FuncId} {Hl:List (Nat×HEnt)} {caps:List VP} {N:Nat} {ys:Nat->List Ty} (ρ:Nat->Nat)
  (hro:c.ro=none) (hvi: ∀b,¬c.vi b) (hdf:dfB c.df c.pn) (hit:ItC P f Hl caps N ys) (hf:FnI P f)
  (hx:look g x=some (.own (.fn f (VP.rens ρ caps)))) (hHl:Kr h (Hl.map fun y=>(ρ y.1,y.2.ren ρ))) (hρ:injN ρ (Hl.map (·.1))=true)
  (hps:(ps.all fun p=>Nat.blt p c.N)=true) (hys: ∀k,k < N->(ys k).length=ps.length)
  (G0:Slots) (l nG:List Nat) (hG:Sub G0 g) (hGn:SupG G0 (nm nG)) (hnG:subN (nG++c.ln) l=true) (hlk:LkOk c (nm l))
  {ι:Type} (I:Nat->ι->Prop) (H:Nat->ι->Keys) (hH: ∀k i,SupH (H k i) (nm l)) (hdis: ∀k i,∀y∈Hl,H k i (ρ y.1)=none)
  {κ:Type} (Ix:Exit->κ->Prop) (Hx:κ->Keys) (hIx: ∀e i,Ix e i->e= .ret∨ ∃id,e= .exit id)
  (i0:ι) (h0:I 0 i0) (hK0:SubK (H 0 i0) h)
  (round: ∀(D lp:Nat) (o1 o2:Obj) (O:Dom) (W:World) (lη:Env) (lb V0:Dom) (k:Nat) (i:ι),k < N->I k i->
   ∃g1 h1 al1,wc P (c.rnd D lp o1 O W (nG++c.ln) lη lb V0) assign (Exit.then (fun a w=>St (c.rnd D lp o1 O W (nG++c.ln) lη lb V0) g1 h1 al1 a w) (fun _ _ _=>False)) (setP G0 ps (ys k)) (H k i) (nm l)/\
    wc P (c.rnd D lp o2 O W (nG++c.ln) lη lb V0) body (PostRnd (c.rnd D lp o2 O W (nG++c.ln) lη lb V0) I H Ix Hx l k) g1 h1 al1)
  (done: ∀D,D∉c.df-> ∀i,I N i->wk (c.lp D) .normal Q G0 (H N i) (nm l))
  (stop: ∀D,D∉c.df-> ∀e i,Ix e i->wk (c.lp D) e Q G0 (Hx i) (nm l)):
  wc P c (.rangeFunc x ps.toArray assign body) Q g h al:=
 jw2 ρ hro hvi hdf hit hf hx hHl hρ hps hys G0 l nG hG hGn hnG hlk I H hH hdis Ix Hx hIx i0 h0 hK0 (fun D lp o1 o2 O W lη lb V0 k i hk hi _=>round D lp o1 o2 O W lη lb V0 k i hk hi) done stop
end
section
variable {P:Program} {c:Base} {d ty:Nat} {pos:String} {af:Array Edge} {gd:Option (Nat×Bool)}
theorem y3 {T E es:Nat} {agg:Bool} {α:Type} {f:α->Ty} {xs ys:List α} {x y:Operand} {v:Int} (sl:SlI P T E es agg) (u:Nat) (hv:v=(u:Int)) (h2:u<=xs.length) (hy:xs.take u=ys):
  Does P c ⟨some d,.slice T x none (some y) none,ty,pos,af,gd⟩ ⟨[(x,.val (tL es agg f xs)),(y,.val (tI v))],[],some (d,some (.val (tL es agg f ys))),[],[]⟩:=by
 subst hv;exact zu7 (lo:=none) (hi:=some y) (l:=0) (u:=u) sl (fun _=>rfl) (fun h=>by cases h) (zbt _) h2 (by rw [List.drop_zero];exact hy)
theorem qe8 {T E es:Nat} {agg:Bool} {α:Type} {f:α->Ty} {xs ys:List α} {x y:Operand} {v:Int} (sl:SlI P T E es agg) (l:Nat) (hv:v=(l:Int)) (h2:l<=xs.length) (hy:xs.drop l=ys):
  Does P c ⟨some d,.slice T x (some y) none none,ty,pos,af,gd⟩ ⟨[(x,.val (tL es agg f xs)),(y,.val (tI v))],[],some (d,some (.val (tL es agg f ys))),[],[]⟩:=by
 subst hv;exact zu7 (lo:=some y) (hi:=none) (l:=l) (u:=xs.length) sl (fun h=>by cases h) (fun _=>rfl) h2 (zbq _) (by rw [zcf];exact hy)
theorem qv8 {T E es k off len off':Nat} {agg:Bool} {x y:Operand} {v:Int} (sl:SlI P T E es agg) (u:Nat) (hv:v=(u:Int)) (h2:u<=len) (ho:off=off'):
  Does P c ⟨some d,.slice T x none (some y) none,ty,pos,af,gd⟩ ⟨[(x,.own (.sl k es off len)),(y,.val (tI v))],[],some (d,some (.own (.sl k es off' u))),[],[]⟩:=by
 subst hv;exact js3 (lo:=none) (hi:=some y) (l:=0) (u:=u) sl (fun _=>rfl) (fun h=>by cases h) (zbt _) h2 (by rw [zeh];exact ho) (Nat.sub_zero _)
theorem xd5 {f:FuncId} {xs:List Operand} {aT:Array TypeId} {ts us:List Ty} {r:Ty} (hc:Ct P f us r) (hf:FnI P f) (hl:xs.length=ts.length) (hle:LeL ts us):
  Does P c ⟨some d,.call {callee:= .value (.func f),args:=xs.toArray,argTypes:=aT},ty,pos,af,gd⟩ ⟨xs.zip (ts.map Ent.val),[],some (d,some (.val r)),[],[]⟩:=
 x4 (fun F w vs hv=>hc F w vs (LeL.all hle hv)) hf hl
end
theorem qo4 {P:Program} {c:Base} {d ty:Nat} {pos:String} {af:Array Edge} {gd:Option (Nat×Bool)} {T E yT es:Nat} {agg:Bool} {α:Type} {f:α->Ty} {xs:List α} {x:Operand} (hT:P.underlying T=some (.slice E)):
  Does P c ⟨some d,.binOp .eql T x (.const (.slice none 0 0)) yT,ty,pos,af,gd⟩ ⟨[(x,.val (tL es agg f xs))],[],some (d,some (.val (tX (fun b:Bool=>b=true->xs=[]) tB))),[],[]⟩:=
 Does.value rfl fun g h al a w η hrd _ s=>by
  obtain ⟨A,cc,h1,_,_,h4⟩:=(xa2 s hrd.1).1;have h1:a.eval x= .slice A xs.length cc:=h1;have h2:a.eval (.const (.slice none 0 0))= .slice none 0 0:=rfl;refine ⟨.bool A.isNone,w,?_,Ext.refl w,⟨A.isNone,fun hA=> ?_,rfl⟩,fun j hj=>by cases hj⟩
  ·have hg:(eqGuard .eql T x (.const (.slice none 0 0)) (.slice A xs.length cc) (.slice none 0 0)).run P w= .ok () w:=by
    simp [eqGuard,go_sem]
   simp only [execOp,h1,h2,zbu,hg,zbn,binOp,qt6 hT,zbx]
  ·rcases h4 with h4 | ⟨b,o,rfl,_⟩
   ·exact h4
   ·cases hA
theorem qw8 {P:Program} {c:Base} {g:Slots} {h:Keys} {al:Names} {Q:Exit->Act->World->Prop} {x:Code} {s:Nat} {ι:Type} {pre:ι->Prop} {f:ι->Ty} (hx:g s=some (.val (tX pre f))) (H: ∀i,pre i->wc P c x Q (upd g s (some (.val (f i)))) h al):wc P c x Q g h al:=fun a w ⟨η,st⟩=>by
 obtain ⟨h1,_,i,hi,hp⟩:=st.slot s _ hx;have s2:=st.put h1 (e:= .val (f i)) hp fun j hj=>by cases hj
 have e:a.put (some s) (a.tmps.getD s undef)=a:=by
  have hlt:s < a.tmps.size:=by rw [st.tn];exact h1
  have:a.tmps.setIfInBounds s (a.tmps.getD s undef)=a.tmps:=by
   apply zdi;intro i;rw [zee];by_cases hi:s=i
   ·subst hi;simp [hlt]
   ·simp [hi]
  simp only [Act.put,this]
 rw [e] at s2;exact H i hi a w ⟨η,s2⟩
theorem ImpK.of {x x':HEnt} (h:x=x'):ImpK x x':=h▸zap
abbrev zat:=@ImpK.of
theorem ImpK.ofTs {T es:Nat} {agg:Bool} {ts ts':List Ent} (h:ts=ts'):ImpK ⟨T,es,agg,ts⟩ ⟨T,es,agg,ts'⟩:=h▸zap
def rW (k:IntKind) (xs:List Nat):List Ent:=xs.map fun n:Nat=> .val (tE (.int k (n:Int)))
theorem zv0 {k:IntKind} {xs:List Nat} {i:Nat} (h:i < xs.length):(rW k xs)[i]? =some (.val (tE (.int k ((xs.getD i 0:Nat):Int)))):=by
 rw [rW,zbs,gN h];rfl
theorem yr8 {k:IntKind} {xs:List Nat} {i:Nat} (h:i < xs.length):Nat.blt i (rW k xs).length=true:=by simpa [rW] using h
theorem yg9 {k:IntKind} {xs:List Nat} {i m:Nat} {v:Int} (h:v=(m:Int)):(rW k xs).set i (.val (tE (.int k v)))=rW k (xs.set i m):=by
 rw [h,rW,rW,List.map_set]
theorem z8 {k:IntKind} (n:Nat):List.replicate n (Ent.val (tE (.int k 0)))=rW k (List.replicate n 0):=by
 simp [rW]
theorem xo7 {k:IntKind} {xs:List Nat}:(rW k xs).length=xs.length:=by simp [rW]
theorem y6 {k:IntKind} {xs:List Nat} {n:Nat} (h:xs.length=n):((rW k xs).drop 0).take n=xs.map fun x:Nat=> .val (tE (.int k (x:Int))):=by
 rw [List.drop_zero,List.take_of_length_le (by rw [xo7];omega)];rfl
theorem wi4 {k:IntKind} {xs:List Nat} {n:Nat}:((rW k xs).drop 0).take n=(xs.take n).map fun x:Nat=> .val (tE (.int k (x:Int))):=by
 rw [List.drop_zero,rW,List.map_take]
theorem xn3 {k:IntKind} {xs:List Nat} {l:List Nat}:SupX (rW k xs) l:=SupX.map (f:=fun n:Nat=>tE (.int k (n:Int)))
theorem supJ {x:HEnt} {al:Names} (h:SupX x.ts []): ∀j∈x.supp,al j=true:=fun j hj=>by cases h j hj
theorem supJL {x:HEnt} {al:Names} (h:allN al x.supp=true): ∀j∈x.supp,al j=true:=yd8 h
theorem isS {α:Type} {x:Option α} {y:α} (h:x=some y):x.isSome=true:=by rw [h];rfl
def rI (xs:List Int):List Ent:=xs.map fun n=> .val (tI n)
theorem qz3 {xs:List Int} {l:List Nat}:SupX (rI xs) l:=SupX.map (f:=fun n:Int=>tI n)
theorem yt8 {k:IntKind} {a b:Nat} (ha:a < 2 ^ k.bits) (hb:b < 2 ^ k.bits):bits .or k (a:Int) (b:Int)=k.wrap ((a ||| b:Nat):Int):=by
 simp only [bits]
 congr 1
 simp [BitVec.toNat_or];rw [zep ha,zep hb]
theorem jn2 {a c s:Nat} (ha:a < 2 ^ s):a ||| c*2 ^ s=a+c*2 ^ s:=by
 have:=Nat.two_pow_add_eq_or_of_lt ha c;rw [Nat.or_comm,zem c,<-this,Nat.add_comm]
section
variable {P:Program} {c:Base} {d t:Nat} {pos:String} {af:Array Edge} {gd:Option (Nat×Bool)} {T yT:TypeId} {x y:Operand} {k:IntKind} {m n r:Int}
theorem d_or (hr:bits .or k m n=r):Does P c ⟨some d,.binOp .or T x y yT,t,pos,af,gd⟩ ⟨[(x,.val (tE (.int k m))),(y,.val (tE (.int k n)))],[],some (d,some (.val (tE (.int k r)))),[],[]⟩:=
 d_bits (.inr (.inl rfl)) fun w=>by rw [intBits_or,zbx,hr]
end
theorem or_sum {k:IntKind} {p q:Int} (a c s:Nat) (hp:p=(a:Int)) (hq:q=((c*2 ^ s:Nat):Int)) (ha:a < 2 ^ s) (hw:k.wrap ((a+c*2 ^ s:Nat):Int)=((a+c*2 ^ s:Nat):Int)) (hb:a+c*2 ^ s < 2 ^ k.bits):bits .or k p q=((a+c*2 ^ s:Nat):Int):=by
 subst hp hq;rw [yt8 (by omega) (by omega),jn2 ha,hw]
theorem wj2 {k:IntKind} {p q:Int} (a c s:Nat) (hp:p=(a:Int)) (hq:q=((c*2 ^ s:Nat):Int)) (ha:a < 2 ^ s) (hw:k.wrap ((a+c*2 ^ s:Nat):Int)=((a+c*2 ^ s:Nat):Int)) (hb:a+c*2 ^ s < 2 ^ k.bits):bits .or k q p=((a+c*2 ^ s:Nat):Int):=by
 subst hp hq;rw [yt8 (by omega) (by omega),Nat.or_comm,jn2 ha,hw]
end An
namespace An
open Go
theorem qc9 {ρ:Nat->Nat} {α:Type} {f:α->Ty} {xs:List α}:(xs.map fun x=>Ent.val (f x)).map (Ent.ren ρ)=xs.map fun x=>Ent.val (f x):=by
 rw [List.map_map];rfl
theorem yf3 {ρ:Nat->Nat} {T es:Nat} {agg:Bool} {k:IntKind} {xs:List Nat}:HEnt.ren ρ ⟨T,es,agg,rW k xs⟩=⟨T,es,agg,rW k xs⟩:=by
 simp only [HEnt.ren,rW,qc9]
theorem wj0 {ρ:Nat->Nat} {T es:Nat} {agg:Bool} {α:Type} {f:α->Ty} {xs:List α}:HEnt.ren ρ ⟨T,es,agg,xs.map fun x=>Ent.val (f x)⟩=⟨T,es,agg,xs.map fun x=>Ent.val (f x)⟩:=by
 simp only [HEnt.ren,qc9]
theorem krN {ρ:Nat->Nat}:([]:List (Nat×HEnt)).map (fun x=>(ρ x.1,x.2.ren ρ))=[]:=rfl
theorem krC {ρ:Nat->Nat} {k:Nat} {x x':HEnt} {r:List (Nat×HEnt)} {r':List (Nat×HEnt)} (h:x.ren ρ=x') (hr:r.map (fun x=>(ρ x.1,x.2.ren ρ))=r'):((k,x)::r).map (fun x=>(ρ x.1,x.2.ren ρ))=(ρ k,x')::r':=by
 simp only [zcy,h,hr]
section
variable {P:Program} {c:Base} {g:Slots} {h:Keys} {al:Names} {d ty:Nat} {pos:String} {af:Array Edge} {gd:Option (Nat×Bool)}
theorem yg1 {ρ:Nat->Nat} {H H' h2:List (Nat×HEnt)} (e:H'.map (fun x=>(ρ x.1,x.2.ren ρ))=h2):kwOf ρ H H'=H.map (fun x=>(ρ x.1,none))++h2.map (fun x=>(x.1,some x.2)):=by
 rw [kwOf,<-e,List.map_map];rfl
theorem xb7 {f:FuncId} {xs:List Operand} {aT:Array TypeId} {H H' h1 h2:List (Nat×HEnt)} {ps:List Ent} {re:Ent} {nn:List Nat} (ρ:Nat->Nat) (hc:CtG P f H ps re H' nn) (hf:FnI P f) (hl:xs.length=ps.length) (e1:H.map (fun x=>(ρ x.1,x.2.ren ρ))=h1) (e2:H'.map (fun x=>(ρ x.1,x.2.ren ρ))=h2)
  (hsH:SupHs H' (nn++(suppE ps++H.map (·.1)))) (hok:gB ρ H H' re ps nn c.yk=true):
  Does P c ⟨some d,.call {callee:= .value (.func f),args:=xs.toArray,argTypes:=aT},ty,pos,af,gd⟩ ⟨xs.zip (ps.map (Ent.ren ρ)),h1,some (d,some (re.ren ρ)),H.map (fun x=>(ρ x.1,none))++h2.map (fun x=>(x.1,some x.2)),nn.map ρ⟩:=by
 have:=jz6 (c:=c) (d:=d) (ty:=ty) (pos:=pos) (af:=af) (gd:=gd) (aT:=aT) ρ hc hf hl hok hsH;rw [yg1 e2,e1] at this;exact this
theorem jq9 {f:FuncId} {x:Operand} {caps:List VP} {xs:List Operand} {aT:Array TypeId} {H H' h1 h2:List (Nat×HEnt)} {ps:List Ent} {re:Ent} {nn:List Nat} (ρ:Nat->Nat) (hc:CtG P f H (ps++caps.map Ent.own) re H' nn) (hf:FnI P f) (hl:xs.length=ps.length) (e1:H.map (fun x=>(ρ x.1,x.2.ren ρ))=h1) (e2:H'.map (fun x=>(ρ x.1,x.2.ren ρ))=h2)
  (hsH:SupHs H' (nn++(suppE (ps++caps.map Ent.own)++H.map (·.1)))) (hok:gB ρ H H' re (ps++caps.map Ent.own) nn c.yk=true):
  Does P c ⟨some d,.call {callee:= .value x,args:=xs.toArray,argTypes:=aT},ty,pos,af,gd⟩ ⟨(x,.own (.fn f (VP.rens ρ caps)))::xs.zip (ps.map (Ent.ren ρ)),h1,some (d,some (re.ren ρ)),H.map (fun x=>(ρ x.1,none))++h2.map (fun x=>(x.1,some x.2)),nn.map ρ⟩:=by
 have:=wh6 (c:=c) (d:=d) (ty:=ty) (pos:=pos) (af:=af) (gd:=gd) (aT:=aT) (x:=x) ρ hc hf hl hok hsH;rw [yg1 e2,e1] at this;exact this
variable {Q:Exit->Act->World->Prop}
theorem xe3 {ι:Type} {I:ι->Prop} {G:ι->Slots} {H:ι->Keys} {l:List Nat} (ρ:Nat->Nat) (i:ι) (hi:I i) (hg:SubR ρ (G i) g) (hh:SubKR ρ (H i) h) (sg:SupG (G i) (nm l)) (sh:SupH (H i) (nm l)) (hlk:LkOk c (nm l)) (hρ:injN ρ l=true) (hf:fixN ρ c.ln=true) (hy: ∀k,c.yk=some k->ρ k=k):
  wk c .normal (Exit.then (Fam c I G H (nm l)) Q) g h al:=
 zb3 l ρ hg hh sg sh hlk hρ hf hy (xf5 i hi Sub.refl SubK.refl sg sh hlk)
theorem xc5 {x:Operand} {k off:Nat}:Does P c ⟨some d,.nilCheck x,ty,pos,af,gd⟩ ⟨[(x,.own (.ptr k off))],[],some (d,some (.own (.ptr k off))),[],[]⟩:=
 Does.value rfl fun g h al a w η hrd _ s=>by
  obtain ⟨h0,h1⟩:=xa2 s hrd.1;have h0':a.eval x= .pointer (some ⟨η.b k,off,none⟩):=h0;exact ⟨_,w,by simp only [execOp,h0',zbx],Ext.refl w,rfl,h1⟩
theorem yu0 {x:Operand} {n:Nat} {agg:Bool} {t:Ty}:Does P c ⟨some d,.nilCheck x,ty,pos,af,gd⟩ ⟨[(x,.val (tP n agg t))],[],some (d,some (.val (tP n agg t))),[],[]⟩:=
 Does.value rfl fun g h al a w η hrd _ s=>by
  obtain ⟨b,o,u,h1,h2⟩:=(xa2 s hrd.1).1;have h1':a.eval x= .pointer (some ⟨b,o,none⟩):=h1;exact ⟨_,w,by simp only [execOp,h1',zbx],Ext.refl w,⟨b,o,u,rfl,h2⟩,fun k hk=>by cases hk⟩
theorem St.giveAt {a:Act} {w:World} {t k T es off len:Nat} {agg:Bool} {ts:List Ent} {α:Type} {f:α->Ty} {xs:List α} (hs:St c g h al a w) (hg:g t=some (.own (.sl k es off len))) (hk:h k=some ⟨T,es,agg,ts⟩) (hlb:NoLb c)
  (hts:(ts.drop off).take len=xs.map fun x=> .val (f x)) (hl:xs.length=len):St c (upd g t (some (.val (tL es agg f xs)))) (upd h k none) al a w:=by
 obtain ⟨η,s⟩:=hs;have h2:=s.give hk hlb hts hl (s.slot t _ hg).2.2;have s2:=(s.drop k).put (s.slot t _ hg).1 (e:= .val (tL es agg f xs)) h2 fun j hj=>by cases hj
 refine ⟨η,?_⟩;have e:a.put (some t) (a.tmps.getD t undef)=a:=by
  have hlt:t < a.tmps.size:=by rw [s.tn];exact (s.slot t _ hg).1
  have:a.tmps.setIfInBounds t (a.tmps.getD t undef)=a.tmps:=by
   apply zdi;intro i;rw [zee];by_cases hi:t=i
   ·subst hi;simp [hlt]
   ·simp [hi]
  simp only [Act.put,this]
 rw [<-e];exact s2
theorem yn1 {α:Type} {f:Nat->Option α} {s:Nat} {x y:Option α}:upd (upd f s x) s y=upd f s y:=by
 funext t;simp only [upd];cases Nat.beq t s <;> rfl
theorem Does.giveL {o:Oper} {rd:List (Operand×Ent)} {kr:List (Nat×HEnt)} {d k T es off len:Nat} {agg:Bool} {ts:List Ent} {α:Type} {f:α->Ty} {xs:List α} (hd:Does P c o ⟨rd,kr,some (d,some (.own (.sl k es off len))),[],[]⟩) (hlb:NoLb c)
  (hts:(ts.drop off).take len=xs.map fun x=> .val (f x)) (hl:xs.length=len):Does P c o ⟨rd,(k,⟨T,es,agg,ts⟩)::kr,some (d,some (.val (tL es agg f xs))),[(k,none)],[]⟩:=by
 intro g h al a w hp hs;refine Oper.wpIn_mono (fun a' w' hs'=> ?_) (hd g h al a w ⟨hp.rd,hp.kr.2,hp.nk,fun x hx=>by cases hx;exact hp.d (d,some (.val (tL es agg f xs))) rfl⟩ hs);have:=St.giveAt hs' (x7 _ _ _) hp.kr.1 hlb hts hl;simp only [Eff.g,yn1] at this;exact this
theorem xu5 {T E by_ n:Nat} {z:Value} {k:IntKind} {ps:List (Nat×Operand)} (ys:List Nat) (sl:P.underlying T=some (.slice E)) (el:ElI P E 1 by_ false z) (hz:Flat 1 false z)
  (hp:ps.map (·.1)=List.range n) (hy:ys.length=n) (hlen:Nat.ble n 16777216=true):
  Does P c ⟨some d,.buildSlice T n ps.toArray,ty,pos,af,gd⟩ ⟨(ps.map (·.2)).zip (ys.map fun y:Nat=>Ent.val (tE (.int k (y:Int)))),[],some (d,some (.val (tL 1 false (fun y:Nat=>tE (.int k (y:Int))) ys))),[],[]⟩:=by
 have:=zm9 (c:=c) (d:=d) (ty:=ty) (pos:=pos) (af:=af) (gd:=gd) (f:=fun y:Nat=>tE (.int k (y:Int))) (ts:=ys.map fun y:Nat=>tE (.int k (y:Int))) ys sl el hz rfl (fun _=>inferInstance) hp (by simpa using hy) hy (by simpa using hlen)
  (by intro i t y h1 h2;rw [zbs,h2] at h1;cases h1;exact zao)
 rw [List.map_map] at this;exact this
end
theorem xt7 {P:Program} {c:Base} {g:Slots} {h:Keys} {al:Names} {Q:Exit->Act->World->Prop} {x:Code} {k:Nat} {e e':HEnt} (hk:h k=some e) (he:e=e') (H:wc P c x Q g (upd h k (some e')) al):wc P c x Q g h al:=by
 subst he;have:upd h k (some e)=h:=by
  funext j;by_cases hj:j=k
  ·subst hj;rw [x7,hk]
  ·rw [x3 _ _ _ hj]
 rw [this] at H;exact H
theorem leNil {α:Type} {es:Nat} {agg:Bool} {f:α->Ty} {xs:List α} (h:xs=[]):Le (tE (.slice none 0 0)) (tL es agg f xs):=fun F w v hv=>by
 subst h;have hv:v= .slice none 0 0:=hv;exact ⟨none,0,hv,zbq _,by decide,.inl rfl⟩
section
variable {P:Program} {c:Base} {g:Slots} {h:Keys} {al:Names} {Q:Exit->Act->World->Prop}
theorem xa9 {A:Array Oper} {rest:List Oper} {dst:Option Nat} {op:Op} {ty:Nat} {pos:String} {af:Array Edge} {E:Eff} (hd:Does P c ⟨dst,op,ty,pos,af,none⟩ E) (h1:Rd g E.rd) (h2:Kr h E.kr) (h3:Nk al E.nk) (hN:dOk c.N [E.sm]=true)
  (H:wl P c A Q rest (E.g g) (E.h h) (E.al al)):wl P c A Q (⟨dst,op,ty,pos,af,none⟩::rest) g h al:=
 yf4 [⟨dst,op,ty,pos,af,none⟩] (rest:=rest) ⟨E,DoesR.of rfl hd,⟨h1,h2,h3⟩,hN,H⟩
end
theorem zd2 {P:Program} {c1 c2:Base} {x y:Code} {Q:Exit->Act->World->Prop} {g:Slots} {h:Keys} {al:Names} {g1:Slots} {h1:Keys} {al1:Names} (hx:wc P c1 x (Exit.then (fun a w=>St c1 g1 h1 al1 a w) (fun _ _ _=>False)) g h al) (hy:wc P c2 y Q g1 h1 al1):
  ∃g1 h1 al1,wc P c1 x (Exit.then (fun a w=>St c1 g1 h1 al1 a w) (fun _ _ _=>False)) g h al/\wc P c2 y Q g1 h1 al1:=⟨g1,h1,al1,hx,hy⟩
class SumF (fs:List Fd) (n:outParam Nat):Prop where
  sum:Fd.sum fs=n
instance:SumF [] 0:=⟨rfl⟩
instance {n m:Nat} {agg:Bool} {t:Ty} {r:List Fd} [h:SumF r m]:SumF (⟨n,agg,t⟩::r) (n+m):=⟨by simp only [Fd.sum,h.sum]⟩
class EqN (m n:Nat):Prop where
  eq:m=n
instance {n:Nat}:EqN n n:=⟨rfl⟩
instance {fs:List Fd} {n m:Nat} [h1:ShapeF fs] [h2:SumF fs m] [h3:EqN m n]:Shape (tS fs) n true:=ShS (h2.sum.trans h3.eq)
section
variable {P:Program} {c:Base} {g:Slots} {h:Keys} {al:Names} {A:Array Oper} {K:List Sm->Slots->Keys->Names->Prop} {rest:List Oper} {sms:List Sm} {ty d:Nat} {pos:String} {af:Array Edge}
theorem xn7 {T T0 es k p n o:Nat} {agg':Bool} {x:Operand} {ts:List Ent} {t t':Ty} (i:Nat) (ti:TyI P T n agg') (hx:look g x=some (.own (.ptr k p))) (hk:h k=some ⟨T0,es,true,ts⟩) (hi:ts[i]? =some (.val t)) (hat:At t o n agg' t') (hp:i*es+o=p)
  (H:RSeq P c A K rest (sms++[⟨slotsOf [(x,.own (.ptr k p))],some d,[k],[],[]⟩]) (upd g d (some (.val t'))) h al):RSeq P c A K (⟨some d,.load T x,ty,pos,af,none⟩::rest) sms g h al:=
 RE (xp2 i ti hi hat hp) ⟨hx,trivial⟩ ⟨hk,trivial⟩ trivial H
theorem xb9 {T T0 es k p n o:Nat} {agg':Bool} {x:Operand} {ts:List Ent} {t t':Ty} {j q:Nat} {want b:Bool} (hb:b=want) (hj:(A[j]?).bind (·.dst)=some q) (hq:g q=some (.val (tB b))) (i:Nat) (ti:TyI P T n agg') (hx:look g x=some (.own (.ptr k p))) (hk:h k=some ⟨T0,es,true,ts⟩) (hi:ts[i]? =some (.val t)) (hat:At t o n agg' t') (hp:i*es+o=p)
  (H:RSeq P c A K rest (sms++[⟨q::slotsOf [(x,.own (.ptr k p))],some d,[k],[],[]⟩]) (upd g d (some (.val t'))) h al):RSeq P c A K (⟨some d,.load T x,ty,pos,af,some (j,want)⟩::rest) sms g h al:=
 RGon hb hj (xp2 i ti hi hat hp) hq ⟨hx,trivial⟩ ⟨hk,trivial⟩ trivial H
theorem xr9 {T T0 es k p n o:Nat} {agg':Bool} {x y:Operand} {ts ts':List Ent} {t t' t2:Ty} (i:Nat) (ti:TyI P T n agg') (hx:look g x=some (.own (.ptr k p))) (hy:look g y=some (.val t')) (hk:h k=some ⟨T0,es,true,ts⟩) (hi:ts[i]? =some (.val t)) (hup:Up t o n agg' t' t2) (hp:i*es+o=p) (hts:ts.set i (.val t2)=ts') [he:Shape t' n agg']
  (H:RSeq P c A K rest (sms++[⟨slotsOf [(x,.own (.ptr k p)),(y,.val t')],none,[k],[k],[]⟩]) g (upd h k (some ⟨T0,es,true,ts'⟩)) al):RSeq P c A K (⟨none,.store T x y,ty,pos,af,none⟩::rest) sms g h al:=
 RE (xn1 i ti hi hup hp hts) ⟨hx,hy,trivial⟩ ⟨hk,trivial⟩ trivial H
end
theorem At.g {fs:List Fd} (i:Nat) {n o:Nat} {agg:Bool} {t:Ty} (hi:fs[i]? =some ⟨n,agg,t⟩) (ho:Fd.off fs i=o):At (tS fs) o n agg t:=At.f i hi ho
theorem Up.g {fs:List Fd} (i:Nat) {n o:Nat} {agg:Bool} {t t':Ty} (hi:fs[i]? =some ⟨n,agg,t⟩) (ho:Fd.off fs i=o) {fs':List Fd} (hfs:fs.set i ⟨n,agg,t'⟩=fs'):Up (tS fs) o n agg t' (tS fs'):=Up.f i hi ho hfs
section
variable {P:Program} {c:Base} {g:Slots} {h:Keys} {al:Names} {Q:Exit->Act->World->Prop} {a:Act} {w:World} {η:Env}
theorem zu6 {k:Nat} {x x':HEnt} (hk:h k=some x) {b:Nat} (hb:Own (upd h k (some x')) η b):Own h η b:=by
 obtain ⟨j,y,hj,hc,rfl⟩:=hb;by_cases hjk:j=k
 ·subst hjk;exact ⟨j,x,hk,hc,rfl⟩
 ·rw [x3 _ _ _ hjk] at hj;exact ⟨j,y,hj,hc,rfl⟩
theorem St'.same (s:St' c g h al a w η) {k:Nat} {x x':HEnt} (hk:h k=some x) (hT:x'.T=x.T) (hsup: ∀j∈x'.supp,al j=true) (hsat:x'.sat (c.dom h η) w η k):St' c g (upd h k (some x')) al a w η:=by
 have hsome: ∀j y,upd h k (some x') j=some y-> ∃z,h j=some z:=fun j y hy=>by
  by_cases hjk:j=k
  ·subst hjk;exact ⟨x,hk⟩
  ·rw [x3 _ _ _ hjk] at hy;exact ⟨y,hy⟩
 refine s.turn (fun _ hj=>hj) (fun _ _=>⟨rfl,rfl⟩) rfl (Stp.refl _ _) (fun b hb=>⟨s.olt (zu6 hk hb),.inl (zu6 hk hb)⟩) ?_ ?_ ?_
 ·intro j y hy hK;by_cases hjk:j=k
  ·subst hjk;rw [x7] at hy;cases hy;exact ⟨(s.key j x hk).1,hsup,HEnt.sat_go hsat (fun _=>rfl) hK ⟨rfl,rfl⟩ fun _ _=>⟨rfl,rfl⟩⟩
  ·rw [x3 _ _ _ hjk] at hy;obtain ⟨h1,h2,h3,_⟩:=s.key j y hy;exact ⟨h1,h2,HEnt.sat_go h3 (fun _=>rfl) hK ⟨rfl,rfl⟩ fun _ _=>⟨rfl,rfl⟩⟩
 ·intro j j' y y' hy hy' hne hc hc';obtain ⟨z,hz⟩:=hsome j y hy;obtain ⟨z',hz'⟩:=hsome j' y' hy';exact s.inj j j' z z' hz hz' hne hc hc'
 ·intro j y hj hy;by_cases hjk:j=k
  ·subst hjk;rw [x7] at hy;cases hy;exact ⟨x,hk,hT.symm⟩
  ·rw [x3 _ _ _ hjk] at hy;exact ⟨y,hy,rfl⟩
instance {ι:Type} {pre:ι->Prop} {f:ι->Ty} {n:Nat} {agg:Bool} [h: ∀i,Shape (f i) n agg]:Shape (tX pre f) n agg:=⟨fun ⟨i,_,hp⟩=>(h i).flat hp⟩
end
section
variable {P:Program} {c:Base} {d ty:Nat} {pos:String} {af:Array Edge} {gd:Option (Nat×Bool)}
theorem xc2 {T E es by_ n:Nat} {agg:Bool} {z:Value} {α:Type} {f:α->Ty} {ps:List (Nat×Operand)} (ys:List α) (sl:P.underlying T=some (.slice E)) (el:ElI P E es by_ agg z) (hz:Flat es agg z) (h0:Nat.blt 0 es=true) (hs: ∀y,Shape (f y) es agg)
  (hp:ps.map (·.1)=List.range n) (hy:ys.length=n) (hlen:Nat.ble (n*es) 16777216=true):
  Does P c ⟨some d,.buildSlice T n ps.toArray,ty,pos,af,gd⟩ ⟨(ps.map (·.2)).zip (ys.map fun y=>Ent.val (f y)),[],some (d,some (.val (tL es agg f ys))),[],[]⟩:=by
 have:=zm9 (c:=c) (d:=d) (ty:=ty) (pos:=pos) (af:=af) (gd:=gd) (f:=f) (ts:=ys.map f) ys sl el hz h0 hs hp (by simpa using hy) hy hlen
  (by intro i t y h1 h2;rw [zbs,h2] at h1;cases h1;exact zao)
 rw [List.map_map] at this;exact this
end
theorem xq0 {P:Program} {c:Base} {d ty:Nat} {pos:String} {af:Array Edge} {gd:Option (Nat×Bool)} {f:FuncId} {x:Operand} {xs:List Operand} {aT:Array TypeId} {ts:List Ty} {r:Ty} (hc:Ct P f ts r) (hf:FnI P f) (hl:xs.length=ts.length):
  Does P c ⟨some d,.call {callee:= .value x,args:=xs.toArray,argTypes:=aT},ty,pos,af,gd⟩ ⟨(x,.val (tE (.func (.func f) #[] #[])))::xs.zip (ts.map Ent.val),[],some (d,some (.val r)),[],[]⟩:=by
 intro g h al a w hp ⟨η,s⟩;obtain ⟨fn,h1,h2,h3⟩:=hf;have hargs:=Tup.all_of s xs ts hp.rd.2 hl;have hv:a.eval x= .func (.func f) #[] #[]:=(xa2 s hp.rd.1).1;have hrun:(execOp a.eval ⟨some d,.call {callee:= .value x,args:=xs.toArray,argTypes:=aT},ty,pos,af,gd⟩).run P w= .ok (.enter f (xs.map a.eval).toArray) w:=by
  simp only [execOp,resolve,hv,Deferred.ofValue,zbu,zbx,zbn,invoke];simp only [zdu,zdj,zcs];exact xd1 h1 h2 h3 _ w
 refine xe6 hrun (zei (hc (c.dom h η) w (xs.map a.eval) hargs) ?_);rintro e w' ⟨v,rfl,hext,hr⟩;refine ⟨v,rfl,η,(s.ext hext).put (hp.d _ rfl) (e:= .val r) (r.mono hr fun b o hb hl _=>⟨?_,hl⟩) (fun k hk=>by cases hk)⟩;rcases hb with hb | hb
 ·refine ⟨.inl (zdc s.fr.size hb),fun ho=> ?_,fun hv=> ?_,fun hv=> ?_⟩
  ·have:=s.olt ho;omega
  ·have:=(s.fr.vnew b hv).1;omega
  ·have:=s.vol b hv;omega
 ·exact hb
section
variable {P:Program} {c:Base} {g:Slots} {h:Keys} {al:Names} {A:Array Oper} {K:List Sm->Slots->Keys->Names->Prop} {rest:List Oper} {sms:List Sm} {dst:Option Nat} {op:Op} {ty:Nat} {pos:String} {af:Array Edge}
end
theorem jp4 {P:Program} {c:Base} {d ty:Nat} {pos:String} {af:Array Edge} {gd:Option (Nat×Bool)} {T:TypeId} {ps:List (Nat×Operand)} {vs:List Value} {r:Value} (hl:ps.length=vs.length) (hb: ∀w,(Instr.build T ((ps.map (·.1)).zip vs).toArray).run P w= .ok r w):
  Does P c ⟨some d,.build T ps.toArray,ty,pos,af,gd⟩ ⟨(ps.map (·.2)).zip (vs.map fun v=>Ent.val (tE v)),[],some (d,some (.val (tE r))),[],[]⟩:=
 Does.value rfl fun g h al a w η hrd _ s=>by
  have key: ∀(ps:List (Nat×Operand)) (vs:List Value),ps.length=vs.length->Rd g ((ps.map (·.2)).zip (vs.map fun v=>Ent.val (tE v)))->ps.map (fun x=>(x.1,a.eval x.2))=(ps.map (·.1)).zip vs:=by
   intro ps
   induction ps with
   | nil=>intro vs hl _;cases vs with | nil=>rfl | cons _ _=>cases hl
   | cons p r ih=>
    intro vs hl hr;cases vs with
    | nil=>cases hl
    | cons v vr=>
     have h1:a.eval p.2=v:=(xa2 s hr.1).1;simp only [zcy,List.zip_cons_cons,h1,ih vr (by simpa using hl) hr.2]
  refine ⟨r,w,?_,Ext.refl w,rfl,fun k hk=>by cases hk⟩;have hk:=key ps vs hl hrd;simp only [execOp,zcs];rw [show (ps.map fun (x:Nat×Operand)=>(x.1,a.eval x.2))=(ps.map (·.1)).zip vs from hk];simp only [zbu,hb w,zbn,zbx]
end An
namespace An
def val (B:Nat):List Nat->Nat
 | []=>0
 | x::xs=>x+B*val B xs
def Dig (B:Nat) (l:List Nat):Prop:= ∀x∈l,x < B
theorem yr7 (B:Nat):val B []=0:=rfl
theorem xk6 (B x:Nat) (xs:List Nat):val B (x::xs)=x+B*val B xs:=rfl
theorem zb1 (B:Nat) (a b:List Nat):val B (a++b)=val B a+B ^ a.length*val B b:=by
 induction a with
 | nil=>simp [val]
 | cons x xs ih=>
  simp only [List.cons_append,xk6,ih,zdb,zex];rw [zga,zgd,<-zfu,zem B (B ^ xs.length)]
theorem yv9 (B:Nat) (a:List Nat) (x:Nat):val B (a++[x])=val B a+B ^ a.length*x:=by
 rw [zb1];simp [val]
theorem Dig.nil (B:Nat):Dig B []:=by intro x h;cases h
theorem Dig.cons {B x:Nat} {l:List Nat} (h:x < B) (hl:Dig B l):Dig B (x::l):=by
 intro y hy;rcases zbr.1 hy with rfl | hy
 ·exact h
 ·exact hl y hy
theorem Dig.head {B x:Nat} {l:List Nat} (h:Dig B (x::l)):x < B:=h x (by simp)
theorem Dig.tail {B x:Nat} {l:List Nat} (h:Dig B (x::l)):Dig B l:=fun y hy=>h y (by simp [hy])
theorem Dig.append {B:Nat} {a b:List Nat} (ha:Dig B a) (hb:Dig B b):Dig B (a++b):=by
 intro x hx;rcases zbp.1 hx with h | h
 ·exact ha x h
 ·exact hb x h
theorem Dig.left {B:Nat} {a b:List Nat} (h:Dig B (a++b)):Dig B a:=fun x hx=>h x (by simp [hx])
theorem Dig.take {B:Nat} {a:List Nat} (h:Dig B a) (k:Nat):Dig B (a.take k):=fun x hx=>h x (List.mem_of_mem_take hx)
theorem Dig.drop {B:Nat} {a:List Nat} (h:Dig B a) (k:Nat):Dig B (a.drop k):=fun x hx=>h x (List.mem_of_mem_drop hx)
theorem Dig.getD {B:Nat} {a:List Nat} (h:Dig B a) (hB:0 < B) (k:Nat):a.getD k 0 < B:=by
 rw [zbh];cases he:a[k]? with
 | none=>simpa using hB
 | some x=>exact h x (zdw he)
theorem yn9 {B:Nat} {l:List Nat} (h:Dig B l):val B l < B ^ l.length:=by
 induction l with
 | nil=>simp [val]
 | cons x xs ih=>
  have h1:=h.head;have h2:=ih h.tail;rw [xk6,zdb,zex];have:B*(val B xs+1)<=B*B ^ xs.length:=zge B h2;rw [zga,zem B (B ^ xs.length)] at this;omega
theorem zq2 (B:Nat) (l:List Nat) (k:Nat) (hk:k<=l.length):val B l=val B (l.take k)+B ^ k*val B (l.drop k):=by
 have h:=zb1 B (l.take k) (l.drop k);rw [List.take_append_drop,zcu,zfn hk] at h;exact h
theorem xf7 (l:List Nat) (k:Nat) (hk:k < l.length):l.take (k+1)=l.take k++[l.getD k 0]:=by
 rw [zca hk,zbh,zbi hk];rfl
theorem zq4 (B:Nat) (l:List Nat) (k:Nat) (hk:k < l.length):val B (l.take (k+1))=val B (l.take k)+B ^ k*l.getD k 0:=by
 rw [xf7 l k hk,yv9,zcu,zfn (by omega)]
theorem jh2 (l:List Nat) (k:Nat) (hk:k < l.length):l.drop k=l.getD k 0::l.drop (k+1):=by
 rw [List.drop_eq_getElem_cons hk,zbh,zbi hk];rfl
theorem ya1 (B:Nat) (l:List Nat) (k:Nat) (hk:k < l.length):val B (l.drop k)=l.getD k 0+B*val B (l.drop (k+1)):=by
 rw [jh2 l k hk,xk6]
theorem y4 (B n:Nat):val B (List.replicate n 0)=0:=by
 induction n with
 | zero=>rfl
 | succ n ih=>rw [List.replicate_succ,xk6,ih];simp
def dig (B n:Nat):List Nat:=
 if _h:2<=B/\0 < n then n%B::dig B (n / B) else []
termination_by n
decreasing_by exact Nat.div_lt_self _h.2 _h.1
theorem xf3 (B:Nat):dig B 0=[]:=by rw [dig];simp
theorem xm2 {B n:Nat} (hB:2<=B) (hn:0 < n):dig B n=n%B::dig B (n / B):=by rw [dig];simp [hB,hn]
theorem xn5 {B:Nat} (hB:2<=B) (n:Nat):val B (dig B n)=n:=by
 induction n using Nat.strongRecOn with
 | _ n ih=>
  rcases zco n with rfl | hn
  ·rw [xf3];rfl
  ·rw [xm2 hB hn,xk6,ih _ (Nat.div_lt_self hn hB)];exact Nat.mod_add_div n B
theorem xi2 {B:Nat} (hB:2<=B) (n:Nat):Dig B (dig B n):=by
 induction n using Nat.strongRecOn with
 | _ n ih=>
  rcases zco n with rfl | hn
  ·rw [xf3];exact Dig.nil B
  ·rw [xm2 hB hn];exact Dig.cons (zfb _ (by omega)) (ih _ (Nat.div_lt_self hn hB))
theorem xm9 {B n:Nat} (hB:2<=B):dig B n=[]↔n=0:=by
 constructor
 ·intro h;rcases zco n with rfl | hn
  ·rfl
  ·rw [xm2 hB hn] at h;simp at h
 ·rintro rfl;exact xf3 B
def Top (l:List Nat):Prop:= ∀x,l.getLast? =some x->x≠0
theorem qj6 {B:Nat} (hB:2<=B) (n:Nat):Top (dig B n):=by
 induction n using Nat.strongRecOn with
 | _ n ih=>
  rcases zco n with rfl | hn
  ·rw [xf3];intro x h;simp at h
  ·rw [xm2 hB hn];intro x hx;rcases zco (n / B) with h0 | h0
   ·rw [h0,xf3] at hx;simp only [List.getLast?_singleton,zck] at hx;have:=Nat.mod_add_div n B;rw [h0] at this;intro hx0;rw [<-hx] at hx0;rw [hx0] at this;simp at this;omega
   ·rw [xm2 hB h0,List.getLast?_cons_cons,<-xm2 hB h0] at hx;exact ih _ (Nat.div_lt_self hn hB) x hx
theorem yh2 {B:Nat} (hB:2<=B) {l:List Nat} (h:Dig B l) (ht:Top l):dig B (val B l)=l:=by
 induction l with
 | nil=>rw [yr7,xf3]
 | cons x xs ih=>
  have hx:=h.head;have htt:Top xs:=by
   intro y hy;cases xs with
   | nil=>simp at hy
   | cons z zs=>exact ht y (by rw [List.getLast?_cons_cons];exact hy)
  have ih':=ih h.tail htt;have hpos:0 < val B (x::xs):=by
   rw [xk6];rcases zco (val B xs) with h0 | h0
   ·rw [h0,xf3] at ih';subst ih';have:=ht x (by simp);omega
   ·have:0 < B*val B xs:=Nat.mul_pos (by omega) h0;omega
  have hmod:(x+B*val B xs)%B=x:=by rw [zfx];exact zep hx
  have hdiv:(x+B*val B xs) / B=val B xs:=by rw [zfd _ _ (by omega)];rw [zdv hx];simp
  rw [xm2 hB hpos,xk6,hmod,hdiv,ih']
theorem yi9 {B:Nat} (hB:2<=B) (n k:Nat):(dig B n).length<=k↔n < B ^ k:=by
 induction k generalizing n with
 | zero=>
  rw [Nat.le_zero,zde,xm9 hB];simp
 | succ k ih=>
  rcases zco n with rfl | hn
  ·rw [xf3];simp;exact zfs (by omega)
  ·rw [xm2 hB hn,zdb,Nat.add_le_add_iff_right,ih,zex,Nat.div_lt_iff_lt_mul (by omega)]
theorem zi3 {B:Nat} (hB:2<=B) (n:Nat):n < B ^ (dig B n).length:=(yi9 hB n _).1 (zbq _)
theorem xm3 {B:Nat} (hB:2<=B) {m n:Nat} (h:m<=n):(dig B m).length<=(dig B n).length:=
 (yi9 hB m _).2 (Nat.lt_of_le_of_lt h (zi3 hB n))
def trimL (l:List Nat):List Nat:=(l.reverse.dropWhile (· ==0)).reverse
theorem xu0 (l:List Nat):trimL (l++[0])=trimL l:=by simp [trimL]
theorem ye0 {l:List Nat} (h:Top l):trimL l=l:=by
 rcases List.eq_nil_or_concat l with rfl | ⟨a,x,rfl⟩
 ·rfl
 ·have hx:x≠0:=h x (by simp);simp [trimL,hx]
theorem xo2 {B:Nat} (hB:2<=B) {l:List Nat} (h:Dig B l):trimL l=dig B (val B l):=by
 generalize hn:l.length=n
 induction n generalizing l with
 | zero=>
  have:l=[]:=zde.1 hn;subst this;rw [yr7,xf3];rfl
 | succ n ih=>
  rcases List.eq_nil_or_concat l with rfl | ⟨a,x,rfl⟩
  ·simp at hn
  ·rcases zco x with rfl | hx
   ·simp only [List.concat_eq_append] at*
    rw [xu0,ih h.left (by simpa using hn),yv9];simp
   ·have ht:Top (a.concat x):=by intro y hy;simp at hy;omega
    rw [ye0 ht,yh2 hB h ht]
theorem zv6 {B:Nat} (hB:0 < B) {l:List Nat} (h:Dig B l) (i:Nat):l.getD i 0=val B l / B ^ i%B:=by
 have hp:0 < B ^ i:=zfs hB;rcases zcb i l.length with hi | hi
 ·have h1:=zq2 B l i (by omega);have h2:=ya1 B l i hi;have h3:val B (l.take i) < B ^ i:=by
   have:=yn9 (h.take i)
   rwa [zcu,zfn (by omega)] at this
  rw [h1,zfd _ _ hp,zdv h3,zcn,h2,zfx,zep (h.getD hB i)]
 ·have h3:val B l < B ^ i:=zce (yn9 h) (Nat.pow_le_pow_right hB hi);rw [zdv h3,Nat.zero_mod,zbh,zcv hi];rfl
theorem xf8 {B:Nat} (hB:2<=B) (v i:Nat):(dig B v).getD i 0=v / B ^ i%B:=by
 rw [zv6 (by omega) (xi2 hB v),xn5 hB]
def dgs (B n v:Nat):List Nat:=(List.range n).map fun j=>v / B ^ j%B
theorem xn2 (B n v:Nat):(dgs B n v).length=n:=by simp [dgs]
theorem xu8 (B n v:Nat):dgs B (n+1) v=dgs B n v++[v / B ^ n%B]:=by simp [dgs,List.range_succ]
theorem ju3 (B v:Nat):dgs B 0 v=[]:=rfl
theorem yv2 {B n v i:Nat} (hi:i < n):(dgs B n v).getD i 0=v / B ^ i%B:=by
 rw [zbh];simp [dgs,hi]
theorem jc5 (B n:Nat):dgs B n 0=List.replicate n 0:=by
 apply List.ext_getElem
 ·simp [dgs]
 ·intro i h1 h2;simp [dgs]
theorem jz0 {B:Nat} (hB:0 < B) {l:List Nat} (h:Dig B l):dgs B l.length (val B l)=l:=by
 apply List.ext_getElem
 ·simp [dgs]
 ·intro i h1 h2;have:=zv6 hB h i;rw [zbh,zbi h2] at this;simp only [dgs,List.getElem_map,List.getElem_range];exact this.symm
theorem xu4 {B:Nat} (hB:2<=B) (v:Nat):dgs B (dig B v).length v=dig B v:=by
 have:=jz0 (by omega) (xi2 hB v)
 rwa [xn5 hB] at this
theorem xe1 {B:Nat} (hB:2<=B) (v n:Nat):(dig B v).length<=n↔v < B ^ n:=yi9 hB v n
theorem xq8 {B:Nat} (hB:2<=B) (v:Nat):v < B ^ (dig B v).length:=(xe1 hB v _).1 (zbq _)
theorem wc8 {B:Nat} (hB:2<=B) {v:Nat} (h:0 < v):0 < (dig B v).length:=by
 rcases zco (dig B v).length with h0 | h0
 ·have:=xq8 hB v;rw [h0] at this;simp at this;omega
 ·exact h0
theorem wh9 {B n u v j:Nat} (h: ∀i,i < n->i≠j->u / B ^ i%B=v / B ^ i%B) {d:Nat} (hd:v / B ^ j%B=d):(dgs B n u).set j d=dgs B n v:=by
 apply List.ext_getElem
 ·simp [dgs]
 ·intro i h1 h2;have hi:i < n:=by simpa [dgs] using h2
  rw [List.getElem_set];split
  ·rename_i e;subst e;simp [dgs,hd]
  ·rename_i e;simp [dgs,h i hi (fun e'=>e e'.symm)]
theorem zw4 {x e B:Nat} (h:x%B+e < B):(x+e) / B=x / B:=by
 have h1:=zfz x B;have hB:0 < B:=by omega
 have h2:x+e=(x%B+e)+B*(x / B):=by omega
 rw [h2,zfd _ _ hB,zdv h,zcn]
theorem wd3 {B n u j e:Nat} (hB:0 < B) (he:u / B ^ j%B+e < B):(dgs B n u).set j (u / B ^ j%B+e)=dgs B n (u+e*B ^ j):=by
 have hp: ∀i,0 < B ^ i:=fun i=>zfs hB;refine wh9 (fun i _ hne=> ?_) ?_
 ·rcases zcb i j with hlt | hge
  ·have e1:B ^ j=B ^ i*(B*B ^ (j - i - 1)):=by
    rw [<-zfu,<-zex,<-Nat.pow_add];congr 1;omega
   rw [e1,show e*(B ^ i*(B*B ^ (j - i - 1)))=B ^ i*(B*(e*B ^ (j - i - 1))) by rw [Nat.mul_left_comm,Nat.mul_left_comm e B],zfd _ _ (hp i),zfx]
  ·have e1:B ^ i=B ^ j*(B*B ^ (i - j - 1)):=by
    rw [<-zfu,<-zex,<-Nat.pow_add];congr 1;omega
   rw [e1,<-zey,<-zey,<-zey,<-zey,zem e,zfd _ _ (hp j),zw4 he]
 ·rw [zem e,zfd _ _ (hp j),Nat.add_mod];rw [zep (show e < B by omega),zep he]
end An
namespace An
open Go
theorem zo7 (i:Nat):65536 ^ i=4294967296 ^ (i / 2)*65536 ^ (i%2):=by
 have h:(4294967296:Nat)=65536 ^ 2:=by decide
 rw [h,<-Nat.pow_mul,<-Nat.pow_add];congr 1;omega
theorem shl16 {x i:Nat} (hx:x < 65536):IntKind.u32.wrap ((x:Int)*2 ^ (min (16*((i:Int)%2)).toNat IntKind.u32.bits))=((x*65536 ^ (i%2):Nat):Int):=by
 have hb:IntKind.u32.bits=32:=rfl;rcases Nat.mod_two_eq_zero_or_one i with h | h
 ·have e:(16*((i:Int)%2)).toNat=0:=by omega
  rw [e,h];simp;rw [wu32 (by omega) (by omega)]
 ·have e:(16*((i:Int)%2)).toNat=16:=by omega
  rw [e,h,hb];simp;rw [wu32 (by omega) (by omega)]
theorem wh8 {l:List Nat} (hl:Dig 65536 l) (i:Nat) (hi:i<=l.length):val 65536 (l.take i) / 4294967296 ^ (i / 2) < 65536 ^ (i%2):=by
 have h1:=yn9 (hl.take i);rw [zcu,zfn hi,zo7] at h1;exact zgc h1
theorem pow01 (i:Nat):65536 ^ (i%2)=1∨65536 ^ (i%2)=65536:=by
 rcases Nat.mod_two_eq_zero_or_one i with h | h <;> rw [h] <;> simp
theorem zn4 {l:List Nat} (hl:Dig 65536 l) (i:Nat) (hi:i<=l.length):val 65536 (l.take i) / 4294967296 ^ (i / 2)%4294967296 < 65536 ^ (i%2):=by
 have:=wh8 hl i hi;exact Nat.lt_of_le_of_lt (Nat.mod_le _ _) this
theorem wf8 {w x i:Nat} (hw:w < 65536 ^ (i%2)) (hx:x < 65536):bits .or .u32 (w:Int) ((x*65536 ^ (i%2):Nat):Int)=((w+x*65536 ^ (i%2):Nat):Int):=by
 have h2:(65536:Nat) ^ (i%2)=2 ^ (16*(i%2)):=by rw [Nat.pow_mul]
 have hb:IntKind.u32.bits=32:=rfl;have h3:w+x*65536 ^ (i%2) < 4294967296:=by
  rcases pow01 i with h | h <;> rw [h] at hw ⊢ <;> omega
 rw [h2] at hw h3 ⊢;exact or_sum w x (16*(i%2)) rfl rfl hw (wu32 (by omega) (by omega)) (by rw [hb];omega)
theorem jc2 {l:List Nat} (hl:Dig 65536 l) {i n:Nat} (hi:i < l.length) (_hn:i / 2 < n):
  (dgs 4294967296 n (val 65536 (l.take i))).set (i / 2) ((dgs 4294967296 n (val 65536 (l.take i))).getD (i / 2) 0+l.getD i 0*65536 ^ (i%2))=dgs 4294967296 n (val 65536 (l.take (i+1))):=by
 have hx:=hl.getD (by omega) i;have hw:=zn4 hl i (by omega);rw [yv2 _hn,wd3 (by omega) (by rcases pow01 i with h | h <;> rw [h] at hw ⊢ <;> omega),zq4 _ _ _ hi];have e:l.getD i 0*65536 ^ (i%2)*4294967296 ^ (i / 2)=65536 ^ i*l.getD i 0:=by
  rw [zo7 i,zfu,zem (65536 ^ (i%2)),zem]
 rw [e]
end An
namespace An
open Go
end An
namespace An
theorem yc7 (B a k:Nat) (_hB:0 < B):a / B ^ k=B*(a / B ^ (k+1))+a / B ^ k%B:=by
 rw [zex,<-zey];exact (zfz (a / B ^ k) B).symm
theorem zu0 {B a b k:Nat} (hB:0 < B) (h:a / B ^ (k+1)=b / B ^ (k+1)) (hd:a / B ^ k%B=b / B ^ k%B):a / B ^ k=b / B ^ k:=by
 rw [yc7 B a k hB,yc7 B b k hB,h,hd]
theorem jg5 {B a b k:Nat} (h:a / B ^ k < b / B ^ k):a < b:=by
 rcases zcb a b with h1 | h1
 ·exact h1
 ·exact absurd (Nat.div_le_div_right (c:=B ^ k) h1) (by omega)
theorem zs8 {B a b k:Nat} (hB:0 < B) (h:a / B ^ (k+1)=b / B ^ (k+1)) (hd:a / B ^ k%B < b / B ^ k%B):a < b:=by
 refine jg5 (B:=B) (k:=k) ?_;rw [yc7 B a k hB,yc7 B b k hB,h];omega
theorem qb8 {B a b:Nat} (hB:2<=B) (h:(dig B a).length < (dig B b).length):a < b:=by
 rcases zcb a b with h1 | h1
 ·exact h1
 ·have:=xm3 hB h1;omega
def cmpN (a b:Nat):Int:=if a < b then -1 else if a=b then 0 else 1
theorem qo1 {a b:Nat} (h:a < b):cmpN a b= -1:=if_pos h
theorem qo3 {a b:Nat} (h:b < a):cmpN a b=1:=by rw [cmpN,if_neg (by omega),if_neg (by omega)]
theorem wg8 {a b:Nat} (h:a=b):cmpN a b=0:=by rw [cmpN,if_neg (by omega),if_pos h]
abbrev tN (v:Nat):Ty:=tWs (dig 4294967296 v)
theorem xd7:2<=4294967296:=by decide
theorem yk3 {l:List Nat} {i d:Nat} (hi:i < l.length):(l.set i d).take (i+1)=l.take i++[d]:=by
 rw [xf7 _ _ (by simpa using hi),List.take_set_of_le (zbq _)]
 congr 2
 rw [zbh,List.getElem?_set_self hi];rfl
theorem zp4 {l:List Nat} {i d:Nat}:(l.set i d).drop (i+1)=l.drop (i+1):=List.drop_set_of_lt (by omega)
theorem Dig.set {B:Nat} {l:List Nat} {i d:Nat} (h:Dig B l) (hd:d < B):Dig B (l.set i d):=fun x hx=>by
 rcases zfy hx with h1 | h1
 ·exact h x h1
 ·rw [h1];exact hd
theorem Dig.rep {B:Nat} (hB:0 < B) (n:Nat):Dig B (List.replicate n 0):=fun x hx=>by
 rw [List.eq_of_mem_replicate hx];exact hB
theorem zq7 {l:List Nat} {i d:Nat} (h:i < l.length):(l.set i d).getD i 0=d:=by
 rw [zbh,List.getElem?_set_self h];rfl
theorem getD_set_ne {l:List Nat} {i j d:Nat} (h:i≠j):(l.set i d).getD j 0=l.getD j 0:=by
 rw [zbh,List.getElem?_set_ne h,<-zbh]
abbrev W:Nat:=4294967296
theorem yi8 (B a i:Nat):a%B ^ (i+1)=a%B ^ i+B ^ i*(a / B ^ i%B):=Nat.mod_pow_succ
theorem xv6 {B:Nat} (hB:2<=B) {v i:Nat} (h:(dig B v).length<=i):v / B ^ i%B=0:=by
 have h1:=(xe1 hB v i).1 h;rw [zdv h1];exact Nat.zero_mod _
theorem qr3 {B:Nat} (hB:2<=B) {v i:Nat} (h:(dig B v).length<=i):v%B ^ i=v:=zep ((xe1 hB v i).1 h)
theorem jn8 {B T b a br i w y x br':Nat} (h:T+b%B ^ i=a%B ^ i+br*B ^ i) (hx:x=a / B ^ i%B) (hy:y=b / B ^ i%B) (hw:w+y+br=x+B*br'):
  T+B ^ i*w+b%B ^ (i+1)=a%B ^ (i+1)+br'*B ^ (i+1):=by
 rw [yi8,yi8,<-hx,<-hy];have h1:B ^ i*w+B ^ i*y+B ^ i*br=B ^ i*x+B ^ i*(B*br'):=by rw [<-zga,<-zga,<-zga,hw]
 have h2:br'*B ^ (i+1)=B ^ i*(B*br'):=by rw [zex,zem,zfu]
 rw [h2];rw [zem br] at h;omega
end An
namespace An
open Go
section
variable {P:Program} {c:Base} {g:Slots} {h:Keys} {al:Names} {Q:Exit->Act->World->Prop} {a:Act} {w:World} {η:Env}
variable {d ty:Nat} {pos:String} {af:Array Edge} {gd:Option (Nat×Bool)}
def Ent.vp:Ent->VP
 | .val t=> .ty t
 | .own p=>p
theorem Ent.vp_sat {F:Dom}: ∀{e:Ent} {v:Value},e.vp.sat F w η v↔e.sat F w η v
 | .val _,_=>by simp only [Ent.vp,VP.sat,Ent.sat]
 | .own _,_=>Iff.rfl
theorem Ent.vp_supp: ∀{e:Ent},e.vp.supp=e.supp
 | .val _=>by simp only [Ent.vp,VP.supp,Ent.supp]
 | .own _=>rfl
def rowV (es:List Ent):VP:= .st (es.map fun _=>(1,false)) (es.map Ent.vp)
theorem zt9: ∀(es:List Ent),sumN (es.map fun _=>(1,false))=es.length
 | []=>rfl
 | _::r=>by simp only [zcy,sumN,zt9 r,zdb];omega
def RowOk (F:Dom) (w:World) (η:Env) (cs:Array Value) (o:Nat) (es:List Ent):Prop:= ∀(i:Nat) (e:Ent),es[i]? =some e->e.sat F w η (cs.getD (o+i) undef)
theorem qb3 {F:Dom} {cs:Array Value}: ∀(es:List Ent) (o:Nat),VP.satf F w η cs o (es.map fun _=>(1,false)) (es.map Ent.vp)↔RowOk F w η cs o es
 | [],o=>by simp [VP.satf,RowOk]
 | e::r,o=>by
  simp only [zcy,VP.satf,qb3 r (o+1),pick,zdy,Ent.vp_sat];constructor
  ·rintro ⟨_,h1,h2⟩ i e' hi;cases i with
   | zero=>simp only [zcp,zck] at hi;subst hi;exact h1
   | succ i=>have:=h2 i e' (by simpa using hi);rwa [show o+1+i=o+(i+1) by omega] at this
  ·intro h1;exact ⟨fun _=>trivial,h1 0 e rfl,fun i e' hi=>by have:=h1 (i+1) e' (by simpa using hi);rwa [show o+(i+1)=o+1+i by omega] at this⟩
theorem yv1 {F:Dom} {es:List Ent} {v:Value}:(Ent.own (rowV es)).sat F w η v↔ ∃cs,v= .agg cs/\cs.size=es.length/\RowOk F w η cs 0 es:=by
 simp only [Ent.sat,rowV,VP.sat,qb3,zt9]
theorem zz9: ∀(es:List Ent),VP.supps (es.map Ent.vp)=es.flatMap Ent.supp
 | []=>by simp [VP.supps]
 | e::r=>by simp [VP.supps,zz9 r,Ent.vp_supp]
theorem zj8 {es:List Ent}:(Ent.own (rowV es)).supp=es.flatMap Ent.supp:=by
 simp only [Ent.supp,rowV,VP.supp,zz9]
class ShapeL (es:List Ent):Prop where
  all: ∀e∈es,ShapeE e 1 false
instance:ShapeL []:=⟨fun e h=>by cases h⟩
instance {e:Ent} {r:List Ent} [h1:ShapeE e 1 false] [h2:ShapeL r]:ShapeL (e::r):=
  ⟨fun f h => by rcases zbr.1 h with rfl | h
                 · exact h1
                 · exact h2.all f h⟩
class LenE (es:List Ent) (n:outParam Nat):Prop where
  len:es.length=n
instance:LenE [] 0:=⟨rfl⟩
instance {e:Ent} {r:List Ent} {n:Nat} [h:LenE r n]:LenE (e::r) (n+1):=⟨by simp [h.len]⟩
theorem je4 {F:Dom} {es:List Ent} {v:Value} (hs: ∀e∈es,ShapeE e 1 false) (h:(Ent.own (rowV es)).sat F w η v):Flat es.length true v:=by
 obtain ⟨cs,rfl,h2,h3⟩:=yv1.1 h;rw [<-h2];refine xv1 fun u hu=> ?_;obtain ⟨i,hi⟩:=zeb hu;have hil:i < cs.size:=by have:=(zbo.1 hi).1;simpa using this
 have he:es[i]? =some es[i]:=zbi (by omega);have hp:=h3 i _ he;have hf:=(hs _ (zfa _)).flat hp;have e1:cs.getD (0+i) undef=u:=by
  have:cs[i]? =some u:=by simpa using hi
  rw [zcn,zbk,this];rfl
 rw [e1] at hf;obtain ⟨q1,q2,q3,q4⟩:=hf;exact (q4 rfl).1
instance {es:List Ent} {n m:Nat} [h1:ShapeL es] [h2:LenE es m] [h3:EqN m n]:ShapeE (.own (rowV es)) n true:=⟨fun h=>by
 have:=je4 h1.all h
 rwa [h2.len.trans h3.eq] at this⟩
class LeafE (e:Ent) (l:outParam (List Ent)):Prop where
  leaf: ∀{F:Dom} {w:World} {η:Env} {v:Value},e.sat F w η v->v.cells.size=l.length/\RowOk F w η v.cells 0 l
  sup: ∀k∈l.flatMap Ent.supp,k∈e.supp
theorem qw5 {v:Value} (h:one v=true):v.cells= #[v]:=by cases v <;> first | (simp [one] at h;done) | rfl
instance (priority:=low) leaf_one {e:Ent} [h:ShapeE e 1 false]:LeafE e [e]:=⟨fun {F w η v} hv=>by
 obtain ⟨q1,q2,q3,q4⟩:=h.flat hv;have hc:=qw5 (q4 rfl).1;refine ⟨q1,fun i e' hi=> ?_⟩;cases i with
 | zero=>simp only [zcp,zck] at hi;subst hi;rw [hc];exact hv
 | succ i=>simp at hi,fun k hk=>by simpa using hk⟩
class LeafL (es:List Ent) (ls:outParam (List (List Ent))):Prop where
  all: ∀{F:Dom} {w:World} {η:Env} {vs:List Value},SatL F w η es vs->vs.length=ls.length/\ ∀(i:Nat) (l:List Ent) (v:Value),ls[i]? =some l->vs[i]? =some v->v.cells.size=l.length/\RowOk F w η v.cells 0 l
  sup: ∀k∈ls.flatten.flatMap Ent.supp,k∈es.flatMap Ent.supp
instance:LeafL [] []:=⟨fun {F w η vs} h=>by cases vs with
 | nil=>exact ⟨rfl,fun i l v hi=>by simp at hi⟩
 | cons=>exact h.elim,fun k hk=>by simp at hk⟩
instance {e:Ent} {r:List Ent} {l:List Ent} {ls:List (List Ent)} [h1:LeafE e l] [h2:LeafL r ls]:LeafL (e::r) (l::ls):=⟨fun {F w η vs} h=>by
 cases vs with
 | nil=>exact h.elim
 | cons v vs=>
  obtain ⟨h3,h4⟩:=h;obtain ⟨h5,h6⟩:=h2.all h4;refine ⟨by simp [h5],fun i l' v' hi hv=> ?_⟩;cases i with
  | zero=>simp only [zcp,zck] at hi hv;subst hi hv;exact h1.leaf h3
  | succ i=>exact h6 i l' v' (by simpa using hi) (by simpa using hv),fun k hk=>by
 simp only [List.flatten_cons,zeg,zbp,zed] at*
 exact hk.imp (h1.sup k) (h2.sup k)⟩
theorem ju6 {T n k:Nat} {z:Value} (zs:List Value) (hz:(P.info? T).bind (·.zero)=some z) (hc:z.cells.toList=zs) (hn:zs.length=n) (h63:Nat.ble n 9223372036854775807=true) {ts:List Ent} (hts:zs.map (fun v=>Ent.val (tE v))=ts):
  Does P c ⟨some d,.alloc T,ty,pos,af,gd⟩ ⟨[],[],some (d,some (.own (.ptr k 0))),[(k,some ⟨T,1,false,ts⟩)],[k]⟩:=by
 intro g h al a w hp ⟨η,s⟩;subst hts hc;have hnew:=s.new k hp.nk.1 ⟨T,1,false,z.cells.toList.map (fun v=>Ent.val (tE v))⟩ z.cells n (by rw [<-hn];simp) (by simp [<-hn]) Nat.one_pos (fun _=>rfl) (zdo h63)
  (fun j hj=>by
   simp only [HEnt.supp,zcc,zci] at hj;obtain ⟨e,⟨v,_,rfl⟩,hj⟩:=hj;cases hj) (fun i e' hi=>by
   simp only [zbs,zdd] at hi;obtain ⟨v,hv,rfl⟩:=hi;show pick false 1 z.cells (i*1)=v;have hv':z.cells[i]? =some v:=by simpa using hv
   simp [pick,hv'])
 obtain ⟨i,hi,hz'⟩:=zfv.1 hz;refine xd0 (v:= .pointer (some ⟨w.heap.size,0,none⟩)) (w':={w with heap:=w.heap.push (.cells z.cells T)}) (by
  simp [execOp,Instr.alloc,zeroValue,typeInfo,hi,hz',newVar,newRow,newObj,Sem.run,go_sem]) ?_
 refine ⟨_,hnew.put (hp.d _ rfl) ?_ ?_⟩
 ·show _=_;simp [Env.set_b]
 ·intro j hj;simp only [Ent.supp,VP.supp,zbj] at hj;subst hj;simp
theorem jr7 {T T0 k n:Nat} {x y:Operand} {ts es:List Ent} [he:ShapeE (.own (rowV es)) n true] (ti:TyI P T n true) (hn:Nat.beq es.length n=true) (h0:Nat.blt 0 n=true) (hl:Nat.beq ts.length n=true):
  Does P c ⟨none,.store T x y,ty,pos,af,gd⟩ ⟨[(x,.own (.ptr k 0)),(y,.own (rowV es))],[(k,⟨T0,1,false,ts⟩)],none,[(k,some ⟨T0,1,false,es⟩)],[]⟩:=by
 intro g h al a w hpre ⟨η,s⟩;have hn:es.length=n:=zds hn;have hl:ts.length=n:=zds hl;have h0:0 < n:=by simpa using h0
 have h1:a.eval x= .pointer (some ⟨η.b k,0,none⟩):=(xa2 s hpre.rd.1).1;obtain ⟨hy,hys⟩:=xa2 s hpre.rd.2.1;have hfl:=he.flat hy;obtain ⟨h2,h3,⟨h6,h7,h8,h9,hmem⟩,h11⟩:=s.key k _ hpre.kr.1;have h6:ts.length<=η.c k:=h6;have hc0:0 < η.c k:=by omega
 obtain ⟨cs,h4,h5,h10⟩:=hmem hc0;have h5:cs.size=η.c k*1:=h5;have hle:0+n<=cs.size:=by omega
 obtain ⟨w',r1,r2,r3,r4,r5,r6,r7⟩:=yd5 (P:=P) ti h4 hle hfl;refine ye4 (w':=w') (by simp only [execOp,h1,Instr.storeAt,Instr.sureAddr,zbu,zbx,zbn,r1]) ?_;obtain ⟨ds,e1,e2,e3⟩:=yv1.1 hy;rw [e1] at r2 hfl;have hw:=s.write (w':=w') k hpre.kr.1 ⟨T0,1,false,es⟩ (putAt cs 0 (Value.agg ds).cells.toList) (by rw [xc8];exact h5) (by show es.length<=_;omega) Nat.one_pos (fun _=>rfl)
  (fun j hj=>hys j (by rw [zj8];exact hj))
  (fun j e' hj=>by
   have hjl:j < es.length:=(zbo.1 hj).1;have:=e3 j e' hj;show e'.sat _ _ _ (pick false 1 _ (j*1));simp only [pick,zdy,zdr];rw [zbk,xh7 _ _ _ _ (by omega),if_pos (by simp only [Value.cells,Array.length_toList];omega)];simpa [Value.cells] using this)
  hc0 r2 r3 r4 r5 r6 r7 rfl
 exact ⟨η,hw.lose none undef⟩
def fdOne (ts:List Ty):List Fd:=ts.map fun t=>⟨1,false,t⟩
theorem yo5: ∀(ts:List Ty),Fd.sum (fdOne ts)=ts.length
 | []=>rfl
 | _::r=>by show 1+Fd.sum (fdOne r)=_;rw [yo5 r,zdb];omega
theorem zk9 {F:Dom} {cs:Array Value}: ∀(ts:List Ty) (o:Nat),(∀(i:Nat) (t:Ty),ts[i]? =some t->t.p F w (cs.getD (o+i) undef))->Fd.all F w cs o (fdOne ts)
 | [],_,_=>trivial
 | t::r,o,hh=>⟨⟨fun _=>rfl,hh 0 t rfl⟩,zk9 r (o+1) fun i t' hi=>by have:=hh (i+1) t' (by simpa using hi);rwa [show o+(i+1)=o+1+i by omega] at this⟩
theorem w9 {T T0 k p n:Nat} {x:Operand} {ts:List Ent} {us:List Ty} {t:Ty} (ti:TyI P T n true) (hn:us.length=n) (h0:Nat.blt 0 n=true) (hts:(ts.drop p).take n=us.map Ent.val) (ht:tS (fdOne us)=t):
  Does P c ⟨some d,.load T x,ty,pos,af,gd⟩ ⟨[(x,.own (.ptr k p))],[(k,⟨T0,1,false,ts⟩)],some (d,some (.val t)),[],[]⟩:=
 Does.value rfl fun g h al a w η hrd hkr s=>by
  subst hn ht;have h0:0 < us.length:=by simpa using h0
  have h1:a.eval x= .pointer (some ⟨η.b k,p,none⟩):=(xa2 s hrd.1).1;obtain ⟨h2,h3,⟨h6,h7,h8,h9,hmem⟩,h11⟩:=s.key k _ hkr.1;have h6:ts.length<=η.c k:=h6;have hlen:=congrArg List.length hts;simp only [zcu,List.length_drop,zch] at hlen;obtain ⟨cs,h4,h5,h10⟩:=hmem (by omega);have h5:cs.size=η.c k*1:=h5;have hle:p+us.length<=cs.size:=by omega
  refine ⟨_,w,?_,Ext.refl w,⟨cs.extract p (p+us.length),rfl,by rw [yo5];simp;omega,zk9 us 0 fun i t hi=> ?_⟩,fun j hj=>by cases hj⟩
  ·simp only [execOp,h1,Instr.loadAt,Instr.sureAddr,zbu,zbx,zbn,xq6 ti h4 hle (fun h=>by cases h),pick,zev]
  ·have hil:i < us.length:=(zbo.1 hi).1;have hx:ts[p+i]? =some (.val t):=by
    have h12:((ts.drop p).take us.length)[i]? =some (.val t):=by rw [hts,zbs,hi];rfl
    rw [List.getElem?_take_of_lt hil,List.getElem?_drop] at h12;exact h12
   have h13:=h10 (p+i) _ hx;simp only [pick,zdy,zdr] at h13;rw [zbk,zcq,if_pos (by omega),zcn,<-zbk];exact h13
def NoLbK (c:Base) (h:Keys) (k:Nat):Prop:= ∀(g:Slots) (al:Names) (a:Act) (w:World) (η:Env),St' c g h al a w η->0 < η.c k-> ¬c.lb (η.b k)
theorem NoLbK.of (hlb:NoLb c) {k:Nat}:NoLbK c h k:=fun _ _ _ _ _ _ _=>hlb _
theorem St'.giveK (s:St' c g h al a w η) {k:Nat} {T es off len:Nat} {agg:Bool} {ts:List Ent} {α:Type} {f:α->Ty} {xs:List α} (hk:h k=some ⟨T,es,agg,ts⟩) (hlb:NoLbK c h k)
  (hts:(ts.drop off).take len=xs.map fun x=> .val (f x)) (hl:xs.length=len) {v:Value} (hv:(Ent.own (.sl k es off len)).sat (c.dom h η) w η v):(tL es agg f xs).p (c.dom (upd h k none) η) w v:=by
 subst hl;obtain ⟨A,h1,h2,h3⟩:=hv;obtain ⟨h4,h5,⟨h6,h7,h8,h9,h10⟩,h11⟩:=s.key k _ hk;simp only at h7 h8 h9 h10;refine ⟨A,_,h1,by omega,by omega,?_⟩;rcases zco xs.length with h0 | h0
 ·exact .inl (zda h0)
 ·have hc:0 < η.c k:=by omega
  obtain ⟨cs,e1,e2,e3⟩:=h10 hc;obtain ⟨d1,d2,d3⟩:=h11 hc;have d1:c.w0.heap.size<=η.b k:=d1.resolve_right (hlb _ _ _ _ _ s hc);refine .inr ⟨η.b k,off*es,h3 (by omega),⟨.inl d1,?_,d2,d3⟩,fun i x hi=> ?_⟩
  ·rintro ⟨j,y,hj,hcj,e⟩;by_cases hjk:j=k
   ·subst hjk;rw [x7] at hj;cases hj
   ·rw [x3 _ _ _ hjk] at hj;exact s.inj j k y _ hj hk hjk hcj hc e.symm
  ·have hil:i < xs.length:=(zbo.1 hi).1;have he:=e3 (off+i) _ (zg2 hts i x hi);have hle:off*es+i*es+es<=cs.size:=by
    rw [e2,<-zdh,<-zcw];exact zbz _ (by omega)
   refine ⟨_,⟨cs,_,_,e1,hle,h7,h8,rfl⟩,?_⟩;rw [<-zdh];exact (f x).mono he (Keep.drop k)
theorem wc0 {x:Code} {q j T Tq es off len:Nat} {agg:Bool} {us ts us':List Ent} {α:Type} {f:α->Ty} {xs:List α} (i:Nat) (hq:h q=some ⟨Tq,1,false,us⟩) (hi:us[i]? =some (.own (.sl j es off len))) (hj:h j=some ⟨T,es,agg,ts⟩) (hne:Nat.beq q j=false) (hlb:NoLbK c h j)
  (hts:(ts.drop off).take len=xs.map fun x=> .val (f x)) (hl:xs.length=len) (hus:us.set i (.val (tL es agg f xs))=us') (H:wc P c x Q g (upd (upd h j none) q (some ⟨Tq,1,false,us'⟩)) al):wc P c x Q g h al:=fun a w ⟨η,s⟩=>by
 subst hus;have hne:q≠j:=fun e=>by rw [e] at hne;simp at hne
 obtain ⟨k1,k2,⟨k3,k4,k5,k6,k7⟩,_⟩:=s.key q _ hq;have hil:i < us.length:=(zbo.1 hi).1;have k3:us.length<=η.c q:=k3;obtain ⟨cs,m1,m2,m3⟩:=k7 (by omega);have h2:=s.giveK hj hlb hts hl (m3 i _ hi);have s1:=s.drop j;refine H a w ⟨η,s1.same (x:=⟨Tq,1,false,us⟩) (by rw [x3 _ _ _ hne];exact hq) rfl (fun t ht=> ?_) ⟨by simpa using k3,Nat.one_pos,fun _=>rfl,k6,fun _=>⟨cs,m1,m2,fun n e he=> ?_⟩⟩⟩
 ·simp only [HEnt.supp,zcc] at ht;obtain ⟨e',he',ht⟩:=ht;obtain ⟨j',hj'⟩:=zeb he';rcases List.getElem?_set_cases hj' with ⟨_,rfl,_⟩ | ⟨_,hj''⟩
  ·cases ht
  ·exact k2 t (HEnt.mem_supp hj'' ht)
 ·rcases List.getElem?_set_cases he with ⟨rfl,rfl,_⟩ | ⟨hne',hj'⟩
  ·exact h2
  ·exact Ent.sat_go (m3 n e hj') (Keep.drop j) fun _ _=>⟨rfl,rfl⟩
end
section
variable {P:Program} {c:Base} {g:Slots} {h:Keys} {al:Names} {Q:Exit->Act->World->Prop}
variable {A:Array Oper} {rest:List Oper} {dst:Option Nat} {op:Op} {ty:Nat} {pos:String} {af:Array Edge}
theorem xw7 {E:Eff} {j t:Nat} {want b:Bool} (hb:b=want) (hj:(A[j]?).bind (·.dst)=some t) (hd:Does P c ⟨dst,op,ty,pos,af,some (j,want)⟩ E) (hg:g t=some (.val (tB b))) (h1:Rd g E.rd) (h2:Kr h E.kr) (h3:Nk al E.nk)
  (hN:dOk c.N [⟨t::slotsOf E.rd,E.d.map (·.1),E.kr.map (·.1),E.kw.map (·.1),E.nk⟩]=true) (H:wl P c A Q rest (E.g g) (E.h h) (E.al al)):wl P c A Q (⟨dst,op,ty,pos,af,some (j,want)⟩::rest) g h al:=
 yf4 [⟨dst,op,ty,pos,af,some (j,want)⟩] (rest:=rest) (RGon hb hj hd hg h1 h2 h3 ⟨hN,H⟩)
theorem xo9 {d:Nat} {T T0 es k p n o:Nat} {agg':Bool} {x:Operand} {ts:List Ent} {t t':Ty} (i:Nat) (ti:TyI P T n agg') (hx:look g x=some (.own (.ptr k p))) (hk:h k=some ⟨T0,es,true,ts⟩) (hi:ts[i]? =some (.val t)) (hat:At t o n agg' t') (hp:i*es+o=p)
  (hN:dOk c.N [⟨slotsOf [(x,.own (.ptr k p))],some d,[k],[],[]⟩]=true) (H:wl P c A Q rest (upd g d (some (.val t'))) h al):wl P c A Q (⟨some d,.load T x,ty,pos,af,none⟩::rest) g h al:=
 xa9 (xp2 i ti hi hat hp) ⟨hx,trivial⟩ ⟨hk,trivial⟩ trivial hN H
end
def rV {α:Type} (f:α->Ty) (xs:List α):List Ent:=xs.map fun x=> .val (f x)
section
variable {α:Type} {f:α->Ty} {xs:List α}
theorem xc3 {i:Nat} {d:α} (h:i < xs.length):(rV f xs)[i]? =some (.val (f (xs.getD i d))):=by
 rw [rV,zbs,gD (d:=d) h];rfl
theorem xi5 {i:Nat} (h:i < xs.length):Nat.blt i (rV f xs).length=true:=by simpa [rV] using h
theorem xf0 {i:Nat} {m:α} {t:Ty} (h:t=f m):(rV f xs).set i (.val t)=rV f (xs.set i m):=by
 rw [rV,rV,List.map_set,h]
theorem yd0 (n:Nat) (x:α) {t:Ty} (h:t=f x):List.replicate n (Ent.val t)=rV f (List.replicate n x):=by
 rw [rV,List.map_replicate,h]
theorem xc0:(rV f xs).length=xs.length:=by simp [rV]
theorem xe9 {n:Nat} (h:xs.length=n):((rV f xs).drop 0).take n=xs.map fun x=> .val (f x):=by
 subst h;rw [List.drop_zero,List.take_of_length_le (by rw [xc0];exact zbq _)];rfl
theorem x6 {l:List Nat}:SupX (rV f xs) l:=SupX.map (f:=f)
theorem x8 {ρ:Nat->Nat} {T es:Nat} {agg:Bool}:HEnt.ren ρ ⟨T,es,agg,rV f xs⟩=⟨T,es,agg,rV f xs⟩:=wj0
end
class FoI (P:Program) (S f:Nat) (o:outParam Nat):Prop where
  h:fieldO P S f=some o
class UnI (P:Program) (T:TypeId) (d:outParam TypeDesc):Prop where
  h:P.underlying T=some d
section
variable {P:Program} {c:Base} {g:Slots} {h:Keys} {al:Names} {A:Array Oper} {K:List Sm->Slots->Keys->Names->Prop} {rest:List Oper} {sms:List Sm} {ty:Nat} {pos:String} {af:Array Edge} {Q:Exit->Act->World->Prop}
variable {dst:Option Nat} {op:Op} {x y z:Operand} {e1 e2:Ent}
theorem RG1 {s j t:Nat} {e:Ent} {want b:Bool} (hb:b=want) (hj:(A[j]?).bind (·.dst)=some t) (hd:Does P c ⟨dst,op,ty,pos,af,some (j,want)⟩ ⟨[(x,e1)],[],some (s,some e),[],[]⟩) (hg:g t=some (.val (tB b))) (h1:look g x=some e1)
  (H:RSeq P c A K rest (sms++[⟨t::slotsOf [(x,e1)],some s,[],[],[]⟩]) (upd g s (some e)) h al):RSeq P c A K (⟨dst,op,ty,pos,af,some (j,want)⟩::rest) sms g h al:=
 RGon hb hj hd hg ⟨h1,trivial⟩ trivial trivial H
theorem RG2 {s j t:Nat} {e:Ent} {want b:Bool} (hb:b=want) (hj:(A[j]?).bind (·.dst)=some t) (hd:Does P c ⟨dst,op,ty,pos,af,some (j,want)⟩ ⟨[(x,e1),(y,e2)],[],some (s,some e),[],[]⟩) (hg:g t=some (.val (tB b))) (h1:look g x=some e1) (h2:look g y=some e2)
  (H:RSeq P c A K rest (sms++[⟨t::slotsOf [(x,e1),(y,e2)],some s,[],[],[]⟩]) (upd g s (some e)) h al):RSeq P c A K (⟨dst,op,ty,pos,af,some (j,want)⟩::rest) sms g h al:=
 RGon hb hj hd hg ⟨h1,h2,trivial⟩ trivial trivial H
theorem RGl {s j t k:Nat} {e:Ent} {x':HEnt} {want b:Bool} (hb:b=want) (hj:(A[j]?).bind (·.dst)=some t) (hd:Does P c ⟨dst,op,ty,pos,af,some (j,want)⟩ ⟨[(x,e1)],[(k,x')],some (s,some e),[],[]⟩) (hg:g t=some (.val (tB b))) (h1:look g x=some e1) (h2:h k=some x')
  (H:RSeq P c A K rest (sms++[⟨t::slotsOf [(x,e1)],some s,[k],[],[]⟩]) (upd g s (some e)) h al):RSeq P c A K (⟨dst,op,ty,pos,af,some (j,want)⟩::rest) sms g h al:=
 RGon hb hj hd hg ⟨h1,trivial⟩ ⟨h2,trivial⟩ trivial H
theorem Rl {s k:Nat} {e:Ent} {x':HEnt} (hd:Does P c ⟨dst,op,ty,pos,af,none⟩ ⟨[(x,e1)],[(k,x')],some (s,some e),[],[]⟩) (h1:look g x=some e1) (h2:h k=some x')
  (H:RSeq P c A K rest (sms++[⟨slotsOf [(x,e1)],some s,[k],[],[]⟩]) (upd g s (some e)) h al):RSeq P c A K (⟨dst,op,ty,pos,af,none⟩::rest) sms g h al:=
 RE hd ⟨h1,trivial⟩ ⟨h2,trivial⟩ trivial H
theorem Rs {T T0 es k p n:Nat} {agg:Bool} {ts ts':List Ent} {e:Ent} (hx:look g x=some (.own (.ptr k p))) (hy:look g y=some e) (hk:h k=some ⟨T0,es,agg,ts⟩) [ti:TyI P T n agg] (hn:n=es) (hi:Nat.blt 0 ts.length=true) (hp:0=p) (hts:ts.set 0 e=ts') [he:ShapeE e es agg]
  (H:RSeq P c A K rest (sms++[⟨slotsOf [(x,.own (.ptr k p)),(y,e)],none,[k],[k],[]⟩]) g (upd h k (some ⟨T0,es,agg,ts'⟩)) al):RSeq P c A K (⟨none,.store T x y,ty,pos,af,none⟩::rest) sms g h al:=by
 subst hn;exact RE (xc1 0 ti hi (by omega) hts) ⟨hx,hy,trivial⟩ ⟨hk,trivial⟩ trivial H
theorem RlF {T T0 es k p n d:Nat} {agg':Bool} {ts:List Ent} {t t':Ty} [ti:TyI P T n agg'] (hx:look g x=some (.own (.ptr k p))) (hk:h k=some ⟨T0,es,true,ts⟩) (hi:ts[0]? =some (.val t)) (hat:At t p n agg' t')
  (H:RSeq P c A K rest (sms++[⟨slotsOf [(x,.own (.ptr k p))],some d,[k],[],[]⟩]) (upd g d (some (.val t'))) h al):RSeq P c A K (⟨some d,.load T x,ty,pos,af,none⟩::rest) sms g h al:=
 xn7 0 ti hx hk hi hat (by omega) H
theorem RGlF {T T0 es k p n d:Nat} {agg':Bool} {ts:List Ent} {t t':Ty} {j q:Nat} {want b:Bool} (hb:b=want) (hj:(A[j]?).bind (·.dst)=some q) (hq:g q=some (.val (tB b))) [ti:TyI P T n agg'] (hx:look g x=some (.own (.ptr k p))) (hk:h k=some ⟨T0,es,true,ts⟩) (hi:ts[0]? =some (.val t)) (hat:At t p n agg' t')
  (H:RSeq P c A K rest (sms++[⟨q::slotsOf [(x,.own (.ptr k p))],some d,[k],[],[]⟩]) (upd g d (some (.val t'))) h al):RSeq P c A K (⟨some d,.load T x,ty,pos,af,some (j,want)⟩::rest) sms g h al:=
 xb9 hb hj hq 0 ti hx hk hi hat (by omega) H
theorem Rbx {T n s:Nat} {agg:Bool} {e:Ent} [he:ShapeE e n agg] [ti:TyI P T n agg] (hx:look g x=some e) (hn:Nat.blt 0 n=true) (h3:Nk al [s])
  (H:RSeq P c A K rest (sms++[(⟨[(x,e)],[],some (s,some (.own (.ptr s 0))),[(s,some ⟨T,n,agg,[e]⟩)],[s]⟩:Eff).sm]) (upd g s (some (.own (.ptr s 0)))) (upd h s (some ⟨T,n,agg,[e]⟩)) ((⟨[(x,e)],[],some (s,some (.own (.ptr s 0))),[(s,some ⟨T,n,agg,[e]⟩)],[s]⟩:Eff).al al)):RSeq P c A K (⟨some s,.box T x,ty,pos,af,none⟩::rest) sms g h al:=
 RE (d_box (k:=s) ti hn) ⟨hx,trivial⟩ trivial h3 H
variable {T:TypeId} {d:Nat} {gd:Option (Nat×Bool)}
theorem b_len {α:Type} {es:Nat} {agg:Bool} {f:α->Ty} {xs:List α} {E:TypeId} [hT:UnI P T (.slice E)]:Does P c ⟨some d,.call {callee:= .builtin .len,args:= #[x],argTypes:= #[T]},ty,pos,af,gd⟩ ⟨[(x,.val (tL es agg f xs))],[],some (d,some (.val (tI xs.length))),[],[]⟩:=ya9 hT.h
theorem qb6 {k es off len:Nat} {E:TypeId} [hT:UnI P T (.slice E)]:Does P c ⟨some d,.call {callee:= .builtin .len,args:= #[x],argTypes:= #[T]},ty,pos,af,gd⟩ ⟨[(x,.own (.sl k es off len))],[],some (d,some (.val (tI len))),[],[]⟩:=zt4 hT.h
end
section
variable {c:Base} {g:Slots} {h:Keys} {al:Names} {Q:Exit->Act->World->Prop} {P:Program}
theorem sC {g':Slots} {s:Nat} {e:Ent} (h2:Sub g' g) (h1:g s=some e:=by rfl):Sub (upd g' s (some e)) g:= .consI h1 .refl h2
theorem sI {g':Slots} {s:Nat} {k:IntKind} {m n:Int} (h2:Sub g' g) (h1:g s=some (.val (tE (.int k m))):=by rfl) (hmn:m=n:=by first | omega | rfl | (dsimp only;omega)):Sub (upd g' s (some (.val (tE (.int k n))))) g:= .consI h1 (.int hmn) h2
theorem kF {ι:Type} {I:ι->Prop} {G:ι->Slots} {H:ι->Keys} {l:List Nat} (i:ι) (hi:I i) (hg:Sub (G i) g:=by repeat (first | exact zay | refine zae rfl ?_ | refine zan rfl ?_)) (hh:SubK (H i) h:=by repeat (first | exact zax | refine SubK.cons rfl ?_))
  (sg:SupG (G i) (nm l):=by repeat (first | exact zar | refine zaj ?_ | refine zak rfl ?_)) (sh:SupH (H i) (nm l):=by repeat (first | exact zaz | refine zam rfl (supJ xn3) ?_ | refine zam rfl (supJ qz3) ?_ | refine zam rfl (supJ x6) ?_ | refine zam rfl (supJL rfl) ?_)) (hlk:lkB c.ln c.yk (nm l)=true:=by rfl):
  wk c .normal (Exit.then (Fam c I G H (nm l)) Q) g h al:=xf5 i hi hg hh sg sh (lkOk hlk)
theorem cL {ι:Type} (I:ι->Prop) (G:ι->Slots) (H:ι->Keys) (l:List Nat) (μ:ι->Nat) (i:ι) (hi:I i) {x:Code} (round: ∀i,I i->wc P c x (Exit.then (Fam c (fun j=>I j/\μ j < μ i) G H (nm l)) Q) (G i) (H i) (nm l)) (hg:Sub (G i) g:=by repeat (first | exact zay | refine zae rfl ?_ | refine zan rfl ?_)) (hh:SubK (H i) h:=by repeat (first | exact zax | refine SubK.cons rfl ?_))
  (sg:SupG (G i) (nm l):=by repeat (first | exact zar | refine zaj ?_ | refine zak rfl ?_)) (sh:SupH (H i) (nm l):=by repeat (first | exact zaz | refine zam rfl (supJ xn3) ?_ | refine zam rfl (supJ qz3) ?_ | refine zam rfl (supJ x6) ?_ | refine zam rfl (supJL rfl) ?_)) (hlk:lkB c.ln c.yk (nm l)=true:=by rfl):
  wc P c (.loop x) Q g h al:=xh8 I G H (nm l) μ i hi hg hh sg sh (lkOk hlk) round
end
theorem S0 {p q:Prop} (hs:q->p:=by
  first
  | ((with_reducible show _->RSeq _ _ _ _ (⟨_,_,_,_,_,none⟩::_) _ _ _ _);first
   | ((with_reducible show _->RSeq _ _ _ _ (⟨_,.move _,_,_,_,none⟩::_) _ _ _ _);first | exact R1 xa3 rfl)
   | ((with_reducible show _->RSeq _ _ _ _ (⟨_,.assign _,_,_,_,none⟩::_) _ _ _ _);first | exact R1 xb0 rfl)
   | ((with_reducible show _->RSeq _ _ _ _ (⟨_,.load _ _,_,_,_,none⟩::_) _ _ _ _);first | exact R1 (xf2 inferInstance) rfl | exact Rl (xa5 0 inferInstance rfl rfl) rfl rfl | exact RlF rfl rfl rfl (by first | exact At.g 0 rfl rfl | exact At.g 1 rfl rfl | exact At.g 2 rfl rfl | exact At.g 3 rfl rfl | exact At.g 4 rfl rfl | exact At.g 5 rfl rfl | exact At.g 6 rfl rfl))
   | ((with_reducible show _->RSeq _ _ _ _ (⟨_,.fieldAddr _ _ _,_,_,_,none⟩::_) _ _ _ _);first | exact R1 (xb5 FoI.h rfl) rfl)
   | ((with_reducible show _->RSeq _ _ _ _ (⟨_,.extract _ _,_,_,_,none⟩::_) _ _ _ _);first | exact R1 (ye1 rfl) rfl)
   | ((with_reducible show _->RSeq _ _ _ _ (⟨_,.call _,_,_,_,none⟩::_) _ _ _ _);first | exact R1 b_len rfl | exact R1 qb6 rfl)
   | ((with_reducible show _->RSeq _ _ _ _ (⟨_,.binOp .lss _ _ _ _,_,_,_,none⟩::_) _ _ _ _);first | exact R2 zr6 rfl rfl)
   | ((with_reducible show _->RSeq _ _ _ _ (⟨_,.binOp .eql _ _ _ _,_,_,_,none⟩::_) _ _ _ _);first | exact R2 ya7 rfl rfl | exact R2 (jb2 UnI.h) rfl rfl)
   | ((with_reducible show _->RSeq _ _ _ _ (⟨_,.binOp .neq _ _ _ _,_,_,_,none⟩::_) _ _ _ _);first | exact R2 zr4 rfl rfl | exact R2 (zu1 UnI.h) rfl rfl)
   | ((with_reducible show _->RSeq _ _ _ _ (⟨_,.binOp .leq _ _ _ _,_,_,_,none⟩::_) _ _ _ _);first | exact R2 zd4 rfl rfl)
   | ((with_reducible show _->RSeq _ _ _ _ (⟨_,.binOp .gtr _ _ _ _,_,_,_,none⟩::_) _ _ _ _);first | exact R2 xw8 rfl rfl)
   | ((with_reducible show _->RSeq _ _ _ _ (⟨_,.binOp .geq _ _ _ _,_,_,_,none⟩::_) _ _ _ _);first | exact R2 qu4 rfl rfl)
   | ((with_reducible show _->RSeq _ _ _ _ (⟨_,.binOp .add _ _ _ _,_,_,_,none⟩::_) _ _ _ _);first | exact R2 (xh3 zah) rfl rfl)
   | ((with_reducible show _->RSeq _ _ _ _ (⟨_,.binOp .sub _ _ _ _,_,_,_,none⟩::_) _ _ _ _);first | exact R2 (xh2 zah) rfl rfl)
   | ((with_reducible show _->RSeq _ _ _ _ (⟨_,.unOp _ _ _,_,_,_,none⟩::_) _ _ _ _);first | exact R1 xj9 rfl)
   | ((with_reducible show _->RSeq _ _ _ _ (⟨_,.nilCheck _,_,_,_,none⟩::_) _ _ _ _);first | exact R1 xc5 rfl | exact R1 yu0 rfl)
   | ((with_reducible show _->RSeq _ _ _ _ (⟨_,.pick _ _ _,_,_,_,none⟩::_) _ _ _ _);first | exact R2 (xc6 (by first | rfl | assumption | exact zbf (by assumption) | exact xd6 (by assumption))) rfl rfl | exact R2 (xc4 (by first | rfl | assumption | exact zbg (by assumption) | exact xb4 (by assumption))) rfl rfl)
   | ((with_reducible show _->RSeq _ _ _ _ (⟨_,.store _ _ _,_,_,_,none⟩::_) _ _ _ _);first | exact Rs rfl rfl rfl rfl rfl rfl rfl)
   | ((with_reducible show _->RSeq _ _ _ _ (⟨_,.box _ _,_,_,_,none⟩::_) _ _ _ _);first | exact Rbx rfl rfl ⟨rfl,trivial⟩))
  | ((with_reducible show _->RSeq _ _ _ _ (⟨_,_,_,_,_,some _⟩::_) _ _ _ _);first
   | exact RGoff (by first | rfl | assumption | exact zbg (by assumption) | exact zbf (by assumption) | exact xd6 (by assumption) | exact xb4 (by assumption)) rfl rfl
   | exact RGoffU rfl rfl
   | ((with_reducible show _->RSeq _ _ _ _ (⟨_,.move _,_,_,_,some _⟩::_) _ _ _ _);first | exact RG1 (by first | rfl | assumption | exact zbg (by assumption) | exact zbf (by assumption) | exact xd6 (by assumption) | exact xb4 (by assumption)) rfl xa3 rfl rfl)
   | ((with_reducible show _->RSeq _ _ _ _ (⟨_,.load _ _,_,_,_,some _⟩::_) _ _ _ _);first | exact RG1 (by first | rfl | assumption | exact zbg (by assumption) | exact zbf (by assumption) | exact xd6 (by assumption) | exact xb4 (by assumption)) rfl (xf2 inferInstance) rfl rfl | exact RGl (by first | rfl | assumption | exact zbg (by assumption) | exact zbf (by assumption) | exact xd6 (by assumption) | exact xb4 (by assumption)) rfl (xa5 0 inferInstance rfl rfl) rfl rfl rfl | exact RGlF (by first | rfl | assumption | exact zbg (by assumption) | exact zbf (by assumption) | exact xd6 (by assumption) | exact xb4 (by assumption)) rfl rfl rfl rfl rfl (by first | exact At.g 0 rfl rfl | exact At.g 1 rfl rfl | exact At.g 2 rfl rfl | exact At.g 3 rfl rfl | exact At.g 4 rfl rfl | exact At.g 5 rfl rfl | exact At.g 6 rfl rfl))
   | ((with_reducible show _->RSeq _ _ _ _ (⟨_,.fieldAddr _ _ _,_,_,_,some _⟩::_) _ _ _ _);first | exact RG1 (by first | rfl | assumption | exact zbg (by assumption) | exact zbf (by assumption) | exact xd6 (by assumption) | exact xb4 (by assumption)) rfl (xb5 FoI.h rfl) rfl rfl)
   | ((with_reducible show _->RSeq _ _ _ _ (⟨_,.unOp _ _ _,_,_,_,some _⟩::_) _ _ _ _);first | exact RG1 (by first | rfl | assumption | exact zbg (by assumption) | exact zbf (by assumption) | exact xd6 (by assumption) | exact xb4 (by assumption)) rfl xj9 rfl rfl)
   | ((with_reducible show _->RSeq _ _ _ _ (⟨_,.call _,_,_,_,some _⟩::_) _ _ _ _);first | exact RG1 (by first | rfl | assumption | exact zbg (by assumption) | exact zbf (by assumption) | exact xd6 (by assumption) | exact xb4 (by assumption)) rfl b_len rfl rfl)
   | ((with_reducible show _->RSeq _ _ _ _ (⟨_,.extract _ _,_,_,_,some _⟩::_) _ _ _ _);first | exact RG1 (by first | rfl | assumption | exact zbg (by assumption) | exact zbf (by assumption) | exact xd6 (by assumption) | exact xb4 (by assumption)) rfl (ye1 rfl) rfl rfl)
   | ((with_reducible show _->RSeq _ _ _ _ (⟨_,.binOp .lss _ _ _ _,_,_,_,some _⟩::_) _ _ _ _);first | exact RG2 (by first | rfl | assumption | exact zbg (by assumption) | exact zbf (by assumption) | exact xd6 (by assumption) | exact xb4 (by assumption)) rfl zr6 rfl rfl rfl)
   | ((with_reducible show _->RSeq _ _ _ _ (⟨_,.binOp .eql _ _ _ _,_,_,_,some _⟩::_) _ _ _ _);first | exact RG2 (by first | rfl | assumption | exact zbg (by assumption) | exact zbf (by assumption) | exact xd6 (by assumption) | exact xb4 (by assumption)) rfl ya7 rfl rfl rfl)
   | ((with_reducible show _->RSeq _ _ _ _ (⟨_,.binOp .neq _ _ _ _,_,_,_,some _⟩::_) _ _ _ _);first | exact RG2 (by first | rfl | assumption | exact zbg (by assumption) | exact zbf (by assumption) | exact xd6 (by assumption) | exact xb4 (by assumption)) rfl zr4 rfl rfl rfl)
   | ((with_reducible show _->RSeq _ _ _ _ (⟨_,.binOp .leq _ _ _ _,_,_,_,some _⟩::_) _ _ _ _);first | exact RG2 (by first | rfl | assumption | exact zbg (by assumption) | exact zbf (by assumption) | exact xd6 (by assumption) | exact xb4 (by assumption)) rfl zd4 rfl rfl rfl)
   | ((with_reducible show _->RSeq _ _ _ _ (⟨_,.binOp .gtr _ _ _ _,_,_,_,some _⟩::_) _ _ _ _);first | exact RG2 (by first | rfl | assumption | exact zbg (by assumption) | exact zbf (by assumption) | exact xd6 (by assumption) | exact xb4 (by assumption)) rfl xw8 rfl rfl rfl)
   | ((with_reducible show _->RSeq _ _ _ _ (⟨_,.binOp .geq _ _ _ _,_,_,_,some _⟩::_) _ _ _ _);first | exact RG2 (by first | rfl | assumption | exact zbg (by assumption) | exact zbf (by assumption) | exact xd6 (by assumption) | exact xb4 (by assumption)) rfl qu4 rfl rfl rfl))
  | ((with_reducible show _->RSeq _ _ _ _ [] _ _ _ _);first | with_reducible exact xc9 (by with_unfolding_all kernel_rfl) | with_reducible exact zr0 (by with_unfolding_all kernel_rfl))
  | ((with_reducible show _->wk _ .normal (Exit.then _ _) _ _ _);exact xb6)
  | with_reducible exact xd9
  | with_reducible exact xe0
  | with_reducible exact xq5
  | with_reducible exact xi1
  | with_reducible exact yf6
  | with_reducible exact xz6
  | with_reducible exact xw9
  | with_reducible exact yq0
  | with_reducible exact ym0
  | with_reducible exact K_retB
  | with_reducible exact xt9
  | ((with_reducible show _->wk _ (.exit _) (Exit.inBlock _ _) _ _ _);exact K_exO rfl)
  | ((with_reducible show _->wc _ _ (.cond _ _ _) _ _ _ _);first | exact yn3 rfl (by first | rfl | assumption | exact zbf (by assumption) | exact xd6 (by assumption)) | exact xi8 rfl (by first | rfl | assumption | exact zbg (by assumption) | exact xb4 (by assumption)))
  | ((with_reducible show _->wc _ _ (.region _ _ true) _ _ _ _);exact za0 mixed)):q->p:=hs
theorem S1 {p q:Prop} (hs:q->p:=by first | exact S0 | ((show _->RSeq _ _ _ _ (_::_) _ _ _ _);exact S0) | ((show _->RSeq _ _ _ _ [] _ _ _ _);exact S0)):q->p:=hs
theorem B2 {p q r:Prop} (a:q->p) (b:r->q):r->p:=fun h=>a (b h)
theorem A1 {p q:Prop} (hq:q) (hs:q->p:=by exact S1):p:=hs hq
theorem A2 {p q:Prop} (hq:q) (hs:q->p:=by exact B2 S1 S1):p:=hs hq
theorem A3 {p q:Prop} (hq:q) (hs:q->p:=by exact B2 S1 (B2 S1 S1)):p:=hs hq
theorem A4 {p q:Prop} (hq:q) (hs:q->p:=by exact B2 S1 (B2 S1 (B2 S1 S1))):p:=hs hq
theorem A5 {p q:Prop} (hq:q) (hs:q->p:=by exact B2 S1 (B2 S1 (B2 S1 (B2 S1 S1)))):p:=hs hq
theorem A6 {p q:Prop} (hq:q) (hs:q->p:=by exact B2 S1 (B2 S1 (B2 S1 (B2 S1 (B2 S1 S1))))):p:=hs hq
theorem A7 {p q:Prop} (hq:q) (hs:q->p:=by exact B2 S1 (B2 S1 (B2 S1 (B2 S1 (B2 S1 (B2 S1 S1)))))):p:=hs hq
theorem A8 {p q:Prop} (hq:q) (hs:q->p:=by exact B2 S1 (B2 S1 (B2 S1 (B2 S1 (B2 S1 (B2 S1 (B2 S1 S1))))))):p:=hs hq
theorem A9 {p q:Prop} (hq:q) (hs:q->p:=by exact B2 S1 (B2 S1 (B2 S1 (B2 S1 (B2 S1 (B2 S1 (B2 S1 (B2 S1 S1)))))))):p:=hs hq
theorem S9 {p q:Prop} (hs:q->p:=by exact B2 S1 (B2 S1 (B2 S1 (B2 S1 (B2 S1 (B2 S1 (B2 S1 (B2 S1 S1)))))))):q->p:=hs
theorem A10 {p q:Prop} (hq:q) (hs:q->p:=by exact B2 S9 S1):p:=hs hq
theorem A11 {p q:Prop} (hq:q) (hs:q->p:=by exact B2 S9 (B2 S1 S1)):p:=hs hq
theorem A12 {p q:Prop} (hq:q) (hs:q->p:=by exact B2 S9 (B2 S1 (B2 S1 S1))):p:=hs hq
theorem A13 {p q:Prop} (hq:q) (hs:q->p:=by exact B2 S9 (B2 S1 (B2 S1 (B2 S1 S1)))):p:=hs hq
theorem A14 {p q:Prop} (hq:q) (hs:q->p:=by exact B2 S9 (B2 S1 (B2 S1 (B2 S1 (B2 S1 S1))))):p:=hs hq
theorem A15 {p q:Prop} (hq:q) (hs:q->p:=by exact B2 S9 (B2 S1 (B2 S1 (B2 S1 (B2 S1 (B2 S1 S1)))))):p:=hs hq
theorem A16 {p q:Prop} (hq:q) (hs:q->p:=by exact B2 S9 (B2 S1 (B2 S1 (B2 S1 (B2 S1 (B2 S1 (B2 S1 S1))))))):p:=hs hq
theorem A17 {p q:Prop} (hq:q) (hs:q->p:=by exact B2 S9 (B2 S1 (B2 S1 (B2 S1 (B2 S1 (B2 S1 (B2 S1 (B2 S1 S1)))))))):p:=hs hq
theorem A18 {p q:Prop} (hq:q) (hs:q->p:=by exact B2 S9 S9):p:=hs hq
end An
namespace An.S
open Go Go.Proofs An Tryz
abbrev zgf:=@Tryz.underlying22
abbrev zgg:=@Tryz.underlying331
abbrev zgh:=@Tryz.underlying289
abbrev zgi:=@Tryz.underlying140
abbrev zgj:=@Tryz.underlying144
abbrev zgk:=@Tryz.underlying197
abbrev zgm:=@Tryz.underlying4
abbrev zgn:=@Tryz.underlying57
abbrev zgo:=@Tryz.underlying3
abbrev zgp:=@Tryz.underlying38
abbrev zgq:=@Tryz.underlying35
abbrev zgr:=@Tryz.underlying56
abbrev zgs:=@Tryz.underlying33
abbrev zgt:=@Tryz.underlying141
abbrev zgu:=@Tryz.underlying9
abbrev zgv:=@Tryz.underlying127
abbrev zgw:=@Tryz.underlying32
abbrev zgx:=@Tryz.underlying136
abbrev zgy:=@Tryz.underlying5
abbrev zgz:=@Tryz.underlying174
abbrev zha:=@Tryz.underlying95
instance ti140:TyI Tryz.prog 140 1 false:=⟨by kernel_rfl,by kernel_rfl⟩
instance ti289:TyI Tryz.prog 289 1 false:=⟨by kernel_rfl,by kernel_rfl⟩
instance sl22:SlI Tryz.prog 22 140 1 false:=⟨zgf,ti140⟩
instance sl331:SlI Tryz.prog 331 289 1 false:=⟨zgg,ti289⟩
theorem el140:ElI Tryz.prog 140 1 2 false (.int .u16 0):=⟨ti140,by kernel_rfl,by kernel_rfl⟩
theorem el289:ElI Tryz.prog 289 1 4 false (.int .u32 0):=⟨ti289,by kernel_rfl,by kernel_rfl⟩
theorem zf140:Flat 1 false (.int .u16 0):=xd2 rfl
theorem zf289:Flat 1 false (.int .u32 0):=xd2 rfl
instance un22:UnI Tryz.prog 22 (.slice 140):=⟨zgf⟩
instance un331:UnI Tryz.prog 331 (.slice 289):=⟨zgg⟩
theorem mixed:Tryz.prog.follows .mixedOrders=true:=by kernel_rfl
theorem jh7 {a:List Nat} {k:Nat} (hk:k<=a.length) (h0:0 < k) (hz:(a.take k).getD (k - 1) 0=0):trimL (a.take (k - 1))=trimL (a.take k):=by
 have h1:=xf7 a (k - 1) (by omega);rw [show k - 1+1=k from by omega] at h1;have h2:(a.take k).getD (k - 1) 0=a.getD (k - 1) 0:=by
  rw [zbh,List.getElem?_take,if_pos (by omega),<-zbh]
 rw [h1,<-h2,hz,xu0]
theorem je7 {a:List Nat} {k:Nat} (hk:k<=a.length) (h0:0 < k) (hz: ¬(a.take k).getD (k - 1) 0=0):trimL (a.take k)=a.take k:=by
 refine ye0 fun x hx=> ?_;have h1:=xf7 a (k - 1) (by omega);rw [show k - 1+1=k from by omega] at h1;have h2:(a.take k).getD (k - 1) 0=a.getD (k - 1) 0:=by
  rw [zbh,List.getElem?_take,if_pos (by omega),<-zbh]
 rw [h1,List.getLast?_append] at hx;simp at hx;rw [<-hx];rw [h2] at hz;simpa [List.getD_eq_getElem?_getD] using hz
theorem je2 (a:List Nat):
  Ct Tryz.prog 270 [tWs a] (tWs (trimL a)):=by
 refine Ct.intro func270 rfl ntmps270 rfl ?_;intro w F;refine xg9 (s:=0) rfl (fun hl0=> ?_);refine A7 ?_;refine cL (fun (k:Nat)=>k<=a.length/\trimL (a.take k)=trimL a) (fun (k:Nat)=>uV uN 0 (tWs (a.take k))) (fun (k:Nat)=>fun _=>none) [] (fun (k:Nat)=>k) (a.length) ⟨zbq _,by rw [zcf]⟩ (hg:=(Sub.le rfl (Le.of (by rw [zcf])) zay)) ?_;intro k hI;obtain ⟨hk,hc⟩:=hI;have hkl:(a.take k).length=k:=by rw [zcu];omega
 refine A7 ?_;refine RGcaseD (t:=6) rfl (fun h53=> ?_) (fun h53=> ?_)
 ·
  refine A3 ?_;refine Rg (zbf h53) rfl (xh2 zah) rfl qB (Rg (zbf h53) rfl (x5 sl331 (k - 1) (by omega) (gN (by omega))) rfl qB ?_);refine A5 ?_;refine x9 rfl (fun h53_2=> ?_) (fun h53_2=> ?_)
  ·
   refine A8 ?_;refine R2 (y3 sl331 (k - 1) (by omega) (by omega) (by rw [List.take_take,zfn (by omega)])) rfl rfl ?_;refine A3 ?_;exact kF (k - 1) ⟨⟨by omega,by rw [jh7 hk (by omega) (by omega)];exact hc⟩,(by omega)⟩
  ·
   refine A12 ?_;exact E1 rfl rfl (Le.of (by rw [<-hc,je7 hk (by omega) (by omega)]))
 ·
  refine A18 ?_;refine A5 ?_;exact E1 rfl rfl (Le.of (by rw [<-hc,show k=0 from by omega,zej];rfl))
theorem zn3 (xs:List Nat) (hx:xs.length<=1000000):
  CtG Tryz.prog 87 [] [.val (tLm xs)] (.own (.sl 2 1 0 xs.length)) [(2,⟨140,1,false,rW .u16 xs⟩)] [2]:=by
 refine CtG.intro [] func87 rfl ntmps87 rfl rfl trivial ?_;intro w F η;refine A9 ?_;refine R1 (qo4 zgf) rfl ?_;refine A2 ?_;refine qw8 (s:=4) rfl (fun b357 hb357=> ?_);refine xc7 rfl (fun h357=> ?_) (fun h357=> ?_)
 ·
  subst h357;have hnil:=hb357 rfl;subst hnil;refine A2 ?_;refine RE (xg1 (k:=2) 140 1 false rfl (fun _=>rfl)) trivial trivial qA ?_;refine A4 ?_;exact xg0 LentC.mk' rfl rfl Imp.refl qA rfl ⟨⟨rfl,xn3⟩,trivial⟩ rfl
 ·
  refine A4 ?_;refine RE (xj0 (k:=5) (ents:=[]) zgf el140 zf140 rfl (by simp) rfl rfl rfl) trivial trivial qA ?_;refine A1 ?_;refine RE (xb3 (k:=5) (k':=2) (ts':=rW .u16 xs) zgf el140 zf140 rfl rfl (fun _=>inferInstance) rfl (by simp;omega) (by simp;omega) (by simp [rW]) (n':=xs.length) (by simp)) ⟨rfl,rfl,trivial⟩ ⟨rfl,trivial⟩ ⟨rfl,trivial⟩ ?_;refine A4 ?_;exact xg0 LentC.mk' rfl rfl Imp.refl qA rfl ⟨⟨rfl,xn3⟩,trivial⟩ rfl
theorem c_pack (l:List Nat) (hl:Dig 65536 l) (hn:l.length<=1000000):
  Ct Tryz.prog 257 [tLm l] (tWs (dgs 4294967296 ((l.length+1) / 2) (val 65536 l))):=by
 refine Ct.intro func257 rfl ntmps257 rfl ?_;intro w F;refine A10 ?_;refine R2 (za9 (by omega) (by omega) zah) rfl rfl (RE (xi0 (k:=10) (t:=tE (.int .u32 0)) (ts:=rW .u32 (dgs 4294967296 ((l.length+1) / 2) 0)) ((l.length+1) / 2) ((l.length+1) / 2) zgg el289 (fun _ _=>rfl) rfl (by omega) (by omega) (zbq _) (by omega) (by omega) (by rw [jc5];exact z8 _)) qB trivial qA ?_);refine A12 ?_;refine cL (fun (i:Nat)=>i<=l.length) (fun (i:Nat)=>uV (uV (uV (uO uN 3 (.sl 10 1 0 ((l.length+1) / 2))) 11 (tLm l)) 12 (tI l.length)) 13 (tI i)) (fun (i:Nat)=>uK uN 10 289 1 false (rW .u32 (dgs 4294967296 ((l.length+1) / 2) (val 65536 (l.take i))))) [10] (fun (i:Nat)=>l.length - i) (0) (zbt _) (hh:=(zaq rfl (ImpK.ofTs (by simp [val])) zax)) ?_;intro i hI;refine A6 ?_;refine x9 rfl (fun h28=> ?_) (fun h28=> ?_)
 ·
  have hx:=hl.getD (by omega) i;have hw:(dgs 4294967296 ((l.length+1) / 2) (val 65536 (l.take i))).getD (i / 2) 0 < 65536 ^ (i%2):=by rw [yv2 (by omega)];exact zn4 hl i (by omega)
  refine A7 ?_;refine R2 (x5 sl22 (i) (by omega) (gN (by omega))) rfl rfl ?_;refine A8 ?_;refine R2 (za9 (by omega) (by omega) zah) rfl rfl (R2 (zag sl331 rfl) rfl rfl (RE (xa5 (i / 2) ti289 (zv0 (by rw [xn2];omega)) (by omega)) qA qA trivial ?_));refine A1 ?_;refine R1 (xa8 zgh (isS zgi) (by first | exact wu32 (by omega) (by omega) | exact mu32)) rfl ?_;refine A1 ?_;refine R2 (xj4 (by omega) (by omega)) rfl rfl (R2 (xj8 zah) rfl rfl (R2 (d_shl (by omega) (shl16 hx)) rfl rfl (R2 (d_or (wf8 hw hx)) rfl rfl (R2 (zag sl331 rfl) rfl rfl (RE (xc1 (i / 2) ti289 (yr8 (by rw [xn2];omega)) (by omega) (yg9 (m:=_) rfl)) qB qA trivial ?_)))));refine A7 ?_;exact kF (i+1) ⟨(by omega),(by omega)⟩ (hh:=(zaq rfl (ImpK.ofTs (by rw [jc2 hl (by omega) (by omega)])) zax))
 ·
  refine A7 ?_;refine RE (xi6 (fun _ h=>h) (y6 (xn2 _ _ _)) (xn2 _ _ _)) qA qA trivial ?_;refine A4 ?_;exact E1 rfl rfl (Le.of (by rw [show i=l.length by omega,zcf]))
theorem shr32 {m:Nat}:((m:Nat):Int).fdiv (2 ^ (min (32:Int).toNat IntKind.u64.bits))=((m / 4294967296:Nat):Int):=by
 have e:(2:Int) ^ (min (32:Int).toNat IntKind.u64.bits)=((4294967296:Nat):Int):=by decide
 rw [e,Int.fdiv_eq_ediv_of_nonneg _ (by omega)];rfl
theorem shl32 {m:Nat} (h:m < 4294967296):IntKind.u64.wrap ((m:Int)*2 ^ (min (32:Int).toNat IntKind.u64.bits))=((m*2 ^ 32:Nat):Int):=by
 have e:(2:Int) ^ (min (32:Int).toNat IntKind.u64.bits)=4294967296:=by decide
 rw [e,wu64 (by omega) (by omega)];omega
theorem or32 {m n:Nat} (hm:m < 4294967296) (hn:n < 4294967296):bits .or .u64 ((m*2 ^ 32:Nat):Int) (n:Int)=((n+m*2 ^ 32:Nat):Int):=
 wj2 n m 32 rfl rfl (by omega) (wu64 (by omega) (by omega)) (by have:IntKind.u64.bits=64:=rfl;rw [this];omega)
theorem shrN {m s:Nat} {k:IntKind} {i:Int} (hi:i=(s:Int)) (hs:s<=k.bits):((m:Nat):Int).fdiv (2 ^ (min i.toNat k.bits))=((m / 2 ^ s:Nat):Int):=by
 subst hi;rw [Int.toNat_natCast,zfn hs,Int.fdiv_eq_ediv_of_nonneg _ (by exact_mod_cast zbt _)];simp
theorem ym6 {a b k:Nat} (h0:0 < k) (h:a / 4294967296 ^ k=b / 4294967296 ^ k):a / 4294967296 ^ (k - 1+1)=b / 4294967296 ^ (k - 1+1):=by
 rw [show k - 1+1=k by omega];exact h
theorem jd7 (a b:Nat):
  Ct Tryz.prog 271 [tN a,tN b] (tI (cmpN a b)):=by
 refine Ct.intro func271 rfl ntmps271 rfl ?_;intro w F;refine xg9 (s:=0) rfl (fun hl0=> ?_);refine xg9 (s:=1) rfl (fun hl1=> ?_);have ha:=xq8 xd7 a;have hb:=xq8 xd7 b;refine A15 ?_;refine x9 rfl (fun h75=> ?_) (fun h75=> ?_)
 ·
  refine A10 ?_;refine x9 rfl (fun h76=> ?_) (fun h76=> ?_)
  ·
   refine A8 ?_;exact E1 rfl rfl (zba (qo1 (qb8 xd7 (by omega))).symm)
  ·
   refine A9 ?_;exact E1 rfl rfl (zba (qo3 (qb8 xd7 (by omega))).symm)
 ·
  refine A12 ?_;have hlen:(dig 4294967296 a).length=(dig 4294967296 b).length:=by omega
  rw [<-hlen] at hb;refine cL (fun (k:Nat)=>k<=(dig 4294967296 a).length/\a / 4294967296 ^ k=b / 4294967296 ^ k) (fun (k:Nat)=>uV (uV (uV uN 0 (tN a)) 1 (tN b)) 5 (tI ((k:Int) - 1))) (fun (k:Nat)=>fun _=>none) [] (fun (k:Nat)=>k) ((dig 4294967296 a).length) ⟨zbq _,by rw [zdv ha,zdv hb]⟩ ?_;intro k hI;obtain ⟨hk,hc⟩:=hI;refine A7 ?_;refine x9 rfl (fun h81=> ?_) (fun h81=> ?_)
  ·
   refine A8 ?_;refine R2 (x5 sl331 (k - 1) (by omega) (gN (by omega))) rfl rfl ?_;refine A3 ?_;refine R2 (x5 sl331 (k - 1) (by omega) (gN (by omega))) rfl rfl ?_;refine A4 ?_;refine x9 rfl (fun h82=> ?_) (fun h82=> ?_)
   ·
    refine A5 ?_;refine R2 (x5 sl331 (k - 1) (by omega) (gN (by omega))) rfl rfl ?_;refine A3 ?_;refine R2 (x5 sl331 (k - 1) (by omega) (gN (by omega))) rfl rfl ?_;refine A4 ?_;refine x9 rfl (fun h83=> ?_) (fun h83=> ?_)
    ·
     refine A12 ?_;exact E1 rfl rfl (zba (qo1 (zs8 (by decide) (ym6 (by omega) hc) (by rw [<-xf8 xd7,<-xf8 xd7];omega))).symm)
    ·
     refine A13 ?_;exact E1 rfl rfl (zba (qo3 (zs8 (by decide) (ym6 (by omega) hc).symm (by rw [<-xf8 xd7,<-xf8 xd7];omega))).symm)
   ·
    refine A8 ?_;exact kF (k - 1) ⟨⟨by omega,zu0 (by decide) (ym6 (by omega) hc) (by rw [<-xf8 xd7,<-xf8 xd7];omega)⟩,(by omega)⟩
  ·
   refine A11 ?_;exact E1 rfl rfl (zba (wg8 (by have:=hc;rw [show k=0 by omega] at this;simpa using this)).symm)
end An.S
namespace An
open Go
theorem cut32 {m:Nat}:IntKind.u32.wrap (m:Int)=((m%4294967296:Nat):Int):=by rw [mu32];omega
end An
namespace An.S
open Go Go.Proofs An Tryz
instance fi270:FnI Tryz.prog 270:=⟨_,func270,by kernel_rfl,rfl⟩
end An.S
namespace An
end An
namespace An
open Go
theorem wrem64 {a b:Nat}:(a:Int).tmod (b:Int)=((a%b:Nat):Int):=by
 rw [Int.tmod_eq_emod_of_nonneg (by omega)];exact (Int.natCast_emod a b).symm
structure Two (m:Nat) (u v:List Nat):Prop where
  lu:u.length=m+3
  lv:v.length=m+2
  Du:Dig W u
  Dv:Dig W v
  top:2147483648<=v.getD (m+1) 0
  lt:val W u < val W v*W
namespace Two
variable {m:Nat} {u v:List Nat} (t:Two m u v)
include t
end Two
end An
namespace An.S
open Go Go.Proofs An Tryz
end An.S
namespace An
open Go
theorem ja2 (B x y v:Nat):dgs B (x+y) v=dgs B x v++dgs B y (v / B ^ x):=by
 induction y with
 | zero=>rw [zeh,ju3,zdz]
 | succ y ih=>rw [<-zgd,xu8,xu8,ih,zdg,zey,<-Nat.pow_add]
theorem jr0 {B n k v:Nat} (h:k<=n):(dgs B n v).take k=dgs B k v:=by
 obtain ⟨d,rfl⟩: ∃d,n=k+d:=⟨n - k,by omega⟩
 rw [ja2,List.take_left' (xn2 _ _ _)]
end An
namespace An.S
open Go Go.Proofs An Tryz
instance fi271:FnI Tryz.prog 271:=⟨_,func271,by kernel_rfl,rfl⟩
theorem qb0 {a b:Nat}:cmpN a b < 0↔a < b:=by
 simp only [cmpN];constructor
 ·intro h;split at h
  ·assumption
  ·split at h <;> simp at h
 ·intro h;rw [if_pos h];decide
end An.S
namespace An
open Go
end An
namespace An.S
open Go Go.Proofs An Tryz
instance ti144:TyI Tryz.prog 144 1 false:=⟨by kernel_rfl,by kernel_rfl⟩
instance ti331:TyI Tryz.prog 331 1 false:=⟨by kernel_rfl,by kernel_rfl⟩
instance fi287:FnI Tryz.prog 287:=⟨_,func287,by kernel_rfl,rfl⟩
instance fi291:FnI Tryz.prog 291:=⟨_,func291,by kernel_rfl,rfl⟩
theorem zr144:(Tryz.prog.info? 144).bind (·.zero)=some (.int .u64 0)/\ ∀F w,(tE (.int .u64 0)).p F w (.int .u64 0):=⟨by kernel_rfl,fun _ _=>rfl⟩
theorem js6 (xs:List Nat):
  CtG Tryz.prog 287 [] [.val (tL 1 false (fun n:Nat=>tE (.int .u32 n)) xs)] (.own (.fn 291 [.ptr 1 0])) [(1,⟨331,1,false,[.val (tL 1 false (fun n:Nat=>tE (.int .u32 n)) xs)]⟩)] [1]:=by
 refine CtG.intro [] func287 rfl ntmps287 rfl rfl trivial ?_;intro w F η;refine A8 ?_;refine R1 (xt6 (ps:=[.ptr 1 0]) rfl) rfl ?_;refine A4 ?_;exact xg0 LentC.mk' rfl rfl Imp.refl qA rfl ⟨⟨rfl,(SupX.lit rfl)⟩,trivial⟩ rfl
theorem js8 (xs:List Nat) (hx:xs.length<=1000000):
  ItC Tryz.prog 291 [(1,⟨331,1,false,[.val (tL 1 false (fun n:Nat=>tE (.int .u32 n)) xs)]⟩)] [.ptr 1 0] (xs.length) (fun k=>[tE (.int .u32 ((xs.getD (xs.length - 1 - k) 0:Nat):Int))]):=by
 refine ItC.intro (K:=99) [1] func291 rfl ntmps291 rfl rfl ⟨⟨rfl,(SupX.lit rfl)⟩,trivial⟩ rfl ?_;intro w F η l V J Jc hB;refine A9 ?_;refine cL (fun (k:Nat)=>k<=xs.length) (fun (k:Nat)=>uV (uO (uV uN 0 (tE (.func (.yield l) #[] #[]))) 1 (.ptr 1 0)) 3 (tI ((xs.length:Int) - 1 - k))) (fun (k:Nat)=>uK (uK uN 1 331 1 false [.val (tL 1 false (fun n:Nat=>tE (.int .u32 n)) xs)]) 99 (2*k) 1 false []) [1,99] (fun (k:Nat)=>xs.length - k) (0) (zbt _) ?_;intro k hI;refine A7 ?_;refine x9 rfl (fun h17=> ?_) (fun h17=> ?_)
 ·
  refine A5 ?_;refine xi3 ?_;refine xa9 xa3 qA trivial trivial rfl (xa9 (xa5 (0) ti331 rfl rfl) qA qA trivial rfl (xa9 xa3 qA trivial trivial rfl (xa9 (x5 sl331 (xs.length - 1 - k) (by omega) (gN (by omega))) qB trivial trivial rfl (xa9 (xf2 ti289) qA trivial trivial rfl ?_))));refine yu7 (ts:=[tE (.int .u32 ((xs.getD (xs.length - 1 - k) 0:Nat):Int))]) hB (xk4 rfl) rfl rfl qA rfl rfl (by omega) ⟨zao,trivial⟩ ?_ ?_
  ·
   refine xa9 xj9 qA trivial trivial rfl (xg3 ?_);refine A10 ?_;exact kF (k+1) ⟨(by omega),(by omega)⟩
  ·
   refine xa9 xj9 qA trivial trivial rfl (xg3 ?_);refine A7 ?_;exact E_it hB rfl trivial rfl (.inl rfl) rfl (.inr ⟨k,by omega,rfl⟩)
 ·
  refine A4 ?_;exact E_it hB rfl trivial rfl (.inr rfl) rfl (.inl (by omega))
theorem je9 (xs:List Nat) (hx:xs.length<=2) (hD:Dig 4294967296 xs):
  Ct Tryz.prog 275 [tWs xs] (tE (.int .u64 ((val 4294967296 xs:Nat):Int))):=by
 refine Ct.intro func275 rfl ntmps275 rfl ?_;intro w F;refine A7 ?_;refine RE (xb8 (k:=3) (n:=1) (agg:=false) zr144.1 zr144.2 rfl) trivial trivial qA ?_;refine A7 ?_;refine RE (xb7 (fun _=>6) (js6 _) fi287 rfl (krN (ρ:=fun _=>6)) (krC (ρ:=fun _=>6) (k:=1) rfl (krN (ρ:=fun _=>6))) ⟨⟨rfl,(SupX.lit rfl)⟩,trivial⟩ rfl) qA trivial qA ?_;refine A3 ?_;refine ys2 (caps:=[.ptr 1 0]) (κ:=Empty) (zab 1 6) rfl (fun _ h=>h) trivial (js8 xs (by omega)) fi291 rfl qA rfl rfl (fun _ _=>rfl) (uO uN 3 (.ptr 3 0)) [3] [3] (zan rfl zay) (zak rfl zar) rfl (lkOk rfl) (fun (k:Nat) (_:Unit)=>True) (fun (k:Nat) (_:Unit)=>uK uN 3 144 1 false [.val (tE (.int .u64 ((val 4294967296 (xs.drop (xs.length - k)):Nat):Int)))]) (fun k x=>(zam rfl (supJL rfl) zaz)) (fun k x y hy=>by simp at hy;subst hy;rfl) (fun _ _=>False) (fun i=>i.elim) (fun _ _ h=>h.elim) (()) trivial ((zaq rfl (ImpK.one (Imp.int (by rw [Nat.sub_zero,List.drop_length];rfl)))) zax) ?_ ?_ ?_
 ·
  intro D lp o1 o2 O W lη lb V0 k x hk hI;have hv:=yn9 (hD.drop (xs.length - k));rw [List.length_drop,show xs.length - (xs.length - k)=k by omega] at hv;have hk1:4294967296 ^ k<=4294967296 ^ 1:=Nat.pow_le_pow_right (by decide) (by omega);rw [Nat.pow_one] at hk1;have hw:=hD.getD (by decide) (xs.length - 1 - k);have hst:=ya1 4294967296 xs (xs.length - 1 - k) (by omega);rw [show xs.length - 1 - k+1=xs.length - k by omega,zem] at hst;apply zd2
  ·
   refine A3 ?_;exact yp9 fun _ _ h=>h
  ·
   refine A3 ?_;refine R2 (d_shl (by decide) (shl32 (by omega))) rfl rfl ?_;refine A1 ?_;refine R1 (xa8 zgj (isS zgh) (by first | exact wu64 (by omega) (by omega) | exact mu64)) rfl (R2 (d_or (or32 (by omega) (by omega))) rfl rfl ?_);refine A3 ?_;exact xz0 (()) trivial ((zaq rfl (ImpK.one (Imp.int (by rw [show xs.length - (k+1)=xs.length - 1 - k by omega,hst])))) zax) (zam rfl (supJL rfl) zaz) (lkOk rfl)
 ·
  intro D hD x hI;refine A9 ?_;exact zr7 (Plain.loop Plain.mk' hD) rfl rfl (zba (by rw [Nat.sub_self];rfl))
 ·
  intro D hD e i;exact i.elim
theorem wb2 (x:Nat) (hx:x < 18446744073709551616):
  Ct Tryz.prog 276 [tE (.int .u64 (x:Int))] (tN x):=by
 refine Ct.intro func276 rfl ntmps276 rfl ?_;intro w F;refine A8 ?_;refine R1 (xa8 zgh (isS zgj) cut32) rfl ?_;refine A1 ?_;refine R2 (ya2 (by decide) shr32) rfl rfl (R1 (xa8 zgh (isS zgj) (wu32 (by omega) (by omega))) rfl (R2 (xu5 (n:=2) [x%4294967296,x / 4294967296] zgg el289 zf289 rfl rfl rfl) rfl rfl (Rt (x4 (je2 _) fi270 rfl) qA ?_)));refine A4 ?_;exact E1 rfl rfl (Le.of (by rw [xo2 xd7 (Dig.cons (zfb _ (by decide)) (Dig.cons (by omega) (Dig.nil _))),xk6,xk6,yr7,Nat.mul_zero,zeh,Nat.mod_add_div]))
end An.S
namespace An
def sg (e:Bool):Int:=if e then -1 else 1
end An
namespace An.S
open Go Go.Proofs An Tryz
instance ti4:TyI Tryz.prog 4 1 false:=⟨by kernel_rfl,by kernel_rfl⟩
instance fi275:FnI Tryz.prog 275:=⟨_,func275,by kernel_rfl,rfl⟩
instance fi276:FnI Tryz.prog 276:=⟨_,func276,by kernel_rfl,rfl⟩
end An.S
namespace An
open Go
structure Wh where
  neg:Bool
  l:List Nat
deriving DecidableEq
abbrev tWh (x:Wh):Ty:=tS [⟨1,false,tB x.neg⟩,⟨1,false,tLm x.l⟩]
def wh (z:Int):Wh:=⟨decide (z < 0),dig 65536 z.natAbs⟩
def len16 (z:Int):Nat:=(dig 65536 z.natAbs).length
def Wh.valid (x:Wh):Bool:=if x.l.length=0 then !x.neg else decide (x.l.length<=1024) && decide (x.l.getD (x.l.length - 1) 0≠0)
theorem xa4:2<=65536:=by decide
theorem zb6 {l:List Nat} (hD:Dig 65536 l) (ht:Top l) (h:val 65536 l=0):l=[]:=by
 have:=yh2 xa4 hD ht;rw [h,xf3] at this;exact this.symm
theorem Wh.of_valid {x:Wh} (hD:Dig 65536 x.l) (h:x.valid=true): ∃z:Int,x=wh z/\len16 z<=1024:=by
 obtain ⟨neg,l⟩:=x;simp only [Wh.valid] at h;split at h
 ·rename_i h0;have hl:l=[]:=zde.1 h0;subst hl;refine ⟨0,?_,by simp [len16,xf3]⟩;have:neg=false:=by simpa using h
  subst this;simp [wh,xf3]
 ·rename_i h0;simp only [zbv,zbw] at h;have ht:Top l:=by
   intro x hx;have h1:l.getD (l.length - 1) 0=x:=by
    rw [zbh,<-List.getLast?_eq_getElem?,hx];rfl
   rw [<-h1];exact h.2
  have hu:=yh2 xa4 hD ht;have hv:val 65536 l≠0:=fun h'=>h0 (by have hl0:l=[]:=zb6 hD ht h';rw [hl0];rfl);refine ⟨if neg then -(val 65536 l:Int) else (val 65536 l:Int),?_,?_⟩
  ·cases neg with
   | true=>
    simp only [wh,↓reduceIte,Int.natAbs_neg,Int.natAbs_natCast];rw [hu];congr 1;simp;omega
   | false=>
    simp only [wh,zfm,↓reduceIte,Int.natAbs_natCast];rw [hu];simp
  ·have e:(if neg then -(val 65536 l:Int) else (val 65536 l:Int)).natAbs=val 65536 l:=by cases neg <;> simp
   rw [len16,e,hu];exact h.1
theorem yj3 {z:Int} (h:len16 z<=1024):(wh z).valid=true:=by
 unfold Wh.valid;by_cases h0:(wh z).l.length=0
 ·rw [if_pos h0];have:z.natAbs=0:=(xm9 xa4).1 (zde.1 h0);show (!decide (z < 0))=true;simp;omega
 ·rw [if_neg h0];have h1:(wh z).l.length<=1024:=h;simp only [zbv,zbw];refine ⟨h1,?_⟩;have ht:Top (wh z).l:=qj6 xa4 z.natAbs;refine ht _ ?_;rw [List.getLast?_eq_getElem?,zbh];rw [zbi (by omega)];rfl
def sgn (p:Bool) (v:Nat):Int:=if p then -(v:Int) else v
theorem qs3 (p:Bool) (v:Nat):(sgn p v).natAbs=v:=by cases p <;> simp [sgn]
theorem zz8 (p:Bool) (v:Nat):wh (sgn p v)=⟨p && decide (v≠0),dig 65536 v⟩:=by
 simp only [wh,qs3]
 congr 1
 cases p
 ·simp [sgn]
 ·simp only [sgn,↓reduceIte,zdq];by_cases h:v=0 <;> simp [h];omega
theorem zu9 (z:Int):sgn (wh z).neg z.natAbs=z:=by
 simp only [sgn,wh];by_cases h:z < 0 <;> simp [h] <;> omega
theorem wh_inj {x y:Int} (h:wh x=wh y):x=y:=by
 have h1:dig 65536 x.natAbs=dig 65536 y.natAbs:=congrArg Wh.l h;have h2:(wh x).neg=(wh y).neg:=congrArg Wh.neg h;have h3:x.natAbs=y.natAbs:=by rw [<-xn5 xa4 x.natAbs,h1,xn5 xa4]
 rw [<-zu9 x,<-zu9 y,h2,h3]
theorem pow2k (k:Nat):4294967296 ^ k=65536 ^ (2*k):=by rw [Nat.pow_mul]
theorem len32 (v:Nat):(dig 4294967296 v).length=((dig 65536 v).length+1) / 2:=by
 have h: ∀k,(dig 4294967296 v).length<=k↔(dig 65536 v).length<=2*k:=fun k=>by
  rw [xe1 xd7,xe1 xa4,pow2k]
 have h1:=(h (dig 4294967296 v).length).1 (zbq _);have h2:=(h (((dig 65536 v).length+1) / 2)).2 (by omega);omega
theorem jr8 (v:Nat):dgs 4294967296 (((dig 65536 v).length+1) / 2) (val 65536 (dig 65536 v))=dig 4294967296 v:=by
 rw [xn5 xa4,<-len32,xu4 xd7]
theorem jg1 {v i n:Nat} {ls:List Nat} (hi:i < n) (hl:ls.length=2*n) (ht:ls.take (2*i)=dgs 65536 (2*i) v):
  ((ls.set (2*i) (v / 4294967296 ^ i%4294967296%65536)).set (2*i+1) (v / 4294967296 ^ i%4294967296 / 2 ^ 16)).length=2*n/\
   ((ls.set (2*i) (v / 4294967296 ^ i%4294967296%65536)).set (2*i+1) (v / 4294967296 ^ i%4294967296 / 2 ^ 16)).take (2*(i+1))=dgs 65536 (2*(i+1)) v:=by
 refine ⟨by simpa using hl,?_⟩;rw [show 2*(i+1)=2*i+1+1 by omega,yk3 (by simpa using (by omega:2*i+1 < ls.length)),yk3 (by omega),ht,xu8,xu8,pow2k]
 congr 1
 ·congr 2
  exact Nat.mod_mod_of_dvd _ (by decide)
 ·congr 1
  show v / 65536 ^ (2*i)%4294967296 / 65536=_;rw [zex 65536 (2*i),<-zey];have: ∀x:Nat,x%4294967296 / 65536=x / 65536%65536:=fun x=>by omega
  exact this _
theorem qt1 {v n:Nat} {ls:List Nat} (hn:(dig 4294967296 v).length=n) (hv:0 < v) (hl:ls.length=2*n) (ht:ls.take (2*n)=dgs 65536 (2*n) v):
  (ls.getD (2*n - 1) 0=0->ls.take (2*n - 1)=dig 65536 v)/\(ls.getD (2*n - 1) 0≠0->ls=dig 65536 v)/\1<=n:=by
 have h32:=len32 v;rw [hn] at h32;have h16:=wc8 xa4 hv;rw [<-hl,zcf,hl] at ht;subst ht;have hg:(dgs 65536 (2*n) v).getD (2*n - 1) 0=v / 65536 ^ (2*n - 1)%65536:=yv2 (by omega);refine ⟨fun h=> ?_,fun h=> ?_,by omega⟩
 ·rw [hg] at h;rw [jr0 (by omega)];have h1:v < 65536 ^ (2*n - 1):=by
   have h2:=(xe1 xa4 v (2*n)).1 (by omega);have e:65536 ^ (2*n)=65536 ^ (2*n - 1)*65536:=by rw [<-zex];congr 1;omega
   rw [e] at h2;have h3:v / 65536 ^ (2*n - 1) < 65536:=zgc h2;rw [zep h3] at h;exact (Nat.div_eq_zero_iff_lt (zfs (by decide))).1 h
  have h4:=(xe1 xa4 v (2*n - 1)).2 h1;have h5:(dig 65536 v).length=2*n - 1:=by omega
  rw [<-h5,xu4 xa4]
 ·rw [hg] at h;have h4: ¬(dig 65536 v).length<=2*n - 1:=fun h'=>h (by rw [zdv ((xe1 xa4 v _).1 h')]);have h5:(dig 65536 v).length=2*n:=by omega
  rw [<-h5,xu4 xa4]
theorem cut16 {m:Nat}:IntKind.u16.wrap (m:Int)=((m%65536:Nat):Int):=by rw [mu16];omega
end An
namespace An
theorem jz9 {m n k:Nat} (hm:(dig 4294967296 m).length<=k) (hn:(dig 4294967296 n).length<=k):(dig 4294967296 (Nat.gcd m n)).length<=k:=by
 rcases zco m with h | h
 ·subst h;rw [Nat.gcd_zero_left];exact hn
 ·exact zdc (xm3 xd7 (Nat.gcd_le_left n h)) hm
end An
namespace An.S
open Go Go.Proofs An Tryz
instance ti22:TyI Tryz.prog 22 1 false:=⟨by kernel_rfl,by kernel_rfl⟩
instance ti24:TyI Tryz.prog 24 2 true:=⟨by kernel_rfl,by kernel_rfl⟩
instance sl197:SlI Tryz.prog 197 24 2 true:=⟨zgk,ti24⟩
instance fo24_0:FoI Tryz.prog 24 0 0:=⟨by kernel_rfl⟩
instance fo24_1:FoI Tryz.prog 24 1 1:=⟨by kernel_rfl⟩
instance fi183:FnI Tryz.prog 183:=⟨_,func183,by kernel_rfl,rfl⟩
instance fi254:FnI Tryz.prog 254:=⟨_,func254,by kernel_rfl,rfl⟩
instance fi255:FnI Tryz.prog 255:=⟨_,func255,by kernel_rfl,rfl⟩
instance fi256:FnI Tryz.prog 256:=⟨_,func256,by kernel_rfl,rfl⟩
instance fi257:FnI Tryz.prog 257:=⟨_,func257,by kernel_rfl,rfl⟩
theorem el24:ElI Tryz.prog 24 2 32 true (.agg #[.bool false,.slice none 0 0]):=⟨ti24,by kernel_rfl,by kernel_rfl⟩
theorem zr24:(Tryz.prog.info? 24).bind (·.zero)=some (.agg #[.bool false,.slice none 0 0])/\ ∀F w,zac.p F w (.agg #[.bool false,.slice none 0 0]):=⟨by kernel_rfl,fun _ _=>⟨_,rfl,rfl,⟨fun _=>rfl,rfl⟩,⟨fun _=>rfl,⟨none,0,rfl,zbq _,by decide,.inl rfl⟩⟩,trivial⟩⟩
theorem bu24:BuI Tryz.prog 24 (fun i=>[(0,1),(1,1)][i]?) (.agg #[.bool false,.slice none 0 0]):=BuI.struct underlying24 (by kernel_rfl) (by kernel_rfl)
theorem zf24:Flat 2 true (.agg #[.bool false,.slice none 0 0]):=xv1 (by intro u hu;simp at hu;rcases hu with rfl | rfl <;> rfl)
instance un197:UnI Tryz.prog 197 (.slice 24):=⟨zgk⟩
theorem zp5 {α:Type} {p:α->Bool} {l:List α} {i:Nat} {d:α} (hi:i < l.length):(l.take (i+1)).all p=((l.take i).all p && p (l.getD i d)):=by
 rw [zca hi,List.all_append];simp [hi]
theorem ju5 {α:Type} {p:α->Bool} {l:List α} {i:Nat} {d:α} (hi:i < l.length) (h:p (l.getD i d)=false):l.all p=false:=by
 rw [List.all_eq_false];refine ⟨l[i],zfa hi,?_⟩;rw [zbh,zbi hi] at h;simpa using h
theorem yw4 (x:Wh):
  Ct Tryz.prog 183 [tWh x] (tB x.valid):=by
 refine Ct.intro func183 rfl ntmps183 rfl ?_;intro w F;refine A16 ?_;refine xg9 (s:=5) rfl (fun hl5=> ?_);refine A5 ?_;refine x9 rfl (fun h24=> ?_) (fun h24=> ?_)
 ·
  refine A10 ?_;exact E1 rfl rfl (zau (by simp only [Wh.valid];rw [if_pos (by omega)]))
 ·
  refine A7 ?_;refine RGcaseD (t:=14) rfl (fun h27=> ?_) (fun h27=> ?_)
  ·
   refine A3 ?_;refine Rg (zbf h27) rfl (xh2 zah) rfl qB (Rg (zbf h27) rfl (x5 sl22 (x.l.length - 1) (by omega) (gN (by omega))) rfl qB ?_);refine A7 ?_;exact E1 rfl rfl (zau (by simp only [Wh.valid];rw [if_neg (by omega),zbf (show x.l.length<=1024 by omega),zdq];exact zeq.2 (by omega)))
  ·
   refine A12 ?_;exact E1 rfl rfl (zau (by simp only [Wh.valid];rw [if_neg (by omega),zbg (show ¬x.l.length<=1024 by omega),zfj]))
theorem qf9 (ws:List Wh):
  Ct Tryz.prog 254 [tL 2 true tWh ws] (tB (ws.all Wh.valid)):=by
 refine Ct.intro func254 rfl ntmps254 rfl ?_;intro w F;refine xg9 (s:=0) rfl (fun hl0=> ?_);refine A14 ?_;refine cL (fun (i:Nat)=>i<=ws.length/\(ws.take i).all Wh.valid=true) (fun (i:Nat)=>uV (uV (uV uN 5 (tL 2 true tWh ws)) 6 (tI ws.length)) 7 (tI i)) (fun (i:Nat)=>fun _=>none) [] (fun (i:Nat)=>ws.length - i) (0) ⟨zbt _,rfl⟩ ?_;intro i hI;obtain ⟨hi,ha⟩:=hI;refine A6 ?_;refine x9 rfl (fun h32=> ?_) (fun h32=> ?_)
 ·
  refine A6 ?_;refine R2 (x5 sl197 i (by omega) (zai (l:=ws) (n:=i) (d:=⟨false,[]⟩))) rfl rfl ?_;refine A1 ?_;refine RE (xb8 (k:=4) (n:=2) (agg:=true) zr24.1 zr24.2 rfl) trivial trivial qA ?_;refine A6 ?_;refine R1 (x4 (yw4 _) fi183 rfl) rfl ?_;refine A3 ?_;refine xc7 rfl (fun h33=> ?_) (fun h33=> ?_)
  ·
   refine A11 ?_;exact E1 rfl rfl (zau (ju5 (l:=ws) (i:=i) (d:=⟨false,[]⟩) (by omega) (by simpa using h33)).symm)
  ·
   refine A7 ?_;exact kF (i+1) ⟨⟨by omega,by rw [zp5 (l:=ws) (i:=i) (d:=⟨false,[]⟩) (by omega),ha];simpa using h33⟩,(by omega)⟩
 ·
  refine A11 ?_;exact E1 rfl rfl (zau (by rw [<-ha,show i=ws.length by omega,zcf]))
theorem qd3 (x y:Int) (hx:len16 x<=1024) (hy:len16 y<=1024):Ct Tryz.prog 254 [tL 2 true tWh [wh x,wh y]] (tB true):=by
 have:=qf9 [wh x,wh y];simp only [List.all_cons,List.all_nil,yj3 hx,yj3 hy,Bool.and_true] at this;exact this
theorem qr0 (v:Nat) (h:(dig 65536 v).length<=1000000):Ct Tryz.prog 257 [tLm (dig 65536 v)] (tN v):=by
 have:=c_pack (dig 65536 v) (xi2 xa4 v) h;rw [jr8] at this;exact this
theorem wj1 (v:Nat):Ct Tryz.prog 270 [tN v] (tN v):=by
 have:=je2 (dig 4294967296 v);rw [ye0 (qj6 xd7 v)] at this;exact this
theorem js7 (p:Bool) (v:Nat) (h:(dig 4294967296 v).length<=100000):
  Ct Tryz.prog 255 [tB p,tN v] (tWh (wh (sgn p v))):=by
 refine Ct.intro func255 rfl ntmps255 rfl ?_;intro w F;refine A2 ?_;refine RE (xb8 (k:=4) (n:=2) (agg:=true) zr24.1 zr24.2 rfl) trivial trivial qA ?_;refine A5 ?_;refine R1 (x4 (wj1 _) fi270 rfl) rfl ?_;refine A11 ?_;refine x9 rfl (fun h37=> ?_) (fun h37=> ?_)
 ·
  have hv0:v=0:=(xm9 xd7).1 (zde.1 (by omega));subst hv0;refine A2 ?_;refine R0 (xd3 (r:=zac) (ts:=[]) bu24 zr24.2 zao) ?_;refine A5 ?_;exact EC rfl ⟨_,_,_,_,_,rfl,rfl,ti24,(Le.of (by rw [zz8,xf3];simp))⟩
 ·
  have hv0:0 < v:=by
   rcases zco v with h' | h'
   ·subst h';rw [xf3] at h37;simp at h37
   ·exact h'
  refine A6 ?_;refine R2 (xj8 zah) rfl rfl (RE (xi0 (k:=17) (t:=tE (.int .u16 0)) (ts:=rW .u16 (List.replicate (2*(dig 4294967296 v).length) 0)) (2*(dig 4294967296 v).length) (2*(dig 4294967296 v).length) zgf el140 (fun _ _=>rfl) rfl (by omega) (by omega) (zbq _) (by omega) (by omega) (z8 _)) qB trivial qA ?_);refine A12 ?_;refine cL (fun (fm:(Nat)×(List Nat))=>(fun (i:Nat) (ls:List Nat)=>i<=(dig 4294967296 v).length/\ls.length=2*(dig 4294967296 v).length/\ls.take (2*i)=dgs 65536 (2*i) v) fm.1 fm.2) (wB fun (i:Nat) (ls:List Nat)=>uV (uV (uV (uO (uO (uV uN 0 (tB p)) 4 (.ptr 4 0)) 5 (.sl 17 1 0 (2*(dig 4294967296 v).length))) 18 (tN v)) 19 (tI (dig 4294967296 v).length)) 20 (tI i)) (wB fun (i:Nat) (ls:List Nat)=>uK (uK uN 4 24 2 true [.val (tWh ⟨false,[]⟩)]) 17 140 1 false (rW .u16 ls)) [4,17] (fun (fm:(Nat)×(List Nat))=>(fun (i:Nat) (ls:List Nat)=>(dig 4294967296 v).length - i) fm.1 fm.2) ((0,List.replicate (2*(dig 4294967296 v).length) 0)) (by dsimp only;exact ⟨zbt _,by simp,rfl⟩) ?_;intro fm hI;obtain ⟨i,ls⟩:=fm;replace hI:i<=(dig 4294967296 v).length/\ls.length=2*(dig 4294967296 v).length/\ls.take (2*i)=dgs 65536 (2*i) v:=hI;show wc _ _ _ _ (uV (uV (uV (uO (uO (uV uN 0 (tB p)) 4 (.ptr 4 0)) 5 (.sl 17 1 0 (2*(dig 4294967296 v).length))) 18 (tN v)) 19 (tI (dig 4294967296 v).length)) 20 (tI i)) (uK (uK uN 4 24 2 true [.val (tWh ⟨false,[]⟩)]) 17 140 1 false (rW .u16 ls)) _;obtain ⟨hi,hl,ht⟩:=hI;have hx:=xf8 xd7 v i;have hxW:=(xi2 xd7 v).getD (by decide) i;refine A6 ?_;refine x9 rfl (fun h41=> ?_) (fun h41=> ?_)
  ·
   refine A7 ?_;refine R2 (x5 sl331 (i) (by omega) (gN (by omega))) rfl rfl ?_;refine A9 ?_;refine R2 (xj8 zah) rfl rfl ?_;refine A1 ?_;refine R1 (xa8 zgi (isS zgh) cut16) rfl (R2 (zag sl22 rfl) rfl rfl (RE (xc1 (2*i) ti140 (yr8 (by omega)) (by omega) (yg9 (m:=_) rfl)) qB qA trivial ?_));refine A5 ?_;refine R2 (xj8 zah) rfl rfl ?_;refine A2 ?_;refine R2 (ya2 (by decide) (shrN (s:=16) rfl (by decide))) rfl rfl (R1 (xa8 zgi (isS zgh) (wu16 (by omega) (by omega))) rfl (R2 (zag sl22 rfl) rfl rfl (RE (xc1 (2*i+1) ti140 (yr8 (by rw [zdn];omega)) (by omega) (yg9 (m:=_) rfl)) qB qA trivial ?_)));refine A7 ?_;obtain ⟨n1,n2⟩:=jg1 (by omega) hl ht;rw [<-hx] at n1 n2;exact kF ((i+1,(ls.set (2*i) ((dig 4294967296 v).getD i 0%65536)).set (2*i+1) ((dig 4294967296 v).getD i 0 / 2 ^ 16))) ⟨(by dsimp only;exact ⟨by omega,n1,n2⟩),(by dsimp only;omega)⟩
  ·
   have him:i=(dig 4294967296 v).length:=by omega
   subst him;obtain ⟨e1,e2,e3⟩:=qt1 rfl hv0 hl ht;refine A12 ?_;refine R2 (zag sl22 rfl) rfl rfl (RE (xa5 (2*(dig 4294967296 v).length - 1) ti140 (zv0 (by omega)) (by omega)) qA qA trivial ?_);refine A3 ?_;refine x9 rfl (fun h45=> ?_) (fun h45=> ?_)
   ·
    refine A5 ?_;refine R2 (qv8 sl22 (2*(dig 4294967296 v).length - 1) (by omega) (by omega) rfl) rfl rfl ?_;refine A6 ?_;refine RE (xi6 (f:=fun n:Nat=>tE (.int .u16 n)) (xs:=ls.take (2*(dig 4294967296 v).length - 1)) (fun _ h=>h) wi4 (by rw [zcu];omega)) qA qA trivial (R2 (xd3 (r:=tS [⟨1,false,tB p⟩,⟨1,false,tLm (ls.take (2*(dig 4294967296 v).length - 1))⟩]) (ts:=[(0,tB p),(1,tLm (ls.take (2*(dig 4294967296 v).length - 1)))]) bu24 zr24.2 (Bc 0 rfl rfl rfl (Bc 1 rfl rfl rfl zao))) rfl rfl ?_);refine A4 ?_;exact EC rfl ⟨_,_,_,_,_,rfl,rfl,ti24,(Le.of (by rw [zz8,e1 (by omega),zbf (show v≠0 by omega),Bool.and_true]))⟩
   ·
    refine A5 ?_;refine RE (xi6 (f:=fun n:Nat=>tE (.int .u16 n)) (xs:=ls) (fun _ h=>h) (y6 hl) hl) qA qA trivial (R2 (xd3 (r:=tS [⟨1,false,tB p⟩,⟨1,false,tLm ls⟩]) (ts:=[(0,tB p),(1,tLm ls)]) bu24 zr24.2 (Bc 0 rfl rfl rfl (Bc 1 rfl rfl rfl zao))) rfl rfl ?_);refine A4 ?_;exact EC rfl ⟨_,_,_,_,_,rfl,rfl,ti24,(Le.of (by rw [zz8,e2 (by omega),zbf (show v≠0 by omega),Bool.and_true]))⟩
end An.S
namespace An
open Go
theorem zd8 (v:Nat) (h:v < 18446744073709551616):(dig 65536 v).length<=4:=(xe1 xa4 v 4).2 (by simpa using h)
theorem toU64 {n:Int}:IntKind.u64.wrap n=(((n%18446744073709551616).toNat:Nat):Int):=by
 rw [mu64];omega
theorem negU64 {v:Nat} (hv:v < 18446744073709551616):IntKind.u64.wrap (0 - (v:Int))=(((18446744073709551616 - v)%18446744073709551616:Nat):Int):=by
 rw [mu64];omega
end An
namespace An.S
open Go Go.Proofs An Tryz
instance fi181:FnI Tryz.prog 181:=⟨_,func181,by kernel_rfl,rfl⟩
instance un4:UnI Tryz.prog 4 (.bool):=⟨zgm⟩
theorem qw3 (xs ys:List Nat):
  Ct Tryz.prog 181 [tLm xs,tLm ys] (tB (decide (xs=ys))):=by
 refine Ct.intro func181 rfl ntmps181 rfl ?_;intro w F;refine xg9 (s:=0) rfl (fun hl0=> ?_);refine A15 ?_;refine x9 rfl (fun h21=> ?_) (fun h21=> ?_)
 ·
  refine A7 ?_;exact E1 rfl rfl (zau (zbg (fun h=>by rw [h] at h21;omega)).symm)
 ·
  have hll:xs.length=ys.length:=by omega
  refine A11 ?_;refine cL (fun (i:Nat)=>i<=xs.length/\xs.take i=ys.take i) (fun (i:Nat)=>uV (uV (uV (uV uN 0 (tLm xs)) 1 (tLm ys)) 12 (tI xs.length)) 13 (tI i)) (fun (i:Nat)=>fun _=>none) [] (fun (i:Nat)=>xs.length - i) (0) ⟨zbt _,rfl⟩ ?_;intro i hI;obtain ⟨hi,ht⟩:=hI;refine A6 ?_;refine x9 rfl (fun h24=> ?_) (fun h24=> ?_)
  ·
   refine A14 ?_;refine R2 (x5 sl22 (i) (by omega) (gN (by omega))) rfl rfl ?_;refine A3 ?_;refine R2 (x5 sl22 (i) (by omega) (gN (by omega))) rfl rfl ?_;refine A4 ?_;refine x9 rfl (fun h25=> ?_) (fun h25=> ?_)
   ·
    refine A11 ?_;exact E1 rfl rfl (zau (zbg (fun h=>by rw [h] at h25;omega)).symm)
   ·
    refine A7 ?_;exact kF (i+1) ⟨⟨by omega,by rw [xf7 xs i (by omega),xf7 ys i (by omega),ht,show xs.getD i 0=ys.getD i 0 by omega]⟩,(by omega)⟩
  ·
   refine A11 ?_;exact E1 rfl rfl (zau (zbf (by rw [show i=xs.length by omega,zcf,hll,zcf] at ht;exact ht)).symm)
theorem qr8 (x y:Wh):
  Ct Tryz.prog 124 [tWh x,tWh y] (tB (decide (x=y))):=by
 refine Ct.intro func124 rfl ntmps124 rfl ?_;intro w F;refine A15 ?_;refine RGcase (t:=10) rfl (fun h42=> ?_) (fun h42=> ?_)
 ·
  have hn:x.neg=y.neg:=eq_of_beq h42;refine A4 ?_;refine Rg h42 rfl (x4 (qw3 _ _) fi181 rfl) rfl qB ?_;refine A5 ?_;exact E1 rfl rfl (zau (by obtain ⟨a,b⟩:=x;obtain ⟨c,d⟩:=y;simp only at hn;subst hn;simp))
 ·
  have hn:x.neg≠y.neg:=fun h=>by rw [h] at h42;simp at h42
  refine A10 ?_;exact E1 rfl rfl (zau (zbg (fun h=>hn (by rw [h]))).symm)
end An.S
namespace An
open Go
structure Fr where
  n:Wh
  d:Wh
deriving DecidableEq
abbrev tFr (f:Fr):Ty:=tS [⟨2,true,tWh f.n⟩,⟨2,true,tWh f.d⟩]
abbrev tTm (f:Fr):Ty:=tS [⟨4,true,tFr f⟩]
def fr (q:Rat):Fr:=⟨wh q.num,wh q.den⟩
def fr0:Fr:=⟨⟨false,[]⟩,⟨false,[]⟩⟩
def Fr.sh (f:Fr):Bool:=decide (f.n.l.length<=256) && decide (f.d.l.length<=256)
def short (q:Rat):Prop:=len16 q.num<=256/\len16 q.den<=256
instance (q:Rat):Decidable (short q):=inferInstanceAs (Decidable (_/\_))
theorem sh_fr (q:Rat):(fr q).sh=decide (short q):=by
 show (decide (len16 q.num<=256) && decide (len16 q.den<=256))=_;exact (Bool.decide_and _ _).symm
def Wh.int (x:Wh):Int:=sgn x.neg (val 65536 x.l)
theorem y8 (z:Int):(wh z).int=z:=by
 show sgn (wh z).neg (val 65536 (dig 65536 z.natAbs))=z;rw [xn5 xa4];exact zu9 z
def Fr.valid (f:Fr):Bool:=f.sh && f.n.valid && f.d.valid && decide (0 < f.d.int) && decide (Int.gcd f.n.int f.d.int=1)
theorem js5 {q:Rat} (h:short q):(fr q).valid=true:=by
 have h1:(wh q.num).valid=true:=yj3 (zdc h.1 (by decide));have h2:(wh (q.den:Int)).valid=true:=yj3 (zdc h.2 (by decide));have hd:=q.den_nz;have hg:Int.gcd q.num (q.den:Int)=1:=by simpa [Int.gcd] using q.reduced
 have e1:(fr q).n.int=q.num:=y8 _;have e2:(fr q).d.int=(q.den:Int):=y8 _;simp only [Fr.valid,zbv,zbw];rw [e1,e2];exact ⟨⟨⟨⟨by rw [sh_fr];exact zbf h,h1⟩,h2⟩,by omega⟩,hg⟩
theorem qe1:wh 1=⟨false,[1]⟩:=by
 have e:dig 65536 1=[1]:=by rw [xm2 xa4 (by decide),show (1:Nat) / 65536=0 by decide,xf3]
 show (⟨decide ((1:Int) < 0),dig 65536 1⟩:Wh)=_;rw [e];rfl
theorem qk4:wh 0=⟨false,[]⟩:=by
 show (⟨decide ((0:Int) < 0),dig 65536 0⟩:Wh)=_;rw [xf3];rfl
theorem len16_le {x y:Int} (h:x.natAbs<=y.natAbs):len16 x<=len16 y:=xm3 xa4 h
theorem len16_div {x y:Int} {k:Nat} (hx:len16 x<=k):len16 (x / y)<=k:=by
 refine zdc (len16_le ?_) hx;exact Int.natAbs_ediv_le_natAbs x y
theorem yo6 {n d:Int} (hd:0 < d):fr (Rat.divInt n d)=⟨wh (n / (Int.gcd n d:Int)),wh (d / (Int.gcd n d:Int))⟩:=by
 obtain ⟨m,rfl⟩:=Int.eq_ofNat_of_zero_le (Int.le_of_lt hd);have hm:m≠0:=by omega
 rw [Rat.divInt_ofNat,<-Rat.normalize_eq_mkRat hm,Rat.normalize_eq];simp only [fr];have e:Int.gcd n (m:Int)=n.natAbs.gcd m:=by simp [Int.gcd]
 rw [e,<-Int.natCast_ediv]
end An
namespace An.S
open Go Go.Proofs An Tryz
instance ti184:TyI Tryz.prog 184 4 true:=⟨by kernel_rfl,by kernel_rfl⟩
instance fo26_0:FoI Tryz.prog 26 0 0:=⟨by kernel_rfl⟩
instance fo26_1:FoI Tryz.prog 26 1 2:=⟨by kernel_rfl⟩
instance fo184_0:FoI Tryz.prog 184 0 0:=⟨by kernel_rfl⟩
instance fi185:FnI Tryz.prog 185:=⟨_,func185,by kernel_rfl,rfl⟩
instance fi222:FnI Tryz.prog 222:=⟨_,func222,by kernel_rfl,rfl⟩
theorem jb9 {x:Wh} (hn:x.neg=false) (hl:x.l.length=1):decide (((x.l.getD 0 0:Nat):Int)=1)=decide (x=⟨false,[1]⟩):=by
 obtain ⟨n,l⟩:=x;simp only at hn hl;subst hn;obtain ⟨a,rfl⟩:=List.length_eq_one_iff.1 hl;simp;omega
theorem qr2 (x:Wh):
  Ct Tryz.prog 185 [tWh x] (tB (decide (x=⟨false,[1]⟩))):=by
 refine Ct.intro func185 rfl ntmps185 rfl ?_;intro w F;refine A12 ?_;refine RGcase (t:=6) rfl (fun h54=> ?_) (fun h54=> ?_)
 ·
  refine A6 ?_;refine RGcaseD (t:=12) rfl (fun h54_2=> ?_) (fun h54_2=> ?_)
  ·
   refine A2 ?_;refine Rg (zbf h54_2) rfl (x5 sl22 (0) (by omega) (gN (by omega))) rfl qB ?_;refine A7 ?_;exact E1 rfl rfl (zau (jb9 (by simpa using h54) (by omega)))
  ·
   refine A10 ?_;exact E1 rfl rfl (zau (zbg (fun h=>h54_2 (by rw [h];rfl))).symm)
 ·
  refine A16 ?_;exact E1 rfl rfl (zau (zbg (fun h=>by rw [h] at h54;simp at h54)).symm)
theorem wc7 (f:Fr):
  Ct Tryz.prog 182 [tTm f] (tB (!f.sh)):=by
 refine Ct.intro func182 rfl ntmps182 rfl ?_;intro w F;refine A11 ?_;refine xn7 (0) ti22 rfl rfl rfl (At.t (At.g 0 rfl rfl) (At.t (At.g 0 rfl rfl) (At.g 1 rfl rfl))) rfl ?_;refine A3 ?_;refine RGcaseD (t:=9) rfl (fun h33=> ?_) (fun h33=> ?_)
 ·
  refine A11 ?_;exact E1 rfl rfl (zau (by rw [Fr.sh,zbg (show ¬f.n.l.length<=256 by omega)];rfl))
 ·
  refine A3 ?_;refine xb9 (zbg h33) rfl rfl (0) ti22 rfl rfl rfl (At.t (At.g 0 rfl rfl) (At.t (At.g 1 rfl rfl) (At.g 1 rfl rfl))) rfl ?_;refine A7 ?_;exact E1 rfl rfl (zau (by rw [Fr.sh,zbf (show f.n.l.length<=256 by omega),zdq,<-decide_not];exact zeq.2 (by omega)))
theorem qg8 (f:Fr):
  Ct Tryz.prog 184 [tTm f] (tB (decide (f.d=⟨false,[1]⟩))):=by
 refine Ct.intro func184 rfl ntmps184 rfl ?_;intro w F;refine A10 ?_;refine xn7 (0) ti24 rfl rfl rfl (At.t (At.g 0 rfl rfl) (At.g 1 rfl rfl)) rfl (R1 (x4 (qr2 _) fi185 rfl) rfl ?_);refine A4 ?_;exact E1 rfl rfl zao
instance ti26:TyI Tryz.prog 26 4 true:=⟨by kernel_rfl,by kernel_rfl⟩
instance fi124:FnI Tryz.prog 124:=⟨_,func124,by kernel_rfl,rfl⟩
instance fi125:FnI Tryz.prog 125:=⟨_,func125,by kernel_rfl,rfl⟩
instance fi182:FnI Tryz.prog 182:=⟨_,func182,by kernel_rfl,rfl⟩
instance fi184:FnI Tryz.prog 184:=⟨_,func184,by kernel_rfl,rfl⟩
instance fi186:FnI Tryz.prog 186:=⟨_,func186,by kernel_rfl,rfl⟩
theorem zr184:(Tryz.prog.info? 184).bind (·.zero)=some (.agg #[.bool false,.slice none 0 0,.bool false,.slice none 0 0])/\ ∀F w,(tS [⟨4,true,zad⟩]).p F w (.agg #[.bool false,.slice none 0 0,.bool false,.slice none 0 0]):=⟨by kernel_rfl,fun _ _=>⟨_,rfl,rfl,⟨fun h=>Bool.noConfusion h,⟨_,rfl,rfl,⟨fun h=>Bool.noConfusion h,⟨_,rfl,rfl,⟨fun _=>rfl,rfl⟩,⟨fun _=>rfl,⟨none,0,rfl,zbq _,by decide,.inl rfl⟩⟩,trivial⟩⟩,⟨fun h=>Bool.noConfusion h,⟨_,rfl,rfl,⟨fun _=>rfl,rfl⟩,⟨fun _=>rfl,⟨none,0,rfl,zbq _,by decide,.inl rfl⟩⟩,trivial⟩⟩,trivial⟩⟩,trivial⟩⟩
theorem bu184:BuI Tryz.prog 184 (fun i=>[(0,4)][i]?) (.agg #[.bool false,.slice none 0 0,.bool false,.slice none 0 0]):=BuI.struct underlying184 (by kernel_rfl) (by kernel_rfl)
theorem qf7 {x y:Int}:decide (wh ((Int.gcd x y:Nat):Int)=⟨false,[1]⟩)=decide (Int.gcd x y=1):=by
 rw [<-qe1];refine zeq.2 ⟨fun h'=> ?_,fun h'=>by rw [h'];rfl⟩;have:=wh_inj h';omega
theorem zk6 {y:Int} (h1:(wh y).neg=false) (h2: ¬(wh y).l.length=0):0 < y:=by
 have h3: ¬y < 0:=of_decide_eq_false h1;have h4:y≠0:=fun h=>h2 (by rw [h,qk4];rfl);omega
theorem xp3 (f g:Fr):
  Ct Tryz.prog 69 [tFr f,tFr g] (tB (decide (f=g))):=by
 refine Ct.intro func69 rfl ntmps69 rfl ?_;intro w F;refine A13 ?_;refine R2 (x4 (qr8 _ _) fi124 rfl) rfl rfl ?_;refine A1 ?_;refine RGcase (t:=10) rfl (fun h107=> ?_) (fun h107=> ?_)
 ·
  have hn:f.n=g.n:=zdt h107;refine A4 ?_;refine Rg h107 rfl (x4 (qr8 _ _) fi124 rfl) rfl qB ?_;refine A5 ?_;exact E1 rfl rfl (zau (by obtain ⟨a,b⟩:=f;obtain ⟨c,d⟩:=g;simp only at hn;subst hn;simp))
 ·
  have hn:f.n≠g.n:=of_decide_eq_false h107;refine A10 ?_;exact E1 rfl rfl (zau (zbg (fun h=>hn (by rw [h]))).symm)
end An.S
namespace An
open Go
def Fr.dig (f:Fr):Prop:=Dig 65536 f.n.l/\Dig 65536 f.d.l
def Fr.rat (f:Fr):Rat:=Rat.divInt f.n.int f.d.int
theorem zc5 (q:Rat):(fr q).rat=q:=by
 have e1:(fr q).n.int=q.num:=y8 _;have e2:(fr q).d.int=(q.den:Int):=y8 _;rw [Fr.rat,e1,e2,Rat.divInt_ofNat,Rat.mkRat_self]
def take (q:Rat) (n:Int):Int:=(q*(n:Rat)).floor
theorem len16_64 {n:Int} (h1: -9223372036854775808<=n) (h2:n<=9223372036854775807):len16 n<=4:=zd8 _ (by omega)
structure Va where
  kind:Nat
  f:Fr
  i:Int
deriving DecidableEq
structure Sn where
  lo:Int
  hi:Int
deriving DecidableEq
structure Tst where
  lo:Int
  hi:Int
  v:Va
deriving DecidableEq
instance:Inhabited Sn:=⟨⟨0,0⟩⟩
def va0:Va:=⟨0,fr0,0⟩
def sn0:Sn:=⟨0,0⟩
def tst0:Tst:=⟨0,0,va0⟩
abbrev tVa (v:Va):Ty:=tS [⟨1,false,tE (.int .u8 (v.kind:Int))⟩,⟨4,true,tFr v.f⟩,⟨1,false,tI v.i⟩]
abbrev tSn (s:Sn):Ty:=tS [⟨1,false,tI s.lo⟩,⟨1,false,tI s.hi⟩]
abbrev tTs (s:Tst):Ty:=tS [⟨1,false,tI s.lo⟩,⟨1,false,tI s.hi⟩,⟨6,true,tVa s.v⟩]
def Va.valid (v:Va):Bool:=
 if v.kind=2∨v.kind=3 then decide (v.i=0) && v.f.valid
 else if v.kind=1 then decide (v.f=fr0) && decide (0<=v.i) && decide (v.i<=1)
 else if v.kind=4 then decide (v.f=fr0) && decide (0<=v.i) && decide (v.i < 65536)
 else if v.kind=5∨v.kind=6 then decide (v.f=fr0) && decide (-1048576<=v.i) && decide (v.i<=1048576)
 else false
def tOk (l:List Tst) (i:Nat):Bool:=
 decide (0<=(l.getD i tst0).lo) && decide ((l.getD i tst0).lo < (l.getD i tst0).hi) && decide ((l.getD i tst0).hi<=65536) &&
  (decide (i=0) || decide ((l.getD (i - 1) tst0).hi<=(l.getD i tst0).lo) && decide ((l.getD (i - 1) tst0).v.kind=(l.getD i tst0).v.kind) && !(decide ((l.getD (i - 1) tst0).hi=(l.getD i tst0).lo) && decide ((l.getD (i - 1) tst0).v=(l.getD i tst0).v)))
def tRight (l:List Tst):Bool:=(List.range l.length).all (tOk l) && l.all fun s=>s.v.valid
def Sn.ok (s:Sn):Bool:=decide (0<=s.lo) && decide (s.lo<=s.hi) && decide (s.hi<=65536)
def mrg1 (acc:List Sn) (s:Sn):List Sn:=
 if 0 < acc.length/\s.lo<=(acc.getD (acc.length - 1) sn0).hi then acc.set (acc.length - 1) ⟨(acc.getD (acc.length - 1) sn0).lo,max (acc.getD (acc.length - 1) sn0).hi s.hi⟩ else acc++[s]
def mrg (xs:List Sn):List Sn:=xs.foldl mrg1 []
theorem qv4 {P:Program} {T:TypeId} {k:IntKind} (hT:P.underlying T=some (.int k)) (d:Nat) (p q:Int) (w:World):(Op.equalIn (d+1) T (.int k p) (.int k q)).run P w= .ok (p==q) w:=by
 simp only [Op.equalIn,zbu,zcj hT,zbn,zbx,if_true]
theorem qe7 {P : Program} {T E : TypeId} {k : IntKind} {f0 f1 : Field} (hT : P.underlying T = some (.struct #[f0, f1])) (hE : P.underlying E = some (.int k)) (h0 : f0.type = E) (h1 : f1.type = E) (n0 : f0.name ≠ "_") (n1 : f1.name ≠ "_") (o0 : f0.offset = 0) (o1 : f1.offset = 1)
  (hA: ∀w,(isAgg E).run P w= .ok false w) (hs:P.stoodInHeld T=false) (a b c d:Int) (w:World):(Op.equal T (.agg #[.int k a,.int k b]) (.agg #[.int k c,.int k d])).run P w= .ok (a==c && b==d) w:=by
 have key: ∀n,(Op.equalIn (n+2) T (.agg #[.int k a,.int k b]) (.agg #[.int k c,.int k d])).run P w= .ok (a==c && b==d) w:=fun n=>by
  have hp: ∀w,(program).run P w= .ok P w:=fun _=>rfl;rw [Op.equalIn];simp only [zbu,zcj hT,zbn,hp,hs,zfm,if_false];simp [n0,n1,h0,h1,o0,o1,go_sem,hA,qv4 hE];by_cases e1:a=c <;> by_cases e2:b=d <;> simp [e1,e2,go_sem]
 exact key 9998
structure EqS2 (P:Program) (T:TypeId):Prop where
  eq: ∀(a b c d:Int) (w:World),(Op.equal T (.agg #[.int .i64 a,.int .i64 b]) (.agg #[.int .i64 c,.int .i64 d])).run P w= .ok (a==c && b==d) w
  guard:P.eqGuardType P.depth T=false
theorem zh5 {F:Dom} {w:World} {s:Sn} {v:Value} (h:(tSn s).p F w v):v= .agg #[.int .i64 s.lo,.int .i64 s.hi]:=by
 obtain ⟨cs,rfl,h2,h3,h4,_⟩:=h;have h2:cs.size=2:=h2;obtain ⟨l⟩:=cs
 match l,h2 with
 | [x,y],_=>
  have e1:x= .int .i64 s.lo:=h3.2;have e2:y= .int .i64 s.hi:=h4.2;subst e1;subst e2;rfl
theorem tSn_mk {F:Dom} {w:World} {s:Sn}:(tSn s).p F w (.agg #[.int .i64 s.lo,.int .i64 s.hi]):=⟨_,rfl,rfl,⟨fun _=>rfl,rfl⟩,⟨fun _=>rfl,rfl⟩,trivial⟩
theorem wd5 {P:Program} {c:Base} {d ty:Nat} {pos:String} {af:Array Edge} {gd:Option (Nat×Bool)} {T yT:TypeId} {x y:Operand} {s t:Sn} (h:EqS2 P T):
  Does P c ⟨some d,.binOp .neq T x y yT,ty,pos,af,gd⟩ ⟨[(x,.val (tSn s)),(y,.val (tSn t))],[],some (d,some (.val (tB (decide (s≠t))))),[],[]⟩:=
 Does.value rfl fun g hh al a w η hrd _ st=>by
  have h1:=zh5 (xa2 st hrd.1).1;have h2:=zh5 (xa2 st hrd.2.1).1;have hp: ∀w,(program).run P w= .ok P w:=fun _=>rfl;have hg:(eqGuard .neq T x y (.agg #[.int .i64 s.lo,.int .i64 s.hi]) (.agg #[.int .i64 t.lo,.int .i64 t.hi])).run P w= .ok () w:=by
   simp [eqGuard,go_sem,h.guard]
  have hb:(binOp .neq T (.agg #[.int .i64 s.lo,.int .i64 s.hi]) (.agg #[.int .i64 t.lo,.int .i64 t.hi])).run P w= .ok (.bool (!(s.lo==t.lo && s.hi==t.hi))) w:=by
   simp only [binOp,zbu,h.eq,zbn,zbx]
  refine ⟨.bool (!(s.lo==t.lo && s.hi==t.hi)),w,?_,Ext.refl w,?_,fun k hk=>by cases hk⟩
  ·simp only [execOp,h1,h2,zbu,hg,hb,zbn,zbx]
  ·show _=Value.bool (decide (s≠t))
   congr 1
   obtain ⟨a,b⟩:=s;obtain ⟨a',b'⟩:=t;by_cases e1:a=a' <;> by_cases e2:b=b' <;> simp [e1,e2]
theorem St.recast {c:Base} {g:Slots} {h:Keys} {al:Names} {a:Act} {w:World} {t:Nat} {e e':Ent} (hs:St c g h al a w) (hg:g t=some e) (hi: ∀F η v,e.sat F w η v->e'.sat F w η v) (hsup:e'.supp=[]):St c (upd g t (some e')) h al a w:=by
 obtain ⟨η,s⟩:=hs;have s2:=s.put (s.slot t _ hg).1 (e:=e') (hi _ _ _ (s.slot t _ hg).2.2) fun j hj=>by rw [hsup] at hj;cases hj
 refine ⟨η,?_⟩;have ea:a.put (some t) (a.tmps.getD t undef)=a:=by
  have hlt:t < a.tmps.size:=by rw [s.tn];exact (s.slot t _ hg).1
  have:a.tmps.setIfInBounds t (a.tmps.getD t undef)=a.tmps:=by
   apply zdi;intro i;rw [zee];by_cases hi:t=i
   ·subst hi;simp [hlt]
   ·simp [hi]
  simp only [Act.put,this]
 rw [<-ea];exact s2
theorem zo4 {F:Dom} {w:World} {η:Env} {cs:Array Value}: ∀(ts:List Ty) (o:Nat),Fd.all F w cs o (fdOne ts)->RowOk F w η cs o (ts.map Ent.val)
 | [],_,_=>fun i e hi=>by simp at hi
 | t::r,o,h=>fun i e hi=>by
  cases i with
  | zero=>
   simp only [zcy,zcp,zck] at hi;subst hi;exact h.1.2
  | succ i=>
   have:=zo4 (η:=η) r (o+1) h.2 i e (by simpa using hi)
   rwa [show o+1+i=o+(i+1) by omega] at this
theorem Does.rowV {P:Program} {c:Base} {o:Oper} {rd:List (Operand×Ent)} {kr:List (Nat×HEnt)} {d:Nat} {ts:List Ty} {kw:List (Nat×Option HEnt)} {nk:List Nat} {es:List Ent} (he:ts.map Ent.val=es) (hd:Does P c o ⟨rd,kr,some (d,some (.val (tS (fdOne ts)))),kw,nk⟩):
  Does P c o ⟨rd,kr,some (d,some (.own (An.rowV es))),kw,nk⟩:=by
 subst he;intro g h al a w hp hs;refine Oper.wpIn_mono (fun a' w' hs'=> ?_) (hd g h al a w ⟨hp.rd,hp.kr,hp.nk,fun x hx=>by cases hx;exact hp.d (d,some (.own (An.rowV (ts.map Ent.val)))) rfl⟩ hs);have:=hs'.recast (t:=d) (e':= .own (An.rowV (ts.map Ent.val))) (x7 _ _ _) (fun F η v hv=> ?_) (by rw [zj8];simp [List.flatMap_map,Ent.supp])
 ·simp only [Eff.g,yn1] at this ⊢;exact this
 ·obtain ⟨cs,h1,h2,h3⟩:=hv;exact yv1.2 ⟨cs,h1,by rw [h2,yo5];simp,zo4 ts 0 h3⟩
theorem yo1 {P:Program} {c:Base} {g:Slots} {h:Keys} {al:Names} {Q:Exit->Act->World->Prop} {x:Code} {q Tq:Nat} {us us':List Ent} (k T es:Nat) (agg:Bool) (i:Nat) (hq:h q=some ⟨Tq,1,false,us⟩) (hi:us[i]? =some (.val (tE (.slice none 0 0)))) (hk:al k=false) (hes:Nat.blt 0 es=true) (hagg:agg=false->es=1) (hne:Nat.beq q k=false)
  (hus:us.set i (.own (.sl k es 0 0))=us') (H:wc P c x Q g (upd (upd h k (some ⟨T,es,agg,[]⟩)) q (some ⟨Tq,1,false,us'⟩)) (fun j=>Nat.beq j k || al j)):wc P c x Q g h al:=fun a w hs=>by
 obtain ⟨η,s⟩:=hs;subst hus;obtain ⟨η',s',hc,hoth⟩:=s.ghost k hk T es agg (by simpa using hes) hagg;have hqk:q≠k:=fun e=>by rw [e] at hne;simp at hne
 have hq':upd h k (some ⟨T,es,agg,[]⟩) q=some ⟨Tq,1,false,us⟩:=by rw [x3 _ _ _ hqk];exact hq
 refine H a w ⟨η',s'.same hq' rfl ?_ ?_⟩
 ·intro j hj;simp only [HEnt.supp,zcc] at hj;obtain ⟨e,he,hj⟩:=hj;obtain ⟨n,hn⟩:=zeb he;rcases List.getElem?_set_cases hn with ⟨_,rfl,_⟩ | ⟨_,hn'⟩
  ·simp only [Ent.supp,VP.supp,zbj] at hj;subst hj;simp
  ·exact (s'.key q _ hq').2.1 j (HEnt.mem_supp hn' hj)
 ·obtain ⟨k1,k2,k3,k4,k5⟩:=(s'.key q _ hq').2.2.1;refine ⟨by simpa using k1,k2,k3,k4,fun hc0=> ?_⟩;obtain ⟨cs,c1,c2,c3⟩:=k5 hc0;refine ⟨cs,c1,c2,fun n e hn=> ?_⟩;rcases List.getElem?_set_cases hn with ⟨rfl,rfl,_⟩ | ⟨_,hn'⟩
  ·have h6:_=_:=c3 n _ hi;refine ⟨none,?_,by simp [hc],fun hlt=>by rw [hc] at hlt;omega⟩;rw [hc];exact h6
  ·exact c3 n e hn'
end An
namespace An.S
open Go Go.Proofs An Tryz
instance ti3:TyI Tryz.prog 3 1 false:=⟨by kernel_rfl,by kernel_rfl⟩
instance ti5:TyI Tryz.prog 5 1 false:=⟨by kernel_rfl,by kernel_rfl⟩
instance ti28:TyI Tryz.prog 28 6 true:=⟨by kernel_rfl,by kernel_rfl⟩
instance ti83:TyI Tryz.prog 83 2 true:=⟨by kernel_rfl,by kernel_rfl⟩
instance sl57:SlI Tryz.prog 57 83 2 true:=⟨zgn,ti83⟩
instance fo28_0:FoI Tryz.prog 28 0 0:=⟨by kernel_rfl⟩
instance fo28_1:FoI Tryz.prog 28 1 1:=⟨by kernel_rfl⟩
instance fo28_2:FoI Tryz.prog 28 2 5:=⟨by kernel_rfl⟩
instance fi62:FnI Tryz.prog 62:=⟨_,func62,by kernel_rfl,rfl⟩
instance fi90:FnI Tryz.prog 90:=⟨_,func90,by kernel_rfl,rfl⟩
instance fi141:FnI Tryz.prog 141:=⟨_,func141,by kernel_rfl,rfl⟩
instance un57:UnI Tryz.prog 57 (.slice 83):=⟨zgn⟩
theorem yf9 (l:List Nat) (k:Nat) (hk:k < l.length):l.take (k+1)=l.take k++[l.getD k 0]:=by
 rw [zca hk,zbh,zbi hk];rfl
theorem yg2 (l:List Sn) (k:Nat) (hk:k < l.length):l.take (k+1)=l.take k++[l.getD k sn0]:=by
 rw [zca hk,zbh,zbi hk];rfl
theorem eq_Sn:EqS2 Tryz.prog 83:=⟨qe7 underlying83 zgo rfl rfl (by decide) (by decide) rfl rfl (fun w=>by kernel_rfl) (by kernel_rfl),by kernel_rfl⟩
theorem qf6 (xs ys:List Nat):
  Ct Tryz.prog 141 [tLm xs,tLm ys] (tB (decide (xs=ys))):=by
 refine Ct.intro func141 rfl ntmps141 rfl ?_;intro w F;refine xg9 (s:=0) rfl (fun hl0=> ?_);refine A15 ?_;refine x9 rfl (fun h9=> ?_) (fun h9=> ?_)
 ·
  refine A7 ?_;exact E1 rfl rfl (zau (zbg (fun h=>by rw [h] at h9;omega)).symm)
 ·
  have hll:xs.length=ys.length:=by omega
  refine A9 ?_;refine cL (fun (i:Nat)=>i<=xs.length/\xs.take i=ys.take i) (fun (i:Nat)=>uV (uV (uV uN 0 (tLm xs)) 1 (tLm ys)) 5 (tI i)) (fun (i:Nat)=>fun _=>none) [] (fun (i:Nat)=>xs.length - i) (0) ⟨zbt _,rfl⟩ ?_;intro i hI;obtain ⟨hi,ht⟩:=hI;refine A9 ?_;refine x9 rfl (fun h12=> ?_) (fun h12=> ?_)
  ·
   refine A8 ?_;refine R2 (x5 sl22 (i) (by omega) (gN (by omega))) rfl rfl ?_;refine A3 ?_;refine R2 (x5 sl22 (i) (by omega) (gN (by omega))) rfl rfl ?_;refine A4 ?_;refine x9 rfl (fun h13=> ?_) (fun h13=> ?_)
   ·
    refine A11 ?_;exact E1 rfl rfl (zau (zbg (fun h=>by rw [h] at h13;exact (h13 rfl))).symm)
   ·
    refine A8 ?_;exact kF (i+1) ⟨⟨by omega,by rw [yf9 xs i (by omega),yf9 ys i (by omega),ht,show xs.getD i 0=ys.getD i 0 from (by omega)]⟩,(by omega)⟩
  ·
   refine A11 ?_;exact E1 rfl rfl (zau (zbf (by rw [show i=xs.length by omega,zcf,hll,zcf] at ht;exact ht)).symm)
theorem yt5 (xs ys:List Sn):
  Ct Tryz.prog 32 [tL 2 true tSn xs,tL 2 true tSn ys] (tB (decide (xs=ys))):=by
 refine Ct.intro func32 rfl ntmps32 rfl ?_;intro w F;refine xg9 (s:=0) rfl (fun hl0=> ?_);refine A15 ?_;refine x9 rfl (fun h178=> ?_) (fun h178=> ?_)
 ·
  refine A7 ?_;exact E1 rfl rfl (zau (zbg (fun h=>by rw [h] at h178;omega)).symm)
 ·
  have hll:xs.length=ys.length:=by omega
  refine A9 ?_;refine cL (fun (i:Nat)=>i<=xs.length/\xs.take i=ys.take i) (fun (i:Nat)=>uV (uV (uV uN 0 (tL 2 true tSn xs)) 1 (tL 2 true tSn ys)) 5 (tI i)) (fun (i:Nat)=>fun _=>none) [] (fun (i:Nat)=>xs.length - i) (0) ⟨zbt _,rfl⟩ ?_;intro i hI;obtain ⟨hi,ht⟩:=hI;refine A9 ?_;refine x9 rfl (fun h181=> ?_) (fun h181=> ?_)
  ·
   refine A8 ?_;refine R2 (x5 sl57 i (by omega) (gD (d:=sn0) (by omega))) rfl rfl ?_;refine A3 ?_;refine R2 (x5 sl57 i (by omega) (gD (d:=sn0) (by omega))) rfl rfl ?_;refine A1 ?_;refine R2 (wd5 eq_Sn) rfl rfl ?_;refine A2 ?_;refine x9 rfl (fun h182=> ?_) (fun h182=> ?_)
   ·
    refine A11 ?_;exact E1 rfl rfl (zau (zbg (fun h=>by rw [h] at h182;exact (h182 rfl))).symm)
   ·
    refine A8 ?_;exact kF (i+1) ⟨⟨by omega,by rw [yg2 xs i (by omega),yg2 ys i (by omega),ht,show xs.getD i sn0=ys.getD i sn0 from (Decidable.of_not_not h182)]⟩,(by omega)⟩
  ·
   refine A11 ?_;exact E1 rfl rfl (zau (zbf (by rw [show i=xs.length by omega,zcf,hll,zcf] at ht;exact ht)).symm)
theorem ye8 (x y:Wh):
  Ct Tryz.prog 90 [tWh x,tWh y] (tB (decide (x=y))):=by
 refine Ct.intro func90 rfl ntmps90 rfl ?_;intro w F;refine A15 ?_;refine RGcase (t:=10) rfl (fun h81=> ?_) (fun h81=> ?_)
 ·
  refine A4 ?_;refine Rg h81 rfl (x4 (qf6 _ _) fi141 rfl) rfl qB ?_;refine A5 ?_;exact E1 rfl rfl (zau (by obtain ⟨a,b⟩:=x;obtain ⟨c,d⟩:=y;simp_all))
 ·
  refine A10 ?_;exact E1 rfl rfl (zau (by obtain ⟨a,b⟩:=x;obtain ⟨c,d⟩:=y;simp_all))
theorem zc0 (x y:Fr):
  Ct Tryz.prog 62 [tFr x,tFr y] (tB (decide (x=y))):=by
 refine Ct.intro func62 rfl ntmps62 rfl ?_;intro w F;refine A13 ?_;refine R2 (x4 (ye8 _ _) fi90 rfl) rfl rfl ?_;refine A1 ?_;refine RGcaseD (t:=10) rfl (fun h113=> ?_) (fun h113=> ?_)
 ·
  refine A4 ?_;refine Rg (zbf h113) rfl (x4 (ye8 _ _) fi90 rfl) rfl qB ?_;refine A5 ?_;exact E1 rfl rfl (zau (by obtain ⟨a,b⟩:=x;obtain ⟨c,d⟩:=y;simp_all))
 ·
  refine A10 ?_;exact E1 rfl rfl (zau (by obtain ⟨a,b⟩:=x;obtain ⟨c,d⟩:=y;simp_all))
theorem xq9 (x y:Va):
  Ct Tryz.prog 22 [tVa x,tVa y] (tB (decide (x=y))):=by
 refine Ct.intro func22 rfl ntmps22 rfl ?_;intro w F;refine A15 ?_;refine RGcaseD (t:=10) rfl (fun h146=> ?_) (fun h146=> ?_)
 ·
  refine A4 ?_;refine Rg (zbf h146) rfl (x4 (zc0 _ _) fi62 rfl) rfl qB ?_;refine A2 ?_;refine RGcaseD (t:=17) rfl (fun h146_2=> ?_) (fun h146_2=> ?_)
  ·
   refine A10 ?_;exact E1 rfl rfl (zau (by obtain ⟨a,b,e⟩:=x;obtain ⟨c,d,f⟩:=y;simp only [Va.mk.injEq] at*;simp_all <;> omega))
  ·
   refine A10 ?_;exact E1 rfl rfl (zau (by obtain ⟨a,b,e⟩:=x;obtain ⟨c,d,f⟩:=y;simp only [Va.mk.injEq] at*;simp_all <;> omega))
 ·
  refine A17 ?_;exact E1 rfl rfl (zau (by obtain ⟨a,b,e⟩:=x;obtain ⟨c,d,f⟩:=y;simp only [Va.mk.injEq] at*;simp_all <;> omega))
end An.S
namespace An
open Go
abbrev tM (v:Nat):Ty:=tLm (dig 65536 v)
theorem qv9 {a:List Nat} {k:Nat} (hk:k<=a.length) (h0:0 < k) (hz:a.getD (k - 1) 0=0):trimL (a.take (k - 1))=trimL (a.take k):=by
 have h1:=xf7 a (k - 1) (by omega);rw [show k - 1+1=k from by omega] at h1;rw [h1,hz,xu0]
theorem qv2 {a:List Nat} {k:Nat} (hk:k<=a.length) (h0:0 < k) (hz: ¬a.getD (k - 1) 0=0):trimL (a.take k)=a.take k:=by
 refine ye0 fun x hx=> ?_;have h1:=xf7 a (k - 1) (by omega);rw [show k - 1+1=k from by omega] at h1;rw [h1,List.getLast?_append] at hx;simp at hx;rw [<-hx];simpa [List.getD_eq_getElem?_getD] using hz
theorem q9 {a d r k q n:Nat} {qs:List Nat} (hk:k < n) (hl:qs.length=n) (hD:Dig 65536 qs) (hd:0 < d) (hr:r=a / 65536 ^ (k+1)%d) (hv:val 65536 (qs.drop (k+1))=a / 65536 ^ (k+1) / d) (hq:(r*65536+a / 65536 ^ k%65536) / d=q):
  (qs.set k q).length=n/\Dig 65536 (qs.set k q)/\(r*65536+a / 65536 ^ k%65536)%d=a / 65536 ^ k%d/\val 65536 ((qs.set k q).drop k)=a / 65536 ^ k / d/\q < 65536:=by
 have e0:a / 65536 ^ k=65536*(a / 65536 ^ (k+1))+a / 65536 ^ k%65536:=yc7 65536 a k (by decide);have hrd:r < d:=by rw [hr];exact zfb _ hd
 have e1:a / 65536 ^ k=(r*65536+a / 65536 ^ k%65536)+d*(65536*(a / 65536 ^ (k+1) / d)):=by
  have h1:=zfz (a / 65536 ^ (k+1)) d;rw [<-hr] at h1;have h2:65536*(a / 65536 ^ (k+1))=d*(65536*(a / 65536 ^ (k+1) / d))+65536*r:=by
   conv=>lhs;rw [<-h1]
   rw [zga,Nat.mul_left_comm]
  omega
 have hqW:q < 65536:=by
  rw [<-hq];refine zgc ?_;have h4:a / 65536 ^ k%65536 < 65536:=zfb _ (by decide);have h5:(r+1)*65536<=d*65536:=zbz _ hrd;omega
 refine ⟨by simpa using hl,hD.set hqW,?_,?_,hqW⟩
 ·conv=>rhs;rw [e1,zfx]
 ·rw [ya1 _ _ _ (by simpa using (by omega:k < qs.length)),zq7 (by omega),zp4,hv]
  conv=>rhs;rw [e1,zfd _ _ hd,hq]
theorem jv6 {b:Nat} (h:(dig 65536 b).length=1):(dig 65536 b).getD 0 0=b:=by
 rw [xf8 xa4,zft,Nat.div_one];have:=(xe1 xa4 b 1).1 (Nat.le_of_eq h);rw [Nat.pow_one] at this;exact zep this
theorem trim1L {x:Nat} (hx:x < 65536):trimL [x]=dig 65536 x:=by
 rw [xo2 xa4 (Dig.cons hx (Dig.nil _)),xk6,yr7];simp
theorem zo2 {B a b k:Nat} (hB:2<=B) (h:a / B ^ (k+1)=b / B ^ (k+1)) (hd:(dig B a).getD k 0 < (dig B b).getD k 0):a < b:=zs8 (by omega) h (by rw [<-xf8 hB,<-xf8 hB];exact hd)
theorem yc9 {a i:Nat} (h:i < (dig 65536 a).length):65536 ^ i<=a:=by
 rcases zcb a (65536 ^ i) with h' | h'
 ·have:=(xe1 xa4 a i).2 h';omega
 ·exact h'
theorem yw5 {a b i n s:Nat} (hn:n=(a%65536 ^ i+b%65536 ^ i) / 65536 ^ i) (hs:s=n+a / 65536 ^ i%65536+b / 65536 ^ i%65536):
  dgs 65536 i (a+b)++[s%65536]=dgs 65536 (i+1) (a+b)/\s / 65536=(a%65536 ^ (i+1)+b%65536 ^ (i+1)) / 65536 ^ (i+1):=by
 have hp:0 < 65536 ^ i:=zfs (by decide);have ea:=zfz a (65536 ^ i);have eb:=zfz b (65536 ^ i);have e1:(a+b) / 65536 ^ i=n+a / 65536 ^ i+b / 65536 ^ i:=by
  have:a+b=(a%65536 ^ i+b%65536 ^ i)+65536 ^ i*(a / 65536 ^ i+b / 65536 ^ i):=by rw [zga];omega
  rw [this,zfd _ _ hp,<-hn];omega
 refine ⟨?_,?_⟩
 ·rw [xu8,e1,hs]
  congr 2
  omega
 ·rw [zex,<-zey,<-zex,yi8,yi8];have e2:a%65536 ^ i+65536 ^ i*(a / 65536 ^ i%65536)+(b%65536 ^ i+65536 ^ i*(b / 65536 ^ i%65536))=(a%65536 ^ i+b%65536 ^ i)+65536 ^ i*(a / 65536 ^ i%65536+b / 65536 ^ i%65536):=by rw [zga];omega
  rw [e2,zfd _ _ hp,<-hn,hs]
  congr 1;omega
theorem yk1 {a b i n:Nat} (hn:n=(a%65536 ^ i+b%65536 ^ i) / 65536 ^ i) (h:i < (dig 65536 a).length∨i < (dig 65536 b).length∨0 < n):i+1<=(dig 65536 (a+b)).length:=by
 have hp:0 < 65536 ^ i:=zfs (by decide);have h1:65536 ^ i<=a+b:=by
  rcases h with h | h | h
  ·have:=yc9 h;omega
  ·have:=yc9 h;omega
  ·have h2:65536 ^ i<=a%65536 ^ i+b%65536 ^ i:=by
    rcases zcb (a%65536 ^ i+b%65536 ^ i) (65536 ^ i) with h' | h'
    ·rw [zdv h'] at hn;omega
    ·exact h'
   have:=Nat.mod_le a (65536 ^ i);have:=Nat.mod_le b (65536 ^ i);omega
 rcases zcb i (dig 65536 (a+b)).length with h' | h'
 ·exact h'
 ·have:=(xe1 xa4 (a+b) i).1 h';omega
theorem jh6 {a b i n:Nat} (hn:n=(a%65536 ^ i+b%65536 ^ i) / 65536 ^ i) (h0:n=0) (ha:(dig 65536 a).length<=i) (hb:(dig 65536 b).length<=i) (hi:i<=(dig 65536 (a+b)).length):dgs 65536 i (a+b)=dig 65536 (a+b):=by
 have hp:0 < 65536 ^ i:=zfs (by decide);rw [qr3 xa4 ha,qr3 xa4 hb,h0] at hn;have h1:a+b < 65536 ^ i:=(Nat.div_eq_zero_iff_lt hp).1 hn.symm;have h2:=(xe1 xa4 (a+b) i).2 h1;rw [show i=(dig 65536 (a+b)).length by omega,xu4 xa4]
theorem qe2 {a b i n:Nat} (hn:n=(a%65536 ^ i+b%65536 ^ i) / 65536 ^ i):n<=1:=by
 have hp:0 < 65536 ^ i:=zfs (by decide);have h1:=zfb a hp;have h2:=zfb b hp;rw [hn];exact Nat.le_of_lt_succ (zgc (by omega))
theorem j9 {a b i br n:Nat} {cs:List Nat} (hl:cs.length=i) (hv:val 65536 cs+b%65536 ^ i=a%65536 ^ i+br*65536 ^ i) (hbr:br<=1) (hn:n+br+b / 65536 ^ i%65536=65536+a / 65536 ^ i%65536):
  val 65536 (cs++[n%65536])+b%65536 ^ (i+1)=a%65536 ^ (i+1)+(1 - n / 65536)*65536 ^ (i+1)/\n / 65536<=1/\1 - n / 65536<=1:=by
 have h1:a / 65536 ^ i%65536 < 65536:=zfb _ (by decide);have h2:b / 65536 ^ i%65536 < 65536:=zfb _ (by decide);refine ⟨?_,by omega,by omega⟩;rw [yv9,hl];exact jn8 hv rfl rfl (by omega)
theorem qt3 {n a b br:Nat} {ws:List Nat} (hl:ws.length=n) (hD:Dig 65536 ws) (ha:a < 65536 ^ n) (hba:b<=a) (h:val 65536 ws+b%65536 ^ n=a%65536 ^ n+br*65536 ^ n):trimL ws=dig 65536 (a - b):=by
 rw [zep ha,zep (by omega)] at h;have h1:=yn9 hD;rw [hl] at h1;rw [xo2 xa4 hD]
 congr 1
 rcases zco br with h0 | h0
 ·subst h0;omega
 ·have:65536 ^ n<=br*65536 ^ n:=Nat.le_mul_of_pos_left _ h0;omega
theorem yq1 {a b k:Nat} (ha:(dig 65536 a).length<=k) (hb:(dig 65536 b).length<=k):(dig 65536 (a+b)).length<=k+1:=by
 rw [xe1 xa4] at*
 rw [zex];generalize 65536 ^ k=P at*;omega
theorem w2 {a k n q m:Nat} {qs:List Nat} (hk:k < m) (hl:qs.length=m) (hD:Dig 65536 qs) (hn:n%2=a / 65536 ^ (k+1)%2) (hv:val 65536 (qs.drop (k+1))=a / 65536 ^ (k+1) / 2) (hq:(n%2*65536+a / 65536 ^ k%65536) / 2=q):
  (qs.set k q).length=m/\Dig 65536 (qs.set k q)/\(n%2*65536+a / 65536 ^ k%65536)%2=a / 65536 ^ k%2/\val 65536 ((qs.set k q).drop k)=a / 65536 ^ k / 2/\q < 65536:=q9 hk hl hD (by decide) hn hv hq
theorem jh0 {v i u:Nat} (hu:u=v / 65536 ^ i) (h0:0 < u):i+1<=(dig 65536 v).length/\u / 65536=v / 65536 ^ (i+1)/\dgs 65536 i v++[u%65536]=dgs 65536 (i+1) v:=by
 refine ⟨?_,by rw [hu,zey,<-zex],by rw [xu8,hu]⟩;rcases zcb i (dig 65536 v).length with h' | h'
 ·exact h'
 ·have:=(xe1 xa4 v i).1 h';rw [zdv this] at hu;omega
theorem jo4 {v i:Nat} (h:v / 65536 ^ i=0) (hi:i<=(dig 65536 v).length):dgs 65536 i v=dig 65536 v:=by
 have h1:v < 65536 ^ i:=(Nat.div_eq_zero_iff_lt (zfs (by decide))).1 h;have h2:=(xe1 xa4 v i).2 h1;rw [show i=(dig 65536 v).length by omega,xu4 xa4]
theorem wh0 {a n k:Nat} (h:2 ^ n<=a) (hk:(dig 65536 a).length<=k):n < 16*k:=by
 have h1:=(xe1 xa4 a k).1 hk;have e:65536 ^ k=2 ^ (16*k):=by rw [Nat.pow_mul]
 rw [e] at h1;exact (Nat.pow_lt_pow_iff_right (by decide)).1 (Nat.lt_of_le_of_lt h h1)
theorem qj2 {a b n i q r d:Nat} (hi:i < n) (hd:d=b*2 ^ (n - i)) (ha:a=q*d+r) (hr:r < d):
  d / 2=b*2 ^ (n - (i+1))/\(r < d / 2->a=(q+q)*(d / 2)+r)/\(¬r < d / 2->a=(q+q+1)*(d / 2)+(r - d / 2)/\r - d / 2 < d / 2/\d / 2<=r):=by
 have e:d=2*(b*2 ^ (n - (i+1))):=by rw [hd,show n - i=n - (i+1)+1 by omega,zex];grind
 have h1:d / 2=b*2 ^ (n - (i+1)):=by omega
 refine ⟨h1,fun h=> ?_,fun h=>⟨?_,by omega,by omega⟩⟩
 ·rw [h1,ha,e];grind
 ·rw [h1] at h ⊢;generalize b*2 ^ (n - (i+1))=c at*
  rw [ha,e];have:(q+q+1)*c=q*(2*c)+c:=by grind
  rw [this];omega
theorem jw1 {a b q r:Nat} (ha:a=q*b+r) (hr:r < b):q=a / b/\r=a%b:=by
 have hb:0 < b:=by omega
 constructor
 ·rw [ha,zem,Nat.mul_add_div hb,zdv hr,zeh]
 ·rw [ha,zem,Nat.mul_add_mod,zep hr]
end An
namespace An.S
open Go Go.Proofs An Tryz
theorem shr16 {u:Nat} (_h:u < 18446744073709551616):((u:Int)).fdiv (2 ^ (min (16:Int).toNat (IntKind.bits .u64)))=((u / 65536:Nat):Int):=by
 show ((u:Int)).fdiv 65536=_;rw [Int.fdiv_eq_ediv_of_nonneg _ (by decide)];omega
theorem wh_of {n:Int}:(⟨decide (n < 0),dig 65536 n.natAbs⟩:Wh)=wh n:=rfl
theorem yi1 (n:Int) (h1: -9223372036854775808<=n) (h2:n<=9223372036854775807):
  Ct Tryz.prog 84 [tI n] (tWh (wh n)):=by
 refine Ct.intro func84 rfl ntmps84 rfl ?_;intro w F;refine A2 ?_;refine RE (xb8 (k:=2) (n:=2) (agg:=true) zr24.1 zr24.2 rfl) trivial trivial qA ?_;refine A6 ?_;refine R1 (Does.rowV (ts:=[tB (decide (n < 0)),tE (.slice none 0 0)]) (es:=[.val (tB (decide (n < 0))),.val (tE (.slice none 0 0))]) rfl (ys5 (r:=tS [⟨1,false,tB (decide (n < 0))⟩,⟨1,false,tE (.slice none 0 0)⟩]) (ts:=[(0,tB (decide (n < 0)))]) bu24 (z:= .agg #[.bool false,.slice none 0 0]) (t:=tS [⟨1,false,tE (.bool false)⟩,⟨1,false,tE (.slice none 0 0)⟩]) (fun _ _=>⟨_,rfl,rfl,⟨fun _=>rfl,rfl⟩,⟨fun _=>rfl,rfl⟩,trivial⟩) ⟨_,rfl⟩ rfl ⟨_,_,_,_,rfl,Up.f (fs:=[⟨1,false,tE (.bool false)⟩,⟨1,false,tE (.slice none 0 0)⟩]) (f:=⟨1,false,tE (.bool false)⟩) (fs':=[⟨1,false,tB (decide (n < 0))⟩,⟨1,false,tE (.slice none 0 0)⟩]) 0 rfl rfl rfl,inferInstance,zao⟩)) rfl (RE (ju6 (k:=3) (n:=2) [.bool false,.slice none 0 0] zr24.1 rfl rfl rfl rfl) trivial trivial qA (RE (jr7 ti24 rfl rfl rfl) qB qA trivial ?_));refine A3 ?_;refine yo1 (q:=3) 103 140 1 false 1 rfl rfl rfl rfl (fun _=>rfl) rfl rfl ?_;refine A2 ?_;refine R1 (xa8 zgj (isS zgo) toU64) rfl ?_;refine A3 ?_;refine xi4 (fun (v:Nat)=>v=n.natAbs) (fun (v:Nat)=>uV (uO (uO uN 2 (.ptr 2 0)) 3 (.ptr 3 0)) 4 (tE (.int .u64 ((v:Nat):Int)))) (fun (v:Nat)=>uK (uK (uK uN 2 24 2 true [.val (tWh ⟨false,[]⟩)]) 3 24 1 false [.val (tB (decide (n < 0))),.own (.sl 103 1 0 0)]) 103 140 1 false (rW .u16 [])) (nm [2,3,103]) ?_ ?_
 ·
  refine A6 ?_;refine x9 rfl (fun h11=> ?_) (fun h11=> ?_)
  ·
   refine A2 ?_;refine R1 (d_neg (negU64 (by omega))) rfl ?_;refine A2 ?_;exact kF ((18446744073709551616 - (n%18446744073709551616).toNat)%18446744073709551616) (by omega)
  ·
   refine A1 ?_;exact kF ((n%18446744073709551616).toNat) (by omega)
 ·
  intro v hv;have hvl:=zd8 v (by omega);refine A2 ?_;refine cL (fun (fm:(Nat)×(Nat)×(List Nat))=>(fun (i:Nat) (u:Nat) (cs:List Nat)=>i<=(dig 65536 v).length/\u=v / 65536 ^ i/\cs=dgs 65536 i v/\u < 18446744073709551616) fm.1 fm.2.1 fm.2.2) (wC fun (i:Nat) (u:Nat) (cs:List Nat)=>uV (uO (uO uN 2 (.ptr 2 0)) 3 (.ptr 3 0)) 4 (tE (.int .u64 ((u:Nat):Int)))) (wC fun (i:Nat) (u:Nat) (cs:List Nat)=>uK (uK (uK uN 2 24 2 true [.val (tWh ⟨false,[]⟩)]) 3 24 1 false [.val (tB (decide (n < 0))),.own (.sl 103 1 0 cs.length)]) 103 140 1 false (rW .u16 cs)) [2,3,103] (fun (fm:(Nat)×(Nat)×(List Nat))=>(fun (i:Nat) (u:Nat) (cs:List Nat)=>u) fm.1 fm.2.1 fm.2.2) ((0,v,[])) (by dsimp only;exact ⟨zbt _,by simp,rfl,by omega⟩) ?_;intro fm hI;obtain ⟨i,u,cs⟩:=fm;replace hI:i<=(dig 65536 v).length/\u=v / 65536 ^ i/\cs=dgs 65536 i v/\u < 18446744073709551616:=hI;show wc _ _ _ _ (uV (uO (uO uN 2 (.ptr 2 0)) 3 (.ptr 3 0)) 4 (tE (.int .u64 ((u:Nat):Int)))) (uK (uK (uK uN 2 24 2 true [.val (tWh ⟨false,[]⟩)]) 3 24 1 false [.val (tB (decide (n < 0))),.own (.sl 103 1 0 cs.length)]) 103 140 1 false (rW .u16 cs)) _;obtain ⟨hi,hu,hcs,hu64⟩:=hI;have hcl:cs.length=i:=by rw [hcs,xn2]
  refine A7 ?_;refine x9 rfl (fun h14=> ?_) (fun h14=> ?_)
  ·
   refine A6 ?_;refine RE (xa5 (1) ti22 rfl rfl) qA qA trivial ?_;refine A1 ?_;refine R1 (xa8 (r:=((u%65536:Nat):Int)) zgi (isS zgj) (by rw [mu16];omega)) rfl (R1 (xu5 (n:=1) [u%65536] zgf el140 zf140 rfl rfl rfl) rfl (RE (xb3 (k:=103) (k':=23) (ts':=rW .u16 (cs++[u%65536])) zgf el140 zf140 rfl rfl (fun _=>inferInstance) xo7 (by simp;omega) (by simp;omega) (by simp [rW]) (n':=cs.length+1) rfl) ⟨rfl,rfl,trivial⟩ ⟨rfl,trivial⟩ ⟨rfl,trivial⟩ ?_));refine A1 ?_;refine RE (xc1 (es:=1) (agg:=false) (1) ti22 rfl rfl rfl) qB qA trivial ?_;refine A5 ?_;refine R2 (ya2 (by decide) (shr16 hu64)) rfl rfl ?_;refine A2 ?_;obtain ⟨n1,n2,n3⟩:=jh0 hu (by omega);exact xe3 (l:=[2,3,103]) (zab 103 23) ((i+1,u / 65536,cs++[u%65536])) ⟨(by dsimp only;exact ⟨n1,n2,by rw [hcs];exact n3,by omega⟩),(by dsimp only;omega)⟩ (zaf rfl (zas rfl (zas rfl zbd))) ((zbb rfl (zat yf3.symm)) ((zbb rfl (zat (by dsimp only;rw [zbm];rfl))) ((zbb rfl zap) zbe))) (zaj (zak rfl (zak rfl zar))) (zam rfl (supJ xn3) (zam rfl (supJL rfl) (zam rfl (supJL rfl) zaz))) (lkOk rfl) rfl rfl (fun _ h=>by cases h)
  ·
   refine A6 ?_;refine wc0 (q:=3) (j:=103) (f:=fun n:Nat=>tE (.int .u16 n)) (xs:=cs) 1 rfl rfl rfl rfl (NoLbK.of fun _ h=>h) (y6 rfl) rfl rfl ?_;refine A1 ?_;refine RE (w9 (us:=[tB (decide (n < 0)),tLm cs]) (t:=tWh ⟨(decide (n < 0)),cs⟩) ti24 rfl rfl rfl rfl) qA qA trivial ?_;refine A4 ?_;exact EC rfl ⟨_,_,_,_,_,rfl,rfl,ti24,(Le.of (by rw [<-wh_of,hcs,jo4 (by rw [<-hu];omega) hi,hv]))⟩
instance fi84:FnI Tryz.prog 84:=⟨_,func84,by kernel_rfl,rfl⟩
theorem zr26:(Tryz.prog.info? 26).bind (·.zero)=some (.agg #[.bool false,.slice none 0 0,.bool false,.slice none 0 0])/\ ∀F w,zad.p F w (.agg #[.bool false,.slice none 0 0,.bool false,.slice none 0 0]):=⟨by kernel_rfl,fun _ _=>⟨_,rfl,rfl,⟨fun h=>Bool.noConfusion h,⟨_,rfl,rfl,⟨fun _=>rfl,rfl⟩,⟨fun _=>rfl,⟨none,0,rfl,zbq _,by decide,.inl rfl⟩⟩,trivial⟩⟩,⟨fun h=>Bool.noConfusion h,⟨_,rfl,rfl,⟨fun _=>rfl,rfl⟩,⟨fun _=>rfl,⟨none,0,rfl,zbq _,by decide,.inl rfl⟩⟩,trivial⟩⟩,trivial⟩⟩
theorem bu26:BuI Tryz.prog 26 (fun i=>[(0,2),(2,2)][i]?) (.agg #[.bool false,.slice none 0 0,.bool false,.slice none 0 0]):=BuI.struct underlying26 (by kernel_rfl) (by kernel_rfl)
def kfr (n d:Int):Rat:=if d < 1 then 0 else Rat.divInt n d
theorem zo6 {n d:Int} (h:d < 1∨n=0):kfr n d=0:=by
 rw [kfr];rcases h with h | h
 ·rw [if_pos h]
 ·subst h;split
  ·rfl
  ·exact Rat.zero_divInt d
theorem wd8 {n d:Int} (h: ¬d < 1):kfr n d=Rat.divInt n d:=if_neg h
theorem qm7:fr 0=⟨⟨false,[]⟩,wh 1⟩:=by
 have e1:(0:Rat).num=0:=rfl;have e2:(((0:Rat).den:Nat):Int)=1:=rfl;rw [fr,e1,e2,qk4]
theorem jb5 {n d:Int} {a:Nat} (hd: ¬d < 1) (ha:a=Nat.gcd n.natAbs d.natAbs):0 < a/\(a:Int)<=d/\n.tdiv a=n / (a:Int)/\d.tdiv a=d / (a:Int)/\fr (Rat.divInt n d)=⟨wh (n / (a:Int)),wh (d / (a:Int))⟩/\(n / (a:Int)).natAbs<=n.natAbs/\(d / (a:Int)).natAbs<=d.natAbs/\(n<=0->n / (a:Int)<=0)/\(0<=n->0<=n / (a:Int))/\0<=d / (a:Int):=by
 have h0:0 < a:=by rw [ha];exact Nat.gcd_pos_of_pos_right _ (by omega)
 have h1:a<=d.natAbs:=by rw [ha];exact Nat.le_of_dvd (by omega) (Nat.gcd_dvd_right _ _)
 have h2:(a:Int) ∣ n:=Int.dvd_natAbs.1 (Int.natCast_dvd_natCast.2 (ha▸Nat.gcd_dvd_left _ _));have h3:(a:Int) ∣ d:=Int.dvd_natAbs.1 (Int.natCast_dvd_natCast.2 (ha▸Nat.gcd_dvd_right _ _));refine ⟨h0,by omega,Int.tdiv_eq_ediv_of_dvd h2,Int.tdiv_eq_ediv_of_dvd h3,?_,Int.natAbs_ediv_le_natAbs _ _,Int.natAbs_ediv_le_natAbs _ _,fun h=> ?_,fun h=>Int.ediv_nonneg h (by omega),Int.ediv_nonneg (by omega) (by omega)⟩
 ·have h4:=yo6 (n:=n) (d:=d) (by omega);have h5:(Int.gcd n d)=a:=by rw [ha];rfl
  rw [h5] at h4;exact h4
 ·have:=Int.ediv_le_ediv (show 0 < (a:Int) by omega) h;simpa using this
theorem jz4 (n d:Int) (h1: -9223372036854775808<=n) (h2:n<=9223372036854775807) (h3: -9223372036854775808<=d) (h4:d<=9223372036854775807):
  Ct Tryz.prog 53 [tI n,tI d] (tFr (fr (kfr n d))):=by
 refine Ct.intro func53 rfl ntmps53 rfl ?_;intro w F;refine A2 ?_;refine RE (xb8 (k:=4) (n:=4) (agg:=true) zr26.1 zr26.2 rfl) trivial trivial qA ?_;refine A8 ?_;refine RGcaseD (t:=9) rfl (fun h22=> ?_) (fun h22=> ?_)
 ·
  have hK:=zo6 (n:=n) (d:=d) (.inl h22);refine A8 ?_;refine R1 (x4 (yi1 1 (by decide) (by decide)) fi84 rfl) rfl (R1 (xd3 (r:=tS [⟨2,true,zac⟩,⟨2,true,tWh (wh 1)⟩]) (ts:=[(1,tWh (wh 1))]) bu26 zr26.2 (Bc 1 rfl rfl rfl zao)) rfl ?_);refine A5 ?_;exact EC rfl ⟨_,_,_,_,_,rfl,rfl,ti26,(Le.of (by rw [hK,qm7]))⟩
 ·
  have hd: ¬d < 1:=h22;refine A5 ?_;refine x9 rfl (fun h22_2=> ?_) (fun h22_2=> ?_)
  ·
   have hK:=zo6 (n:=n) (d:=d) (.inr h22_2);refine A2 ?_;refine R1 (x4 (yi1 1 (by decide) (by decide)) fi84 rfl) rfl (R1 (xd3 (r:=tS [⟨2,true,zac⟩,⟨2,true,tWh (wh 1)⟩]) (ts:=[(1,tWh (wh 1))]) bu26 zr26.2 (Bc 1 rfl rfl rfl zao)) rfl ?_);refine A5 ?_;exact EC rfl ⟨_,_,_,_,_,rfl,rfl,ti26,(Le.of (by rw [hK,qm7]))⟩
  ·
   refine A5 ?_;refine R1 (xa8 zgj (isS zgo) toU64) rfl ?_;refine A1 ?_;refine R1 (xa8 (r:=((d.natAbs:Nat):Int)) zgj (isS zgo) (by rw [mu64];omega)) rfl ?_;refine A4 ?_;refine xi4 (fun (v:Nat)=>v=n.natAbs) (fun (v:Nat)=>uV (uV (uO (uV (uV uN 0 (tI n)) 1 (tI d)) 4 (.ptr 4 0)) 5 (tE (.int .u64 ((v:Nat):Int)))) 6 (tE (.int .u64 ((d.natAbs:Nat):Int)))) (fun (v:Nat)=>uK uN 4 26 4 true [.val (tFr fr0)]) (nm [4]) ?_ ?_
   ·
    refine A6 ?_;refine x9 rfl (fun h26=> ?_) (fun h26=> ?_)
    ·
     refine A2 ?_;refine R1 (d_neg (negU64 (by omega))) rfl ?_;refine A2 ?_;exact kF ((18446744073709551616 - (n%18446744073709551616).toNat)%18446744073709551616) (by omega)
    ·
     refine A1 ?_;exact kF ((n%18446744073709551616).toNat) (by omega)
   ·
    intro v hv;refine A2 ?_;refine cL (fun (fm:(Nat)×(Nat))=>(fun (a:Nat) (b:Nat)=>Nat.gcd a b=Nat.gcd v d.natAbs/\a < 18446744073709551616/\b < 18446744073709551616) fm.1 fm.2) (wB fun (a:Nat) (b:Nat)=>uV (uV (uO (uV (uV uN 0 (tI n)) 1 (tI d)) 4 (.ptr 4 0)) 5 (tE (.int .u64 ((a:Nat):Int)))) 6 (tE (.int .u64 ((b:Nat):Int)))) (wB fun (a:Nat) (b:Nat)=>uK uN 4 26 4 true [.val (tFr fr0)]) [4] (fun (fm:(Nat)×(Nat))=>(fun (a:Nat) (b:Nat)=>b) fm.1 fm.2) ((v,d.natAbs)) (by dsimp only;exact ⟨rfl,by omega,by omega⟩) ?_;intro fm hI;obtain ⟨a,b⟩:=fm;replace hI:Nat.gcd a b=Nat.gcd v d.natAbs/\a < 18446744073709551616/\b < 18446744073709551616:=hI;show wc _ _ _ _ (uV (uV (uO (uV (uV uN 0 (tI n)) 1 (tI d)) 4 (.ptr 4 0)) 5 (tE (.int .u64 ((a:Nat):Int)))) 6 (tE (.int .u64 ((b:Nat):Int)))) (uK uN 4 26 4 true [.val (tFr fr0)]) _;obtain ⟨hg,ha64,hb64⟩:=hI;refine A7 ?_;refine x9 rfl (fun h29=> ?_) (fun h29=> ?_)
    ·
     refine A7 ?_;refine R2 (ya4 (r:=((a%b:Nat):Int)) (by omega) wrem64) rfl rfl ?_;refine A4 ?_;have hbp:0 < b:=by omega
     have hlt:=zfb a hbp;exact kF ((b,a%b)) ⟨(by dsimp only;exact ⟨by rw [zgb b,<-Nat.gcd_rec,zgb];exact hg,hb64,by omega⟩),(by dsimp only;omega)⟩
    ·
     refine A6 ?_;have hb0:b=0:=by omega
     subst hb0;rw [Nat.gcd_zero_right,hv] at hg;obtain ⟨g1,g2,g3,g4,g5,g6,g7,g8,g9,g10⟩:=jb5 (n:=n) hd hg;refine A3 ?_;refine R1 (xa8 (r:=(a:Int)) zgo (isS zgj) zah) rfl (R2 (ya8 (r:=n / (a:Int)) (by omega) (by rw [g3];exact wr64 (by omega) (by omega))) rfl rfl (R1 (x4 (yi1 _ (by omega) (by omega)) fi84 rfl) rfl ?_));refine A2 ?_;refine R1 (xa8 (r:=(a:Int)) zgo (isS zgj) zah) rfl (R2 (ya8 (r:=d / (a:Int)) (by omega) (by rw [g4];exact wr64 (by omega) (by omega))) rfl rfl (R1 (x4 (yi1 _ (by omega) (by omega)) fi84 rfl) rfl (R2 (xd3 (r:=tS [⟨2,true,tWh (wh (n / (a:Int)))⟩,⟨2,true,tWh (wh (d / (a:Int)))⟩]) (ts:=[(0,tWh (wh (n / (a:Int)))),(1,tWh (wh (d / (a:Int))))]) bu26 zr26.2 (Bc 0 rfl rfl rfl (Bc 1 rfl rfl rfl zao))) rfl rfl ?_)));refine A4 ?_;exact EC rfl ⟨_,_,_,_,_,rfl,rfl,ti26,(Le.of (by rw [wd8 hd,g5]))⟩
instance fi53:FnI Tryz.prog 53:=⟨_,func53,by kernel_rfl,rfl⟩
instance fi69:FnI Tryz.prog 69:=⟨_,func69,by kernel_rfl,rfl⟩
instance fi70:FnI Tryz.prog 70:=⟨_,func70,by kernel_rfl,rfl⟩
theorem zr28:(Tryz.prog.info? 28).bind (·.zero)=some (.agg #[.int .u8 0,.bool false,.slice none 0 0,.bool false,.slice none 0 0,.int .i64 0])/\ ∀F w,(tS [⟨1,false,(tE (.int .u8 0))⟩,⟨4,true,zad⟩,⟨1,false,(tE (.int .i64 0))⟩]).p F w (.agg #[.int .u8 0,.bool false,.slice none 0 0,.bool false,.slice none 0 0,.int .i64 0]):=⟨by kernel_rfl,fun _ _=>⟨_,rfl,rfl,⟨fun _=>rfl,rfl⟩,⟨fun h=>Bool.noConfusion h,⟨_,rfl,rfl,⟨fun h=>Bool.noConfusion h,⟨_,rfl,rfl,⟨fun _=>rfl,rfl⟩,⟨fun _=>rfl,⟨none,0,rfl,zbq _,by decide,.inl rfl⟩⟩,trivial⟩⟩,⟨fun h=>Bool.noConfusion h,⟨_,rfl,rfl,⟨fun _=>rfl,rfl⟩,⟨fun _=>rfl,⟨none,0,rfl,zbq _,by decide,.inl rfl⟩⟩,trivial⟩⟩,trivial⟩⟩,⟨fun _=>rfl,rfl⟩,trivial⟩⟩
theorem bu28:BuI Tryz.prog 28 (fun i=>[(0,1),(1,4),(5,1)][i]?) (.agg #[.int .u8 0,.bool false,.slice none 0 0,.bool false,.slice none 0 0,.int .i64 0]):=BuI.struct underlying28 (by kernel_rfl) (by kernel_rfl)
theorem qu9 (n d:Int) (h1: -9223372036854775808<=n) (h2:n<=9223372036854775807) (h3: -9223372036854775808<=d) (h4:d<=9223372036854775807):
  Ct Tryz.prog 14 [tI n,tI d] (tVa ⟨2,fr (kfr n d),0⟩):=by
 refine Ct.intro func14 rfl ntmps14 rfl ?_;intro w F;refine A2 ?_;refine RE (xb8 (k:=4) (n:=6) (agg:=true) zr28.1 zr28.2 rfl) trivial trivial qA ?_;refine A6 ?_;refine R2 (x4 (jz4 n d h1 h2 h3 h4) fi53 rfl) rfl rfl (R2 (xd3 (r:=tS [⟨1,false,tE (.int .u8 2)⟩,⟨4,true,tFr (fr (kfr n d))⟩,⟨1,false,(tE (.int .i64 0))⟩]) (ts:=[(0,tE (.int .u8 2)),(1,tFr (fr (kfr n d)))]) bu28 zr28.2 (Bc 0 rfl rfl rfl (Bc 1 rfl rfl rfl zao))) rfl rfl ?_);refine A4 ?_;exact EC rfl ⟨_,_,_,_,_,rfl,rfl,ti28,(Le.of rfl)⟩
theorem yq5 (x y:Va):
  Ct Tryz.prog 36 [tVa x,tVa y] (tB (decide (x=y))):=by
 refine Ct.intro func36 rfl ntmps36 rfl ?_;intro w F;refine A15 ?_;refine RGcaseD (t:=10) rfl (fun h34=> ?_) (fun h34=> ?_)
 ·
  refine A7 ?_;refine RGcaseD (t:=17) rfl (fun h34_2=> ?_) (fun h34_2=> ?_)
  ·
   refine A4 ?_;refine Rg (zbf h34_2) rfl (x4 (xp3 _ _) fi69 rfl) rfl qB ?_;refine A5 ?_;exact E1 rfl rfl (zau (by obtain ⟨a,b,e⟩:=x;obtain ⟨c,d,f⟩:=y;simp only [Va.mk.injEq] at*;simp_all <;> omega))
  ·
   refine A10 ?_;exact E1 rfl rfl (zau (by obtain ⟨a,b,e⟩:=x;obtain ⟨c,d,f⟩:=y;simp only [Va.mk.injEq] at*;simp_all <;> omega))
 ·
  refine A17 ?_;exact E1 rfl rfl (zau (by obtain ⟨a,b,e⟩:=x;obtain ⟨c,d,f⟩:=y;simp only [Va.mk.injEq] at*;simp_all <;> omega))
theorem va23 {v:Va} {b:Bool} (h:(v.kind:Int)=2∨(v.kind:Int)=3) (hb:b=(decide (v.i=0) && v.f.valid)):b=v.valid:=by
 rw [Va.valid,if_pos (by omega)];exact hb
theorem va1 {v:Va} {b:Bool} (h:(v.kind:Int)=1) (hb:b=(decide (v.f=fr0) && decide (0<=v.i) && decide (v.i<=1))):b=v.valid:=by
 rw [Va.valid,if_neg (by omega),if_pos (by omega)];exact hb
theorem va4 {v:Va} {b:Bool} (h:(v.kind:Int)=4) (hb:b=(decide (v.f=fr0) && decide (0<=v.i) && decide (v.i < 65536))):b=v.valid:=by
 rw [Va.valid,if_neg (by omega),if_neg (by omega),if_pos (by omega)];exact hb
theorem va56 {v:Va} {b:Bool} (h:(v.kind:Int)=5∨(v.kind:Int)=6) (hb:b=(decide (v.f=fr0) && decide (-1048576<=v.i) && decide (v.i<=1048576))):b=v.valid:=by
 rw [Va.valid,if_neg (by omega),if_neg (by omega),if_neg (by omega),if_pos (by omega)];exact hb
theorem va0 {v:Va} (h1: ¬((v.kind:Int)=2∨(v.kind:Int)=3)) (h2: ¬(v.kind:Int)=1) (h3: ¬(v.kind:Int)=4) (h4: ¬((v.kind:Int)=5∨(v.kind:Int)=6)):false=v.valid:=by
 rw [Va.valid,if_neg (by omega),if_neg (by omega),if_neg (by omega),if_neg (by omega)]
end An.S
namespace An
open Go
theorem xq7 {n i:Nat} {f:Nat->Bool} (hi:i < n) (h:f i=false):(List.range n).all f=false:=by
 rw [List.all_eq_false];exact ⟨i,zcx.2 hi,by simp [h]⟩
theorem xj1 {i:Nat} {f:Nat->Bool}:(List.range (i+1)).all f=((List.range i).all f && f i):=by
 rw [List.range_succ,List.all_append];simp
theorem xv9 {l:List Tst} {i:Nat}:tOk l i=true↔0<=(l.getD i tst0).lo/\(l.getD i tst0).lo < (l.getD i tst0).hi/\(l.getD i tst0).hi<=65536/\(i=0∨(l.getD (i - 1) tst0).hi<=(l.getD i tst0).lo/\(l.getD (i - 1) tst0).v.kind=(l.getD i tst0).v.kind/\ ¬((l.getD (i - 1) tst0).hi=(l.getD i tst0).lo/\(l.getD (i - 1) tst0).v=(l.getD i tst0).v)):=by
 simp only [tOk,zbv,zdp,zew,Bool.and_eq_false_iff,zbw,decide_eq_false_iff_not,and_assoc,Decidable.not_and_iff_not_or_not]
theorem xq2 {l:List Tst} {i:Nat} (hi:i < l.length) (h: ¬(0<=(l.getD i tst0).lo/\(l.getD i tst0).lo < (l.getD i tst0).hi/\(l.getD i tst0).hi<=65536/\(i=0∨(l.getD (i - 1) tst0).hi<=(l.getD i tst0).lo/\(l.getD (i - 1) tst0).v.kind=(l.getD i tst0).v.kind/\ ¬((l.getD (i - 1) tst0).hi=(l.getD i tst0).lo/\(l.getD (i - 1) tst0).v=(l.getD i tst0).v)))):false=tRight l:=by
 rw [tRight,xq7 hi (Bool.eq_false_iff.2 fun h'=>h (xv9.1 h'))];rfl
def ixF (p:Tst->Bool) (l:List Tst):Int:=if l.any p then ((l.takeWhile fun s=> !p s).length:Int) else -1
theorem ji7 {p:Tst->Bool}: ∀{l:List Tst} {i:Nat},i < l.length->(l.take i).any p=false->p (l.getD i tst0)=true->(i:Int)=ixF p l
 | [],i,hi,_,_=>by simp at hi
 | x::xs,0,_,_,h=>by
  have h:p x=true:=h;simp [ixF,h]
 | x::xs,i+1,hi,ha,h=>by
  simp only [List.take_succ_cons,List.any_cons,Bool.or_eq_false_iff] at ha;have h2:p (xs.getD i tst0)=true:=by simpa using h
  have hi2:i < xs.length:=by simpa using hi
  have ih:=ji7 hi2 ha.2 h2;have hany:xs.any p=true:=List.any_eq_true.2 ⟨xs.getD i tst0,by rw [zbh,zbi hi2];exact zfa hi2,h2⟩;rw [ixF,if_pos hany] at ih;simp only [ixF,List.any_cons,ha.1,hany,Bool.or_true,if_true,Bool.not_false,List.takeWhile_cons,zdb];omega
theorem wi0 {p:Tst->Bool} {l:List Tst} (h:l.any p=false): -1=ixF p l:=by simp [ixF,h]
theorem wb5 {p:Tst->Bool} {l:List Tst}:decide (ixF p l≥0)=l.any p:=by
 rw [ixF];cases l.any p with
 | true=>simp
 | false=>simp
theorem any_next {p:Tst->Bool} {l:List Tst} {i:Nat} (hi:i < l.length):(l.take (i+1)).any p=((l.take i).any p || p (l.getD i tst0)):=by
 rw [zca hi,List.any_append,zbh,zbi hi];simp
theorem we5 {l:List Tst}:(!l.any fun s=> !s.v.valid)=l.all fun s=>s.v.valid:=by
 rw [List.not_any_eq_all_not];simp
theorem xg4 {l:List Tst} {i:Nat} (hi:i < l.length):l.getD i tst0∈l:=by
 rw [zbh,zbi hi];exact zfa hi
theorem q8 {l:List Tst} (h:tRight l=true): ∀s∈l,s.v.valid=true:=by
 simp only [tRight,zbv,zdk] at h;exact h.2
def pst1 (acc:List Tst) (s:Tst):List Tst:=
 if s.hi<=s.lo then acc
 else if 0 < acc.length/\(acc.getD (acc.length - 1) tst0).hi=s.lo/\(acc.getD (acc.length - 1) tst0).v=s.v then acc.set (acc.length - 1) ⟨(acc.getD (acc.length - 1) tst0).lo,s.hi,(acc.getD (acc.length - 1) tst0).v⟩
 else acc++[s]
def pst (acc ps:List Tst):List Tst:=ps.foldl pst1 acc
theorem pst1_len (acc:List Tst) (s:Tst):(pst1 acc s).length<=acc.length+1:=by
 rw [pst1];split
 ·omega
 ·split
  ·simp
  ·simp
theorem zg1: ∀(ps acc:List Tst),(pst acc ps).length<=acc.length+ps.length
 | [],acc=>by simp [pst]
 | s::r,acc=>by
  have h1:=zg1 r (pst1 acc s);have h2:=pst1_len acc s;simp only [pst,List.foldl_cons,zdb] at*
  omega
end An
namespace An.S
open Go Go.Proofs An Tryz
instance ti55:TyI Tryz.prog 55 8 true:=⟨by kernel_rfl,by kernel_rfl⟩
instance sl38:SlI Tryz.prog 38 55 8 true:=⟨zgp,ti55⟩
instance fo55_0:FoI Tryz.prog 55 0 0:=⟨by kernel_rfl⟩
instance fo55_1:FoI Tryz.prog 55 1 1:=⟨by kernel_rfl⟩
instance fo55_2:FoI Tryz.prog 55 2 2:=⟨by kernel_rfl⟩
instance fi36:FnI Tryz.prog 36:=⟨_,func36,by kernel_rfl,rfl⟩
instance fi37:FnI Tryz.prog 37:=⟨_,func37,by kernel_rfl,rfl⟩
instance fi171:FnI Tryz.prog 171:=⟨_,func171,by kernel_rfl,rfl⟩
instance fi172:FnI Tryz.prog 172:=⟨_,func172,by kernel_rfl,rfl⟩
instance fi211:FnI Tryz.prog 211:=⟨_,func211,by kernel_rfl,rfl⟩
theorem zr55:(Tryz.prog.info? 55).bind (·.zero)=some (.agg #[.int .i64 0,.int .i64 0,.int .u8 0,.bool false,.slice none 0 0,.bool false,.slice none 0 0,.int .i64 0])/\ ∀F w,(tS [⟨1,false,(tE (.int .i64 0))⟩,⟨1,false,(tE (.int .i64 0))⟩,⟨6,true,(tS [⟨1,false,(tE (.int .u8 0))⟩,⟨4,true,zad⟩,⟨1,false,(tE (.int .i64 0))⟩])⟩]).p F w (.agg #[.int .i64 0,.int .i64 0,.int .u8 0,.bool false,.slice none 0 0,.bool false,.slice none 0 0,.int .i64 0]):=⟨by kernel_rfl,fun _ _=>⟨_,rfl,rfl,⟨fun _=>rfl,rfl⟩,⟨fun _=>rfl,rfl⟩,⟨fun h=>Bool.noConfusion h,⟨_,rfl,rfl,⟨fun _=>rfl,rfl⟩,⟨fun h=>Bool.noConfusion h,⟨_,rfl,rfl,⟨fun h=>Bool.noConfusion h,⟨_,rfl,rfl,⟨fun _=>rfl,rfl⟩,⟨fun _=>rfl,⟨none,0,rfl,zbq _,by decide,.inl rfl⟩⟩,trivial⟩⟩,⟨fun h=>Bool.noConfusion h,⟨_,rfl,rfl,⟨fun _=>rfl,rfl⟩,⟨fun _=>rfl,⟨none,0,rfl,zbq _,by decide,.inl rfl⟩⟩,trivial⟩⟩,trivial⟩⟩,⟨fun _=>rfl,rfl⟩,trivial⟩⟩,trivial⟩⟩
instance un38:UnI Tryz.prog 38 (.slice 55):=⟨zgp⟩
end An.S
namespace An
open Go Go.ChangeShapes Go.WideShapes Go.ChangeAt Go.RowKit
def Old (w:World):Dom:=fun b=>b < w.heap.size
theorem qm9 {α:Type} {p:Nat->α->Prop}: ∀n:Nat,(∀i,i < n-> ∃x,p i x)-> ∃xs:List α,xs.length=n/\ ∀i x,xs[i]? =some x->p i x
 | 0,_=>⟨[],rfl,fun i x h=>by simp at h⟩
 | n+1,h=>by
  obtain ⟨xs,h1,h2⟩:=qm9 n fun i hi=>h i (by omega);obtain ⟨x,hx⟩:=h n (by omega);refine ⟨xs++[x],by simp [h1],fun i y hy=> ?_⟩;rcases zcb i n with hi | hi
  ·rw [zct (by omega)] at hy;exact h2 i y hy
  ·rw [zcr (by omega)] at hy;have hi':i=n:=by
    have:=(zbo.1 hy).1;simp at this;omega
   subst hi';simp [h1] at hy;subst hy;exact hx
section
variable {α:Type} {P:Program} {T n:Nat} {f:α->Ty} {ok:α->Prop} {r:Reach} {b0:Nat} {v:Value} {H:Type} {enc:TypeId×Value->H} {w:World} {sp:Nat->Bool} {held:Bool} {d:DataW H} {p:List MemPlace}
end
theorem Ext.below {w w':World} (h:Ext w w'):Below w.heap.size w w':=⟨h.os,h.tape,h.output,h.size,h.block⟩
end An
namespace An
open Go Go.Proofs Go.Shelf Go.Sort Tryz
section
variable {α:Type} [Inhabited α]
def srt (cf:α->α->Int) (xs:List α):List α:=(pdq (ltOf cf) xs.toArray 0 xs.toArray.size (Go.Lib.bitLen xs.toArray.size) true true).toList
theorem yj9 {cf:α->α->Int} (hO:SWO (ltOf cf)) (xs:List α):(srt cf xs).length=xs.length/\(srt cf xs).Perm xs/\(srt cf xs).Pairwise fun a b=>ltOf cf b a=false:=by
 obtain ⟨⟨h1,_,h2⟩,h3⟩:=pdq_sorts (ltOf cf) hO xs.toArray 0 xs.toArray.size (Go.Lib.bitLen xs.toArray.size) true true (zbt _) (zbq _) (Or.inl rfl);rw [srt];generalize pdq (ltOf cf) xs.toArray 0 xs.toArray.size (Go.Lib.bitLen xs.toArray.size) true true=D at*
 have e1:D.size=xs.length:=by simpa using h1
 have x1:D.extract 0 xs.toArray.size=D:=by rw [<-h1];simp
 have x2:xs.toArray.extract 0 xs.toArray.size=xs.toArray:=by simp
 rw [x1,x2] at h2;refine ⟨by simpa using e1,by simpa using h2,?_⟩;rw [zdx];intro i j hi hj hij;have hi':i < D.size:=by simpa using hi
 have hj':j < D.size:=by simpa using hj
 have h6:=h3 i j (zbt _) hij (by rw [<-h1];exact hj');rw [zfi _ i hi',zfi _ j hj'] at h6;simpa using h6
theorem wi6 {cf:α->α->Int} (hO:SWO (ltOf cf)) {xs:List α} (h:xs.Pairwise fun a b=>ltOf cf a b=true):srt cf xs=xs:=by
 have hp:=(yj9 hO xs).2.1;have hs:=(yj9 hO xs).2.2;generalize srt cf xs=ys at*
 induction xs generalizing ys with
 | nil=>exact hp.eq_nil
 | cons x xs ih=>
  cases ys with
  | nil=>exact absurd hp.symm.eq_nil (by simp)
  | cons y ys=>
   obtain ⟨h1,h2⟩:=zcg.1 h;obtain ⟨s1,s2⟩:=zcg.1 hs;have hxy:y=x:=by
    have hy:y∈x::xs:=hp.mem_iff.1 (by simp);rcases zbr.1 hy with e | hy
    ·exact e
    ·have hx:x∈y::ys:=hp.mem_iff.2 (by simp);rcases zbr.1 hx with e | hx
     ·exact e.symm
     ·have a1:=s1 x hx;have a2:=h1 y hy;rw [a2] at a1;cases a1
   subst hxy;rw [ih h2 ys (List.perm_cons y |>.1 hp) s2]
end
theorem qr1 {α:Type} [Inhabited α] {enc:α->List Value} {k:Nat} (_hk: ∀x,(enc x).length=k) (d:Array α) {i j:Nat} (hi:i < d.size) (hj:j < k):(flatK enc k d)[i*k+j]! =(enc d[i]!)[j]! :=by
 have lt:i*k+j < d.size*k:=by
  have:=zbz k (show i+1<=d.size from hi);rw [zdh,Nat.one_mul] at this;omega
 rw [get_flatK _ _ _ _ lt];have e1:(i*k+j) / k=i:=by rw [zem,Nat.mul_add_div (by omega),zdv hj];omega
 have e2:(i*k+j)%k=j:=by rw [zem,Nat.mul_add_mod,zep hj]
 rw [e1,e2]
theorem sortG {P:Program} {ρ:Ren} {α:Type} [Inhabited α] (L:SlLaysF0.n6 P ρ) {T k:Nat} {f:α->Ty} {enc:α->List Value} {cf:α->α->Int} {g:Nat} (aE: ∀w,(isAgg (ρ.t 24)).run P w= .ok true w) (zE: ∀w,(Go.sizeOf (ρ.t 24)).run P w= .ok k w)
  (hk: ∀x,(enc x).length=k) (h1: ∀x,∀v∈enc x,v.oneCell'=true) (hf1: ∀F w x v,(f x).p F w v->v= .agg (enc x).toArray) (hf2: ∀F w x,(f x).p F w (.agg (enc x).toArray)) (hO:SWO (ltOf cf))
  (eg: ∀args w,(callFunc g args).run P w= .ok (.enter g args) w) (hcmp: ∀(x y:α) (W:World),Calls P g #[.agg (enc x).toArray,.agg (enc y).toArray] W fun e w'=>e= .returned (.int .i64 (cf x y))/\ ∃q os',w'=grow (W.drewN q) os') (xs:List α) (hn:xs.length < 4611686018427387904):
  CtG P (ρ.f 6) [(1,⟨T,k,true,rV f xs⟩)] [.own (.sl 1 k 0 xs.length),.val (tE (.func (.func g) #[] #[]))] (.val (tE (.tuple #[]))) [(1,⟨T,k,true,rV f (srt cf xs)⟩)] []:=by
 intro F w η vs hS hA hI hF
 match vs,hS with
 | [v0,v1],hS=>
 obtain ⟨⟨A,rfl,hle,hadr⟩,h2,_⟩:=hS;have h2:v1= .func (.func g) #[] #[]:=h2;subst h2;obtain ⟨k1,k2,k3,k4,k5⟩:=hA (1,⟨T,k,true,rV f xs⟩) (by simp);have k1:(rV f xs).length<=η.c 1:=k1;have k2:0 < k:=k2;have k4:η.c 1<=9223372036854775807:=k4;rw [xc0] at k1;obtain ⟨s1,s2,_⟩:=yj9 hO xs;by_cases h0:xs.length=0
 ·have hx:xs=[]:=zde.1 h0;subst hx;have e0:srt cf ([]:List α)=[]:=zde.1 s1;rw [e0];refine (AnyF.slices_SortFunc_none L A (η.c 1 - 0) (.func (.func g) #[] #[]) w).mono ?_;rintro e w' ⟨rfl,rfl⟩;refine ⟨_,η,rfl,⟨Stp.refl _ _,fun _ _=>⟨rfl,rfl⟩,rfl,fun x hx=> ?_,hI,fun b hb=> .inl hb⟩⟩;simp only [zbj] at hx;subst hx;refine ⟨by simp [rV],k2,k3,k4,fun hc=> ?_⟩;obtain ⟨cs,c1,c2,_⟩:=k5 hc;exact ⟨cs,c1,c2,fun i e hi=>by simp [rV] at hi⟩
 ·have hc0:0 < η.c 1:=by omega
  obtain ⟨cs,c1,c2,c3⟩:=k5 hc0;have c1:w.heap[η.b 1]? =some (.cells cs T (0,0)):=c1;have c2:cs.size=η.c 1*k:=c2;have hA':=hadr hc0;rw [zef] at hA';subst hA';have hblk:η.b 1 < w.heap.size:=xa7 c1;have hmul: ∀i,i < xs.length->i*k+k<=cs.size:=fun i hi=>by
   rw [c2,<-zcw];exact zbz _ (by omega)
  have hget: ∀i (hi:i < xs.length) j,j < k->cs[i*k+j]? =(enc xs[i])[j]? :=fun i hi j hj=>by
   have h3:=c3 i (.val (f xs[i])) (by rw [rV,zbs,zbi hi];rfl);have h4:=hf1 _ _ _ _ h3;simp only [pick,zev,zen] at h4;have h5:=congrArg (fun a:Array Value=>a[j]?) h4;simp only [zcq,zer] at h5;have:=hmul i hi;rw [if_pos (by omega)] at h5;exact h5
  have hsize:xs.toArray.size=xs.length:=by simp
  have hH:HoldsK enc k w (η.b 1) 0 xs.toArray:=by
   intro j hj;rw [size_flatK,hsize] at hj;have hj1:j / k < xs.length:=by rw [Nat.div_lt_iff_lt_mul k2];exact hj
   have hj2:j%k < k:=zfb _ k2;have hje:j / k*k+j%k=j:=by rw [zem];exact zfz j k
   have h6:=hget (j / k) hj1 (j%k) hj2;rw [hje] at h6;have h7:=qr1 hk xs.toArray (i:=j / k) (j:=j%k) (by rw [hsize];exact hj1) hj2;rw [hje] at h7;have hlen:j%k < (enc xs[j / k]).length:=by rw [hk];exact hj2
   have h8:xs.toArray[j / k]! =xs[j / k]:=by rw [zfi _ _ (by rw [hsize];exact hj1)];simp
   refine ⟨?_,?_⟩
   ·show w.cell? ⟨η.b 1,0+j,none⟩=some (flatK enc k xs.toArray)[j]!;rw [h7,h8,zfi (enc xs[j / k]) (j%k) hlen];simp only [World.cell?,c1,zcn,Option.isSome_none,zfm,if_false];rw [h6,zbi hlen]
   ·simp [World.frozen?,c1]
  have hcon:=AnyQ.slices_SortFunc_eq L k aE zE enc hk h1 cf hO g #[] (η.b 1) 0 (η.c 1 - 0) xs.toArray w eg (fun m os dk _ x y=>hcmp x y _) hH hblk (by rw [hsize];exact hn);rw [hsize] at hcon;refine hcon.mono ?_;rintro e w' ⟨rfl,m,os,rfl⟩;have hd:(pdq (ltOf cf) xs.toArray 0 xs.length (Go.Lib.bitLen xs.length) true true).size=xs.length:=by
   have:(srt cf xs).length=xs.length:=s1;simpa [srt] using this
  have hl:(pdq (ltOf cf) xs.toArray 0 xs.length (Go.Lib.bitLen xs.length) true true).toList=srt cf xs:=by simp [srt]
  generalize pdq (ltOf cf) xs.toArray 0 xs.length (Go.Lib.bitLen xs.length) true true=d at hd hl;have hheap: ∀b',b' < w.heap.size->(sortWorldK enc k w (η.b 1) 0 m d os).heap[b']? =if b'=η.b 1 then some (.cells (putCells id 0 (flatK enc k d) cs) T (0,0)) else w.heap[b']? :=fun b' hb'=>by
   show (grow (putRowK enc k (Sort.ahead w m) (η.b 1) 0 d) os).heap[b']? =_;rw [heap_grow_old _ _ (by simp [putRowK];exact hb')];simp only [putRowK,putRow,mapBlock,Array.getElem?_modify];by_cases hb:b'=η.b 1
   ·subst hb;rw [if_pos rfl,if_pos rfl];show Option.map _ (w.heap[η.b 1]?)=_;rw [c1];rfl
   ·rw [if_neg (fun h=>hb h.symm),if_neg hb];rfl
  have hsz:w.heap.size<=(sortWorldK enc k w (η.b 1) 0 m d os).heap.size:=by
   show w.heap.size<=(grow (putRowK enc k (Sort.ahead w m) (η.b 1) 0 d) os).heap.size;simp [grow,putRowK,putRow,mapBlock,Sort.ahead]
  refine ⟨_,η,rfl,⟨⟨rfl,rfl,rfl,hsz,fun b' hb' hn'=> ?_⟩,fun _ _=>⟨rfl,rfl⟩,rfl,fun x hx=> ?_,fun x hx y hy hne=> ?_,fun b' hb'=> .inl ?_⟩⟩
  ·rw [hheap b' hb',if_neg];intro hb;exact hn' ⟨(1,⟨T,k,true,rV f xs⟩),by simp,hc0,hb⟩
  ·simp only [zbj] at hx;subst hx;refine ⟨by rw [xc0,s1];exact k1,k2,k3,k4,fun _=>⟨putCells id 0 (flatK enc k d) cs,?_,?_,fun i e hi=> ?_⟩⟩
   ·rw [hheap _ hblk,if_pos rfl]
   ·simp only [putCells,Array.size_mapIdx];exact c2
   ·have hil:i < (srt cf xs).length:=by
     have:=(zbo.1 hi).1;rwa [xc0] at this
    have hi2:i < xs.length:=by rw [<-s1];exact hil
    rw [rV,zbs,zbi hil] at hi;simp only [zdm,zck] at hi;subst hi;have hdi:d[i]! =(srt cf xs)[i]:=by
     rw [zfi d i (by rw [hd];exact hi2)];simp only [<-hl,Array.getElem_toList]
    have:pick true k (putCells id 0 (flatK enc k d) cs) (i*k)= .agg (enc (srt cf xs)[i]).toArray:=by
     simp only [pick,zev,zen];apply zdi;intro j;rw [zcq];have hm:=hmul i hi2;simp only [zer];by_cases hj:j < k
     ·rw [if_pos (by simp only [putCells,Array.size_mapIdx];omega)];have hlt:i*k+j < d.size*k:=by
       rw [hd];have:=zbz k (show i+1<=xs.length from hi2);rw [zdh,Nat.one_mul] at this;omega
      simp only [putCells,Array.getElem?_mapIdx,size_flatK];have hcs:cs[i*k+j]? =some (cs[i*k+j]'(by omega)):=by rw [zcm]
      rw [hcs];simp only [zdm];rw [if_pos ⟨zbt _,by omega⟩,Nat.sub_zero,qr1 hk d (by rw [hd];exact hi2) hj,hdi];have hjl:j < (enc (srt cf xs)[i]).length:=by rw [hk];exact hj
      rw [zfi (enc (srt cf xs)[i]) j hjl,zbi hjl];rfl
     ·rw [if_neg (by simp only [putCells,Array.size_mapIdx];omega),zcv (by rw [hk];omega)]
    simp only [];rw [this];exact hf2 _ _ _
  ·simp only [zbj] at hx hy;subst hx;subst hy;exact absurd rfl hne
  ·obtain ⟨x,hx,hc,rfl⟩:=hb';simp only [zbj] at hx;subst hx;exact ⟨(1,⟨T,k,true,rV f xs⟩),by simp,hc,rfl⟩
end An
namespace An.S
open Go Go.Proofs An Tryz
open Go.RowKit Go.Sort
instance fo83_0:FoI Tryz.prog 83 0 0:=⟨by kernel_rfl⟩
instance fo83_1:FoI Tryz.prog 83 1 1:=⟨by kernel_rfl⟩
instance fi176:FnI Tryz.prog 176:=⟨_,func176,by kernel_rfl,rfl⟩
instance fi177:FnI Tryz.prog 177:=⟨_,func177,by kernel_rfl,rfl⟩
theorem el83:ElI Tryz.prog 83 2 16 true (.agg #[.int .i64 0,.int .i64 0]):=⟨ti83,by kernel_rfl,by kernel_rfl⟩
theorem zr83:(Tryz.prog.info? 83).bind (·.zero)=some (.agg #[.int .i64 0,.int .i64 0])/\ ∀F w,(tS [⟨1,false,(tE (.int .i64 0))⟩,⟨1,false,(tE (.int .i64 0))⟩]).p F w (.agg #[.int .i64 0,.int .i64 0]):=⟨by kernel_rfl,fun _ _=>⟨_,rfl,rfl,⟨fun _=>rfl,rfl⟩,⟨fun _=>rfl,rfl⟩,trivial⟩⟩
theorem zf83:Flat 2 true (.agg #[.int .i64 0,.int .i64 0]):=xv1 (by intro u hu;simp at hu;rcases hu with rfl | rfl <;> rfl)
def cmpI (a b:Int):Int:=if a < b then -1 else if b < a then 1 else 0
theorem cmpInt (a b:Int) (W:World):Calls Tryz.prog 78 #[.int .i64 a,.int .i64 b] W fun e w'=>e= .returned (.int .i64 (cmpI a b))/\w'=W:=by
 have hn: ∀(x:Int) (W:World),Calls Tryz.prog 131 #[.int .i64 x] W fun e w'=>e= .returned (.bool false)/\w'=W:=fun x W=>by
  have h1:(x==x)=true:=by simp
  go_enter func131,ntmps131
  go_wp2
  go_ret
  exact ⟨by simp,rfl⟩
 by_cases h1:a < b
 ·rw [show cmpI a b= -1 by simp [cmpI,h1]]
  go_enter func78,ntmps78
  go_wp2_with (go_at_call 131;refine (hn _ _).mono ?_;rintro e w' ⟨rfl,rfl⟩)
  go_ret
  exact ⟨rfl,rfl⟩
 ·by_cases h2:b < a
  ·rw [show cmpI a b=1 by simp [cmpI,h1,h2]]
   go_enter func78,ntmps78
   go_wp2_with (go_at_call 131;refine (hn _ _).mono ?_;rintro e w' ⟨rfl,rfl⟩)
   go_ret
   exact ⟨rfl,rfl⟩
  ·rw [show cmpI a b=0 by simp [cmpI,h1,h2]]
   go_enter func78,ntmps78
   go_wp2_with (go_at_call 131;refine (hn _ _).mono ?_;rintro e w' ⟨rfl,rfl⟩)
   go_ret
   exact ⟨rfl,rfl⟩
def sortSpanR:Go.Shelf.Ren:=⟨fun n=>match n with | 6=>177 | 14=>212 | 15=>133 | 20=>242 | 21=>243 | 22=>244 | 23=>245 | 24=>246 | 25=>247 | 26=>248 | 27=>249 | 28=>199 | 29=>200 | 46=>266 | 47=>230 | 48=>231 | 49=>267 | 50=>268 | 57=>279 | n=>n,fun n=>match n with | 0=>0 | 3=>3 | 4=>4 | 5=>5 | 9=>9 | 22=>57 | 24=>83 | 25=>271 | 39=>141 | 45=>280 | 46=>281 | 50=>286 | 53=>289 | 55=>144 | 66=>310 | 70=>314 | 76=>334 | 77=>79 | n=>n,fun n=>n⟩
theorem sortSpan:Go.Proofs.SlLaysF0.n6 Tryz.prog sortSpanR where
 mixed:=by kernel_rfl
 f6:=⟨f177.name,by kernel_rfl,by kernel_rfl⟩
 f14:=⟨f212.name,by kernel_rfl,by kernel_rfl⟩
 f15:=by kernel_rfl
 f20:=⟨f242.name,by kernel_rfl,by kernel_rfl⟩
 f21:=⟨f243.name,by kernel_rfl,by kernel_rfl⟩
 f22:=⟨f244.name,by kernel_rfl,by kernel_rfl⟩
 f23:=⟨f245.name,by kernel_rfl,by kernel_rfl⟩
 f24:=⟨f246.name,by kernel_rfl,by kernel_rfl⟩
 f25:=⟨f247.name,by kernel_rfl,by kernel_rfl⟩
 f26:=⟨f248.name,by kernel_rfl,by kernel_rfl⟩
 f27:=⟨f249.name,by kernel_rfl,by kernel_rfl⟩
 f28:=by kernel_rfl
 f29:=by kernel_rfl
 f46:=⟨f266.name,by kernel_rfl,by kernel_rfl⟩
 f47:=by kernel_rfl
 f48:=by kernel_rfl
 f49:=⟨f267.name,by kernel_rfl,by kernel_rfl⟩
 f50:=⟨f268.name,by kernel_rfl,by kernel_rfl⟩
 f57:=⟨f279.name,by kernel_rfl,by kernel_rfl⟩
 t0:=by kernel_rfl
 a0:=fun w=>by kernel_rfl
 z0:=fun w=>by kernel_rfl
 v0:=fun w=>by kernel_rfl
 t3:=by kernel_rfl
 a3:=fun w=>by kernel_rfl
 z3:=fun w=>by kernel_rfl
 v3:=fun w=>by kernel_rfl
 t4:=by kernel_rfl
 a4:=fun w=>by kernel_rfl
 z4:=fun w=>by kernel_rfl
 v4:=fun w=>by kernel_rfl
 t5:=by kernel_rfl
 a5:=fun w=>by kernel_rfl
 z5:=fun w=>by kernel_rfl
 v5:=fun w=>by kernel_rfl
 t9:=by kernel_rfl
 a9:=fun w=>by kernel_rfl
 z9:=fun w=>by kernel_rfl
 v9:=fun w=>by kernel_rfl
 t22:=by kernel_rfl
 a22:=fun w=>by kernel_rfl
 z22:=fun w=>by kernel_rfl
 v22:=fun w=>by kernel_rfl
 t25:=by kernel_rfl
 a25:=fun w=>by kernel_rfl
 z25:=fun w=>by kernel_rfl
 v25:=fun w=>by kernel_rfl
 t39:=by kernel_rfl
 a39:=fun w=>by kernel_rfl
 z39:=fun w=>by kernel_rfl
 v39:=fun w=>by kernel_rfl
 t45:=by kernel_rfl
 a45:=fun w=>by kernel_rfl
 z45:=fun w=>by kernel_rfl
 v45:=fun w=>by kernel_rfl
 t46:=by kernel_rfl
 a46:=fun w=>by kernel_rfl
 z46:=fun w=>by kernel_rfl
 v46:=fun w=>by kernel_rfl
 t50:=by kernel_rfl
 a50:=fun w=>by kernel_rfl
 z50:=fun w=>by kernel_rfl
 v50:=fun w=>by kernel_rfl
 t53:=by kernel_rfl
 a53:=fun w=>by kernel_rfl
 z53:=fun w=>by kernel_rfl
 v53:=fun w=>by kernel_rfl
 t55:=by kernel_rfl
 a55:=fun w=>by kernel_rfl
 z55:=fun w=>by kernel_rfl
 v55:=fun w=>by kernel_rfl
 t66:=by kernel_rfl
 a66:=fun w=>by kernel_rfl
 z66:=fun w=>by kernel_rfl
 v66:=fun w=>by kernel_rfl
 t70:=by kernel_rfl
 a70:=fun w=>by kernel_rfl
 z70:=fun w=>by kernel_rfl
 v70:=fun w=>by kernel_rfl
 t76:=by kernel_rfl
 a76:=fun w=>by kernel_rfl
 z76:=fun w=>by kernel_rfl
 v76:=fun w=>by kernel_rfl
 t77:=by kernel_rfl
 a77:=fun w=>by kernel_rfl
 z77:=fun w=>by kernel_rfl
 v77:=fun w=>by kernel_rfl
def cfSn (x y:Sn):Int:=cmpI x.lo y.lo
def encSn (x:Sn):List Value:=[.int .i64 x.lo,.int .i64 x.hi]
theorem ltSn (x y:Sn):Go.Proofs.ltOf cfSn x y=decide (x.lo < y.lo):=by
 unfold Go.Proofs.ltOf cfSn cmpI;by_cases h1:x.lo < y.lo
 ·simp [h1]
 ·by_cases h2:y.lo < x.lo <;> simp [h1,h2]
theorem swoSn:SWO (Go.Proofs.ltOf cfSn) where
 irrefl x:=by rw [ltSn];simp
 trans x y z h1 h2:=by rw [ltSn] at*;simp at*;omega
 ntrans x y z h1 h2:=by rw [ltSn] at*;simp at*;omega
theorem closSn (x y:Sn) (W:World):Calls Tryz.prog 178 #[.agg (encSn x).toArray,.agg (encSn y).toArray] W fun e w'=>e= .returned (.int .i64 (cfSn x y))/\ ∃q os',w'=grow (W.drewN q) os':=by
 have hcon:=fun W'=>cmpInt x.lo y.lo W';show Calls Tryz.prog 178 #[.agg #[.int .i64 x.lo,.int .i64 x.hi],.agg #[.int .i64 y.lo,.int .i64 y.hi]] W fun e w'=>e= .returned (.int .i64 (cmpI x.lo y.lo))/\ ∃q os',w'=grow (W.drewN q) os';generalize cmpI x.lo y.lo=r at hcon ⊢
 go_enter func178,ntmps178
 go_wp2_with (go_at_call 78;refine (hcon _).mono ?_;rintro e w' ⟨rfl,rfl⟩)
 go_ret
 exact ⟨rfl,0,_,by rw [alloc_eq_grow,alloc_eq_grow,grow_grow];rfl⟩
theorem jo2 (xs:List Sn) (hn:xs.length < 4611686018427387904):CtG Tryz.prog 177 [(1,⟨83,2,true,rV tSn xs⟩)] [.own (.sl 1 2 0 xs.length),.val (tE (.func (.func 178) #[] #[]))] (.val (tE (.tuple #[]))) [(1,⟨83,2,true,rV tSn (srt cfSn xs)⟩)] []:=
 sortG sortSpan (enc:=encSn) (cf:=cfSn) (fun w=>by kernel_rfl) (fun w=>by kernel_rfl) (fun _=>rfl) (fun x v hv=>by simp [encSn] at hv;rcases hv with rfl | rfl <;> rfl) (fun F w x v h=>zh5 h) (fun F w x=>tSn_mk) swoSn (enters_of func178 (by kernel_rfl) rfl) closSn xs hn
theorem qw6 {xs:List Sn}:(srt cfSn xs).length=xs.length:=(yj9 swoSn xs).1
def pos (s:Sn):Bool:=decide (s.lo < s.hi)
def mkS (l:List Sn):List Sn:=mrg (srt cfSn (l.filter pos))
theorem yt4 {l:List Sn} {i:Nat} (hi:i < l.length):(l.take (i+1)).filter pos=(l.take i).filter pos++(if pos (l.getD i sn0) then [l.getD i sn0] else []):=by
 rw [zca hi,List.filter_append,zbh,zbi hi];by_cases h:pos l[i]=true <;> simp [h]
theorem yw1 {l:List Sn} {i:Nat} (hi:i < l.length):mrg (l.take (i+1))=mrg1 (mrg (l.take i)) (l.getD i sn0):=by
 rw [zca hi,mrg,List.foldl_append,zbh,zbi hi];rfl
theorem zj7 {p:Sn->Bool} {l:List Sn} {i:Nat} (hi:i < l.length):(l.take (i+1)).all p=((l.take i).all p && p (l.getD i sn0)):=by
 rw [zca hi,List.all_append,zbh,zbi hi];simp
theorem jh8 {p:Sn->Bool} {l:List Sn} {i:Nat} (hi:i < l.length) (h:p (l.getD i sn0)=false):l.all p=false:=by
 rw [List.all_eq_false];exact ⟨l.getD i sn0,by rw [zbh,zbi hi];exact zfa hi,by rw [h];exact Bool.false_ne_true⟩
theorem mrg1_len (acc:List Sn) (s:Sn):(mrg1 acc s).length<=acc.length+1:=by
 rw [mrg1];split <;> simp
theorem qj4: ∀(xs acc:List Sn),(xs.foldl mrg1 acc).length<=acc.length+xs.length
 | [],acc=>by simp
 | s::r,acc=>by
  have h1:=qj4 r (mrg1 acc s);have h2:=mrg1_len acc s;simp only [List.foldl_cons,zdb];omega
theorem jm3 {l:List Sn} {i:Nat}:((l.take i).filter pos).length<=i:=by
 have h1:=List.length_filter_le pos (l.take i);rw [zcu] at h1;omega
theorem jr2 (s:Sn):
  Ct Tryz.prog 176 [tSn s] (tB s.ok):=by
 refine Ct.intro func176 rfl ntmps176 rfl ?_;intro w F;refine A12 ?_;refine RGcaseD (t:=6) rfl (fun h15=> ?_) (fun h15=> ?_)
 ·
  refine A7 ?_;refine RGcaseD (t:=13) rfl (fun h15_2=> ?_) (fun h15_2=> ?_)
  ·
   refine A8 ?_;exact E1 rfl rfl (zau (by simp [Sn.ok, *]))
  ·
   refine A8 ?_;exact E1 rfl rfl (zau (by simp [Sn.ok, *]))
 ·
  refine A15 ?_;exact E1 rfl rfl (zau (by simp [Sn.ok, *]))
end An.S
namespace An
open Go
end An
namespace An.S
open Go Go.Proofs An Tryz
def sOkA (l:List Sn) (i:Nat):Bool:=(l.getD i sn0).ok && decide ((l.getD i sn0).lo≠(l.getD i sn0).hi) && (decide (i=0) || decide ((l.getD (i - 1) sn0).hi < (l.getD i sn0).lo))
def sVal (l:List Sn):Bool:=(List.range l.length).all (sOkA l)
theorem xv7 {l:List Sn} {i:Nat}:sOkA l i=true↔(l.getD i sn0).ok=true/\(l.getD i sn0).lo≠(l.getD i sn0).hi/\(i=0∨(l.getD (i - 1) sn0).hi < (l.getD i sn0).lo):=by
 simp only [sOkA,zbv,zdp,zbw,and_assoc]
theorem xs1 {l:List Sn} {i:Nat} (h:sVal l=true) (hi:i < l.length):0<=(l.getD i sn0).lo/\(l.getD i sn0).lo < (l.getD i sn0).hi/\(l.getD i sn0).hi<=65536:=by
 have h1:=xv7.1 (zdk.1 h i (zcx.2 hi));simp only [Sn.ok,zbv,zbw] at h1;omega
end An.S
namespace An
open Go
theorem qm4 {P:Tst->Prop} (hset: ∀a s,P a->P s->a.hi=s.lo->P ⟨a.lo,s.hi,a.v⟩): ∀(ps acc:List Tst),(∀s∈acc,P s)->(∀s∈ps,s.lo < s.hi->P s)-> ∀s∈pst acc ps,P s
 | [],acc,ha,_=>ha
 | s::r,acc,ha,hp=>by
  refine qm4 hset r (pst1 acc s) ?_ fun x hx=>hp x (zcd _ hx);intro x hx;rw [pst1] at hx;split at hx
  ·exact ha x hx
  ·rename_i h1;split at hx
   ·rename_i h2;rcases zfy hx with h | h
    ·exact ha x h
    ·subst h;exact hset _ s (ha _ (xg4 (by omega))) (hp s (zby ..) (by omega)) h2.2.1
   ·rcases zbp.1 hx with h | h
    ·exact ha x h
    ·rw [zbj.1 h];exact hp s (zby ..) (by omega)
theorem xm7 {l:List Tst} (h:tRight l=true) {i:Nat} (hi:i < l.length):0<=(l.getD i tst0).lo/\(l.getD i tst0).lo < (l.getD i tst0).hi/\(l.getD i tst0).hi<=65536/\(i=0∨(l.getD (i - 1) tst0).hi<=(l.getD i tst0).lo/\(l.getD (i - 1) tst0).v.kind=(l.getD i tst0).v.kind/\ ¬((l.getD (i - 1) tst0).hi=(l.getD i tst0).lo/\(l.getD (i - 1) tst0).v=(l.getD i tst0).v)):=by
 simp only [tRight,zbv,zdk] at h;exact xv9.1 (h.1 i (zcx.2 hi))
theorem qk6 {l:List Tst} (h:tRight l=true): ∀{i:Nat},i < l.length->(l.getD i tst0).v.kind=(l.getD 0 tst0).v.kind
 | 0,_=>rfl
 | i+1,hi=>by
  rcases (xm7 h hi).2.2.2 with h0 | h0
  ·omega
  ·rw [<-h0.2.1];exact qk6 h (by omega)
theorem xz1 {l:List Tst} {s:Tst} (hs:s∈l): ∃i,i < l.length/\s=l.getD i tst0:=by
 obtain ⟨i,hi,e⟩:=List.getElem_of_mem hs;exact ⟨i,hi,by rw [zbh,zbi hi];exact e.symm⟩
def numK (l:List Tst):Prop:=l.length=0∨(l.getD 0 tst0).v.kind=2∨(l.getD 0 tst0).v.kind=3
instance (l:List Tst):Decidable (numK l):=inferInstanceAs (Decidable (_∨_))
def sumC (l:List Tst) (a b:Int):Prop:=(tRight l=true/\Sn.ok ⟨a,b⟩=true)/\numK l
instance (l:List Tst) (a b:Int):Decidable (sumC l a b):=inferInstanceAs (Decidable (_/\_))
end An
namespace An.S
open Go Go.Proofs An Tryz
end An.S
namespace An.S
open Go
theorem ze7 {l:List Tst}:tRight l=true↔(∀i,i < l.length->tOk l i=true)/\ ∀s∈l,s.v.valid=true:=by
 simp only [tRight,zbv,zdk,zcx]
theorem yo0 {l:List Tst} (h:tRight l=true): ∀{j i:Nat},i < j->j < l.length->(l.getD i tst0).hi<=(l.getD j tst0).lo
 | j+1,i,hij,hj=>by
  have h1:=(xm7 h hj).2.2.2.resolve_left (by omega);have h1:(l.getD j tst0).hi<=(l.getD (j+1) tst0).lo:=h1.1;rcases zcb i j with h2 | h2
  ·have h3:=yo0 h h2 (by omega);have h4:=(xm7 h (i:=j) (by omega)).2.1;omega
  ·have:i=j:=by omega
   subst this;exact h1
theorem qf5 {l:List Tst} (h:tRight l=true):l.Pairwise fun s t=>s.hi<=t.lo:=by
 refine zdx.2 fun i j hi hj hij=> ?_;have:=yo0 h hij hj
 rwa [zbh,zbh,zbi hi,zbi hj] at this
def okS (s:Sn):Prop:=0<=s.lo/\s.lo < s.hi/\s.hi<=65536
def ascS (l:List Sn):Prop:=(∀s∈l,okS s)/\l.Pairwise fun s t=>s.hi<=t.lo
theorem jv7 {l:List Sn} (h:ascS l):l.filter pos=l:=List.filter_eq_self.2 fun s hs=>by
 have:=h.1 s hs;simp only [pos,zbw];exact this.2.1
theorem jq2 {l:List Sn} (h:ascS l):srt cfSn l=l:=by
 refine wi6 swoSn ?_;refine List.pairwise_iff_forall_sublist.2 fun {s t} hst=> ?_;have h1:=List.pairwise_iff_forall_sublist.1 h.2 hst;have h2:=(h.1 s (hst.subset (zby ..))).2.1;rw [ltSn];simp;omega
theorem wi8 {l:List Sn} (h:ascS l):l.all Sn.ok=true:=zdk.2 fun s hs=>by
 have:=h.1 s hs;simp only [Sn.ok,zbv,zbw];simp only [okS] at this;omega
def lastS (l:List Sn):Sn:=l.getD (l.length - 1) sn0
theorem yd6 {l:List Sn}:sVal l=true↔ ∀i,i < l.length->sOkA l i=true:=by
 simp only [sVal,zdk,zcx]
theorem xu3 {l:List Sn} {s:Sn} {i:Nat}:(l++[s]).getD i sn0=if i < l.length then l.getD i sn0 else if i=l.length then s else sn0:=by
 simp only [zbh,List.getElem?_append];by_cases h:i < l.length
 ·simp [h]
 ·by_cases h2:i=l.length
  ·simp [h2]
  ·have:i - l.length≠0:=by omega
   simp only [h,h2,if_false];rw [zcv (by simp;omega)];rfl
theorem yd9 {l:List Sn} {s:Sn} {i j:Nat} (hj:j < l.length):(l.set j s).getD i sn0=if i=j then s else l.getD i sn0:=by
 simp only [zbh];by_cases h:i=j
 ·subst h;rw [List.getElem?_set_self hj];simp
 ·rw [List.getElem?_set_ne (Ne.symm h)];simp [h]
theorem zm7 {l:List Sn} {s:Sn} (h:sVal l=true) (hs:okS s) (hl:0 < l.length->(lastS l).hi < s.lo):sVal (l++[s])=true:=by
 refine yd6.2 fun i hi=>xv7.2 ?_;rw [zbm,zfp] at hi;rw [xu3,xu3];by_cases e:i < l.length
 ·have ho:=xv7.1 (yd6.1 h i e);rw [if_pos e,if_pos (by omega)];exact ho
 ·have e2:i=l.length:=by omega
  subst e2;rw [if_neg (by omega),if_pos rfl];obtain ⟨h1,h2,h3⟩:=hs;refine ⟨by simp [Sn.ok];omega,by omega,?_⟩;by_cases e0:l.length=0
  ·exact .inl e0
  ·rw [if_pos (by omega)];exact .inr (hl (by omega))
theorem zp1 {l:List Sn} {e:Int} (h:sVal l=true) (hl:0 < l.length) (h1:(lastS l).hi<=e) (h2:e<=65536):sVal (l.set (l.length - 1) ⟨(lastS l).lo,e⟩)=true:=by
 refine yd6.2 fun i hi=>xv7.2 ?_;rw [zdn] at hi;have ho:=xv7.1 (yd6.1 h i hi);rw [yd9 (by omega),yd9 (by omega)];by_cases e1:i=l.length - 1
 ·subst e1;have ho1:(lastS l).ok=true/\(lastS l).lo≠(lastS l).hi/\(l.length - 1=0∨(l.getD (l.length - 1 - 1) sn0).hi < (lastS l).lo):=ho;rw [if_pos rfl];have h3:=ho1.1;simp only [Sn.ok,zbv,zbw] at h3;refine ⟨by simp [Sn.ok];omega,by have:=ho1.2.1;dsimp only;omega,?_⟩;by_cases e0:l.length - 1=0
  ·exact .inl e0
  ·rw [if_neg (by omega)];exact .inr (ho1.2.2.resolve_left e0)
 ·rw [if_neg e1];by_cases e0:i=0
  ·exact ⟨ho.1,ho.2.1,.inl e0⟩
  ·rw [if_neg (by omega)];exact ho
def dayS (l:List Sn):Int:=(l.map fun s=>s.hi - s.lo).sum
theorem yo9 {l:List Sn} {s:Sn}:dayS (l++[s])=dayS l+(s.hi - s.lo):=by simp [dayS]
theorem yh3 {l:List Sn} (h:0 < l.length):l=l.take (l.length - 1)++[lastS l]:=by
 have e:l.take (l.length - 1+1)=l.take (l.length - 1)++[l[l.length - 1]]:=zca (by omega);rw [show l.length - 1+1=l.length by omega,zcf] at e;rw [lastS,zbh,zbi (by omega)];exact e
theorem ye6 {l:List Sn} {x:Sn} (h:0 < l.length):l.set (l.length - 1) x=l.take (l.length - 1)++[x]:=by
 have e:=List.set_eq_take_append_cons_drop (l:=l) (i:=l.length - 1) (a:=x);rw [if_pos (by omega),show l.length - 1+1=l.length by omega,List.drop_length] at e;exact e
theorem ja3 {l:List Sn} {e:Int} (h:0 < l.length):dayS (l.set (l.length - 1) ⟨(lastS l).lo,e⟩)=dayS l+(e - (lastS l).hi):=by
 have h1:dayS l=dayS (l.take (l.length - 1))+((lastS l).hi - (lastS l).lo):=by rw [<-yo9,<-yh3 h]
 rw [h1,ye6 h,yo9];dsimp only;omega
theorem zj0: ∀(xs acc:List Sn),ascS xs->sVal acc=true->(0 < acc.length-> ∀s∈xs,(lastS acc).hi<=s.lo)->sVal (xs.foldl mrg1 acc)=true/\dayS (xs.foldl mrg1 acc)=dayS acc+dayS xs
 | [],acc,_,hv,_=>⟨hv,by simp [dayS]⟩
 | s::r,acc,hx,hv,hl=>by
  have hs:=hx.1 s (zby ..);have hp:=zcg.1 hx.2;have hr:ascS r:=⟨fun t ht=>hx.1 t (zcd _ ht),hp.2⟩
  have key:sVal (mrg1 acc s)=true/\dayS (mrg1 acc s)=dayS acc+(s.hi - s.lo)/\0 < (mrg1 acc s).length/\(lastS (mrg1 acc s)).hi=s.hi:=by
   rw [mrg1];split
   ·rename_i hm;have h1:(lastS acc).hi=s.lo:=by have:=hl hm.1 s (zby ..);have h2:s.lo<=(lastS acc).hi:=hm.2;omega
    have hmax:max (acc.getD (acc.length - 1) sn0).hi s.hi=s.hi:=by
     have h2:(acc.getD (acc.length - 1) sn0).hi=s.lo:=h1;have:=hs.2.1;omega
    rw [hmax];refine ⟨zp1 hv hm.1 (by have:=hs.2.1;omega) hs.2.2,by rw [show (acc.getD (acc.length - 1) sn0).lo=(lastS acc).lo from rfl,ja3 hm.1];omega,by rw [zdn];exact hm.1,?_⟩;rw [lastS,zdn,yd9 (by omega),if_pos rfl]
   ·rename_i hm;refine ⟨zm7 hv hs fun h0=> ?_,by rw [yo9],by simp,?_⟩
    ·have:=hl h0 s (zby ..);have h2: ¬s.lo<=(lastS acc).hi:=fun h'=>hm ⟨h0,h'⟩;omega
    ·rw [lastS,xu3,zbm,zfp,if_neg (by omega),if_pos (by omega)]
  have ih:=zj0 r (mrg1 acc s) hr key.1 fun _ t ht=>by rw [key.2.2.2];exact hp.1 t ht
  refine ⟨ih.1,?_⟩;rw [List.foldl_cons,ih.2,key.2.1];have:dayS (s::r)=(s.hi - s.lo)+dayS r:=by simp [dayS]
  omega
def hasD (d:Int) (s:Tst):Bool:=decide (s.lo<=d) && decide (d < s.hi)
theorem yh5 {d:Int} {s:Tst}:hasD d s=true↔s.lo<=d/\d < s.hi:=by simp [hasD]
def valT (l:List Tst) (d:Int):Option Va:=(l.find? (hasD d)).map (·.v)
theorem xe2 {s:Tst} {r:List Tst} {d:Int}:valT (s::r) d=if s.lo<=d/\d < s.hi then some s.v else valT r d:=by
 by_cases h:s.lo<=d/\d < s.hi
 ·rw [if_pos h,valT,List.find?_cons_of_pos (yh5.2 h)];rfl
 ·rw [if_neg h,valT,List.find?_cons_of_neg (fun h'=>h (yh5.1 h'))];rfl
theorem xm5 {l:List Tst} {d:Int}:valT l d=none↔ ∀s∈l,¬(s.lo<=d/\d < s.hi):=by
 rw [valT,Option.map_eq_none_iff,List.find?_eq_none];simp only [yh5]
theorem xw5 {a b:List Tst} {d:Int}:valT (a++b) d=(valT a d).or (valT b d):=by
 rw [valT,List.find?_append,valT,valT];cases a.find? (hasD d) <;> rfl
theorem xz7 {l:List Tst} {d:Int} {v:Va} (h:valT l d=some v): ∃s∈l,(s.lo<=d/\d < s.hi)/\s.v=v:=by
 obtain ⟨s,h1,h2⟩:=zdd.1 h;exact ⟨s,List.mem_of_find?_eq_some h1,yh5.1 (List.find?_some h1),h2⟩
def ascT (l:List Tst):Prop:=(∀s∈l,s.lo < s.hi)/\l.Pairwise fun s t=>s.hi<=t.lo
def nbT:List Tst->Prop
 | []=>True
 | [_]=>True
 | s::t::r=> ¬(s.hi=t.lo/\s.v=t.v)/\nbT (t::r)
theorem za8: ∀{a b:List Tst},ascT a->nbT a->ascT b->nbT b->(∀d,valT a d=valT b d)->a=b
 | [],[],_,_,_,_,_=>rfl
 | [],t::u,_,_,hb,_,h=>by
  have h1:=hb.1 t (zby ..);have h2:=h t.lo;rw [xe2,if_pos ⟨zea _,h1⟩] at h2;cases h2
 | s::r,[],ha,_,_,_,h=>by
  have h1:=ha.1 s (zby ..);have h2:=h s.lo;rw [xe2,if_pos ⟨zea _,h1⟩] at h2;cases h2
 | s::r,t::u,ha,na,hb,nb,h=>by
  have hs:=ha.1 s (zby ..);have ht:=hb.1 t (zby ..);have pa:=zcg.1 ha.2;have pb:=zcg.1 hb.2;have a0:valT (s::r) s.lo=some s.v:=by rw [xe2,if_pos ⟨zea _,hs⟩]
  have b0:valT (t::u) t.lo=some t.v:=by rw [xe2,if_pos ⟨zea _,ht⟩]
  have l1:t.lo<=s.lo:=by
   obtain ⟨x,hx,hx2,_⟩:=xz7 ((h s.lo).symm.trans a0);rcases zbr.1 hx with rfl | hx
   ·exact hx2.1
   ·have:=pb.1 x hx;omega
  have l2:s.lo<=t.lo:=by
   obtain ⟨x,hx,hx2,_⟩:=xz7 ((h t.lo).trans b0);rcases zbr.1 hx with rfl | hx
   ·exact hx2.1
   ·have:=pa.1 x hx;omega
  have elo:s.lo=t.lo:=by omega
  have ev:s.v=t.v:=by
   have:=(h s.lo).symm.trans a0;rw [elo,b0] at this;exact (Option.some.inj this).symm
  have key: ∀{s t:Tst} {r u:List Tst},ascT (s::r)->nbT (s::r)->s.lo=t.lo->s.v=t.v->(∀d,valT (s::r) d=valT (t::u) d)-> ¬s.hi < t.hi:=by
   intro s t r u ha na elo ev h h1;have hs:=ha.1 s (zby ..);have pa:=zcg.1 ha.2;have h2:=h s.hi;rw [xe2,if_neg (by omega),xe2,if_pos (by omega)] at h2;obtain ⟨x,hx,hx2,hx3⟩:=xz7 h2;cases r with
   | nil=>cases hx
   | cons y q=>
    have hy:=pa.1 y (zby ..);have py:=zcg.1 pa.2;have e:x=y:=by
     rcases zbr.1 hx with rfl | hx
     ·rfl
     ·have:=py.1 x hx;have:=ha.1 y (zcd _ (zby ..));omega
    subst e;exact na.1 ⟨by omega,by rw [hx3,ev]⟩
  have ehi:s.hi=t.hi:=by
   have:=key ha na elo ev h;have:=key hb nb elo.symm ev.symm (fun d=>(h d).symm);omega
  have est:s=t:=by
   obtain ⟨a1,a2,a3⟩:=s;obtain ⟨b1,b2,b3⟩:=t;simp only at elo ev ehi;rw [elo,ev,ehi]
  subst est
  congr 1
  refine za8 ⟨fun x hx=>ha.1 x (zcd _ hx),pa.2⟩ ?_ ⟨fun x hx=>hb.1 x (zcd _ hx),pb.2⟩ ?_ fun d=> ?_
  ·cases r with
   | nil=>trivial
   | cons y q=>exact na.2
  ·cases u with
   | nil=>trivial
   | cons y q=>exact nb.2
  ·rcases Int.lt_or_le d s.hi with h1 | h1
   ·have e1:valT r d=none:=xm5.2 fun x hx h'=>by have:=pa.1 x hx;omega
    have e2:valT u d=none:=xm5.2 fun x hx h'=>by have:=pb.1 x hx;omega
    rw [e1,e2]
   ·have h2:=h d
    rwa [xe2,if_neg (by omega),xe2,if_neg (by omega)] at h2
theorem qq0 {s:Tst}: ∀{l:List Tst} {x:Tst},nbT (l++[x])-> ¬(x.hi=s.lo/\x.v=s.v)->nbT (l++[x]++[s])
 | [],_,_,h=>⟨h,trivial⟩
 | [_],_,h1,h=>⟨h1.1,h,trivial⟩
 | _::z::r,_,h1,h=>⟨h1.1,qq0 (l:=z::r) h1.2 h⟩
theorem ja0 {x':Tst}: ∀{l:List Tst} {x:Tst},nbT (l++[x])->x'.lo=x.lo->x'.v=x.v->nbT (l++[x'])
 | [],_,_,_,_=>trivial
 | [_],_,h1,e1,e2=>⟨by rw [e1,e2];exact h1.1,trivial⟩
 | _::z::r,_,h1,e1,e2=>⟨h1.1,ja0 (l:=z::r) h1.2 e1 e2⟩
theorem zw9 {l:List Tst} {s:Tst} (h:ascT l) (hs:s.lo < s.hi) (hl: ∀x∈l,x.hi<=s.lo):ascT (l++[s]):=by
 refine ⟨fun x hx=> ?_,zec.2 ⟨h.2,zek ..,fun x hx y hy=>by rw [zbj.1 hy];exact hl x hx⟩⟩;rcases zbp.1 hx with hx | hx
 ·exact h.1 x hx
 ·rw [zbj.1 hx];exact hs
theorem yt9 {l:List Tst} (h:0 < l.length):l=l.take (l.length - 1)++[l.getD (l.length - 1) tst0]:=by
 have e:l.take (l.length - 1+1)=l.take (l.length - 1)++[l[l.length - 1]]:=zca (by omega);rw [show l.length - 1+1=l.length by omega,zcf] at e;rw [zbh,zbi (by omega)];exact e
theorem jf0 {l:List Tst} {x:Tst} (h:0 < l.length):l.set (l.length - 1) x=l.take (l.length - 1)++[x]:=by
 have e:=List.set_eq_take_append_cons_drop (l:=l) (i:=l.length - 1) (a:=x);rw [if_pos (by omega),show l.length - 1+1=l.length by omega,List.drop_length] at e;exact e
theorem pst1_val {acc:List Tst} {s:Tst} (h:ascT acc) (hn:nbT acc) (hs:s.lo < s.hi) (hl: ∀x∈acc,x.hi<=s.lo):ascT (pst1 acc s)/\nbT (pst1 acc s)/\(∀x∈pst1 acc s,x.hi<=s.hi)/\ ∀d,valT (pst1 acc s) d=(valT acc d).or (if s.lo<=d/\d < s.hi then some s.v else none):=by
 have e1: ∀d,valT [s] d=if s.lo<=d/\d < s.hi then some s.v else none:=fun d=>by rw [xe2];rfl
 rw [pst1,if_neg (by omega)];split
 ·rename_i hm;have ea:=yt9 hm.1;rw [jf0 hm.1];generalize acc.getD (acc.length - 1) tst0=x at*
  generalize acc.take (acc.length - 1)=q at*
  subst ea;have hp:=zec.1 h.2;have hx:=h.1 x (List.mem_append_right _ (zbj.2 rfl));have hq:ascT q:=⟨fun y hy=>h.1 y (List.mem_append_left _ hy),hp.1⟩
  have hqx: ∀y∈q,y.hi<=x.lo:=fun y hy=>hp.2.2 y hy x (zbj.2 rfl);refine ⟨zw9 hq (by dsimp only;omega) hqx,ja0 hn rfl rfl,fun y hy=> ?_,fun d=> ?_⟩
  ·rcases zbp.1 hy with hy | hy
   ·have:=hqx y hy;omega
   ·rw [zbj.1 hy];exact zea _
  ·rw [xw5,xw5,xe2,xe2];cases hv:valT q d with
   | some v=>rfl
   | none=>
    simp only [Option.none_or];have h1:=hm.2.1;by_cases c1:x.lo<=d/\d < x.hi
    ·rw [if_pos (by omega),if_pos c1];rfl
    ·by_cases c2:s.lo<=d/\d < s.hi
     ·rw [if_pos (by omega),if_neg c1,if_pos c2,hm.2.2];rfl
     ·rw [if_neg (by omega),if_neg c1,if_neg c2];rfl
 ·rename_i hm;refine ⟨zw9 h hs hl,?_,fun y hy=> ?_,fun d=>by rw [xw5,e1]⟩
  ·rcases zco acc.length with h0 | h0
   ·rw [zda h0];trivial
   ·have ea:=yt9 h0;have h2: ¬((acc.getD (acc.length - 1) tst0).hi=s.lo/\(acc.getD (acc.length - 1) tst0).v=s.v):=fun h'=>hm ⟨h0,h'.1,h'.2⟩;rw [ea] at hn ⊢;exact qq0 hn h2
  ·rcases zbp.1 hy with hy | hy
   ·have:=hl y hy;omega
   ·rw [zbj.1 hy];exact zea _
theorem yr9: ∀(ps acc:List Tst),ascT acc->nbT acc->(ps.Pairwise fun s t=>s.lo < s.hi->s.hi<=t.lo)->(∀x∈acc,∀s∈ps,s.lo < s.hi->x.hi<=s.lo)->ascT (pst acc ps)/\nbT (pst acc ps)/\ ∀d,valT (pst acc ps) d=(valT acc d).or (valT ps d)
 | [],acc,h,hn,_,_=>⟨h,hn,fun d=>by show valT acc d=_;cases valT acc d <;> rfl⟩
 | s::r,acc,h,hn,hp,hl=>by
  have hp1:=zcg.1 hp;have e:pst acc (s::r)=pst (pst1 acc s) r:=rfl;rw [e];by_cases hs:s.lo < s.hi
  ·obtain ⟨k1,k2,k3,k4⟩:=pst1_val h hn hs fun x hx=>hl x hx s (zby ..) hs;have ih:=yr9 r (pst1 acc s) k1 k2 hp1.2 fun x hx t ht htl=>by
    have:=k3 x hx;have:=hp1.1 t ht hs;omega
   refine ⟨ih.1,ih.2.1,fun d=> ?_⟩;rw [ih.2.2,k4,xe2,Option.or_assoc]
   congr 1
   split <;> rfl
  ·have e1:pst1 acc s=acc:=by rw [pst1,if_pos (by omega)]
   rw [e1];have ih:=yr9 r acc h hn hp1.2 fun x hx t ht=>hl x hx t (zcd _ ht);refine ⟨ih.1,ih.2.1,fun d=> ?_⟩;rw [ih.2.2,xe2,if_neg (by omega)]
def segL (g:Int->Option Va):List Int->List Tst
 | x::y::r=>(match g x with | some v=>[⟨x,y,v⟩] | none=>[])++segL g (y::r)
 | _=>[]
def cOn (g:Int->Option Va):List Int->Prop
 | x::y::r=>(∀d,x<=d->d < y->g d=g x)/\cOn g (y::r)
 | _=>True
theorem zg4 {g:Int->Option Va}: ∀{ds:List Int} {x:Int} {s:Tst},(x::ds).Pairwise (· < ·)->s∈segL g (x::ds)->x<=s.lo
 | [],x,s,_,h=>by cases h
 | y::r,x,s,hp,h=>by
  have hp1:=zcg.1 hp;rw [segL] at h;rcases zbp.1 h with h | h
  ·cases hg:g x with
   | none=>rw [hg] at h;cases h
   | some v=>rw [hg] at h;rw [zbj.1 h];exact zea _
  ·have:=zg4 hp1.2 h;have:=hp1.1 y (zby ..);omega
theorem yr4 {g:Int->Option Va}: ∀{ds:List Int},ds.Pairwise (· < ·)->(∀s∈segL g ds,s.lo < s.hi)/\(segL g ds).Pairwise fun s t=>s.hi<=t.lo
 | [],_=>⟨fun s h=>(by cases h),.nil⟩
 | [x],_=>⟨fun s h=>(by cases h),.nil⟩
 | x::y::r,hp=>by
  have hp1:=zcg.1 hp;have hxy:=hp1.1 y (zby ..);have ih:=yr4 (g:=g) hp1.2;rw [segL];cases hg:g x with
  | none=>exact ih
  | some v=>
   refine ⟨fun s h=> ?_,zcg.2 ⟨fun t ht=>zg4 hp1.2 ht,ih.2⟩⟩;rcases zbr.1 h with rfl | h
   ·exact hxy
   ·exact ih.1 s h
theorem yk0 {g:Int->Option Va}: ∀{ds:List Int},ds.Pairwise (· < ·)->cOn g ds->(∀d,(∃x∈ds,x<=d)->(∃y∈ds,d < y)->valT (segL g ds) d=g d)/\ ∀d,((∀x∈ds,d < x)∨ ∀y∈ds,y<=d)->valT (segL g ds) d=none
 | [],_,_=>⟨fun d ⟨x,hx,_⟩=>(by cases hx),fun d _=>rfl⟩
 | [x],_,_=>⟨fun d ⟨a,ha,ha2⟩ ⟨b,hb,hb2⟩=>by rw [zbj.1 ha] at ha2;rw [zbj.1 hb] at hb2;omega,fun d _=>rfl⟩
 | x::y::r,hp,hc=>by
  have hp1:=zcg.1 hp;have hp2:=zcg.1 hp1.2;have hxy:=hp1.1 y (zby ..);have ih:=yk0 (g:=g) hp1.2 hc.2;have e: ∀d,valT (segL g (x::y::r)) d=if x<=d/\d < y then g x else valT (segL g (y::r)) d:=fun d=>by
   rw [segL];cases hg:g x with
   | none=>
    show valT (segL g (y::r)) d=_;split
    ·rename_i h;exact xm5.2 fun s hs h'=>by have:=zg4 hp1.2 hs;omega
    ·rfl
   | some v=>
    show valT (⟨x,y,v⟩::segL g (y::r)) d=_;rw [xe2]
  refine ⟨fun d h1 h2=> ?_,fun d h=> ?_⟩
  ·rw [e];split
   ·rename_i h;exact (hc.1 d h.1 h.2).symm
   ·rename_i h;have hxd:x<=d:=by
     obtain ⟨z,hz,hz2⟩:=h1;rcases zbr.1 hz with rfl | hz
     ·exact hz2
     ·have:=hp1.1 z hz;omega
    refine ih.1 d ⟨y,zby ..,by omega⟩ ?_;obtain ⟨z,hz,hz2⟩:=h2;rcases zbr.1 hz with rfl | hz
    ·omega
    ·exact ⟨z,hz,hz2⟩
  ·rw [e,if_neg]
   ·rcases h with h | h
    ·exact ih.2 d (.inl fun z hz=>h z (zcd _ hz))
    ·exact ih.2 d (.inr fun z hz=>h z (zcd _ hz))
   ·rcases h with h | h
    ·have:=h x (zby ..);omega
    ·have:=h y (zcd _ (zby ..));omega
theorem zf1: ∀{l:List Tst} {x d:Int},(∀s∈l,¬(x < s.lo/\s.lo<=d)/\ ¬(x < s.hi/\s.hi<=d))->x<=d->valT l d=valT l x
 | [],_,_,_,_=>rfl
 | s::r,x,d,h,hxd=>by
  have h1:=h s (zby ..);rw [xe2,xe2,zf1 (l:=r) (fun t ht=>h t (zcd _ ht)) hxd];by_cases c:s.lo<=x/\x < s.hi
  ·rw [if_pos c,if_pos (by omega)]
  ·rw [if_neg c,if_neg (by omega)]
theorem yj4 {l:List Tst} {d:Int} (h:(∀s∈l,d < s.lo)∨ ∀s∈l,s.hi<=d):valT l d=none:=xm5.2 fun s hs h'=>by
 rcases h with h | h
 ·have:=h s hs;omega
 ·have:=h s hs;omega
def ends (ds:List Int) (l:List Tst):Prop:= ∀s∈l,s.lo∈ds/\s.hi∈ds
theorem qd9 {g:Int->Option Va} {a b:List Tst} (hg: ∀d x,valT a d=valT a x->valT b d=valT b x->g d=g x): ∀{pre ds:List Int},(pre++ds).Pairwise (· < ·)->ends (pre++ds) a->ends (pre++ds) b->cOn g ds
 | _,[],_,_,_=>trivial
 | _,[x],_,_,_=>trivial
 | pre,x::y::r,hp,ha,hb=>by
  have h1:=zec.1 hp;have hq:=zcg.1 h1.2.1;have hq2:=zcg.1 hq.2;have key: ∀z∈pre++x::y::r,z<=x∨y<=z:=fun z hz=>by
   rcases zbp.1 hz with hz | hz
   ·have:=h1.2.2 z hz x (zby ..);omega
   ·rcases zbr.1 hz with rfl | hz
    ·omega
    ·rcases zbr.1 hz with rfl | hz
     ·omega
     ·have:=hq2.1 z hz;omega
  have hcon: ∀{l:List Tst},ends (pre++x::y::r) l-> ∀d,x<=d->d < y->valT l d=valT l x:=fun {l} hl d hx hy=>zf1 (fun s hs=>by
   have k1:=key _ (hl s hs).1;have k2:=key _ (hl s hs).2;omega) hx
  refine ⟨fun d hx hy=>hg d x (hcon ha d hx hy) (hcon hb d hx hy),?_⟩;have e:pre++x::y::r=(pre++[x])++(y::r):=by simp
  rw [e] at hp ha hb;exact qd9 hg hp ha hb
theorem w5 {g:Int->Option Va} {a b:List Tst} {ds:List Int} (hg: ∀d x,valT a d=valT a x->valT b d=valT b x->g d=g x) (h0: ∀d,valT a d=none->valT b d=none->g d=none) (hp:ds.Pairwise (· < ·)) (ha:ends ds a) (hb:ends ds b): ∀d,valT (segL g ds) d=g d:=fun d=>by
 have hv:=yk0 hp (qd9 (pre:=[]) hg hp ha hb);by_cases h1: ∃x∈ds,x<=d
 ·by_cases h2: ∃y∈ds,d < y
  ·exact hv.1 d h1 h2
  ·have h3: ∀y∈ds,y<=d:=fun y hy=>Int.not_lt.1 fun h'=>h2 ⟨y,hy,h'⟩;rw [hv.2 d (.inr h3),h0 d (yj4 (.inr fun s hs=>h3 _ (ha s hs).2)) (yj4 (.inr fun s hs=>h3 _ (hb s hs).2))]
 ·have h3: ∀x∈ds,d < x:=fun x hx=>Int.not_le.1 fun h'=>h1 ⟨x,hx,h'⟩;rw [hv.2 d (.inl h3),h0 d (yj4 (.inl fun s hs=>h3 _ (ha s hs).1)) (yj4 (.inl fun s hs=>h3 _ (hb s hs).1))]
theorem zh0 {g:Int->Option Va} {ds:List Int} (hp:ds.Pairwise (· < ·)):ascT (pst [] (segL g ds))/\nbT (pst [] (segL g ds))/\ ∀d,valT (pst [] (segL g ds)) d=valT (segL g ds) d:=by
 have h:=yr4 (g:=g) hp;have:=yr9 (segL g ds) [] ⟨fun s hs=>(by cases hs),.nil⟩ trivial (h.2.imp (S:=fun s t:Tst=>s.lo < s.hi->s.hi<=t.lo) fun h' _=>h') fun x hx=>by cases hx
 exact ⟨this.1,this.2.1,fun d=>by rw [this.2.2];rfl⟩
theorem nb_at: ∀{l:List Tst} {i:Nat},nbT l->i+1 < l.length-> ¬((l.getD i tst0).hi=(l.getD (i+1) tst0).lo/\(l.getD i tst0).v=(l.getD (i+1) tst0).v)
 | [],_,_,hi=>by simp at hi
 | [_],_,_,hi=>by simp at hi
 | s::t::r,0,h,_=>h.1
 | s::t::r,i+1,h,hi=>nb_at (l:=t::r) h.2 (by simpa using hi)
theorem zb0 {l:List Tst} (h:tRight l=true):ascT l:=⟨fun s hs=>by
 obtain ⟨i,hi,rfl⟩:=xz1 hs;exact (xm7 h hi).2.1,qf5 h⟩
theorem asc_lt {l:List Tst} (h:ascT l) {i j:Nat} (hij:i < j) (hj:j < l.length):(l.getD i tst0).hi<=(l.getD j tst0).lo:=by
 have:=zdx.1 h.2 i j (by omega) hj hij
 rwa [zbh,zbh,zbi (show i < l.length by omega),zbi hj]
theorem jr4 {l:List Tst} {K:Nat} (h:ascT l) (hn:nbT l) (hv: ∀s∈l,0<=s.lo/\s.hi<=65536/\s.v.valid=true/\s.v.kind=K):tRight l=true:=by
 refine ze7.2 ⟨fun i hi=>xv9.2 ?_,fun s hs=>(hv s hs).2.2.1⟩;have h1:=hv _ (xg4 (l:=l) hi);refine ⟨h1.1,h.1 _ (xg4 hi),h1.2.1,?_⟩;by_cases h0:i=0
 ·exact .inl h0
 ·have h2:=hv _ (xg4 (l:=l) (i:=i - 1) (by omega));have h3:=nb_at hn (i:=i - 1) (by omega);rw [show i - 1+1=i by omega] at h3;exact .inr ⟨asc_lt h (by omega) hi,by rw [h2.2.2.2,h1.2.2.2],h3⟩
end An.S
namespace An
open Go
def tO {α:Type} (n:Nat) (agg:Bool) (f:α->Ty):Option α->Ty
 | none=>tE (.pointer none)
 | some x=>tP n agg (f x)
instance {α:Type} {n:Nat} {agg:Bool} {f:α->Ty} {o:Option α}:Shape (tO n agg f o) 1 false:=⟨fun h=>by
 cases o with
 | none=>have h:_=_:=h;rw [h];exact xd2 rfl
 | some x=>obtain ⟨_,_,_,h,_⟩:=h;rw [h];exact xd2 rfl⟩
section
variable {P:Program} {c:Base} {d ty:Nat} {pos:String} {af:Array Edge} {gd:Option (Nat×Bool)} {α:Type} {n:Nat} {agg:Bool} {f:α->Ty}
theorem zd0 {T E:TypeId} (hT:P.underlying T=some (.pointer E)) (A:Option Addr) (w:World):(Op.equal T (.pointer A) (.pointer none)).run P w= .ok A.isNone w:=by
 have key: ∀d,(Op.equalIn (d+1) T (.pointer A) (.pointer none)).run P w= .ok A.isNone w:=fun d=>by
  cases A <;> simp only [Op.equalIn,zbu,zcj hT,zbn,zbx] <;> rfl
 exact key 9999
theorem ja1 {F:Dom} {w:World} {o:Option α} {v:Value} (h:(tO n agg f o).p F w v): ∃A:Option Addr,v= .pointer A/\A.isNone=o.isNone:=by
 cases o with
 | none=>exact ⟨none,h,rfl⟩
 | some x=>obtain ⟨b,q,u,h1,_⟩:=h;exact ⟨_,h1,rfl⟩
theorem yw9 {T E yT:TypeId} {x:Operand} {o:Option α} (hT:P.underlying T=some (.pointer E)):
  Does P c ⟨some d,.binOp .eql T x (.const (.pointer none)) yT,ty,pos,af,gd⟩ ⟨[(x,.val (tO n agg f o))],[],some (d,some (.val (tB o.isNone))),[],[]⟩:=
 Does.value rfl fun g h al a w η hrd _ s=>by
  obtain ⟨A,h1,h4⟩:=ja1 (xa2 s hrd.1).1;have h1:a.eval x= .pointer A:=h1;have h2:a.eval (.const (.pointer none))= .pointer none:=rfl;refine ⟨.bool A.isNone,w,?_,Ext.refl w,congrArg Value.bool h4,fun j hj=>by cases hj⟩;have hg:(eqGuard .eql T x (.const (.pointer none)) (.pointer A) (.pointer none)).run P w= .ok () w:=by
   simp [eqGuard,go_sem]
  simp only [execOp,h1,h2,zbu,hg,zbn,binOp,zd0 hT,zbx]
theorem yz2 {T E yT:TypeId} {x:Operand} {o:Option α} (hT:P.underlying T=some (.pointer E)):
  Does P c ⟨some d,.binOp .neq T x (.const (.pointer none)) yT,ty,pos,af,gd⟩ ⟨[(x,.val (tO n agg f o))],[],some (d,some (.val (tB (!o.isNone)))),[],[]⟩:=
 Does.value rfl fun g h al a w η hrd _ s=>by
  obtain ⟨A,h1,h4⟩:=ja1 (xa2 s hrd.1).1;have h1:a.eval x= .pointer A:=h1;have h2:a.eval (.const (.pointer none))= .pointer none:=rfl;refine ⟨.bool (!A.isNone),w,?_,Ext.refl w,congrArg (fun b=>Value.bool (!b)) h4,fun j hj=>by cases hj⟩;have hg:(eqGuard .neq T x (.const (.pointer none)) (.pointer A) (.pointer none)).run P w= .ok () w:=by
   simp [eqGuard,go_sem]
  simp only [execOp,h1,h2,zbu,hg,zbn,binOp,zd0 hT,zbx]
theorem xr7 {x:Operand} {o:Option α} {y:α} (ho:o=some y):
  Does P c ⟨some d,.nilCheck x,ty,pos,af,gd⟩ ⟨[(x,.val (tO n agg f o))],[],some (d,some (.val (tP n agg (f y)))),[],[]⟩:=by
 subst ho;exact yu0
theorem leO {o:Option α} {y:α} (ho:o=some y):Le (tP n agg (f y)) (tO n agg f o):=by subst ho;exact zao
theorem leO0 {o:Option α} (ho:o=none):Le (tE (.pointer none)) (tO n agg f o):=by subst ho;exact zao
end
end An
namespace An
open Go Go.Proofs Go.Shelf Go.Sort Tryz
theorem qa3 {w:World} {b T:Nat} {cs:Array Value} {xs:List Int} (c1:w.heap[b]? =some (.cells cs T (0,0))) (c3: ∀(i:Nat) (h:i < xs.length),cs[i]? =some (.int .i64 xs[i])):Holds (Value.int .i64) w b 0 xs.toArray:=by
 intro j hj;have hj:j < xs.length:=by simpa using hj
 have e:xs.toArray[j]! =xs[j]:=by rw [zfi _ _ (by simpa using hj)];simp
 refine ⟨?_,by simp [World.frozen?,c1]⟩;rw [e];simp only [World.cell?,c1,zcn];exact c3 j hj
theorem qp8 {F:Dom} {w w':World} {η:Env} {T:Nat} {xs ys:List Int} {zs:Array Int} {re:Ent} {v:Value} {cs:Array Value} (hc0:0 < η.c 1) (k4:η.c 1<=9223372036854775807) (c1:w.heap[η.b 1]? =some (.cells cs T (0,0))) (c2:cs.size=η.c 1) (_hz:zs.size<=η.c 1) (_hI:InjK η [(1,⟨T,1,false,rV tI xs⟩)])
  (ho:w'.os=w.os) (ht:w'.tape=w.tape) (hp:w'.output=w.output) (hsz:w.heap.size<=w'.heap.size) (hheap: ∀b',b' < w.heap.size->w'.heap[b']? =if b'=η.b 1 then some (.cells (putCells (Value.int .i64) 0 zs cs) T (0,0)) else w.heap[b']?)
  (hy:ys.length<=zs.size) (hyz: ∀(i:Nat) (h:i < ys.length),zs[i]! =ys[i]) (hre: ∀F,re.sat F w' η v):Out F w η [(1,⟨T,1,false,rV tI xs⟩)] re [(1,⟨T,1,false,rV tI ys⟩)] [] v w' η:=by
 have hblk:η.b 1 < w.heap.size:=xa7 c1;refine ⟨⟨ho,ht,hp,hsz,fun b' hb' hn'=> ?_⟩,fun _ _=>⟨rfl,rfl⟩,hre _,fun x hx=> ?_,fun x hx y hy hne=> ?_,fun b' hb'=> .inl ?_⟩
 ·rw [hheap b' hb',if_neg];intro hb;exact hn' ⟨(1,⟨T,1,false,rV tI xs⟩),by simp,hc0,hb⟩
 ·simp only [zbj] at hx;subst hx;refine ⟨by show (rV tI ys).length<=η.c 1;rw [xc0];omega,Nat.one_pos,fun _=>rfl,k4,fun _=>⟨putCells (Value.int .i64) 0 zs cs,?_,?_,fun i e hi=> ?_⟩⟩
  ·rw [hheap _ hblk,if_pos rfl]
  ·simp only [putCells,Array.size_mapIdx];rw [c2];simp
  ·have hil:i < ys.length:=by
    have:=(zbo.1 hi).1;rwa [xc0] at this
   have hi:(rV tI ys)[i]? =some e:=hi;rw [rV,zbs,zbi hil] at hi;simp only [zdm,zck] at hi;subst hi;show pick false 1 (putCells (Value.int .i64) 0 zs cs) (i*1)= .int .i64 ys[i];rw [zdr,pick,zdy,zbk];simp only [putCells,Array.getElem?_mapIdx];rw [zcm (show i < cs.size by omega)];simp only [zdm,Option.getD_some];rw [if_pos ⟨zbt _,by omega⟩,Nat.sub_zero,hyz i hil]
 ·simp only [zbj] at hx hy;subst hx;subst hy;exact absurd rfl hne
 ·obtain ⟨x,hx,hc,rfl⟩:=hb';simp only [zbj] at hx;subst hx;exact ⟨(1,⟨T,1,false,rV tI xs⟩),by simp,hc,rfl⟩
theorem zv3 {w:World} {b:Nat} {T m:Nat} {cs:Array Value} {zs:Array Int} (c1:w.heap[b]? =some (.cells cs T (0,0))) (b':Nat):(putRow (Value.int .i64) (Sort.ahead w m) b 0 zs).heap[b']? =if b'=b then some (.cells (putCells (Value.int .i64) 0 zs cs) T (0,0)) else w.heap[b']? :=by
 simp only [putRow,mapBlock,Array.getElem?_modify];by_cases hb:b'=b
 ·subst hb;rw [if_pos rfl,if_pos rfl];show Option.map _ (w.heap[b']?)=_;rw [c1];rfl
 ·rw [if_neg (fun h=>hb h.symm),if_neg hb];rfl
def srtI (xs:List Int):List Int:=xs.mergeSort fun x y=>decide (x<=y)
theorem sortI {P:Program} {ρ:Ren} (L:Lays.n189 P ρ) (T:Nat) (xs:List Int) (hn:xs.length < 4611686018427387904):
  CtG P (ρ.f 189) [(1,⟨T,1,false,rV tI xs⟩)] [.own (.sl 1 1 0 xs.length)] (.val (tE (.tuple #[]))) [(1,⟨T,1,false,rV tI (srtI xs)⟩)] []:=by
 intro F w η vs hS hA hI hF
 match vs,hS with
 | [v0],hS=>
 obtain ⟨⟨A,rfl,hle,hadr⟩,_⟩:=hS;obtain ⟨k1,k2,k3,k4,k5⟩:=hA (1,⟨T,1,false,rV tI xs⟩) (by simp);have k1:(rV tI xs).length<=η.c 1:=k1;have k4:η.c 1<=9223372036854775807:=k4;rw [xc0] at k1;have hlen:(srtI xs).length=xs.length:=List.length_mergeSort ..;by_cases h0:xs.length=0
 ·have hx:xs=[]:=zde.1 h0;subst hx;have e0:srtI ([]:List Int)=[]:=zde.1 hlen;rw [e0];refine (Any.slices_Sort_int_none L A (η.c 1 - 0) w).mono ?_;rintro e w' ⟨rfl,rfl⟩;refine ⟨_,η,rfl,⟨Stp.refl _ _,fun _ _=>⟨rfl,rfl⟩,rfl,fun x hx=> ?_,hI,fun b hb=> .inl hb⟩⟩;simp only [zbj] at hx;subst hx;refine ⟨by simp [rV],k2,k3,k4,fun hc=> ?_⟩;obtain ⟨cs,c1,c2,_⟩:=k5 hc;exact ⟨cs,c1,c2,fun i e hi=>by simp [rV] at hi⟩
 ·have hc0:0 < η.c 1:=by omega
  obtain ⟨cs,c1,c2,c3⟩:=k5 hc0;have c1:w.heap[η.b 1]? =some (.cells cs T (0,0)):=c1;have c2:cs.size=η.c 1*1:=c2;rw [zdr] at c2;have hA':=hadr hc0;rw [zef] at hA';subst hA';have hblk:η.b 1 < w.heap.size:=xa7 c1;have c3': ∀(i:Nat) (h:i < xs.length),cs[i]? =some (.int .i64 xs[i]):=fun i hi=>by
   have h3:=c3 i (.val (tI xs[i])) (by show (rV tI xs)[i]? =_;rw [rV,zbs,zbi hi];rfl);have h3:cs.getD (i*1) undef= .int .i64 xs[i]:=h3;rw [zdr,zbk,zcm (show i < cs.size by omega)] at h3;rw [zcm (show i < cs.size by omega)];exact congrArg some h3
  refine (Any.slices_Sort_int L (η.b 1) 0 (η.c 1 - 0) xs w (qa3 c1 c3') hblk hn).mono ?_;rintro e w' ⟨rfl,m,os,rfl⟩;refine ⟨_,η,rfl,?_⟩;refine qp8 (zs:=(srtI xs).toArray) hc0 k4 c1 c2 (by simp [hlen];omega) hI rfl rfl rfl ?_ (fun b' hb'=> ?_) (by simp) (fun i hi=> ?_) (fun F=>rfl)
  ·show w.heap.size<=(grow (putRow (Value.int .i64) (Sort.ahead w m) (η.b 1) 0 (srtI xs).toArray) os).heap.size;simp [grow,putRow,mapBlock,Sort.ahead]
  ·show (grow (putRow (Value.int .i64) (Sort.ahead w m) (η.b 1) 0 (srtI xs).toArray) os).heap[b']? =_;rw [heap_grow_old _ _ (by simp [putRow,mapBlock,Sort.ahead];exact hb')];exact zv3 c1 b'
  ·rw [zfi _ _ (by simpa using hi)];simp
theorem zf2 (d:Array Int): ∀m,(Lib.compactUpTo d m).length<=m
 | 0=>zbq _
 | m+1=>by
  rw [Lib.compactUpTo_succ,zbm];have:=zf2 d m;split <;> simp <;> omega
theorem qd8 (xs:List Int):(Lib.compact xs).length<=xs.length:=zf2 _ _
theorem compactI {P:Program} {ρ:Ren} (L:Lays2.n20 P ρ) (T:Nat) (xs:List Int):
  CtG P (ρ.f 20) [(1,⟨T,1,false,rV tI xs⟩)] [.own (.sl 1 1 0 xs.length)] (.own (.sl 1 1 0 (Lib.compact xs).length)) [(1,⟨T,1,false,rV tI (Lib.compact xs)⟩)] []:=by
 intro F w η vs hS hA hI hF
 match vs,hS with
 | [v0],hS=>
 obtain ⟨⟨A,rfl,hle,hadr⟩,_⟩:=hS;obtain ⟨k1,k2,k3,k4,k5⟩:=hA (1,⟨T,1,false,rV tI xs⟩) (by simp);have k1:(rV tI xs).length<=η.c 1:=k1;have k4:η.c 1<=9223372036854775807:=k4;rw [xc0] at k1;have hlen:(Lib.compact xs).length<=xs.length:=qd8 xs;by_cases h0:xs.length=0
 ·have hx:xs=[]:=zde.1 h0;subst hx;have e0:Lib.compact ([]:List Int)=[]:=rfl;rw [e0];refine (Any.slices_Compact_int_empty L A (η.c 1 - 0) w).mono ?_;rintro e w' ⟨rfl,rfl⟩;refine ⟨_,η,rfl,⟨Stp.refl _ _,fun _ _=>⟨rfl,rfl⟩,⟨A,rfl,hle,hadr⟩,fun x hx=> ?_,hI,fun b hb=> .inl hb⟩⟩;simp only [zbj] at hx;subst hx;refine ⟨by simp [rV],k2,k3,k4,fun hc=> ?_⟩;obtain ⟨cs,c1,c2,_⟩:=k5 hc;exact ⟨cs,c1,c2,fun i e hi=>by simp [rV] at hi⟩
 ·have hc0:0 < η.c 1:=by omega
  obtain ⟨cs,c1,c2,c3⟩:=k5 hc0;have c1:w.heap[η.b 1]? =some (.cells cs T (0,0)):=c1;have c2:cs.size=η.c 1*1:=c2;rw [zdr] at c2;have hA':=hadr hc0;rw [zef] at hA';subst hA';have c3': ∀(i:Nat) (h:i < xs.length),cs[i]? =some (.int .i64 xs[i]):=fun i hi=>by
   have h3:=c3 i (.val (tI xs[i])) (by show (rV tI xs)[i]? =_;rw [rV,zbs,zbi hi];rfl);have h3:cs.getD (i*1) undef= .int .i64 xs[i]:=h3;rw [zdr,zbk,zcm (show i < cs.size by omega)] at h3;rw [zcm (show i < cs.size by omega)];exact congrArg some h3
  refine (Any.slices_Compact_int L (η.b 1) 0 (η.c 1 - 0) xs w (qa3 c1 c3') (by omega) (by omega)).mono ?_;rintro e w' ⟨rfl,q,rfl⟩;refine ⟨_,η,rfl,?_⟩;refine qp8 (zs:=(Lib.compact xs++List.replicate (xs.length - (Lib.compact xs).length) 0).toArray) hc0 k4 c1 c2 (by simp;omega) hI rfl rfl rfl ?_ (fun b' hb'=>zv3 c1 b') (by simp) (fun i hi=> ?_) (fun F=>⟨_,rfl,by omega,fun _=>by rw [zef]⟩)
  ·simp [putRow,mapBlock,Sort.ahead]
  ·rw [zfi _ _ (by simp;omega)];simp [List.getElem_append_left hi]
def brd (xs:List Int):List Int:=Lib.compact (srtI xs)
theorem qk7 {d:Array Int} (hd: ∀i j,i < j->j < d.size->d[i]! <=d[j]!): ∀m,m<=d.size->(Lib.compactUpTo d m).Pairwise (· < ·)/\ ∀x,x∈Lib.compactUpTo d m↔ ∃i,i < m/\d[i]! =x
 | 0,_=>⟨List.Pairwise.nil,fun x=>⟨fun h=>(zdf h).elim,fun ⟨i,hi,_⟩=>absurd hi (Nat.not_lt_zero _)⟩⟩
 | m+1,hm=>by
  obtain ⟨h1,h2⟩:=qk7 hd m (by omega);rw [Lib.compactUpTo_succ];by_cases hk:Lib.keeps d m=true
  ·rw [if_pos hk];have hk':m=0∨d[m]! ≠d[m - 1]! :=zdt hk;refine ⟨zec.2 ⟨h1,zek _ _,fun x hx y hy=> ?_⟩,fun x=> ?_⟩
   ·rw [zbj.1 hy];obtain ⟨i,hi,rfl⟩:=(h2 x).1 hx;have hm0:m≠0:=by omega
    have h3:=hk'.resolve_left hm0;have h4:=hd (m - 1) m (by omega) (by omega);have h5:d[i]! <=d[m - 1]! :=by
     rcases zcb i (m - 1) with h | h
     ·exact hd i (m - 1) h (by omega)
     ·rw [show i=m - 1 by omega];exact zea _
    omega
   ·rw [zbp,zbj,h2];constructor
    ·rintro (⟨i,hi,e⟩ | rfl)
     ·exact ⟨i,by omega,e⟩
     ·exact ⟨m,by omega,rfl⟩
    ·rintro ⟨i,hi,e⟩;rcases zcb i m with h | h
     ·exact .inl ⟨i,h,e⟩
     ·exact .inr (by rw [<-e,show i=m by omega])
  ·rw [if_neg hk,zdz];have hk': ¬(m=0∨d[m]! ≠d[m - 1]!):=fun h=>hk (zbf h);refine ⟨h1,fun x=> ?_⟩;rw [h2];constructor
   ·rintro ⟨i,hi,e⟩;exact ⟨i,by omega,e⟩
   ·rintro ⟨i,hi,e⟩;rcases zcb i m with h | h
    ·exact ⟨i,h,e⟩
    ·have hm0:m≠0:=fun h=>hk' (.inl h);have he:d[m]! =d[m - 1]! :=Decidable.byContradiction fun h=>hk' (.inr h);exact ⟨m - 1,by omega,by rw [<-he,<-e,show i=m by omega]⟩
theorem xw1 (xs:List Int):(brd xs).Pairwise (· < ·)/\ ∀x,x∈brd xs↔x∈xs:=by
 have hs:(srtI xs).Pairwise fun x y=>decide (x<=y)=true:=List.pairwise_mergeSort (fun a b c h1 h2=>by simp at*;omega) (fun a b=>by simp;omega) xs;have hp:(srtI xs).Perm xs:=List.mergeSort_perm ..;have h:=qk7 (d:=(srtI xs).toArray) (fun i j hij hj=>by
  have hj:j < (srtI xs).length:=by simpa using hj
  have:=zdx.1 hs i j (by omega) hj hij;rw [zfi _ _ (by simp;omega),zfi _ _ (by simpa using hj)];simpa using this) (srtI xs).length (by simp)
 refine ⟨h.1,fun x=>(h.2 x).trans ⟨fun ⟨i,hi,e⟩=> ?_,fun hx=> ?_⟩⟩
 ·rw [zfi _ _ (by simpa using hi)] at e;rw [<-hp.mem_iff,<-e];simp
 ·obtain ⟨i,hi,e⟩:=List.getElem_of_mem (hp.mem_iff.2 hx);exact ⟨i,hi,by rw [zfi _ _ (by simpa using hi)];simpa using e⟩
theorem qk0 (xs:List Int):(brd xs).length<=xs.length:=by
 have:=qd8 (srtI xs);rw [srtI,List.length_mergeSort] at this;exact this
end An
namespace An.S
open Go
def onL (l:List Tst) (d:Int):List Tst:=l.dropWhile fun s=>decide (s.hi<=d)
def onV (l:List Tst) (d:Int):Option Va:=if 0 < (onL l d).length/\((onL l d).getD 0 tst0).lo<=d then some ((onL l d).getD 0 tst0).v else none
theorem wb1 {xs:List Tst} {d:Int} (h:0 < xs.length) (h1:(xs.getD 0 tst0).hi<=d):onL (xs.drop 1) d=onL xs d:=by
 cases xs with
 | nil=>simp at h
 | cons s r=>
  have h1:s.hi<=d:=h1;rw [onL,onL,List.dropWhile_cons_of_pos (by simpa using h1)];rfl
theorem qh4 {xs:List Tst} {d:Int} (h: ¬(0 < xs.length/\(xs.getD 0 tst0).hi<=d)):onL xs d=xs:=by
 cases xs with
 | nil=>rfl
 | cons s r=>
  have h1: ¬s.hi<=d:=fun h'=>h ⟨by simp,h'⟩;rw [onL,List.dropWhile_cons_of_neg (by simpa using h1)]
theorem qo6 {l:List Tst} {d:Int}:(onL l d).length<=l.length:=(List.dropWhile_sublist _).length_le
theorem zg6 {l:List Tst} {d:Int} (h:ascT l):ascT (onL l d):=⟨fun s hs=>h.1 s ((List.dropWhile_sublist _).subset hs),h.2.sublist (List.dropWhile_sublist _)⟩
theorem yp4 {d:Int}: ∀{l:List Tst},∀e,d<=e->valT (onL l d) e=valT l e
 | [],_,_=>rfl
 | s::r,e,h=>by
  by_cases h1:s.hi<=d
  ·have:onL (s::r) d=onL r d:=by rw [onL,List.dropWhile_cons_of_pos (by simpa using h1)];rfl
   rw [this,yp4 e h,xe2,if_neg (by omega)]
  ·have:onL (s::r) d=s::r:=by rw [onL,List.dropWhile_cons_of_neg (by simpa using h1)]
   rw [this]
theorem qh7 {l:List Tst} {d:Int} (h:ascT l):onV l d=valT l d:=by
 rw [<-yp4 d (zea _),onV];have hd:0 < (onL l d).length->d < ((onL l d).getD 0 tst0).hi:=fun h0=>by
  clear h
  induction l with
  | nil=>simp [onL] at h0
  | cons s r ih=>
   by_cases h1:s.hi<=d
   ·have:onL (s::r) d=onL r d:=by rw [onL,List.dropWhile_cons_of_pos (by simpa using h1)];rfl
    rw [this] at h0 ⊢;exact ih h0
   ·have:onL (s::r) d=s::r:=by rw [onL,List.dropWhile_cons_of_neg (by simpa using h1)]
    rw [this];show d < s.hi;omega
 have ha:=zg6 (d:=d) h;generalize onL l d=xs at*
 cases xs with
 | nil=>rfl
 | cons s r=>
  have h1:d < s.hi:=hd (by simp);rw [xe2];by_cases h2:s.lo<=d
  ·rw [if_pos ⟨by simp,h2⟩,if_pos ⟨h2,h1⟩];rfl
  ·rw [if_neg (fun h=>h2 h.2),if_neg (fun h=>h2 h.1)];symm;refine xm5.2 fun t ht h=> ?_;have:=(zcg.1 ha.2).1 t ht;omega
def eds (l:List Tst):List Int:=l.flatMap fun s=>[s.lo,s.hi]
def bds (ls:List (List Tst)):List Int:=brd (ls.flatMap eds)
theorem wa7 {l:List Tst} {x:Int}:x∈eds l↔ ∃s∈l,x=s.lo∨x=s.hi:=by
 simp [eds,List.mem_flatMap]
theorem qq8 {l:List Tst}:(eds l).length=2*l.length:=by
 induction l with
 | nil=>rfl
 | cons s r ih=>rw [eds,zed,zbm,<-eds,ih];simp;omega
theorem ju2 {l:List Tst} {i:Nat} (hi:i < l.length):eds (l.take (i+1))=eds (l.take i)++[(l.getD i tst0).lo,(l.getD i tst0).hi]:=by
 rw [zca hi,eds,zeg,zbh,zbi hi];simp [eds]
theorem ji2 {ls:List (List Tst)} {i:Nat} (hi:i < ls.length):(ls.take (i+1)).flatMap eds=(ls.take i).flatMap eds++eds (ls.getD i []):=by
 rw [zca hi,zeg,zbh,zbi hi];simp
def tlen (ls:List (List Tst)):Nat:=(ls.map List.length).sum
theorem yi4: ∀{ls:List (List Tst)},(ls.flatMap eds).length=2*tlen ls
 | []=>rfl
 | l::r=>by rw [zed,zbm,qq8,yi4 (ls:=r)];simp [tlen];omega
theorem zj2 {ls:List (List Tst)}:(bds ls).length<=2*tlen ls:=by rw [<-yi4];exact qk0 _
theorem zw8 {ls:List (List Tst)}:(bds ls).Pairwise (· < ·):=(xw1 _).1
theorem zg5 {ls:List (List Tst)} {x:Int}:x∈bds ls↔ ∃l∈ls,∃s∈l,x=s.lo∨x=s.hi:=by
 rw [bds,(xw1 _).2,zcc];simp only [wa7]
theorem zz6 {ls:List (List Tst)} {l:List Tst} (h:l∈ls):ends (bds ls) l:=fun s hs=>⟨zg5.2 ⟨l,h,s,hs,.inl rfl⟩,zg5.2 ⟨l,h,s,hs,.inr rfl⟩⟩
theorem ys6 {ds:List Int} (h:ds.Pairwise (· < ·)) {i j:Nat} (hij:i < j) (hj:j < ds.length):ds.getD i 0 < ds.getD j 0:=by
 have:=zdx.1 h i j (by omega) hj hij
 rwa [zbh,zbh,zbi (show i < ds.length by omega),zbi hj]
def segI (g:Int->Option Va) (ds:List Int) (i:Nat):List Tst:=match g (ds.getD i 0) with
 | some v=>[⟨ds.getD i 0,ds.getD (i+1) 0,v⟩]
 | none=>[]
def segN (g:Int->Option Va) (ds:List Int) (k:Nat):List Tst:=(List.range k).flatMap (segI g ds)
theorem y9 {g:Int->Option Va} {ds:List Int} {k:Nat}:segN g ds (k+1)=segN g ds k++segI g ds k:=by
 rw [segN,List.range_succ,zeg];simp [segN]
theorem za4 {g:Int->Option Va}: ∀ds:List Int,segL g ds=segN g ds (ds.length - 1)
 | []=>rfl
 | [x]=>rfl
 | x::y::r=>by
  have e: ∀i,segI g (x::y::r) (i+1)=segI g (y::r) i:=fun i=>rfl;have e0:segI g (x::y::r) 0=(match g x with | some v=>[⟨x,y,v⟩] | none=>[]):=rfl;have h:(x::y::r).length - 1=r.length+1:=by simp
  have e1:segN g (x::y::r) (r.length+1)=segI g (x::y::r) 0++segN g (y::r) r.length:=by
   rw [segN,List.range_succ_eq_map,zed,List.flatMap_map];rfl
  rw [segL,za4 (y::r),h,e1,e0];rfl
theorem jz7 (acc xs ys:List Tst):pst acc (xs++ys)=pst (pst acc xs) ys:=by rw [pst,pst,pst,List.foldl_append]
theorem yv6 {g:Int->Option Va} {ds:List Int}: ∀k,(segN g ds k).length<=k
 | 0=>zbq _
 | k+1=>by
  rw [y9,zbm];have:=yv6 (g:=g) (ds:=ds) k;have h:(segI g ds k).length<=1:=by rw [segI];split <;> simp
  omega
def dfB (a b:List Tst) (d:Int):Bool:=decide (valT a d≠valT b d)
def dfI (a b:List Tst) (i:Nat):List Sn:=if dfB a b ((bds [a,b]).getD i 0) then [⟨(bds [a,b]).getD i 0,(bds [a,b]).getD (i+1) 0⟩] else []
def dfK (a b:List Tst) (k:Nat):List Sn:=(List.range k).flatMap (dfI a b)
theorem yw0 {a b:List Tst} {k:Nat}:dfK a b (k+1)=dfK a b k++dfI a b k:=by
 rw [dfK,List.range_succ,zeg];simp [dfK]
def dfT (a b:List Tst):List Sn:=dfK a b ((bds [a,b]).length - 1)
def ogI (a b:List Tst) (xa xb:List Tst) (d:Int):Prop:=(ascT xa/\xa.length<=a.length/\ ∀e,d<=e->valT xa e=valT a e)/\ascT xb/\xb.length<=b.length/\ ∀e,d<=e->valT xb e=valT b e
theorem ogI.next {a b xa xb:List Tst} {d e:Int} (h:ogI a b xa xb d) (hde:d<=e):onV xa e=valT a e/\onV xb e=valT b e/\ogI a b (onL xa e) (onL xb e) e:=by
 obtain ⟨⟨h1,h2,h3⟩,h4,h5,h6⟩:=h;refine ⟨(qh7 h1).trans (h3 e hde),(qh7 h4).trans (h6 e hde),⟨zg6 h1,zdc qo6 h2,fun x hx=>(yp4 x hx).trans (h3 x (Int.le_trans hde hx))⟩,zg6 h4,zdc qo6 h5,fun x hx=>(yp4 x hx).trans (h6 x (Int.le_trans hde hx))⟩
theorem ogI.zero {a b:List Tst} (ha:ascT a) (hb:ascT b) (d:Int):ogI a b a b d:=⟨⟨ha,zbq _,fun _ _=>rfl⟩,hb,zbq _,fun _ _=>rfl⟩
end An.S
namespace An
open Go
section
variable {P:Program} {c:Base}
theorem qq6 {D:Nat->Bool} {n:Nat} (h: ∀j,n<=j->D j=false): ∀m,m - n<=left D m
 | 0=>by simp [left]
 | m+1=>by
  have ih:=qq6 h m;simp only [left];rcases zcb m n with h1 | h1
  ·omega
  ·rw [h m h1];simp only [zdy];omega
theorem we4 {ops:List Oper} {Es:List Eff} {n:Nat} {g0:Slots} {h0:Keys} {al0:Nat->Bool} {Q:Exit->Act->World->Prop} (hn:n<=ops.length) (hlen:n=Es.length)
  (hD: ∀(i:Nat) (o:Oper) (E:Eff),ops[i]? =some o->Es[i]? =some E->DoesR P c ops.toArray o E)
  (hpre: ∀(i:Nat) (E:Eff),Es[i]? =some E->E.PreL (runC (fun j=>decide (j < i)) 0 (Es.map Eff.cg) g0) (runC (fun j=>decide (j < i)) 0 (Es.map Eff.ch) h0) (runC (fun j=>decide (j < i)) 0 (Es.map Eff.ca) al0))
  (hgo:goAll (masks ops #[]) [] (Es.map Eff.sm)=true) (hd:dOk c.N (Es.map Eff.sm)=true) (hnk:nkOk (Es.map Eff.sm) []=true) (hed:edgesOk 0 ops=true)
  (hrest: ∀i,n<=i->i < ops.length-> ∀j,j < i->((masks ops #[]).getD i 0).testBit j=true)
  (hQ: ∀(fuel:Nat) (listed:Array Bool) (a:Act) (w:World),listed.size=ops.length->Closed ops (fun i=>listed.getD i false)->(∀j,listed.getD j false=decide (j < n))->ops.length - n<=fuel->
   St c (runC (fun _=>true) 0 (Es.map Eff.cg) g0) (runC (fun _=>true) 0 (Es.map Eff.ch) h0) (runC (fun _=>true) 0 (Es.map Eff.ca) al0) a w->wpAnyIn (fc c.ro) 0 P .any ops.toArray Q fuel listed a w):
  ∀(fuel:Nat) (listed:Array Bool) (a:Act) (w:World),listed.size=ops.length->Closed ops (fun i=>listed.getD i false)->(∀j,n<=j->listed.getD j false=false)->
   left (fun i=>listed.getD i false) ops.length<=fuel->
   St c (runC (fun i=>listed.getD i false) 0 (Es.map Eff.cg) g0) (runC (fun i=>listed.getD i false) 0 (Es.map Eff.ch) h0) (runC (fun i=>listed.getD i false) 0 (Es.map Eff.ca) al0) a w->
   wpAnyIn (fc c.ro) 0 P .any ops.toArray Q fuel listed a w:=by
 have hsm: ∀(i:Nat) (E:Eff),Es[i]? =some E->(Es.map Eff.sm)[i]? =some E.sm:=fun i E h=>by rw [zbs,h];rfl
 have hpair: ∀(i j:Nat) (E E':Eff),i < j->Es[i]? =some E->Es[j]? =some E'->((masks ops #[]).getD j 0).testBit i=true∨Indep E.sm E'.sm:=fun i j E E' hij hi hj=>
  yi6 (Es.map Eff.sm) [] hgo i j _ _ hij (zbt _) (by simpa using hsm i E hi) (by simpa using hsm j E' hj)
 have hmask: ∀D,Closed ops D-> ∀i j,((masks ops #[]).getD i 0).testBit j=true->(∀o,ops[i]? =some o-> ∀e∈o.after.toList,Region.binds .any e=true->D e.on=true)->D j=true:=by
  intro D hcl i j hj hi;rw [zbk] at hj;cases hm:(masks ops #[])[i]? with
  | none=>rw [hm] at hj;simp at hj
  | some m=>rw [hm] at hj;exact ya3 (ops:=ops) ops #[] (by simp) (by simp) D hcl i m hm hi j hj
 have hmaskD: ∀D,Closed ops D-> ∀i j,((masks ops #[]).getD i 0).testBit j=true->D i=true->D j=true:=fun D hcl i j hj hi=>hmask D hcl i j hj fun o ho=>hcl i o ho hi;have hall: ∀(fuel:Nat) (listed:Array Bool) (a:Act) (w:World),listed.size=ops.length->Closed ops (fun i=>listed.getD i false)->(∀j,n<=j->listed.getD j false=false)->left (fun i=>listed.getD i false) ops.length<=fuel->
   St c (runC (fun i=>listed.getD i false) 0 (Es.map Eff.cg) g0) (runC (fun i=>listed.getD i false) 0 (Es.map Eff.ch) h0) (runC (fun i=>listed.getD i false) 0 (Es.map Eff.ca) al0) a w->
   (∀j,j < n->listed.getD j false=true)->wpAnyIn (fc c.ro) 0 P .any ops.toArray Q fuel listed a w:=by
  intro fuel listed a w hsz hcl hno hleft hs hall;have hcong: ∀{β:Type} (l:List (Chg β)) (f:Nat->β),l.length=n->runC (fun i=>listed.getD i false) 0 l f=runC (fun _=>true) 0 l f:=fun l f hl=>by
   funext s;refine xh1 l 0 f f rfl fun j C hj _=> ?_;rw [zcn];exact hall j (by have:=(zbo.1 hj).1;omega)
  rw [hcong _ _ (by simp [hlen]),hcong _ _ (by simp [hlen]),hcong _ _ (by simp [hlen])] at hs;have hge:=qq6 (D:=fun i=>listed.getD i false) hno ops.length;refine hQ fuel listed a w hsz hcl (fun j=> ?_) (by omega) hs;rcases zcb j n with h1 | h1
  ·rw [hall j h1,zbf h1]
  ·rw [hno j h1,zbg (by omega)]
 have hsome: ∀(listed:Array Bool),listed.size=ops.length-> ¬(∀j,j < n->listed.getD j false=true)->Region.ready .any ops.toArray listed≠[]:=by
  intro listed hsz hnall hr;refine hnall fun i=> ?_
  induction i using Nat.strongRecOn with
  | _ i ih=>
   intro hi;cases hl:listed.getD i false with
   | true=>rfl
   | false=>
    exfalso;have:i∈Region.ready .any ops.toArray listed:=by
     rw [mem_ready];refine ⟨?_,ops[i],by simp [show i < ops.length by omega],fun e he hb=> ?_⟩
     ·rw [zbk] at hl ⊢;rw [zcm (by omega)] at hl ⊢;simpa using hl
     ·have hon:=xt5 ops 0 hed i ops[i] (zbi (by omega)) e (by simpa using he) hb;exact ih e.on (by omega) (by omega)
    rw [hr] at this;cases this
 intro fuel
 induction fuel with
 | zero=>
  intro listed a w hsz hcl hno hleft hs;refine hall 0 listed a w hsz hcl hno hleft hs fun j hj=> ?_;exact yp1 (D:=fun i=>listed.getD i false) ops.length (by omega) j (by omega)
 | succ fuel ih=>
  intro listed a w hsz hcl hno hleft hs;by_cases hal: ∀j,j < n->listed.getD j false=true
  ·exact hall _ listed a w hsz hcl hno hleft hs hal
  refine ⟨fun hr=>absurd hr (hsome listed hsz hal),fun i hi=> ?_⟩;have hin:i < n:=by
   rw [mem_ready] at hi;obtain ⟨h1,o,ho,hedge⟩:=hi;have hlt:i < ops.length:=by
    have:=(zeu.1 ho).1;simpa using this
   refine Decidable.byContradiction fun hge=>hal fun j hj=> ?_;exact hmask _ hcl i j (hrest i (by omega) hlt j (by omega)) fun o' ho'' e he hbd=>by
    have ho3:ops[i]? =some o:=by simpa using ho
    rw [ho3] at ho'';cases ho'';exact hedge e (by simpa using he) hbd
  rw [mem_ready] at hi;obtain ⟨h1,o,ho,hedge⟩:=hi;have hlt:i < ops.length:=by
   have:=(zeu.1 ho).1;simpa using this
  have ho':ops[i]? =some o:=by simpa using ho
  have hEi:Es[i]? =some (Es[i]'(by omega)):=zbi (by omega);generalize hE:Es[i]'(by omega)=E at hEi;have hDi:listed.getD i false=false:=by
   rw [zbk,zcm (by omega)] at h1 ⊢;simpa using h1
  have hahead: ∀j E',Es[j]? =some E'->j≠i-> ¬Indep E'.sm E.sm-> ¬Indep E.sm E'.sm->listed.getD j false=decide (j < i):=by
   intro j E' hj hji hn1 hn2;rcases zcb j i with hlt' | hge
   ·rw [zbf hlt'];rcases hpair j i E' E hlt' hj hEi with hb | hb
    ·exact hmask _ hcl i j hb fun o' ho'' e he hbd=>by
      rw [ho'] at ho'';cases ho'';exact hedge e (by simpa using he) hbd
    ·exact absurd hb hn1
   ·rw [zbg (by omega)];rcases hpair i j E E' (by omega) hEi hj with hb | hb
    ·cases hd':listed.getD j false with
     | false=>rfl
     | true=>
      have this:listed.getD i false=true:=hmaskD _ hcl j i hb hd';rw [hDi] at this;cases this
    ·exact absurd hb hn2
  have hp0:=hpre i E hEi;have hpD:E.Pre c (runC (fun i=>listed.getD i false) 0 (Es.map Eff.cg) g0) (runC (fun i=>listed.getD i false) 0 (Es.map Eff.ch) h0) (runC (fun i=>listed.getD i false) 0 (Es.map Eff.ca) al0):=by
   refine ⟨Rd.congr (fun s hs=> ?_) hp0.rd,Kr.congr (fun s hs=> ?_) hp0.kr,Nk.congr (fun s hs=> ?_) hp0.nk,fun x hx=> ?_⟩
   ·refine xh1 _ 0 _ _ rfl fun j C hj hsome=> ?_;rw [zbs] at hj;cases hj':Es[j]? with
    | none=>rw [hj'] at hj;cases hj
    | some E'=>
     rw [hj'] at hj;cases hj;have hw:=Eff.cg_some.1 hsome;rw [zcn];by_cases hji:j=i
     ·subst hji;rw [zbg (by omega)];exact hDi.symm
     ·exact (hahead j E' hj' hji (fun hI=>hI.h1 s hw hs) (fun hI=>hI.h3 s hw hs)).symm
   ·refine xh1 _ 0 _ _ rfl fun j C hj hsome=> ?_;rw [zbs] at hj;cases hj':Es[j]? with
    | none=>rw [hj'] at hj;cases hj
    | some E'=>
     rw [hj'] at hj;cases hj;have hw:=Eff.ch_some.1 hsome;rw [zcn];by_cases hji:j=i
     ·subst hji;rw [zbg (by omega)];exact hDi.symm
     ·exact (hahead j E' hj' hji (fun hI=>hI.h4 s hw hs) (fun hI=>hI.h6 s hw hs)).symm
   ·refine xh1 _ 0 _ _ rfl fun j C hj hsome=> ?_;rw [zbs] at hj;cases hj':Es[j]? with
    | none=>rw [hj'] at hj;cases hj
    | some E'=>
     rw [hj'] at hj;cases hj;rw [zcn];by_cases hji:j=i
     ·subst hji;rw [zbg (by omega)];exact hDi.symm
     ·exfalso;have hm:s∈E'.nk:=Eff.ca_mem hsome;have hs':s∈E.sm.nk:=hs;rcases zcb j i with hlt' | hge
      ·exact (xo1 hnk).2 j i _ _ hlt' (hsm j E' hj') (hsm i E hEi) s hm hs'
      ·exact (xo1 hnk).2 i j _ _ (by omega) (hsm i E hEi) (hsm j E' hj') s hs' hm
   ·exact yj6 hd i _ (hsm i E hEi) x.1 (by simp [Eff.sm,hx])
  have hD': ∀j,j≠i->(listed.setIfInBounds i true).getD j false=listed.getD j false:=fun j hj=>Go.getD_set_ne false (fun h=>hj h.symm);have hi':(listed.setIfInBounds i true).getD i false=true:=by
   rw [zbk];simp [hsz,hlt]
  have hg':E.g (runC (fun i=>listed.getD i false) 0 (Es.map Eff.cg) g0)=runC (fun j=>(listed.setIfInBounds i true).getD j false) 0 (Es.map Eff.cg) g0:=by
   rw [<-Eff.cg_run];refine xv2 (D':=fun j=>(listed.setIfInBounds i true).getD j false) (i:=i) (by rw [zbs,hEi];rfl) hD' hi' (fun j C' hj hij s h1 h2=> ?_) _;rw [zbs] at hj;cases hj':Es[j]? with
   | none=>rw [hj'] at hj;cases hj
   | some E'=>
    rw [hj'] at hj;cases hj;have:=hahead j E' hj' (by omega) (fun hI=>hI.h2 s (Eff.cg_some.1 h2) (Eff.cg_some.1 h1)) (fun hI=>hI.h2 s (Eff.cg_some.1 h1) (Eff.cg_some.1 h2));rw [this,zbg (by omega)]
  have hh':E.h (runC (fun i=>listed.getD i false) 0 (Es.map Eff.ch) h0)=runC (fun j=>(listed.setIfInBounds i true).getD j false) 0 (Es.map Eff.ch) h0:=by
   rw [<-Eff.ch_run];refine xv2 (D':=fun j=>(listed.setIfInBounds i true).getD j false) (i:=i) (by rw [zbs,hEi];rfl) hD' hi' (fun j C' hj hij s h1 h2=> ?_) _;rw [zbs] at hj;cases hj':Es[j]? with
   | none=>rw [hj'] at hj;cases hj
   | some E'=>
    rw [hj'] at hj;cases hj;have:=hahead j E' hj' (by omega) (fun hI=>hI.h5 s (Eff.ch_some.1 h2) (Eff.ch_some.1 h1)) (fun hI=>hI.h5 s (Eff.ch_some.1 h1) (Eff.ch_some.1 h2));rw [this,zbg (by omega)]
  have ha':E.al (runC (fun i=>listed.getD i false) 0 (Es.map Eff.ca) al0)=runC (fun j=>(listed.setIfInBounds i true).getD j false) 0 (Es.map Eff.ca) al0:=by
   rw [<-Eff.ca_run];refine xv2 (D':=fun j=>(listed.setIfInBounds i true).getD j false) (i:=i) (by rw [zbs,hEi];rfl) hD' hi' (fun j C' hj hij s h1 h2=> ?_) _;rw [zbs] at hj;cases hj':Es[j]? with
   | none=>rw [hj'] at hj;cases hj
   | some E'=>
    rw [hj'] at hj;cases hj;exfalso;exact (xo1 hnk).2 i j _ _ hij (hsm i E hEi) (hsm j E' hj') s (Eff.ca_mem h1) (Eff.ca_mem h2)
  have hcl':Closed ops (fun j=>(listed.setIfInBounds i true).getD j false):=by
   intro j o' hj hDj e he hb;by_cases hji:j=i
   ·subst hji;rw [ho'] at hj;cases hj;exact getD_set_true (hedge e (by simpa using he) hb)
   ·simp only [hD' j hji] at hDj;exact getD_set_true (hcl j o' hj hDj e he hb)
  have hleft':left (fun j=>(listed.setIfInBounds i true).getD j false) ops.length<=fuel:=by
   have:=yw7 (D:=fun j=>listed.getD j false) (D':=fun j=>(listed.setIfInBounds i true).getD j false) (i:=i) hD' hi' hDi ops.length hlt;omega
  have hdo:=hD i o E ho' hEi _ _ _ a w hpD hs;have hgo': ∀a' w',St c (E.g (runC (fun i=>listed.getD i false) 0 (Es.map Eff.cg) g0)) (E.h (runC (fun i=>listed.getD i false) 0 (Es.map Eff.ch) h0)) (E.al (runC (fun i=>listed.getD i false) 0 (Es.map Eff.ca) al0)) a' w'->
    wpAnyIn (fc c.ro) 0 P .any ops.toArray Q fuel (listed.setIfInBounds i true) a' w':=fun a' w' hs'=>by
   rw [hg',hh',ha'] at hs';exact ih _ a' w' (by simp [hsz]) hcl' (fun j hj=>by rw [hD' j (by omega)];exact hno j hj) hleft' hs'
  unfold wpOpIn;rw [ho];simp only;split
  ·rename_i hw;rw [if_pos hw] at hdo;exact Oper.wpIn_mono hgo' (zg7 hdo)
  ·rename_i hw;rw [if_neg hw] at hdo;exact ⟨fun _ _=>trivial,hgo' _ _ hdo⟩
theorem js1 {ops:List Oper} {Q:Exit->Act->World->Prop} {n:Nat} (hed:edgesOk 0 ops=true) (hrest: ∀i,n<=i->i < ops.length-> ∀j,j < i->((masks ops #[]).getD i 0).testBit j=true):
  ∀(k m:Nat) (fuel:Nat) (listed:Array Bool) (a:Act) (w:World),n<=m->m+k=ops.length->listed.size=ops.length->Closed ops (fun i=>listed.getD i false)->(∀j,listed.getD j false=decide (j < m))->k<=fuel->
   wpListIn (fc c.ro) 0 P ops.toArray Q (ops.drop m) a w->wpAnyIn (fc c.ro) 0 P .any ops.toArray Q fuel listed a w:=by
 have hmask: ∀D,Closed ops D-> ∀i j,((masks ops #[]).getD i 0).testBit j=true->(∀o,ops[i]? =some o-> ∀e∈o.after.toList,Region.binds .any e=true->D e.on=true)->D j=true:=by
  intro D hcl i j hj hi;rw [zbk] at hj;cases hm:(masks ops #[])[i]? with
  | none=>rw [hm] at hj;simp at hj
  | some m=>rw [hm] at hj;exact ya3 (ops:=ops) ops #[] (by simp) (by simp) D hcl i m hm hi j hj
 intro k
 induction k with
 | zero=>
  intro m fuel listed a w hnm hmk hsz hcl hli hfu hw;have hnil:Region.ready .any ops.toArray listed=[]:=by
   cases hr:Region.ready .any ops.toArray listed with
   | nil=>rfl
   | cons i rs=>
    have hi:i∈Region.ready .any ops.toArray listed:=by rw [hr];simp
    rw [mem_ready] at hi;obtain ⟨h1,o,ho,_⟩:=hi;have hlt:i < ops.length:=by
     have:=(zeu.1 ho).1;simpa using this
    have this:=hli i;rw [zbf (by omega)] at this;rw [zbk,zcm (by omega)] at h1 this;simp at h1 this;rw [h1] at this;cases this
  rw [List.drop_of_length_le (by omega)] at hw;cases fuel with
  | zero=>exact ⟨hnil,hw⟩
  | succ f=>
   refine ⟨fun _=>hw,fun i hi=> ?_⟩;rw [hnil] at hi;cases hi
 | succ k ih=>
  intro m fuel listed a w hnm hmk hsz hcl hli hfu hw;have hlt:m < ops.length:=by omega
  have hmr:m∈Region.ready .any ops.toArray listed:=by
   rw [mem_ready];have hl:=hli m;rw [zbg (by omega)] at hl;refine ⟨?_,ops[m],by simp [hlt],fun e he hb=> ?_⟩
   ·rw [zbk] at hl ⊢;rw [zcm (by omega)] at hl ⊢;simpa using hl
   ·have hon:=xt5 ops 0 hed m ops[m] (zbi (by omega)) e (by simpa using he) hb;rw [hli,zbf (by omega)]
  cases fuel with
  | zero=>omega
  | succ f=>
   refine ⟨fun hr=>(by rw [hr] at hmr;cases hmr),fun i hi=> ?_⟩;rw [mem_ready] at hi;obtain ⟨h1,o,ho,hedge⟩:=hi;have hlt2:i < ops.length:=by
    have:=(zeu.1 ho).1;simpa using this
   have ho3:ops[i]? =some o:=by simpa using ho
   have him:i=m:=by
    have hge:m<=i:=Decidable.byContradiction fun hge=>by
     have this:=hli i;rw [zbf (by omega)] at this;rw [zbk,zcm (by omega)] at h1 this;simp at h1 this;rw [h1] at this;cases this
    refine Decidable.byContradiction fun hne=> ?_;have hb:=hrest i (by omega) hlt2 m (by omega);have:=hmask _ hcl i m hb fun o' ho'' e he hbd=>by
     rw [ho3] at ho'';cases ho'';exact hedge e (by simpa using he) hbd
    rw [hli,zbg (by omega)] at this;cases this
   subst him;have edr:ops.drop i=o::ops.drop (i+1):=by
    rw [List.drop_eq_getElem_cons hlt];rw [zbi hlt] at ho3;cases ho3;rfl
   rw [edr] at hw;unfold wpListIn at hw;have hcl':Closed ops (fun j=>(listed.setIfInBounds i true).getD j false):=by
    intro j o' hj hDj e he hb;by_cases hji:j=i
    ·subst hji;rw [ho3] at hj;cases hj;exact getD_set_true (hedge e (by simpa using he) hb)
    ·simp only [Go.getD_set_ne false (fun h=>hji h.symm)] at hDj;exact getD_set_true (hcl j o' hj hDj e he hb)
   have hli': ∀j,(listed.setIfInBounds i true).getD j false=decide (j < i+1):=fun j=>by
    by_cases hji:j=i
    ·subst hji;rw [zbk];simp [hsz,hlt]
    ·rw [Go.getD_set_ne false (fun h=>hji h.symm),hli];by_cases h2:j < i
     ·rw [zbf h2,zbf (by omega)]
     ·rw [zbg h2,zbg (by omega)]
   have key:=fun a w (hw2:wpListIn (fc c.ro) 0 P ops.toArray Q (ops.drop (i+1)) a w)=>ih (i+1) f (listed.setIfInBounds i true) a w (by omega) (by omega) (by simp [hsz]) hcl' hli' (by omega) hw2;unfold wpOpIn;rw [ho];simp only;split
   ·rename_i hwa;rw [if_pos hwa] at hw;exact Oper.wpIn_mono key hw
   ·rename_i hwa;rw [if_neg hwa] at hw;exact ⟨hw.1,key _ _ hw.2⟩
end
def lastB (n:Nat) (ops:List Oper):Bool:=(List.range ops.length).all fun i=>Nat.blt i n || (List.range i).all fun j=>((masks ops #[]).getD i 0).testBit j
theorem zc1 {n:Nat} {ops:List Oper} (h:lastB n ops=true): ∀i,n<=i->i < ops.length-> ∀j,j < i->((masks ops #[]).getD i 0).testBit j=true:=fun i h1 h2 j hj=>by
 have h3:=zdk.1 h i (zcx.2 h2);rw [zdp] at h3;rcases h3 with h3 | h3
 ·have:i < n:=by simpa using h3
  omega
 ·exact zdk.1 h3 j (zcx.2 hj)
def chkY (ops:List Oper) (sms:List Sm) (n N:Nat):Bool:=goAll (masks ops #[]) [] sms && dOk N sms && nkOk sms [] && edgesOk 0 ops && lastB n ops && Nat.ble n ops.length
section
variable {P:Program} {c:Base} {Q:Exit->Act->World->Prop} {g:Slots} {h:Keys} {al:Names}
theorem wf0 (hm:P.follows .mixedOrders=true) {id n:Nat} {ops:List Oper}
  (H:RSeq P c ops.toArray (fun sms g h al=>chkY ops sms n c.N=true/\wl P c ops.toArray Q (ops.drop n) g h al) (ops.take n) [] g h al):wc P c (.region id ops.toArray true) Q g h al:=by
 intro a w hs;obtain ⟨Es,h1,h2,h3,h4⟩:=RSeq.split (g0:=g) (h0:=h) (al0:=al) (ops.take n) [] H;simp only [chkY,zbv,List.nil_append] at h3;obtain ⟨⟨⟨⟨⟨c1,c2⟩,c3⟩,c4⟩,c5⟩,c6⟩:=h3;have hn:n<=ops.length:=zdo c6;have hle:n=Es.length:=by rw [h1,zcu];omega
 refine wpIn_region_any hm ?_;have hsz:(Array.replicate ops.toArray.size false).size=ops.length:=by simp
 have hfl: ∀i,(Array.replicate ops.toArray.size false).getD i false=false:=fun i=>by
  rw [zbk,Array.getElem?_replicate];split <;> rfl
 have hfalse:(fun i=>(Array.replicate ops.toArray.size false).getD i false)=fun _=>false:=funext hfl;have h0: ∀{β:Type} (l:List (Chg β)) (i:Nat) (f:Nat->β),runC (fun _=>false) i l f=f:=by
  intro β l
  induction l with
  | nil=>intro i f;rfl
  | cons C l ih=>intro i f;simp only [runC,zdy];exact ih _ _
 have htake: ∀(i:Nat) (o:Oper) (E:Eff),ops[i]? =some o->Es[i]? =some E->(ops.take n)[i]? =some o:=fun i o E ho hE=>by
  have hi:i < Es.length:=(zbo.1 hE).1;rw [List.getElem?_take,if_pos (by omega)];exact ho
 refine we4 (g0:=g) (h0:=h) (al0:=al) hn hle (fun i o E ho hE=>(h2 i o E (htake i o E ho hE) hE).1) (fun i E hE=> ?_) c1 c2 c3 c4 (zc1 c5) (fun fuel listed a w hsz hcl hli hfu hs=> ?_) _ _ a _ hsz ?_ (fun j _=>hfl j) ?_ ?_
 ·have hi:i < Es.length:=(zbo.1 hE).1;have:=(h2 i ops[i] E (htake i _ E (zbi (by omega)) hE) hE).2;rw [xs4,xs4,xs4];simpa [List.map_take] using this
 ·rw [xo0,xo0,xo0] at hs;exact js1 c4 (zc1 c5) (ops.length - n) n fuel listed a w (zbq _) (by omega) hsz hcl hli hfu (h4 a w (by simpa using hs))
 ·rw [hfalse];intro i o _ hD;cases hD
 ·rw [hfalse];have: ∀n,left (fun _=>false) n=n:=by
   intro n
   induction n with
   | zero=>rfl
   | succ n ih=>simp only [left,ih];rfl
  rw [this];simp
 ·rw [hfalse,h0,h0,h0];obtain ⟨η,s⟩:=hs;exact ⟨η,s.ext (Ext.drew w)⟩
end
theorem R_endY {P:Program} {c:Base} {Q:Exit->Act->World->Prop} {g:Slots} {h:Keys} {al:Names} {A:Array Oper} {sms:List Sm} {n N:Nat} {ops rest:List Oper} (h1:chkY ops sms n N=true) (h2:wl P c A Q rest g h al):RSeq P c A (fun sms g h al=>chkY ops sms n N=true/\wl P c A Q rest g h al) [] sms g h al:=⟨h1,h2⟩
end An
namespace An.S
open Go Go.Proofs An Tryz
instance ti38:TyI Tryz.prog 38 1 false:=⟨by kernel_rfl,by kernel_rfl⟩
instance ti174:TyI Tryz.prog 174 1 false:=⟨by kernel_rfl,by kernel_rfl⟩
instance ti176:TyI Tryz.prog 176 2 true:=⟨by kernel_rfl,by kernel_rfl⟩
instance sl35:SlI Tryz.prog 35 3 1 false:=⟨zgq,ti3⟩
instance sl56:SlI Tryz.prog 56 38 1 false:=⟨zgr,ti38⟩
instance fo176_0:FoI Tryz.prog 176 0 0:=⟨by kernel_rfl⟩
instance fo176_1:FoI Tryz.prog 176 1 1:=⟨by kernel_rfl⟩
instance fi79:FnI Tryz.prog 79:=⟨_,func79,by kernel_rfl,rfl⟩
instance fi80:FnI Tryz.prog 80:=⟨_,func80,by kernel_rfl,rfl⟩
instance fi174:FnI Tryz.prog 174:=⟨_,func174,by kernel_rfl,rfl⟩
instance fi175:FnI Tryz.prog 175:=⟨_,func175,by kernel_rfl,rfl⟩
theorem el3:ElI Tryz.prog 3 1 8 false (.int .i64 0):=⟨ti3,by kernel_rfl,by kernel_rfl⟩
theorem el38:ElI Tryz.prog 38 1 24 false (.slice none 0 0):=⟨ti38,by kernel_rfl,by kernel_rfl⟩
theorem zr176:(Tryz.prog.info? 176).bind (·.zero)=some (.agg #[.pointer none,.pointer none])/\ ∀F w,(tS [⟨1,false,(tE (.pointer none))⟩,⟨1,false,(tE (.pointer none))⟩]).p F w (.agg #[.pointer none,.pointer none]):=⟨by kernel_rfl,fun _ _=>⟨_,rfl,rfl,⟨fun _=>rfl,rfl⟩,⟨fun _=>rfl,rfl⟩,trivial⟩⟩
theorem bu83:BuI Tryz.prog 83 (fun i=>[(0,1),(1,1)][i]?) (.agg #[.int .i64 0,.int .i64 0]):=BuI.struct underlying83 (by kernel_rfl) (by kernel_rfl)
theorem zf3:Flat 1 false (.int .i64 0):=xd2 rfl
theorem zf38:Flat 1 false (.slice none 0 0):=xd2 rfl
instance un35:UnI Tryz.prog 35 (.slice 3):=⟨zgq⟩
instance un56:UnI Tryz.prog 56 (.slice 38):=⟨zgr⟩
def laySortR:Go.Shelf.Ren:=⟨fun n=>match n with | 125=>133 | 128=>199 | 129=>200 | 189=>79 | 215=>131 | 216=>196 | 257=>132 | 294=>190 | 295=>191 | 296=>192 | 297=>193 | 298=>194 | 299=>195 | 300=>197 | 301=>198 | 328=>229 | 329=>230 | 330=>231 | 331=>232 | 332=>233 | 343=>260 | n=>n,fun n=>match n with | 0=>0 | 3=>3 | 4=>4 | 5=>5 | 9=>9 | 28=>35 | 46=>141 | 51=>289 | 53=>144 | 131=>286 | 182=>280 | 183=>281 | 218=>310 | 222=>314 | 228=>334 | 229=>79 | n=>n,fun n=>n⟩
theorem laySort:Go.Proofs.Lays.n189 Tryz.prog laySortR where
 mixed:=by kernel_rfl
 f125:=by kernel_rfl
 f128:=by kernel_rfl
 f129:=by kernel_rfl
 f189:=by kernel_rfl
 f215:=by kernel_rfl
 f216:=by kernel_rfl
 f257:=by kernel_rfl
 f294:=by kernel_rfl
 f295:=by kernel_rfl
 f296:=by kernel_rfl
 f297:=by kernel_rfl
 f298:=by kernel_rfl
 f299:=by kernel_rfl
 f300:=by kernel_rfl
 f301:=by kernel_rfl
 f328:=by kernel_rfl
 f329:=by kernel_rfl
 f330:=by kernel_rfl
 f331:=by kernel_rfl
 f332:=by kernel_rfl
 f343:=by kernel_rfl
 t0:=by kernel_rfl
 a0:=fun w=>by kernel_rfl
 z0:=fun w=>by kernel_rfl
 v0:=fun w=>by kernel_rfl
 t3:=by kernel_rfl
 a3:=fun w=>by kernel_rfl
 z3:=fun w=>by kernel_rfl
 v3:=fun w=>by kernel_rfl
 t4:=by kernel_rfl
 a4:=fun w=>by kernel_rfl
 z4:=fun w=>by kernel_rfl
 v4:=fun w=>by kernel_rfl
 t5:=by kernel_rfl
 a5:=fun w=>by kernel_rfl
 z5:=fun w=>by kernel_rfl
 v5:=fun w=>by kernel_rfl
 t9:=by kernel_rfl
 a9:=fun w=>by kernel_rfl
 z9:=fun w=>by kernel_rfl
 v9:=fun w=>by kernel_rfl
 t28:=by kernel_rfl
 a28:=fun w=>by kernel_rfl
 z28:=fun w=>by kernel_rfl
 v28:=fun w=>by kernel_rfl
 t46:=by kernel_rfl
 a46:=fun w=>by kernel_rfl
 z46:=fun w=>by kernel_rfl
 v46:=fun w=>by kernel_rfl
 t51:=by kernel_rfl
 a51:=fun w=>by kernel_rfl
 z51:=fun w=>by kernel_rfl
 v51:=fun w=>by kernel_rfl
 t53:=by kernel_rfl
 a53:=fun w=>by kernel_rfl
 z53:=fun w=>by kernel_rfl
 v53:=fun w=>by kernel_rfl
 t131:=by kernel_rfl
 a131:=fun w=>by kernel_rfl
 z131:=fun w=>by kernel_rfl
 v131:=fun w=>by kernel_rfl
 t182:=by kernel_rfl
 a182:=fun w=>by kernel_rfl
 z182:=fun w=>by kernel_rfl
 v182:=fun w=>by kernel_rfl
 t183:=by kernel_rfl
 a183:=fun w=>by kernel_rfl
 z183:=fun w=>by kernel_rfl
 v183:=fun w=>by kernel_rfl
 t218:=by kernel_rfl
 a218:=fun w=>by kernel_rfl
 z218:=fun w=>by kernel_rfl
 v218:=fun w=>by kernel_rfl
 t222:=by kernel_rfl
 a222:=fun w=>by kernel_rfl
 z222:=fun w=>by kernel_rfl
 v222:=fun w=>by kernel_rfl
 t228:=by kernel_rfl
 a228:=fun w=>by kernel_rfl
 z228:=fun w=>by kernel_rfl
 v228:=fun w=>by kernel_rfl
 t229:=by kernel_rfl
 a229:=fun w=>by kernel_rfl
 z229:=fun w=>by kernel_rfl
 v229:=fun w=>by kernel_rfl
def layCompR:Go.Shelf.Ren:=⟨fun n=>match n with | 20=>80 | n=>n,fun n=>match n with | 0=>0 | 3=>3 | 4=>4 | 22=>35 | n=>n,fun n=>n⟩
theorem layComp:Go.Proofs.Lays2.n20 Tryz.prog layCompR where
 mixed:=by kernel_rfl
 f20:=by kernel_rfl
 t0:=by kernel_rfl
 a0:=fun w=>by kernel_rfl
 z0:=fun w=>by kernel_rfl
 v0:=fun w=>by kernel_rfl
 t3:=by kernel_rfl
 a3:=fun w=>by kernel_rfl
 z3:=fun w=>by kernel_rfl
 v3:=fun w=>by kernel_rfl
 t4:=by kernel_rfl
 a4:=fun w=>by kernel_rfl
 z4:=fun w=>by kernel_rfl
 v4:=fun w=>by kernel_rfl
 t22:=by kernel_rfl
 a22:=fun w=>by kernel_rfl
 z22:=fun w=>by kernel_rfl
 v22:=fun w=>by kernel_rfl
 i3:=by kernel_rfl
theorem qh6 (xs:List Int) (hn:xs.length < 4611686018427387904):CtG Tryz.prog 79 [(1,⟨3,1,false,rV tI xs⟩)] [.own (.sl 1 1 0 xs.length)] (.val (tE (.tuple #[]))) [(1,⟨3,1,false,rV tI (srtI xs)⟩)] []:=sortI laySort 3 xs hn
theorem qt2 (xs:List Int):CtG Tryz.prog 80 [(1,⟨3,1,false,rV tI xs⟩)] [.own (.sl 1 1 0 xs.length)] (.own (.sl 1 1 0 (Lib.compact xs).length)) [(1,⟨3,1,false,rV tI (Lib.compact xs)⟩)] []:=compactI layComp 3 xs
theorem yv8 (xs:List Int):(srtI xs).length=xs.length:=List.length_mergeSort ..
theorem zc2 (xs:List Int):CtG Tryz.prog 80 [(1,⟨3,1,false,rV tI (srtI xs)⟩)] [.own (.sl 1 1 0 xs.length)] (.own (.sl 1 1 0 (brd xs).length)) [(1,⟨3,1,false,rV tI (brd xs)⟩)] []:=by
 have h:=qt2 (srtI xs);rw [yv8] at h;exact h
theorem qb5 {l xs:List Tst} {d:Int} (h:onL l d=xs) (h0:0 < xs.length/\(xs.getD 0 tst0).lo<=d):onV l d=some (xs.getD 0 tst0).v:=by rw [onV,h,if_pos h0]
theorem yi7 {l xs:List Tst} {d:Int} (h:onL l d=xs) (h0: ¬(0 < xs.length/\(xs.getD 0 tst0).lo<=d)):onV l d=none:=by rw [onV,h,if_neg h0]
theorem jn4 {ls:List (List Tst)} {i:Nat} (hi:i < ls.length):tlen (ls.take i)+(ls.getD i []).length<=tlen ls:=by
 have e:tlen (ls.take (i+1))=tlen (ls.take i)+(ls.getD i []).length:=by
  rw [zca hi,tlen,zez,List.sum_append,zbh,zbi hi];simp [tlen]
 have e2:tlen ls=tlen (ls.take (i+1))+tlen (ls.drop (i+1)):=by
  rw [tlen,tlen,tlen,<-List.sum_append,<-zez,List.take_append_drop]
 omega
theorem jd6 (ls:List (List Tst)) (hl:ls.length<=1000) (ht:tlen ls<=1000000):
  Ct Tryz.prog 174 [tL 1 false (fun l=>tL 8 true tTs l) ls] (tL 1 false tI (bds ls)):=by
 refine Ct.intro func174 rfl ntmps174 rfl ?_;intro w F;refine A7 ?_;refine RE (xg1 (k:=3) 3 1 false rfl (fun _=>rfl)) trivial trivial qA ?_;refine A11 ?_;refine cL (fun (fm:(Nat)×(List Int))=>(fun (i:Nat) (xs:List Int)=>i<=ls.length/\xs=(ls.take i).flatMap eds) fm.1 fm.2) (wB fun (i:Nat) (xs:List Int)=>uV (uV (uV (uO uN 3 (.sl 3 1 0 xs.length)) 8 (tL 1 false (fun l=>tL 8 true tTs l) ls)) 9 (tI ls.length)) 10 (tI i)) (wB fun (i:Nat) (xs:List Int)=>uK uN 3 3 1 false (rV tI xs)) [3] (fun (fm:(Nat)×(List Int))=>(fun (i:Nat) (xs:List Int)=>ls.length - i) fm.1 fm.2) ((0,[])) (by dsimp only;exact ⟨zbt _,rfl⟩) ?_;intro fm hI;obtain ⟨i,xs⟩:=fm;replace hI:i<=ls.length/\xs=(ls.take i).flatMap eds:=hI;show wc _ _ _ _ (uV (uV (uV (uO uN 3 (.sl 3 1 0 xs.length)) 8 (tL 1 false (fun l=>tL 8 true tTs l) ls)) 9 (tI ls.length)) 10 (tI i)) (uK uN 3 3 1 false (rV tI xs)) _;obtain ⟨hi,hx⟩:=hI;refine A6 ?_;refine x9 rfl (fun h151=> ?_) (fun h151=> ?_)
 ·
  refine A6 ?_;refine R2 (x5 sl56 (i) (by omega) (zai (l:=ls) (n:=i) (d:=[]))) rfl rfl ?_;refine A12 ?_;refine xg9 (s:=14) rfl (fun hl0=> ?_);have htk:=jn4 (ls:=ls) (i:=i) (by omega);refine cL (fun (fm:(Nat)×(List Int))=>(fun (j:Nat) (xs:List Int)=>j<=(ls.getD i []).length/\xs=(ls.take i).flatMap eds++eds ((ls.getD i []).take j)) fm.1 fm.2) (wB fun (j:Nat) (xs:List Int)=>uV (uV (uV (uV (uV (uV (uO uN 3 (.sl 3 1 0 xs.length)) 8 (tL 1 false (fun l=>tL 8 true tTs l) ls)) 9 (tI ls.length)) 10 (tI i)) 14 (tL 8 true tTs (ls.getD i []))) 15 (tI (ls.getD i []).length)) 16 (tI j)) (wB fun (j:Nat) (xs:List Int)=>uK uN 3 3 1 false (rV tI xs)) [3] (fun (fm:(Nat)×(List Int))=>(fun (j:Nat) (xs:List Int)=>(ls.getD i []).length - j) fm.1 fm.2) ((0,xs)) (by dsimp only;exact ⟨zbt _,by rw [zej,hx];simp [eds]⟩) ?_;intro fm hI2;obtain ⟨j,xs⟩:=fm;replace hI2:j<=(ls.getD i []).length/\xs=(ls.take i).flatMap eds++eds ((ls.getD i []).take j):=hI2;show wc _ _ _ _ (uV (uV (uV (uV (uV (uV (uO uN 3 (.sl 3 1 0 xs.length)) 8 (tL 1 false (fun l=>tL 8 true tTs l) ls)) 9 (tI ls.length)) 10 (tI i)) 14 (tL 8 true tTs (ls.getD i []))) 15 (tI (ls.getD i []).length)) 16 (tI j)) (uK uN 3 3 1 false (rV tI xs)) _;obtain ⟨hj,hx2⟩:=hI2;have hxl:xs.length=2*tlen (ls.take i)+2*j:=by rw [hx2,zbm,yi4,qq8,zcu,zfn hj]
  refine A6 ?_;refine x9 rfl (fun h152=> ?_) (fun h152=> ?_)
  ·
   refine A6 ?_;refine R2 (x5 sl38 (j) (by omega) (zai (l:=(ls.getD i [])) (n:=j) (d:=tst0))) rfl rfl ?_;refine A1 ?_;refine RE (xb8 (k:=7) (n:=8) (agg:=true) zr55.1 zr55.2 rfl) trivial trivial qA ?_;refine A9 ?_;refine R2 (xc2 (n:=2) (f:=fun n:Int=>tI n) [((ls.getD i []).getD j tst0).lo,((ls.getD i []).getD j tst0).hi] zgq el3 zf3 rfl (fun _=>inferInstance) rfl rfl rfl) rfl rfl (RE (xb3 (k:=3) (k':=26) (f:=fun n:Int=>tI n) (ys:=[((ls.getD i []).getD j tst0).lo,((ls.getD i []).getD j tst0).hi]) (ts':=rV tI (xs++[((ls.getD i []).getD j tst0).lo,((ls.getD i []).getD j tst0).hi])) zgq el3 zf3 rfl rfl (fun _=>inferInstance) xc0 (by simp;omega) (by simp;omega) (by simp [rV]) (n':=xs.length+2) rfl) qB qA qA ?_);refine A8 ?_;exact xe3 (l:=[3]) (zab 3 26) ((j+1,xs++[((ls.getD i []).getD j tst0).lo,((ls.getD i []).getD j tst0).hi])) ⟨(by dsimp only;exact ⟨by omega,by rw [ju2 (by omega),<-zdg,<-hx2]⟩),(by dsimp only;omega)⟩ (zaf rfl (zaf rfl (zas rfl (zaf rfl (zaf rfl (zas rfl ((zbc rfl (zaw (by dsimp only;rw [zbm];rfl))) zbd))))))) ((zbb rfl (zat x8.symm)) zbe) (zaj (zaj (zaj (zaj (zaj (zaj (zak rfl zar))))))) (zam rfl (supJ x6) zaz) (lkOk rfl) rfl rfl (fun _ h=>by cases h)
  ·
   refine A10 ?_;have hje:j=(ls.getD i []).length:=by omega
   subst hje;exact kF ((i+1,xs)) ⟨(by dsimp only;exact ⟨by omega,by rw [ji2 (by omega),hx2,zcf]⟩),(by dsimp only;omega)⟩
 ·
  refine A6 ?_;have hie:i=ls.length:=by omega
  subst hie;rw [zcf] at hx;have hxl:xs.length=2*tlen ls:=by rw [hx,yi4]
  have hsl:=yv8 xs;refine A2 ?_;refine RE (xb7 (fun _=>3) (qh6 xs (by omega)) fi79 rfl (krC (ρ:=fun _=>3) (k:=1) x8 (krN (ρ:=fun _=>3))) (krC (ρ:=fun _=>3) (k:=1) x8 (krN (ρ:=fun _=>3))) ⟨⟨rfl,x6⟩,trivial⟩ rfl) qA qA trivial ?_;refine A5 ?_;refine RE (xb7 (fun _=>3) (zc2 xs) fi80 rfl (krC (ρ:=fun _=>3) (k:=1) x8 (krN (ρ:=fun _=>3))) (krC (ρ:=fun _=>3) (k:=1) x8 (krN (ρ:=fun _=>3))) ⟨⟨rfl,x6⟩,trivial⟩ rfl) qA qA trivial (RE (ym3 (f:=tI) (xs:=brd xs) (fun _ h=>h) (xe9 rfl) rfl) qA qA trivial ?_);refine A3 ?_;exact E1 rfl rfl (Le.of (by rw [hx];rfl))
theorem c_on (l:List Tst) (d:Int):
  Ct Tryz.prog 175 [tL 8 true tTs l,tI d] (tT [tO 6 true tVa (onV l d),tL 8 true tTs (onL l d)]):=by
 refine Ct.intro func175 rfl ntmps175 rfl ?_;intro w F;refine xd9 ?_;refine xe0 ?_;refine R1 xb0 rfl (R1 xb0 rfl (xc9 (by kernel_rfl) (xb6 (xd9 (xi1 ?_)))));refine cL (fun (xs:List Tst)=>onL xs d=onL l d) (fun (xs:List Tst)=>uV (uV uN 0 (tL 8 true tTs xs)) 1 (tI d)) (fun (xs:List Tst)=>fun _=>none) [] (fun (xs:List Tst)=>xs.length) (l) rfl ?_;intro xs hI;refine xg9 (s:=0) rfl (fun hl0=> ?_);refine xd9 (xd9 ?_);refine xe0 ?_;refine R1 xa3 rfl (R1 (ya9 zgp) rfl (R2 xw8 rfl rfl (R1 xa3 rfl ?_)));refine RGcaseD (t:=9) rfl (fun h124=> ?_) (fun h124=> ?_)
 ·
  refine Rg (zbf h124) rfl xa3 rfl ⟨rfl,trivial⟩ (Rg (zbf h124) rfl (x5 sl38 (0) (by omega) (zai (l:=xs) (n:=0) (d:=tst0))) rfl ⟨rfl,rfl,trivial⟩ (Rg (zbf h124) rfl (xa6 fo55_1.h (At.f 1 rfl rfl) rfl) rfl ⟨rfl,trivial⟩ (Rg (zbf h124) rfl (xf2 ti3) rfl ⟨rfl,trivial⟩ (Rg (zbf h124) rfl xa3 rfl ⟨rfl,trivial⟩ (Rg (zbf h124) rfl zd4 rfl ⟨rfl,rfl,trivial⟩ (R2 (xc6 (zbf h124)) rfl rfl (xc9 (by kernel_rfl) (xb6 ?_))))))));refine x9 rfl (fun h124_2=> ?_) (fun h124_2=> ?_)
  ·
   refine xq5 (xb6 (xi1 ?_));refine xe0 ?_;refine R1 xa3 rfl (R2 (qe8 sl38 1 rfl (by omega) rfl) rfl rfl (R1 xb0 rfl (xc9 (by kernel_rfl) (xz6 ?_))));exact kF (xs.drop 1) ⟨(by rw [wb1 (by omega) (by omega)];exact hI),(by rw [List.length_drop];omega)⟩
  ·
   refine yf6 (xw9 (xw9 (yq0 (xb6 (xd9 (xd9 ?_))))));have hst:onL l d=xs:=by rw [<-hI];exact qh4 (by omega)
   refine xe0 ?_;refine R1 xa3 rfl (R1 (ya9 zgp) rfl (R2 xw8 rfl rfl (R1 xa3 rfl ?_)));refine RGcaseD (t:=22) rfl (fun h127=> ?_) (fun h127=> ?_)
   ·
    refine Rg (zbf h127) rfl xa3 rfl ⟨rfl,trivial⟩ (Rg (zbf h127) rfl (x5 sl38 (0) (by omega) (zai (l:=xs) (n:=0) (d:=tst0))) rfl ⟨rfl,rfl,trivial⟩ (Rg (zbf h127) rfl (xa6 fo55_0.h (At.f 0 rfl rfl) rfl) rfl ⟨rfl,trivial⟩ (Rg (zbf h127) rfl (xf2 ti3) rfl ⟨rfl,trivial⟩ (Rg (zbf h127) rfl xa3 rfl ⟨rfl,trivial⟩ (Rg (zbf h127) rfl zd4 rfl ⟨rfl,rfl,trivial⟩ (R2 (xc6 (zbf h127)) rfl rfl (xc9 (by kernel_rfl) (xb6 ?_))))))));refine x9 rfl (fun h127_2=> ?_) (fun h127_2=> ?_)
    ·
     refine xd9 ?_;refine xe0 ?_;refine R1 xa3 rfl (R2 (x5 sl38 (0) (by omega) (zai (l:=xs) (n:=0) (d:=tst0))) rfl rfl (R1 (xa6 fo55_2.h (At.f 2 rfl rfl) rfl) rfl (R1 xa3 rfl (R1 xb0 rfl (R1 xb0 rfl (xc9 (by kernel_rfl) (xb6 (xt9 (ym0 ?_)))))))));exact E2 rfl rfl rfl (leO (n:=6) (agg:=true) (f:=tVa) (qb5 hst ⟨by omega,by omega⟩)) (Le.of (by rw [hst]))
    ·
     refine xq5 (xb6 (xd9 ?_));refine xe0 ?_;refine R1 xa3 rfl (R1 xb0 rfl (R1 xb0 rfl (xc9 (by kernel_rfl) (xb6 (xt9 ?_)))));exact E2 rfl rfl rfl (leO0 (yi7 hst (by omega))) (Le.of (by rw [hst]))
   ·
    refine RGoff (zbg h127) rfl rfl (RGoff (zbg h127) rfl rfl (RGoff (zbg h127) rfl rfl (RGoff (zbg h127) rfl rfl (RGoff (zbg h127) rfl rfl (RGoff (zbg h127) rfl rfl (R2 (xc4 (zbg h127)) rfl rfl (xc9 (by kernel_rfl) (xb6 (xi8 rfl rfl (xq5 (xb6 (xd9 ?_))))))))))));refine xe0 ?_;refine R1 xa3 rfl (R1 xb0 rfl (R1 xb0 rfl (xc9 (by kernel_rfl) (xb6 (xt9 ?_)))));exact E2 rfl rfl rfl (leO0 (yi7 hst (by omega))) (Le.of (by rw [hst]))
 ·
  refine RGoff (zbg h124) rfl rfl (RGoff (zbg h124) rfl rfl (RGoff (zbg h124) rfl rfl (RGoff (zbg h124) rfl rfl (RGoff (zbg h124) rfl rfl (RGoff (zbg h124) rfl rfl (R2 (xc4 (zbg h124)) rfl rfl (xc9 (by kernel_rfl) (xb6 (xi8 rfl rfl (yf6 (xw9 (xw9 (yq0 (xb6 (xd9 ?_)))))))))))))));refine xd9 ?_;have hst:onL l d=xs:=by rw [<-hI];exact qh4 (by omega)
  refine xe0 ?_;refine R1 xa3 rfl (R1 (ya9 zgp) rfl (R2 xw8 rfl rfl (R1 xa3 rfl ?_)));refine RGcaseD (t:=22) rfl (fun h127=> ?_) (fun h127=> ?_)
  ·
   refine Rg (zbf h127) rfl xa3 rfl ⟨rfl,trivial⟩ (Rg (zbf h127) rfl (x5 sl38 (0) (by omega) (zai (l:=xs) (n:=0) (d:=tst0))) rfl ⟨rfl,rfl,trivial⟩ (Rg (zbf h127) rfl (xa6 fo55_0.h (At.f 0 rfl rfl) rfl) rfl ⟨rfl,trivial⟩ (Rg (zbf h127) rfl (xf2 ti3) rfl ⟨rfl,trivial⟩ (Rg (zbf h127) rfl xa3 rfl ⟨rfl,trivial⟩ (Rg (zbf h127) rfl zd4 rfl ⟨rfl,rfl,trivial⟩ (R2 (xc6 (zbf h127)) rfl rfl (xc9 (by kernel_rfl) (xb6 ?_))))))));refine x9 rfl (fun h127_2=> ?_) (fun h127_2=> ?_)
   ·
    refine xd9 ?_;refine xe0 ?_;refine R1 xa3 rfl (R2 (x5 sl38 (0) (by omega) (zai (l:=xs) (n:=0) (d:=tst0))) rfl rfl (R1 (xa6 fo55_2.h (At.f 2 rfl rfl) rfl) rfl (R1 xa3 rfl (R1 xb0 rfl (R1 xb0 rfl (xc9 (by kernel_rfl) (xb6 (xt9 (ym0 ?_)))))))));exact E2 rfl rfl rfl (leO (n:=6) (agg:=true) (f:=tVa) (qb5 hst ⟨by omega,by omega⟩)) (Le.of (by rw [hst]))
   ·
    refine xq5 (xb6 (xd9 ?_));refine xe0 ?_;refine R1 xa3 rfl (R1 xb0 rfl (R1 xb0 rfl (xc9 (by kernel_rfl) (xb6 (xt9 ?_)))));exact E2 rfl rfl rfl (leO0 (yi7 hst (by omega))) (Le.of (by rw [hst]))
  ·
   refine RGoff (zbg h127) rfl rfl (RGoff (zbg h127) rfl rfl (RGoff (zbg h127) rfl rfl (RGoff (zbg h127) rfl rfl (RGoff (zbg h127) rfl rfl (RGoff (zbg h127) rfl rfl (R2 (xc4 (zbg h127)) rfl rfl (xc9 (by kernel_rfl) (xb6 (xi8 rfl rfl (xq5 (xb6 (xd9 ?_))))))))))));refine xe0 ?_;refine R1 xa3 rfl (R1 xb0 rfl (R1 xb0 rfl (xc9 (by kernel_rfl) (xb6 (xt9 ?_)))));exact E2 rfl rfl rfl (leO0 (yi7 hst (by omega))) (Le.of (by rw [hst]))
theorem qu2 (a b:List Tst):
  CtG Tryz.prog 116 [] [.val (tL 8 true tTs a),.val (tL 8 true tTs b)] (.own (.fn 173 [.ptr 2 0,.ptr 3 0])) [(2,⟨38,1,false,[.val (tL 8 true tTs a)]⟩),(3,⟨38,1,false,[.val (tL 8 true tTs b)]⟩)] [2,3]:=by
 refine CtG.intro [] func116 rfl ntmps116 rfl rfl trivial ?_;intro w F η;refine A9 ?_;refine R2 (xt6 (ps:=[.ptr 2 0,.ptr 3 0]) rfl) rfl rfl ?_;refine A4 ?_;exact xg0 LentC.mk' rfl rfl Imp.refl qB rfl ⟨⟨rfl,(SupX.lit rfl)⟩,⟨rfl,(SupX.lit rfl)⟩,trivial⟩ rfl
abbrev tPr (x y:Option Va):Ty:=tS [⟨1,false,tO 6 true tVa x⟩,⟨1,false,tO 6 true tVa y⟩]
def tgY (a b:List Tst) (k:Nat):List Ty:=[tSn ⟨(bds [a,b]).getD k 0,(bds [a,b]).getD (k+1) 0⟩,tPr (valT a ((bds [a,b]).getD k 0)) (valT b ((bds [a,b]).getD k 0))]
theorem tg_le {a b:List Tst} {k:Nat} {x y:Option Va} (h1:x=valT a ((bds [a,b]).getD k 0)) (h2:y=valT b ((bds [a,b]).getD k 0)):LeL [tSn ⟨(bds [a,b]).getD k 0,(bds [a,b]).getD (k+1) 0⟩,tPr x y] (tgY a b k):=by
 subst h1;subst h2;exact ⟨zao,zao,trivial⟩
theorem qw2 (a b:List Tst) (ha:ascT a) (hb:ascT b) (hla:a.length<=200000) (hlb:b.length<=200000):
  ItC Tryz.prog 173 [(1,⟨38,1,false,[.val (tL 8 true tTs a)]⟩),(2,⟨38,1,false,[.val (tL 8 true tTs b)]⟩)] [.ptr 1 0,.ptr 2 0] ((bds [a,b]).length - 1) (tgY a b):=by
 refine ItC.intro (K:=99) [1,2] func173 rfl ntmps173 rfl rfl ⟨⟨rfl,(SupX.lit rfl)⟩,⟨rfl,(SupX.lit rfl)⟩,trivial⟩ rfl ?_;intro w F η l V J Jc hB;refine A1 ?_;have htl:tlen [a,b]<=400000:=by simp [tlen];omega
 refine A3 ?_;refine R2 (xc2 (n:=2) (f:=fun l=>tL 8 true tTs l) [a,b] zgr el38 zf38 rfl (fun _=>inferInstance) rfl rfl rfl) rfl rfl (R1 (x4 (jd6 [a,b] (by simp) (by omega)) fi174 rfl) rfl ?_);refine A9 ?_;have htl:tlen [a,b]<=400000:=by simp [tlen];omega
 have hdl:=zj2 (ls:=[a,b]);refine cL (fun (fm:(Nat)×(List Tst)×(List Tst))=>(fun (i:Nat) (xa:List Tst) (xb:List Tst)=>(i=0∨i+1<=(bds [a,b]).length)/\ogI a b xa xb ((bds [a,b]).getD (i - 1) 0)) fm.1 fm.2.1 fm.2.2) (wC fun (i:Nat) (xa:List Tst) (xb:List Tst)=>uV (uV (uO (uO (uV uN 0 (tE (.func (.yield l) #[] #[]))) 1 (.ptr 1 0)) 2 (.ptr 2 0)) 4 (tL 1 false tI (bds [a,b]))) 5 (tI ((i:Int)+1))) (wC fun (i:Nat) (xa:List Tst) (xb:List Tst)=>uK (uK (uK uN 1 38 1 false [.val (tL 8 true tTs xa)]) 2 38 1 false [.val (tL 8 true tTs xb)]) 99 (2*i) 1 false []) [1,2,99] (fun (fm:(Nat)×(List Tst)×(List Tst))=>(fun (i:Nat) (xa:List Tst) (xb:List Tst)=>(bds [a,b]).length - i) fm.1 fm.2.1 fm.2.2) ((0,a,b)) (by dsimp only;exact ⟨.inl rfl,ogI.zero ha hb _⟩) ?_;intro fm hI;obtain ⟨i,xa,xb⟩:=fm;replace hI:(i=0∨i+1<=(bds [a,b]).length)/\ogI a b xa xb ((bds [a,b]).getD (i - 1) 0):=hI;show wc _ _ _ _ (uV (uV (uO (uO (uV uN 0 (tE (.func (.yield l) #[] #[]))) 1 (.ptr 1 0)) 2 (.ptr 2 0)) 4 (tL 1 false tI (bds [a,b]))) 5 (tI ((i:Int)+1))) (uK (uK (uK uN 1 38 1 false [.val (tL 8 true tTs xa)]) 2 38 1 false [.val (tL 8 true tTs xb)]) 99 (2*i) 1 false []) _;obtain ⟨hi,hog⟩:=hI;refine A9 ?_;refine x9 rfl (fun h137=> ?_) (fun h137=> ?_)
 ·
  refine A5 ?_;have hle:(bds [a,b]).getD (i - 1) 0<=((bds [a,b]).getD i 0):=by
   rcases zco i with h0 | h0
   ·subst h0;exact zea _
   ·have:=ys6 (zw8 (ls:=[a,b])) (show i - 1 < i by omega) (by omega);omega
  obtain ⟨hv1,hv2,hog2⟩:=hog.next hle;refine A1 ?_;refine RE (xb8 (k:=6) (n:=2) (agg:=true) zr176.1 zr176.2 rfl) trivial trivial qA ?_;refine A8 ?_;refine R2 (x5 sl35 (i) (by omega) (zai (l:=(bds [a,b])) (n:=i) (d:=0))) rfl rfl ?_;refine A1 ?_;refine R2 (x4 (c_on xa ((bds [a,b]).getD i 0)) fi175 rfl) rfl rfl ?_;refine A4 ?_;refine xr9 (0) ti174 rfl rfl rfl rfl (Up.g 0 rfl rfl rfl) rfl rfl ?_;refine A9 ?_;refine R2 (x5 sl35 (i) (by omega) (zai (l:=(bds [a,b])) (n:=i) (d:=0))) rfl rfl ?_;refine A1 ?_;refine R2 (x4 (c_on xb ((bds [a,b]).getD i 0)) fi175 rfl) rfl rfl ?_;refine A4 ?_;refine xr9 (0) ti174 rfl rfl rfl rfl (Up.g 1 rfl rfl rfl) rfl rfl ?_;refine A4 ?_;refine wf0 (n:=12) mixed ?_;refine A4 ?_;refine R2 (x5 sl35 (i) (by omega) (zai (l:=(bds [a,b])) (n:=i) (d:=0))) rfl rfl ?_;refine A3 ?_;refine R2 (x5 sl35 (i+1) (by omega) (zai (l:=(bds [a,b])) (n:=i+1) (d:=0))) rfl rfl ?_;refine A1 ?_;refine R2 (xd3 (r:=tS [⟨1,false,tI ((bds [a,b]).getD i 0)⟩,⟨1,false,tI ((bds [a,b]).getD (i+1) 0)⟩]) (ts:=[(0,tI ((bds [a,b]).getD i 0)),(1,tI ((bds [a,b]).getD (i+1) 0))]) bu83 zr83.2 (Bc 0 rfl rfl rfl (Bc 1 rfl rfl rfl zao))) rfl rfl ?_;refine A1 ?_;refine R_endY (by kernel_rfl) ?_;refine yu7 (ts:=[tSn ⟨((bds [a,b]).getD i 0),((bds [a,b]).getD (i+1) 0)⟩,tPr (onV xa ((bds [a,b]).getD i 0)) (onV xb ((bds [a,b]).getD i 0))]) hB (xk4 rfl) rfl rfl qB rfl rfl (by omega) (tg_le hv1 hv2) ?_ ?_
  ·
   refine xa9 xj9 qA trivial trivial rfl (xg3 ?_);refine A10 ?_;exact kF ((i+1,onL xa ((bds [a,b]).getD i 0),onL xb ((bds [a,b]).getD i 0))) ⟨(by dsimp only;exact ⟨.inr (by omega),hog2⟩),(by dsimp only;omega)⟩
  ·
   refine xa9 xj9 qA trivial trivial rfl (xg3 ?_);refine A7 ?_;exact E_it hB rfl trivial rfl (.inl rfl) rfl (.inr ⟨i,by omega,rfl⟩)
 ·
  refine A4 ?_;exact E_it hB rfl trivial rfl (.inr rfl) rfl (.inl (by omega))
end An.S
namespace An.S
open Go
def wt (D:Int) (v:Va):Int:=(v.f.rat*(D:Rat)).num
theorem qp9 (n:Int):(n:Rat)=Rat.divInt n 1:=by
 have:=Rat.num_divInt_den (n:Rat);rw [Rat.num_intCast,Rat.den_intCast] at this;exact this.symm
theorem wt_is {D k:Int} (hD:0 < D) {v:Va} (h:v.f.rat=Rat.divInt k D):wt D v=k:=by
 have e:Rat.divInt k D*(D:Rat)=(k:Rat):=by
  rw [qp9 D,qp9 k,Rat.divInt_mul_divInt];exact (Rat.divInt_eq_divInt_iff (by omega) (by decide)).2 (by rw [Int.mul_one,Int.mul_one])
 rw [wt,h,e,Rat.num_intCast]
theorem jn5 {n d:Int} (hd:0 < d) (h1: -9223372036854775808<=n) (h2:n<=9223372036854775807) (h3:d<=9223372036854775807):short (Rat.divInt n d):=by
 have l16: ∀{n:Int}, -9223372036854775808<=n->n<=9223372036854775807->len16 n<=256:=fun h1 h2=>zdc (len16_64 h1 h2) (by decide);have e:=yo6 (n:=n) hd;have e1:(wh (Rat.divInt n d).num).l.length=(wh (n / (Int.gcd n d:Int))).l.length:=congrArg (fun f:Fr=>f.n.l.length) e;have e2:(wh ((Rat.divInt n d).den:Int)).l.length=(wh (d / (Int.gcd n d:Int))).l.length:=congrArg (fun f:Fr=>f.d.l.length) e;refine ⟨?_,?_⟩
 ·show (wh (Rat.divInt n d).num).l.length<=256;rw [e1];exact len16_div (l16 h1 h2)
 ·show (wh ((Rat.divInt n d).den:Int)).l.length<=256;rw [e2];exact len16_div (l16 (by omega) h3)
theorem ys1 (q:Rat):(fr q).dig:=⟨xi2 xa4 _,xi2 xa4 _⟩
def gOk (K:Nat) (D B:Int) (v:Va):Prop:=(v.valid=true/\v.kind=K/\v.i=0/\v.f=fr v.f.rat/\short v.f.rat)/\v.f.rat=Rat.divInt (wt D v) D/\ -B<=wt D v/\wt D v<=B
theorem gOk.dig {K:Nat} {D B:Int} {v:Va} (h:gOk K D B v):v.f.dig:=by rw [h.1.2.2.2.1];exact ys1 _
theorem gOk.mk {K:Nat} {D B k:Int} (hK:K=2∨K=3) (hD:0 < D) (hDb:D<=9223372036854775807) (h1: -B<=k) (h2:k<=B) (hB:B<=9223372036854775807):gOk K D B ⟨K,fr (Rat.divInt k D),0⟩:=by
 have hs:short (Rat.divInt k D):=jn5 hD (by omega) (by omega) hDb;have hw:wt D ⟨K,fr (Rat.divInt k D),0⟩=k:=wt_is hD (zc5 _);refine ⟨⟨?_,rfl,rfl,by rw [zc5],by rw [zc5];exact hs⟩,?_,?_,?_⟩
 ·rw [Va.valid,if_pos hK];simp only [zbv,zbw];exact ⟨trivial,js5 hs⟩
 ·rw [hw];exact zc5 _
 ·rw [hw];exact h1
 ·rw [hw];exact h2
def isG (K:Nat) (D B:Int) (l:List Tst):Prop:=tRight l=true/\ ∀s∈l,gOk K D B s.v
section
variable {K:Nat} {D B:Int} {l a b:List Tst}
theorem isG.dig (h:isG K D B l): ∀s∈l,s.v.f.dig:=fun s hs=>(h.2 s hs).dig
theorem isG_of (h:ascT l) (hn:nbT l) (hv: ∀s∈l,(0<=s.lo/\s.hi<=65536)/\gOk K D B s.v):isG K D B l:=
 ⟨jr4 (K:=K) h hn fun s hs=>⟨(hv s hs).1.1,(hv s hs).1.2,(hv s hs).2.1.1,(hv s hs).2.1.2.1⟩,fun s hs=>(hv s hs).2⟩
theorem wh5 {ps:List Tst} (hp:ps.Pairwise fun s t=>s.lo < s.hi->s.hi<=t.lo) (hv: ∀s∈ps,s.lo < s.hi->(0<=s.lo/\s.hi<=65536)/\gOk K D B s.v):isG K D B (pst [] ps):=by
 have h:=yr9 ps [] ⟨fun s hs=>(by cases hs),.nil⟩ trivial hp fun x hx=>by cases hx
 exact isG_of h.1 h.2.1 (qm4 (P:=fun s=>(0<=s.lo/\s.hi<=65536)/\gOk K D B s.v) (fun x s hx hs e=>⟨⟨hx.1.1,hs.1.2⟩,hx.2⟩) _ _ (fun s hs=>by cases hs) hv)
theorem yv5 {g:Int->Option Va}: ∀{ds:List Int} {s:Tst},s∈segL g ds->s.lo∈ds/\s.hi∈ds/\g s.lo=some s.v
 | [],s,h=>by cases h
 | [x],s,h=>by cases h
 | x::y::r,s,h=>by
  rw [segL] at h;rcases zbp.1 h with h | h
  ·cases hg:g x with
   | none=>rw [hg] at h;cases h
   | some v=>
    rw [hg] at h;rw [zbj.1 h];exact ⟨by simp,by simp,hg⟩
  ·have:=yv5 h;exact ⟨zcd _ this.1,zcd _ this.2.1,this.2.2⟩
end
def bd (l:List Sn) (i:Nat):Int:=if i%2=0 then (l.getD (i / 2) sn0).lo else (l.getD (i / 2) sn0).hi
theorem wh7 {l:List Sn} {i:Nat} (h:sVal l=true) (hi:i+1 < 2*l.length):bd l i < bd l (i+1):=by
 rcases Nat.mod_two_eq_zero_or_one i with h0 | h0
 ·have:=xs1 h (i:=i / 2) (by omega);rw [bd,bd,if_pos h0,if_neg (by omega),show (i+1) / 2=i / 2 by omega];exact this.2.1
 ·have:=(xv7.1 (yd6.1 h ((i+1) / 2) (by omega))).2.2.resolve_left (by omega);rw [bd,bd,if_neg (by omega),if_pos (by omega)];rw [show (i+1) / 2 - 1=i / 2 by omega] at this;exact this
theorem bd_lt {l:List Sn} (h:sVal l=true): ∀{j i:Nat},i < j->j < 2*l.length->bd l i < bd l j
 | j+1,i,hij,hj=>by
  have h1:=wh7 h hj;rcases zcb i j with h2 | h2
  ·have:=bd_lt h h2 (by omega);omega
  ·have:i=j:=by omega
   subst this;exact h1
def mem (l:List Sn) (d:Int):Bool:=l.any fun s=>decide (s.lo<=d) && decide (d < s.hi)
theorem mem_iff {l:List Sn} {d:Int}:mem l d=true↔ ∃s∈l,s.lo<=d/\d < s.hi:=by simp [mem]
theorem jb7 {l:List Sn} {d:Int}:mem l d=false↔ ∀s∈l,¬(s.lo<=d/\d < s.hi):=by
 rw [<-Bool.not_eq_true,mem_iff];simp only [not_exists,not_and]
theorem xw2 {l:List Sn} {s:Sn} {d:Int}:mem (l++[s]) d=(mem l d || (decide (s.lo<=d) && decide (d < s.hi))):=by simp [mem]
theorem yu3 {l:List Sn} {s:Sn} (hs:s∈l): ∃i,i < l.length/\s=l.getD i sn0:=by
 obtain ⟨i,hi,e⟩:=List.getElem_of_mem hs;exact ⟨i,hi,by rw [zbh,zbi hi];exact e.symm⟩
theorem we2 (l:List Sn) (p:Nat):bd l (2*p)=(l.getD p sn0).lo:=by rw [bd,if_pos (by omega),show 2*p / 2=p by omega]
theorem bd_odd (l:List Sn) (p:Nat):bd l (2*p+1)=(l.getD p sn0).hi:=by rw [bd,if_neg (by omega),show (2*p+1) / 2=p by omega]
theorem qj1 {l:List Sn} (h:sVal l=true) {i j:Nat} (hij:i < j) (hj:j < l.length):(l.getD i sn0).hi < (l.getD j sn0).lo:=by
 have:=bd_lt h (show 2*i+1 < 2*j by omega) (by omega)
 rwa [bd_odd,we2] at this
def setS (l:List Sn):Prop:=(∀s∈l,okS s)/\l.Pairwise fun s t=>s.hi < t.lo
theorem qa8 {l:List Sn} (h:sVal l=true):setS l:=by
 refine ⟨fun s hs=> ?_,zdx.2 fun i j hi hj hij=> ?_⟩
 ·obtain ⟨i,hi,rfl⟩:=yu3 hs;exact xs1 h hi
 ·have:=qj1 h hij hj
  rwa [zbh,zbh,zbi hi,zbi hj] at this
theorem mem_cons {s:Sn} {r:List Sn} {d:Int}:mem (s::r) d=((decide (s.lo<=d) && decide (d < s.hi)) || mem r d):=by simp [mem]
theorem ys0 {s:Sn} {r:List Sn} {d:Int} (h:setS (s::r)) (hd:d<=s.hi):mem r d=false:=jb7.2 fun t ht h'=>by
 have:=(zcg.1 h.2).1 t ht;omega
theorem qn5: ∀{a b:List Sn},setS a->setS b->(∀d,mem a d=mem b d)->a=b
 | [],[],_,_,_=>rfl
 | [],t::u,_,hb,h=>by
  have h1:=hb.1 t (zby ..);have h2:=h t.lo;rw [mem_cons] at h2;simp [mem,h1.2.1] at h2
 | s::r,[],ha,_,h=>by
  have h1:=ha.1 s (zby ..);have h2:=h s.lo;rw [mem_cons] at h2;simp [mem,h1.2.1] at h2
 | s::r,t::u,ha,hb,h=>by
  have hs:=ha.1 s (zby ..);have ht:=hb.1 t (zby ..);have pa:=zcg.1 ha.2;have pb:=zcg.1 hb.2;have l1:t.lo<=s.lo:=by
   obtain ⟨x,hx,hx2⟩:=mem_iff.1 ((h s.lo).symm.trans (by rw [mem_cons];simp [hs.2.1]));rcases zbr.1 hx with rfl | hx
   ·exact hx2.1
   ·have:=pb.1 x hx;have:=ht.2.1;omega
  have l2:s.lo<=t.lo:=by
   obtain ⟨x,hx,hx2⟩:=mem_iff.1 ((h t.lo).trans (by rw [mem_cons];simp [ht.2.1]));rcases zbr.1 hx with rfl | hx
   ·exact hx2.1
   ·have:=pa.1 x hx;have:=hs.2.1;omega
  have l3:t.hi<=s.hi:=by
   rcases Int.lt_or_le s.hi t.hi with h1 | h1
   ·have h2:=h s.hi;have:=hs.2.1;rw [mem_cons,mem_cons,ys0 ha (zea _)] at h2;simp [h1,show t.lo<=s.hi by omega] at h2
   ·exact h1
  have l4:s.hi<=t.hi:=by
   rcases Int.lt_or_le t.hi s.hi with h1 | h1
   ·have h2:=h t.hi;have:=ht.2.1;rw [mem_cons,mem_cons,ys0 hb (zea _)] at h2;simp [h1,show s.lo<=t.hi by omega] at h2
   ·exact h1
  have est:s=t:=by
   obtain ⟨a1,a2⟩:=s;obtain ⟨b1,b2⟩:=t;simp only at l1 l2 l3 l4;rw [show a1=b1 by omega,show a2=b2 by omega]
  subst est
  congr 1
  refine qn5 ⟨fun x hx=>ha.1 x (zcd _ hx),pa.2⟩ ⟨fun x hx=>hb.1 x (zcd _ hx),pb.2⟩ fun d=> ?_;rcases Int.lt_or_le d s.hi with h1 | h1
  ·rw [ys0 ha (by omega),ys0 hb (by omega)]
  ·have h2:=h d;rw [mem_cons,mem_cons] at h2;simpa [show ¬d < s.hi by omega] using h2
theorem yv4 {a b:List Sn} (ha:sVal a=true) (hb:sVal b=true) (h: ∀d,mem a d=mem b d):a=b:=qn5 (qa8 ha) (qa8 hb) h
theorem qq5 {d:Int}: ∀(xs acc:List Sn),ascS xs->sVal acc=true->(0 < acc.length-> ∀s∈xs,(lastS acc).hi<=s.lo)->mem (xs.foldl mrg1 acc) d=(mem acc d || mem xs d)
 | [],acc,_,_,_=>by simp [mem]
 | s::r,acc,hx,hv,hl=>by
  have hs:=hx.1 s (zby ..);have hp:=zcg.1 hx.2;have hr:ascS r:=⟨fun t ht=>hx.1 t (zcd _ ht),hp.2⟩
  have h1:=zj0 [s] acc ⟨fun t ht=>hx.1 t (by rw [zbj.1 ht];exact zby ..),zek ..⟩ hv fun h0 t ht=>hl h0 t (by rw [zbj.1 ht];exact zby ..);have key:mem (mrg1 acc s) d=(mem acc d || (decide (s.lo<=d) && decide (d < s.hi)))/\(lastS (mrg1 acc s)).hi=s.hi:=by
   rw [mrg1];split
   ·rename_i hm;have h2:(lastS acc).hi=s.lo:=by have:=hl hm.1 s (zby ..);have h2:s.lo<=(lastS acc).hi:=hm.2;omega
    have hmax:max (acc.getD (acc.length - 1) sn0).hi s.hi=s.hi:=by
     have h3:(acc.getD (acc.length - 1) sn0).hi=s.lo:=h2;have:=hs.2.1;omega
    rw [hmax];refine ⟨?_,by rw [lastS,zdn,yd9 (by omega),if_pos rfl]⟩;rw [ye6 hm.1,xw2];have e3:mem acc d=(mem (acc.take (acc.length - 1)) d || (decide ((lastS acc).lo<=d) && decide (d < (lastS acc).hi))):=by rw [<-xw2,<-yh3 hm.1]
    rw [e3,h2];have h4:=xs1 hv (i:=acc.length - 1) (by omega);have h5:(lastS acc).lo < s.lo:=by rw [<-h2];exact h4.2.1
    have h6:(acc.getD (acc.length - 1) sn0).lo=(lastS acc).lo:=rfl;have:=hs.2.1;dsimp only;rw [h6,Bool.or_assoc]
    congr 1
    rw [Bool.eq_iff_iff];simp;omega
   ·rename_i hm;exact ⟨xw2,by rw [lastS,xu3,zbm,zfp,if_neg (by omega),if_pos (by omega)]⟩
  have ih:=qq5 (d:=d) r (mrg1 acc s) hr h1.1 fun _ t ht=>by rw [key.2];exact hp.1 t ht
  rw [List.foldl_cons,ih,key.1,mem_cons,Bool.or_assoc]
end An.S
