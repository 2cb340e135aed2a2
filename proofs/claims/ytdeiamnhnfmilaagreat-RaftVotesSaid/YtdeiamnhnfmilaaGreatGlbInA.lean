/-
  A library of its own.
-/
import Derived.Test.YtdeiamnhnfmilaaGreatGlbLibC
import Derived.OrdersIn
import Derived.TacticsIn
import Derived.RangeFuncOwn
import Derived.Sort.LoopGhostIn
import Derived.Lib.SlBytesConst
import Derived.RangeFuncLeaves
set_option linter.unusedSimpArgs false
set_option linter.unusedVariables false
namespace Glb
open Go
structure b_c (X:Nat->Prop)(G:Gh)(w:World)(G':Gh)(w':World):Prop where
 keep:h3_ G w G' w'
 S:(∀b,G.S b->G'.S b)/\∀b,G'.S b->G.S b\/w.heap.size<=b
 locEq:∀n,n<G.N->G'.loc n=G.loc n
 nilEq:∀n,n<G.N->(G'.nil n↔G.nil n)
 size:w.heap.size<=w'.heap.size
 frame:∀b,b<w.heap.size->¬G.owned b->¬X b->w'.heap[b]?=w.heap[b]?
 own:∀b,G'.owned b->G.owned b\/w.heap.size<=b
 rest:Z0_ w w'
theorem Stp.x {G w G' w'}(s:Stp G w G' w')(X:Nat->Prop):b_c X G w G' w':=⟨s.keep,s.S,s.locEq,s.nilEq,s.size,λb h1 h2 _=>s.frame b h1 h2,s.own,s.rest⟩
theorem b_c.stp {X:Nat->Prop}{G w G' w'}(s:b_c X G w G' w')(hX:∀b,X b->w.heap.size<=b):Stp G w G' w':=
 ⟨s.keep,s.S,s.locEq,s.nilEq,s.size,λb h1 h2=>s.frame b h1 h2 λx=>by have:=hX b x;omega,s.own,s.rest⟩
theorem b_c.refl (X:Nat->Prop)(G w):b_c X G w G w:=(Stp.refl G w).x X
theorem b_c.trans {X:Nat->Prop}{G w G1 w1 G2 w2}(a:b_c X G w G1 w1)(b:b_c X G1 w1 G2 w2):b_c X G w G2 w2 where
 keep:=a.keep.trans b.keep
 S:=⟨λx h=>b.S.1 x (a.S.1 x h),λx h=>(b.S.2 x h).elim (a.S.2 x) (λh=>.inr (K_e a.size h))⟩
 locEq n h:=by rw[b.locEq n (K_c h a.keep.N),a.locEq n h]
 nilEq n h:=(b.nilEq n (K_c h a.keep.N)).trans (a.nilEq n h)
 size:=K_e a.size b.size
 frame x hx hn hX:=by
  rw[b.frame x (K_c hx a.size) ?_ hX,a.frame x hx hn hX]
  intro ho
  rcases a.own x ho with h | h
  ·exact hn h
  ·omega
 own x hx:=by
  rcases b.own x hx with h | h
  ·exact a.own x h
  ·exact .inr (K_e a.size h)
 rest:=a.rest.trans b.rest
def r_d (G:Gh)(w:World)(b:Nat):Prop:=b<w.heap.size/\¬G.owned b/\¬G.S b
theorem r_d.x {X:Nat->Prop}{G w G' w' b}(f:r_d G w b)(s:b_c X G w G' w'):r_d G' w' b:=
 ⟨K_c f.1 s.size,λh=>(s.own b h).elim f.2.1 λh=>by have:=f.1;omega,λh=>(s.S.2 b h).elim f.2.2 λh=>by have:=f.1;omega⟩
theorem i_l {w:World}{l:Nat}{o:Obj} (hl:w.heap[l]?=some o) (hc:o.isCells=false):w.shape? l=none:=by
 simp only[World.shape?,hl]
 cases o with
 | cells _ _ _=>simp[Obj.isCells]at hc
 | _=>rfl
theorem f_h {w:World}{a:Addr}{o:Obj} (hl:w.heap[a.block]?=some o) (hc:o.isCells=false):w.frozen? a=false:=by
 simp only[World.frozen?,hl]
 cases o with
 | cells _ _ _=>simp[Obj.isCells]at hc
 | _=>rfl
theorem o_z {w:World}{l b:Nat}{o o':Obj} (hl:w.heap[l]?=some o) (hc:o.isCells=false) (hc':o'.isCells=false):(w.putObj l o').shape? b=w.shape? b:=by
 by_cases e:b=l
 ·subst e
  rw[i_l hl hc,i_l (World.putObj_heap_same (K_4.1 hl).1) hc']
 ·simp only[World.shape?,World.putObj_heap_other e]
theorem m_i {w:World}{l:Nat}{a:Addr}{o o':Obj} (hl:w.heap[l]?=some o) (hc:o.isCells=false) (hc':o'.isCells=false):(w.putObj l o').frozen? a=w.frozen? a:=by
 by_cases e:a.block=l
 ·subst e
  rw[f_h hl hc,f_h (World.putObj_heap_same (K_4.1 hl).1) hc']
 ·simp only[World.frozen?,World.putObj_heap_other e]
theorem Gam.turn {G w h}(g:Gam G w h){l:Nat}{o o':Obj}(f:r_d G w l) (hl:w.heap[l]?=some o) (hc:o.isCells=false) (hc':o'.isCells=false):
    Gam G (w.putObj l o') h/\b_c (λb=>b=l) G w G (w.putObj l o'):=by
  have hp:∀t b,G.prot t b->b≠l:=λt b hb e=>by
    subst e
    cases t with
    | zero=>exact f.2.2 hb
    | succ n=>exact f.2.1 (.inr ⟨n,hb⟩)
  have k:h3_ G w G (w.putObj l o'):=⟨J_4 _,λ_ _ _ h=>h,λ_ _ h=>h,λ_ _ h=>h,λt b hb=>World.putObj_heap_other (hp t b hb),λb _=>o_z hl hc hc'⟩
  have ow:∀n b,G.live n->G.loc n=some b->(w.putObj l o').heap[b]?=w.heap[b]?:=λn b h1 h2=>World.putObj_heap_other (λe=>f.2.1 (.inl ⟨n,h1,e▸h2⟩))
  refine⟨{len:=g.len,live:=g.live,tag:=g.tag,inj:=g.inj,liveTag:=g.liveTag,liveS:=g.liveS,tagInj:=g.tagInj,tagS:=g.tagS,
            tagLt:=λn b hb=>by rw[World.putObj_size];exact g.tagLt n b hb,sLt:=λb hb=>by rw[World.putObj_size];exact g.sLt b hb,
            arr:=λn sz es gr b hn hb=>(g.arr n sz es gr b hn hb).keep k (ow n b (g.mkLive hn hb) hb),nil:=g.nil,nilLoc:=g.nilLoc,
            map:=λn es b hn hb=>(g.map n es b hn hb).keep k (ow n b (g.mkLiveM hn hb) hb)},?_⟩
  exact⟨k,⟨λ_ h=>h,λ_ h=>.inl h⟩,λ_ _=>rfl,λ_ _=>Iff.rfl,by simp,λb _ _ hX=>World.putObj_heap_other hX,λ_ h=>.inl h,rfl,rfl,by simp,λa _=>m_i hl hc hc'⟩
theorem Gam.laid {G w h}(g:Gam G w h)(o:Obj):Gam G (w.alloc o) h/\Stp G w G (w.alloc o)/\r_d G (w.alloc o) w.heap.size:=by
  have k:h3_ G w G (w.alloc o):=⟨J_4 _,λ_ _ _ h=>h,λ_ _ h=>h,λ_ _ h=>h,λt b hb=>heap_alloc (g.protLt hb),λb hb=>J5_ hb⟩
  have fz:∀a:Addr,a.block<w.heap.size->(w.alloc o).frozen? a=w.frozen? a:=λa ha=>by simp only[World.frozen?,heap_alloc ha]
  refine⟨{len:=g.len,live:=g.live,tag:=g.tag,inj:=g.inj,liveTag:=g.liveTag,liveS:=g.liveS,tagInj:=g.tagInj,tagS:=g.tagS,
            tagLt:=λn b hb=>by rw[World.size_alloc];have:=g.tagLt n b hb;omega,sLt:=λb hb=>by rw[World.size_alloc];have:=g.sLt b hb;omega,
            arr:=λn sz es gr b hn hb=>(g.arr n sz es gr b hn hb).keep k (heap_alloc (g.locLt (g.mkLive hn hb) hb)),nil:=g.nil,nilLoc:=g.nilLoc,
            map:=λn es b hn hb=>(g.map n es b hn hb).keep k (heap_alloc (g.locLt (g.mkLiveM hn hb) hb))},?_,?_⟩
  · exact⟨k,⟨λ_ h=>h,λ_ h=>.inl h⟩,λ_ _=>rfl,λ_ _=>Iff.rfl,by simp,λb hb _=>heap_alloc hb,λ_ h=>.inl h,rfl,rfl,by simp,fz⟩
  · exact⟨by simp,λh=>by have:=g.ownedLt h;omega,λh=>by have:=g.sLt _ h;omega⟩
structure y_m (F:Fence):Prop where
 fn:∀f,F.fn f
 depth:F.depth=none
 calls:∀{n:Nat}{P:Program}{f:FuncId}{args:Array Value}{w:World}{R:Ending->World->Prop},Calls P f args w R->CallsIn F n P f args w R
 rows:∀{n:Nat}{P:Program}{row:String}{args:Array Value}{w:World}{R:Value->World->Prop},Rows P row args w R->RowsIn F n P row args w R
theorem c_v {n:Nat}{P:Program}{row:String}{args:Array Value}{w:World}{R:Value->World->Prop}(h:Rows P row args w R):RowsIn Fence.wide n P row args w R:=
 λc cs _=>let⟨v,w',r,s⟩:=h c cs;⟨v,w',r,stepsIn_wide.2 s⟩
theorem H8_:y_m Fence.wide:=⟨λ_=>trivial,rfl,λh=>callsIn_wide.2 h,λh=>c_v h⟩
theorem f_c (l:Nat):y_m (Fence.wide.inRound l):=⟨λ_=>trivial,rfl,fun {n}{_}{_}{_}{_}{_} h=>(callsIn_wide (n:=n)).2 h,fun {n}{_}{_}{_}{_}{_} h=>c_v (n:=n) h⟩
def wd (a:Act)(ds:List Deferred):Act:={a with defers:=ds}
theorem J2_ (a:Act)(ds:List Deferred):(wd a ds).eval=a.eval:=by funext x;cases x<;>rfl
theorem A6_ (a:Act)(ds:List Deferred)(d:Option Tmp)(v:Value):(wd a ds).put d v=wd (a.put d v) ds:=by cases d<;>rfl
theorem Z5_ (a:Act)(ds:List Deferred):(wd a ds).tmps=a.tmps:=rfl
variable {n:Nat} {keep:Nat->Bool} {G0:Gh} {w0:World} {P:Program} {F:Fence} {m:Nat}
theorem a_1 {ro:Option Nat}{ρ:Operand->Value}{o:Oper}{w w':World}{nx:Next}(hu:(execOp ρ o).run P w=.ok nx w')(hnx:∀d,nx≠.defer d):(o.semAt ro ρ).run P w=.ok nx w':=by
 by_cases h:∃c,o.op=.defer c
 ·obtain⟨c,hc⟩:=h
  exfalso
  unfold execOp at hu
  rw[hc]at hu
  simp only[Sem.run_bind,Sem.run_pure]at hu
  cases hr:(resolve ρ c o.type).run P w with
  | ok d w1=>
   rw[hr]at hu
   simp only[Result.andThen_ok]at hu
   cases hu
   exact hnx d rfl
  | halt x w1=>rw[hr]at hu;cases hu
 ·rw[Oper.semAt_eq ro ρ o (λc hc=>h ⟨c,hc⟩)]
  exact hu
theorem y_5 {G w st a}(hF:y_m F)(ds:List Deferred)(sr:SR n keep G0 w0 G w st a){o:Oper}{ao:AOp}{d:Dst}(hop:cOp P (cd keep) o=some ao)(hd:q_d n keep o.dst=some d){gd:Option (Opd×Bool)}
  {k:St->Prop} (hk:e_0 P ⟨d,ao,gd⟩ st k) {next:Act->World->Prop} {Q:Exit->Act->World->Prop}
  (hn:∀G' w' st' a',SR n keep G0 w0 G' w' st' a'->k st'->next (wd a' ds) w'):o.wpIn F m P (wd a ds) w next Q:=by
 refine⟨λf _=>hF.fn f,?_⟩
 rw[J2_]
 unfold cOp at hop
 split at hop
 ·rename_i ro hro
  cases hop
  simp only[e_0]at hk
  split at hk
  ·rename_i v hv
   obtain⟨u,hu,hV⟩:=c_w (P:=P) sr.gam sr.stands hro hv
   rw[a_1 hu (by simp),Oper.uponIn_value,A6_]
   have e:({st.put d v with h:=st.h}:St)=st.put d v:=by cases d<;>rfl
   have:=sr.put hd sr.gam (Stp.refl G w) hV
   rw[e]at this
   exact hn G w _ _ this hk
  ·exact hk.elim
 ·split at hop
  ·rename_i ho hho
   cases hop
   simp only[e_0]at hk
   split at hk
   ·rename_i v h' hv
    obtain⟨nx,u,w',G',hu,hnx,hg,hV,hst⟩:=d_h (P:=P) sr.gam sr.stands hho hv
    rcases hnx with rfl | ⟨rfl,rfl⟩
    ·rw[a_1 hu (by simp),Oper.uponIn_value,A6_]
     exact hn G' w' _ _ (sr.put hd hg hst hV) hk
    ·rw[a_1 hu (by simp),Oper.uponIn_skip,A6_]
     exact hn G' w' _ _ (sr.put hd hg hst hV) hk
   ·exact hk.elim
  ·split at hop
   ·rename_i f args tys hcall
    cases hop
    simp only[e_0]at hk
    obtain⟨hf,hk⟩:=hk
    have hrun:(execOp a.eval o).run P w=.ok (.enter f (args.map a.eval)) w:=by
     obtain⟨dst,op,type,pos,after,guard⟩:=o
     have hcall':op=_:=hcall
     subst hcall'
     simp only[execOp,resolve,Act.eval,Deferred.ofValue,Sem.run_bind,Sem.run_pure,Result.andThen_ok,invoke]
     rw[o6_ hf]
     simp
    rw[a_1 hrun (by simp),Oper.uponIn_enter]
    refine⟨λh=>(by rw[hF.depth]at h;cases h),hF.calls ((hk G w (args.map a.eval) sr.gam ⟨by simp,λj c v hc hv=>?_⟩).mono ?_)⟩
    ·exact VL.map sr.stands args.toList j c v (by simpa using hc) (by simpa using hv)
    ·rintro e w' ⟨v,r,h',G',rfl,hK,hg,hV,hst⟩
     show next ((wd a ds).put o.dst v) w'
     rw[A6_]
     exact hn G' w' _ _ (sr.put hd hg hst hV) hK
   ·rename_i x args tys hne hcall
    cases hop
    simp only[e_0]at hk
    split at hk
    ·rename_i f fs cs hx
     obtain⟨hf,hk⟩:=hk
     have hxv:=sr.stands x
     rw[hx]at hxv
     generalize hv:a.eval x=fv at hxv
     cases hxv with
     | clo _ _ us _ vs hlu hUs hl hVs=>
     have hrun:(execOp a.eval o).run P w=.ok (.enter f (us++args.map a.eval++vs)) w:=by
      obtain⟨dst,op,type,pos,after,guard⟩:=o
      have hcall':op=_:=hcall
      subst hcall'
      simp only[execOp,resolve,hv,Deferred.ofValue,Sem.run_bind,Sem.run_pure,Result.andThen_ok,invoke]
      rw[o6_ hf]
     rw[a_1 hrun (by simp),Oper.uponIn_enter]
     refine⟨λh=>(by rw[hF.depth]at h;cases h),hF.calls ((hk G w (us++args.map a.eval++vs) sr.gam (VL.app (VL.app ⟨hlu,hUs⟩ ⟨by simp,λj c v hc hv'=>VL.map sr.stands args.toList j c v (by simpa using hc) (by simpa using hv')⟩) ⟨hl,hVs⟩)).mono ?_)⟩
     ·rintro e w' ⟨v,r,h',G',rfl,hK,hg,hV,hst⟩
      show next ((wd a ds).put o.dst v) w'
      rw[A6_]
      exact hn G' w' _ _ (sr.put hd hg hst hV) hK
    ·exact hk.elim
   ·cases hop
theorem O9_ (hF:y_m F)(ds:List Deferred){ops:Array Oper}{Q:Exit->Act->World->Prop}{k:St->Prop}{r:List Oper}
  (hn:∀G' w' st' a',SR n keep G0 w0 G' w' st' a'->k st'->wpListIn F m P ops Q r (wd a' ds) w'):
  ∀(l:List Oper)(al:List AO){G w st a},SR n keep G0 w0 G w st a->q_e P n keep ops l=some al->f1_ P al st k->wpListIn F m P ops Q (l++r) (wd a ds) w:=by
 intro l
 induction l with
 | nil=>
  intro al G w st a sr hc hk
  simp only[q_e,Option.some.injEq]at hc
  subst hc
  exact hn G w st a sr hk
 | cons o l ih=>
  intro al G w st a sr hc hk
  simp only[q_e]at hc
  split at hc
  ·rename_i x al' hx hl
   cases hc
   simp only[cAO]at hx
   split at hx
   ·rename_i d op gd hd hop hgd
    cases hx
    simp only[f1_]at hk
    rw[List.cons_append]
    unfold wpListIn
    rw[Z5_]
    have doit:e_0 P ⟨d,op,gd⟩ st (λst'=>f1_ P al' st' k)->o.wpIn F m P (wd a ds) w (wpListIn F m P ops Q (l++r)) Q:=
     λh=>y_5 hF ds sr hop hd h λG' w' st' a' sr' hk'=>ih al' sr' hl hk'
    have skip:f1_ P al' (st.put d (.tup [])) k->(∀f,o.about P w (wd a ds).eval=some f->F.fn f)/\wpListIn F m P ops Q (l++r) ((wd a ds).put o.dst undef) w:=
     λh=>⟨λf _=>hF.fn f,by rw[A6_];exact ih al' (sr.skip hd) hl h⟩
    cases hog:o.guard with
    | none=>
     rw[hog]at hgd
     simp only[Y7_,Option.some.injEq]at hgd
     subst hgd
     rw[if_pos (by simp[Region.wanted,hog])]
     exact doit hk
    | some jw=>
     obtain⟨j,want⟩:=jw
     rw[hog]at hgd
     simp only[Y7_]at hgd
     split at hgd
     ·rename_i t ht
      cases hgd
      obtain⟨g1,g2⟩:=C1_ sr hog ht
      simp only at hk
      split at hk
      ·rename_i b hb
       rw[g1 b hb]
       by_cases e:b=want
       ·subst e;simp only[BEq.rfl,if_true];exact doit (hk.1 rfl)
       ·have:(b == want)=false:=by simpa using e
        simp only[this,K_b,if_false]
        exact skip (hk.2 (by cases b<;>cases want<;>simp_all))
      ·rename_i cs hb
       rw[g2 cs hb]
       simp only[K_b,if_false]
       exact skip hk
      ·exact hk.elim
     ·cases hgd
   ·cases hx
  ·cases hc
section
variable {md:Region.Mode} {ops:Array Oper} {Q Q':Exit->Act->World->Prop}
theorem q_o (hq:∀a w,Q .normal a w->a.defers=[]) (hp:∀c a w,¬Q (.panic c) a w) (ho:∀a w,¬Q .outgrown a w):∀(fuel:Nat)(listed:Array Bool)(a:Act)(w:World),wpAny P md ops Q fuel listed a w->a.defers=[]:=by
 have hl:¬LetsOut Q:=λ⟨a,w,h⟩=>ho a w h
 have pd:∀(a:Act)(d:Option Tmp)(v:Value),(a.put d v).defers=a.defers:=λa d v=>by cases d<;>rfl
 intro fuel
 induction fuel with
 | zero=>intro listed a w h;exact hq a w h.2
 | succ fuel ih=>
  intro listed a w h
  obtain⟨h1,h2⟩:=h
  cases hr:Region.ready md ops listed with
  | nil=>exact hq a w (h1 hr)
  | cons i r=>
   have h:=h2 i (by rw[hr];simp)
   unfold wpOp at h
   split at h
   ·exact ih _ a w h
   ·rename_i o _
    split at h
    ·rcases h with h | ⟨_,h⟩
     ·unfold Oper.wp Oper.upon at h
      split at h
      ·have:=ih _ _ _ h;rwa [pd]at this
      ·have:=ih _ _ _ h;rwa [pd]at this
      ·have:=ih _ _ _ h;rw[pd]at this;simp at this
      ·obtain⟨e,w',fr,h,_⟩:=h []
       cases e with
       | returned v=>have:=ih _ _ _ h;rwa [pd]at this
       | panicked c=>exact (hp _ _ _ h).elim
       | outgrown=>exact (hl h).elim
      ·obtain⟨v,w',h,_⟩:=h default []
       have:=ih _ _ _ h;rwa [pd]at this
      ·exact (hp _ _ _ h).elim
      ·exact h.elim
     ·exact (hl h).elim
    ·have:=ih _ _ _ h;rwa [pd]at this
theorem D_c (hF:y_m F)(ds:List Deferred)(hnd:∀o∈ops.toList,∀c,o.op≠.defer c) (hq:∀a w,Q .normal a w->a.defers=[]) (hp:∀c a w,¬Q (.panic c) a w) (ho:∀a w,¬Q .outgrown a w)
  (hn:∀a w,Q .normal a w->Q' .normal (wd a ds) w):∀(fuel:Nat)(listed:Array Bool)(a:Act)(w:World),wpAny P md ops Q fuel listed a w->wpAnyIn F m P md ops Q' fuel listed (wd a ds) w:=by
 have hl:¬LetsOut Q:=λ⟨a,w,h⟩=>ho a w h
 have hd:¬(F.depth.isSome=true):=λh=>(by rw[hF.depth]at h;cases h)
 intro fuel
 induction fuel with
 | zero=>intro listed a w h;exact⟨h.1,hn a w h.2⟩
 | succ fuel ih=>
  intro listed a w h
  refine⟨λhr=>hn a w (h.1 hr),λi hi=>?_⟩
  have h:=h.2 i hi
  unfold wpOp at h
  unfold wpOpIn
  split at h
  ·rename_i he
   simp only[he]
   exact ih _ a w h
  ·rename_i o he
   simp only[he]
   rw[Z5_]
   split at h
   ·rename_i hw
    rw[if_pos hw]
    rcases h with h | ⟨_,h⟩
    ·refine⟨λf _=>hF.fn f,?_⟩
     rw[J2_,Oper.semAt_eq _ _ _ (hnd o (Array.mem_toList_iff.2 (Array.mem_of_getElem? he)))]
     unfold Oper.wp Oper.upon at h
     split at h<;>rename_i hrun<;>first | exact h.elim | rw[hrun]
     ·rw[Oper.uponIn_value,A6_];exact ih _ _ _ h
     ·rw[Oper.uponIn_skip,A6_];exact ih _ _ _ h
     ·have:=q_o hq hp ho _ _ _ _ h
      exfalso
      revert this
      cases o.dst<;>simp[Act.put]
     ·rw[Oper.uponIn_enter]
      refine⟨λh=>(hd h).elim,hF.calls (Calls.mono h ?_)⟩
      rintro (v | c | _) w' hk
      ·simp only at hk ⊢;rw[A6_];exact ih _ _ _ hk
      ·exact (hp _ _ _ hk).elim
      ·exact (hl hk).elim
     ·rw[Oper.uponIn_row]
      refine⟨λh=>(hd h).elim,hF.rows (Rows.mono h ?_)⟩
      intro v w' hk
      rw[A6_];exact ih _ _ _ hk
     ·exact (hp _ _ _ h).elim
    ·exact (hl h).elim
   ·rename_i hw
    rw[if_neg hw]
    exact⟨λf _=>hF.fn f,by rw[A6_];exact ih _ _ _ h⟩
end
theorem x_j {r:DR}{opsA:Array Oper}(hc:cDR P n keep opsA.toList=some r){G:Gh}{w:World}{st:St}{a:Act}(sr:SR n keep G0 w0 G w st a){K:St->Prop}
    (hk:D_n P r st K) {Q:Exit->Act->World->Prop} (hQ:∀G' w' st' a',SR n keep G0 w0 G' w' st' a'->K st'->Q .normal a' w'):wpAny P .any opsA Q opsA.size (Array.replicate opsA.size false) a w.drew:=by
  have F:=n_0 hc
  have hs:opsA.toList.length=opsA.size:=by simp
  have key:wpAny P .any opsA.toList.toArray Q opsA.toList.length (Array.replicate opsA.toList.length false) a w.drew:=by
    have gd:Gam G w.drew st.h:=sr.gam.same rfl
    have kd:h3_ G w G w.drew:=h3_.heap_eq rfl
    obtain⟨gr,sr'⟩:=gd.reserve r.k
    have nonL:∀i,(Array.replicate opsA.toList.length false).getD i false=false:=by
      intro i;by_cases h:i<opsA.toList.length<;>simp at h<;>simp[h]
    refine n_w F (L0:=st.L) (lo:=st.h.length) (G0:=G0) (w0:=w0) (K:=λd=>K ⟨r_a d.R r.fin st.L,[],d.h⟩) ?_ opsA.toList.length (pre:=[]) (rest:=r.items) (d:=⟨st.L,[],st.h++List.replicate r.k none,[],[]⟩) (G:=G.reserve r.k) ?_ hk ?_
    · intro d G' w' a' j hK
      obtain⟨hS,g,hs'⟩:=j.heap
      have hall:∀i,i<opsA.toList.length->(Array.replicate opsA.toList.length true).getD i false=true:=by intro i hi;simp at hi;simp[hi]
      have hSd:hS=d.h:=by
        apply K_0
        intro m
        refine hs'.other m (λo ho _ hl=>?_)
        obtain⟨_,op,hop,_⟩:=F.item o ho
        rw[hall _ (J_w.1 hop).1]at hl;cases hl
      subst hSd
      refine hQ G' w' _ a' ⟨g,j.size,j.defers,λs hks=>?_,λs _=>.top _,j.stp⟩ hK
      have hf:=F.fin
      rcases j_5 d.R s r.fin st.L with⟨i,h1,h2⟩ | ⟨h1,h2⟩
      · simp only;rw[h2]
        rw[hf]at h1
        obtain⟨_,_,o,ho,hdst⟩:=(P7_ _ 0 s i).1 h1
        simp only[Nat.sub_zero]at ho
        exact j.A i o s (hall i (J_w.1 ho).1) ho hdst
      · simp only;rw[h2]
        refine j.B s hks (λi op hi hop hdst=>h1 i ?_)
        rw[hf]
        exact (P7_ _ 0 s i).2 ⟨L_f _,hks,op,by simpa using hop,hdst⟩
    · have kG:h3_ G w (G.reserve r.k) w.drew:=kd.trans sr'.keep
      refine {items:=rfl,lsize:=by simp,clos:=(λi q h=>by rw[nonL]at h;cases h),sub:=(λo _=>nonL _),L:=rfl,A:=(λi op t h=>by rw[nonL]at h;cases h),
               B:=(λt hkt _=>(sr.L t hkt).keep kG),will:=(λo ho=>by simp at ho),heap:=⟨_,gr,rfl,by simp,(λ_ _=>rfl),(λo ho hl _=>?_)⟩,ltsN:=List.nodup_nil,lts:=(λx hx=>by simp at hx),
               ltsC:=(λo ho=>by simp at ho),later:=(λo ho hl=>?_),size:=sr.size,defers:=sr.defers,stp:=(sr.stp.trans (Stp.drew G w _)).trans sr',lo:=?_}
      · have hlt:=h4_ F.ord o ho hl
        refine⟨?_,?_,?_⟩
        · rw[K_a (by omega),L_l,if_pos (by omega)]
        · simp only[Gh.reserve];rw[if_neg (by rw[<-sr.gam.len];omega)]
        · simp only[Gh.reserve];rw[<-sr.gam.len];omega
      · have hlt:=h4_ F.ord o ho hl
        simp only
        rw[K_a (by omega),L_l,if_pos (by omega)]
      · have:=sr.stp.keep.N;rw[sr.gam.len];exact this
    · refine K_e (L_y _ _) (by simp)
  have e2:opsA.toList.toArray=opsA:=by simp
  rw[e2,hs]at key
  exact key
theorem B_b (hF:y_m F)(ds:List Deferred)(hm:P.follows .mixedOrders=true){opsA:Array Oper}{id:Nat}{r:DR}(hc:cDR P n keep opsA.toList=some r)(hnd:∀o∈opsA.toList,∀c,o.op≠.defer c)
  {G:Gh} {w:World} {st:St} {a:Act} (sr:SR n keep G0 w0 G w st a) {K:St->Prop} (hk:D_n P r st K) {Q':Exit->Act->World->Prop}
  (hQ:∀G' w' st' a',SR n keep G0 w0 G' w' st' a'->K st'->Q' .normal (wd a' ds) w'):(Code.region id opsA true).wpIn F m P Q' (wd a ds) w:=by
 refine wpIn_region_any hm (D_c hF ds hnd (Q:=λe a' w'=>e=.normal/\∃G' st',SR n keep G0 w0 G' w' st' a'/\K st') ?_ ?_ ?_ ?_ _ _ _ _ (x_j hc sr hk ?_))
 ·rintro a w ⟨_,G',st',sr',_⟩;exact sr'.defers
 ·rintro c a w ⟨h,_⟩;cases h
 ·rintro a w ⟨h,_⟩;cases h
 ·rintro a w ⟨_,G',st',sr',hk'⟩;exact hQ G' w st' a sr' hk'
 ·intro G' w' st' a' sr' hk';exact⟨rfl,G',st',sr',hk'⟩
def l_s (o:Oper):Bool:=match o.op with
 | .defer _=>false
 | _=>true
def calm:Code->Bool
 | .skip=>true
 | .region _ ops d=>!d || ops.toList.all l_s
 | .seq a b=>calm a && calm b
 | .cond _ a b=>calm a && calm b
 | .block _ b=>calm b
 | .loop b=>calm b
 | .exit _=>true
 | .ret=>true
 | _=>false
def D_h (n:Nat)(keep:Nat->Bool)(G0:Gh)(w0:World)(K:AX->St->Prop)(ds:List Deferred)(e:Exit)(a:Act)(w:World):Prop:=∃a0,a=wd a0 ds/\E_k n keep G0 w0 K e a0 w
theorem P0_ (hF:y_m F)(ds:List Deferred):∀(c:Code),calm c=true->∀(ac:AC),cC P n keep c=some ac->∀{K:AX->St->Prop}{G w st a},SR n keep G0 w0 G w st a->vc P ac st K->c.wpIn F m P (D_h n keep G0 w0 K ds) (wd a ds) w:=by
 intro c
 induction c with
 | skip=>intro _ ac hc K G w st a sr hk;simp only[cC,Option.some.injEq]at hc;subst hc;exact wpIn_skip ⟨a,rfl,G,st,sr,hk⟩
 | ret=>intro _ ac hc K G w st a sr hk;simp only[cC,Option.some.injEq]at hc;subst hc;exact wpIn_ret ⟨a,rfl,G,st,sr,hk⟩
 | exit id=>intro _ ac hc K G w st a sr hk;simp only[cC,Option.some.injEq]at hc;subst hc;exact wpIn_exit ⟨a,rfl,G,st,sr,hk⟩
 | region id ops draw=>
  intro hq ac hc K G w st a sr hk
  cases draw with
  | true=>
   have hq':ops.toList.all l_s=true:=by simpa [calm] using hq
   simp only[cC,if_true]at hc
   split at hc
   ·rename_i hm
    simp only[J_7]at hc
    obtain⟨r,hr,rfl⟩:=hc
    refine B_b hF ds hm hr ?_ sr hk (λG' w' st' a' sr' hk'=>⟨a',rfl,G',st',sr',hk'⟩)
    intro o ho c hoc
    have:=L_h.1 hq' o ho
    simp[l_s,hoc]at this
   ·cases hc
  | false=>
  simp only[cC,K_b,if_false,J_7]at hc
  obtain⟨al,hal,rfl⟩:=hc
  refine wpIn_region_list ?_
  have:=O9_ (m:=m) (ops:=ops) (Q:=D_h n keep G0 w0 K ds) (r:=[]) hF ds (λG' w' st' a' sr' hk'=>⟨a',rfl,G',_,sr'.clearR,hk'⟩) ops.toList al sr hal hk
  rw[K_2]at this
  exact this
 | seq x y ihx ihy=>
  intro hq ac hc K G w st a sr hk
  simp only[calm,K_g]at hq
  simp only[cC]at hc
  split at hc
  ·rename_i ax ay hx hy
   cases hc
   refine wpIn_seq (wpIn_mono (ihx hq.1 ax hx sr hk) ?_)
   rintro e a' w' ⟨a0,rfl,hp⟩
   cases e with
   | normal=>obtain⟨G',st',sr',hk'⟩:=hp;exact ihy hq.2 ay hy sr' hk'
   | exit id=>exact⟨a0,rfl,hp⟩
   | ret=>exact⟨a0,rfl,hp⟩
   | goto l=>exact⟨a0,rfl,hp⟩
   | panic c=>exact⟨a0,rfl,hp⟩
   | outgrown=>exact⟨a0,rfl,hp⟩
  ·cases hc
 | cond x y z ihy ihz=>
  intro hq ac hc K G w st a sr hk
  simp only[calm,K_g]at hq
  simp only[cC]at hc
  split at hc
  ·rename_i ay az hy hz
   cases hc
   simp only[vc]at hk
   split at hk
   ·rename_i t ht
    have hv:=sr.stands x
    rw[ht]at hv
    generalize he:a.eval x=v at hv
    cases hv
    refine wpIn_cond_split (by rw[J2_];exact he) (λe=>?_) (λe=>?_)
    ·exact ihy hq.1 ay hy sr (hk.1 e)
    ·exact ihz hq.2 az hz sr (hk.2 e)
   ·exact hk.elim
  ·cases hc
 | block id b ih=>
  intro hq ac hc K G w st a sr hk
  simp only[cC,J_7]at hc
  obtain⟨ab,hb,rfl⟩:=hc
  refine wpIn_block (wpIn_mono (ih hq ab hb sr hk) ?_)
  rintro e a' w' ⟨a0,rfl,hp⟩
  cases e with
  | normal=>exact⟨a0,rfl,hp⟩
  | exit id'=>
   obtain⟨G',st',sr',hk'⟩:=hp
   simp only at hk'
   simp only[Exit.inBlock]
   split<;>rename_i h
   ·rw[if_pos h]at hk';exact⟨a0,rfl,G',st',sr',hk'⟩
   ·rw[if_neg h]at hk';exact⟨a0,rfl,G',st',sr',hk'⟩
  | ret=>exact⟨a0,rfl,hp⟩
  | goto l=>exact⟨a0,rfl,hp⟩
  | panic c=>exact⟨a0,rfl,hp⟩
  | outgrown=>exact⟨a0,rfl,hp⟩
 | loop b ih=>
  intro hq ac hc K G w st a sr hk
  simp only[cC,J_7]at hc
  obtain⟨ab,hb,rfl⟩:=hc
  obtain⟨I,⟨k,s0,hwk,h0⟩,hround⟩:=hk
  obtain⟨G',sr'⟩:=hwk n keep G0 w0 G w a sr
  refine wpIn_loop_ghost (λk a w=>∃a0 G s,a=wd a0 ds/\SR n keep G0 w0 G w s a0/\I k s) k ⟨a,G',s0,rfl,sr',h0⟩ ?_
  rintro k _ w ⟨a0,G,s,rfl,sr,hI⟩
  refine wpIn_mono (ih hq ab hb sr (hround k s hI)) ?_
  rintro e a' w' ⟨a1,rfl,hp⟩
  cases e with
  | normal=>
   obtain⟨G',st',sr',m',s0,hlt,hwk,hI'⟩:=hp
   obtain⟨G'',sr''⟩:=hwk n keep G0 w0 G' w' a1 sr'
   exact⟨m',hlt,a1,G'',s0,rfl,sr'',hI'⟩
  | exit id=>exact⟨a1,rfl,hp⟩
  | ret=>exact⟨a1,rfl,hp⟩
  | goto l=>exact⟨a1,rfl,hp⟩
  | panic c=>exact⟨a1,rfl,hp⟩
  | outgrown=>exact⟨a1,rfl,hp⟩
 | rangeFunc f ps x y _ _=>intro hq;cases hq
 | scope b ih=>intro hq;cases hq
 | label l=>intro hq;cases hq
 | goto l=>intro hq;cases hq
 | refuse w=>intro hq;cases hq
variable {n:Nat} {keep:Nat->Bool} {P:Program}
abbrev Yl:=List AV->a0_->(Option AX->a0_->Prop)->Prop
def YOk (m:Nat)(P:Program)(l:Nat)(rdy:Obj)(dn:AX->Obj)(Y:Yl)(Gb:Gh)(wb:World):Prop:=
 ∀(avs:List AV)(h:a0_)(R:Option AX->a0_->Prop),Y avs h R->∀(G:Gh)(w:World)(vs:Array Value),Gam G w h->VL G w avs vs->r_d G w l->w.heap[l]?=some rdy->b_c (λb=>b=l) Gb wb G w->
  YieldAt Fence.wide m P l vs w λe w'=>∃(j:Option AX)(h':a0_)(G':Gh),e=.returned (.bool j.isNone)/\R j h'/\Gam G' w' h'/\b_c (λb=>b=l) G w G' w'/\w'.heap[l]?=some (match j with | none=>rdy | some x=>dn x)
def v_p (P:Program)(gf:FuncId)(cs:List AV)(h:a0_)(Y:Yl)(Kn:a0_->Prop)(Ks:AX->a0_->Prop):Prop:=
 ∀(m l:Nat)(rdy:Obj)(dn:AX->Obj)(G:Gh)(w:World)(vs:Array Value),(∀m,YOk m P l rdy dn Y G w)->Gam G w h->VL G w cs vs->r_d G w l->w.heap[l]?=some rdy->
  CallsIn Fence.wide m P gf (#[.func (.yield l) #[] #[]]++vs) w λe w'=>(∃v,e=.returned v)/\∃(h':a0_)(G':Gh),Gam G' w' h'/\b_c (λb=>b=l) G w G' w' /\
   ((w'.heap[l]?=some rdy/\Kn h')\/∃x,w'.heap[l]?=some (dn x)/\Ks x h')
def B_0:AX->Code
 | .normal=>.skip
 | .exit id=>.exit id
 | .ret=>.ret
def B_y (D:Nat):Deferred:={target:=.collected D,args:=#[]}
def A_z:List (Nat×AV)->Env->Env
 | [],L=>L
 | p :: r,L=>A_z r (ins p.1 p.2 L)
theorem y_i {G:Gh}{w:World}:∀(ps:List Nat)(avs:List AV)(vs:List Value)(L:Env)(t:Array Value),(∀p∈ps,p<n/\keep p=true)->t.size=n->avs.length=vs.length->ps.length=vs.length->
  (∀(j:Nat)(c:AV)(v:Value),avs[j]?=some c->vs[j]?=some v->V G w c v)->(∀s,keep s=true->V G w (lk s L) (t.getD s undef))->
  ((ps.zip vs).foldl (λt (p:Nat×Value)=>t.setIfInBounds p.1 p.2) t).size=n/\∀s,keep s=true->V G w (lk s (A_z (ps.zip avs) L)) (((ps.zip vs).foldl (λt (p:Nat×Value)=>t.setIfInBounds p.1 p.2) t).getD s undef)
 | [],avs,vs,L,t,_,hs,_,_,_,hL=>⟨by simpa using hs,by simpa [A_z] using hL⟩
 | p :: ps,avs,vs,L,t,hp,hs,hav,hpv,hV,hL=>by
  cases vs with
  | nil=>simp at hpv
  | cons v vs=>
   cases avs with
   | nil=>simp at hav
   | cons a avs=>
    have h0:=hp p (by simp)
    refine y_i ps avs vs (ins p a L) (t.setIfInBounds p v) (λq hq=>hp q (List.mem_cons_of_mem _ hq)) (by simpa using hs) (by simpa using hav) (by simpa using hpv) (λj c v' h1 h2=>hV (j+1) c v' (by simpa using h1) (by simpa using h2)) λs hk=>?_
    have hlt:p<({tmps:=t,defers:=[]}:Act).tmps.size:=by show p<t.size;omega
    have e:=P6_ (a:={tmps:=t,defers:=[]}) (q:=s) (v:=v) hlt
    simp only at e
    rw[a3_,e]
    split
    ·exact hV 0 a v rfl rfl
    ·exact hL s hk
def g_8 (P:Program)(aa ab:AC)(ps:List Nat)(L:Env):Yl:=λavs h R=>avs.length=ps.length /\
 vc P aa ⟨A_z (ps.zip avs) L,[],h⟩ λx s=>x=.normal/\vc P ab s λx s'=>R (match x with | .normal=>none | x=>some x) s'.h
def A2_ (fn:FuncId)(tmps:Array Value)(ps:Array Tmp)(assign body:Code)(D:Nat)(s:LoopState)(pe:Option Code):Loop:={state:=s,pending:=pe,fn,tmps,params:=ps,assign,body,defers:=D}
theorem x_r {ps:Array Tmp}{assign body:Code}(hps:∀p∈ps.toList,p<n/\keep p=true)(ca:calm assign=true)(cb:calm body=true){aa ab:AC}(haa:cC P n keep assign=some aa)(hab:cC P n keep body=some ab)
  {L:Env} {tmps:Array Value} {Gb:Gh} {wb:World} (hsz:tmps.size=n) (hL:∀s,keep s=true->V Gb wb (lk s L) (tmps.getD s undef)) (fn:FuncId) (D l m:Nat):
  YOk m P l (.loop (A2_ fn tmps ps assign body D .ready none)) (λx=>.loop (A2_ fn tmps ps assign body D .done (some (B_0 x)))) (g_8 P aa ab ps.toList L) Gb wb:=by
 rintro avs h R ⟨hlen,hY⟩ G w vs g hv f hl sx
 have hsize:vs.size=ps.size:=by rw[<-hv.1,hlen];simp
 refine⟨fn,_,assign,body,run_yield hl hsize,roundIn_of_wpIn trivial ?_⟩
 have hfold:((A2_ fn tmps ps assign body D .ready none).params.zip vs).foldl (λtmps (x:Nat×Value)=>tmps.setIfInBounds x.1 x.2) (A2_ fn tmps ps assign body D .ready none).tmps =
   (ps.toList.zip vs.toList).foldl (λt (p:Nat×Value)=>t.setIfInBounds p.1 p.2) tmps:=by
  show (ps.zip vs).foldl _ tmps=_
  rw[<-Array.foldl_toList,Array.toList_zip]
 have henv:=y_i (n:=n) (keep:=keep) (G:=G) (w:=w) ps.toList avs vs.toList L tmps hps hsz (by rw[hv.1];simp) (by simp;omega) (λj c v h1 h2=>hv.2 j c v h1 (by simpa using h2)) (λs hk=>(hL s hk).keep sx.keep)
 have sr:SR n keep G w G w ⟨A_z (ps.toList.zip avs) L,[],h⟩ ({tmps:=(ps.toList.zip vs.toList).foldl (λt (p:Nat×Value)=>t.setIfInBounds p.1 p.2) tmps,defers:=[]}:Act):=
  ⟨g,henv.1,rfl,henv.2,λ_ _=>.top _,Stp.refl G w⟩
 have e0:∀a:Act,a.defers=[]->wd a []=a:=λa h=>by cases a;simp only[wd];simp only at h;rw[h]
 have hw:=P0_ (m:=m) (f_c l) [] assign ca aa haa sr hY
 rw[e0 _ rfl]at hw
 have hgoal:=wpIn_mono hw (Q':=Exit.then (λa₁ w₁=>∃w₂,(Instr.beginRound l).run P w₁=.ok () w₂/\body.wpIn (Fence.wide.inRound l) m P (roundPost P l λe w'=>∃(j:Option AX)(h':a0_)(G':Gh),e=.returned (.bool j.isNone)/\R j h'/\Gam G' w' h'/\b_c (λb=>b=l) G w G' w'/\w'.heap[l]?=some (match j with | none=>.loop (A2_ fn tmps ps assign body D .ready none) | some x=>.loop (A2_ fn tmps ps assign body D .done (some (B_0 x))))) a₁ w₂) (λ_ _ _=>False)) ?_
 ·rw[hfold]
  exact hgoal
 rintro e a1 w1 ⟨a0,rfl,hp⟩
 cases e with
 | normal=>
  obtain⟨G1,st1,sr1,-,hb⟩:=hp
  have f1:=f.x (sr1.stp.x (λb=>b=l))
  have hl1:w1.heap[l]?=some (.loop (A2_ fn tmps ps assign body D .ready none)):=(sr1.stp.frame l f.1 f.2.1).trans hl
  refine⟨_,run_beginRound hl1 rfl,?_⟩
  obtain⟨g2,s2⟩:=Gam.turn sr1.gam (o':=.loop {A2_ fn tmps ps assign body D .ready none with state:=.busy}) f1 hl1 rfl rfl
  have hl2:(w1.putObj l (.loop {A2_ fn tmps ps assign body D .ready none with state:=.busy})).heap[l]?=some (.loop (A2_ fn tmps ps assign body D .busy none)):=World.putObj_heap_same f1.1
  have f2:=f1.x s2
  have S2:=(sr1.stp.x (λb=>b=l)).trans s2
  generalize w1.putObj l (.loop {A2_ fn tmps ps assign body D .ready none with state:=.busy})=w2 at *
  have sr2:SR n keep G1 w2 G1 w2 st1 a0:=⟨g2,sr1.size,sr1.defers,λs hk=>(sr1.L s hk).keep s2.keep,λs hk=>(sr1.R s hk).keep s2.keep,Stp.refl G1 w2⟩
  refine wpIn_mono (P0_ (m:=m) (f_c l) [] body cb ab hab sr2 hb) ?_
  rintro e a3 w3 ⟨a4,rfl,hp⟩
  have fin:∀(j:Option AX)(jc:Option Code)(G3:Gh)(st3:St),(jc=none↔j=none)->(∀x,j=some x->jc=some (B_0 x))->SR n keep G1 w2 G3 w3 st3 a4->R j st3.h->
    ∃v w',(Instr.endRound l jc).run P w3=.ok v w'/\∃(j:Option AX)(h':a0_)(G':Gh),Ending.returned v=.returned (.bool j.isNone)/\R j h'/\Gam G' w' h'/\b_c (λb=>b=l) G w G' w'/\w'.heap[l]?=some (match j with | none=>.loop (A2_ fn tmps ps assign body D .ready none) | some x=>.loop (A2_ fn tmps ps assign body D .done (some (B_0 x)))):=by
   intro j jc G3 st3 hj1 hj2 sr3 hR
   have f3:=f2.x (sr3.stp.x (λb=>b=l))
   have hl3:w3.heap[l]?=some (.loop (A2_ fn tmps ps assign body D .busy none)):=(sr3.stp.frame l f2.1 f2.2.1).trans hl2
   obtain⟨g4,s4⟩:=Gam.turn sr3.gam (o':=.loop {A2_ fn tmps ps assign body D .busy none with state:=if jc.isNone then .ready else .done,pending:=jc}) f3 hl3 rfl rfl
   refine⟨_,_,run_endRound jc hl3,j,st3.h,G3,?_,hR,g4,(S2.trans (sr3.stp.x _)).trans s4,?_⟩
   ·have:jc.isNone=j.isNone:=by
     cases j with
     | none=>rw[hj1.2 rfl];rfl
     | some x=>rw[hj2 x rfl];rfl
    rw[this]
   ·rw[World.putObj_heap_same f3.1]
    cases j with
    | none=>rw[hj1.2 rfl];rfl
    | some x=>rw[hj2 x rfl];rfl
  cases e with
  | normal=>obtain⟨G3,st3,sr3,hR⟩:=hp;exact fin none none G3 st3 ⟨λ_=>rfl,λ_=>rfl⟩ (λx h=>by cases h) sr3 hR
  | ret=>obtain⟨G3,st3,sr3,hR⟩:=hp;exact fin (some .ret) (some .ret) G3 st3 (by simp) (λx h=>by cases h;rfl) sr3 hR
  | exit id=>obtain⟨G3,st3,sr3,hR⟩:=hp;exact fin (some (.exit id)) (some (.exit id)) G3 st3 (by simp) (λx h=>by cases h;rfl) sr3 hR
  | goto t=>exact hp.elim
  | panic c=>exact hp.elim
  | outgrown=>exact hp.elim
 | exit id=>obtain⟨G1,st1,sr1,e,-⟩:=hp;cases e
 | ret=>obtain⟨G1,st1,sr1,e,-⟩:=hp;cases e
 | goto l=>exact hp.elim
 | panic c=>exact hp.elim
 | outgrown=>exact hp.elim
def E_j (n:Nat)(keep:Nat->Bool)(G:Gh)(w:World)(K:AX->St->Prop)(ds:List Deferred)(e:Exit)(a:Act)(w':World):Prop:=
 ∃(a0:Act)(D:Nat)(x:AX)(G':Gh)(st':St),a=wd a0 (B_y D :: ds)/\r_d G' w' D/\w'.heap[D]?=some (.deferred (some []))/\w.heap.size<=D/\SR n keep G w G' w' st' a0/\K x st' /\
  (match x with | .normal=>e=.normal | .exit id=>e=.exit id | .ret=>e=.ret)
theorem l_l {g:Operand}{ps:Array Tmp}{assign body:Code}(hps:∀p∈ps.toList,p<n/\keep p=true)(ca:calm assign=true)(cb:calm body=true){aa ab:AC}(haa:cC P n keep assign=some aa)(hab:cC P n keep body=some ab)
  {G0:Gh} {w0:World} {G:Gh} {w:World} {st:St} {a:Act} (sr:SR n keep G0 w0 G w st a) (ds:List Deferred) {gf:FuncId} {cs:List AV} (hg:st.get (cd keep g)=.clo gf [] cs) (hf:f2_ P gf=true)
  {Kn:a0_->Prop} {Ks:AX->a0_->Prop} (hit:v_p P gf cs st.h (g_8 P aa ab ps.toList st.L) Kn Ks) {K:AX->St->Prop}
  (hn:∀h',Kn h'->K .normal {st with R:=[],h:=h'}) (hs:∀x h',Ks x h'->x≠.normal/\K x {st with R:=[],h:=h'}) (m:Nat):
  (Code.rangeFunc g ps assign body).wpIn Fence.wide m P (E_j n keep G w K ds) (wd a ds) w:=by
 refine wpIn_rangeFunc ?_
 intro fn _
 have hgv:=sr.stands g
 rw[hg]at hgv
 generalize hv:a.eval g=fv at hgv
 cases hgv with
 | clo _ _ us _ vs hlu hUs hl hVs=>
 have hus:us=#[]:=by
  have:us.size=0:=by simpa using hlu.symm
  exact L_k this
 subst hus
 obtain⟨gD,sD,fD⟩:=sr.gam.laid (.deferred (some []))
 obtain⟨gL,sL,fL⟩:=gD.laid (.loop (A2_ fn a.tmps ps assign body w.heap.size .ready none))
 rw[World.size_alloc]at fL
 have hL1:((w.alloc (.deferred (some []))).alloc (.loop (A2_ fn a.tmps ps assign body w.heap.size .ready none))).heap[w.heap.size+1]?=some (.loop (A2_ fn a.tmps ps assign body w.heap.size .ready none)):=by
  have:=World.alloc_heap_new (w.alloc (.deferred (some []))) (.loop (A2_ fn a.tmps ps assign body w.heap.size .ready none));rwa [World.size_alloc]at this
 have hD1:((w.alloc (.deferred (some []))).alloc (.loop (A2_ fn a.tmps ps assign body w.heap.size .ready none))).heap[w.heap.size]?=some (.deferred (some [])):=
  (heap_alloc (by simp)).trans heap_alloc_new
 have fD1:=fD.x (sL.x (λb=>b=w.heap.size+1))
 have sW:=sD.trans sL
 obtain⟨W1,hW1⟩:∃W1,(w.alloc (.deferred (some []))).alloc (.loop (A2_ fn a.tmps ps assign body w.heap.size .ready none))=W1:=⟨_,rfl⟩
 refine⟨w.heap.size+1,[B_y w.heap.size],W1,{target:=.fn (.func gf) vs,args:=#[.func (.yield (w.heap.size+1)) #[] #[]]},W1,gf,#[.func (.yield (w.heap.size+1)) #[] #[]]++vs,W1,?_,?_,λ_ _=>trivial,?_,(λh=>by cases h),?_⟩
 ·rw[<-hW1];exact run_enterLoop_outer _ _ _ _ _
 ·rw[J2_];simp only[resolve,hv];simp[go_sem]
 ·simp[invoke,go_sem,o6_ hf]
 rw[hW1]at hL1 hD1 fD1 fL gL sW
 have hy:∀m,YOk m P (w.heap.size+1) (.loop (A2_ fn a.tmps ps assign body w.heap.size .ready none)) (λx=>.loop (A2_ fn a.tmps ps assign body w.heap.size .done (some (B_0 x)))) (g_8 P aa ab ps.toList st.L) G W1:=
  λm=>x_r hps ca cb haa hab sr.size (λs hk=>(sr.L s hk).keep sW.keep) fn w.heap.size (w.heap.size+1) m
 refine (hit (m-1) (w.heap.size+1) _ _ G W1 vs hy gL ⟨hl,λj c v h1 h2=>(hVs j c v h1 h2).keep sW.keep⟩ fL hL1).mono ?_
 rintro e W2 ⟨⟨v,rfl⟩,h',G',g2,s2,hend⟩
 have fD2:=fD1.x s2
 have hD2:W2.heap[w.heap.size]?=some (.deferred (some [])):=(s2.frame _ fD1.1 fD1.2.1 (by omega)).trans hD1
 have fL2:=fL.x s2
 have endL:∀(r:Loop),W2.heap[w.heap.size+1]?=some (.loop r)->r.state≠.busy->∃W3,(Instr.endLoop (w.heap.size+1)).run P W2=.ok r.pending W3/\SR n keep G w G' W3 {st with R:=[],h:=h'} a/\r_d G' W3 w.heap.size/\W3.heap[w.heap.size]?=some (.deferred (some [])):=by
  intro r hr hb
  obtain⟨g3,s3⟩:=Gam.turn g2 (o':=.loop {r with state:=.exhausted}) fL2 hr rfl rfl
  have S3:=((sW.x (λb=>b=w.heap.size+1)).trans s2).trans s3
  refine⟨_,run_endLoop hr hb,⟨g3,sr.size,sr.defers,λs hk=>(sr.L s hk).keep S3.keep,λ_ _=>.top _,S3.stp (λb hb=>by omega)⟩,fD2.x s3,?_⟩
  rw[World.putObj_heap_other (by omega)];exact hD2
 have hdef:({wd a ds with defers:=[B_y w.heap.size]++(wd a ds).defers}:Act)=wd a (B_y w.heap.size :: ds):=rfl
 rcases hend with⟨hl2,hk⟩ | ⟨x,hl2,hk⟩
 ·obtain⟨W3,r3,sr3,f3,d3⟩:=endL _ hl2 (by simp[A2_])
  refine⟨none,W3,r3,?_⟩
  exact⟨a,w.heap.size,.normal,G',_,hdef,f3,d3,J_4 _,sr3,hn h' hk,rfl⟩
 ·obtain⟨W3,r3,sr3,f3,d3⟩:=endL _ hl2 (by simp[A2_])
  obtain⟨hx,hK⟩:=hs x h' hk
  refine⟨some (B_0 x),W3,r3,?_⟩
  cases x with
  | normal=>exact absurd rfl hx
  | exit id=>exact wpIn_exit ⟨a,w.heap.size,.exit id,G',_,hdef,f3,d3,J_4 _,sr3,hK,rfl⟩
  | ret=>exact wpIn_ret ⟨a,w.heap.size,.ret,G',_,hdef,f3,d3,J_4 _,sr3,hK,rfl⟩
variable {n:Nat} {keep:Nat->Bool} {G0:Gh} {w0:World} {P:Program} {F:Fence} {m:Nat}
def s_8 (bs:List Int):AV:=.vals 0 false 1 (bs.map λn=>[.int .u8 n])
inductive BO where
 | op (o:AO)
 | lit (d1 d2:Dst) (bs:List Int) (gd:Option (Opd×Bool))
def t7_ (P:Program):List BO->St->(St->Prop)->Prop
 | [],st,k=>k st
 | .op o :: r,st,k=>f1_ P [o] st λs=>t7_ P r s k
 | .lit d1 d2 bs none :: r,st,k=>t7_ P r ((st.put d1 .top).put d2 (s_8 bs)) k
 | .lit d1 d2 bs (some (x,want)) :: r,st,k=>match st.get x with
  | .bool b=>(b=want->(st.put d1 .top).get x=.bool b/\t7_ P r ((st.put d1 .top).put d2 (s_8 bs)) k) /\
    (b=(!want)->(st.put d1 (.tup [])).get x=.bool b/\t7_ P r ((st.put d1 (.tup [])).put d2 (.tup [])) k)
  | .tup cs=>(st.put d1 (.tup [])).get x=.tup cs/\t7_ P r ((st.put d1 (.tup [])).put d2 (.tup [])) k
  | _=>False
def s_9 (o1 o2:Oper):Bool:=match o1.op,o2.op with
 | .buildSlice t _ _,.convert s d (.tmp j)=>t == s && s == d && o1.dst == some j && o1.guard == o2.guard
 | _,_=>false
def y_g:List Oper->Bool
 | []=>false
 | [_]=>false
 | o1 :: o2 :: r=>s_9 o1 o2 || y_g (o2 :: r)
def W8_:List Opd->Option (List Int)
 | []=>some []
 | .cst (.int .u8 n) :: r=>(W8_ r).map (n :: ·)
 | _=>none
def E_f (P:Program)(n:Nat)(keep:Nat->Bool)(ops:Array Oper)(o1 o2:Oper):Option BO:=
 if s_9 o1 o2 then match o2.op with
  | .convert s _ _=>match P.underlying s with
   | some (.slice e)=>match P.underlying e with
    | some (.int .u8)=>match cH P (cd keep) o1 with
     | some (.bsl 1 xs)=>match W8_ xs,q_d n keep o1.dst,q_d n keep o2.dst,Y7_ keep ops o1.guard with
      | some (b :: bs),some d1,some d2,some gd=>some (.lit d1 d2 (b :: bs) gd)
      | _,_,_,_=>none
     | _=>none
    | _=>none
   | _=>none
  | _=>none
 else none
def B_j (P:Program)(n:Nat)(keep:Nat->Bool)(ops:Array Oper):List Oper->Option (List BO)
 | []=>some []
 | [o]=>match cAO P n keep ops o with
  | some x=>some [.op x]
  | none=>none
 | o1 :: o2 :: r=>match E_f P n keep ops o1 o2 with
  | some b=>match B_j P n keep ops r with
   | some l=>some (b :: l)
   | none=>none
  | none=>match cAO P n keep ops o1,B_j P n keep ops (o2 :: r) with
   | some x,some l=>some (.op x :: l)
   | _,_=>none
theorem Gam.lit {G w h}(g:Gam G w h)(o:Obj):Gam {G with S:=λb=>G.S b\/b=w.heap.size} (w.alloc o) h/\Stp G w {G with S:=λb=>G.S b\/b=w.heap.size} (w.alloc o):=by
  have k:h3_ G w {G with S:=λb=>G.S b\/b=w.heap.size} (w.alloc o):=⟨J_4 _,λ_ _ _ h=>h,λ_ _ h=>h,λt b hb=>by cases t with
    | zero=>exact .inl hb
    | succ t=>exact hb,λt b hb=>heap_alloc (g.protLt hb),λb hb=>J5_ hb⟩
  have fz:∀a:Addr,a.block<w.heap.size->(w.alloc o).frozen? a=w.frozen? a:=λa ha=>by simp only[World.frozen?,heap_alloc ha]
  refine⟨{len:=g.len,live:=g.live,tag:=g.tag,inj:=g.inj,liveTag:=g.liveTag,liveS:=λn b h1 h2 h3=>h3.elim (g.liveS n b h1 h2) λe=>by have:=g.locLt h1 h2;omega,
            tagInj:=g.tagInj,tagS:=λn b h1 h3=>h3.elim (g.tagS n b h1) λe=>by have:=g.tagLt n b h1;omega,
            tagLt:=λn b hb=>by rw[World.size_alloc];have:=g.tagLt n b hb;omega,sLt:=λb hb=>by rw[World.size_alloc];rcases hb with hb | hb;have:=g.sLt b hb;omega;omega,
            arr:=λn sz es gr b hn hb=>(g.arr n sz es gr b hn hb).keep k (heap_alloc (g.locLt (g.mkLive hn hb) hb)),nil:=g.nil,nilLoc:=g.nilLoc,
            map:=λn es b hn hb=>(g.map n es b hn hb).keep k (heap_alloc (g.locLt (g.mkLiveM hn hb) hb))},?_⟩
  exact⟨k,⟨λ_ h=>.inl h,λb h=>h.imp id λe=>by omega⟩,λ_ _=>rfl,λ_ _=>Iff.rfl,by simp,λb hb _=>heap_alloc hb,λ_ h=>.inl h,rfl,rfl,by simp,fz⟩
theorem Z9_ (w:World)(t e ty:TypeId)(C:Array Value)(n c:Nat)(ht:P.underlying t=some (.slice e))(he:P.underlying e=some (.int .u8)):
  (convert t t (.slice (some ⟨w.heap.size,0,none⟩) n c)).run P (w.alloc (.cells C ty))=.ok (.slice (some ⟨w.heap.size,0,none⟩) n c) (w.alloc (.cells C ty (C.size,C.size+1))):=by
 have hsh:(w.alloc (.cells C ty)).shape? w.heap.size=some (ty,C.size):=by
  unfold World.shape?
  rw[heap_alloc_new]
 have hfr:∀(k:Nat),(w.alloc (.cells C ty)).freeze ⟨w.heap.size,k,none⟩ 1=w.alloc (.cells C ty (k,k+1)):=λk=>by
  have hm:∀(a:Array Obj)(x:Obj)(f:Obj->Obj),(a.push x).modify a.size f=a.push (f x):=by
   intro a x f
   apply Array.ext
   ·simp
   ·intro i h1 h2
    simp only[Array.getElem_modify,Array.getElem_push]
    by_cases h:a.size=i
    ·subst h
     simp
    ·have hi:i<a.size:=by simp at h1;omega
     simp[h,hi]
  unfold World.freeze
  rw[if_neg (by decide)]
  show ({w.alloc (.cells C ty) with heap:=(w.heap.push (.cells C ty)).modify w.heap.size _}:World)=_
  rw[hm]
  rfl
 simp[convert,run_underlying ht,run_underlying he,markStringish,hsh]
 exact hfr _
theorem f_l {g:Opd->AV}(hg:∀v,g (.cst v)=v):∀(xs:List Opd){bs:List Int},W8_ xs=some bs->xs.length=bs.length/\n4_ 1 (xs.map g)=some (bs.map λn=>[AV.int .u8 n])
 | [],bs,h=>by simp only[W8_,Option.some.injEq]at h;subst h;exact⟨rfl,rfl⟩
 | x :: r,bs,h=>by
  unfold W8_ at h
  split at h
  ·rename_i e;cases e
  ·rename_i n r' e
   cases e
   simp only[J_7]at h
   obtain⟨bs',h1,rfl⟩:=h
   obtain⟨h2,h3⟩:=f_l hg r h1
   refine⟨by simp[h2],?_⟩
   simp only[K_t,n4_,hg,h3]
   simp[AV.cells?,AV.scalar]
  ·cases h
theorem A_t {G w st a}(sr:SR n keep G0 w0 G w st a){ops:Array Oper}{o1 o2:Oper}{b:BO}(h:E_f P n keep ops o1 o2=some b):
  ∃d1 d2 bs gd v w1 w2 G2,b=.lit d1 d2 bs gd/\q_d n keep o1.dst=some d1/\q_d n keep o2.dst=some d2/\Y7_ keep ops o1.guard=some gd/\o1.guard=o2.guard/\(execOp a.eval o1).run P w=.ok (.value v) w1 /\
   (execOp (a.put o1.dst v).eval o2).run P w1=.ok (.value v) w2/\Gam G2 w2 st.h/\Stp G w G2 w2/\V G2 w2 (s_8 bs) v:=by
 unfold E_f at h
 split at h
 ·rename_i hp
  split at h
  ·rename_i s d x hop2
   split at h
   ·rename_i e hs
    split at h
    ·rename_i he
     split at h
     ·rename_i xs hH
      split at h
      ·rename_i b0 bs d1 d2 gd hb hd1 hd2 hg
       cases h
       unfold s_9 at hp
       split at hp
       ·rename_i t ln ps s' d' j hop1 hop2'
        rw[hop2]at hop2'
        cases hop2'
        simp only[K_g,beq_iff_eq]at hp
        obtain⟨⟨⟨rfl,rfl⟩,hdst⟩,hgg⟩:=hp
        obtain⟨hlen,hcells⟩:=f_l (g:=st.get) (λ_=>rfl) xs hb
        obtain⟨S,mkv,hex,hmk,cells,ty,v,r1,r2,r3,r4,r5,r6⟩:=S3_ (P:=P) sr.stands hH (nm:=0) (r:=.ref 0 1 0 xs.length (some xs.length)) (sz:=1) (es:=(b0 :: bs).map λn=>[AV.int .u8 n]) (gr:=false) (by simp only[f7_,hcells])
        have hv:=r6 {N:=1,loc:=λ_=>some w.heap.size,nil:=λ_=>False,live:=λ_=>False,tag:=λ_ _=>False,S:=λ_=>False} 0 (by simp) rfl
        rw[hmk]at hv
        have hv':v=.slice (some ⟨w.heap.size,0,none⟩) xs.length xs.length:=by
         generalize xs.length=L at hv ⊢
         cases hv with
         | ref _ _ _ _ _ c _ _ b' _ hb' _ hc _ _=>
          simp only[Option.some.injEq]at hb'
          have:=hc _ rfl
          subst this
          subst hb'
          simp
         | refNil _ _ _ _ hn _=>exact hn.elim
        have hj:j<a.tmps.size:=by
         rw[hdst]at hd1
         simp only[q_d]at hd1
         split at hd1
         ·rw[sr.size];assumption
         ·cases hd1
        refine⟨d1,d2,b0 :: bs,gd,v,w.alloc (.cells cells ty),w.alloc (.cells cells ty (cells.size,cells.size+1)),_,rfl,hd1,hd2,hg,hgg,?_,?_,(Gam.lit sr.gam (.cells cells ty (cells.size,cells.size+1))).1,(Gam.lit sr.gam (.cells cells ty (cells.size,cells.size+1))).2,?_⟩
        ·rw[hex];simp[r1]
        ·obtain⟨dst2,op2,type2,pos2,after2,guard2⟩:=o2
         simp only at hop2
         subst hop2
         have ev:(a.put o1.dst v).eval (.tmp j)=v:=by
          rw[hdst]
          simp[Act.put,Act.eval,hj]
         simp only[execOp,ev,Sem.run_bind,Sem.run_pure]
         rw[hv',Z9_ _ _ _ _ cells _ _ hs he]
         rfl
        ·rw[hv']
         have hl:xs.length=((b0 :: bs).map λn=>[AV.int .u8 n]).length:=by rw[K_p];exact hlen
         rw[hl]
         refine .vals 0 false 1 _ ⟨w.heap.size,0,none⟩ _ (λi j=>cells.getD (i*1+j) undef) (J_4 _) (λe=>by cases e) (λ_=>rfl) (λ_=>.inr rfl) r2 (λi j c hc=>?_) (λi j c hc=>?_)
         ·obtain⟨u,hu,-⟩:=r5 i j c hc
          simp only[World.cell?,heap_alloc_new,M_f,Option.isSome_none,K_b,if_false]
          rw[hu,Array.getD_eq_getD_getElem?,hu]
          rfl
         ·obtain⟨u,hu,hV⟩:=r5 i j c hc
          have:cells.getD (i*1+j) undef=u:=by rw[Array.getD_eq_getD_getElem?,hu];rfl
          rw[this]
          exact hV.keep (Gam.lit sr.gam (.cells cells ty (cells.size,cells.size+1))).2.keep
       ·cases hp
      ·cases h
     ·cases h
    ·cases h
   ·cases h
  ·cases h
 ·cases h
theorem b_3 (hF:y_m F)(ds:List Deferred){ops:Array Oper}{Q:Exit->Act->World->Prop}{k:St->Prop}
  (hn:∀G' w' st' a',SR n keep G0 w0 G' w' st' a'->k st'->wpListIn F m P ops Q [] (wd a' ds) w'):
  ∀(l:List Oper)(bl:List BO){G w st a},SR n keep G0 w0 G w st a->B_j P n keep ops l=some bl->t7_ P bl st k->wpListIn F m P ops Q l (wd a ds) w
 | [],bl,G,w,st,a,sr,hc,hk=>by
  simp only[B_j,Option.some.injEq]at hc
  subst hc
  exact hn G w st a sr hk
 | [o],bl,G,w,st,a,sr,hc,hk=>by
  simp only[B_j]at hc
  split at hc
  ·rename_i x hx
   cases hc
   have:=O9_ (m:=m) (ops:=ops) (Q:=Q) (r:=[]) hF ds (n:=n) (keep:=keep) (G0:=G0) (w0:=w0) (k:=λs=>t7_ P [] s k) (λG' w' st' a' sr' hk'=>hn G' w' st' a' sr' hk') [o] [x] sr (by simp only[q_e,hx]) hk
   simpa using this
  ·cases hc
 | o1 :: o2 :: r,bl,G,w,st,a,sr,hc,hk=>by
  simp only[B_j]at hc
  split at hc
  ·rename_i bo hcl
   split at hc
   ·rename_i l hl
    cases hc
    obtain⟨d1,d2,bs,gd,v,w1,w2,G2,rfl,hd1,hd2,hgd,hgg,run1,run2,hG2,hS2,hV⟩:=A_t sr hcl
    have sr1:SR n keep G0 w0 G2 w2 (st.put d1 .top) (a.put o1.dst v):=by
     have e:({st.put d1 .top with h:=st.h}:St)=st.put d1 .top:=by cases d1<;>rfl
     have:=sr.put hd1 hG2 hS2 (V.top v)
     rwa [e]at this
    have sr2:SR n keep G0 w0 G2 w2 ((st.put d1 .top).put d2 (s_8 bs)) ((a.put o1.dst v).put o2.dst v):=by
     have e:({(st.put d1 .top).put d2 (s_8 bs) with h:=(st.put d1 .top).h}:St)=(st.put d1 .top).put d2 (s_8 bs):=by cases d2<;>rfl
     have e':(st.put d1 .top).h=st.h:=by cases d1<;>rfl
     have:=sr1.put hd2 (by rw[<-e']at hG2;exact hG2) (Stp.refl G2 w2) hV
     rwa [e]at this
    have srs:=(sr.skip hd1)
    have srs2:=srs.skip hd2
    have go:t7_ P l ((st.put d1 .top).put d2 (s_8 bs)) k->Region.wanted o1 (yielded ops a.tmps)=true->Region.wanted o2 (yielded ops (a.put o1.dst v).tmps)=true->wpListIn F m P ops Q (o1 :: o2 :: r) (wd a ds) w:=by
     intro hk' h1 h2
     unfold wpListIn
     rw[Z5_,if_pos h1]
     refine⟨λf _=>hF.fn f,?_⟩
     rw[J2_,a_1 run1 (by simp),Oper.uponIn_value,A6_]
     unfold wpListIn
     rw[Z5_,if_pos h2]
     refine⟨λf _=>hF.fn f,?_⟩
     rw[J2_,a_1 run2 (by simp),Oper.uponIn_value,A6_]
     exact b_3 hF ds hn r l sr2 hl hk'
    have no:t7_ P l ((st.put d1 (.tup [])).put d2 (.tup [])) k->Region.wanted o1 (yielded ops a.tmps)=false->Region.wanted o2 (yielded ops (a.put o1.dst undef).tmps)=false->wpListIn F m P ops Q (o1 :: o2 :: r) (wd a ds) w:=by
     intro hk' h1 h2
     unfold wpListIn
     rw[Z5_,h1]
     simp only[K_b,if_false]
     refine⟨λf _=>hF.fn f,?_⟩
     rw[A6_]
     unfold wpListIn
     rw[Z5_,h2]
     simp only[K_b,if_false]
     refine⟨λf _=>hF.fn f,?_⟩
     rw[A6_]
     exact b_3 hF ds hn r l srs2 hl hk'
    cases hog:o1.guard with
    | none=>
     rw[hog]at hgd
     simp only[Y7_,Option.some.injEq]at hgd
     subst hgd
     exact go hk (by simp[Region.wanted,hog]) (by rw[hog]at hgg;simp[Region.wanted,<-hgg])
    | some jw=>
     obtain⟨j,want⟩:=jw
     rw[hog]at hgd hgg
     simp only[Y7_]at hgd
     split at hgd
     ·rename_i t ht
      cases hgd
      obtain⟨g1,g2⟩:=C1_ sr hog ht
      simp only[t7_]at hk
      split at hk
      ·rename_i b hb
       by_cases e:b=want
       ·subst e
        obtain⟨h1,h2⟩:=hk.1 rfl
        exact go h2 (by rw[g1 b hb];simp) (by rw[(C1_ sr1 hgg.symm ht).1 b h1];simp)
       ·obtain⟨h1,h2⟩:=hk.2 (by cases b<;>cases want<;>simp_all)
        exact no h2 (by rw[g1 b hb];simpa using e) (by rw[(C1_ srs hgg.symm ht).1 b h1];simpa using e)
      ·rename_i cs hb
       exact no hk.2 (g2 cs hb) ((C1_ srs hgg.symm ht).2 cs hk.1)
      ·exact hk.elim
     ·cases hgd
   ·cases hc
  ·split at hc
   ·rename_i x l hx hl
    cases hc
    have:=O9_ (m:=m) (ops:=ops) (Q:=Q) (r:=o2 :: r) hF ds (n:=n) (keep:=keep) (G0:=G0) (w0:=w0) (k:=λs=>t7_ P l s k) (λG' w' st' a' sr' hk'=>b_3 hF ds hn (o2 :: r) l sr' hl hk') [o1] [x] sr (by simp only[q_e,hx]) hk
    exact this
   ·cases hc
structure RS where
 j:Option AX
 q:Bool
 st:St
inductive RC where
 | calm (a:AC)
 | plain (a:AC)
 | seq (a b:RC)
 | cond (c:Opd) (a b:RC)
 | block (id:Nat) (b:RC)
 | loop (b:RC)
 | yop (pre:List AO) (d:Dst) (x:Opd) (args:List Opd) (post:List AO)
 | range (g:Opd) (ps:List Nat) (aa ab:AC)
 | lits (l:List BO)
def rvc (P:Program)(l:Nat)(Y:Yl):RC->RS->(AX->RS->Prop)->Prop
 | .calm a,s,K=>vc P a s.st λx st'=>K x ⟨s.j,s.q,st'⟩
 | .plain a,s,K=>s.q=false/\vc P a s.st λx st'=>K x ⟨s.j,s.q,st'⟩
 | .seq a b,s,K=>rvc P l Y a s λx s'=>match x with
  | .normal=>rvc P l Y b s' K
  | .exit id=>K (.exit id) s'
  | .ret=>K .ret s'
 | .cond c a b,s,K=>match s.st.get c with
  | .bool t=>(t=true->rvc P l Y a s K)/\(t=false->rvc P l Y b s K)
  | _=>False
 | .block id b,s,K=>rvc P l Y b s λx s'=>match x with
  | .normal=>K .normal s'
  | .exit id'=>if id'=id then K .normal s' else K (.exit id') s'
  | .ret=>K .ret s'
 | .loop b,s,K=>∃I:Nat->RS->Prop,(∃m s0,Wk s.st s0/\I m ⟨s.j,s.q,s0⟩)/\∀m s,I m s->rvc P l Y b s λx s'=>match x with
  | .normal=>∃m' s0,m'<m/\Wk s'.st s0/\I m' ⟨s'.j,s'.q,s0⟩
  | .exit id=>K (.exit id) s'
  | .ret=>K .ret s'
 | .lits l,s,K=>t7_ P l s.st λst'=>K .normal ⟨s.j,s.q,{st' with R:=[]}⟩
 | .yop pre d x args post,s,K=>s.q=false/\s.j=none/\f1_ P pre s.st λs1=>s1.get x=.raw (.func (.yield l) #[] #[]) /\
   Y (args.map s1.get) s1.h λj h'=>f1_ P post {s1.put d (.bool j.isNone) with h:=h'} λs2=>K .normal ⟨j,false,{s2 with R:=[]}⟩
 | .range g ps aa ab,s,K=>s.q=false/\∃gf cs Kn Ks,s.st.get g=.clo gf [] cs/\f2_ P gf=true/\v_p P gf cs s.st.h (g_8 P aa ab ps s.st.L) Kn Ks /\
   (∀h',Kn h'->K .normal ⟨s.j,true,{s.st with R:=[],h:=h'}⟩)/\∀x h',Ks x h'->x≠.normal/\K x ⟨s.j,true,{s.st with R:=[],h:=h'}⟩
section
variable {n:Nat} {keep:Nat->Bool} {P:Program}
def opY (o:Oper):Bool:=match o.op with
 | .call {callee:=.value (.func _),..}=>false
 | .call {callee:=.value _,..}=>true
 | _=>false
def i_g (P:Program)(n:Nat)(keep:Nat->Bool)(ops:Array Oper):List Oper->Option (List AO×Dst×Opd×List Opd×List AO)
 | []=>none
 | o :: r=>if opY o then (match cOp P (cd keep) o with
   | some (.callv x as)=>match o.guard,q_d n keep o.dst,q_e P n keep ops r with
    | none,some d,some post=>some ([],d,x,as,post)
    | _,_,_=>none
   | _=>none)
  else match cAO P n keep ops o,i_g P n keep ops r with
   | some a,some (pre,d,x,as,post)=>some (a :: pre,d,x,as,post)
   | _,_=>none
def hard (it:Bool):Code->Bool
 | .region _ ops d=>!d && ((it && ops.toList.any opY) || y_g ops.toList)
 | .seq a b=>hard it a || hard it b
 | .cond _ a b=>hard it a || hard it b
 | .block _ b=>hard it b
 | .loop b=>hard it b
 | .scope b=>hard it b
 | .rangeFunc _ _ _ _=>true
 | _=>false
def w_4 (P:Program)(n:Nat)(keep:Nat->Bool)(c:Code):Option RC:=(cC P n keep c).map (if calm c then RC.calm else RC.plain)
def cRC (P:Program)(n:Nat)(keep:Nat->Bool)(it:Bool):Code->Option RC
 | .region id ops d=>if hard it (.region id ops d) then (if it && ops.toList.any opY then (i_g P n keep ops ops.toList).map fun (pre,d,x,as,post)=>.yop pre d x as post else (B_j P n keep ops ops.toList).map .lits) else w_4 P n keep (.region id ops d)
 | .seq a b=>if hard it (.seq a b) then (match cRC P n keep it a,cRC P n keep it b with
   | some x,some y=>some (.seq x y)
   | _,_=>none) else w_4 P n keep (.seq a b)
 | .cond c a b=>if hard it (.cond c a b) then (match cRC P n keep it a,cRC P n keep it b with
   | some x,some y=>some (.cond (cd keep c) x y)
   | _,_=>none) else w_4 P n keep (.cond c a b)
 | .block id b=>if hard it (.block id b) then (cRC P n keep it b).map (.block id) else w_4 P n keep (.block id b)
 | .loop b=>if hard it (.loop b) then (cRC P n keep it b).map .loop else w_4 P n keep (.loop b)
 | .scope b=>if hard it (.scope b) then none else w_4 P n keep (.scope b)
 | .rangeFunc g ps x y=>if calm x && calm y && ps.toList.all (λp=>decide (p<n) && keep p) then (match cC P n keep x,cC P n keep y with
   | some aa,some ab=>some (.range (cd keep g) ps.toList aa ab)
   | _,_=>none) else none
 | c=>w_4 P n keep c
def x_7 (wb:World)(G:Gh)(w:World)(ds:List Deferred)(q:Bool):Prop:=
 ds=[]\/q=true/\∃D,ds=[B_y D]/\r_d G w D/\w.heap[D]?=some (.deferred (some []))/\wb.heap.size<=D
theorem x_7.stp {wb G w G' w' ds q}(m:x_7 wb G w ds q)(s:Stp G w G' w'):x_7 wb G' w' ds q:=by
 rcases m with h | ⟨hq,D,h1,h2,h3,h4⟩
 ·exact .inl h
 ·exact .inr ⟨hq,D,h1,h2.x (s.x (λ_=>False)),(s.frame D h2.1 h2.2.1).trans h3,h4⟩
structure B_s (P:Program)(Gb:Gh)(wb:World)(X:Nat->Prop)(T:Option AX->Gh->World->Prop)(l:Nat)(Y:Yl):Prop where
 stp:∀j G w G' w',T j G w->Stp G w G' w'->T j G' w'
 yld:∀m avs h R G w vs,Y avs h R->Gam G w h->VL G w avs vs->T none G w->b_c X Gb wb G w->YieldAt Fence.wide m P l vs w λe w'=>
  ∃(j:Option AX)(h':a0_)(G':Gh),e=.returned (.bool j.isNone)/\R j h'/\Gam G' w' h'/\b_c X G w G' w'/\T j G' w'
structure RSR (n:Nat)(keep:Nat->Bool)(Gb:Gh)(wb:World)(X:Nat->Prop)(T:Option AX->Gh->World->Prop)(s:RS)(G:Gh)(w:World)(a0:Act)(ds:List Deferred):Prop where
 sr:SR n keep G w G w s.st a0
 stp:b_c X Gb wb G w
 side:T s.j G w
 marks:x_7 wb G w ds s.q
def AX.ex:AX->Exit
 | .normal=>.normal
 | .exit id=>.exit id
 | .ret=>.ret
def m_1 (n:Nat)(keep:Nat->Bool)(Gb:Gh)(wb:World)(X:Nat->Prop)(T:Option AX->Gh->World->Prop)(K:AX->RS->Prop)(e:Exit)(a:Act)(w:World):Prop:=
 ∃(x:AX)(s:RS)(G:Gh)(a0:Act)(ds:List Deferred),e=x.ex/\a=wd a0 ds/\RSR n keep Gb wb X T s G w a0 ds/\K x s
variable {Gb:Gh} {wb:World} {X:Nat->Prop} {T:Option AX->Gh->World->Prop} {l:Nat} {Y:Yl} {m:Nat}
theorem RSR.step (sd:B_s P Gb wb X T l Y){s:RS}{G w a0 ds}(r:RSR n keep Gb wb X T s G w a0 ds){G' w' st' a'}(sr:SR n keep G w G' w' st' a'):RSR n keep Gb wb X T ⟨s.j,s.q,st'⟩ G' w' a' ds:=
 ⟨⟨sr.gam,sr.size,sr.defers,sr.L,sr.R,Stp.refl _ _⟩,r.stp.trans (sr.stp.x X),sd.stp _ _ _ _ _ r.side sr.stp,r.marks.stp sr.stp⟩
theorem s_s (sd:B_s P Gb wb X T l Y){s:RS}{G w a0 ds}(r:RSR n keep Gb wb X T s G w a0 ds){K:AX->RS->Prop}{e a1 w1}(h:E_k n keep G w (λx st'=>K x ⟨s.j,s.q,st'⟩) e a1 w1):m_1 n keep Gb wb X T K e (wd a1 ds) w1:=by
 cases e with
 | normal=>obtain⟨G',st',sr',hk⟩:=h;exact⟨.normal,_,G',a1,ds,rfl,rfl,r.step sd sr',hk⟩
 | exit id=>obtain⟨G',st',sr',hk⟩:=h;exact⟨.exit id,_,G',a1,ds,rfl,rfl,r.step sd sr',hk⟩
 | ret=>obtain⟨G',st',sr',hk⟩:=h;exact⟨.ret,_,G',a1,ds,rfl,rfl,r.step sd sr',hk⟩
 | goto t=>exact h.elim
 | panic c=>exact h.elim
 | outgrown=>exact h.elim
theorem h_z {a:Act} (h:a.defers=[]):wd a []=a:=by cases a;simp only[wd];simp only at h;rw[h]
theorem l3_ (sd:B_s P Gb wb X T l Y){c:Code}{rc:RC}(hc:w_4 P n keep c=some rc){s:RS}{G w a0 ds}(r:RSR n keep Gb wb X T s G w a0 ds){K:AX->RS->Prop}(hk:rvc P l Y rc s K):
  c.wpIn Fence.wide m P (m_1 n keep Gb wb X T K) (wd a0 ds) w:=by
 simp only[w_4,J_7]at hc
 obtain⟨ac,hac,rfl⟩:=hc
 by_cases hq:calm c=true
 ·rw[if_pos hq]at hk
  refine wpIn_mono (P0_ (m:=m) H8_ ds c hq ac hac r.sr hk) ?_
  rintro e _ w1 ⟨a1,rfl,hp⟩
  exact s_s sd r hp
 ·rw[if_neg hq]at hk
  obtain⟨hq0,hk⟩:=hk
  have hds:ds=[]:=by
   rcases r.marks with h | ⟨h,-⟩
   ·exact h
   ·rw[hq0]at h;cases h
  subst hds
  rw[h_z r.sr.defers]
  refine wpIn_wide.2 (wp_mono (b_2 c ac hac r.sr hk) ?_)
  intro e a1 w1 hp
  have:=s_s sd r hp
  have hd:a1.defers=[]:=by
   cases e with
   | normal=>obtain⟨G',st',sr',-⟩:=hp;exact sr'.defers
   | exit id=>obtain⟨G',st',sr',-⟩:=hp;exact sr'.defers
   | ret=>obtain⟨G',st',sr',-⟩:=hp;exact sr'.defers
   | goto t=>exact hp.elim
   | panic c=>exact hp.elim
   | outgrown=>exact hp.elim
  rwa [h_z hd]at this
theorem SR.reput {G0 w0 G w st a G' w' h'}(sr:SR n keep G0 w0 G w st a)(k:h3_ G w G' w')(g:Gam G' w' h'):SR n keep G' w' G' w' {st with h:=h'} a:=
 ⟨g,sr.size,sr.defers,λs hk=>(sr.L s hk).keep k,λs hk=>(sr.R s hk).keep k,Stp.refl _ _⟩
theorem C_5 {o:Oper}(ho:opY o=true){x:Opd}{as:List Opd}(h:cOp P (cd keep) o=some (.callv x as)):
  ∃(y:Operand)(args:Array Operand),x=cd keep y/\as=args.toList.map (cd keep)/\∀(a:Act)(w:World)(l:Nat),a.eval y=.func (.yield l) #[] #[]->(execOp a.eval o).run P w=(Instr.yield l (args.map a.eval)).run P w:=by
 unfold cOp at h
 split at h
 ·cases h
 ·split at h
  ·cases h
  ·split at h
   ·cases h
   ·rename_i y args tys hne hcall
    cases h
    refine⟨y,args,rfl,rfl,λa w l hy=>?_⟩
    obtain⟨dst,op,type,pos,after,guard⟩:=o
    have hcall':op=_:=hcall
    subst hcall'
    simp[execOp,resolve,hy,Deferred.ofValue,invoke]
   ·cases h
theorem i_f (sd:B_s P Gb wb X T l Y){ops:Array Oper}{s:RS}(hq:s.q=false)(hj:s.j=none){K:AX->RS->Prop}:
  ∀(lo:List Oper){pre d x as post} (_:i_g P n keep ops lo=some (pre,d,x,as,post)) {st:St} {G w a0} (_:RSR n keep Gb wb X T ⟨s.j,s.q,st⟩ G w a0 [])
   (_:f1_ P pre st λs1=>s1.get x=.raw (.func (.yield l) #[] #[]) /\
    Y (as.map s1.get) s1.h λj h'=>f1_ P post {s1.put d (.bool j.isNone) with h:=h'} λs2=>K .normal ⟨j,false,{s2 with R:=[]}⟩),
   wpListIn Fence.wide m P ops (m_1 n keep Gb wb X T K) lo (wd a0 []) w:=by
 intro lo
 induction lo with
 | nil=>intro pre d x as post h;simp[i_g]at h
 | cons o r ih=>
  intro pre d x as post h st G w a0 rs hk
  simp only[i_g]at h
  split at h
  ·rename_i hoy
   split at h
   ·rename_i x' as' hop
    split at h
    ·rename_i d' post' hgd hd hpost
     cases h
     simp only[f1_]at hk
     obtain⟨hx,hk⟩:=hk
     obtain⟨y,args,rfl,rfl,hrun⟩:=C_5 hoy hop
     unfold wpListIn
     rw[if_pos (by simp[Region.wanted,hgd])]
     have hyv:=rs.sr.stands y
     have hx':st.get (cd keep y)=.raw (.func (.yield l) #[] #[]):=hx
     rw[hx']at hyv
     generalize hv:a0.eval y=fv at hyv
     cases hyv
     have hvl:VL G w ((args.toList.map (cd keep)).map st.get) (args.map a0.eval):=
      ⟨by simp,λj c v hc hv'=>VL.map rs.sr.stands args.toList j c v (by simpa using hc) (by simpa using hv')⟩
     have hside:=rs.side
     simp only[hj]at hside
     obtain⟨fn,tmps,assign,body,hy,hr⟩:=sd.yld (m-1) _ _ _ G w _ hk rs.sr.gam hvl hside rs.stp
     refine⟨λf _=>trivial,?_⟩
     rw[J2_,a_1 ((hrun a0 w l hv).trans hy) (by simp),Oper.uponIn_round]
     refine⟨λh=>(by cases h),RoundIn.mono hr ?_⟩
     rintro e w' ⟨j,h',G',rfl,hR,hg,hst,hT⟩
     show wpListIn Fence.wide m P ops _ r ((wd a0 []).put o.dst (.bool j.isNone)) w'
     rw[A6_]
     have sr1:=(rs.sr.reput hst.keep hg).put hd hg (Stp.refl G' w') (.bool j.isNone)
     have e1:({({st with h:=h'}:St).put d (.bool j.isNone) with h:=h'}:St)={st.put d (.bool j.isNone) with h:=h'}:=by cases d<;>rfl
     rw[e1]at sr1
     have:=O9_ (m:=m) (ops:=ops) (Q:=m_1 n keep Gb wb X T K) (r:=[]) H8_ [] (n:=n) (keep:=keep) (G0:=G') (w0:=w') (k:=λs2=>K .normal ⟨j,false,{s2 with R:=[]}⟩) ?_ r post sr1 hpost hR
     ·rwa [K_2]at this
     ·intro G2 w2 st2 a2 sr2 hk2
      refine⟨.normal,_,G2,a2,[],rfl,rfl,⟨⟨sr2.gam,sr2.size,sr2.defers,sr2.L,λ_ _=>.top _,Stp.refl _ _⟩,(rs.stp.trans hst).trans (sr2.stp.x X),sd.stp _ _ _ _ _ hT sr2.stp,.inl rfl⟩,hk2⟩
    ·cases h
   ·cases h
  ·split at h
   ·rename_i ao pre' d' x' as' post' hao hsp
    cases h
    have:f1_ P [ao] st (λst'=>f1_ P pre' st' λs1=>s1.get x=.raw (.func (.yield l) #[] #[]) /\
      Y (as.map s1.get) s1.h λj h'=>f1_ P post {s1.put d (.bool j.isNone) with h:=h'} λs2=>K .normal ⟨j,false,{s2 with R:=[]}⟩):=hk
    have h1:=O9_ (m:=m) (ops:=ops) (Q:=m_1 n keep Gb wb X T K) (r:=r) H8_ [] (n:=n) (keep:=keep) (G0:=G) (w0:=w) (k:=λst'=>f1_ P pre' st' λs1=>s1.get x=.raw (.func (.yield l) #[] #[]) /\
      Y (as.map s1.get) s1.h λj h'=>f1_ P post {s1.put d (.bool j.isNone) with h:=h'} λs2=>K .normal ⟨j,false,{s2 with R:=[]}⟩) ?_ [o] [ao] rs.sr (by simp only[q_e,hao]) this
    ·exact h1
    ·intro G2 w2 st2 a2 sr2 hk2
     exact ih hsp (rs.step sd sr2) hk2
   ·cases h
theorem i_o (sd:B_s P Gb wb X T l Y){it:Bool}:∀(c:Code)(rc:RC),cRC P n keep it c=some rc->∀{K:AX->RS->Prop}{s:RS}{G w a0 ds},RSR n keep Gb wb X T s G w a0 ds->rvc P l Y rc s K->
  c.wpIn Fence.wide m P (m_1 n keep Gb wb X T K) (wd a0 ds) w:=by
 intro c
 induction c with
 | skip=>intro rc hc K s G w a0 ds r hk;exact l3_ sd hc r hk
 | ret=>intro rc hc K s G w a0 ds r hk;exact l3_ sd hc r hk
 | exit id=>intro rc hc K s G w a0 ds r hk;exact l3_ sd hc r hk
 | label id=>intro rc hc K s G w a0 ds r hk;exact l3_ sd hc r hk
 | goto id=>intro rc hc K s G w a0 ds r hk;exact l3_ sd hc r hk
 | refuse id=>intro rc hc K s G w a0 ds r hk;exact l3_ sd hc r hk
 | scope b ih=>
  intro rc hc K s G w a0 ds r hk
  simp only[cRC]at hc
  split at hc
  ·cases hc
  ·exact l3_ sd hc r hk
 | region id ops draw=>
  intro rc hc K s G w a0 ds r hk
  simp only[cRC]at hc
  split at hc
  ·rename_i hh
   have hdr:draw=false:=by
    cases draw with
    | false=>rfl
    | true=>simp[hard]at hh
   subst hdr
   split at hc
   ·simp only[J_7]at hc
    obtain⟨⟨pre,d,x,as,post⟩,hsp,rfl⟩:=hc
    obtain⟨hq,hj,hk⟩:=hk
    have hds:ds=[]:=by
     rcases r.marks with h | ⟨h,-⟩
     ·exact h
     ·rw[hq]at h;cases h
    subst hds
    refine wpIn_region_list ?_
    exact i_f sd hq hj ops.toList hsp r hk
   ·simp only[J_7]at hc
    obtain⟨bl,hbl,rfl⟩:=hc
    refine wpIn_region_list ?_
    refine b_3 (m:=m) (ops:=ops) (Q:=m_1 n keep Gb wb X T K) H8_ ds (n:=n) (keep:=keep) (G0:=G) (w0:=w) (k:=λst'=>K .normal ⟨s.j,s.q,{st' with R:=[]}⟩) ?_ ops.toList bl r.sr hbl hk
    intro G2 w2 st2 a2 sr2 hk2
    exact⟨.normal,⟨s.j,s.q,{st2 with R:=[]}⟩,G2,a2,ds,rfl,rfl,r.step sd (st':={st2 with R:=[]}) ⟨sr2.gam,sr2.size,sr2.defers,sr2.L,λ_ _=>.top _,sr2.stp⟩,hk2⟩
  ·exact l3_ sd hc r hk
 | seq x y ihx ihy=>
  intro rc hc K s G w a0 ds r hk
  simp only[cRC]at hc
  split at hc
  ·split at hc
   ·rename_i ax ay hx hy
    cases hc
    refine wpIn_seq (wpIn_mono (ihx ax hx r hk) ?_)
    rintro e _ w' ⟨z,s',G',a1,ds',rfl,rfl,r',hk'⟩
    cases z with
    | normal=>exact ihy ay hy r' hk'
    | exit id=>exact⟨_,s',G',a1,ds',rfl,rfl,r',hk'⟩
    | ret=>exact⟨_,s',G',a1,ds',rfl,rfl,r',hk'⟩
   ·cases hc
  ·exact l3_ sd hc r hk
 | cond x y z ihy ihz=>
  intro rc hc K s G w a0 ds r hk
  simp only[cRC]at hc
  split at hc
  ·split at hc
   ·rename_i ay az hy hz
    cases hc
    simp only[rvc]at hk
    split at hk
    ·rename_i t ht
     have hv:=r.sr.stands x
     rw[ht]at hv
     generalize he:a0.eval x=v at hv
     cases hv
     refine wpIn_cond_split (by rw[J2_];exact he) (λe=>?_) (λe=>?_)
     ·exact ihy ay hy r (hk.1 e)
     ·exact ihz az hz r (hk.2 e)
    ·exact hk.elim
   ·cases hc
  ·exact l3_ sd hc r hk
 | block id b ih=>
  intro rc hc K s G w a0 ds r hk
  simp only[cRC]at hc
  split at hc
  ·simp only[J_7]at hc
   obtain⟨ab,hb,rfl⟩:=hc
   refine wpIn_block (wpIn_mono (ih ab hb r hk) ?_)
   rintro e _ w' ⟨z,s',G',a1,ds',rfl,rfl,r',hk'⟩
   cases z with
   | normal=>exact⟨.normal,s',G',a1,ds',rfl,rfl,r',hk'⟩
   | exit id'=>
    simp only at hk'
    simp only[AX.ex,Exit.inBlock]
    split<;>rename_i h
    ·rw[if_pos h]at hk';exact⟨.normal,s',G',a1,ds',rfl,rfl,r',hk'⟩
    ·rw[if_neg h]at hk';exact⟨.exit id',s',G',a1,ds',rfl,rfl,r',hk'⟩
   | ret=>exact⟨.ret,s',G',a1,ds',rfl,rfl,r',hk'⟩
  ·exact l3_ sd hc r hk
 | loop b ih=>
  intro rc hc K s G w a0 ds r hk
  simp only[cRC]at hc
  split at hc
  ·simp only[J_7]at hc
   obtain⟨ab,hb,rfl⟩:=hc
   obtain⟨I,⟨k,s0,hwk,h0⟩,hround⟩:=hk
   obtain⟨G',sr'⟩:=hwk n keep G w G w a0 r.sr
   refine wpIn_loop_ghost (λk a w=>∃s G a0 ds,a=wd a0 ds/\RSR n keep Gb wb X T s G w a0 ds/\I k s) k ⟨_,G',a0,ds,rfl,r.step sd sr',h0⟩ ?_
   rintro k _ w ⟨s,G,a0,ds,rfl,r,hI⟩
   refine wpIn_mono (ih ab hb r (hround k s hI)) ?_
   rintro e _ w' ⟨z,s',G',a1,ds',rfl,rfl,r',hk'⟩
   cases z with
   | normal=>
    obtain⟨m',s0,hlt,hwk,hI'⟩:=hk'
    obtain⟨G'',sr''⟩:=hwk n keep G' w' G' w' a1 r'.sr
    exact⟨m',hlt,_,G'',a1,ds',rfl,r'.step sd sr'',hI'⟩
   | exit id=>exact⟨.exit id,s',G',a1,ds',rfl,rfl,r',hk'⟩
   | ret=>exact⟨.ret,s',G',a1,ds',rfl,rfl,r',hk'⟩
  ·exact l3_ sd hc r hk
 | rangeFunc g ps x y _ _=>
  intro rc hc K s G w a0 ds r hk
  simp only[cRC]at hc
  split at hc
  ·rename_i hh
   simp only[K_g,L_h,decide_eq_true_eq]at hh
   split at hc
   ·rename_i aa ab haa hab
    cases hc
    obtain⟨hq,gf,cs,Kn,Ks,hg,hf,hit,hn,hs⟩:=hk
    have hds:ds=[]:=by
     rcases r.marks with h | ⟨h,-⟩
     ·exact h
     ·rw[hq]at h;cases h
    subst hds
    refine wpIn_mono (l_l hh.2 hh.1.1 hh.1.2 haa hab r.sr [] hg hf hit (K:=λx st'=>K x ⟨s.j,true,st'⟩) hn hs m) ?_
    rintro e _ w' ⟨a1,D,z,G',st',rfl,fD,hD,hle,sr',hk',he⟩
    refine⟨z,⟨s.j,true,st'⟩,G',a1,[B_y D],?_,rfl,⟨⟨sr'.gam,sr'.size,sr'.defers,sr'.L,sr'.R,Stp.refl _ _⟩,r.stp.trans (sr'.stp.x X),sd.stp _ _ _ _ _ r.side sr'.stp,.inr ⟨rfl,D,rfl,fD,hD,K_e r.stp.size hle⟩⟩,hk'⟩
    cases z<;>exact he
   ·cases hc
  ·cases hc
end
structure RFn where
 n:Nat
 keep:Nat->Bool
 code:RC
 res:List h_u
def C_4 (P:Program)(keep:Nat->Bool)(it:Bool)(f:FuncId):Option RFn:=
 match P.funcs[f]? with
 | some fn=>match fn.body with
  | some c=>match cRC P fn.ntmps keep it c,v_r P keep fn.results.toList with
   | some ac,some res=>some ⟨fn.ntmps,keep,ac,res⟩
   | _,_=>none
  | none=>none
 | none=>none
def IsR (P:Program)(it:Bool)(f:FuncId)(c:RFn):Prop:=f2_ P f=true/\C_4 P c.keep it f=some c
section
variable {n:Nat} {keep:Nat->Bool} {P:Program}
theorem b_c.transNew {X X':Nat->Prop}{G w G1 w1 G2 w2}(a:b_c X G w G1 w1)(b:b_c X' G1 w1 G2 w2)(h:∀b,X' b->w.heap.size<=b):b_c X G w G2 w2 where
 keep:=a.keep.trans b.keep
 S:=⟨λx h=>b.S.1 x (a.S.1 x h),λx h=>(b.S.2 x h).elim (a.S.2 x) (λh=>.inr (K_e a.size h))⟩
 locEq n h:=by rw[b.locEq n (K_c h a.keep.N),a.locEq n h]
 nilEq n h:=(b.nilEq n (K_c h a.keep.N)).trans (a.nilEq n h)
 size:=K_e a.size b.size
 frame x hx hn hX:=by
  rw[b.frame x (K_c hx a.size) ?_ (λhX'=>by have:=h x hX';omega),a.frame x hx hn hX]
  intro ho
  rcases a.own x ho with h | h
  ·exact hn h
  ·omega
 own x hx:=by
  rcases b.own x hx with h | h
  ·exact a.own x h
  ·exact .inr (K_e a.size h)
 rest:=a.rest.trans b.rest
theorem g_w {vs:Array Value}{G:Gh}{w:World}{h:a0_}{avs:List AV}(hg:Gam G w h)(hv:VL G w avs vs)(hn:avs.length<=n):
  SR n keep G w G w (Y0_ keep avs h) {tmps:=vs++Array.replicate (n-vs.size) undef,defers:=[]}:=by
 have hle:vs.size<=n:=by rw[<-hv.1];exact hn
 have env:∀(p:Nat->Bool)(s:Nat),V G w (lk s (C9_ p 0 avs)) ((vs++Array.replicate (n-vs.size) undef).getD s undef):=by
  intro p s
  rcases f_g p avs 0 s with e | ⟨_,e⟩
  ·rw[e];exact .top _
  ·simp only[Nat.sub_zero]at e
   obtain⟨v,hv',hV⟩:=hv.get e
   have hlt:=(K_4.1 hv').1
   have:(vs++Array.replicate (n-vs.size) undef).getD s undef=v:=by
    simp[L_9,hlt]
    have:=hv'
    simp[hlt]at this
    exact this
   rw[this];exact hV
 exact⟨hg,by simp;omega,rfl,λs _=>env keep s,λs _=>env _ s,Stp.refl G w⟩
def u_s (res:List h_u)(K:AV->a0_->Prop)(x:AX)(s:RS):Prop:=b2_ res K x s.st
theorem o_9 {f:FuncId}{fn:RFn}(hf:C_4 P keep false f=some fn){avs:List AV}(hn:avs.length<=fn.n){h:a0_}{K:AV->a0_->Prop}
  (hk:rvc P 0 (λ_ _ _=>False) fn.code ⟨none,false,Y0_ keep avs h⟩ (u_s fn.res K)):a6_ P f avs h K:=by
 unfold C_4 at hf
 split at hf
 ·rename_i fd hfd
  split at hf
  ·rename_i c hc
   split at hf
   ·rename_i ac res hac hres
    cases hf
    intro G w vs hg hv
    refine (callsIn_wide (n:=0)).1 (callsIn_of_wp_marks hfd hc trivial ?_)
    have sd:B_s P G w (λ_=>False) (λ_ _ _=>True) 0 (λ_ _ _=>False):=⟨λ_ _ _ _ _ _ _=>trivial,λ_ _ _ _ _ _ _ h=>h.elim⟩
    have r0:RSR fd.ntmps keep G w (λ_=>False) (λ_ _ _=>True) ⟨none,false,Y0_ keep avs h⟩ G w {tmps:=vs++Array.replicate (fd.ntmps-vs.size) undef,defers:=[]} []:=
     ⟨g_w hg hv hn,b_c.refl _ _ _,trivial,.inl rfl⟩
    have hw:=i_o (m:=0) sd c ac hac r0 hk
    rw[h_z rfl]at hw
    refine wpIn_mono hw ?_
    rintro e _ w' ⟨z,s,G',a0,ds,rfl,rfl,r,hK⟩
    have fin:b2_ res K .ret s.st->LeavesInM Fence.wide 0 P fd (wd a0 ds).tmps (λe w'=>∃v r h' G',e=.returned v/\K r h'/\Gam G' w' h'/\V G' w' r v/\Stp G w G' w') ds .returning w':=by
     intro hK
     simp only[b2_]at hK
     split at hK
     ·rename_i l hl
      rcases r.marks with rfl | ⟨-,D,rfl,fD,hD,hle⟩
      ·obtain⟨v,hrun,hV⟩:=t0_ (P:=P) r.sr hres hl
       exact⟨v,hrun,v,_,_,G',rfl,hK,r.sr.gam,hV,r.stp.stp (λ_ h=>h.elim)⟩
      ·obtain⟨g2,s2⟩:=Gam.turn r.sr.gam (o':=.deferred none) fD hD rfl rfl
       have sr2:SR fd.ntmps keep G' _ G' _ s.st a0:=r.sr.reput s2.keep g2
       obtain⟨v,hrun,hV⟩:=t0_ (P:=P) sr2 hres hl
       refine⟨by simp,.inl ⟨D,_,rfl,run_takeDeferred hD,v,hrun,v,_,_,G',rfl,hK,g2,hV,(r.stp.transNew s2 (λb hb=>hb▸hle)).stp (λ_ h=>h.elim)⟩⟩
     ·exact hK.elim
    cases z with
    | normal=>exact fin hK
    | ret=>exact fin hK
    | exit id=>exact hK.elim
   ·cases hf
  ·cases hf
 ·cases hf
def d_x (Kn:a0_->Prop)(Ks:AX->a0_->Prop):AX->RS->Prop
 | .exit _,_=>False
 | _,s=>s.q=false/\match s.j with
  | none=>Kn s.st.h
  | some x=>Ks x s.st.h
theorem l_g {f:FuncId}{fn:RFn}(hf:C_4 P keep true f=some fn) (hr:fn.res=[]) {cs:List AV} (hn:cs.length+1<=fn.n) {h:a0_} {Y:Yl} {Kn:a0_->Prop} {Ks:AX->a0_->Prop}
  (hk:∀l,rvc P l Y fn.code ⟨none,false,Y0_ keep (.raw (.func (.yield l) #[] #[]) :: cs) h⟩ (d_x Kn Ks)):v_p P f cs h Y Kn Ks:=by
 unfold C_4 at hf
 split at hf
 ·rename_i fd hfd
  split at hf
  ·rename_i c hc
   split at hf
   ·rename_i ac res hac hres
    cases hf
    subst hr
    intro m l rdy dn G w vs hy hg hv fl hl
    refine callsIn_of_wp_marks hfd hc trivial ?_
    have sd:B_s P G w (λb=>b=l) (λj G w=>r_d G w l/\w.heap[l]?=some (match j with | none=>rdy | some x=>dn x)) l Y:=by
     refine⟨λj G w G' w' h s=>⟨h.1.x (s.x (λ_=>False)),(s.frame l h.1.1 h.1.2.1).trans h.2⟩,λm avs h R G' w' vs' hY g v t s=>?_⟩
     obtain⟨fn,tmps,as,bd,h1,h2⟩:=hy m avs h R hY G' w' vs' g v t.1 t.2 s
     refine⟨fn,tmps,as,bd,h1,RoundIn.mono h2 ?_⟩
     rintro e w2 ⟨j,h',G2,he,hR,g2,s2,hl2⟩
     exact⟨j,h',G2,he,hR,g2,s2,t.1.x s2,hl2⟩
    have hvl:VL G w (.raw (.func (.yield l) #[] #[]) :: cs) (#[.func (.yield l) #[] #[]]++vs):=VL.app (cs:=[.raw (.func (.yield l) #[] #[])]) (vs:=#[.func (.yield l) #[] #[]]) ⟨rfl,λj c v h1 h2=>by
      cases j with
      | zero=>simp at h1 h2;subst h1;subst h2;exact .raw _
      | succ j=>simp at h1⟩ hv
    have r0:RSR fd.ntmps keep G w (λb=>b=l) (λj G w=>r_d G w l/\w.heap[l]?=some (match j with | none=>rdy | some x=>dn x)) ⟨none,false,Y0_ keep (.raw (.func (.yield l) #[] #[]) :: cs) h⟩ G w
      {tmps:=(#[.func (.yield l) #[] #[]]++vs)++Array.replicate (fd.ntmps-(#[Value.func (.yield l) #[] #[]]++vs).size) undef,defers:=[]} []:=
     ⟨g_w hg hvl (by simpa using hn),b_c.refl _ _ _,⟨fl,hl⟩,.inl rfl⟩
    have hw:=i_o (m:=m) sd c ac hac r0 (hk l)
    rw[h_z rfl]at hw
    refine wpIn_mono hw ?_
    rintro e _ w' ⟨z,s,G',a0,ds,rfl,rfl,r,hK⟩
    have fin:d_x Kn Ks .ret s->LeavesInM Fence.wide m P fd (wd a0 ds).tmps (λe w'=>(∃v,e=.returned v)/\∃(h':a0_)(G':Gh),Gam G' w' h'/\b_c (λb=>b=l) G w G' w' /\
       ((w'.heap[l]?=some rdy/\Kn h')\/∃x,w'.heap[l]?=some (dn x)/\Ks x h')) ds .returning w':=by
     rintro⟨hq,hK⟩
     have hds:ds=[]:=by
      rcases r.marks with h | ⟨h,-⟩
      ·exact h
      ·rw[hq]at h;cases h
     subst hds
     obtain⟨v,hrun,-⟩:=t0_ (P:=P) r.sr hres (l:=[]) rfl
     refine⟨v,hrun,⟨v,rfl⟩,s.st.h,G',r.sr.gam,r.stp,?_⟩
     have hside:=r.side
     cases hj:s.j with
     | none=>rw[hj]at hside hK;exact .inl ⟨hside.2,hK⟩
     | some x=>rw[hj]at hside hK;exact .inr ⟨x,hside.2,hK⟩
    cases z with
    | normal=>exact fin hK
    | ret=>exact fin hK
    | exit id=>exact hK.elim
   ·cases hf
  ·cases hf
 ·cases hf
end
section
variable {P:Program} {l l':Nat} {Y:Yl}
def kR (j:Option AX)(q:Bool)(K:AX->RS->Prop):AX->St->Prop:=λx st=>K x ⟨j,q,st⟩
def D_o (P:Program)(l:Nat)(Y:Yl)(b:RC)(K:AX->RS->Prop):AX->RS->Prop
 | .normal,s=>rvc P l Y b s K
 | .exit id,s=>K (.exit id) s
 | .ret,s=>K .ret s
def D_p (id:Nat)(K:AX->RS->Prop):AX->RS->Prop
 | .normal,s=>K .normal s
 | .exit id',s=>if id'=id then K .normal s else K (.exit id') s
 | .ret,s=>K .ret s
def A_g (P:Program)(l:Nat)(Y:Yl)(v:AV)(a b:RC)(s:RS)(K:AX->RS->Prop):Prop:=
 match v with
 | .bool t=>(t=true->rvc P l Y a s K)/\(t=false->rvc P l Y b s K)
 | _=>False
def s_o (I:Nat->Env->a0_->Prop)(m:Nat)(K:AX->RS->Prop):AX->RS->Prop
 | .normal,s=>∃m',m'<m/\s.j=none/\s.q=false/\s.st.R=[]/\I m' s.st.L s.st.h
 | .exit id,s=>K (.exit id) s
 | .ret,s=>K .ret s
def rY (P:Program)(l:Nat)(Y:Yl)(d:Dst)(x:Opd)(as:List Opd)(post:List AO)(K:AX->RS->Prop):St->Prop:=λs1=>
 s1.get x=.raw (.func (.yield l) #[] #[])/\Y (as.map s1.get) s1.h λj h'=>f1_ P post {s1.put d (.bool j.isNone) with h:=h'} (D_s (kR j false K))
theorem E_c (j:Option AX)(q:Bool)(K:AX->RS->Prop)(x:AX)(st:St):kR j q K x st=K x ⟨j,q,st⟩:=Eq.trans rfl rfl
theorem w_c (a:AC)(j:Option AX)(q:Bool)(st:St)(K:AX->RS->Prop):rvc P l Y (.calm a) ⟨j,q,st⟩ K=vc P a st (kR j q K):=Eq.trans rfl rfl
theorem r_4 (a:AC)(j:Option AX)(st:St)(K:AX->RS->Prop):rvc P l Y (.plain a) ⟨j,false,st⟩ K=vc P a st (kR j false K):=by
 show (false=false/\vc P a st (kR j false K))=_
 simp only[true_and]
theorem z_w (a b:RC)(s:RS)(K:AX->RS->Prop):rvc P l Y (.seq a b) s K=rvc P l Y a s (D_o P l Y b K):=by
 simp only[rvc]
 congr 1
 funext x st'
 cases x<;>rfl
theorem r_5 (id:Nat)(b:RC)(s:RS)(K:AX->RS->Prop):rvc P l Y (.block id b) s K=rvc P l Y b s (D_p id K):=by
 simp only[rvc]
 congr 1
 funext x st'
 cases x<;>rfl
theorem w_b (c:Opd)(a b:RC)(j:Option AX)(q:Bool)(st:St)(K:AX->RS->Prop):rvc P l Y (.cond c a b) ⟨j,q,st⟩ K=A_g P l Y (st.get c) a b ⟨j,q,st⟩ K:=by
 show (match st.get c with
  | .bool t=>(t=true->rvc P l Y a ⟨j,q,st⟩ K)/\(t=false->rvc P l Y b ⟨j,q,st⟩ K)
  | _=>False)=A_g P l Y (st.get c) a b ⟨j,q,st⟩ K
 unfold A_g
 generalize st.get c=v
 cases v<;>rfl
def q_7 (P:Program)(v:AV)(want:Bool)(d1 d2:Dst)(x:Opd)(bs:List Int)(r:List BO)(st:St)(k:St->Prop):Prop:=
 match v with
 | .bool b=>(b=want->(st.put d1 .top).get x=.bool b/\t7_ P r ((st.put d1 .top).put d2 (s_8 bs)) k)/\(b=(!want)->(st.put d1 (.tup [])).get x=.bool b/\t7_ P r ((st.put d1 (.tup [])).put d2 (.tup [])) k)
 | .tup cs=>(st.put d1 (.tup [])).get x=.tup cs/\t7_ P r ((st.put d1 (.tup [])).put d2 (.tup [])) k
 | _=>False
def kBO (P:Program)(r:List BO)(k:St->Prop):St->Prop:=λs=>t7_ P r s k
theorem C_w (r:List BO)(k:St->Prop)(s:St):kBO P r k s=t7_ P r s k:=Eq.trans rfl rfl
def C_p (j:Option AX)(q:Bool)(K:AX->RS->Prop):St->Prop:=λst'=>K .normal ⟨j,q,{st' with R:=[]}⟩
theorem w_8 (j:Option AX)(q:Bool)(K:AX->RS->Prop)(L R:Env)(h:a0_):C_p j q K ⟨L,R,h⟩=K .normal ⟨j,q,⟨L,[],h⟩⟩:=Eq.trans rfl rfl
theorem w_a (l:List BO)(j:Option AX)(q:Bool)(st:St)(K:AX->RS->Prop):rvc P l' Y (.lits l) ⟨j,q,st⟩ K=t7_ P l st (C_p j q K):=Eq.trans rfl rfl
theorem r_s (st:St)(k:St->Prop):t7_ P [] st k=k st:=Eq.trans rfl rfl
theorem v_5 (o:AO)(r:List BO)(st:St)(k:St->Prop):t7_ P (.op o :: r) st k=f1_ P [o] st (kBO P r k):=Eq.trans rfl rfl
theorem r_t (d1 d2:Dst)(bs:List Int)(r:List BO)(st:St)(k:St->Prop):t7_ P (.lit d1 d2 bs none :: r) st k=t7_ P r ((st.put d1 .top).put d2 (s_8 bs)) k:=Eq.trans rfl rfl
theorem o_w (d1 d2:Dst)(bs:List Int)(x:Opd)(want:Bool)(r:List BO)(st:St)(k:St->Prop):t7_ P (.lit d1 d2 bs (some (x,want)) :: r) st k=q_7 P (st.get x) want d1 d2 x bs r st k:=by
 first
  | (simp only[t7_,q_7];done)
  | (simp only[t7_,q_7];generalize st.get x=v;cases v<;>rfl)
theorem y_t (d1 d2:Dst)(x:Opd)(bs:List Int)(r:List BO)(st:St)(k:St->Prop):q_7 P (.bool true) true d1 d2 x bs r st k=((st.put d1 .top).get x=.bool true/\t7_ P r ((st.put d1 .top).put d2 (s_8 bs)) k):=by simp[q_7]
theorem y_w (d1 d2:Dst)(x:Opd)(bs:List Int)(r:List BO)(st:St)(k:St->Prop):q_7 P (.bool false) false d1 d2 x bs r st k=((st.put d1 .top).get x=.bool false/\t7_ P r ((st.put d1 .top).put d2 (s_8 bs)) k):=by simp[q_7]
theorem y_u (d1 d2:Dst)(x:Opd)(bs:List Int)(r:List BO)(st:St)(k:St->Prop):q_7 P (.bool true) false d1 d2 x bs r st k=((st.put d1 (.tup [])).get x=.bool true/\t7_ P r ((st.put d1 (.tup [])).put d2 (.tup [])) k):=by simp[q_7]
theorem y_v (d1 d2:Dst)(x:Opd)(bs:List Int)(r:List BO)(st:St)(k:St->Prop):q_7 P (.bool false) true d1 d2 x bs r st k=((st.put d1 (.tup [])).get x=.bool false/\t7_ P r ((st.put d1 (.tup [])).put d2 (.tup [])) k):=by simp[q_7]
theorem v_u (cs:List AV)(want:Bool)(d1 d2:Dst)(x:Opd)(bs:List Int)(r:List BO)(st:St)(k:St->Prop):q_7 P (.tup cs) want d1 d2 x bs r st k=((st.put d1 (.tup [])).get x=.tup cs/\t7_ P r ((st.put d1 (.tup [])).put d2 (.tup [])) k):=Eq.trans rfl rfl
theorem l_m (b:RC)(K:AX->RS->Prop)(s:RS):D_o P l Y b K .normal s=rvc P l Y b s K:=Eq.trans rfl rfl
theorem s_m (b:RC)(K:AX->RS->Prop)(id:Nat)(s:RS):D_o P l Y b K (.exit id) s=K (.exit id) s:=Eq.trans rfl rfl
theorem w_r (b:RC)(K:AX->RS->Prop)(s:RS):D_o P l Y b K .ret s=K .ret s:=Eq.trans rfl rfl
theorem l_o (id:Nat)(K:AX->RS->Prop)(s:RS):D_p id K .normal s=K .normal s:=Eq.trans rfl rfl
theorem s_q (id id':Nat)(K:AX->RS->Prop)(s:RS):D_p id K (.exit id') s=if id'=id then K .normal s else K (.exit id') s:=Eq.trans rfl rfl
theorem w_t (id:Nat)(K:AX->RS->Prop)(s:RS):D_p id K .ret s=K .ret s:=Eq.trans rfl rfl
theorem i_w (I:Nat->Env->a0_->Prop)(m:Nat)(K:AX->RS->Prop)(L:Env)(h:a0_):s_o I m K .normal ⟨none,false,⟨L,[],h⟩⟩=∃m',m'<m/\I m' L h:=by simp[s_o]
theorem p_g (I:Nat->Env->a0_->Prop)(m:Nat)(K:AX->RS->Prop)(id:Nat)(s:RS):s_o I m K (.exit id) s=K (.exit id) s:=Eq.trans rfl rfl
theorem s_n (I:Nat->Env->a0_->Prop)(m:Nat)(K:AX->RS->Prop)(s:RS):s_o I m K .ret s=K .ret s:=Eq.trans rfl rfl
theorem z_v (pre:List AO)(d:Dst)(x:Opd)(as:List Opd)(post:List AO)(st:St)(K:AX->RS->Prop):
  rvc P l Y (.yop pre d x as post) ⟨none,false,st⟩ K=f1_ P pre st (rY P l Y d x as post K):=by
 simp only[rvc,true_and]
 rfl
theorem D_7 (d:Dst)(x:Opd)(as:List Opd)(post:List AO)(K:AX->RS->Prop)(s1:St):rY P l Y d x as post K s1 =
  (s1.get x=.raw (.func (.yield l) #[] #[])/\Y (as.map s1.get) s1.h λj h'=>f1_ P post {s1.put d (.bool j.isNone) with h:=h'} (D_s (kR j false K))):=Eq.trans rfl rfl
theorem u_r (res:List h_u)(K:AV->a0_->Prop)(x:AX)(j:Option AX)(q:Bool)(st:St):u_s res K x ⟨j,q,st⟩=b2_ res K x st:=Eq.trans rfl rfl
theorem o_v:∀(l:List BO){st:St}{k k':St->Prop},(∀s,k s->k' s)->t7_ P l st k->t7_ P l st k':=by
 intro l
 induction l with
 | nil=>intro st k k' hk h;exact hk _ h
 | cons o r ih=>
  intro st k k' hk h
  cases o with
  | op o=>exact O8_ [o] (λs hs=>ih hk hs) h
  | lit d1 d2 bs gd=>
   cases gd with
   | none=>exact ih hk h
   | some g=>
    obtain⟨x,want⟩:=g
    simp only[t7_]at h ⊢
    split
    ·rename_i b hb
     rw[hb]at h
     exact⟨λe=>⟨(h.1 e).1,ih hk (h.1 e).2⟩,λe=>⟨(h.2 e).1,ih hk (h.2 e).2⟩⟩
    ·rename_i cs hb
     rw[hb]at h
     exact⟨h.1,ih hk h.2⟩
    ·rename_i h1 h2
     split at h
     ·rename_i b hb;exact absurd hb (h1 b)
     ·rename_i cs hb;exact absurd hb (h2 cs)
     ·exact h
theorem v_8:∀(c:RC){s:RS}{K K':AX->RS->Prop},(∀x s,K x s->K' x s)->(∀avs h (R R':Option AX->a0_->Prop),(∀j h,R j h->R' j h)->Y avs h R->Y avs h R')->rvc P l Y c s K->rvc P l Y c s K':=by
 intro c
 induction c with
 | calm a=>intro s K K' hk hY h;exact J3_ a (λx st=>hk _ _) h
 | plain a=>intro s K K' hk hY h;exact⟨h.1,J3_ a (λx st=>hk _ _) h.2⟩
 | seq a b iha ihb=>
  intro s K K' hk hY h
  refine iha ?_ hY h
  intro x s' hs
  cases x with
  | normal=>exact ihb hk hY hs
  | exit id=>exact hk _ _ hs
  | ret=>exact hk _ _ hs
 | cond c a b iha ihb=>
  intro s K K' hk hY h
  simp only[rvc]at h ⊢
  split
  ·rename_i t ht
   rw[ht]at h
   exact⟨λe=>iha hk hY (h.1 e),λe=>ihb hk hY (h.2 e)⟩
  ·rename_i hne
   split at h
   ·rename_i t ht;exact absurd ht (hne t)
   ·exact h
 | block id b ih=>
  intro s K K' hk hY h
  refine ih ?_ hY h
  intro x s' hs
  cases x with
  | normal=>exact hk _ _ hs
  | exit id'=>
   simp only at hs ⊢
   split at hs
   ·rename_i e;rw[if_pos e];exact hk _ _ hs
   ·rename_i e;rw[if_neg e];exact hk _ _ hs
  | ret=>exact hk _ _ hs
 | loop b ih=>
  rintro s K K' hk hY ⟨I,h0,hI⟩
  refine⟨I,h0,λm s hs=>ih ?_ hY (hI m s hs)⟩
  intro x s' hs
  cases x with
  | normal=>exact hs
  | exit id=>exact hk _ _ hs
  | ret=>exact hk _ _ hs
 | yop pre d x as post=>
  rintro s K K' hk hY ⟨h1,h2,h⟩
  refine⟨h1,h2,O8_ pre ?_ h⟩
  rintro s1 ⟨hx,hy⟩
  refine⟨hx,hY _ _ _ _ (λj h' hv=>O8_ post (λs2 hs=>hk _ _ hs) hv) hy⟩
 | lits l=>intro s K K' hk hY h;exact o_v l (λs hs=>hk _ _ hs) h
 | range g ps aa ab=>
  rintro s K K' hk hY ⟨h1,gf,cs,Kn,Ks,h2,h3,h4,h5,h6⟩
  exact⟨h1,gf,cs,Kn,Ks,h2,h3,h4,λh' hn=>hk _ _ (h5 h' hn),λx h' hs=>⟨(h6 x h' hs).1,hk _ _ (h6 x h' hs).2⟩⟩
theorem v_9 (hY:∀avs h (R R':Option AX->a0_->Prop),(∀j h,R j h->R' j h)->Y avs h R->Y avs h R')(I:Nat->Env->a0_->Prop)(m:Nat){b:RC}{L:Env}{h:a0_}{K:AX->RS->Prop}(h0:I m L h)
  (step:∀m L h,I m L h->rvc P l Y b ⟨none,false,⟨L,[],h⟩⟩ (s_o I m K)):rvc P l Y (.loop b) ⟨none,false,⟨L,[],h⟩⟩ K:=by
 refine⟨λm s=>s.j=none/\s.q=false/\s.st.R=[]/\I m s.st.L s.st.h,⟨m,_,Wk.refl _,rfl,rfl,rfl,h0⟩,λm s hI=>?_⟩
 obtain⟨j,q,L,R,h⟩:=s
 obtain⟨h1,h2,h3,hI⟩:=hI
 simp only at h1 h2 h3 hI
 subst h1;subst h2;subst h3
 refine v_8 b ?_ hY (step m L h hI)
 intro x s hs
 cases x with
 | normal=>obtain⟨m',h1,h2,h3,h4,h5⟩:=hs;exact⟨m',s.st,h1,Wk.refl _,h2,h3,h4,h5⟩
 | exit id=>exact hs
 | ret=>exact hs
theorem q_g (aa ab:AC)(ps:List Nat)(L:Env):∀avs h (R R':Option AX->a0_->Prop),(∀j h,R j h->R' j h)->g_8 P aa ab ps L avs h R->g_8 P aa ab ps L avs h R':=by
 rintro avs h R R' hR ⟨h1,h2⟩
 refine⟨h1,J3_ aa ?_ h2⟩
 rintro x s ⟨hx,hb⟩
 exact⟨hx,J3_ ab (λx s' hs=>hR _ _ hs) hb⟩
def kY (R:Option AX->a0_->Prop):AX->St->Prop
 | .normal,s=>R none s.h
 | .exit id,s=>R (some (.exit id)) s.h
 | .ret,s=>R (some .ret) s.h
def kA (P:Program)(ab:AC)(R:Option AX->a0_->Prop):AX->St->Prop
 | .normal,s=>vc P ab s (kY R)
 | _,_=>False
theorem x_s (aa ab:AC)(ps:List Nat)(L:Env)(avs:List AV)(h:a0_)(R:Option AX->a0_->Prop)(hl:avs.length=ps.length):g_8 P aa ab ps L avs h R=vc P aa ⟨A_z (ps.zip avs) L,[],h⟩ (kA P ab R):=by
 unfold g_8
 rw[eq_iff_iff]
 constructor
 ·rintro⟨_,h⟩
  refine J3_ aa ?_ h
  rintro x s ⟨rfl,hb⟩
  refine J3_ ab ?_ hb
  intro x s' hs
  cases x<;>exact hs
 ·intro h
  refine⟨hl,J3_ aa ?_ h⟩
  intro x s hb
  cases x with
  | normal=>
   refine⟨rfl,J3_ ab ?_ hb⟩
   intro x s' hs
   cases x<;>exact hs
  | exit id=>exact hb.elim
  | ret=>exact hb.elim
theorem t_n (ab:AC)(R:Option AX->a0_->Prop)(s:St):kA P ab R .normal s=vc P ab s (kY R):=Eq.trans rfl rfl
theorem t_f (R:Option AX->a0_->Prop)(s:St):kY R .normal s=R none s.h:=Eq.trans rfl rfl
theorem A_w (R:Option AX->a0_->Prop)(id:Nat)(s:St):kY R (.exit id) s=R (some (.exit id)) s.h:=Eq.trans rfl rfl
theorem C_o (R:Option AX->a0_->Prop)(s:St):kY R .ret s=R (some .ret) s.h:=Eq.trans rfl rfl
theorem r_3 {g:Opd}{ps:List Nat}{aa ab:AC}{j:Option AX}{L R:Env}{h:a0_}{K:AX->RS->Prop}{gf:FuncId}{cs:List AV}{Kn:a0_->Prop}{Ks:AX->a0_->Prop}
  (hg:St.get ⟨L,R,h⟩ g=.clo gf [] cs) (hf:f2_ P gf=true) (hit:v_p P gf cs h (g_8 P aa ab ps L) Kn Ks) (hn:∀h',Kn h'->K .normal ⟨j,true,⟨L,[],h'⟩⟩) (hs:∀x h',Ks x h'->x≠.normal/\K x ⟨j,true,⟨L,[],h'⟩⟩):
  rvc P l Y (.range g ps aa ab) ⟨j,false,⟨L,R,h⟩⟩ K:=
 ⟨rfl,gf,cs,Kn,Ks,hg,hf,hit,hn,hs⟩
attribute [go_sem] C_w w_8 w_a r_s v_5 r_t o_w y_t y_w y_u y_v v_u E_c w_c r_4 z_w r_5 w_b l_m s_m w_r l_o s_q w_t i_w p_g s_n z_v D_7 u_r t_n t_f A_w C_o
end
end Glb
