/-
  A library of its own.
-/
import Derived.Test.YtdeiamnhnfmilaaGreatGlbFlow
import Derived.Test.YtdeiamnhnfmilaaGreatGlbKitB
import Derived.Test.YtdeiamnhnfmilaaGreatGlbLogA
set_option linter.unusedSimpArgs false
set_option linter.unusedVariables false
set_option maxRecDepth 10000
set_option maxHeartbeats 4000000
open Nat (reduceAdd reduceDiv reduceEqDiff reduceLeDiff reduceMod reducePow)
namespace Glb
open Go
def x_4 (d:D)(a:AV):Prop:=∀(F:Nat->Prop)(h:a0_),Rd F h d a
theorem p_a (sz:Nat):x_4 (.sl sz []) .nils:=λ_ _=>Rd.nils sz
theorem i_t (l:List Int):x_4 (b3_ l) (k0_ l):=λ_ _=>g6_ _ _ l
def D_k (P:Program)(f:FuncId):Prop:=f2_ P f=true/\∀(l p:List Int)(a b:AV),x_4 (b3_ l) a->x_4 (b3_ p) b->l.length<=2^41->p.length<=2^41->B_2 P f [a,b] (k0_ (l++num p.length++p))
theorem f_y.fp {P:Program}{f:FuncId}(hc:f_y P f):D_k P f:=⟨hc.1,λl p a b ha hb h1 h2=>y_e (d:=b3_ _) λh=>(hc.2 nof h l p _ _ (ha _ _) (hb _ _) h1 h2).mono λ_ _ hk=>⟨hk.1,hk.2.2⟩⟩
def f_x (P:Program)(f:FuncId):Prop:=f2_ P f=true/\∀x:e3_,x.few (2^33)->B_2 P f [.agg x.v] (k0_ x.bytes)
theorem V1_.fp {P:Program}{f:FuncId}(hc:V1_ P f):f_x P f:=⟨hc.1,λx hx=>y_e (d:=b3_ _) λh=>(hc.2 nof h x _ (W3_ _ _ x) hx.1 hx.2.1 hx.2.2).mono λ_ _ hk=>⟨hk.1,hk.2.2⟩⟩
def D_e (P:Program)(f:FuncId):Prop:=f2_ P f=true/\∀(l:Log)(i:Int),E3_ l->B_2 P f [.agg l.v,.int .i64 i] (.tup [.int .i64 (l.term i),.bool (l.has i)])
theorem R3_.p {P:Program}{f:FuncId}(hc:R3_ P f):D_e P f:=⟨hc.1,λl i hl h=>hc.2 nof h l _ i (f_9 _ _ l) hl⟩
def j2_.send (w:j2_)(id:Int)(x:d7_)(commit round:Int):Msg:=
 if w.next<=x.log.base then ⟨5,id,w.node,x.group,x.term,x.log.base,x.log.bterm,0,round,0,0,0,0,0,false,[],num x.conf.bytes.length++x.conf.bytes++num x.snap.length++x.snap⟩
 else ⟨3,id,w.node,x.group,x.term,w.next-1,x.log.term (w.next-1),commit,round,0,0,0,0,0,false,x.log.slice w.next 8,[]⟩
def d7_.fit (x:d7_):Prop:=E3_ x.log/\x.conf.few (2^33)/\x.snap.length<=2^33
def m_9 (P:Program)(f:FuncId):Prop:=
 f2_ P f=true/\∀(h:a0_)(w:j2_)(id:Int)(x:d7_)(commit round:Int),w.placed->x.fit->
  a6_ P f [.agg w.cells,.int .i64 id,.agg x.v,.int .i64 commit,.int .i64 round] h λr h'=>∃e d,r=.agg ((w.send id x commit round).cells e d) /\
   Own (b7_ (w.send id x commit round).es) (λk=>h.length<=k) h' e/\Own (b3_ (w.send id x commit round).data) (λk=>h.length<=k) h' d/\Ext nof h h'
theorem n_p {d : D} {lo : Nat} {H H' j : a0_} {r : AV} (ho : Own d (λm => H.length <= m) (H ++ j) r) (hl : H'.length = H.length) (hlo : lo <= H.length) : Own d (λm => lo <= m) (H' ++ j) r :=
 Own.mono d (λm hm => K_e hlo hm) (λm hm x hx => by rw [K_a (by omega)] at hx ⊢; rw [hl]; exact hx) r ho
theorem a_8 (x:e3_):x.bytes.length=24+8*(x.old.length+x.new.length+x.learners.length):=by
 simp only[e3_.bytes,J_z,c7_,f3_];omega
theorem j_3 {P : Program} {f p b t s : FuncId} (hf : Is P f (E1_ p b t s)) (hp : f_x P p) (hb : f_y P b) (ht : D_e P t) (hs : L0_ P s) : m_9 P f := by
 refine ⟨hf.2, λh w id x commit round hw hx => a4_ hf.1 (J_y rfl) ?_⟩
 show vc P (E1_ p b t s).code ⟨[(0, .agg w.cells), (1, .int .i64 id), (2, .agg x.v), (3, .int .i64 commit), (4, .int .i64 round)], [], h⟩ (b2_ (E1_ p b t s).res _)
 have hbb := hb.fp
 have e1 := hp.2 x.conf hx.2.1
 have e2 := ht.2 x.log (w.next - 1) hx.1
 simp only [Log.v_eq, e3_.v_eq] at e1 e2
 have ew : IntKind.i64.wrap (w.next - 1) = w.next - 1 := a7_ (by obtain ⟨⟨_, h1, _⟩, _, h2, _⟩ := hw; omega)
 simp only [E1_, d7_.v_eq, j2_.cells, go_sem, reduceEqDiff, reduceAdd]
 by_cases c : w.next <= x.log.base
 ·simp only [go_sem, reduceEqDiff, reduceAdd, reduceLeDiff, decide_eq_true c]
  refine e1.use hp.1 ?_
  simp only [go_sem, reduceEqDiff, reduceAdd, reduceLeDiff, reducePow, reduceDiv, reduceMod, decide_true]
  refine (hbb.2 [] x.conf.bytes .nils (k0_ x.conf.bytes) (p_a 1) (i_t _) (by simp) (by have := hx.2.1; rw [a_8]; simp only [e3_.few] at this; omega)).use hb.1 ?_
  simp only [go_sem, reduceEqDiff, reduceAdd, reduceLeDiff, reducePow, reduceDiv, reduceMod, decide_true]
  refine a1_ ⟨hb.1, hb.2 nof _ _ x.snap _ _ (g6_ _ _ _) (g6_ _ _ _) (by have := hx.2.1; simp only [J_z, c7_, a_8]; simp only [e3_.few] at this; simp; omega) (by have := hx.2.2; omega)⟩ ?_
  rintro r h2 ⟨ro, _, rx⟩
  obtain ⟨j, rfl⟩ := rx.junk
  simp only [go_sem, reduceEqDiff, reduceAdd, reduceLeDiff, reducePow, reduceDiv, reduceMod, decide_true, ro.scalar, b5_ ro.scalar]
  have hm : w.send id x commit round = ⟨5, id, w.node, x.group, x.term, x.log.base, x.log.bterm, 0, round, 0, 0, 0, 0, 0, false, [], num x.conf.bytes.length ++ x.conf.bytes ++ num x.snap.length ++ x.snap⟩ := if_pos c
  rw [hm]
  exact ⟨.nils, r, rfl, Own.nils 3, n_p ro (by simp) (by simp), (Ext.b3 _ _ _).tr (Ext.app _ _ _)⟩
 ·simp only [go_sem, reduceEqDiff, reduceAdd, reduceLeDiff, decide_eq_false c]
  rw [ew]
  refine e2.use ht.1 ?_
  simp only [go_sem, reduceEqDiff, reduceAdd, reduceLeDiff, ew]
  refine a1_ ⟨hs.1, hs.2 nof _ x.log _ _ _ (by simpa only [Log.v_eq] using f_9 _ _ x.log) hx.1⟩ ?_
  rintro r h2 ⟨ro, _, rx⟩
  obtain ⟨j, rfl⟩ := rx.junk
  simp only [go_sem, reduceEqDiff, reduceAdd, reduceLeDiff, reducePow, reduceDiv, reduceMod, decide_true, ro.scalar, b5_ ro.scalar]
  have hm : w.send id x commit round = ⟨3, id, w.node, x.group, x.term, w.next - 1, x.log.term (w.next - 1), commit, round, 0, 0, 0, 0, 0, false, x.log.slice w.next 8, []⟩ := if_neg c
  rw [hm]
  exact ⟨r, .nils, rfl, n_p ro (by simp) (by simp), Own.nils 1, (Ext.b3 _ _ _).tr (Ext.app _ _ _)⟩
end Glb
