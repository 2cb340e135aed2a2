/-
  A library of its own, for whatever program: functions with one deferred call.
-/
import Derived.Test.YtdeiamnhnfmilaaGreatGlbInA
import Derived.DefersIn
set_option linter.unusedSimpArgs false
set_option linter.unusedVariables false
namespace Glb
open Go
inductive DC where
 | seq (a : AC) (d : DC)
 | defer (ops : List AO) (g : FuncId) (args : List Opd) (rest : AC)
structure DFn where
 n : Nat
 keep : Nat -> Bool
 code : DC
 res : List ARes
section
variable {n : Nat} {keep : Nat -> Bool} {P : Program}
def splitD (P : Program) (n : Nat) (keep : Nat -> Bool) (ops : Array Oper) : List Oper -> Option (List AO × FuncId × List Opd)
 | [] => none
 | o :: r => match o.op with
  | .defer { callee := .value (.func g), args, .. } => match r, o.guard, o.dst with
   | [], none, none => some ([], g, args.toList.map (cd keep))
   | _, _, _ => none
  | _ => match cAO P n keep ops o, splitD P n keep ops r with
   | some a, some (pre, g, as) => some (a :: pre, g, as)
   | _, _ => none
def headD (P : Program) (n : Nat) (keep : Nat -> Bool) : Code -> Option (List AO × FuncId × List Opd)
 | .region _ ops false => splitD P n keep ops ops.toList
 | _ => none
def cDC (P : Program) (n : Nat) (keep : Nat -> Bool) : Code -> Option DC
 | .seq a b => match headD P n keep a with
  | some (pre, g, as) => if calm b then (cC P n keep b).map (.defer pre g as) else none
  | none => match cC P n keep a, cDC P n keep b with
   | some x, some d => some (.seq x d)
   | _, _ => none
 | _ => none
def cDFn (P : Program) (keep : Nat -> Bool) (f : FuncId) : Option DFn :=
 match P.funcs[f]? with
 | some fn => match fn.body with
  | some c => match cDC P fn.ntmps keep c, cRes P keep fn.results.toList with
   | some dc, some res => some ⟨fn.ntmps, keep, dc, res⟩
   | _, _ => none
  | none => none
 | none => none
def IsD (P : Program) (f : FuncId) (c : DFn) : Prop := isFn P f = true /\ cDFn P c.keep f = some c
def DCalls (P : Program) (f : FuncId) (avs : List AV) (h : AHeap) (K : AV -> AHeap -> Prop) : Prop :=
 ∀ (G : Gh) (w : World) (vs : Array Value), Gam G w h -> VL G w avs vs -> ∀ (m : Nat) (u : FrameMode), CallsDIn Fence.wide m P f vs u w fun e u' w' => u' = u /\
  ∃ v r h' G', e = .returned v /\ K r h' /\ Gam G' w' h' /\ V G' w' r v /\ Stp G w G' w'
theorem dcall_sound {f : FuncId} {fn : AFn} (hf : cFn P keep f = some fn) {avs : List AV} (hn : avs.length <= fn.n) {h : AHeap} {K : AV -> AHeap -> Prop}
  (hk : vc P fn.code (initSt keep avs h) (atEnd fn.res K)) : DCalls P f avs h K := by
 unfold cFn at hf
 split at hf
 ·rename_i fd hfd
  split at hf
  ·rename_i c hc
   split at hf
   ·rename_i ac res hac hres
    cases hf
    intro G w vs hg hv m u
    refine callsDIn_of_wp hfd hc trivial ?_
    refine wpIn_wide.2 (wp_mono (vc_sound c ac hac (init_sr hg hv hn) hk) ?_)
    intro e a w' hp
    have fin : ∀ {G' st'}, SR fd.ntmps keep G w G' w' st' a -> atEnd res K .ret st' -> a.defers = [] /\ ∃ v, (results fd a.tmps).run P w' = .ok v w' /\
      ∃ v0 r h' G', Ending.returned v = .returned v0 /\ K r h' /\ Gam G' w' h' /\ V G' w' r v0 /\ Stp G w G' w' := by
     intro G' st' sr' hK
     simp only [atEnd] at hK
     split at hK
     ·rename_i l hl
      obtain ⟨v, hrun, hV⟩ := results_sound (P := P) sr' hres hl
      exact ⟨sr'.defers, v, hrun, v, _, _, G', rfl, hK, sr'.gam, hV, sr'.stp⟩
     ·exact hK.elim
    cases e with
    | normal => obtain ⟨G', st', sr', hK⟩ := hp; exact fin sr' hK
    | ret => obtain ⟨G', st', sr', hK⟩ := hp; exact fin sr' hK
    | exit id => obtain ⟨G', st', sr', hK⟩ := hp; exact hK.elim
    | goto l => exact hp.elim
    | panic c => exact hp.elim
    | outgrown => exact hp.elim
   ·cases hf
  ·cases hf
 ·cases hf
def dvc (P : Program) : DC -> St -> (FuncId -> List AV -> AX -> St -> Prop) -> Prop
 | .seq a d, st, K => vc P a st fun x s => x = .normal /\ dvc P d s K
 | .defer ops g args rest, st, K => vcOps P ops st fun s => vc P rest { s with R := [] } (K g (args.map s.get))
def dcall (g : FuncId) (vs : Array Value) : Deferred := { target := .fn (.func g) #[], args := vs }
def DPost (n : Nat) (keep : Nat -> Bool) (G0 : Gh) (w0 : World) (K : FuncId -> List AV -> AX -> St -> Prop) (e : Exit) (a : Act) (w : World) : Prop :=
 ∃ (x : AX) (st : St) (G : Gh) (a0 : Act) (g : FuncId) (avs : List AV) (vs : Array Value), e = x.ex /\ a = wd a0 [dcall g vs] /\ SR n keep G0 w0 G w st a0 /\ VL G w avs vs /\ K g avs x st
variable {G0 : Gh} {w0 : World} {m : Nat}
theorem splitD_sound {ops : Array Oper} {Q : Exit -> Act -> World -> Prop} {K : List AO × FuncId × List Opd -> Prop} {k : FuncId -> List AV -> St -> Prop}
  (hn : ∀ G' w' st' a' g avs vs, SR n keep G0 w0 G' w' st' a' -> VL G' w' avs vs -> k g avs st' -> wpListIn Fence.wide m P ops Q [] (wd a' [dcall g vs]) w') :
  ∀ (l : List Oper) {pre g as} (_ : splitD P n keep ops l = some (pre, g, as)) {G w st a} (_ : SR n keep G0 w0 G w st a) (_ : vcOps P pre st fun s => k g (as.map s.get) s), wpListIn Fence.wide m P ops Q l (wd a []) w := by
 intro l
 induction l with
 | nil => intro pre g as h; simp [splitD] at h
 | cons o r ih =>
  intro pre g as h G w st a sr hk
  unfold splitD at h
  split at h
  ·rename_i g' args tys hop
   split at h
   ·rename_i hgd hdst
    cases h
    simp only [vcOps] at hk
    unfold wpListIn
    rw [if_pos (by simp [Region.wanted, hgd])]
    refine ⟨fun f _ => trivial, ?_⟩
    rw [wd_eval]
    have hrun : (o.semAt Fence.wide.round a.eval).run P w = .ok (.defer (dcall g (args.map a.eval))) w := by
     have e1 : o.semAt Fence.wide.round a.eval = execOp a.eval o := rfl
     rw [e1]
     obtain ⟨dst, op, type, pos, after, guard⟩ := o
     have hop' : op = _ := hop
     subst hop'
     simp [execOp, resolve, Act.eval, Deferred.ofValue, Sem.run_pure, dcall]
    rw [hrun, Oper.uponIn_defer, hdst]
    refine hn G w st a g (args.toList.map (cd keep) |>.map st.get) (args.map a.eval) sr ⟨by simp, fun j c v hc hv => VL.map sr.stands args.toList j c v (by simpa using hc) (by simpa using hv)⟩ hk
   ·cases h
  ·split at h
   ·rename_i ao pre' g' as' hao hsp
    cases h
    have : vcOps P [ao] st (fun st' => vcOps P pre' st' fun s => k g (as.map s.get) s) := hk
    exact vcOps_in (m := m) (ops := ops) (Q := Q) (r := r) open_wide [] (n := n) (keep := keep) (G0 := G0) (w0 := w0) (k := fun st' => vcOps P pre' st' fun s => k g (as.map s.get) s) (fun G2 w2 st2 a2 sr2 hk2 => ih hsp sr2 hk2) [o] [ao] sr (by simp only [cAOs, hao]) this
   ·cases h
theorem dvc_sound : ∀ (c : Code) (dc : DC), cDC P n keep c = some dc -> ∀ {K : FuncId -> List AV -> AX -> St -> Prop} {G w st a}, SR n keep G0 w0 G w st a -> dvc P dc st K -> c.wpIn Fence.wide m P (DPost n keep G0 w0 K) a w := by
 intro c
 induction c with
 | seq x y ihx ihy =>
  intro dc hc K G w st a sr hk
  simp only [cDC] at hc
  split at hc
  ·rename_i pre g as hh
   split at hc
   ·rename_i hcalm
    simp only [Option.map_eq_some_iff] at hc
    obtain ⟨ay, hay, rfl⟩ := hc
    unfold headD at hh
    split at hh
    ·rename_i id ops
     refine wpIn_seq (wpIn_region_list ?_)
     have e0 : wd a [] = a := wd_nil sr.defers
     rw [<- e0]
     refine splitD_sound (K := fun _ => True) (k := fun g avs s => vc P ay { s with R := [] } (K g avs)) ?_ ops.toList hh sr hk
     intro G' w' st' a' g avs vs sr' hvl hk'
     have sr1 : SR n keep G' w' G' w' { st' with R := [] } a' := ⟨sr'.gam, sr'.size, sr'.defers, sr'.L, fun _ _ => .top _, Stp.refl G' w'⟩
     have := vcIn_sound (m := m) (n := n) (keep := keep) open_wide [dcall g vs] y hcalm ay hay sr1 hk'
     show y.wpIn _ _ _ _ _ _
     refine wpIn_mono this ?_
     rintro e _ w2 ⟨a0, rfl, hp⟩
     have fin : ∀ {G2 st2} (x : AX), SR n keep G' w' G2 w2 st2 a0 -> K g avs x st2 -> e = x.ex -> DPost n keep G0 w0 K e (wd a0 [dcall g vs]) w2 := fun x sr2 hk2 he =>
      ⟨x, _, _, a0, g, avs, vs, he, rfl, ⟨sr2.gam, sr2.size, sr2.defers, sr2.L, sr2.R, sr'.stp.trans sr2.stp⟩, ⟨hvl.1, fun j c v h1 h2 => (hvl.2 j c v h1 h2).keep sr2.stp.keep⟩, hk2⟩
     cases e with
     | normal => obtain ⟨G2, st2, sr2, hk2⟩ := hp; exact fin .normal sr2 hk2 rfl
     | exit id => obtain ⟨G2, st2, sr2, hk2⟩ := hp; exact fin (.exit id) sr2 hk2 rfl
     | ret => obtain ⟨G2, st2, sr2, hk2⟩ := hp; exact fin .ret sr2 hk2 rfl
     | goto t => exact hp.elim
     | panic c => exact hp.elim
     | outgrown => exact hp.elim
    ·cases hh
   ·cases hc
  ·split at hc
   ·rename_i hx ax ay hax hay
    cases hc
    refine wpIn_seq (wpIn_wide.2 (wp_mono (vc_sound x ax hax sr hk) ?_))
    intro e a' w' hp
    cases e with
    | normal => obtain ⟨G', st', sr', -, hk'⟩ := hp; exact ihy ay hay sr' hk'
    | exit id => obtain ⟨G', st', sr', e, -⟩ := hp; cases e
    | ret => obtain ⟨G', st', sr', e, -⟩ := hp; cases e
    | goto l => exact hp.elim
    | panic c => exact hp.elim
    | outgrown => exact hp.elim
   ·cases hc
 | _ => intro dc hc; simp [cDC] at hc
def atEndD (P : Program) (res : List ARes) (K : AV -> AHeap -> Prop) (g : FuncId) (avs : List AV) : AX -> St -> Prop
 | .exit _, _ => False
 | _, st => isFn P g = true /\ DCalls P g avs st.h fun _ h' => match resVals { st with R := [], h := h' } res with
  | some l => K (oneOrTup l) h'
  | none => False
theorem dfun_sound {f : FuncId} {fn : DFn} (hf : cDFn P keep f = some fn) {avs : List AV} (hn : avs.length <= fn.n) {h : AHeap} {K : AV -> AHeap -> Prop}
  (hk : dvc P fn.code (initSt keep avs h) (atEndD P fn.res K)) : ACalls P f avs h K := by
 unfold cDFn at hf
 split at hf
 ·rename_i fd hfd
  split at hf
  ·rename_i c hc
   split at hf
   ·rename_i ac res hac hres
    cases hf
    intro G w vs hg hv
    refine (callsIn_wide (n := 0)).1 (callsIn_of_wp_marks hfd hc trivial ?_)
    refine wpIn_mono (dvc_sound (m := 0) c ac hac (init_sr hg hv hn) hk) ?_
    rintro e _ w' ⟨x, st, G', a0, g, avs', vs', rfl, rfl, sr, hvl, hK⟩
    have fin : atEndD P res K g avs' .ret st -> LeavesInM Fence.wide 0 P fd (wd a0 [dcall g vs']).tmps (fun e w' => ∃ v r h' G', e = .returned v /\ K r h' /\ Gam G' w' h' /\ V G' w' r v /\ Stp G w G' w') [dcall g vs'] .returning w' := by
     rintro ⟨hfg, hK⟩
     have hinv : (invoke (dcall g vs').target (dcall g vs').args).run P w' = .ok (.enter g vs') w' := by
      simp [dcall, invoke, run_callFunc hfg]
     refine ⟨by simp, .inr ⟨fun h => (by cases h), .func g, #[], g, vs', rfl, hinv, fun _ _ => trivial, ?_⟩⟩
     refine (hK G' w' vs' sr.gam hvl 0 .returning).mono ?_
     rintro e u' w2 ⟨rfl, v, r, h', G2, rfl, hm, hg2, hV2, hS2⟩
     split at hm
     ·rename_i l hl
      have sr2 : SR fd.ntmps keep G2 w2 G2 w2 { st with R := [], h := h' } a0 := ⟨hg2, sr.size, sr.defers, fun s hk => (sr.L s hk).keep hS2.keep, fun _ _ => .top _, Stp.refl _ _⟩
      obtain ⟨v2, hrun, hV⟩ := results_sound (P := P) sr2 hres hl
      exact ⟨v2, hrun, v2, _, _, G2, rfl, hm, hg2, hV, sr.stp.trans hS2⟩
     ·exact hm.elim
    cases x with
    | normal => exact fin hK
    | ret => exact fin hK
    | exit id => exact hK.elim
   ·cases hf
  ·cases hf
 ·cases hf
def kD1 (P : Program) (d : DC) (K : FuncId -> List AV -> AX -> St -> Prop) : AX -> St -> Prop
 | .normal, s => dvc P d s K
 | _, _ => False
def kD2 (P : Program) (g : FuncId) (args : List Opd) (rest : AC) (K : FuncId -> List AV -> AX -> St -> Prop) : St -> Prop := fun s => vc P rest ⟨s.L, [], s.h⟩ (K g (args.map s.get))
theorem dvc_seq (a : AC) (d : DC) (st : St) (K : FuncId -> List AV -> AX -> St -> Prop) : dvc P (.seq a d) st K = vc P a st (kD1 P d K) := by
 simp only [dvc]
 congr 1
 funext x s
 cases x <;> simp [kD1]
theorem kD1_normal (d : DC) (K : FuncId -> List AV -> AX -> St -> Prop) (s : St) : kD1 P d K .normal s = dvc P d s K := Eq.trans rfl rfl
theorem dvc_defer (ops : List AO) (g : FuncId) (args : List Opd) (rest : AC) (st : St) (K : FuncId -> List AV -> AX -> St -> Prop) : dvc P (.defer ops g args rest) st K = vcOps P ops st (kD2 P g args rest K) := Eq.trans rfl rfl
theorem kD2_mk (g : FuncId) (args : List Opd) (rest : AC) (K : FuncId -> List AV -> AX -> St -> Prop) (L R : Env) (h : AHeap) : kD2 P g args rest K ⟨L, R, h⟩ = vc P rest ⟨L, [], h⟩ (K g (args.map (St.get ⟨L, R, h⟩))) := Eq.trans rfl rfl
def kRes (res : List ARes) (L : Env) (K : AV -> AHeap -> Prop) : AV -> AHeap -> Prop := fun _ h' => atEnd res K .ret ⟨L, [], h'⟩
def dCall (P : Program) (g : FuncId) (avs : List AV) (h : AHeap) (K : AV -> AHeap -> Prop) : Prop := isFn P g = true /\ DCalls P g avs h K
theorem atEndD_ret (res : List ARes) (K : AV -> AHeap -> Prop) (g : FuncId) (avs : List AV) (L R : Env) (h : AHeap) : atEndD P res K g avs .ret ⟨L, R, h⟩ = dCall P g avs h (kRes res L K) := Eq.trans rfl rfl
theorem atEndD_normal (res : List ARes) (K : AV -> AHeap -> Prop) (g : FuncId) (avs : List AV) (L R : Env) (h : AHeap) : atEndD P res K g avs .normal ⟨L, R, h⟩ = dCall P g avs h (kRes res L K) := Eq.trans rfl rfl
theorem kRes_mk (res : List ARes) (L : Env) (K : AV -> AHeap -> Prop) (v : AV) (h' : AHeap) : kRes res L K v h' = atEnd res K .ret ⟨L, [], h'⟩ := Eq.trans rfl rfl
theorem DCalls.mono {f avs h} {K K' : AV -> AHeap -> Prop} (hc : DCalls P f avs h K) (hk : ∀ r h', K r h' -> K' r h') : DCalls P f avs h K' :=
 fun G w vs hg hv m u => (hc G w vs hg hv m u).mono fun _ _ _ ⟨hu, v, r, h', G', h1, h2, h3⟩ => ⟨hu, v, r, h', G', h1, hk _ _ h2, h3⟩
theorem dCall_use {f : FuncId} {avs : List AV} {h : AHeap} {K K' : AV -> AHeap -> Prop} (hc : isFn P f = true /\ DCalls P f avs h K) (hk : ∀ r h', K r h' -> K' r h') : dCall P f avs h K' := ⟨hc.1, hc.2.mono hk⟩
attribute [go_sem] dvc_seq kD1_normal dvc_defer kD2_mk atEndD_ret atEndD_normal kRes_mk
end
end Glb
