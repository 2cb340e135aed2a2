/-
  A library of its own.
-/
import Derived.Test.YtdeiamnhnfmilaaGreatGlbRafV
set_option linter.unusedSimpArgs false
set_option linter.unusedVariables false
set_option maxRecDepth 10000
set_option maxHeartbeats 4000000
namespace Glb
open Go
def kQ (F:Nat->Prop)(h:eZ)(sz:Nat)(v:AV)(es:List (List AV)):Prop:=
 (v=.aB/\es=[])\/∃n off cap row g,v=.aF n sz off es.length cap/\F n/\h[n]?=some (some (.aA sz row g))/\off+es.length<=row.length/\r_ cap es.length/\(cap=none->off=0)/\(∀c,cap=some c->off+c<=row.length)/\(row.drop off).take es.length=es
theorem iS (F:Nat->Prop)(h:eZ)(sz:Nat):Rd F h (.sl sz []) .aB:=by simp only[Rd];exact⟨[],.inl ⟨rfl,rfl⟩,rfl⟩
theorem US {P:Program}{v:AV}{a b rest:AC}{st:St}{K:AX->St->Prop}(Q:St->Prop)(h1:oj P v a b st λx s=>x=.aA/\Q s)(h2:∀s,Q s->vc P rest s K):oj P v a b st (qQ P rest K):=by
 have t:∀(c:AC),vc P c st (λx s=>x=.aA/\Q s)->vc P c st (qQ P rest K):=λc hc=>oi c (λx s ⟨e,q⟩=>by subst e;exact h2 s q) hc;unfold oj at h1 ⊢;split at h1;·exact⟨λe=>t _ (h1.1 e),λe=>t _ (h1.2 e)⟩
 ·exact h1.elim
section
variable {F F':Nat->Prop} {h h':eZ} {sz:Nat} {v:AV} {es:List (List AV)}
theorem kQ.aB:kQ F h sz .aB []:=.inl ⟨rfl,rfl⟩
theorem kQ.aC (c:kQ F h sz v es)(hF:∀m,F m->m<h.length->F' m) (hk:∀m,F m->m<h.length->h'[m]?=h[m]?):kQ F' h' sz v es:=by
 rcases c with c | ⟨n,off,cap,row,g,h1,h2,h3,h4⟩;·exact .inl c
 ·have hl:=(U_.1 h3).1;exact .inr ⟨n,off,cap,row,g,h1,hF n h2 hl,(hk n h2 hl).trans h3,h4⟩
theorem kQ.aD (c:kQ F h sz v es):v.aG=true:=by rcases c with⟨rfl,-⟩ | ⟨n,off,cap,row,g,rfl,-⟩<;>rfl
theorem kQ.at (c:kQ F h sz v es){i:Nat}(hi:i<es.length):∃n off row g,iH sz v (.aA .i64 i)=some (.aC n sz (off+i) 0)/\F n/\h[n]?=some (some (.aA sz row g))/\row[off+i]?=some es[i] /\
  ∀cs,kQ F (h.set n (some (.aA sz (row.set (off+i) cs) g))) sz v (es.set i cs):=by
 rcases c with⟨rfl,rfl⟩ | ⟨n,off,cap,row,g,rfl,h2,h3,h4,h5,h6,h7,h8⟩;·simp at hi
 ·have hl:=(U_.1 h3).1;refine⟨n,off,row,g,?_,h2,h3,?_,λcs=>.inr ⟨n,off,cap,_,g,by rw[Vh],h2,Vd hl,by rw[Vh,Vh];exact h4,by rw[Vh];exact h5,h6,by rw[Vh];exact h7,?_⟩⟩;·simp only[iH];rw[Vf ⟨Vp,by omega,by omega⟩];simp
  ·have:es[i]?=((row.drop off).take es.length)[i]?:=by rw[h8]
   rw[VV hi,Vz,Vi hi]at this;exact this.symm
  ·rw[Vh];apply VT;intro j;simp only[V_,Vz,WD];by_cases c1:j<es.length
   ·rw[Vf c1];by_cases c2:i=j;·subst c2;rw[Vf rfl,Vf (by omega),Vf rfl,Vf hi]
    ·rw[Ve (by omega),Ve c2];have:es[j]?=((row.drop off).take es.length)[j]?:=by rw[h8]
     rw[VV c1,Vz]at this;exact this.symm
   ·rw[Ve c1,Ve (by omega),VJ (by omega)]
theorem kQ.aA {h0:eZ}{bytes:Nat}{ys:List (List AV)}(c:kQ F h0 sz v es)(hx:eY fj h0 h)(hb:(es.length+ys.length)*bytes<=2^46):
  ∃v' h',iL h sz bytes v ys=some (v',h')/\kQ (λm=>(F m/\m<h.length)\/h.length<=m) h' sz v' (es++ys)/\eY F h h':=by
 have b:∀(hh:eZ) (E:List (List AV)),h.length<=hh.length->kQ (λm=>(F m/\m<h.length)\/h.length<=m) (gR hh sz E).2 sz (gR hh sz E).1 E:=by intro hh E hl;exact .inr ⟨hh.length,0,none,E,true,rfl,.inr hl,by simp[gR],by omega,(λc hc=>by cases hc),(λ_=>rfl),(λc hc=>by cases hc),by simp⟩
 rcases c with⟨rfl,rfl⟩ | ⟨n,off,cap,row,g,rfl,hn,C,O,a0,W,U,he⟩;·refine⟨(gR h sz ys).1,(gR h sz ys).2,?_,b h ys (Vg _),eY.aE _ _ _⟩;simp only[iL];rw[Vf (by simpa using hb)]
 ·have hnlt:=(U_.1 C).1;have t:h[n]?=some (some (.aA sz row g)):=hx.aA C;have u:=(U_.1 t).1;simp only[iL,t];rw[Vf ⟨Vp,Vp,O,hb⟩];cases cap with
  | none=>obtain rfl:=W rfl;simp only[V3];rw[Wf]at he;refine⟨_,_,rfl,?_,(eY.aG none (λ_=>hn)).aB (eY.aE F _ _) (λ_ _ x=>x) (λ_ _ x=>x)⟩;rw[he];exact b _ _ (by simp)
  | some c=>
   have hc1:=a0 c rfl;have a4:=U c rfl;cases c with
   | zero=>
    have a2:es=[]:=Vl (by omega);subst a2;simp only[VN,V3];by_cases hy0:ys.length=0;·rw[Vf hy0];have a1:ys=[]:=Vl hy0;subst a1;exact⟨_,_,rfl,.inr ⟨n,off,some 0,row,g,rfl,.inl ⟨hn,u⟩,t,O,a0,W,U,he⟩,eY.aC _ _⟩
    ·rw[Ve hy0];exact⟨(gR h sz ys).1,(gR h sz ys).2,rfl,b h ys (Vg _),eY.aE _ _ _⟩
   | succ c=>
    simp only;by_cases hcap:c+1<es.length+ys.length;·rw[Vf hcap,he];exact⟨_,_,rfl,b _ _ (Vg _),eY.aE _ _ _⟩
    ·rw[Ve hcap,Vf (by omega)];have M:(gY row (off+es.length) ys).length=row.length:=by simp[gY];omega
     refine⟨_,_,rfl,.inr ⟨n,off,some (c+1),gY row (off+es.length) ys,g,by rw[Vj],.inl ⟨hn,u⟩,by rw[Vd u],by rw[M,Vj];omega,
      (λc' I=>by cases I;rw[Vj];omega),(λe=>by cases e),(λc' I=>by cases I;rw[M];exact a4),?_⟩,eY.aG _ (λ_=>hn)⟩
     apply VT;intro i;have a3:∀i,i<es.length->row[off+i]?=es[i]?:=λi hi=>by
      have:es[i]?=((row.drop off).take es.length)[i]?:=by rw[he]
      rw[this,VV hi,Vz]
     simp only[V_,Vz,Vj,gY,Wb,Vw,Vj];rw[show min (off+es.length) row.length=off+es.length by omega];by_cases h1:i<es.length;·rw[Vf (by omega),Vf (by omega),Vf (by omega),Vf (by omega),Vf h1];exact a3 i h1
     ·by_cases h2:i<es.length+ys.length
      ·rw[Vf h2,Vf (by omega),Ve (by omega),Ve h1];congr 1;omega
      ·rw[Ve h2,Ve h1,VJ (by omega)]
end
structure yv where
 l:List fm
 aC:List fV
 aA:List Int
 aE:List fB
 aB:List gj
 aG:List Int
 aF:List Int
 aD:List Int
structure yx where
 lv:AV
 hv:AV
 av:AV
 pv:AV
 dv:AV
 tv:AV
 ev:AV
 qv:AV
 rs:List Nat
def U9 (k:Nat)(Λ:Nat->Nat):Nat->Nat:=λm=>if Λ m / 10=k+1 then Λ m % 10 else 0
def Zs (Λ:Nat->Nat)(h:eZ):Nat->Prop:=λm=>Λ m=0/\m<h.length
section
variable {Λ Λ':Nat->Nat} {h h':eZ} {nb:Nat} {w:yx} {v:yv}
end
section
variable {Λ:Nat->Nat} {h h':eZ} {nb:Nat} {w:yx} {v:yv}
end
section
variable {Λ:Nat->Nat} {h h':eZ} {nb:Nat} {w:yx} {v:yv}
end
end Glb
