import PyProof.Rows.All
import OpenK.KWalk
import OpenK.KLine
import KE.KItem
import KE.LcSums
import KE.KListMore
import KE.KDictList
import KE.KDictSum
import KE.KDictObj
import KE.KIsAll
import KE.KSorted
import KE.KxSplit
import OpenK.AllK
import Wide.All
import PySem.Challenge.RW_uf030014_06
open PySem PyProof.Rows
set_option autoImplicit false
set_option linter.unusedVariables false
namespace Mine
inductive AV where
  | none
  | bool (b : Bool)
  | int (i : Int)
  | str (s : Str)
  | tup (xs : List AV)
  | lst (xs : List AV)
  | ref (a : Addr)
  | rng (a b : Int)
  | exc (c : Value)
inductive AO where
  | lst (xs : List AV)
abbrev AH := Addr → Option AO
noncomputable def foot (H : AH) (a : Addr) : Prop := H a ≠ none
mutual
inductive VRel (h : Heap) (F : Addr → Prop) : Value → AV → Prop
  | none : VRel h F .none .none
  | bool (b : Bool) : VRel h F (.bool b) (.bool b)
  | int (i : Int) (t : Tok) : VRel h F (.int i t) (.int i)
  | str (x : Str) (t : Tok) (ok : PyData.strOk x = true) : VRel h F (.str x t) (.str x)
  | tup {a : Addr} {vs : Array Value} {n : Nat} {xs : List AV} : IsT h a vs n → ¬ F a → VRels h F vs.toList xs → VRel h F (.ref a) (.tup xs)
  | lst {a : Addr} {vs : Array Value} {n : Nat} {xs : List AV} : IsL h a vs n → ¬ F a → VRels h F vs.toList xs → VRel h F (.ref a) (.lst xs)
  | ref (a : Addr) : VRel h F (.ref a) (.ref a)
  | rng {r : Addr} {a b : Int} {t u v : Tok} : IsRange h r a b 1 t u v → ¬ F r → VRel h F (.ref r) (.rng a b)
  | exc {a : Addr} {o : Obj} {c : Value} : h.get? a = some o → o.cls = c → (¬ F a ∧ (∃ vs, o.data = .fields vs) ∧ ∃ D, o.cls = .ref D) → VRel h F (.ref a) (.exc c)
inductive VRels (h : Heap) (F : Addr → Prop) : List Value → List AV → Prop
  | nil : VRels h F [] []
  | cons {v : Value} {a : AV} {vs : List Value} {as : List AV} : VRel h F v a → VRels h F vs as → VRels h F (v :: vs) (a :: as)
end
structure Stays (F F' : Addr → Prop) (h h' : Heap) : Prop where
  keep : ∀ b o, h.get? b = some o → ¬ F b → h'.get? b = some o
  grow : ∀ a, F' a → F a ∨ h.get? a = none
theorem Stays.not {F F' : Addr → Prop} {h h' : Heap} (k : Stays F F' h h') {b : Addr} {o : Obj} (e : h.get? b = some o) (n : ¬ F b) : ¬ F' b :=
  fun q => (k.grow b q).elim n fun l => by rw [l] at e; cases e
theorem Stays.refl (F : Addr → Prop) (h : Heap) : Stays F F h h := ⟨fun _ _ e _ => e, fun _ q => .inl q⟩
noncomputable def Held (o : Obj) : Prop := ((∃ xs n, o.data = .seq xs n) ∨ ∃ vs, o.data = .fields vs) ∧ ∀ T, o.cls = .type T → T = "tuple" ∨ T = "list" ∨ T = "range"
theorem Held.nd {o : Obj} (h : Held o) : ∀ es ep, o.data ≠ .dict es ep := fun _ _ q => by
  rcases h.1 with ⟨_, _, e⟩ | ⟨_, e⟩ <;> rw [q] at e <;> cases e
mutual
theorem VRel.keep {F F' : Addr → Prop} {h h' : Heap} (k : ∀ b o, h.get? b = some o → ¬ F b → Held o → h'.get? b = some o) (g : ∀ b o, h.get? b = some o → ¬ F b → ¬ F' b) : ∀ {v : Value} {a : AV}, VRel h F v a → VRel h' F' v a
  | _, _, .none => .none
  | _, _, .bool b => .bool b
  | _, _, .int i t => .int i t
  | _, _, .str x t ok => .str x t ok
  | _, _, .tup ho n r => .tup (k _ _ ho n ⟨.inl ⟨_, _, rfl⟩, fun _ q => .inl (by injection q with q; exact q.symm)⟩) (g _ _ ho n) (VRels.keep k g r)
  | _, _, .lst ho n r => .lst (k _ _ ho n ⟨.inl ⟨_, _, rfl⟩, fun _ q => .inr (.inl (by injection q with q; exact q.symm))⟩) (g _ _ ho n) (VRels.keep k g r)
  | _, _, .ref a => .ref a
  | _, _, .rng ho n => .rng (k _ _ ho n ⟨.inr ⟨_, rfl⟩, fun _ q => .inr (.inr (by injection q with q; exact q.symm))⟩) (g _ _ ho n)
  | _, _, .exc e c z => .exc (k _ _ e z.1 ⟨.inr z.2.1, fun _ q => (by obtain ⟨D, hc⟩ := z.2.2; rw [hc] at q; cases q)⟩) c ⟨g _ _ e z.1, z.2⟩
theorem VRels.keep {F F' : Addr → Prop} {h h' : Heap} (k : ∀ b o, h.get? b = some o → ¬ F b → Held o → h'.get? b = some o) (g : ∀ b o, h.get? b = some o → ¬ F b → ¬ F' b) : ∀ {vs : List Value} {as : List AV}, VRels h F vs as → VRels h' F' vs as
  | _, _, .nil => .nil
  | _, _, .cons v r => .cons (VRel.keep k g v) (VRels.keep k g r)
end
theorem VRel.stays {F F' : Addr → Prop} {h h' : Heap} (k : Stays F F' h h') {v : Value} {a : AV} (r : VRel h F v a) : VRel h' F' v a := r.keep (fun b o e n _ => k.keep b o e n) fun _ _ e n => k.not e n
theorem VRels.stays {F F' : Addr → Prop} {h h' : Heap} (k : Stays F F' h h') {vs : List Value} {as : List AV} (r : VRels h F vs as) : VRels h' F' vs as := r.keep (fun b o e n _ => k.keep b o e n) fun _ _ e n => k.not e n
theorem VRels.length {h : Heap} {F : Addr → Prop} : ∀ {vs : List Value} {as : List AV}, VRels h F vs as → vs.length = as.length
  | _, _, .nil => rfl
  | _, _, .cons _ r => congrArg (· + 1) r.length
theorem VRels.get {h : Heap} {F : Addr → Prop} : ∀ {vs : List Value} {as : List AV} (_ : VRels h F vs as) (i : Nat) {a : AV}, as[i]? = some a → ∃ v, vs[i]? = some v ∧ VRel h F v a
  | _, _, .nil, i, _, e => by simp at e
  | _, _, .cons v r, 0, _, e => by simp at e; exact ⟨_, rfl, e ▸ v⟩
  | _, _, .cons v r, i + 1, _, e => by simp at e; obtain ⟨w, hw, hr⟩ := r.get i e; exact ⟨w, by simpa using hw, hr⟩
theorem VRels.append {h : Heap} {F : Addr → Prop} : ∀ {vs : List Value} {as : List AV} {ws : List Value} {bs : List AV}, VRels h F vs as → VRels h F ws bs → VRels h F (vs ++ ws) (as ++ bs)
  | _, _, _, _, .nil, s => s
  | _, _, _, _, .cons v r, s => .cons v (r.append s)
theorem VRels.snoc {h : Heap} {F : Addr → Prop} {vs : List Value} {as : List AV} {v : Value} {a : AV} (r : VRels h F vs as) (x : VRel h F v a) : VRels h F (vs ++ [v]) (as ++ [a]) := r.append (.cons x .nil)
theorem VRels.take {h : Heap} {F : Addr → Prop} : ∀ {vs : List Value} {as : List AV}, VRels h F vs as → ∀ n, VRels h F (vs.take n) (as.take n)
  | _, _, _, 0 => by simpa using VRels.nil
  | _, _, .nil, _ + 1 => by simpa using VRels.nil
  | _, _, .cons v r, n + 1 => by simpa using VRels.cons v (r.take n)
theorem VRels.drop {h : Heap} {F : Addr → Prop} : ∀ {vs : List Value} {as : List AV}, VRels h F vs as → ∀ n, VRels h F (vs.drop n) (as.drop n)
  | _, _, r, 0 => by simpa using r
  | _, _, .nil, _ + 1 => by simpa using VRels.nil
  | _, _, .cons _ r, n + 1 => by simpa using r.drop n
theorem VRels.set {h : Heap} {F : Addr → Prop} {v : Value} {a : AV} (x : VRel h F v a) : ∀ {vs : List Value} {as : List AV}, VRels h F vs as → ∀ n, VRels h F (vs.set n v) (as.set n a)
  | _, _, .nil, _ => .nil
  | _, _, .cons _ r, 0 => .cons x r
  | _, _, .cons y r, n + 1 => .cons y (VRels.set x r n)
theorem strOk_iff {x : Str} : PyData.strOk x = true ↔ ∀ c ∈ x.cps.toList, c < 0x110000 := by
  unfold PyData.strOk
  rw [← Array.all_toList, List.all_eq_true]
  exact ⟨fun h c hc => of_decide_eq_true (h c hc), fun h c hc => decide_eq_true (h c hc)⟩
theorem strOk_append {x y : Str} (hx : PyData.strOk x = true) (hy : PyData.strOk y = true) : PyData.strOk (x ++ y) = true := by
  rw [strOk_iff] at *
  intro c hc
  rw [Str.cps_append] at hc
  simp only [Array.toList_append, List.mem_append] at hc
  exact hc.elim (hx c) (hy c)
theorem strOk_sub {x y : Str} (hx : PyData.strOk x = true) (h : ∀ c ∈ y.cps.toList, c ∈ x.cps.toList) : PyData.strOk y = true := by
  rw [strOk_iff] at *
  exact fun c hc => hx c (h c hc)
end Mine
open PySem PySem.W PyProof.Rows
namespace Mine
structure Stat where
  prog : Program
  w : World
  base : Heap
  K : Frag
  pr : Program
  loose : List Str
  mg : Str → Option Value
  mb : Str → Option Value
  hK : K.In base
  hT : TopRead pr loose mg mb base
  seer : base.NoSeer
abbrev Stat.M (S : Stat) : Model := model S.prog S.w
structure Cx where
  S : Stat
  A : Around
  fe : List Env
  d : Nat
noncomputable def Cx.fs (C : Cx) : List Addr := C.fe.filterMap (·.frame)
noncomputable def ORel (h : Heap) (F : Addr → Prop) (a : Addr) : AO → Prop
  | .lst xs => ∃ vs n, IsL h a vs n ∧ VRels h F vs.toList xs
structure Rep (S : Stat) (h : Heap) (H : AH) : Prop where
  obj : ∀ a ao, H a = some ao → ORel h (foot H) a ao
theorem Rep.lt {S : Stat} {h : Heap} {H : AH} (R : Rep S h H) {a : Addr} (f : foot H a) : a < h.objs.size := by
  cases q : H a with
  | none => exact absurd q f
  | some ao =>
    cases ao with
    | lst xs => obtain ⟨vs, n, ho, _⟩ := R.obj a _ q; exact Heap.lt_size ho
structure Step (C : Cx) (W : Addr → Prop) (s : Shared) (H : AH) (s' : Shared) (H' : AH) : Prop where
  keep : ∀ b o, s.heap.get? b = some o → ¬ foot H b → ¬ W b → b ∉ C.fs → s'.heap.get? b = some o
  slots : ∀ b o, s.heap.get? b = some o → b ∈ C.fs → ¬ W b → ∃ sl, s'.heap.get? b = some { o with slots := sl }
  alive : ∀ b o, s.heap.get? b = some o → ∃ o', s'.heap.get? b = some o'
  grow : ∀ a, foot H' a → foot H a ∨ s.heap.get? a = none
  gens : s'.gens = s.gens
  os : s'.os = s.os
noncomputable def noW : Addr → Prop := fun _ => False
structure Live (C : Cx) (h : Heap) (H : AH) : Prop where
  frames : C.A.frames = some C.fe
  funs : h.FunFrames C.S.base C.fe
  stays : C.S.base.StaysIn h
  off : ∀ L ∈ C.fs, ¬ foot H L
  new : ∀ a, foot H a → C.S.base.get? a = none
  handled : C.A.handled = none
  dicts : ∀ b ∈ C.fs, ∃ o es ep, h.get? b = some o ∧ o.data = .dict es ep
  depth : C.A.depth + C.d < recursionLimit
  units : C.A.units + 20 * C.d + 100 < cLine
theorem Step.refl (C : Cx) (W : Addr → Prop) (s : Shared) (H : AH) : Step C W s H s H :=
  ⟨fun _ _ e _ _ _ => e, fun _ o e _ _ => ⟨o.slots, e⟩, fun _ o e => ⟨o, e⟩, fun _ q => .inl q, rfl, rfl⟩
theorem Step.not {C : Cx} {W : Addr → Prop} {s s' : Shared} {H H' : AH} (k : Step C W s H s' H') {b : Addr} {o : Obj} (e : s.heap.get? b = some o) (n : ¬ foot H b) : ¬ foot H' b :=
  fun q => (k.grow b q).elim n fun l => by rw [l] at e; cases e
theorem Step.trans {C : Cx} {W : Addr → Prop} {s s₁ s₂ : Shared} {H H₁ H₂ : AH} (x : Step C W s H s₁ H₁) (y : Step C W s₁ H₁ s₂ H₂) : Step C W s H s₂ H₂ where
  keep := fun b o e n m f => y.keep b o (x.keep b o e n m f) (x.not e n) m f
  slots := fun b o e f m => by
    obtain ⟨sl, h1⟩ := x.slots b o e f m
    obtain ⟨sl', h2⟩ := y.slots b _ h1 f m
    exact ⟨sl', h2⟩
  alive := fun b o e => by
    obtain ⟨o', e'⟩ := x.alive b o e
    exact y.alive b o' e'
  grow := fun a q => (y.grow a q).elim (fun p => x.grow a p) fun l => by
    cases e : s.heap.get? a with
    | none => exact .inr rfl
    | some o => obtain ⟨o', e'⟩ := x.alive a o e; rw [l] at e'; cases e'
  gens := y.gens.trans x.gens
  os := y.os.trans x.os
theorem Step.wider {C : Cx} {W W' : Addr → Prop} {s s' : Shared} {H H' : AH} (x : Step C W s H s' H') (hw : ∀ a, W a → W' a) : Step C W' s H s' H' where
  keep := fun b o e n m f => x.keep b o e n (fun q => m (hw b q)) f
  slots := fun b o e f m => x.slots b o e f fun q => m (hw b q)
  alive := x.alive
  grow := x.grow
  gens := x.gens
  os := x.os
theorem Step.ofNo {C : Cx} {W : Addr → Prop} {s s' : Shared} {H H' : AH} (x : Step C noW s H s' H') : Step C W s H s' H' := x.wider fun _ q => q.elim
theorem Step.ext {C : Cx} {W : Addr → Prop} {s : Shared} {H : AH} {h' : Heap} {t : Nat} (k : ∀ b o, s.heap.get? b = some o → h'.get? b = some o) :
    Step C W s H { s with heap := h', toks := t } H :=
  ⟨fun b o e _ _ _ => k b o e, fun b o e _ _ => ⟨o.slots, k b o e⟩, fun b o e => ⟨o, k b o e⟩, fun _ q => .inl q, rfl, rfl⟩
theorem Live.fsNew {C : Cx} {h : Heap} {H : AH} (L : Live C h H) {b : Addr} (hb : b ∈ C.fs) : C.S.base.get? b = none := (L.funs.mem hb).1
theorem Live.baseOff {C : Cx} {h : Heap} {H : AH} (L : Live C h H) {b : Addr} {o : Obj} (e : C.S.base.get? b = some o) : ¬ foot H b ∧ b ∉ C.fs :=
  ⟨fun f => (by have := L.new b f; rw [e] at this; cases this), fun f => (by have := L.fsNew f; rw [e] at this; cases this)⟩
theorem Live.step {C : Cx} {s s' : Shared} {H H' : AH} (L : Live C s.heap H) (x : Step C noW s H s' H') : Live C s'.heap H' where
  frames := L.frames
  funs := by
    have : ∀ l : List Env, (∀ b ∈ l.filterMap (·.frame), b ∈ C.fs) → s.heap.FunFrames C.S.base l → s'.heap.FunFrames C.S.base l := by
      intro l
      induction l with
      | nil => intro _ _; trivial
      | cons env r ih =>
        intro hs ⟨hk, ⟨a, o, hf, hn, ho, hd⟩, hr⟩
        have ha : a ∈ C.fs := hs a (by rw [List.filterMap_cons, hf]; exact .head _)
        obtain ⟨sl, h1⟩ := x.slots a o ho ha (fun q => q)
        refine ⟨hk, ⟨a, _, hf, hn, h1, hd⟩, ih (fun b hb => hs b ?_) hr⟩
        rw [List.filterMap_cons, hf]; exact .tail _ hb
    exact this C.fe (fun b hb => hb) L.funs
  stays := fun b o e => x.keep b o (L.stays b o e) (L.baseOff e).1 (fun q => q) (L.baseOff e).2
  off := fun a ha => by
    obtain ⟨_, o, ho, _⟩ := L.funs.mem ha
    exact x.not ho (L.off a ha)
  new := fun a f => (x.grow a f).elim (L.new a) fun l => by
    cases q : C.S.base.get? a with
    | none => rfl
    | some o => have := L.stays a o q; rw [l] at this; cases this
  handled := L.handled
  dicts := fun b hb => by
    obtain ⟨o, es, ep, ho, hd⟩ := L.dicts b hb
    obtain ⟨sl, h1⟩ := x.slots b o ho hb (fun q => q)
    exact ⟨_, es, ep, h1, hd⟩
  depth := L.depth
  units := L.units
theorem Live.offFs {C : Cx} {h : Heap} {H : AH} (L : Live C h H) {b : Addr} {o : Obj} (e : h.get? b = some o) (hn : ∀ es ep, o.data ≠ .dict es ep) : b ∉ C.fs := fun q => by
  obtain ⟨o', es, ep, ho, hd⟩ := L.dicts b q
  rw [e] at ho; cases ho; exact hn es ep hd
theorem Step.stays {C : Cx} {W : Addr → Prop} {s s' : Shared} {H H' : AH} (x : Step C W s H s' H') : ∀ b o, s.heap.get? b = some o → ¬ foot H b → ¬ W b → ∃ sl, s'.heap.get? b = some { o with slots := sl } := fun b o e n m => by
  by_cases f : b ∈ C.fs
  · exact x.slots b o e f m
  · exact ⟨o.slots, x.keep b o e n m f⟩
noncomputable def VarsOnly (h : Heap) (W : Addr → Prop) : Prop := ∀ b o, W b → h.get? b = some o → ¬ Held o
theorem Step.keepHeld {C : Cx} {W : Addr → Prop} {s s' : Shared} {H H' : AH} (x : Step C W s H s' H') (L : Live C s.heap H) (hw : VarsOnly s.heap W) : ∀ b o, s.heap.get? b = some o → ¬ foot H b → Held o → s'.heap.get? b = some o := fun b o e nf hh =>
  x.keep b o e nf (fun q => hw b o q e hh) (L.offFs e hh.nd)
theorem VRel.step {C : Cx} {W : Addr → Prop} {s s' : Shared} {H H' : AH} (x : Step C W s H s' H') (L : Live C s.heap H) (hw : VarsOnly s.heap W) {v : Value} {a : AV} (r : VRel s.heap (foot H) v a) : VRel s'.heap (foot H') v a := r.keep (x.keepHeld L hw) fun _ _ e n => x.not e n
theorem VRels.step {C : Cx} {W : Addr → Prop} {s s' : Shared} {H H' : AH} (x : Step C W s H s' H') (L : Live C s.heap H) (hw : VarsOnly s.heap W) {vs : List Value} {as : List AV} (r : VRels s.heap (foot H) vs as) : VRels s'.heap (foot H') vs as := r.keep (x.keepHeld L hw) fun _ _ e n => x.not e n
end Mine
namespace Mine
structure Flt (B : Heap) (fe : List Env) (L : Addr) (e : Addr) (c : Value) (h : Heap) : Prop where
  stays : B.StaysIn h
  new : B.get? e = none
  funs : h.FunFrames B fe
  st : (∃ oe vs a0, h.get? e = some oe ∧ oe.cls = c ∧ oe.data = .fields vs ∧ vs[0]? = some a0 ∧ vs[1]? = some .none) ∨
    (∃ a0 fl, h.TracedAtW B e c a0 fl ∧ (fl = .none ∨ fl = rawInt L))
structure Exn (C : Cx) (W : Addr → Prop) (s : Shared) (H : AH) (e : Addr) (c : Value) (s' : Shared) (H' : AH) : Prop where
  wit : ∃ B L, (C.fe.head?.bind (·.frame)) = some L ∧ (∀ b o, s.heap.get? b = some o → ¬ foot H b → ¬ W b → b ∉ C.fs → B.get? b = some o) ∧ C.S.base.StaysIn B ∧ Rep C.S B H' ∧ Flt B C.fe L e c s'.heap
  slots : ∀ b o, s.heap.get? b = some o → b ∈ C.fs → ¬ W b → ∃ sl, s'.heap.get? b = some { o with slots := sl }
  alive : ∀ b o, s.heap.get? b = some o → ∃ o', s'.heap.get? b = some o'
  grow : ∀ a, foot H' a → foot H a ∨ s.heap.get? a = none
  gens : s'.gens = s.gens
  os : s'.os = s.os
theorem Exn.after {C : Cx} {W : Addr → Prop} {s s₁ s' : Shared} {H H₁ H' : AH} {e : Addr} {c : Value} (x : Step C W s H s₁ H₁) (y : Exn C W s₁ H₁ e c s' H') : Exn C W s H e c s' H' where
  wit := by
    obtain ⟨B, L, h0, h1, h2, h3, h4⟩ := y.wit
    exact ⟨B, L, h0, fun b o e n m f => h1 b o (x.keep b o e n m f) (x.not e n) m f, h2, h3, h4⟩
  slots := fun b o e f m => by
    obtain ⟨sl, h1⟩ := x.slots b o e f m
    obtain ⟨sl', h2⟩ := y.slots b _ h1 f m
    exact ⟨sl', h2⟩
  alive := fun b o e => by
    obtain ⟨o', e'⟩ := x.alive b o e
    exact y.alive b o' e'
  grow := fun a q => (y.grow a q).elim (fun p => x.grow a p) fun l => by
    cases e : s.heap.get? a with
    | none => exact .inr rfl
    | some o => obtain ⟨o', e'⟩ := x.alive a o e; rw [l] at e'; cases e'
  gens := y.gens.trans x.gens
  os := y.os.trans x.os
theorem Exn.wider {C : Cx} {W W' : Addr → Prop} {s s' : Shared} {H H' : AH} {e : Addr} {c : Value} (y : Exn C W s H e c s' H') (hw : ∀ a, W a → W' a) : Exn C W' s H e c s' H' where
  wit := by
    obtain ⟨B, L, h0, h1, h2, h3, h4⟩ := y.wit
    exact ⟨B, L, h0, fun b o e n m f => h1 b o e n (fun q => m (hw b q)) f, h2, h3, h4⟩
  slots := fun b o e f m => y.slots b o e f fun q => m (hw b q)
  alive := y.alive
  grow := y.grow
  gens := y.gens
  os := y.os
abbrev RelT (α β : Type) := Heap → (Addr → Prop) → α → β → Prop
noncomputable def EqR {α : Type} : RelT α α := fun _ _ a b => a = b
noncomputable def Post {α β : Type} (R : RelT α β) (C : Cx) (W : Addr → Prop) (s : Shared) (H : AH) (Q : β → AH → Prop) (x : α) (s' : Shared) : Prop :=
  ∃ y H', Step C W s H s' H' ∧ Rep C.S s'.heap H' ∧ R s'.heap (foot H') x y ∧ Q y H'
noncomputable def PostX (C : Cx) (W : Addr → Prop) (s : Shared) (H : AH) (X : Value → AH → Prop) (ev : Value) (s' : Shared) : Prop :=
  ∃ e c H', ev = .ref e ∧ Exn C W s H e c s' H' ∧ X c H'
noncomputable def Ev {α β : Type} (R : RelT α β) (C : Cx) (t : Sem α) (s : Shared) (H : AH) (Q : β → AH → Prop) (X : Value → AH → Prop) : Prop :=
  wpAny C.S.M C.A t (Post R C noW s H Q) (PostX C noW s H X) s
section
variable {α β γ δ : Type} {R : RelT α β} {R' : RelT γ δ} {C : Cx} {s : Shared} {H : AH} {Q : β → AH → Prop} {Q' : δ → AH → Prop} {X : Value → AH → Prop}
theorem Ev.then {t : Sem α} {k : α → Sem γ} (h : Ev R C t s H Q X)
    (hk : ∀ y H₁ x s₁, Step C noW s H s₁ H₁ → Rep C.S s₁.heap H₁ → R s₁.heap (foot H₁) x y → Q y H₁ → Ev R' C (k x) s₁ H₁ Q' X) : Ev R' C (t >>= k) s H Q' X :=
  wpAny_bind (wpAny_mono h (fun x s₁ ⟨y, H₁, st, rp, r, q⟩ => wpAny_mono (hk y H₁ x s₁ st rp r q) (fun _ _ ⟨y₂, H₂, st₂, rp₂, r₂, q₂⟩ => ⟨y₂, H₂, st.trans st₂, rp₂, r₂, q₂⟩)
    (fun _ _ ⟨e, c, H₂, he, x₂, q₂⟩ => ⟨e, c, H₂, he, x₂.after st, q₂⟩)) fun _ _ h => h)
theorem Ev.mono {t : Sem α} {Q₂ : β → AH → Prop} {X₂ : Value → AH → Prop} (h : Ev R C t s H Q X) (hq : ∀ y H', Q y H' → Q₂ y H') (hx : ∀ c H', X c H' → X₂ c H') : Ev R C t s H Q₂ X₂ :=
  wpAny_mono h (fun _ _ ⟨y, H', a, b, c, q⟩ => ⟨y, H', a, b, c, hq y H' q⟩) fun _ _ ⟨e, c, H', a, b, q⟩ => ⟨e, c, H', a, b, hx c H' q⟩
theorem Ev.holding {t : Sem α} {vs : List Value} (h : Ev R C t s H Q X) : Ev R C (holding vs t) s H Q X := wpAny_holding h
theorem Ev.stand {t : Sem α} {pos : Pos} (h : Ev R C t s H Q X) : Ev R C (standAt pos >>= fun _ => t) s H Q X := wpAny_bind (wpAny_standAt h)
theorem Ev.pure {x : α} {y : β} (rp : Rep C.S s.heap H) (r : R s.heap (foot H) x y) (q : Q y H) : Ev R C (pure x) s H Q X := wpAny_pure ⟨y, H, Step.refl .., rp, r, q⟩
theorem Ev.same {t : Sem α} (rp : Rep C.S s.heap H) (h : ∀ Q₁ : α → Shared → Prop, (∀ x y tk, R s.heap (foot H) x y → Q y H → Q₁ x { s with toks := tk }) → wpAny C.S.M C.A t Q₁ (PostX C noW s H X) s) : Ev R C t s H Q X :=
  h _ fun x y tk r q => ⟨y, H, ⟨fun _ _ e _ _ _ => e, fun _ o e _ _ => ⟨o.slots, e⟩, fun _ o e => ⟨o, e⟩, fun _ q => .inl q, rfl, rfl⟩, rp, r, q⟩
theorem Ev.of_eq {t t' : Sem α} (e : t = t') (h : Ev R C t' s H Q X) : Ev R C t s H Q X := e ▸ h
end
theorem Stays.of_ext {F : Addr → Prop} {h h' : Heap} (k : ∀ b o, h.get? b = some o → h'.get? b = some o) : Stays F F h h' := ⟨fun b o e _ => k b o e, fun _ q => .inl q⟩
theorem ORel.ext {F F' : Addr → Prop} {h h' : Heap} {a : Addr} {ao : AO} (k : ∀ b o, h.get? b = some o → h'.get? b = some o) (g : ∀ a, F' a → F a ∨ h.get? a = none) (r : ORel h F a ao) : ORel h' F' a ao := by
  have K : Stays F F' h h' := ⟨fun b o e _ => k b o e, g⟩
  cases ao with
  | lst xs => obtain ⟨vs, n, ho, v⟩ := r; exact ⟨vs, n, k _ _ ho, v.stays K⟩
theorem Rep.ext {S : Stat} {h h' : Heap} {H : AH} (R : Rep S h H) (k : ∀ b o, h.get? b = some o → h'.get? b = some o) : Rep S h' H :=
  ⟨fun a ao e => (R.obj a ao e).ext k fun _ q => .inl q⟩
section
variable {α β : Type} {R : RelT α β} {C : Cx} {s : Shared} {H : AH} {Q : β → AH → Prop} {X : Value → AH → Prop}
end
structure EnvAt (C : Cx) (env : Env) (ns : List (Option Str)) (ρ : List (Option AV)) (h : Heap) (H : AH) (m cm : Str → Option Value) : Prop where
  fn : env.scope.kind = .function
  glob : env.globals = mainGlobals
  bns : env.builtins = builtinsNs
  loc : h.Ns env.locals m
  locOff : ¬ foot H env.locals
  inj : ∀ (i j : Nat) (x : Str), ns[i]? = some (some x) → ns[j]? = some (some x) → i = j
  len : ρ.length = ns.length
  has : ∀ x, (env.kindOf x = some .cell ∨ env.kindOf x = some .free) → ∃ c, env.cells.lookup x = some c
  locNew : C.S.base.get? env.locals = none
  cell : ∀ n c, env.cells.lookup n = some c → h.IsCell c (cm n) ∧ ¬ foot H c ∧ c ∉ C.fs ∧ c ≠ env.locals ∧ C.S.base.get? c = none
  apart : ∀ n n' c, env.cells.lookup n = some c → env.cells.lookup n' = some c → n = n'
  var : ∀ (i : Nat) (x : Str) (a : AV), ns[i]? = some (some x) → ρ[i]? = some (some a) → ∃ v, VRel h (foot H) v a ∧
    ((env.kindOf x = some .local ∧ m x = some v) ∨ ((env.kindOf x = some .cell ∨ env.kindOf x = some .free) ∧ (∃ c, env.cells.lookup x = some c) ∧ cm x = some v))
noncomputable def EnvOK (C : Cx) (env : Env) (ns : List (Option Str)) (ρ : List (Option AV)) (h : Heap) (H : AH) : Prop := ∃ m cm, EnvAt C env ns ρ h H m cm
theorem noW_seq {h : Heap} : VarsOnly h noW := fun _ _ q => q.elim
theorem EnvOK.step {C : Cx} {env : Env} {ns : List (Option Str)} {ρ : List (Option AV)} {s s' : Shared} {H H' : AH} (E : EnvOK C env ns ρ s.heap H) (L : Live C s.heap H) (x : Step C noW s H s' H') : EnvOK C env ns ρ s'.heap H' := by
  obtain ⟨m, cm, E⟩ := E
  refine ⟨m, cm, E.fn, E.glob, E.bns, ?_, ?_, E.inj, E.len, E.has, E.locNew, fun n c hc => ?_, E.apart, fun i y a h1 h2 => ?_⟩
  · obtain ⟨o, es, ep, ho, hd, r⟩ := E.loc
    obtain ⟨sl, h1⟩ := x.stays _ o ho E.locOff (fun q => q)
    exact ⟨_, es, ep, h1, hd, r⟩
  · obtain ⟨o, es, ep, ho, hd, r⟩ := E.loc
    exact x.not ho E.locOff
  · obtain ⟨⟨o, ho, hd⟩, h2, h3, h4⟩ := E.cell n c hc
    exact ⟨⟨o, x.keep c o ho h2 (fun q => q) h3, hd⟩, x.not ho h2, h3, h4⟩
  · obtain ⟨v, hv, r⟩ := E.var i y a h1 h2
    exact ⟨v, hv.step x L noW_seq, r⟩
structure St (C : Cx) (env : Env) (ns : List (Option Str)) (ρ : List (Option AV)) (s : Shared) (H : AH) : Prop where
  live : Live C s.heap H
  rep : Rep C.S s.heap H
  env : EnvOK C env ns ρ s.heap H
theorem St.step {C : Cx} {env : Env} {ns : List (Option Str)} {ρ : List (Option AV)} {s s' : Shared} {H H' : AH} (E : St C env ns ρ s H) (x : Step C noW s H s' H') (r : Rep C.S s'.heap H') : St C env ns ρ s' H' :=
  ⟨E.live.step x, r, E.env.step E.live x⟩
end Mine
namespace Mine
mutual
inductive IE where
  | cst (c : AV)
  | var (i : Nat)
  | gv (x : Str)
  | bin (op : Operator) (l r : IE)
  | neg (e : IE)
  | nt (e : IE)
  | bop (and : Bool) (es : IEs)
  | cmp (l : IE) (ops : List CmpOp) (rs : IEs)
  | call (f : Str) (args : IEs)
  | meth (o : IE) (m : Str) (args : IEs)
  | bi (f : Str) (args : IEs)
  | isi (e : IE) (ts : List Str) (tup : Bool)
  | sub (e i : IE)
  | slc (e lo hi st : IE)
  | lst (mt : Bool) (es : IEs)
  | tup (es : IEs)
  | comp (mt : Bool) (j : Nat) (elt it cond : IE)
inductive IEs where
  | nil
  | cons (e : IE) (r : IEs)
end
mutual
inductive IS where
  | expr (e : IE)
  | assign (i : Nat) (e : IE)
  | setitem (o i e : IE)
  | ifs (t : IE) (b o : ISs)
  | for_ (i : Nat) (it : IE) (b : ISs)
  | ret (e : IE)
  | pass
  | raise (c : Str) (msg : Str)
  | trys (b : ISs) (hs : IHs)
inductive ISs where
  | nil
  | cons (s : IS) (r : ISs)
inductive IHs where
  | nil
  | cons (c : Str) (j : Option Nat) (b : ISs) (r : IHs)
end
inductive AF where
  | next | brk | cont
  | ret (a : AV)
noncomputable def upd (H : AH) (a : Addr) (o : AO) : AH := fun x => if x = a then some o else H x
noncomputable def lsOf (H : AH) : AV → Option (List AV)
  | .lst xs => some xs
  | .ref a => match H a with
    | some (.lst xs) => some xs
    | none => none
  | _ => none
mutual
inductive Den (H : AH) : AV → PyData → Prop
  | none : Den H .none .none
  | bool (b : Bool) : Den H (.bool b) (.bool b)
  | int (i : Int) : Den H (.int i) (.int i)
  | str (x : Str) : Den H (.str x) (.str x)
  | tup {xs : List AV} {ds : List PyData} : Dens H xs ds → Den H (.tup xs) (.tuple ds)
  | lst {xs : List AV} {ds : List PyData} : Dens H xs ds → Den H (.lst xs) (.list ds)
  | ref {a : Addr} {xs : List AV} {ds : List PyData} : H a = some (.lst xs) → Dens H xs ds → Den H (.ref a) (.list ds)
inductive Dens (H : AH) : List AV → List PyData → Prop
  | nil : Dens H [] []
  | cons {a : AV} {d : PyData} {as : List AV} {ds : List PyData} : Den H a d → Dens H as ds → Dens H (a :: as) (d :: ds)
end
noncomputable def ltA : AV → AV → Option Bool
  | .int i, .int j => some (decide (i < j))
  | .str x, .str y => some (decide (x.cps.toList < y.cps.toList))
  | _, _ => none
noncomputable def leA : AV → AV → Option Bool
  | .int i, .int j => some (decide (i ≤ j))
  | .str x, .str y => some (!decide (y.cps.toList < x.cps.toList))
  | _, _ => none
noncomputable def AV.isNone : AV → Bool
  | .none => true
  | _ => false
noncomputable def AV.isBool (y : Bool) : AV → Bool
  | .bool x => x == y
  | _ => false
noncomputable def isA (a : AV) : AV → Option Bool
  | .none => some a.isNone
  | .bool y => some (a.isBool y)
  | _ => none
noncomputable def EqOk (H : AH) (a b : AV) (Q : Bool → Prop) : Prop := ∃ da db, Den H a da ∧ Den H b db ∧ min da.depth db.depth ≤ 50 ∧ Q (PyData.eqv da db)
noncomputable def wpIn (H : AH) (a b : AV) (Q : Bool → Prop) : Prop :=
  (∃ xs da ds, lsOf H b = some xs ∧ Den H a da ∧ Dens H xs ds ∧ da.depth ≤ 50 ∧ Q (ds.any fun d => PyData.eqv d da)) ∨
  (∃ x y, a = .str x ∧ b = .str y ∧ Q (Txt.contains y x))
noncomputable def wpCmp (H : AH) (op : CmpOp) (a b : AV) (Q : Bool → Prop) : Prop := match op with
  | .Lt => ∃ r, ltA a b = some r ∧ Q r
  | .LtE => ∃ r, leA a b = some r ∧ Q r
  | .Gt => ∃ r, ltA b a = some r ∧ Q r
  | .GtE => ∃ r, leA b a = some r ∧ Q r
  | .Eq => EqOk H a b Q
  | .NotEq => EqOk H a b fun r => Q (!r)
  | .Is => ∃ r, isA a b = some r ∧ Q r
  | .IsNot => ∃ r, isA a b = some r ∧ Q (!r)
  | .In => wpIn H a b Q
  | .NotIn => wpIn H a b fun r => Q (!r)
noncomputable def wpAdd (H : AH) (a b : AV) (Q : AV → Prop) : Prop := match a with
  | .int i => (match b with
    | .int j => Q (.int (i + j))
    | _ => False)
  | .str x => (match b with
    | .str y => x.length + y.length ≤ sizeLine ∧ Q (.str (x ++ y))
    | _ => False)
  | _ => ∃ xs ys, lsOf H a = some xs ∧ lsOf H b = some ys ∧ xs.length + ys.length ≤ sizeLine ∧ Q (.lst (xs ++ ys))
noncomputable def wpInt (op : Operator) (i j : Int) (Q : AV → Prop) : Prop := match op with
  | .Sub => Q (.int (i - j))
  | .Mult => IntMulOk i j ∧ Q (.int (i * j))
  | .FloorDiv => 0 < j ∧ j < 1073741824 ∧ Q (.int (i / j))
  | .Mod => 0 < j ∧ j < 1073741824 ∧ Q (.int (i % j))
  | _ => False
noncomputable def wpBin (H : AH) (op : Operator) (a b : AV) (Q : AV → Prop) : Prop := match op with
  | .Add => wpAdd H a b Q
  | _ => ∃ i j, a = .int i ∧ b = .int j ∧ wpInt op i j Q
noncomputable def lenA (H : AH) : AV → Option Nat
  | .str x => some x.length
  | .tup xs => some xs.length
  | .lst xs => some xs.length
  | .ref a => match H a with
    | some (.lst xs) => some xs.length
    | none => none
  | _ => none
noncomputable def idxA (k : Int) (n : Nat) : Option Nat := if 0 ≤ k then (if k < n then some k.toNat else none) else if 0 ≤ k + n then some (k + n).toNat else none
noncomputable def wpSub (H : AH) (a i : AV) (Q : AV → Prop) : Prop :=
  (∃ xs k n v, lsOf H a = some xs ∧ i = .int k ∧ -(2 ^ 62 : Int) < k ∧ k < 2 ^ 62 ∧ idxA k xs.length = some n ∧ xs[n]? = some v ∧ Q v) ∨
  (∃ xs k n v, a = .tup xs ∧ i = .int k ∧ -(2 ^ 62 : Int) < k ∧ k < 2 ^ 62 ∧ idxA k xs.length = some n ∧ xs[n]? = some v ∧ Q v) ∨
  (∃ x k n c, a = .str x ∧ i = .int k ∧ -(2 ^ 62 : Int) < k ∧ k < 2 ^ 62 ∧ idxA k x.length = some n ∧ x.cps[n]? = some c ∧ Q (.str ⟨#[c]⟩))
noncomputable def clip (k : Option Int) (n : Nat) (dflt : Nat) : Nat := match k with
  | none => dflt
  | some k => if k < 0 then (if k + n < 0 then 0 else (k + n).toNat) else if k < n then k.toNat else n
noncomputable def cut {α : Type} (xs : List α) (lo hi : Option Int) : List α := (xs.drop (clip lo xs.length 0)).take (clip hi xs.length xs.length - clip lo xs.length 0)
noncomputable def optI : AV → Option (Option Int)
  | .none => some none
  | .int k => if -(2 ^ 62 : Int) < k ∧ k < 2 ^ 62 then some (some k) else none
  | _ => none
noncomputable def wpSlc (H : AH) (a lo hi st : AV) (Q : AV → Prop) : Prop :=
  (∃ xs l u, lsOf H a = some xs ∧ optI lo = some l ∧ optI hi = some u ∧ st = .none ∧ xs.length ≤ sizeLine ∧ Q (.lst (cut xs l u))) ∨
  (∃ x l u, a = .str x ∧ optI lo = some l ∧ optI hi = some u ∧ st = .none ∧ x.length ≤ sizeLine ∧ Q (.str ⟨(cut x.cps.toList l u).toArray⟩))
noncomputable def strsOf : List AV → Option (List Str)
  | [] => some []
  | .str x :: r => (strsOf r).map (x :: ·)
  | _ => none
noncomputable def signs (x : Str) : List AV := x.cps.toList.map fun c => .str ⟨#[c]⟩
noncomputable def span (a b : Int) : List AV := (List.range (b - a).toNat).map fun (k : Nat) => .int (a + k)
noncomputable def iterOf (H : AH) : AV → Option (List AV × (AH → Prop))
  | .lst xs => some (xs, fun _ => True)
  | .tup xs => some (xs, fun _ => True)
  | .str x => some (signs x, fun _ => True)
  | .rng a b => some (span a b, fun _ => -(2 ^ 62 : Int) < a ∧ a < 2 ^ 62 ∧ -(2 ^ 62 : Int) < b ∧ b < 2 ^ 62)
  | .ref r => match H r with
    | some (.lst xs) => some (xs, fun H' => H' r = some (.lst xs))
    | none => none
  | _ => none
noncomputable def newL (mt : Bool) (H : AH) (xs : List AV) (Q : AV → AH → Prop) : Prop :=
  xs.length ≤ sizeLine ∧ match mt with
  | true => ∀ r, ¬ foot H r → Q (.ref r) (upd H r (.lst xs))
  | false => Q (.lst xs) H
noncomputable def wpBi (f : Str) (as : List AV) (H : AH) (Q : AV → AH → Prop) : Prop :=
  (f = "len" ∧ ∃ a n, as = [a] ∧ lenA H a = some n ∧ n < 2 ^ 62 ∧ Q (.int n) H) ∨
  (f = "range" ∧ ∃ n, as = [.int n] ∧ Q (.rng 0 n) H) ∨
  (f = "list" ∧ ∃ a xs, as = [a] ∧ lsOf H a = some xs ∧ newL false H xs Q)
noncomputable def wpMethB (o : AV) (m : Str) (as : List AV) (H : AH) (Q : AV → AH → Prop) : Prop :=
  (m = "append" ∧ ∃ r xs v, o = .ref r ∧ as = [v] ∧ H r = some (.lst xs) ∧ xs.length ≤ sizeLine ∧ Q .none (upd H r (.lst (xs ++ [v])))) ∨
  (m = "join" ∧ ∃ x a xs ys, o = .str x ∧ as = [a] ∧ lsOf H a = some xs ∧ strsOf xs = some ys ∧ JoinOk x ys = true ∧ Q (.str (Txt.join x ys)) H) ∨
  (m = "split" ∧ ∃ x y, o = .str x ∧ as = [.str y] ∧ 0 < y.length ∧ x.length ≤ 100000 ∧ Q (.lst ((Txt.split x y).map .str)) H)
noncomputable def wpSetItem (H : AH) (o i v : AV) (Q : AH → Prop) : Prop :=
  ∃ r xs k n, o = .ref r ∧ H r = some (.lst xs) ∧ i = .int k ∧ -(2 ^ 62 : Int) < k ∧ k < 2 ^ 62 ∧ idxA k xs.length = some n ∧ Q (upd H r (.lst (xs.set n v)))
end Mine
namespace Mine
noncomputable def CallOK (S : Stat) (d : Nat) (f : Addr) (args : List AV) (H : AH) (Q : AV → AH → Prop) (X : Value → AH → Prop) : Prop :=
  ∀ (C : Cx) (s : Shared) (vals : List Value), C.S = S → d ≤ C.d → Live C s.heap H → Rep S s.heap H → VRels s.heap (foot H) vals args →
    codeAny S.M C.A (.call (.ref f) ⟨vals, []⟩) (fun r s' => match r with
      | .ok (.ret v) => Post VRel C noW s H Q v s'
      | .ok _ => False
      | .error e => PostX C noW s H X e s') s
noncomputable def Stat.gint (S : Stat) (x : Str) : Option Int := match nsIn S.K mainGlobals x with
  | some (some (.int i _)) => some i
  | _ => none
noncomputable def Stat.gref (S : Stat) (x : Str) : Option Addr := match nsIn S.K mainGlobals x with
  | some (some (.ref a)) => some a
  | _ => none
noncomputable def Stat.fn (S : Stat) (x : Str) : Option Addr := (S.gref x).bind fun a => if fnIn S.K a then some a else none
noncomputable def Stat.typeV (S : Stat) (x : Str) : Option Value := match nsIn S.K mainGlobals x with
  | some (some (.ref a)) => some (.ref a)
  | some none => bootBuiltins x
  | _ => none
noncomputable def clsOf (H : AH) : AV → Option Value
  | .none => some (.type "NoneType")
  | .bool _ => some (.type "bool")
  | .int _ => some (.type "int")
  | .str _ => some (.type "str")
  | .tup _ => some (.type "tuple")
  | .lst _ => some (.type "list")
  | .ref a => match H a with
    | some _ => some (.type "list")
    | none => none
  | _ => none
noncomputable def Stat.typesV (S : Stat) : List Str → Option (List Value)
  | [] => some []
  | x :: r => (S.typeV x).bind fun v => (S.typesV r).map (v :: ·)
noncomputable def isiA (S : Stat) (H : AH) (a : AV) (ts : List Str) : Option Bool := (clsOf H a).bind fun t => (S.typesV ts).bind (kitAny S.K t)
noncomputable def biM (o : AV) (m : Str) (H : AH) : Option String := match o with
  | .str _ => if m = "join" then some "str.join" else if m = "split" then some "str.split" else none
  | .ref r => match H r with
    | some _ => if m = "append" then some "list.append" else none
    | none => none
  | _ => none
noncomputable def wpMeth (H₁ : AH) (o : AV) (m : Str) (W : (List AV → AH → Prop) → Prop) (Q : AV → AH → Prop) : Prop :=
  ∃ id, biM o m H₁ = some id ∧ W fun as H => biM o m H = some id ∧ wpMethB o m as H Q
noncomputable def del (H : AH) (a : Addr) : AH := fun x => if x = a then none else H x
noncomputable def wpCompL (D : Addr) (same : AH → Prop) (T : AV → AH → (Bool → AH → Prop) → Prop) (E : AV → AH → (AV → AH → Prop) → Prop) : List AV → List AV → AH → (List AV → AH → Prop) → Prop
  | [], acc, H, Q => same H ∧ H D = some (.lst acc) ∧ Q acc H
  | v :: vs, acc, H, Q => same H ∧ T v H fun b H₁ => if b then E v H₁ fun a H₂ => H₂ D = some (.lst acc) ∧ acc.length ≤ sizeLine ∧ wpCompL D same T E vs (acc ++ [a]) (upd H₂ D (.lst (acc ++ [a]))) Q else wpCompL D same T E vs acc H₁ Q
abbrev noX : Value → AH → Prop := fun _ _ => False
mutual
noncomputable def wpE (S : Stat) (d : Nat) : IE → List (Option AV) → AH → (AV → AH → Prop) → (Value → AH → Prop) → Prop
  | .cst c, ρ, H, Q, X => Q c H
  | .var i, ρ, H, Q, X => ∃ a, ρ[i]? = some (some a) ∧ Q a H
  | .gv x, ρ, H, Q, X => ∃ i, S.gint x = some i ∧ Q (.int i) H
  | .bin op l r, ρ, H, Q, X => wpE S d l ρ H (fun a H₁ => wpE S d r ρ H₁ (fun b H₂ => wpBin H₂ op a b fun c => Q c H₂) X) X
  | .neg e, ρ, H, Q, X => wpE S d e ρ H (fun a H₁ => ∃ i, a = .int i ∧ Q (.int (-i)) H₁) X
  | .nt e, ρ, H, Q, X => wpE S d e ρ H (fun a H₁ => ∃ b, a = .bool b ∧ Q (.bool (!b)) H₁) X
  | .bop k es, ρ, H, Q, X => wpBop S d k es ρ H Q X
  | .cmp l ops rs, ρ, H, Q, X => wpE S d l ρ H (fun a H₁ => wpChain S d a ops rs ρ H₁ Q X) X
  | .call f args, ρ, H, Q, X => ∃ fa, S.fn f = some fa ∧ wpEs S d args ρ H (fun as H₁ => CallOK S d fa as H₁ Q X) X
  | .meth o m args, ρ, H, Q, X => wpE S d o ρ H (fun a H₁ => wpMeth H₁ a m (fun K => wpEs S d args ρ H₁ K X) Q) X
  | .bi f args, ρ, H, Q, X => nsIn S.K mainGlobals f = some none ∧ wpEs S d args ρ H (fun as H₁ => wpBi f as H₁ Q) X
  | .isi e ts _, ρ, H, Q, X => nsIn S.K mainGlobals "isinstance" = some none ∧ wpE S d e ρ H (fun a H₁ => ∃ b, isiA S H₁ a ts = some b ∧ Q (.bool b) H₁) X
  | .sub e i, ρ, H, Q, X => wpE S d e ρ H (fun a H₁ => wpE S d i ρ H₁ (fun b H₂ => wpSub H₂ a b fun c => Q c H₂) X) X
  | .slc e lo hi st, ρ, H, Q, X => wpE S d e ρ H (fun a H₁ => wpE S d lo ρ H₁ (fun l H₂ => wpE S d hi ρ H₂ (fun u H₃ => wpE S d st ρ H₃ (fun t H₄ => wpSlc H₄ a l u t fun c => Q c H₄) X) X) X) X
  | .lst mt es, ρ, H, Q, X => wpEs S d es ρ H (fun as H₁ => newL mt H₁ as Q) X
  | .tup es, ρ, H, Q, X => wpEs S d es ρ H (fun as H₁ => as.length ≤ sizeLine ∧ Q (.tup as) H₁) X
  | .comp mt j elt it cond, ρ, H, Q, X => wpE S d it ρ H (fun a H₁ => ∃ xs same, iterOf H₁ a = some (xs, same) ∧ ∀ D, ¬ foot H₁ D →
      wpCompL D same (fun v H' Q' => wpE S d cond (ρ.set j (some v)) H' (fun c H₂ => ∃ b, c = .bool b ∧ Q' b H₂) noX) (fun v H' Q' => wpE S d elt (ρ.set j (some v)) H' Q' noX) xs [] (upd H₁ D (.lst [])) (fun ys H₂ => if mt then Q (.ref D) H₂ else Q (.lst ys) (del H₂ D))) X
noncomputable def wpBop (S : Stat) (d : Nat) (k : Bool) : IEs → List (Option AV) → AH → (AV → AH → Prop) → (Value → AH → Prop) → Prop
  | .nil, ρ, H, Q, X => False
  | .cons e .nil, ρ, H, Q, X => wpE S d e ρ H Q X
  | .cons e (.cons e' r), ρ, H, Q, X => wpE S d e ρ H (fun a H₁ => ∃ b, a = .bool b ∧ if b = k then wpBop S d k (.cons e' r) ρ H₁ Q X else Q (.bool b) H₁) X
noncomputable def wpChain (S : Stat) (d : Nat) (a : AV) (ops : List CmpOp) : IEs → List (Option AV) → AH → (AV → AH → Prop) → (Value → AH → Prop) → Prop
  | .nil, ρ, H, Q, X => False
  | .cons e .nil, ρ, H, Q, X => ∃ op, ops = [op] ∧ wpE S d e ρ H (fun b H₁ => wpCmp H₁ op a b fun c => Q (.bool c) H₁) X
  | .cons e (.cons e' r), ρ, H, Q, X => ∃ op ops', ops = op :: ops' ∧ wpE S d e ρ H (fun b H₁ => wpCmp H₁ op a b fun c => if c then wpChain S d b ops' (.cons e' r) ρ H₁ Q X else Q (.bool false) H₁) X
noncomputable def wpEs (S : Stat) (d : Nat) : IEs → List (Option AV) → AH → (List AV → AH → Prop) → (Value → AH → Prop) → Prop
  | .nil, ρ, H, Q, X => Q [] H
  | .cons e r, ρ, H, Q, X => wpE S d e ρ H (fun a H₁ => wpEs S d r ρ H₁ (fun as H₂ => Q (a :: as) H₂) X) X
end
abbrev RE := List (Option AV)
noncomputable def wpForL (same : AH → Prop) (B : AV → RE → AH → (AF → RE → AH → Prop) → Prop) : List AV → RE → AH → (AF → RE → AH → Prop) → Prop
  | [], ρ, H, Q => same H ∧ Q .next ρ H
  | v :: vs, ρ, H, Q => same H ∧ B v ρ H fun fl ρ₁ H₁ => match fl with
    | .next => wpForL same B vs ρ₁ H₁ Q
    | .cont => wpForL same B vs ρ₁ H₁ Q
    | .brk => Q .next ρ₁ H₁
    | .ret a => Q (.ret a) ρ₁ H₁
noncomputable def dropJ (ρ : RE) : Option Nat → RE
  | none => ρ
  | some j => ρ.set j none
noncomputable def giveJ (ρ : RE) (c : Value) : Option Nat → RE
  | none => ρ
  | some j => ρ.set j (some (.exc c))
mutual
noncomputable def wpS (S : Stat) (d : Nat) : IS → RE → AH → (AF → RE → AH → Prop) → (Value → RE → AH → Prop) → Prop
  | .expr e, ρ, H, Q, X => wpE S d e ρ H (fun _ H₁ => Q .next ρ H₁) fun c H₁ => X c ρ H₁
  | .assign i e, ρ, H, Q, X => wpE S d e ρ H (fun a H₁ => Q .next (ρ.set i (some a)) H₁) fun c H₁ => X c ρ H₁
  | .setitem o i e, ρ, H, Q, X => wpE S d e ρ H (fun v H₁ => wpE S d o ρ H₁ (fun a H₂ => wpE S d i ρ H₂ (fun k H₃ => wpSetItem H₃ a k v fun H₄ => Q .next ρ H₄) fun c H₁ => X c ρ H₁) fun c H₁ => X c ρ H₁) fun c H₁ => X c ρ H₁
  | .ifs t b o, ρ, H, Q, X => wpE S d t ρ H (fun a H₁ => ∃ c, a = .bool c ∧ if c then wpSs S d b ρ H₁ Q X else wpSs S d o ρ H₁ Q X) fun c H₁ => X c ρ H₁
  | .for_ i it b, ρ, H, Q, X => wpE S d it ρ H (fun a H₁ => ∃ xs same, iterOf H₁ a = some (xs, same) ∧ wpForL same (fun v ρ' H' Q' => wpSs S d b (ρ'.set i (some v)) H' Q' fun _ _ _ => False) xs ρ H₁ Q) fun c H₁ => X c ρ H₁
  | .ret e, ρ, H, Q, X => wpE S d e ρ H (fun a H₁ => Q (.ret a) ρ H₁) fun c H₁ => X c ρ H₁
  | .pass, ρ, H, Q, X => Q .next ρ H
  | .raise c msg, ρ, H, Q, X => False
  | .trys b hs, ρ, H, Q, X => wpSs S d b ρ H Q fun c ρ₁ H₁ => wpHs S d hs c ρ₁ H₁ Q X
noncomputable def wpSs (S : Stat) (d : Nat) : ISs → RE → AH → (AF → RE → AH → Prop) → (Value → RE → AH → Prop) → Prop
  | .nil, ρ, H, Q, X => Q .next ρ H
  | .cons s r, ρ, H, Q, X => wpS S d s ρ H (fun fl ρ₁ H₁ => match fl with
    | .next => wpSs S d r ρ₁ H₁ Q X
    | fl => Q fl ρ₁ H₁) X
noncomputable def wpHs (S : Stat) (d : Nat) : IHs → Value → RE → AH → (AF → RE → AH → Prop) → (Value → RE → AH → Prop) → Prop
  | .nil, c, ρ, H, Q, X => X c ρ H
  | .cons cn j b r, c, ρ, H, Q, X => ∃ cv t, S.typeV cn = some cv ∧ subIn S.K c cv = some t ∧ if t then wpSs S d b (giveJ ρ c j) H (fun fl ρ₁ H₁ => Q fl (dropJ ρ₁ j) H₁) X else wpHs S d r c ρ H Q X
end
end Mine
namespace Mine
section
variable {α β : Type} {R : RelT α β} {C : Cx} {s : Shared} {H : AH} {Q : β → AH → Prop} {x : α} {y : β}
theorem post_tok (rp : Rep C.S s.heap H) (r : R s.heap (foot H) x y) (q : Q y H) (t : Nat) : Post R C noW s H Q x { s with toks := t } :=
  ⟨y, H, ⟨fun _ _ e _ _ _ => e, fun _ o e _ _ => ⟨o.slots, e⟩, fun _ o e => ⟨o, e⟩, fun _ q => .inl q, rfl, rfl⟩, rp, r, q⟩
theorem post_here (rp : Rep C.S s.heap H) (r : R s.heap (foot H) x y) (q : Q y H) : Post R C noW s H Q x s := ⟨y, H, Step.refl .., rp, r, q⟩
theorem post_grow {h' : Heap} (rp : Rep C.S s.heap H) (k : ∀ b o, s.heap.get? b = some o → h'.get? b = some o) (r : R h' (foot H) x y) (q : Q y H) (t : Nat) :
    Post R C noW s H Q x { s with heap := h', toks := t } := ⟨y, H, Step.ext k, rp.ext k, r, q⟩
theorem post_push {o : Obj} (rp : Rep C.S s.heap H) (r : R (s.heap.push o) (foot H) x y) (q : Q y H) (t : Nat) :
    Post R C noW s H Q x { s with heap := s.heap.push o, toks := t } := post_grow rp (fun _ _ e => Heap.get?_push_of_some _ e) r q t
end
theorem Rep.fresh {S : Stat} {h : Heap} {H : AH} (R : Rep S h H) : ¬ foot H h.objs.size := fun f => Nat.lt_irrefl _ (R.lt f)
theorem ls_of {S : Stat} {h : Heap} {H : AH} {v : Value} {a : AV} {xs : List AV} (R : Rep S h H) (r : VRel h (foot H) v a) (e : lsOf H a = some xs) : ∃ l vs n, v = .ref l ∧ IsL h l vs n ∧ VRels h (foot H) vs.toList xs := by
  cases r with
  | lst ho nf r => simp only [lsOf, Option.some.injEq] at e; subst e; exact ⟨_, _, _, rfl, ho, r⟩
  | ref a =>
    simp only [lsOf] at e
    split at e
    · rename_i ys q
      cases e
      obtain ⟨vs, n, ho, hr⟩ := R.obj _ _ q
      exact ⟨_, vs, n, rfl, ho, hr⟩
    · cases e
  | _ => simp [lsOf] at e
theorem VRels.size {h : Heap} {F : Addr → Prop} {vs : Array Value} {as : List AV} (r : VRels h F vs.toList as) : vs.size = as.length := by simpa using r.length
theorem Ext.push (h : Heap) (o : Obj) (F : Addr → Prop) : Stays F F h (h.push o) := Stays.of_ext fun _ _ e => Heap.get?_push_of_some _ e
theorem new_lst {S : Stat} {h : Heap} {H : AH} {vs : Array Value} {xs : List AV} (R : Rep S h H) (r : VRels h (foot H) vs.toList xs) : VRel (h.push { cls := .type "list", data := .seq vs }) (foot H) (.ref h.objs.size) (.lst xs) :=
  .lst (IsL.new h vs) R.fresh (r.stays (Ext.push ..))
theorem new_tup {S : Stat} {h : Heap} {H : AH} {vs : Array Value} {xs : List AV} (R : Rep S h H) (r : VRels h (foot H) vs.toList xs) : VRel (h.push { cls := .type "tuple", data := .seq vs }) (foot H) (.ref h.objs.size) (.tup xs) :=
  .tup (IsT.new h vs) R.fresh (r.stays (Ext.push ..))
section
variable {C : Cx} {s : Shared} {H : AH} {Q : AV → AH → Prop} {X : Value → AH → Prop} {v u : Value} {a b : AV}
theorem prim_add (rp : Rep C.S s.heap H) (ra : VRel s.heap (foot H) v a) (rb : VRel s.heap (foot H) u b) (h : wpAdd H a b fun c => Q c H) : Ev VRel C (binaryOp .Add v u) s H Q X := by
  have lists : (∃ xs ys, lsOf H a = some xs ∧ lsOf H b = some ys ∧ xs.length + ys.length ≤ sizeLine ∧ Q (.lst (xs ++ ys)) H) → Ev VRel C (binaryOp .Add v u) s H Q X := by
    rintro ⟨xs, ys, e1, e2, hz, q⟩
    obtain ⟨l, vs, n, rfl, hl, rl⟩ := ls_of rp ra e1
    obtain ⟨l', ws, n', rfl, hl', rl'⟩ := ls_of rp rb e2
    refine P.add_list hl hl' (post_push rp (new_lst rp (by simpa using rl.append rl')) q _) ?_
    rw [rl.size, rl'.size]; exact hz
  cases ra with
  | int i t =>
    cases rb with
    | int j t' => exact add_int (post_tok rp (.int _ _) h _)
    | _ => exact False.elim h
  | str x t ok =>
    cases rb with
    | str y t' ok' => exact PyProof.Rows.add_str (fun t' tk => post_tok rp (.str _ _ (strOk_append ok ok')) h.2 _) h.1
    | _ => exact False.elim h
  | _ => exact lists h
theorem prim_bin {op : Operator} (rp : Rep C.S s.heap H) (ra : VRel s.heap (foot H) v a) (rb : VRel s.heap (foot H) u b) (h : wpBin H op a b fun c => Q c H) : Ev VRel C (binaryOp op v u) s H Q X := by
  by_cases ho : op = .Add
  · subst ho; exact prim_add rp ra rb h
  have h' : ∃ i j, a = .int i ∧ b = .int j ∧ wpInt op i j fun c => Q c H := by cases op <;> first | exact absurd rfl ho | exact h
  clear h
  obtain ⟨i, j, rfl, rfl, h⟩ := h'
  cases ra; cases rb
  cases op with
  | Sub => exact PyProof.Rows.sub_int (post_tok rp (.int _ _) h _)
  | Mult => exact PyProof.Rows.mul_int (post_tok rp (.int _ _) h.2 _) h.1
  | FloorDiv =>
    refine PyProof.Rows.floordiv_int (Int.ne_of_gt h.1) ?_ (.inl (PyProof.noPylong_small (by have := h.1; have := h.2.1; omega)))
    rw [Int.fdiv_eq_ediv_of_nonneg _ (Int.le_of_lt h.1)]
    exact post_tok rp (.int _ _) h.2.2 _
  | Mod =>
    refine PyProof.Rows.mod_int' (Int.ne_of_gt h.1) ?_
    rw [Int.fmod_eq_emod_of_nonneg _ (Int.le_of_lt h.1)]
    exact post_tok rp (.int _ _) h.2.2 _
  | _ => exact False.elim h
end
end Mine
namespace Mine
mutual
theorem den_reads {S : Stat} {h : Heap} {H : AH} (R : Rep S h H) : ∀ {a : AV} {d : PyData}, Den H a d → ∀ {v : Value}, VRel h (foot H) v a → ∃ as, Reads h v d as ∧ d.canLay0 = true
  | _, _, .none, _, r => by cases r; exact ⟨_, .none, rfl⟩
  | _, _, .bool b, _, r => by cases r; exact ⟨_, .bool b, rfl⟩
  | _, _, .int i, _, r => by cases r; exact ⟨_, .int i _, rfl⟩
  | _, _, .str x, _, r => by cases r with | str x t ok => exact ⟨_, .str x _, ok⟩
  | _, _, .tup ds, _, r => by
    cases r with
    | tup ho nf rs => obtain ⟨as, q, l⟩ := dens_reads R ds rs; exact ⟨_, .tuple ho rfl rfl q, l⟩
  | _, _, .lst ds, _, r => by
    cases r with
    | lst ho nf rs => obtain ⟨as, q, l⟩ := dens_reads R ds rs; exact ⟨_, .list ho rfl rfl q, l⟩
  | _, _, .ref e ds, _, r => by
    cases r with
    | ref a =>
      obtain ⟨vs, n, ho, rs⟩ := R.obj _ _ e
      obtain ⟨as, q, l⟩ := dens_reads R ds rs
      exact ⟨_, .list ho rfl rfl q, l⟩
theorem dens_reads {S : Stat} {h : Heap} {H : AH} (R : Rep S h H) : ∀ {as : List AV} {ds : List PyData}, Dens H as ds → ∀ {vs : List Value}, VRels h (foot H) vs as → ∃ bs, ReadsAll h vs ds bs ∧ PyData.canLayAll0 ds = true
  | _, _, .nil, _, r => by cases r; exact ⟨_, .nil, rfl⟩
  | _, _, .cons d ds, _, r => by
    cases r with
    | cons r rs =>
      obtain ⟨a, q, l⟩ := den_reads R d r
      obtain ⟨b, q', l'⟩ := dens_reads R ds rs
      exact ⟨_, .cons q q', by simp only [PyData.canLayAll0, l, l', Bool.and_self]⟩
end
section
variable {prog : Program} {w : World} {A : Around} {E : Value → Shared → Prop} {s : Shared}
open Classical in
noncomputable def eqTo (h : Heap) (da : PyData) (y : Value) : Bool := if ∃ d as, Reads h y d as ∧ d.canLay0 = true ∧ PyData.eqv d da = true then true else false
theorem eqTo_is {h : Heap} {da d : PyData} {y : Value} {as : List Addr} (r : Reads h y d as) (l : d.canLay0 = true) : eqTo h da y = PyData.eqv d da := by
  unfold eqTo
  cases q : PyData.eqv d da with
  | true => rw [if_pos ⟨d, as, r, l, q⟩]
  | false =>
    rw [if_neg]
    rintro ⟨d', as', r', l', q'⟩
    rw [SeqAt.Reads.unique d' d y as' as l' r' r, q] at q'; cases q'
theorem any_eqTo {h : Heap} {da : PyData} : ∀ {vs : List Value} {ds : List PyData} {as : List Addr}, ReadsAll h vs ds as → PyData.canLayAll0 ds = true → vs.any (eqTo h da) = ds.any fun d => PyData.eqv d da
  | _, _, _, .nil, _ => rfl
  | _, _, _, .cons r rs, l => by
    simp only [PyData.canLayAll0, Bool.and_eq_true] at l
    simp only [List.any_cons, eqTo_is r l.1, any_eqTo rs l.2]
theorem readsAll_mem {h : Heap} : ∀ {vs : List Value} {ds : List PyData} {as : List Addr}, ReadsAll h vs ds as → PyData.canLayAll0 ds = true → ∀ y ∈ vs, ∃ d as, Reads h y d as ∧ d.canLay0 = true
  | _, _, _, .nil, _, y, hy => by cases hy
  | _, _, _, .cons r rs, l, y, hy => by
    simp only [PyData.canLayAll0, Bool.and_eq_true] at l
    rcases List.mem_cons.mp hy with rfl | hy
    · exact ⟨_, _, r, l.1⟩
    · exact readsAll_mem rs l.2 y hy
end
section
variable {C : Cx} {s : Shared} {H : AH} {Q : AV → AH → Prop} {X : Value → AH → Prop} {v u : Value} {a b : AV}
theorem prim_in {Q : Bool → Prop} {P : Value → Shared → Prop} {E : Value → Shared → Prop} {neg : Bool} (L : Live C s.heap H) (rp : Rep C.S s.heap H) (ra : VRel s.heap (foot H) v a) (rb : VRel s.heap (foot H) u b) (h : wpIn H a b Q)
    (hP : ∀ r t, Q r → P (.bool (if neg then !r else r)) { s with toks := t }) : wpAny C.S.M C.A (compareOp (if neg then .NotIn else .In) v u) P E s := by
  have hP' : ∀ r, Q r → P (.bool (if neg then !r else r)) s := fun r q => hP r s.toks q
  rcases h with ⟨xs, da, ds, e, hd, hds, hdep, q⟩ | ⟨x, y, rfl, rfl, q⟩
  · obtain ⟨l, vs, n, rfl, hl, rl⟩ := ls_of rp rb e
    obtain ⟨as, rd, la⟩ := den_reads rp hd ra
    obtain ⟨bs, rds, lds⟩ := dens_reads rp hds rl
    have he : ∀ y, y ∈ vs → SeqAt.EqAt C.A.in1 s y v (eqTo s.heap da y) := fun y hy => by
      obtain ⟨d', as', r', l'⟩ := readsAll_mem rds lds y (by simpa using hy)
      rw [eqTo_is r' l']
      refine SeqAt.eqAt_reads d' da C.A.in1 s y v as' as r' rd l' la ?_
      have := L.units
      show C.A.units + 1 + min d'.depth da.depth < cLine
      have := Nat.min_le_right d'.depth da.depth
      omega
    have ea : vs.any (eqTo s.heap da) = ds.any fun d => PyData.eqv d da := by rw [← Array.any_toList]; exact any_eqTo rds lds
    cases neg with
    | false => exact SeqAt.in_listAt _ hl.isList he (by rw [ea]; exact hP' _ q)
    | true => exact SeqAt.notIn_listAt _ hl.isList he (by rw [ea]; exact hP' _ q)
  · cases ra; cases rb
    cases neg with
    | false => exact SB.contains (hP' _ q)
    | true => exact SB.notContains (hP' _ q)
theorem no_some {α : Type} {x : α} {P : Prop} (h : (none : Option α) = some x) : P := nomatch h
theorem ltA_shape {a b : AV} {r : Bool} (e : ltA a b = some r) : (∃ i j, a = .int i ∧ b = .int j ∧ r = decide (i < j)) ∨ ∃ x y, a = .str x ∧ b = .str y ∧ r = decide (x.cps.toList < y.cps.toList) := by
  cases a <;> first | exact no_some e | skip
  · cases b <;> first | exact no_some e | skip
    exact .inl ⟨_, _, rfl, rfl, (Option.some.inj e).symm⟩
  · cases b <;> first | exact no_some e | skip
    exact .inr ⟨_, _, rfl, rfl, (Option.some.inj e).symm⟩
theorem leA_shape {a b : AV} {r : Bool} (e : leA a b = some r) : (∃ i j, a = .int i ∧ b = .int j ∧ r = decide (i ≤ j)) ∨ ∃ x y, a = .str x ∧ b = .str y ∧ r = !decide (y.cps.toList < x.cps.toList) := by
  cases a <;> first | exact no_some e | skip
  · cases b <;> first | exact no_some e | skip
    exact .inl ⟨_, _, rfl, rfl, (Option.some.inj e).symm⟩
  · cases b <;> first | exact no_some e | skip
    exact .inr ⟨_, _, rfl, rfl, (Option.some.inj e).symm⟩
theorem rel_int {h : Heap} {F : Addr → Prop} {v : Value} {i : Int} (r : VRel h F v (.int i)) : ∃ t, v = .int i t := by cases r; exact ⟨_, rfl⟩
theorem rel_str {h : Heap} {F : Addr → Prop} {v : Value} {x : Str} (r : VRel h F v (.str x)) : ∃ t, v = .str x t := by cases r; exact ⟨_, rfl⟩
theorem isA_plain {h : Heap} {F : Addr → Prop} {v u : Value} {a b : AV} {r : Bool} (ra : VRel h F v a) (rb : VRel h F u b) (e : isA a b = some r) : plainIs v u = true ∧ r = (v == u) := by
  cases rb <;> first | exact no_some e | skip
  · rw [← Option.some.inj e]
    cases ra <;> exact ⟨rfl, rfl⟩
  · rename_i y
    rw [← Option.some.inj e]
    cases ra <;> first | exact ⟨rfl, rfl⟩ | (rename_i x; cases x <;> cases y <;> exact ⟨rfl, rfl⟩)
theorem prim_cmp {op : CmpOp} {E : Value → Shared → Prop} (L : Live C s.heap H) (rp : Rep C.S s.heap H) (ra : VRel s.heap (foot H) v a) (rb : VRel s.heap (foot H) u b) (h : wpCmp H op a b fun c => Q (.bool c) H) :
    wpAny C.S.M C.A (compareOp op v u) (Post VRel C noW s H Q) E s := by
  have fin : ∀ c, Q (.bool c) H → Post VRel C noW s H Q (.bool c) s := fun c q => post_here rp (.bool c) q
  cases op with
  | Lt =>
    obtain ⟨r, e, q⟩ := h
    rcases ltA_shape e with ⟨i, j, rfl, rfl, rfl⟩ | ⟨x, y, rfl, rfl, rfl⟩
    · obtain ⟨_, rfl⟩ := rel_int ra; obtain ⟨_, rfl⟩ := rel_int rb; exact PyProof.Rows.lt_int (fin _ q)
    · obtain ⟨_, rfl⟩ := rel_str ra; obtain ⟨_, rfl⟩ := rel_str rb; exact PyProof.Rows.lt_str (fin _ q)
  | LtE =>
    obtain ⟨r, e, q⟩ := h
    rcases leA_shape e with ⟨i, j, rfl, rfl, rfl⟩ | ⟨x, y, rfl, rfl, rfl⟩
    · obtain ⟨_, rfl⟩ := rel_int ra; obtain ⟨_, rfl⟩ := rel_int rb; exact PyProof.Rows.le_int (fin _ q)
    · obtain ⟨_, rfl⟩ := rel_str ra; obtain ⟨_, rfl⟩ := rel_str rb; exact P.le_str (fin _ q)
  | Gt =>
    obtain ⟨r, e, q⟩ := h
    rcases ltA_shape e with ⟨i, j, rfl, rfl, rfl⟩ | ⟨x, y, rfl, rfl, rfl⟩
    · obtain ⟨_, rfl⟩ := rel_int ra; obtain ⟨_, rfl⟩ := rel_int rb; exact PyProof.Rows.gt_int (fin _ q)
    · obtain ⟨_, rfl⟩ := rel_str ra; obtain ⟨_, rfl⟩ := rel_str rb; exact P.gt_str (fin _ q)
  | GtE =>
    obtain ⟨r, e, q⟩ := h
    rcases leA_shape e with ⟨i, j, rfl, rfl, rfl⟩ | ⟨x, y, rfl, rfl, rfl⟩
    · obtain ⟨_, rfl⟩ := rel_int ra; obtain ⟨_, rfl⟩ := rel_int rb; exact PyProof.Rows.ge_int (fin _ q)
    · obtain ⟨_, rfl⟩ := rel_str ra; obtain ⟨_, rfl⟩ := rel_str rb; exact P.ge_str (fin _ q)
  | Eq =>
    obtain ⟨da, db, hda, hdb, hm, q⟩ := h
    obtain ⟨as, r1, l1⟩ := den_reads rp hda ra
    obtain ⟨bs, r2, l2⟩ := den_reads rp hdb rb
    exact SeqAt.compareEq_reads r1 r2 l1 l2 (by have := L.units; omega) (fin _ q)
  | NotEq =>
    obtain ⟨da, db, hda, hdb, hm, q⟩ := h
    obtain ⟨as, r1, l1⟩ := den_reads rp hda ra
    obtain ⟨bs, r2, l2⟩ := den_reads rp hdb rb
    exact SeqAt.compareNe_reads r1 r2 l1 l2 (by have := L.units; omega) (fin _ q)
  | Is =>
    obtain ⟨r, e, q⟩ := h
    exact wpAny_is_plain (isA_plain ra rb e).1 (fin _ ((isA_plain ra rb e).2 ▸ q))
  | IsNot =>
    obtain ⟨r, e, q⟩ := h
    exact wpAny_isNot_plain (isA_plain ra rb e).1 (fin _ ((isA_plain ra rb e).2 ▸ q))
  | In => exact prim_in (neg := false) (Q := fun c => Q (.bool c) H) L rp ra rb h fun r t q => post_tok rp (.bool _) q _
  | NotIn => exact prim_in (neg := true) (Q := fun c => Q (.bool (!c)) H) L rp ra rb h fun r t q => post_tok rp (.bool _) q _
end
end Mine
namespace Mine
theorem pick_range {α : Type} (xs : List α) (a : Nat) : ∀ c : Nat, a + c ≤ xs.length → ((List.range c).map fun k => a + k).filterMap (fun i => xs[i]?) = (xs.drop a).take c
  | 0, _ => by simp
  | c + 1, h => by
    rw [List.range_succ, List.map_append, List.filterMap_append, pick_range xs a c (by omega)]
    have h1 : xs[a + c]? = some xs[a + c] := List.getElem?_eq_getElem (by omega)
    have h2 : (xs.drop a)[c]? = some xs[a + c] := by rw [List.getElem?_drop]; exact h1
    rw [List.take_add_one, h2]
    simp [h1]
theorem sliceRange_one (a b : Nat) : sliceRange a b 1 = (List.range (b - a)).map fun k => a + k := by
  unfold sliceRange
  have : (if (1 : Int) > 0 then (if (a : Int) < b then ((b : Int) - a + 1 - 1) / 1 else 0) else (if (a : Int) > b then ((a : Int) - b - 1 - 1) / (-1) else 0)).toNat = b - a := by
    simp only [show (1 : Int) > 0 by decide, if_true]
    split <;> omega
  simp only [this]
  refine List.map_congr_left fun k _ => ?_
  omega
theorem clip_eq (k : Int) (n : Nat) : ((max 0 (min (if k < 0 then k + n else k) (n : Int)))) = ((clip (some k) n 0 : Nat) : Int) := by
  unfold clip
  simp only
  split <;> split <;> omega
theorem clip_le (k : Option Int) (n d : Nat) (h : d ≤ n) : clip k n d ≤ n := by
  unfold clip
  split
  · exact h
  · split
    · split <;> omega
    · split <;> omega
theorem slice_cut {α : Type} (xs : List α) (lo hi : Option Int) (a b : Int) (ha : a = (clip lo xs.length 0 : Nat)) (hb : b = (clip hi xs.length xs.length : Nat)) :
    (sliceRange a b 1).filterMap (fun i => xs[i]?) = cut xs lo hi := by
  subst ha hb
  rw [sliceRange_one]
  unfold cut
  have h1 := clip_le lo xs.length 0 (Nat.zero_le _)
  have h2 := clip_le hi xs.length xs.length (Nat.le_refl _)
  refine pick_range xs _ _ ?_
  omega
theorem VRels.pick {h : Heap} {F : Addr → Prop} {vs : List Value} {as : List AV} (r : VRels h F vs as) : ∀ is : List Nat, VRels h F (is.filterMap fun i => vs[i]?) (is.filterMap fun i => as[i]?)
  | [] => .nil
  | i :: is => by
    simp only [List.filterMap_cons]
    cases q : as[i]? with
    | none =>
      have : vs[i]? = none := by
        rw [List.getElem?_eq_none_iff] at q ⊢
        rw [r.length]; exact q
      rw [this]
      exact r.pick is
    | some a =>
      obtain ⟨v, hv, rv⟩ := r.get i q
      rw [hv]
      exact .cons rv (r.pick is)
end Mine
namespace Mine
theorem idx_seq {k : Int} {n m : Nat} (h : idxA k n = some m) : seqIndex? k n = some m := by
  unfold idxA at h
  simp only [seqIndex?]
  split at h
  · split at h
    · cases h
      have e : (if k < 0 then k + (n : Int) else k) = k := if_neg (by omega)
      rw [e, if_pos (by simp; omega)]
    · cases h
  · split at h
    · cases h
      have e : (if k < 0 then k + (n : Int) else k) = k + n := if_pos (by omega)
      rw [e, if_pos (by simp; omega)]
    · cases h
section
variable {C : Cx} {s : Shared} {H : AH} {Q : AV → AH → Prop} {X : Value → AH → Prop} {v u : Value} {a b : AV}
theorem prim_sub (L : Live C s.heap H) (rp : Rep C.S s.heap H) (ra : VRel s.heap (foot H) v a) (rb : VRel s.heap (foot H) u b) (h : wpSub H a b fun c => Q c H) : Ev VRel C (getItem v u) s H Q X := by
  rcases h with ⟨xs, k, n, c, e, rfl, lo, hi, hn, hx, q⟩ | ⟨xs, k, n, c, rfl, rfl, lo, hi, hn, hx, q⟩ | ⟨x, k, n, c, rfl, rfl, lo, hi, hn, hx, q⟩
  · obtain ⟨l, vs, m, rfl, hl, rl⟩ := ls_of rp ra e
    obtain ⟨y, hy, ry⟩ := rl.get n hx
    cases rb
    by_cases hk : 0 ≤ k
    · have : n = k.toNat := by unfold idxA at hn; rw [if_pos hk] at hn; split at hn <;> simp at hn; exact hn.symm
      subst this
      exact wpAny_getItem_list hl.isList hk (by omega) (by simpa using hy) (post_here rp ry q)
    · have h1 : 0 ≤ k + xs.length ∧ n = (k + xs.length).toNat := by
        unfold idxA at hn; rw [if_neg hk] at hn; split at hn <;> simp at hn; exact ⟨by assumption, hn.symm⟩
      have hs := rl.size
      refine wpAny_getItem_list_neg hl.isList (by omega) (by rw [hs]; omega) (by omega) ?_ (post_here rp ry q)
      rw [hs, ← h1.2]; simpa using hy
  · cases ra with
    | tup ho nf rl =>
      cases rb
      obtain ⟨y, hy, ry⟩ := rl.get n hx
      exact P.getItem_tuple ho (by omega) (by omega) (by rw [rl.size]; exact idx_seq hn) (by simpa using hy) (post_here rp ry q)
  · cases ra with
    | str x t ok =>
      cases rb
      refine PyProof.Rows.getItem_str (c := c) (by simp; omega) (by rw [idx_seq hn]; exact hx) (post_tok rp (.str _ _ (strOk_sub ok ?_)) q _)
      intro d hd
      simp only [List.mem_singleton] at hd
      subst hd
      exact List.mem_of_getElem? (i := n) (by rw [Array.getElem?_toList]; exact hx)
theorem optI_part {v : Value} {a : AV} {o : Option Int} {h : Heap} {F : Addr → Prop} (r : VRel h F v a) (e : optI a = some o) : IsPart v o := by
  cases r <;> simp only [optI, reduceCtorEq, Option.some.injEq] at e
  · subst e; exact .none
  · split at e
    · cases e; exact .int _ _
    · cases e
theorem optI_partS {v : Value} {a : AV} {o : Option Int} {h : Heap} {F : Addr → Prop} (r : VRel h F v a) (e : optI a = some o) : ∃ p : Option (Int × Tok), v = partValue p ∧ p.map (·.1) = o := by
  cases r <;> simp only [optI, reduceCtorEq, Option.some.injEq] at e
  · subst e; exact ⟨none, rfl, rfl⟩
  · rename_i i t
    split at e
    · cases e; exact ⟨some (i, t), rfl, rfl⟩
    · cases e
theorem bounds_cut (lo hi : Option Int) (n : Nat) : sliceBounds lo hi none n = (((clip lo n 0 : Nat) : Int), ((clip hi n n : Nat) : Int), 1) := by
  unfold sliceBounds
  cases lo <;> cases hi <;> simp only [Option.getD_none, show (1 : Int) > 0 by decide, if_true]
  · rfl
  · rename_i k; rw [clip_eq k n]; rfl
  · rename_i k; rw [clip_eq k n]; rfl
  · rename_i k k'; rw [clip_eq k n, clip_eq k' n]; rfl
theorem strSlice_cut (lo hi : Option Int) (n : Nat) : Builtin.Str.strSliceIndices lo hi 1 n = sliceRange ((clip lo n 0 : Nat) : Int) ((clip hi n n : Nat) : Int) 1 := by
  unfold Builtin.Str.strSliceIndices
  cases lo <;> cases hi <;> simp only [show (1 : Int) > 0 by decide, if_true]
  · rfl
  · rename_i k; rw [clip_eq k n]; rfl
  · rename_i k; rw [clip_eq k n]; rfl
  · rename_i k k'; rw [clip_eq k n, clip_eq k' n]; rfl
theorem pick_toList (vs : Array Value) (is : List Nat) : (is.filterMap (vs[·]?)).toArray.toList = is.filterMap fun i => vs.toList[i]? := by
  simp
theorem prim_slc {w₁ w₂ w₃ : Value} {lo hi st : AV} (L : Live C s.heap H) (rp : Rep C.S s.heap H) (ra : VRel s.heap (foot H) v a) (r1 : VRel s.heap (foot H) w₁ lo) (r2 : VRel s.heap (foot H) w₂ hi) (r3 : VRel s.heap (foot H) w₃ st)
    (h : wpSlc H a lo hi st fun c => Q c H) {g : Addr} (hg : s.heap.IsSliceOf g w₁ w₂ w₃) : Ev VRel C (getItem v (.ref g)) s H Q X := by
  rcases h with ⟨xs, l, u, e, h1, h2, rfl, hz, q⟩ | ⟨x, l, u, rfl, h1, h2, rfl, hz, q⟩
  · obtain ⟨k, vs, m, rfl, hl, rl⟩ := ls_of rp ra e
    cases r3
    refine wpAny_getItem_list_slice hl.isList hg (optI_part r1 h1) (optI_part r2 h2) .none (fun x => nomatch x) (post_push rp (new_lst rp ?_) q _) (by rw [rl.size]; exact hz)
    unfold slicePick
    rw [pick_toList, bounds_cut]
    have := rl.pick (sliceRange ((clip l vs.size 0 : Nat) : Int) ((clip u vs.size vs.size : Nat) : Int) 1)
    rw [slice_cut xs l u _ _ (by rw [rl.size]) (by rw [rl.size])] at this
    exact this
  · cases ra with
    | str x t ok =>
      cases r3
      obtain ⟨p1, rfl, e1⟩ := optI_partS r1 h1
      obtain ⟨p2, rfl, e2⟩ := optI_partS r2 h2
      obtain ⟨o, ho, hc, hd⟩ := hg
      have hsub : ∀ c ∈ cut x.cps.toList l u, c ∈ x.cps.toList := fun c hc => List.mem_of_mem_drop (List.mem_of_mem_take hc)
      have hok : PyData.strOk (⟨(cut x.cps.toList l u).toArray⟩ : Str) = true := strOk_sub ok (by simpa using hsub)
      have hp : slicePicked x p1 p2 none = sliceRange ((clip l x.length 0 : Nat) : Int) ((clip u x.length x.length : Nat) : Int) 1 := by
        unfold slicePicked
        rw [e1, e2]
        exact strSlice_cut l u x.length
      have hlen : x.cps.toList.length = x.length := by simp [Str.length]
      have hc2 : (slicePicked x p1 p2 none).filterMap (x.cps[·]?) = cut x.cps.toList l u := by
        rw [hp, ← slice_cut x.cps.toList l u _ _ (by rw [hlen]) (by rw [hlen])]
        simp
      refine wpAny_getItem_str_slice (l := p1) (u := p2) (st := none) ⟨o, ho, hc, hd⟩ rfl ?_
      unfold sliceMade
      split
      · rename_i hh
        have hfull : cut x.cps.toList l u = x.cps.toList := by
          simp only [Option.map_none, Option.getD_none, Bool.and_eq_true, beq_iff_eq] at hh
          have h3 := hh.2
          rw [hp, sliceRange_one] at h3
          simp only [List.length_map, List.length_range] at h3
          have b1 := clip_le l x.length 0 (Nat.zero_le _)
          have b2 := clip_le u x.length x.length (Nat.le_refl _)
          unfold cut
          rw [hlen]
          have z1 : clip l x.length 0 = 0 ∨ x.length = 0 := by omega
          rcases z1 with z | z
          · rw [z] at h3 ⊢
            simp only [List.drop_zero]
            exact List.take_of_length_le (by omega)
          · have : x.cps.toList = [] := List.eq_nil_of_length_eq_zero (by omega)
            rw [this]; simp
        rw [hfull] at q
        exact post_here rp (.str _ _ ok) q
      · rw [hc2]
        refine ⟨?_, post_tok rp (.str _ _ hok) q _⟩
        show (cut x.cps.toList l u).toArray.size ≤ sizeLine
        rw [List.size_toArray]
        unfold cut
        rw [List.length_take, List.length_drop]
        omega
end
end Mine
namespace Mine
theorem size_none (h : Heap) : h.get? h.objs.size = none := by
  cases e : h.get? h.objs.size with
  | none => rfl
  | some o => exact absurd (Heap.lt_size e) (Nat.lt_irrefl _)
theorem foot_upd {H : AH} {r : Addr} {ao : AO} {a : Addr} (h : foot (upd H r ao) a) : foot H a ∨ a = r := by
  by_cases e : a = r
  · exact .inr e
  · unfold foot at h; rw [upd, if_neg e] at h; exact .inl h
theorem Rep.off {S : Stat} {h : Heap} {H : AH} {r : Addr} (R : Rep S h H) (hr : h.get? r = none) : ¬ foot H r := fun f => by
  cases q : H r with
  | none => exact f q
  | some ao => cases ao with
    | lst xs => obtain ⟨vs, n, ho, _⟩ := R.obj r _ q; exact nomatch hr.symm.trans ho
theorem rep_upd {S : Stat} {h h' : Heap} {H : AH} {r : Addr} {ao : AO} (R : Rep S h H) (k : ∀ b o, b ≠ r → h.get? b = some o → h'.get? b = some o) (K : Stays (foot H) (foot (upd H r ao)) h h') (ho : ORel h' (foot (upd H r ao)) r ao) : Rep S h' (upd H r ao) := by
  refine ⟨fun a ao' e => ?_⟩
  by_cases q : a = r
  · subst q; rw [upd, if_pos rfl] at e; cases e; exact ho
  · rw [upd, if_neg q] at e
    cases ao' with
    | lst xs => obtain ⟨vs, n, hl, v⟩ := R.obj a _ e; exact ⟨vs, n, k a _ q hl, v.stays K⟩
section
variable {C : Cx} {s : Shared} {H : AH} {Q : AV → AH → Prop} {X : Value → AH → Prop}
theorem post_newL {mt : Bool} {h' : Heap} {r : Addr} {vs : Array Value} {n tk : Nat} {xs : List AV} (rp : Rep C.S s.heap H) (k : ∀ b o, s.heap.get? b = some o → h'.get? b = some o) (hr : s.heap.get? r = none)
    (hl : IsL h' r vs n) (rl : VRels s.heap (foot H) vs.toList xs) (q : newL mt H xs Q) : Post VRel C noW s H Q (.ref r) { s with heap := h', toks := tk } := by
  have nf := rp.off hr
  cases mt with
  | false =>
    have K : Stays (foot H) (foot H) s.heap h' := ⟨fun b o e _ => k b o e, fun _ q => .inl q⟩
    exact post_grow rp k (.lst hl nf (rl.stays K)) q.2 tk
  | true =>
    have g : ∀ a, foot (upd H r (.lst xs)) a → foot H a ∨ s.heap.get? a = none := fun a f => (foot_upd f).imp id fun (e : a = r) => e ▸ hr
    have K : Stays (foot H) (foot (upd H r (.lst xs))) s.heap h' := ⟨fun b o e _ => k b o e, g⟩
    have rp' := rep_upd (ao := .lst xs) rp (fun b o _ e => k b o e) K ⟨vs, n, hl, rl.stays K⟩
    exact ⟨.ref r, upd H r (.lst xs), ⟨fun b o e _ _ _ => k b o e, fun b o e _ _ => ⟨o.slots, k b o e⟩, fun b o e => ⟨o, k b o e⟩, g, rfl, rfl⟩, rp', .ref r, q.2 r nf⟩
end
end Mine
namespace Mine
noncomputable def biV (f : Str) : Value := if f = "len" then .builtin "len" else if f = "range" then .type "range" else .type "list"
section
variable {C : Cx} {s : Shared} {H : AH} {Q : AV → AH → Prop} {X : Value → AH → Prop}
theorem vrels1 {h : Heap} {F : Addr → Prop} {vs : List Value} {a : AV} (r : VRels h F vs [a]) : ∃ v, vs = [v] ∧ VRel h F v a := by
  cases r with
  | cons r rs => cases rs; exact ⟨_, rfl, r⟩
theorem prim_bi {f : Str} {as : List AV} {vals : List Value} (L : Live C s.heap H) (rp : Rep C.S s.heap H) (ra : VRels s.heap (foot H) vals as) (h : wpBi f as H Q) : Ev VRel C (call (biV f) vals) s H Q X := by
  rcases h with ⟨rfl, a, n, rfl, e, hn, q⟩ | ⟨rfl, n, rfl, q⟩ | ⟨rfl, a, xs, rfl, e, q⟩
  · obtain ⟨v, rfl, r⟩ := vrels1 ra
    have hn' : (n : Int) < 2 ^ 63 := by omega
    cases r with
    | str x t ok => simp only [lenA, Option.some.injEq] at e; subst e; exact PyProof.Rows.len_str (by omega) (post_tok rp (.int _ _) q _)
    | tup ho nf rl => simp only [lenA, Option.some.injEq] at e; subst e; exact P.len_tuple ho (by rw [rl.size]; omega) (by rw [rl.size]; exact post_tok rp (.int _ _) q _)
    | lst ho nf rl => simp only [lenA, Option.some.injEq] at e; subst e; exact PyProof.Rows.len_list ho.isList (by rw [rl.size]; omega) (by rw [rl.size]; exact post_tok rp (.int _ _) q _)
    | ref a =>
      simp only [lenA] at e
      split at e
      · rename_i xs hx
        cases e
        obtain ⟨vs, m, ho, rl⟩ := rp.obj _ _ hx
        exact PyProof.Rows.len_list ho.isList (by rw [rl.size]; omega) (by rw [rl.size]; exact post_tok rp (.int _ _) q _)
      · cases e
    | _ => simp [lenA] at e
  · obtain ⟨v, rfl, r⟩ := vrels1 ra
    cases r
    exact call_range_1 (post_push rp (.rng (Heap.get?_push_size _ rfl) rp.fresh) q _)
  · obtain ⟨v, rfl, r⟩ := vrels1 ra
    obtain ⟨l, vs, n, rfl, hl, rl⟩ := ls_of rp r e
    exact call_list_seq l (T := "list") (.inl rfl) hl rfl rfl (fun h' c hk hD => post_newL rp hk (size_none _) hD rl q) (by rw [rl.size]; exact q.1)
end
end Mine
namespace Mine
section
variable {α β : Type} {RR : RelT α β} {C : Cx} {s : Shared} {H : AH} {Q : β → AH → Prop} {x : α} {y : β}
theorem post_setO {h' : Heap} {r : Addr} {ao ao' : AO} {tk : Nat} (L : Live C s.heap H) (rp : Rep C.S s.heap H) (e : H r = some ao)
    (k : ∀ b o, b ≠ r → s.heap.get? b = some o → h'.get? b = some o) (hr : ∃ o, h'.get? r = some o) (ho : Stays (foot H) (foot (upd H r ao')) s.heap h' → ORel h' (foot (upd H r ao')) r ao')
    (rx : Stays (foot H) (foot (upd H r ao')) s.heap h' → RR h' (foot (upd H r ao')) x y) (q : Q y (upd H r ao')) : Post RR C noW s H Q x { s with heap := h', toks := tk } := by
  have hf : foot H r := by unfold foot; rw [e]; exact fun x => nomatch x
  have K : Stays (foot H) (foot (upd H r ao')) s.heap h' := ⟨fun b o z n => k b o (fun q => n (q ▸ hf)) z, fun a f => .inl ((foot_upd f).elim id fun q => q ▸ hf)⟩
  refine ⟨y, upd H r ao', ⟨fun b o z n _ _ => K.keep b o z n, fun b o z hb _ => ⟨o.slots, K.keep b o z (L.off b hb)⟩, fun b o z => ?_, K.grow, rfl, rfl⟩, rep_upd rp k K (ho K), rx K, q⟩
  by_cases h1 : b = r
  · subst h1; exact hr
  · exact ⟨o, k b o h1 z⟩
end
section
variable {C : Cx} {s : Shared} {H : AH} {Q : AV → AH → Prop}
theorem post_setL {h' : Heap} {r : Addr} {xs ys : List AV} {vs : Array Value} {n tk : Nat} (L : Live C s.heap H) (rp : Rep C.S s.heap H) (e : H r = some (.lst xs)) (k : Heap.SameBut r s.heap h') (hl : IsL h' r vs n) (rl : VRels s.heap (foot H) vs.toList ys) (q : Q .none (upd H r (.lst ys))) :
    Post VRel C noW s H Q .none { s with heap := h', toks := tk } :=
  post_setO L rp e (fun b o hb z => (k.2 b hb).trans z) ⟨_, hl⟩ (fun K => ⟨vs, n, hl, rl.stays K⟩) (fun _ => .none) q
end
theorem strs_vals {h : Heap} {F : Addr → Prop} : ∀ {vs : List Value} {xs : List AV} {ys : List Str}, VRels h F vs xs → strsOf xs = some ys → ∃ l : List (Str × Tok), vs = strValues l ∧ l.map (·.1) = ys ∧ ∀ y ∈ ys, PyData.strOk y = true
  | _, _, _, .nil, e => by simp [strsOf] at e; subst e; exact ⟨[], rfl, rfl, fun _ h => nomatch h⟩
  | _, _, _, .cons r rs, e => by
    cases r with
    | str x t ok =>
      simp only [strsOf] at e
      obtain ⟨ys', h1, rfl⟩ := Option.map_eq_some_iff.mp e
      obtain ⟨l, rfl, h2, h3⟩ := strs_vals rs h1
      exact ⟨(x, t) :: l, rfl, by simp [h2], fun y hy => by rcases List.mem_cons.mp hy with rfl | hy; exact ok; exact h3 y hy⟩
    | _ => simp [strsOf] at e
end Mine
namespace Mine
theorem join_mem (sep : Str) : ∀ (ys : List Str), ∀ c ∈ (Str.join sep ys).cps.toList, c ∈ sep.cps.toList ∨ ∃ y ∈ ys, c ∈ y.cps.toList
  | [], c, hc => by simp [Str.join, Str.empty] at hc
  | [x], c, hc => .inr ⟨x, .head _, hc⟩
  | x :: y :: r, c, hc => by
    have e : Str.join sep (x :: y :: r) = x ++ sep ++ Str.join sep (y :: r) := rfl
    rw [e, Str.cps_append, Str.cps_append] at hc
    simp only [Array.toList_append, List.mem_append] at hc
    rcases hc with (hc | hc) | hc
    · exact .inr ⟨x, .head _, hc⟩
    · exact .inl hc
    · rcases join_mem sep (y :: r) c hc with h | ⟨z, hz, h⟩
      · exact .inl h
      · exact .inr ⟨z, .tail _ hz, h⟩
theorem join_ok {sep : Str} {ys : List Str} (hs : PyData.strOk sep = true) (hy : ∀ y ∈ ys, PyData.strOk y = true) : PyData.strOk (Txt.join sep ys) = true := by
  show PyData.strOk (Builtin.Str.glued sep ys) = true
  rw [StrLaws.glued_eq_join, strOk_iff]
  intro c hc
  rcases join_mem sep ys c hc with h | ⟨z, hz, h⟩
  · exact (strOk_iff.mp hs) c h
  · exact (strOk_iff.mp (hy z hz)) c h
theorem split_ok {x y : Str} (hx : PyData.strOk x = true) : ∀ p ∈ Txt.split x y, PyData.strOk p = true := by
  intro p hp
  unfold Txt.split at hp
  split at hp
  · simp only [List.mem_singleton] at hp; subst hp; exact hx
  · split at hp
    · simp only [List.mem_singleton] at hp; subst hp; exact hx
    · unfold Builtin.Str.partsBetween at hp
      obtain ⟨⟨i, j⟩, _, rfl⟩ := List.mem_map.mp hp
      refine strOk_sub hx fun c hc => ?_
      rw [StrLaws.strSub_toList] at hc
      exact List.mem_of_mem_drop (List.mem_of_mem_take hc)
theorem split_call {prog : Program} {w : World} {A : Around} {E : Value → Shared → Prop} {s : Shared} {x y : Str} {t u : Tok} {Q : Value → Shared → Prop} (hy : (y.length == 0) = false) (hsz : x.length + 2 ≤ sizeLine)
    (h : ∀ (l : List (Str × Tok)) (k : Nat), l.map (·.1) = Txt.split x y → Q (.ref s.heap.objs.size) { s with heap := s.heap.push { cls := .type "list", data := .seq (strValues l).toArray }, toks := k }) :
    wpAny (model prog w) A (call (.builtin "str.split") [.str x t, .str y u]) Q E s := by
  have hn : (Builtin.Str.partsBetween x (Builtin.Str.occurrences x y 0 x.length (x.length + 1)) y.length).length ≤ sizeLine := by
    have e1 := StrLaws.occ_length_le x y 0 x.length (x.length + 1)
    rw [length_partsBetween]; omega
  cases h1 : (decide (x.length < y.length) || decide (Builtin.Str.strKind x < Builtin.Str.strKind y))
  · cases hf : (Builtin.Str.occurrences x y 0 x.length (x.length + 1)).isEmpty
    · refine call_meets F.slot_str_split (typeIs_str _ _ _) F.entry_str_split (F.args_str_split_2 _ _) (meets_str_split_sep x y t u h1 hy hf (by omega) hn) ?_
      show wants Q E _ { s with toks := _, heap := s.heap.push { cls := .type "list", data := .seq (strsFrom s.toks (Builtin.Str.partsBetween x (Builtin.Str.occurrences x y 0 x.length (x.length + 1)) y.length)).toArray } }
      rw [strsFrom_eq]
      exact h (numbered s.toks _) _ ((numbered_texts _ _).trans ((if_neg (ne_true_of_eq_false h1)).trans (if_neg (ne_true_of_eq_false hf))).symm)
    · exact call_meets F.slot_str_split (typeIs_str _ _ _) F.entry_str_split (F.args_str_split_2 _ _) (meets_str_split_not_found x y t u h1 hy hf)
        (h [(x, t)] s.toks ((if_neg (ne_true_of_eq_false h1)).trans (if_pos hf)).symm)
  · exact call_meets F.slot_str_split (typeIs_str _ _ _) F.entry_str_split (F.args_str_split_2 _ _) (meets_str_split_cannot_occur x y t u h1)
      (h [(x, t)] s.toks (if_pos h1).symm)
theorem strs_rel {h : Heap} {F : Addr → Prop} : ∀ (l : List (Str × Tok)), (∀ y ∈ l.map (·.1), PyData.strOk y = true) → VRels h F (strValues l) ((l.map (·.1)).map .str)
  | [], _ => .nil
  | p :: r, hk => .cons (.str p.1 p.2 (hk p.1 (.head _))) (strs_rel r fun y hy => hk y (.tail _ hy))
section
variable {C : Cx} {s : Shared} {H : AH} {Q : AV → AH → Prop} {X : Value → AH → Prop}
theorem prim_methB {o : AV} {m : Str} {id : String} {as : List AV} {v : Value} {vals : List Value} (L : Live C s.heap H) (rp : Rep C.S s.heap H) (ro : VRel s.heap (foot H) v o) (ra : VRels s.heap (foot H) vals as)
    (hid : biM o m H = some id) (h : wpMethB o m as H Q) : Ev VRel C (call (.builtin id) (v :: vals)) s H Q X := by
  rcases h with ⟨rfl, r, xs, a, rfl, rfl, e, hz, q⟩ | ⟨rfl, x, a, xs, ys, rfl, rfl, e, hs, hj, q⟩ | ⟨rfl, x, y, rfl, rfl, hy, hx, q⟩
  · obtain ⟨u, rfl, ru⟩ := vrels1 ra
    cases ro
    obtain ⟨vs, n, hl, rl⟩ := rp.obj _ _ e
    simp only [biM, e] at hid
    obtain rfl : "list.append" = id := Option.some.inj (Eq.trans (by decide) hid)
    refine call_meets F.slot_list_append ⟨_, hl, rfl⟩ F.entry_list_append (F.args_list_append_2 _ _) (list_append r vs n u (by rw [rl.size]; exact hz)) ⟨hl, ?_⟩
    exact post_setL L rp e (Heap.SameBut.update ..) (IsL.update hl _) (by simpa using rl.snoc ru) q
  · obtain ⟨u, rfl, ru⟩ := vrels1 ra
    cases ro with
    | str x t ok =>
      obtain ⟨l, vs, n, rfl, hl, rl⟩ := ls_of rp ru e
      simp only [biM] at hid
      obtain rfl : "str.join" = id := Option.some.inj (Eq.trans (by decide) hid)
      obtain ⟨ll, h1, h2, h3⟩ := strs_vals rl hs
      refine SC.join (l := ll) (by rw [← h1]; simpa using hl.isList) h2 hj fun t' k => post_tok rp (.str _ _ (join_ok ok h3)) q _
  · obtain ⟨u, rfl, ru⟩ := vrels1 ra
    cases ro with
    | str x t ok => cases ru with
      | str y t' ok' =>
        simp only [biM] at hid
        obtain rfl : "str.split" = id := Option.some.inj (Eq.trans (by decide) hid)
        refine split_call (by simpa using Nat.pos_iff_ne_zero.mp hy) (by rw [sizeLine_eq]; omega) fun l k he => ?_
        refine post_push rp (new_lst rp ?_) q _
        rw [← he]
        exact strs_rel l (by rw [he]; exact split_ok ok)
end
end Mine
namespace Mine
theorem Live.K {C : Cx} {h : Heap} {H : AH} (L : Live C h H) : C.S.K.In h := C.S.hK.keeps L.stays
section
variable {C : Cx} {s : Shared} {H : AH} {Q : Unit → AH → Prop} {X : Value → AH → Prop} {v : Value} {a : AV}
theorem prim_setItem {o i : AV} {u w : Value} (L : Live C s.heap H) (rp : Rep C.S s.heap H) (ro : VRel s.heap (foot H) u o) (ri : VRel s.heap (foot H) w i) (rv : VRel s.heap (foot H) v a) (h : wpSetItem H o i a fun H' => Q () H') :
    Ev EqR C (setItem u w v) s H Q X := by
  obtain ⟨r, xs, k, n, rfl, e, rfl, lo, hi, hn, q⟩ := h
  · cases ro; cases ri
    obtain ⟨vs, m, hl, rl⟩ := rp.obj _ _ e
    have hs := rl.size
    have fin : ∀ j, j = n → Post EqR C noW s H Q () { s with heap := s.heap.update r (Obj.mapSeq (·.setIfInBounds j v)) } := by
      rintro j rfl
      refine post_setO (y := ()) (tk := s.toks) L rp e (fun b o hb z => (Heap.get?_update_other _ _ (Ne.symm hb)).trans z) ⟨_, IsL.update hl _⟩ (fun K => ⟨_, _, IsL.update hl _, ?_⟩) (fun _ => rfl) q
      simpa using VRels.set (rv.stays K) (rl.stays K) j
    by_cases h0 : 0 ≤ k
    · have : k.toNat = n ∧ k < xs.length := by unfold idxA at hn; rw [if_pos h0] at hn; split at hn <;> simp at hn; exact ⟨hn, by assumption⟩
      exact ki_setAt hl h0 (by omega) (by rw [hs]; exact this.2) (fin _ this.1)
    · have : 0 ≤ k + xs.length ∧ (k + xs.length).toNat = n := by unfold idxA at hn; rw [if_neg h0] at hn; split at hn <;> simp at hn; exact ⟨by assumption, hn⟩
      refine ki_setBack hl (by omega) (by rw [hs]; omega) (by omega) (fin _ ?_)
      rw [hs]; exact this.2
end
end Mine
namespace Mine
structure Dl where
  sc : List (Str × NameKind)
  ns : List (Option Str)
noncomputable def constA : Const → Option AV
  | .none => some .none
  | .bool b => some (.bool b)
  | .int i => some (.int i)
  | .str x => if PyData.strOk x then some (.str x) else none
  | _ => none
noncomputable def eqC : AV → AV → Bool
  | .none, .none => true
  | .bool a, .bool b => a == b
  | .int i, .int j => decide (i = j)
  | .str x, .str y => x == y
  | _, _ => false
theorem eqC_eq {a b : AV} (h : eqC a b = true) : a = b := by
  cases a <;> cases b <;> simp [eqC] at h <;> simp [h]
noncomputable def plainBase : Expr → Bool
  | .Call (.Name _ _) [] [] _ => false
  | _ => true
noncomputable def notSlice : Expr → Bool
  | .Slice .. => false
  | _ => true
noncomputable def notSet : Expr → Bool
  | .Set .. => false
  | _ => true
noncomputable def notStar : Expr → Bool
  | .Starred .. => false
  | _ => true
noncomputable def glob (D : Dl) (x : Str) : Bool := D.sc.lookup x == some .globalImplicit && !(x == ("__debug__" : Str)) && !(x == ("__name__" : Str))
noncomputable def relN (sc names : List (Str × NameKind)) : List (Str × NameKind) := names.map fun (n, k) => if (k == .free && sc.lookup n == some .cell) then (n, .cell) else (n, k)
noncomputable def nsC (ns : List (Option Str)) (names : List (Str × NameKind)) (j : Nat) (x : Str) : List (Option Str) :=
  (List.range ns.length).map fun i => if i = j then some x else (ns[i]?.bind id).bind fun y => if names.lookup y == some .free then some y else none
noncomputable def compOK (D : Dl) (j : Nat) (x : Str) (sc : Scope) : Bool :=
  sc.kind == .function && decide (j < D.ns.length) && sc.names.lookup x == some .local && (sc.names.all fun y => y.2 != .cell) && (sc.names.all fun y => y.2 != .local || sc.names.lookup y.1 == some .local) &&
  (sc.names.all fun y => y.2 != .free || D.sc.lookup y.1 == some .cell || D.sc.lookup y.1 == some .free) && !(x == ("__debug__" : Str))
noncomputable def typeNames : Expr → Option (List Str × Bool)
  | .Name x _ => some ([x], false)
  | .Tuple es _ _ => (go es).map (·, true)
  | _ => none
where go : List Expr → Option (List Str)
  | [] => some []
  | .Name x _ :: r => (go r).map (x :: ·)
  | _ => none
noncomputable def isBi (f : Str) : Bool := ["len", "range", "list"].any fun (n : String) => f == (Str.ofString n)
mutual
noncomputable def chk (D : Dl) : IE → Expr → Bool
  | .cst c, .Constant k _ _ => match constA k with
    | some a => eqC c a
    | none => false
  | .var i, .Name x _ => D.ns[i]? == some (some x) && !(x == ("__debug__" : Str)) && !(x == ("__classdict__" : Str))
  | .gv x, .Name y _ => x == y && glob D x
  | .bin op l r, .BinOp l' op' r' _ => decide (op = op') && chk D l l' && chk D r r'
  | .neg e, .UnaryOp op e' _ => decide (op = .USub) && chk D e e'
  | .nt e, .UnaryOp op e' _ => decide (op = .Not) && chk D e e'
  | .bop k es, .BoolOp op es' _ => decide (op = if k then .And else .Or) && chks D es es'
  | .cmp l ops rs, .Compare l' ops' rs' _ => decide (ops = ops') && chk D l l' && chks D rs rs' && rs'.all notSet && decide (ops.length = rs'.length)
  | .call f args, .Call (.Name f' _) args' [] _ => f == f' && glob D f && chks D args args' && args'.all notStar
  | .bi f args, .Call (.Name f' _) args' [] _ => f == f' && isBi f && glob D f && chks D args args' && args'.all notStar
  | .isi e ts tp, .Call (.Name f' _) args' [] _ => match args' with
    | [e', T] => f' == ("isinstance" : Str) && glob D f' && chk D e e' && notStar e' && notStar T && typeNames T == some (ts, tp) && ts.all (glob D) && decide (ts.length ≤ 20)
    | _ => false
  | .meth o m args, .Call (.Attribute o' m' apos) args' [] pos => m == m' && plainBase o' && chk D o o' && chks D args args' && args'.all notStar && apos.endLine == pos.line && decide (args'.length < 20)
  | .sub e i, .Subscript e' i' _ => chk D e e' && chk D i i' && notSlice i'
  | .slc e lo hi st, .Subscript e' (.Slice lo' hi' st' _) _ => chk D e e' && chkO D lo lo' && chkO D hi hi' && chkO D st st'
  | .lst _ es, .List es' _ => chks D es es' && es'.all notStar
  | .tup es, .Tuple es' _ _ => chks D es es' && es'.all notStar
  | .comp _ j elt it cond, .ListComp elt' gens sc _ => match gens with
    | [⟨.Name x _, it', ifs, a⟩] => decide (a = 0) && compOK D j x sc && chk D it it' && notSet it' && chk ⟨relN D.sc sc.names, nsC D.ns sc.names j x⟩ elt elt' && (match ifs with
      | [] => (match cond with | .cst c => eqC c (.bool true) | _ => false)
      | [c] => chk ⟨relN D.sc sc.names, nsC D.ns sc.names j x⟩ cond c
      | _ => false)
    | _ => false
  | _, _ => false
noncomputable def chks (D : Dl) : IEs → List Expr → Bool
  | .nil, [] => true
  | .cons e r, e' :: r' => chk D e e' && chks D r r'
  | _, _ => false
noncomputable def chkO (D : Dl) : IE → Option Expr → Bool
  | .cst c, none => eqC c .none
  | e, some e' => chk D e e'
  | _, none => false
end
end Mine
namespace Mine
section
variable {α β γ δ : Type} {R : RelT α β} {R' : RelT γ δ} {C : Cx} {s : Shared} {H : AH} {Q : β → AH → Prop} {X : Value → AH → Prop}
theorem Ev.operate {t : Sem Value} {vs : List Value} {R : RelT Value β} (h : Ev R C t s H Q X) : Ev R C (operate vs t) s H Q X := wpAny_operate' h
theorem Ev.eqv {t t' : Sem α} (e : t = t') (h : Ev R C t' s H Q X) : Ev R C t s H Q X := e ▸ h
end
noncomputable def Snd (C : Cx) (d : Nat) (env : Env) (ns : List (Option Str)) (ir : IE) (e : Expr) : Prop :=
  ∀ {ρ : RE} {s : Shared} {H : AH} {Q : AV → AH → Prop} {X : Value → AH → Prop}, St C env ns ρ s H → wpE C.S d ir ρ H Q X → Ev VRel C (eval e env) s H Q X
noncomputable def SndT (C : Cx) (d : Nat) (env : Env) (ns : List (Option Str)) (ir : IE) (e : Expr) : Prop :=
  ∀ {ρ : RE} {s : Shared} {H : AH} {Q : Bool → AH → Prop} {X : Value → AH → Prop} {K : AV → AH → Prop}, (∀ a H₁, K a H₁ → ∃ b, a = .bool b ∧ Q b H₁) → St C env ns ρ s H → wpE C.S d ir ρ H K X → Ev EqR C (isTrue e env (eval e env)) s H Q X
noncomputable def SndL (C : Cx) (d : Nat) (env : Env) (ns : List (Option Str)) (irs : IEs) (es : List Expr) : Prop :=
  ∀ {ρ : RE} {s : Shared} {H : AH} {Q : List AV → AH → Prop} {X : Value → AH → Prop} {pos : Pos}, St C env ns ρ s H → wpEs C.S d irs ρ H Q X → Ev VRels C (spliced (backTo pos (starEach es env))) s H Q X
section
variable {C : Cx} {d : Nat} {env : Env} {ns : List (Option Str)}
theorem snd_cst {c : AV} {k : Const} {kd : Nat} {p : Pos} {a : AV} (h : constA k = some a) (e : c = a) : Snd C d env ns (.cst c) (.Constant k kd p) := by
  intro ρ s H Q X st w
  subst e
  have q : Q c H := by unfold wpE at w; exact w
  show Ev VRel C (constValue env k) s H Q X
  cases k <;> simp only [constA, reduceCtorEq, Option.some.injEq] at h
  · subst h; exact Ev.pure st.rep .none q
  · subst h; exact Ev.pure st.rep (.bool _) q
  · subst h; exact wpAny_mkInt (post_tok st.rep (.int _ _) q _)
  · split at h
    · rename_i ok; cases h; exact wpAny_mkText (post_tok st.rep (.str _ _ ok) q _)
    · cases h
theorem snd_var {i : Nat} {x : Str} {p : Pos} (hx : ns[i]? = some (some x)) (hd : (x == ("__debug__" : Str)) = false) (hcd : (x == ("__classdict__" : Str)) = false) : Snd C d env ns (.var i) (.Name x p) := by
  intro ρ s H Q X st w
  have w' : ∃ a, ρ[i]? = some (some a) ∧ Q a H := by unfold wpE at w; exact w
  obtain ⟨a, ha, q⟩ := w'
  obtain ⟨m, cm, E⟩ := st.env
  obtain ⟨v, rv, hv⟩ := E.var i x a hx ha
  refine wpAny_Name ?_ hd
  rcases hv with ⟨hk, hm⟩ | ⟨hk, ⟨c, hc⟩, hcm⟩
  · exact wpAny_loadName_local E.fn hk E.loc hm (post_here st.rep rv q)
  · have hcell := (E.cell x c hc).1
    rw [hcm] at hcell
    rcases hk with hk | hk
    · exact wpAny_loadName_cell E.fn hk hc hcell (post_here st.rep rv q)
    · exact wpAny_loadName_free E.fn hk hc hcell (post_here st.rep rv q) hcd
theorem glob_parts {D : Dl} {x : Str} (h : glob D x = true) : D.sc.lookup x = some .globalImplicit ∧ (x == ("__debug__" : Str)) = false ∧ x ≠ "__name__" := by
  unfold glob at h
  simp only [Bool.and_eq_true, beq_iff_eq, Bool.not_eq_true'] at h
  exact ⟨h.1.1, h.1.2, fun e => by subst e; exact absurd h.2 (by decide)⟩
theorem name_glob {ρ : RE} {s : Shared} {H : AH} {x : Str} {p : Pos} {v : Value} {P : Value → Shared → Prop} {E : Value → Shared → Prop} (st : St C env ns ρ s H) (hk : env.kindOf x = some .globalImplicit) (hd : (x == ("__debug__" : Str)) = false)
    (e : nsIn C.S.K mainGlobals x = some (some v)) (h : P v s) : wpAny C.S.M C.A (eval (.Name x p) env) P E s := by
  obtain ⟨m, cm, Ev⟩ := st.env
  have hg : s.heap.Ns env.globals C.S.mg := Ev.glob ▸ C.S.hT.g.keeps st.live.stays
  exact Calls.Name_function_global Ev.fn hk (Calls.loadGlobal_global hg (mg_of C.S.hK C.S.hT.g e) h) hd
theorem name_boot {ρ : RE} {s : Shared} {H : AH} {x : Str} {p : Pos} {v : Value} {P : Value → Shared → Prop} {E : Value → Shared → Prop} (st : St C env ns ρ s H) (hk : env.kindOf x = some .globalImplicit) (hd : (x == ("__debug__" : Str)) = false)
    (e : nsIn C.S.K mainGlobals x = some none) (hb : bootBuiltins x = some v) (hn : x ≠ "__name__") (h : P v s) : wpAny C.S.M C.A (eval (.Name x p) env) P E s := by
  obtain ⟨m, cm, Ev⟩ := st.env
  have hg : s.heap.Ns env.globals C.S.mg := Ev.glob ▸ C.S.hT.g.keeps st.live.stays
  have hbn : s.heap.Ns env.builtins C.S.mb := Ev.bns ▸ C.S.hT.b.keeps st.live.stays
  exact Calls.Name_function_global Ev.fn hk (Calls.loadGlobal_builtin hg (mg_none_of C.S.hK C.S.hT.g e) hbn ((C.S.hT.builtins x hn).trans hb) h) hd
theorem snd_gv {x : Str} {p : Pos} (hk : env.kindOf x = some .globalImplicit) (hd : (x == ("__debug__" : Str)) = false) : Snd C d env ns (.gv x) (.Name x p) := by
  intro ρ s H Q X st w
  have w' : ∃ i, C.S.gint x = some i ∧ Q (.int i) H := by unfold wpE at w; exact w
  obtain ⟨i, hi, q⟩ := w'
  unfold Stat.gint at hi
  split at hi
  · rename_i j t e
    cases hi
    exact name_glob st hk hd e (post_here st.rep (.int _ _) q)
  · cases hi
theorem snd_bin {op : Operator} {l r : IE} {l' r' : Expr} {p : Pos} (h1 : Snd C d env ns l l') (h2 : Snd C d env ns r r') : Snd C d env ns (.bin op l r) (.BinOp l' op r' p) := by
  intro ρ s H Q X st w
  unfold wpE at w
  show Ev VRel C (eval l' env >>= fun a => holding [a] (eval r' env) >>= fun b => standAt p >>= fun _ => operate [a, b] (binaryOp op a b)) s H Q X
  refine (h1 st w).then fun a H₁ v s₁ x1 rp1 ra w1 => ?_
  refine Ev.then (Ev.holding (h2 (st.step x1 rp1) w1)) fun b H₂ u s₂ x2 rp2 rb w2 => ?_
  exact Ev.stand (Ev.operate (prim_bin rp2 (ra.step x2 (st.live.step x1) noW_seq) rb w2))
theorem snd_neg {e : IE} {e' : Expr} {p : Pos} (h1 : Snd C d env ns e e') : Snd C d env ns (.neg e) (.UnaryOp .USub e' p) := by
  intro ρ s H Q X st w
  unfold wpE at w
  show Ev VRel C (eval e' env >>= fun v => standAt p >>= fun _ => holding [v] (unaryOp .USub v)) s H Q X
  refine (h1 st w).then fun a H₁ v s₁ x1 rp1 ra w1 => ?_
  obtain ⟨i, rfl, q⟩ := w1
  cases ra
  exact Ev.stand (Ev.holding (P.neg_int (post_tok rp1 (.int _ _) q _)))
theorem truthy_bool {b : Bool} {s : Shared} {H : AH} {Q : Bool → AH → Prop} {X : Value → AH → Prop} (rp : Rep C.S s.heap H) (q : Q b H) : Ev EqR C (truthy (.bool b)) s H Q X := wpAny_truthy_bool (post_here rp rfl q)
theorem snd_nt {e : IE} {e' : Expr} {p : Pos} (h1 : Snd C d env ns e e') : Snd C d env ns (.nt e) (.UnaryOp .Not e' p) := by
  intro ρ s H Q X st w
  unfold wpE at w
  show Ev VRel C (eval e' env >>= fun v => standAt p >>= fun _ => holding [v] (unaryOp .Not v)) s H Q X
  refine (h1 st w).then fun a H₁ v s₁ x1 rp1 ra w1 => ?_
  obtain ⟨b, rfl, q⟩ := w1
  cases ra
  exact Ev.stand (Ev.holding (not_of (wpAny_truthy_bool (post_here rp1 (.bool _) q))))
theorem sndT_value {ir : IE} {e : Expr} (h : Snd C d env ns ir e) (he : ∀ w, isTrue e env w = (w >>= fun v => standAt e.pos >>= fun _ => holding [v] (truthy v))) : SndT C d env ns ir e := by
  intro ρ s H Q X K hK st w
  rw [he]
  refine (h st w).then fun a H₁ v s₁ x1 rp1 ra w1 => ?_
  obtain ⟨b, rfl, q⟩ := hK _ _ w1
  cases ra
  exact Ev.stand (Ev.holding (truthy_bool rp1 q))
theorem sndT_nt {e : IE} {e' : Expr} {p : Pos} (h1 : SndT C d env ns e e') : SndT C d env ns (.nt e) (.UnaryOp .Not e' p) := by
  intro ρ s H Q X K hK st w
  unfold wpE at w
  show Ev EqR C (isTrue e' env (eval e' env) >>= fun b => pure (!b)) s H Q X
  refine (h1 (Q := fun b H₁ => Q (!b) H₁) (fun a H' h => ?_) st w).then fun c H₁ v s₁ x1 rp1 ra w1 => ?_
  · obtain ⟨b, rfl, z⟩ := h
    obtain ⟨b', e, q⟩ := hK _ _ z
    cases e
    exact ⟨b, rfl, q⟩
  · cases ra
    exact Ev.pure rp1 rfl w1
end
end Mine
namespace Mine
theorem EqOk_mono {H : AH} {a b : AV} {Q Q' : Bool → Prop} (h : ∀ c, Q c → Q' c) (w : EqOk H a b Q) : EqOk H a b Q' := by
  obtain ⟨x, y, h1, h2, h3, q⟩ := w; exact ⟨x, y, h1, h2, h3, h _ q⟩
theorem wpIn_mono {H : AH} {a b : AV} {Q Q' : Bool → Prop} (h : ∀ c, Q c → Q' c) (w : wpIn H a b Q) : wpIn H a b Q' := by
  rcases w with ⟨xs, da, ds, h1, h2, h3, h4, q⟩ | ⟨x, y, h1, h2, q⟩
  · exact .inl ⟨xs, da, ds, h1, h2, h3, h4, h _ q⟩
  · exact .inr ⟨x, y, h1, h2, h _ q⟩
theorem wpCmp_mono {H : AH} {op : CmpOp} {a b : AV} {Q Q' : Bool → Prop} (h : ∀ c, Q c → Q' c) (w : wpCmp H op a b Q) : wpCmp H op a b Q' := by
  cases op <;> simp only [wpCmp] at w ⊢
  case Eq => exact EqOk_mono h w
  case NotEq => exact EqOk_mono (fun c => h (!c)) w
  case In => exact wpIn_mono h w
  case NotIn => exact wpIn_mono (fun c => h (!c)) w
  all_goals (obtain ⟨r, e, q⟩ := w; exact ⟨r, e, h _ q⟩)
end Mine
set_option linter.unusedSimpArgs false
namespace Mine
noncomputable def AllSnd (C : Cx) (d : Nat) (env : Env) (ns : List (Option Str)) : IEs → List Expr → Prop
  | .nil, [] => True
  | .cons e r, e' :: r' => (Snd C d env ns e e' ∧ SndT C d env ns e e') ∧ AllSnd C d env ns r r'
  | _, _ => False
section
variable {C : Cx} {d : Nat} {env : Env} {ns : List (Option Str)}
noncomputable def opOf (k : Bool) : BoolOp := if k then .And else .Or
theorem bop_value (k : Bool) {p : Pos} : ∀ (irs : IEs) (es : List Expr), AllSnd C d env ns irs es → ∀ {ρ : RE} {s : Shared} {H : AH} {Q : AV → AH → Prop} {X : Value → AH → Prop}, St C env ns ρ s H → wpBop C.S d k irs ρ H Q X → Ev VRel C (boolOp p (opOf k) (evalEach es env)) s H Q X
  | .nil, [], _, _, _, _, _, _, st, w => by unfold wpBop at w; exact w.elim
  | .nil, _ :: _, h, _, _, _, _, _, st, w => by unfold wpBop at w; exact w.elim
  | .cons e .nil, [], h, _, _, _, _, _, st, w => by simp [AllSnd] at h
  | .cons e .nil, [x], h, _, _, _, _, _, st, w => by
    unfold wpBop at w
    exact h.1.1 st w
  | .cons e .nil, x :: y :: r, h, _, _, _, _, _, st, w => by simp [AllSnd] at h
  | .cons e (.cons e' r), [], h, _, _, _, _, _, st, w => by simp [AllSnd] at h
  | .cons e (.cons e' r), [x], h, _, _, _, _, _, st, w => by simp [AllSnd] at h
  | .cons e (.cons e' r), x :: y :: r', h, ρ, s, H, Q, X, st, w => by
    unfold wpBop at w
    show Ev VRel C (eval x env >>= fun v => standAt p >>= fun _ => holding [v] (truthy v) >>= fun t => match opOf k, t with
      | .And, false | .Or, true => pure v
      | _, _ => boolOp p (opOf k) (evalEach (y :: r') env)) s H Q X
    refine (h.1.1 st w).then fun a H₁ v s₁ x1 rp1 ra w1 => ?_
    obtain ⟨b, rfl, w1⟩ := w1
    cases ra
    refine Ev.stand (Ev.then (Q := fun b' H' => b' = b ∧ H' = H₁) (Ev.holding (truthy_bool rp1 ⟨rfl, rfl⟩)) fun b' H₂ t s₂ x2 rp2 rb w2 => ?_)
    obtain ⟨rfl, rfl⟩ := w2
    cases rb
    have st2 := (st.step x1 rp1).step x2 rp2
    have ih := fun w => bop_value k (p := p) (.cons e' r) (y :: r') h.2 (Q := Q) (X := X) st2 w
    cases k <;> cases b' <;> simp only [if_true, if_false, reduceIte, Bool.false_eq_true, Bool.true_eq_false, opOf] at w1 ih ⊢
    · exact ih w1
    · exact Ev.pure rp2 (.bool _) w1
    · exact Ev.pure rp2 (.bool _) w1
    · exact ih w1
theorem bop_test (k : Bool) : ∀ (irs : IEs) (es : List Expr), AllSnd C d env ns irs es → ∀ {ρ : RE} {s : Shared} {H : AH} {Q : Bool → AH → Prop} {X : Value → AH → Prop} {K : AV → AH → Prop}, (∀ a H₁, K a H₁ → ∃ b, a = .bool b ∧ Q b H₁) → St C env ns ρ s H → wpBop C.S d k irs ρ H K X → Ev EqR C (allTrue (opOf k) es env) s H Q X
  | .nil, [], _, _, _, _, _, _, _, hK, st, w => by unfold wpBop at w; exact w.elim
  | .nil, _ :: _, h, _, _, _, _, _, _, hK, st, w => by unfold wpBop at w; exact w.elim
  | .cons e .nil, [], h, _, _, _, _, _, _, hK, st, w => by simp [AllSnd] at h
  | .cons e .nil, [x], h, ρ, s, H, Q, X, K, hK, st, w => by
    unfold wpBop at w
    show Ev EqR C (isTrue x env (eval x env) >>= fun t => match opOf k, t with
      | .And, false => pure false
      | .Or, true => pure true
      | _, _ => pure (opOf k == .And)) s H Q X
    refine (h.1.2 hK st w).then fun b H₁ v s₁ x1 rp1 ra w1 => ?_
    cases ra
    cases k <;> cases b <;> exact Ev.pure rp1 rfl w1
  | .cons e .nil, x :: y :: r, h, _, _, _, _, _, _, hK, st, w => by simp [AllSnd] at h
  | .cons e (.cons e' r), [], h, _, _, _, _, _, _, hK, st, w => by simp [AllSnd] at h
  | .cons e (.cons e' r), [x], h, _, _, _, _, _, _, hK, st, w => by simp [AllSnd] at h
  | .cons e (.cons e' r), x :: y :: r', h, ρ, s, H, Q, X, K, hK, st, w => by
    unfold wpBop at w
    show Ev EqR C (isTrue x env (eval x env) >>= fun t => match opOf k, t with
      | .And, false => pure false
      | .Or, true => pure true
      | _, _ => allTrue (opOf k) (y :: r') env) s H Q X
    refine (h.1.2 (fun _ _ z => z) st w).then fun b H₁ v s₁ x1 rp1 ra w1 => ?_
    cases ra
    have st2 := st.step x1 rp1
    have ih := fun w => bop_test k (.cons e' r) (y :: r') h.2 (Q := Q) (X := X) hK st2 w
    cases k <;> cases b <;> simp only [if_true, if_false, reduceIte, Bool.false_eq_true, Bool.true_eq_false, opOf] at w1 ih ⊢
    · exact ih w1
    · obtain ⟨b', eb, q⟩ := hK _ _ w1; cases eb; exact Ev.pure rp1 rfl q
    · obtain ⟨b', eb, q⟩ := hK _ _ w1; cases eb; exact Ev.pure rp1 rfl q
    · exact ih w1
theorem marks_false : ∀ (ops : List CmpOp) (es : List Expr), es.all notSet = true → lastMarks ops es = false
  | [], _, _ => by simp [lastMarks]
  | _ :: _, [], _ => by simp [lastMarks]
  | [op], [e], h => by
    simp only [List.all_cons, Bool.and_eq_true] at h
    simp only [lastMarks]
    cases e <;> first | rfl | (simp [notSet] at h)
  | op :: op' :: ops, e :: r, h => by
    simp only [List.all_cons, Bool.and_eq_true] at h
    simp only [lastMarks]
    exact marks_false _ _ h.2
  | [op], e :: e' :: r, h => by
    simp only [List.all_cons, Bool.and_eq_true] at h
    simp only [lastMarks]
theorem marked_same (ops : List CmpOp) (es : List Expr) (ts : List (Sem Value)) (h : es.all notSet = true) : markedEach ops es ts = ts :=
  markedEach_of_false ops es ts (marks_false ops es h)
theorem cmp_ev {op : CmpOp} {s : Shared} {H : AH} {v u : Value} {a b : AV} {Q : Bool → AH → Prop} {X : Value → AH → Prop} (L : Live C s.heap H) (rp : Rep C.S s.heap H) (ra : VRel s.heap (foot H) v a) (rb : VRel s.heap (foot H) u b) (h : wpCmp H op a b fun c => Q c H) :
    Ev VRel C (compareOp op v u) s H (fun a H' => ∃ c, a = .bool c ∧ Q c H') X :=
  prim_cmp L rp ra rb (wpCmp_mono (fun c q => ⟨c, rfl, q⟩) h)
theorem rel_bool {h : Heap} {F : Addr → Prop} {v : Value} {b : Bool} (r : VRel h F v (.bool b)) : v = .bool b := by cases r; rfl
theorem chain_value {p : Pos} : ∀ (irs : IEs) (es : List Expr) (ops : List CmpOp), AllSnd C d env ns irs es → ops.length = es.length → ∀ {ρ : RE} {s : Shared} {H : AH} {a : AV} {v : Value} {Q : AV → AH → Prop} {X : Value → AH → Prop}, St C env ns ρ s H → VRel s.heap (foot H) v a →
    wpChain C.S d a ops irs ρ H Q X → Ev VRel C (compareChain p v ops (evalEach es env)) s H Q X
  | .nil, _, _, _, _, _, _, _, _, _, _, _, st, ra, w => by unfold wpChain at w; exact w.elim
  | .cons e .nil, [], _, h, _, _, _, _, _, _, _, _, st, ra, w => by simp [AllSnd] at h
  | .cons e .nil, x :: y :: r, _, h, _, _, _, _, _, _, _, _, st, ra, w => by simp [AllSnd] at h
  | .cons e .nil, [x], ops, h, hl, ρ, s, H, a, v, Q, X, st, ra, w => by
    unfold wpChain at w
    obtain ⟨op, rfl, w⟩ := w
    show Ev VRel C (holding [v] (eval x env) >>= fun rv => standAt p >>= fun _ => operate [v, rv] (compareOp op v rv)) s H Q X
    refine Ev.then (Ev.holding (h.1.1 st w)) fun b H₁ u s₁ x1 rp1 rb w1 => Ev.stand (Ev.operate ?_)
    exact (cmp_ev (Q := fun c H' => Q (.bool c) H') (st.live.step x1) rp1 (ra.step x1 st.live noW_seq) rb w1).mono (fun a H' ⟨c, e, q⟩ => e ▸ q) fun _ _ q => q
  | .cons e (.cons e' r), [], _, h, _, _, _, _, _, _, _, _, st, ra, w => by simp [AllSnd] at h
  | .cons e (.cons e' r), [x], _, h, _, _, _, _, _, _, _, _, st, ra, w => by simp [AllSnd] at h
  | .cons e (.cons e' r), x :: y :: r', ops, h, hl, ρ, s, H, a, v, Q, X, st, ra, w => by
    unfold wpChain at w
    obtain ⟨op, ops', rfl, w⟩ := w
    cases ops' with
    | nil => simp at hl
    | cons op' ops'' =>
      show Ev VRel C (holding [v] (eval x env) >>= fun rv => standAt p >>= fun _ => holding [v, rv] (compareOp op v rv) >>= fun c => release [v, rv] [c] >>= fun _ => holding [c, rv] (truthy c) >>= fun t =>
        if t = true then compareChain p rv (op' :: ops'') (evalEach (y :: r') env) else pure c) s H Q X
      refine Ev.then (Ev.holding (h.1.1 st w)) fun b H₁ u s₁ x1 rp1 rb w1 => Ev.stand ?_
      refine Ev.then (Ev.holding (cmp_ev (Q := fun c H' => if c then wpChain C.S d b (op' :: ops'') (.cons e' r) ρ H' Q X else Q (.bool false) H') (st.live.step x1) rp1 (ra.step x1 st.live noW_seq) rb w1)) fun c H₂ cv s₂ x2 rp2 rc w2 => ?_
      obtain ⟨c, rfl, w2⟩ := w2
      cases rel_bool rc
      refine wpAny_bind (wpAny_release ?_)
      refine Ev.then (Q := fun b' H' => b' = c ∧ H' = H₂) (Ev.holding (truthy_bool rp2 ⟨rfl, rfl⟩)) fun b' H₃ t s₃ x3 rp3 rb' w3 => ?_
      obtain ⟨rfl, rfl⟩ := w3
      cases rb'
      have L1 := st.live.step x1
      have L2 := L1.step x2
      cases b'
      · exact Ev.pure rp3 (.bool _) w2
      · exact chain_value (.cons e' r) (y :: r') (op' :: ops'') h.2 (Nat.succ.inj hl) (((st.step x1 rp1).step x2 rp2).step x3 rp3) ((rb.step x2 L1 noW_seq).step x3 L2 noW_seq) w2
theorem chain_test {p : Pos} : ∀ (irs : IEs) (es : List Expr) (ops : List CmpOp), AllSnd C d env ns irs es → ops.length = es.length → ∀ {ρ : RE} {s : Shared} {H : AH} {a : AV} {v : Value} {Q : Bool → AH → Prop} {X : Value → AH → Prop} {K : AV → AH → Prop}, (∀ a H₁, K a H₁ → ∃ b, a = .bool b ∧ Q b H₁) → St C env ns ρ s H → VRel s.heap (foot H) v a →
    wpChain C.S d a ops irs ρ H K X → Ev EqR C (testChain p v ops (evalEach es env)) s H Q X
  | .nil, _, _, _, _, _, _, _, _, _, _, _, _, hK, st, ra, w => by unfold wpChain at w; exact w.elim
  | .cons e .nil, [], _, h, _, _, _, _, _, _, _, _, _, hK, st, ra, w => by simp [AllSnd] at h
  | .cons e .nil, x :: y :: r, _, h, _, _, _, _, _, _, _, _, _, hK, st, ra, w => by simp [AllSnd] at h
  | .cons e .nil, [x], ops, h, hl, ρ, s, H, a, v, Q, X, K, hK, st, ra, w => by
    unfold wpChain at w
    obtain ⟨op, rfl, w⟩ := w
    show Ev EqR C (holding [v] (eval x env) >>= fun rv => standAt p >>= fun _ => operate [v, rv] (compareOp op v rv) >>= fun c => holding [c] (truthy c)) s H Q X
    refine Ev.then (Ev.holding (h.1.1 st w)) fun b H₁ u s₁ x1 rp1 rb w1 => Ev.stand ?_
    refine Ev.then (Ev.operate (cmp_ev (Q := fun c H' => Q c H') (st.live.step x1) rp1 (ra.step x1 st.live noW_seq) rb (wpCmp_mono (fun c z => by obtain ⟨b, e, q⟩ := hK _ _ z; cases e; exact q) w1))) fun c H₂ cv s₂ x2 rp2 rc w2 => ?_
    obtain ⟨c, rfl, w2⟩ := w2
    cases rel_bool rc
    exact Ev.holding (truthy_bool rp2 w2)
  | .cons e (.cons e' r), [], _, h, _, _, _, _, _, _, _, _, _, hK, st, ra, w => by simp [AllSnd] at h
  | .cons e (.cons e' r), [x], _, h, _, _, _, _, _, _, _, _, _, hK, st, ra, w => by simp [AllSnd] at h
  | .cons e (.cons e' r), x :: y :: r', ops, h, hl, ρ, s, H, a, v, Q, X, K, hK, st, ra, w => by
    unfold wpChain at w
    obtain ⟨op, ops', rfl, w⟩ := w
    cases ops' with
    | nil => simp at hl
    | cons op' ops'' =>
      show Ev EqR C (holding [v] (eval x env) >>= fun rv => standAt p >>= fun _ => holding [v, rv] (compareOp op v rv) >>= fun c => release [v, rv] [c] >>= fun _ => holding [c, rv] (truthy c) >>= fun t =>
        if t = true then testChain p rv (op' :: ops'') (evalEach (y :: r') env) else pure false) s H Q X
      refine Ev.then (Ev.holding (h.1.1 st w)) fun b H₁ u s₁ x1 rp1 rb w1 => Ev.stand ?_
      refine Ev.then (Ev.holding (cmp_ev (Q := fun c H' => if c then wpChain C.S d b (op' :: ops'') (.cons e' r) ρ H' K X else Q false H') (st.live.step x1) rp1 (ra.step x1 st.live noW_seq) rb (wpCmp_mono (fun c z => by cases c; exact (by obtain ⟨b, e, q⟩ := hK _ _ z; cases e; exact q); exact z) w1))) fun c H₂ cv s₂ x2 rp2 rc w2 => ?_
      obtain ⟨c, rfl, w2⟩ := w2
      cases rel_bool rc
      refine wpAny_bind (wpAny_release ?_)
      refine Ev.then (Q := fun b' H' => b' = c ∧ H' = H₂) (Ev.holding (truthy_bool rp2 ⟨rfl, rfl⟩)) fun b' H₃ t s₃ x3 rp3 rb' w3 => ?_
      obtain ⟨rfl, rfl⟩ := w3
      cases rb'
      have L1 := st.live.step x1
      have L2 := L1.step x2
      cases b'
      · exact Ev.pure rp3 rfl w2
      · exact chain_test (.cons e' r) (y :: r') (op' :: ops'') h.2 (Nat.succ.inj hl) hK (((st.step x1 rp1).step x2 rp2).step x3 rp3) ((rb.step x2 L1 noW_seq).step x3 L2 noW_seq) w2
theorem snd_bop {k : Bool} {irs : IEs} {es : List Expr} {p : Pos} (h : AllSnd C d env ns irs es) : Snd C d env ns (.bop k irs) (.BoolOp (opOf k) es p) := by
  intro ρ s H Q X st w
  unfold wpE at w
  exact bop_value k irs es h st w
theorem sndT_bop {k : Bool} {irs : IEs} {es : List Expr} {p : Pos} (h : AllSnd C d env ns irs es) : SndT C d env ns (.bop k irs) (.BoolOp (opOf k) es p) := by
  intro ρ s H Q X K hK st w
  unfold wpE at w
  exact bop_test k irs es h hK st w
theorem snd_cmp {l : IE} {l' : Expr} {ops : List CmpOp} {irs : IEs} {es : List Expr} {p : Pos} (h0 : Snd C d env ns l l') (h : AllSnd C d env ns irs es) (hs : es.all notSet = true) (hl : ops.length = es.length) : Snd C d env ns (.cmp l ops irs) (.Compare l' ops es p) := by
  intro ρ s H Q X st w
  unfold wpE at w
  show Ev VRel C (eval l' env >>= fun v => compareChain p v ops (markedEach ops es (evalEach es env))) s H Q X
  rw [marked_same ops es _ hs]
  exact (h0 st w).then fun a H₁ v s₁ x1 rp1 ra w1 => chain_value irs es ops h hl (st.step x1 rp1) ra w1
theorem sndT_cmp {l : IE} {l' : Expr} {ops : List CmpOp} {irs : IEs} {es : List Expr} {p : Pos} (h0 : Snd C d env ns l l') (h : AllSnd C d env ns irs es) (hs : es.all notSet = true) (hl : ops.length = es.length) : SndT C d env ns (.cmp l ops irs) (.Compare l' ops es p) := by
  intro ρ s H Q X K hK st w
  unfold wpE at w
  show Ev EqR C (eval l' env >>= fun v => testChain p v ops (markedEach ops es (evalEach es env))) s H Q X
  rw [marked_same ops es _ hs]
  exact (h0 st w).then fun a H₁ v s₁ x1 rp1 ra w1 => chain_test irs es ops h hl hK (st.step x1 rp1) ra w1
end
end Mine
namespace Mine
section
variable {C : Cx} {d : Nat} {env : Env} {ns : List (Option Str)}
theorem star_cons {e : Expr} {r : List Expr} (h : notStar e = true) : starEach (e :: r) env = (false, eval e env) :: starEach r env := by
  cases e <;> first | rfl | (simp [notStar] at h)
theorem back_cons {e : Expr} {r : List Expr} {pos : Pos} (h : notStar e = true) : backTo pos (starEach (e :: r) env) = (false, eval e env) :: backTo pos (starEach r env) := by
  rw [star_cons h]; rfl
theorem back_plain {pos : Pos} : ∀ (es : List Expr), es.all notStar = true → (backTo pos (starEach es env)).any (·.1) = false
  | [], _ => rfl
  | e :: r, h => by
    simp only [List.all_cons, Bool.and_eq_true] at h
    rw [back_cons h.1]
    simpa using back_plain r h.2
theorem sndL_of' {pos : Pos} : ∀ (irs : IEs) (es : List Expr), AllSnd C d env ns irs es → es.all notStar = true → ∀ (ρ : RE) (s : Shared) (H : AH) (Q : List AV → AH → Prop) (X : Value → AH → Prop), St C env ns ρ s H → wpEs C.S d irs ρ H Q X → Ev VRels C (spliced (backTo pos (starEach es env))) s H Q X
  | .nil, [], _, _, ρ, s, H, Q, X, st, w => by
    unfold wpEs at w
    exact Ev.pure st.rep .nil w
  | .nil, _ :: _, h, _, ρ, s, H, Q, X, st, w => by simp [AllSnd] at h
  | .cons _ _, [], h, _, ρ, s, H, Q, X, st, w => by simp [AllSnd] at h
  | .cons e r, e' :: r', h, hs, ρ, s, H, Q, X, st, w => by
    unfold wpEs at w
    simp only [List.all_cons, Bool.and_eq_true] at hs
    rw [back_cons hs.1]
    show Ev VRels C (eval e' env >>= fun v => pure [v] >>= fun here => holding here (spliced (backTo pos (starEach r' env))) >>= fun vs => pure (here ++ vs)) s H Q X
    refine (h.1.1 st w).then fun a H₁ v s₁ x1 rp1 ra w1 => wpAny_bind (wpAny_pure ?_)
    refine Ev.then (Ev.holding (sndL_of' r r' h.2 hs.2 _ _ _ _ _ (st.step x1 rp1) w1)) fun as H₂ vs s₂ x2 rp2 rs w2 => ?_
    exact Ev.pure rp2 (.cons (ra.step x2 (st.live.step x1) noW_seq) rs) w2
theorem sndL_of {irs : IEs} {es : List Expr} (h : AllSnd C d env ns irs es) (hs : es.all notStar = true) : SndL C d env ns irs es := by
  intro ρ s H Q X pos st w
  exact sndL_of' irs es h hs ρ s H Q X st w
theorem snd_tup {irs : IEs} {es : List Expr} {k : Nat} {p : Pos} (h : SndL C d env ns irs es) : Snd C d env ns (.tup irs) (.Tuple es k p) := by
  intro ρ s H Q X st w
  unfold wpE at w
  show Ev VRel C (standAt p >>= fun _ => spliced (backTo p (starEach es env)) >>= fun vs => newTuple vs) s H Q X
  refine Ev.stand ((h st w).then fun as H₁ vs s₁ x1 rp1 ra w1 => ?_)
  exact wpAny_newTuple (post_push rp1 (new_tup (vs := vs.toArray) rp1 (by simpa using ra)) w1.2 _) (by rw [ra.length]; exact w1.1)
theorem snd_lst {mt : Bool} {irs : IEs} {es : List Expr} {p : Pos} (h : SndL C d env ns irs es) : Snd C d env ns (.lst mt irs) (.List es p) := by
  intro ρ s H Q X st w
  unfold wpE at w
  show Ev VRel C (standAt p >>= fun _ => spliced (backTo p (starEach es env)) >>= fun vs => newList vs) s H Q X
  refine Ev.stand ((h st w).then fun as H₁ vs s₁ x1 rp1 ra w1 => ?_)
  exact wpAny_newList (post_newL (vs := vs.toArray) rp1 (fun b o e => Heap.get?_push_of_some _ e) (size_none _) (Heap.get?_push_size _ rfl) (by simpa using ra) w1) (by rw [ra.length]; exact w1.1)
theorem args_ev {irs : IEs} {es : List Expr} {ρ : RE} {s : Shared} {H : AH} {Q : List AV → AH → Prop} {X : Value → AH → Prop} {pos : Pos} {f : Value} {P : Args → Shared → Prop} (h : AllSnd C d env ns irs es) (hs : es.all notStar = true) (st : St C env ns ρ s H) (w : wpEs C.S d irs ρ H Q X)
    (k : ∀ vals s₁, Post VRels C noW s H Q vals s₁ → P ⟨vals, []⟩ s₁) : wpAny C.S.M C.A (evalArgs f true (backTo pos (starEach es env)) []) P (PostX C noW s H X) s := by
  have := sndL_of h hs (pos := pos) st w
  cases es with
  | nil =>
    cases irs with
    | cons _ _ => simp [AllSnd] at h
    | nil =>
      unfold wpEs at w
      exact PyProof.Rows.evalArgs_none (k [] s (post_here st.rep .nil w))
  | cons e r =>
    simp only [List.all_cons, Bool.and_eq_true] at hs
    rw [back_cons hs.1] at this ⊢
    exact Calls.evalArgs_plain (wpAny_mono this k fun _ _ x => x)
theorem Post.then {α β γ δ : Type} {R : RelT α β} {R' : RelT γ δ} {s : Shared} {H : AH} {Q : β → AH → Prop} {Q' : δ → AH → Prop} {X : Value → AH → Prop} {x : α} {t : Sem γ} {s₁ : Shared} (p : Post R C noW s H Q x s₁)
    (h : ∀ y H₁, Step C noW s H s₁ H₁ → Rep C.S s₁.heap H₁ → R s₁.heap (foot H₁) x y → Q y H₁ → Ev R' C t s₁ H₁ Q' X) : wpAny C.S.M C.A t (Post R' C noW s H Q') (PostX C noW s H X) s₁ := by
  obtain ⟨y, H₁, st, rp, r, q⟩ := p
  exact wpAny_mono (h y H₁ st rp r q) (fun _ _ ⟨y₂, H₂, st₂, rp₂, r₂, q₂⟩ => ⟨y₂, H₂, st.trans st₂, rp₂, r₂, q₂⟩) fun _ _ ⟨e, c, H₂, he, x₂, q₂⟩ => ⟨e, c, H₂, he, x₂.after st, q₂⟩
theorem Ev.bind_eq {α γ δ : Type} {R' : RelT γ δ} {s : Shared} {H : AH} {Q' : δ → AH → Prop} {X : Value → AH → Prop} {t : Sem α} {k : α → Sem γ} {v : α} (h : ∀ {P : α → Shared → Prop} {E : Value → Shared → Prop}, P v s → wpAny C.S.M C.A t P E s) (hk : Ev R' C (k v) s H Q' X) : Ev R' C (t >>= k) s H Q' X :=
  wpAny_bind (h hk)
theorem fn_parts {S : Stat} {f : Str} {fa : Addr} (h : S.fn f = some fa) : nsIn S.K mainGlobals f = some (some (.ref fa)) ∧ fnIn S.K fa = true := by
  unfold Stat.fn Stat.gref at h
  split at h
  · rename_i a e
    simp only [Option.bind_some] at h
    split at h
    · rename_i hf; cases h; exact ⟨e, hf⟩
    · cases h
  · cases h
theorem fnIn_keep {K : Frag} {f : Addr} (h : fnIn K f = true) : keepIn K (.ref f) = true := by
  unfold fnIn at h
  unfold keepIn
  split at h
  · rename_i e; simp only [e]
  · cases h
theorem callOK_ev {S : Stat} {s : Shared} {H : AH} {f : Addr} {as : List AV} {vals : List Value} {Q : AV → AH → Prop} {X : Value → AH → Prop} (e : C.S = S) (hd : d ≤ C.d) (L : Live C s.heap H) (rp : Rep S s.heap H) (ra : VRels s.heap (foot H) vals as) (h : CallOK S d f as H Q X) :
    Ev VRel C (call (.ref f) vals) s H Q X := by
  subst e
  exact wpAny_call (codeAny_mono (h C s vals rfl hd L rp ra) fun r s' z => by
    rcases r with e | (_ | _ | _ | v) <;> exact z)
theorem snd_call {f : Str} {irs : IEs} {es : List Expr} {p p' : Pos} (hk : env.kindOf f = some .globalImplicit) (hdb : (f == ("__debug__" : Str)) = false) (hd : d ≤ C.d) (h : AllSnd C d env ns irs es) (hs : es.all notStar = true) :
    Snd C d env ns (.call f irs) (.Call (.Name f p') es [] p) := by
  intro ρ s H Q X st w
  unfold wpE at w
  show Ev VRel C (eval (.Name f p') env >>= fun fv => callWith p fv [] (backTo p (starEach es env)) []) s H Q X
  obtain ⟨fa, hfa, w⟩ := w
  obtain ⟨e1, e2⟩ := fn_parts hfa
  refine Ev.bind_eq (fun z => name_glob st hk hdb e1 z) ?_
  refine callWith_of (P := C.S.K.In) ?_ (keeps_K (fnIn_keep e2)) ?_
  · rw [back_plain es hs]; rfl
  · refine args_ev h hs st w fun vals s₁ po => ?_
    refine ⟨?_, Post.then po fun as H₁ x1 rp1 ra q => ?_⟩
    · obtain ⟨as, H₁, x1, rp1, ra, q⟩ := po
      exact (st.live.step x1).K
    · exact callOK_ev rfl hd (st.live.step x1) rp1 ra q
theorem boot_bi {f : Str} (h : isBi f = true) : bootBuiltins f = some (biV f) := by
  unfold isBi at h
  simp only [List.any_cons, List.any_nil, Bool.or_false, Bool.or_eq_true, beq_iff_eq] at h
  rcases h with rfl | rfl | rfl <;> decide +kernel
theorem biV_shape (f : Str) : (∃ i, biV f = .builtin i) ∨ ∃ T, biV f = .type T := by
  unfold biV
  repeat' split
  all_goals first | exact .inl ⟨_, rfl⟩ | exact .inr ⟨_, rfl⟩
theorem snd_bi {f : Str} {irs : IEs} {es : List Expr} {p p' : Pos} (hk : env.kindOf f = some .globalImplicit) (hdb : (f == ("__debug__" : Str)) = false) (hn : f ≠ "__name__") (hb : isBi f = true) (h : AllSnd C d env ns irs es) (hs : es.all notStar = true) :
    Snd C d env ns (.bi f irs) (.Call (.Name f p') es [] p) := by
  intro ρ s H Q X st w
  unfold wpE at w
  obtain ⟨e1, w⟩ := w
  show Ev VRel C (eval (.Name f p') env >>= fun fv => callWith p fv [] (backTo p (starEach es env)) []) s H Q X
  refine Ev.bind_eq (fun z => name_boot st hk hdb e1 (boot_bi hb) hn z) ?_
  have key : wpAny C.S.M C.A (evalArgs (biV f) true (backTo p (starEach es env)) []) (fun a s₁ => wpAny C.S.M C.A (call (biV f) ([] ++ a.pos) a.kw) (Post VRel C noW s H Q) (PostX C noW s H X) s₁) (PostX C noW s H X) s :=
    args_ev h hs st w fun vals s₁ po => Post.then po fun as H₁ x1 rp1 ra q => prim_bi (st.live.step x1) rp1 ra q
  rcases biV_shape f with ⟨i, e⟩ | ⟨T, e⟩ <;> rw [e] at key ⊢
  · exact Calls.callWith_builtin (back_plain es hs) key
  · exact PyProof.Rows.callWith_type (back_plain es hs) key
theorem kitx_rel {s : Shared} {H : AH} {v : Value} {a : AV} {t : Value} (rp : Rep C.S s.heap H) (r : VRel s.heap (foot H) v a) (hc : clsOf H a = some t) :
    ∃ P : Heap → Prop, KitX C.S.K v t P ∧ (∀ o h', Heap.push s.heap o = h' → P h') ∧ P s.heap ∧ v ≠ .builtin "__main__.__loader__#opaque" := by
  have at_ : ∀ {a : Addr} {o : Obj} {T : String}, s.heap.get? a = some o → o.cls = .type T → (∀ o' h', Heap.push s.heap o' = h' → KitAt a T h') ∧ KitAt a T s.heap := fun e c =>
    ⟨fun o' h' q => q ▸ ⟨_, Heap.get?_push_of_some _ e, c⟩, ⟨_, e, c⟩⟩
  cases r with
  | none => cases hc; exact ⟨_, kitx_none, fun _ _ _ => trivial, trivial, fun q => nomatch q⟩
  | bool b => cases hc; exact ⟨_, kitx_bool, fun _ _ _ => trivial, trivial, fun q => nomatch q⟩
  | int i t => cases hc; exact ⟨_, kitx_int, fun _ _ _ => trivial, trivial, fun q => nomatch q⟩
  | str x t ok => cases hc; exact ⟨_, kitx_str, fun _ _ _ => trivial, trivial, fun q => nomatch q⟩
  | tup ho nf rl => cases hc; exact ⟨_, kitx_tuple, (at_ ho rfl).1, (at_ ho rfl).2, fun q => nomatch q⟩
  | lst ho nf rl => cases hc; exact ⟨_, kitx_list, (at_ ho rfl).1, (at_ ho rfl).2, fun q => nomatch q⟩
  | rng ho nf => cases hc
  | exc e c f => cases hc
  | ref r =>
    simp only [clsOf] at hc
    split at hc
    · rename_i ao e
      cases hc
      cases ao with
      | lst xs =>
      obtain ⟨vs, n, ho, _⟩ := rp.obj _ _ e
      exact ⟨_, kitx_list, (at_ ho rfl).1, (at_ ho rfl).2, fun q => nomatch q⟩
    · cases hc
theorem type_walk {ρ : RE} {s : Shared} {H : AH} {x : Str} {p : Pos} {v : Value} {P : Value → Shared → Prop} {E : Value → Shared → Prop} (st : St C env ns ρ s H) (hk : env.kindOf x = some .globalImplicit) (hd : (x == ("__debug__" : Str)) = false) (hn : x ≠ "__name__")
    (e : C.S.typeV x = some v) (h : P v s) : wpAny C.S.M C.A (eval (.Name x p) env) P E s := by
  unfold Stat.typeV at e
  split at e
  · rename_i a q; cases e; exact name_glob st hk hd q h
  · rename_i q; exact name_boot st hk hd q e hn h
  · cases e
theorem types_walk {ρ : RE} {s : Shared} {H : AH} {pos : Pos} (st : St C env ns ρ s H) : ∀ (es : List Expr) (ts : List Str) (vs : List Value) {P : List Value → Shared → Prop} {E : Value → Shared → Prop}, typeNames.go es = some ts → (∀ x ∈ ts, env.kindOf x = some .globalImplicit ∧ (x == ("__debug__" : Str)) = false ∧ x ≠ "__name__") → C.S.typesV ts = some vs → P vs s →
    wpAny C.S.M C.A (spliced (backTo pos (starEach es env))) P E s
  | [], ts, vs, P, E, h1, h2, h3, h => by
    simp only [typeNames.go, Option.some.injEq] at h1
    subst h1
    simp only [Stat.typesV, Option.some.injEq] at h3
    subst h3
    exact Calls.spliced_nil h
  | e :: r, ts, vs, P, E, h1, h2, h3, h => by
    cases e <;> simp only [typeNames.go, reduceCtorEq] at h1
    rename_i x p'
    cases e2 : typeNames.go r with
    | none => rw [e2] at h1; cases h1
    | some r' =>
      rw [e2] at h1
      simp only [Option.map_some, Option.some.injEq] at h1
      subst h1
      simp only [Stat.typesV] at h3
      cases e3 : C.S.typeV x with
      | none => rw [e3] at h3; cases h3
      | some v =>
        rw [e3, Option.bind_some] at h3
        cases e4 : C.S.typesV r' with
        | none => rw [e4] at h3; cases h3
        | some vs' =>
          rw [e4] at h3
          simp only [Option.map_some, Option.some.injEq] at h3
          subst h3
          obtain ⟨k1, k2, k3⟩ := h2 x (.head _)
          rw [back_cons rfl]
          exact Calls.spliced_cons (type_walk st k1 k2 k3 e3 (types_walk st r r' vs' e2 (fun y hy => h2 y (.tail _ hy)) e4 h))
theorem typesV_one {S : Stat} {x : Str} {vs : List Value} (h : S.typesV [x] = some vs) : ∃ v, vs = [v] ∧ S.typeV x = some v := by
  simp only [Stat.typesV] at h
  cases e : S.typeV x with
  | none => rw [e] at h; cases h
  | some v => rw [e] at h; simp at h; exact ⟨v, h.symm, rfl⟩
theorem kitAny_one {K : Frag} {t v : Value} {b : Bool} (h : kitAny K t [v] = some b) : kitOne K t v = some b := by
  unfold kitAny at h
  split at h
  · rename_i q; cases h; exact q
  · rename_i q; simp only [kitAny, Option.some.injEq] at h; subst h; exact q
  · cases h
theorem typesV_len {S : Stat} : ∀ {ts : List Str} {vs : List Value}, S.typesV ts = some vs → vs.length = ts.length
  | [], vs, h => by simp only [Stat.typesV, Option.some.injEq] at h; subst h; rfl
  | x :: r, vs, h => by
    simp only [Stat.typesV] at h
    cases e : S.typeV x with
    | none => rw [e] at h; cases h
    | some v =>
      rw [e, Option.bind_some] at h
      cases e' : S.typesV r with
      | none => rw [e'] at h; cases h
      | some vs' => rw [e'] at h; simp at h; subst h; simp [typesV_len e']
theorem Post.back {α β : Type} {R : RelT α β} {s s₁ s₂ : Shared} {H H₁ : AH} {Q : β → AH → Prop} {x : α} (st : Step C noW s H s₁ H₁) (p : Post R C noW s₁ H₁ Q x s₂) : Post R C noW s H Q x s₂ := by
  obtain ⟨y₂, H₂, st₂, rp₂, r₂, q₂⟩ := p
  exact ⟨y₂, H₂, st.trans st₂, rp₂, r₂, q₂⟩
theorem snd_isi {e : IE} {ts : List Str} {tp : Bool} {e' T : Expr} {p p' : Pos} (hk : env.kindOf "isinstance" = some .globalImplicit) (h : Snd C d env ns e e') (hs : notStar e' = true) (hs' : notStar T = true) (hT : typeNames T = some (ts, tp)) (hlen : ts.length ≤ 20)
    (hts : ∀ x ∈ ts, env.kindOf x = some .globalImplicit ∧ (x == ("__debug__" : Str)) = false ∧ x ≠ "__name__") : Snd C d env ns (.isi e ts tp) (.Call (.Name "isinstance" p') [e', T] [] p) := by
  intro ρ s H Q X st w
  unfold wpE at w
  obtain ⟨e1, w⟩ := w
  show Ev VRel C (eval (.Name "isinstance" p') env >>= fun fv => callWith p fv [] (backTo p (starEach [e', T] env)) []) s H Q X
  refine Ev.bind_eq (fun z => name_boot st hk (by decide) e1 (by decide +kernel : bootBuiltins "isinstance" = some (.builtin "isinstance")) (by decide) z) ?_
  refine Calls.callWith_builtin (back_plain [e', T] (by simp [hs, hs'])) ?_
  rw [back_cons hs, back_cons hs']
  refine Calls.evalArgs_plain (Calls.spliced_cons (wpAny_mono (h st w) (fun v s₁ po => ?_) fun _ _ x => x))
  obtain ⟨a, H₁, x1, rp1, ra, q⟩ := po
  refine Calls.spliced_cons ?_
  obtain ⟨b, hb, q⟩ := q
  have st1 := st.step x1 rp1
  unfold isiA at hb
  cases ec : clsOf H₁ a with
  | none => rw [ec] at hb; cases hb
  | some t =>
    rw [ec, Option.bind_some] at hb
    cases et : C.S.typesV ts with
    | none => rw [et] at hb; cases hb
    | some vs =>
      rw [et, Option.bind_some] at hb
      obtain ⟨P, Z, hp, p0, hx⟩ := kitx_rel rp1 ra ec
      unfold typeNames at hT
      split at hT
      · rename_i x px
        simp only [Option.some.injEq, Prod.mk.injEq] at hT
        obtain ⟨rfl, rfl⟩ := hT
        obtain ⟨tv, rfl, e3⟩ := typesV_one et
        obtain ⟨k1, k2, k3⟩ := hts x (.head _)
        refine type_walk st1 k1 k2 k3 e3 (Calls.spliced_nil ?_)
        exact kia_one Z st1.live.K p0 (kitAny_one hb) hx fun tk => Post.back x1 (post_tok rp1 (.bool _) q _)
      · rename_i es k px
        cases e2 : typeNames.go es with
        | none => rw [e2] at hT; cases hT
        | some ts' =>
          rw [e2] at hT
          simp only [Option.map_some, Option.some.injEq, Prod.mk.injEq] at hT
          obtain ⟨rfl, rfl⟩ := hT
          show wpAny C.S.M C.A (standAt px >>= fun _ => spliced (backTo px (starEach es env)) >>= fun vs => newTuple vs) _ _ s₁
          refine wpAny_bind (wpAny_standAt (wpAny_bind (types_walk st1 es ts' vs e2 hts et ?_)))
          refine wpAny_newTuple (Calls.spliced_nil ?_) ?_
          · refine kia_tup (s := { s₁ with heap := s₁.heap.push _ }) Z ?_ (hp _ _ rfl) (Heap.get?_push_size _ rfl) hb hx fun tk => ?_
            · exact fun b o e => Heap.get?_push_of_some _ (st1.live.K b o e)
            · exact Post.back x1 (post_push rp1 (.bool _) q _)
          · rw [typesV_len et]
            exact Nat.le_trans hlen (by decide)
      · cases hT
end
end Mine
namespace Mine
section
variable {C : Cx} {d : Nat} {env : Env} {ns : List (Option Str)}
theorem base_plain {o : Expr} {m : Str} {w : Sem Value} (h : plainBase o = true) : attributeBase o m env w = w := by
  unfold attributeBase
  split
  · simp [plainBase] at h
  · rfl
theorem meth_at {s : Shared} {H : AH} {v : Value} {o : AV} {m : Str} {id : String} (rp : Rep C.S s.heap H) (r : VRel s.heap (foot H) v o) (h : biM o m H = some id) :
    ∃ T, PlainAttrs T ∧ Slot T m id ∧ typeOf (.builtin id) = pure (.type "method_descriptor") ∧ s.TypeIs v T ∧ ∀ a, v = .ref a → ∃ ob, s.heap.get? a = some ob ∧ ob.dict = none := by
  cases r with
  | str x t ok =>
    simp only [biM] at h
    have e : ∀ a, Value.str x t = .ref a → ∃ ob, s.heap.get? a = some ob ∧ ob.dict = none := fun _ q => nomatch q
    split at h
    · rename_i q; cases h; subst q; exact ⟨"str", F.plainAttrs_str, F.slot_str_join, F.type_str_join, typeIs_str _ _ _, e⟩
    · split at h
      · rename_i q; cases h; subst q; exact ⟨"str", F.plainAttrs_str, F.slot_str_split, F.type_str_split, typeIs_str _ _ _, e⟩
      · cases h
  | ref r =>
    simp only [biM] at h
    split at h
    · rename_i ao e
      cases ao with
      | lst xs =>
      obtain ⟨vs, n, hl, rl⟩ := rp.obj _ _ e
      have e : ∀ a, Value.ref r = .ref a → ∃ ob, s.heap.get? a = some ob ∧ ob.dict = none := fun _ q => by cases q; exact ⟨_, hl, rfl⟩
      have hT : s.TypeIs (.ref r) "list" := ⟨_, hl, rfl⟩
      split at h
      · rename_i q; cases h; subst q; exact ⟨"list", F.plainAttrs_list, F.slot_list_append, F.type_list_append, hT, e⟩
      · cases h
    · cases h
  | _ => simp [biM] at h
theorem form_ok {pos : Pos} {es : List Expr} (hs : es.all notStar = true) (hl : es.length < 20) : methodCallForm (es.length + ([] : List Keyword).length) (backTo pos (starEach es env)) (backToKw pos (keywordEach [] env)) = true := by
  unfold methodCallForm
  have h1 : (backTo pos (starEach es env)).all (fun x => !x.1) = true := by
    have := back_plain (env := env) (pos := pos) es hs
    rw [List.all_eq_true]
    rw [List.any_eq_false] at this
    intro x hx
    simpa using this x hx
  rw [h1]
  simp only [Bool.true_and]
  have h2 : (backToKw pos (keywordEach [] env)).all (fun x => x.1.isSome) = true := rfl
  have h3 : (backToKw pos (keywordEach [] env)).isEmpty = true := rfl
  rw [h2, h3]
  simp
  omega
theorem snd_meth {o : IE} {o' : Expr} {m : Str} {irs : IEs} {es : List Expr} {apos p : Pos} (hd : d ≤ C.d) (h0 : Snd C d env ns o o') (hb : plainBase o' = true) (h : AllSnd C d env ns irs es) (hs : es.all notStar = true) (hl : es.length < 20) (hline : (apos.endLine == p.line) = true) :
    Snd C d env ns (.meth o m irs) (.Call (.Attribute o' m apos) es [] p) := by
  intro ρ s H Q X st w
  unfold wpE at w
  refine Ev.eqv (arm_eval_Call ..) ?_
  rw [base_plain hb]
  refine (h0 st w).then fun a H₁ v s₁ x1 rp1 ra w1 => Ev.stand ?_
  unfold methodCall
  rw [form_ok hs hl]
  have hpos : methodCallPos true o' env apos p = pure p := by unfold methodCallPos; simp [hline]
  have st1 := st.step x1 rp1
  obtain ⟨id, hm, w1⟩ := w1
  obtain ⟨T, pa, slot, hty, hT, hdd⟩ := meth_at rp1 ra hm
  refine wpAny_bind (wpAny_holding (getMethod_builtin hT pa slot hty hdd ?_))
  refine wpAny_bind (wpAny_of_eq hpos ?_)
  refine Calls.callWith_builtin (back_plain es hs) ?_
  exact args_ev h hs st1 w1 fun vals s₂ po => Post.then po fun as H₂ x2 rp2 ra2 q => prim_methB (st1.live.step x2) rp2 (ra.step x2 st1.live noW_seq) ra2 q.1 q.2
theorem getitem_at {s : Shared} {H : AH} {v : Value} {a : AV} (rp : Rep C.S s.heap H) (r : VRel s.heap (foot H) v a) (h : (∃ xs, lsOf H a = some xs) ∨ (∃ xs, a = .tup xs) ∨ ∃ x, a = .str x) :
    ∃ T id, s.TypeIs v T ∧ typeLookup (.type T) "__getitem__" = pure (some (.builtin id)) := by
  rcases h with ⟨xs, e⟩ | ⟨xs, rfl⟩ | ⟨x, rfl⟩
  · obtain ⟨l, vs, n, rfl, hl, rl⟩ := ls_of rp r e
    exact ⟨"list", _, ⟨_, hl, rfl⟩, list_getitem_lookup⟩
  · cases r with
    | tup ho nf rl => exact ⟨"tuple", _, ⟨_, ho, rfl⟩, F.slot_tuple_getitem.lookup⟩
  · cases r with
    | str x t ok => exact ⟨"str", _, typeIs_str _ _ _, F.slot_str_getitem.lookup⟩
theorem tail_ev {value slice : Expr} {o i : Value} {s : Shared} {H : AH} {a : AV} {Q : AV → AH → Prop} {X : Value → AH → Prop} {ops : List Value} (rp : Rep C.S s.heap H) (r : VRel s.heap (foot H) o a) (h : (∃ xs, lsOf H a = some xs) ∨ (∃ xs, a = .tup xs) ∨ ∃ x, a = .str x)
    (hs : subscripted slice false o i = operate ops (getItem o i)) (hg : Ev VRel C (getItem o i) s H Q X) : Ev VRel C (getitemInPython o >>= fun b => subscripted slice b o i >>= fun r => letTemporaryGo value o r >>= fun _ => pure r) s H Q X := by
  obtain ⟨T, id, hT, hl⟩ := getitem_at rp r h
  exact tail_any (value := value) hT hl hg hs
theorem snd_sub {e i : IE} {e' i' : Expr} {p : Pos} (h0 : Snd C d env ns e e') (h1 : Snd C d env ns i i') (hn : notSlice i' = true) : Snd C d env ns (.sub e i) (.Subscript e' i' p) := by
  intro ρ s H Q X st w
  unfold wpE at w
  show Ev VRel C (eval e' env >>= fun o => holding [o] (eval i' env) >>= fun i => standAt p >>= fun _ => getitemInPython o >>= fun b => subscripted i' b o i >>= fun r => letTemporaryGo e' o r >>= fun _ => pure r) s H Q X
  refine (h0 st w).then fun a H₁ v s₁ x1 rp1 ra w1 => ?_
  refine Ev.then (Ev.holding (h1 (st.step x1 rp1) w1)) fun b H₂ u s₂ x2 rp2 rb w2 => Ev.stand ?_
  have ra2 := ra.step x2 (st.live.step x1) noW_seq
  refine tail_ev (ops := [v, u]) rp2 ra2 ?_ ?_ (prim_sub ((st.live.step x1).step x2) rp2 ra2 rb w2)
  · rcases w2 with ⟨xs, k, n, v, h1, _⟩ | ⟨xs, k, n, v, h1, _⟩ | ⟨xs, k, n, v, h1, _⟩
    · exact .inl ⟨_, h1⟩
    · exact .inr (.inl ⟨_, h1⟩)
    · exact .inr (.inr ⟨_, h1⟩)
  · cases i' <;> first | rfl | (simp [notSlice] at hn)
noncomputable def SndO (C : Cx) (d : Nat) (env : Env) (ns : List (Option Str)) (ir : IE) (e : Option Expr) : Prop :=
  ∀ {ρ : RE} {s : Shared} {H : AH} {Q : AV → AH → Prop} {X : Value → AH → Prop}, St C env ns ρ s H → wpE C.S d ir ρ H Q X → Ev VRel C (valueOrNone (evalOpt e env)) s H Q X
theorem sndO_none : SndO C d env ns (.cst .none) none := by
  intro ρ s H Q X st w
  unfold wpE at w
  exact Ev.pure st.rep .none w
theorem sndO_some {ir : IE} {e : Expr} (h : Snd C d env ns ir e) : SndO C d env ns ir (some e) := by
  intro ρ s H Q X st w
  exact h st w
noncomputable def SliceR : RelT Value (AV × AV × AV) := fun h F v a => ∃ g w₁ w₂ w₃, v = .ref g ∧ h.IsSliceOf g w₁ w₂ w₃ ∧ VRel h F w₁ a.1 ∧ VRel h F w₂ a.2.1 ∧ VRel h F w₃ a.2.2
theorem slice_ev {lo hi t : IE} {lo' hi' t' : Option Expr} {p : Pos} {ρ : RE} {s : Shared} {H : AH} {Q : AV × AV × AV → AH → Prop} {X : Value → AH → Prop} (h1 : SndO C d env ns lo lo') (h2 : SndO C d env ns hi hi') (h3 : SndO C d env ns t t') (st : St C env ns ρ s H)
    (w : wpE C.S d lo ρ H (fun l H₂ => wpE C.S d hi ρ H₂ (fun u H₃ => wpE C.S d t ρ H₃ (fun k H₄ => Q (l, u, k) H₄) X) X) X) : Ev SliceR C (eval (.Slice lo' hi' t' p) env) s H Q X := by
  show Ev SliceR C (valueOrNone (evalOpt lo' env) >>= fun l => holding [l] (valueOrNone (evalOpt hi' env)) >>= fun u => holding [l, u] (valueOrNone (evalOpt t' env)) >>= fun k => newFields "slice" [l, u, k]) s H Q X
  refine (h1 st w).then fun a H₁ v s₁ x1 rp1 ra w1 => ?_
  have st1 := st.step x1 rp1
  refine Ev.then (Ev.holding (h2 st1 w1)) fun b H₂ u s₂ x2 rp2 rb w2 => ?_
  have st2 := st1.step x2 rp2
  refine Ev.then (Ev.holding (h3 st2 w2)) fun c H₃ k s₃ x3 rp3 rc w3 => ?_
  refine wpAny_newObj_type (post_push rp3 (y := (a, b, c)) ⟨_, v, u, k, rfl, Heap.IsSliceOf.new _ _ _ _, ?_, ?_, ?_⟩ w3 _)
  · exact ((ra.step x2 st1.live noW_seq).step x3 st2.live noW_seq).stays (Ext.push _ _ _)
  · exact (rb.step x3 st2.live noW_seq).stays (Ext.push _ _ _)
  · exact rc.stays (Ext.push _ _ _)
theorem snd_slc {e lo hi t : IE} {e' : Expr} {lo' hi' t' : Option Expr} {p p' : Pos} (h0 : Snd C d env ns e e') (h1 : SndO C d env ns lo lo') (h2 : SndO C d env ns hi hi') (h3 : SndO C d env ns t t') :
    Snd C d env ns (.slc e lo hi t) (.Subscript e' (.Slice lo' hi' t' p') p) := by
  intro ρ s H Q X st w
  unfold wpE at w
  show Ev VRel C (eval e' env >>= fun o => holding [o] (eval (.Slice lo' hi' t' p') env) >>= fun i => standAt p >>= fun _ => getitemInPython o >>= fun b => subscripted (.Slice lo' hi' t' p') b o i >>= fun r => letTemporaryGo e' o r >>= fun _ => pure r) s H Q X
  refine (h0 st w).then fun a H₁ v s₁ x1 rp1 ra w1 => ?_
  have st1 := st.step x1 rp1
  refine Ev.then (Q := fun (y : AV × AV × AV) H' => wpSlc H' a y.1 y.2.1 y.2.2 fun c => Q c H') (Ev.holding (slice_ev h1 h2 h3 st1 w1)) fun y H₂ i s₂ x2 rp2 ri w2 => Ev.stand ?_
  obtain ⟨g, w₁, w₂, w₃, rfl, hg, r1, r2, r3⟩ := ri
  have ra2 := ra.step x2 st1.live noW_seq
  have hsub : ∃ ops, subscripted (.Slice lo' hi' t' p') false v (.ref g) = operate ops (getItem v (.ref g)) := by
    cases t'
    · exact ⟨[.ref g, v], rfl⟩
    · exact ⟨[v, .ref g], rfl⟩
  obtain ⟨ops, hsub⟩ := hsub
  refine tail_ev (ops := ops) rp2 ra2 ?_ hsub (prim_slc (st1.live.step x2) rp2 ra2 r1 r2 r3 w2 hg)
  rcases w2 with ⟨xs, l, u, h1, _⟩ | ⟨xs, l, u, h1, _⟩
  · exact .inl ⟨_, h1⟩
  · exact .inr (.inr ⟨_, h1⟩)
end
end Mine
namespace Mine
noncomputable def OwnW (env : Env) : Addr → Prop := fun a => a = env.locals ∨ ∃ n, env.cells.lookup n = some a
theorem EnvAt.vars {C : Cx} {env : Env} {ns : List (Option Str)} {ρ : RE} {h : Heap} {H : AH} {m cm : Str → Option Value} (E : EnvAt C env ns ρ h H m cm) : VarsOnly h (OwnW env) := by
  rintro b o (rfl | ⟨n, hc⟩) ho hh
  · obtain ⟨o', es, ep, h1, h2, _⟩ := E.loc
    rw [ho] at h1; cases h1
    exact hh.nd _ _ h2
  · obtain ⟨⟨o', h1, h2⟩, _⟩ := E.cell n b hc
    rw [ho] at h1; cases h1
    rcases hh.1 with ⟨_, _, e⟩ | ⟨_, e⟩ <;> rw [h2] at e <;> cases e
theorem Live.sameBut {C : Cx} {h h' : Heap} {H : AH} {c : Addr} (L : Live C h H) (k : Heap.SameBut c h h') (hc : C.S.base.get? c = none) (hd : c ∈ C.fs → ∃ o es ep, h'.get? c = some o ∧ o.data = .dict es ep) : Live C h' H where
  frames := L.frames
  funs := by
    have : ∀ l : List Env, (∀ b ∈ l.filterMap (·.frame), b ∈ C.fs) → h.FunFrames C.S.base l → h'.FunFrames C.S.base l := by
      intro l
      induction l with
      | nil => intro _ _; trivial
      | cons env r ih =>
        intro hs ⟨hk, ⟨a, o, hf, hn, ho, hdd⟩, hr⟩
        have ha : a ∈ C.fs := hs a (by rw [List.filterMap_cons, hf]; exact .head _)
        refine ⟨hk, ?_, ih (fun b hb => hs b ?_) hr⟩
        · by_cases q : a = c
          · subst q
            obtain ⟨o', es, ep, h1, h2⟩ := hd ha
            exact ⟨a, o', hf, hn, h1, fun vs z => by rw [h2] at z; cases z⟩
          · exact ⟨a, o, hf, hn, (k.2 a q).trans ho, hdd⟩
        · rw [List.filterMap_cons, hf]; exact .tail _ hb
    exact this C.fe (fun b hb => hb) L.funs
  stays := fun b o e => (k.2 b (fun q => by subst q; rw [hc] at e; cases e)).trans (L.stays b o e)
  off := L.off
  new := L.new
  handled := L.handled
  dicts := fun b hb => by
    by_cases q : b = c
    · subst q; exact hd hb
    · obtain ⟨o, es, ep, h1, h2⟩ := L.dicts b hb
      exact ⟨o, es, ep, (k.2 b q).trans h1, h2⟩
  depth := L.depth
  units := L.units
theorem Rep.store {C : Cx} {W : Addr → Prop} {s s' : Shared} {H : AH} (R : Rep C.S s.heap H) (L : Live C s.heap H) (x : Step C W s H s' H) (hw : VarsOnly s.heap W) (k : ∀ a, foot H a → s'.heap.get? a = s.heap.get? a) : Rep C.S s'.heap H := by
  refine ⟨fun a ao e => ?_⟩
  have fa : foot H a := by unfold foot; rw [e]; exact fun q => nomatch q
  cases ao with
  | lst xs => obtain ⟨vs, n, ho, v⟩ := R.obj a _ e; exact ⟨vs, n, (k a fa).trans ho, v.step x L hw⟩
theorem step_store {C : Cx} {W : Addr → Prop} {s : Shared} {H : AH} {h' : Heap} {tk : Nat} {c : Addr} (hc : W c) (k : Heap.SameBut c s.heap h') (hl : ∃ o, h'.get? c = some o) : Step C W s H { s with heap := h', toks := tk } H where
  keep := fun b o e _ w _ => (k.2 b (fun q => w (q ▸ hc))).trans e
  slots := fun b o e _ w => ⟨o.slots, (k.2 b (fun q => w (q ▸ hc))).trans e⟩
  alive := fun b o e => by
    by_cases q : b = c
    · subst q; exact hl
    · exact ⟨o, (k.2 b q).trans e⟩
  grow := fun _ q => .inl q
  gens := rfl
  os := rfl
theorem set_get {ρ : RE} {i j : Nat} {a : Option AV} (hi : i < ρ.length) : (ρ.set i a)[j]? = if i = j then some a else ρ[j]? := by
  rw [List.getElem?_set]
  split
  · rename_i q; subst q; first | rfl | simp [hi]
  · rfl
theorem store_local {C : Cx} {env : Env} {ns : List (Option Str)} {ρ : RE} {s : Shared} {H : AH} {i : Nat} {x : Str} {v : Value} {a : AV} {P : Unit → Shared → Prop} {E : Value → Shared → Prop} (st : St C env ns ρ s H) (hx : ns[i]? = some (some x)) (hk : env.kindOf x = some .local)
    (rv : VRel s.heap (foot H) v a) (h : ∀ s', Step C (fun b => b = env.locals) s H s' H → St C env ns (ρ.set i (some a)) s' H → P () s') : wpAny C.S.M C.A (storeName env x v) P E s := by
  obtain ⟨m, cm, En⟩ := st.env
  have hi : i < ρ.length := by
    rw [En.len]
    exact (List.getElem?_eq_some_iff.mp hx).1
  have hw := En.vars
  refine wpAny_storeName_local hk En.loc (fun h' hn' hs' => ?_) (by rw [En.fn]; rfl)
  have hl : ∃ o, h'.get? env.locals = some o := let ⟨o, _, _, ho, _⟩ := hn'; ⟨o, ho⟩
  have x0 : Step C (fun b => b = env.locals) s H { s with heap := h', toks := s.toks + 1 } H := step_store rfl hs' hl
  have x1 : Step C (OwnW env) s H { s with heap := h', toks := s.toks + 1 } H := x0.wider fun _ q => .inl q
  have L' : Live C h' H := st.live.sameBut hs' En.locNew fun _ => let ⟨o, es, ep, ho, hd, _⟩ := hn'; ⟨o, es, ep, ho, hd⟩
  refine h _ x0 ⟨L', st.rep.store st.live x1 hw fun b hb => hs'.2 b fun q => En.locOff (q ▸ hb), _, cm, En.fn, En.glob, En.bns, hn', En.locOff, En.inj, by rw [List.length_set]; exact En.len, En.has, En.locNew, fun n c hc => ?_, En.apart, fun j y b h1 h2 => ?_⟩
  · obtain ⟨⟨o, c1, c1'⟩, c2, c3, c4, c5⟩ := En.cell n c hc
    exact ⟨⟨o, (hs'.2 c c4).trans c1, c1'⟩, c2, c3, c4, c5⟩
  · rw [set_get hi] at h2
    split at h2
    · rename_i q; subst q
      rw [hx] at h1
      cases h1
      cases h2
      exact ⟨v, rv.step x1 st.live hw, .inl ⟨hk, by simp⟩⟩
    · rename_i q
      obtain ⟨u, ru, hu⟩ := En.var j y b h1 h2
      refine ⟨u, ru.step x1 st.live hw, hu.imp (fun z => ⟨z.1, ?_⟩) id⟩
      have : y ≠ x := fun z => q (En.inj i j x hx (z ▸ h1))
      simp [this, z.2]
theorem store_ok {C : Cx} {env : Env} {ns : List (Option Str)} {ρ : RE} {s : Shared} {H : AH} {i : Nat} {x : Str} {v : Value} {a : AV} {P : Unit → Shared → Prop} {E : Value → Shared → Prop} (st : St C env ns ρ s H) (hx : ns[i]? = some (some x)) (hk : env.kindOf x = some .local ∨ env.kindOf x = some .cell)
    (rv : VRel s.heap (foot H) v a) (h : ∀ s', Step C (OwnW env) s H s' H → St C env ns (ρ.set i (some a)) s' H → P () s') : wpAny C.S.M C.A (storeName env x v) P E s := by
  rcases hk with hk | hk
  · exact store_local st hx hk rv fun s' x1 st' => h s' (x1.wider fun _ q => .inl q) st'
  obtain ⟨m, cm, En⟩ := st.env
  have hi : i < ρ.length := by
    rw [En.len]
    exact (List.getElem?_eq_some_iff.mp hx).1
  have hw := En.vars
  · obtain ⟨c, hc⟩ := En.has x (.inl hk)
    obtain ⟨c1, c2, c3, c4, c5⟩ := En.cell x c hc
    refine wpAny_storeName_cell En.fn hk hc c1 fun h' hc' hs' => ?_
    have hl : ∃ o, h'.get? c = some o := let ⟨o, ho, _⟩ := hc'; ⟨o, ho⟩
    have x1 : Step C (OwnW env) s H { s with heap := h' } H := step_store (W := OwnW env) (tk := s.toks) (.inr ⟨x, hc⟩) hs' hl
    have L' : Live C h' H := st.live.sameBut hs' c5 fun q => absurd q c3
    refine h _ x1 ⟨L', st.rep.store st.live x1 hw fun b hb => hs'.2 b fun q => c2 (q ▸ hb), m, (fun y => if y = x then some v else cm y), En.fn, En.glob, En.bns, En.loc.sameBut hs' (Ne.symm c4), En.locOff, En.inj, by rw [List.length_set]; exact En.len, En.has, En.locNew, fun n b hb => ?_, En.apart, fun j y b h1 h2 => ?_⟩
    · obtain ⟨⟨o, e1, e1'⟩, e2, e3, e4, e5⟩ := En.cell n b hb
      by_cases q : n = x
      · subst q
        rw [hc] at hb; cases hb
        exact ⟨by simpa using hc', e2, e3, e4, e5⟩
      · have hne : b ≠ c := fun z => q (En.apart n x c (z ▸ hb) hc)
        exact ⟨⟨o, (hs'.2 b hne).trans e1, by simpa [q] using e1'⟩, e2, e3, e4, e5⟩
    · rw [set_get hi] at h2
      split at h2
      · rename_i q; subst q
        rw [hx] at h1
        cases h1
        cases h2
        exact ⟨v, rv.step x1 st.live hw, .inr ⟨.inl hk, ⟨c, hc⟩, by simp⟩⟩
      · rename_i q
        obtain ⟨u, ru, hu⟩ := En.var j y b h1 h2
        refine ⟨u, ru.step x1 st.live hw, hu.imp id fun z => ⟨z.1, z.2.1, ?_⟩⟩
        have : y ≠ x := fun z => q (En.inj i j x hx (z ▸ h1))
        simp [this, z.2.2]
end Mine
namespace Mine
structure Aside (C : Cx) (env : Env) (h : Heap) (H : AH) (it : Addr) : Prop where
  obj : ∃ o T, h.get? it = some o ∧ o.cls = .type T ∧ ¬ (T = "tuple" ∨ T = "list" ∨ T = "range")
  foot : ¬ foot H it
  fs : it ∉ C.fs
  own : ¬ OwnW env it
  base : C.S.base.get? it = none
theorem Aside.held {C : Cx} {env : Env} {h : Heap} {H : AH} {it b : Addr} {o : Obj} (x : Aside C env h H it) (e : h.get? b = some o) (hh : Held o) : b ≠ it := fun q => by
  obtain ⟨o', T, h1, h2, h3⟩ := x.obj
  subst q
  rw [e] at h1; cases h1
  exact h3 (hh.2 T h2)
theorem Rep.but {S : Stat} {h h' : Heap} {H : AH} {it : Addr} (R : Rep S h H) (nf : ¬ foot H it) (hi : ∀ b o, h.get? b = some o → Held o → b ≠ it) (k : ∀ b o, b ≠ it → h.get? b = some o → h'.get? b = some o) : Rep S h' H := by
  refine ⟨fun a ao e => ?_⟩
  have ne : a ≠ it := fun q => nf (q ▸ (by unfold foot; rw [e]; exact fun q => nomatch q))
  cases ao with
  | lst xs => obtain ⟨vs, n, ho, v⟩ := R.obj a _ e; exact ⟨vs, n, k a _ ne ho, v.keep (fun b o e _ hh => k b o (hi b o e hh) e) fun _ _ _ n => n⟩
theorem Live.but {C : Cx} {h h' : Heap} {H : AH} {it : Addr} (L : Live C h H) (nfs : it ∉ C.fs) (nb : C.S.base.get? it = none) (k : ∀ b o, b ≠ it → h.get? b = some o → h'.get? b = some o) : Live C h' H where
  frames := L.frames
  funs := by
    have : ∀ l : List Env, (∀ b ∈ l.filterMap (·.frame), b ∈ C.fs) → h.FunFrames C.S.base l → h'.FunFrames C.S.base l := by
      intro l
      induction l with
      | nil => intro _ _; trivial
      | cons env r ih =>
        intro hs ⟨hk, ⟨a, o, hf, hn, ho, hdd⟩, hr⟩
        have ha : a ∈ C.fs := hs a (by rw [List.filterMap_cons, hf]; exact .head _)
        refine ⟨hk, ⟨a, o, hf, hn, k a o (fun q => nfs (q ▸ ha)) ho, hdd⟩, ih (fun b hb => hs b ?_) hr⟩
        rw [List.filterMap_cons, hf]; exact .tail _ hb
    exact this C.fe (fun b hb => hb) L.funs
  stays := fun b o e => k b o (fun q => by subst q; rw [nb] at e; cases e) (L.stays b o e)
  off := L.off
  new := L.new
  handled := L.handled
  dicts := fun b hb => by
    obtain ⟨o, es, ep, h1, h2⟩ := L.dicts b hb
    exact ⟨o, es, ep, k b o (fun q => nfs (q ▸ hb)) h1, h2⟩
  depth := L.depth
  units := L.units
theorem EnvOK.but {C : Cx} {env : Env} {ns : List (Option Str)} {ρ : RE} {h h' : Heap} {H : AH} {it : Addr} (E : EnvOK C env ns ρ h H) (nf : ¬ foot H it) (nW : ¬ OwnW env it) (hi : ∀ b o, h.get? b = some o → Held o → b ≠ it) (k : ∀ b o, b ≠ it → h.get? b = some o → h'.get? b = some o) : EnvOK C env ns ρ h' H := by
  obtain ⟨m, cm, E⟩ := E
  refine ⟨m, cm, E.fn, E.glob, E.bns, ?_, E.locOff, E.inj, E.len, E.has, E.locNew, fun n c hc => ?_, E.apart, fun i y a h1 h2 => ?_⟩
  · obtain ⟨o, es, ep, ho, hd, r⟩ := E.loc
    exact ⟨o, es, ep, k _ _ (fun q => nW (.inl q.symm)) ho, hd, r⟩
  · obtain ⟨⟨o, ho, hd⟩, h2, h3, h4⟩ := E.cell n c hc
    exact ⟨⟨o, k c o (fun q => nW (.inr ⟨n, q ▸ hc⟩)) ho, hd⟩, h2, h3, h4⟩
  · obtain ⟨v, hv, r⟩ := E.var i y a h1 h2
    exact ⟨v, hv.keep (fun b o e _ hh => k b o (hi b o e hh) e) (fun _ _ _ n => n), r⟩
theorem St.but {C : Cx} {env : Env} {ns : List (Option Str)} {ρ : RE} {s : Shared} {H : AH} {it : Addr} {h' : Heap} {tk : Nat} (st : St C env ns ρ s H) (x : Aside C env s.heap H it) (k : ∀ b o, b ≠ it → s.heap.get? b = some o → h'.get? b = some o) : St C env ns ρ { s with heap := h', toks := tk } H :=
  ⟨st.live.but x.fs x.base k, st.rep.but x.foot (fun b o e hh => x.held e hh) k, st.env.but x.foot x.own (fun b o e hh => x.held e hh) k⟩
theorem Step.but {C : Cx} {W : Addr → Prop} {s s' : Shared} {H H' : AH} {it : Addr} {h' : Heap} {tk : Nat} (x : Step C W s H s' H') (hn : s.heap.get? it = none) (k : ∀ b o, b ≠ it → s'.heap.get? b = some o → h'.get? b = some o) : Step C W s H { s' with heap := h', toks := tk } H' where
  keep := fun b o e n m f => k b o (fun q => by subst q; rw [hn] at e; cases e) (x.keep b o e n m f)
  slots := fun b o e f m => by
    obtain ⟨sl, h1⟩ := x.slots b o e f m
    exact ⟨sl, k b _ (fun q => by subst q; rw [hn] at e; cases e) h1⟩
  alive := fun b o e => by
    obtain ⟨o', e'⟩ := x.alive b o e
    exact ⟨o', k b o' (fun q => by subst q; rw [hn] at e; cases e) e'⟩
  grow := x.grow
  gens := x.gens
  os := x.os
theorem Aside.step {C : Cx} {env : Env} {s s' : Shared} {H H' : AH} {it : Addr} (x : Aside C env s.heap H it) (y : Step C (OwnW env) s H s' H') : Aside C env s'.heap H' it := by
  obtain ⟨⟨o, T, h1, h2, h3⟩, nf, nfs, nW, nb⟩ := x
  exact ⟨⟨o, T, y.keep it o h1 nf nW nfs, h2, h3⟩, y.not h1 nf, nfs, nW, nb⟩
theorem Aside.keepObj {C : Cx} {env : Env} {s s' : Shared} {H H' : AH} {it : Addr} {o : Obj} (x : Aside C env s.heap H it) (y : Step C (OwnW env) s H s' H') (e : s.heap.get? it = some o) : s'.heap.get? it = some o := y.keep it o e x.foot x.own x.fs
theorem Aside.new {C : Cx} {env : Env} {ns : List (Option Str)} {ρ : RE} {s : Shared} {H : AH} {o : Obj} {T : String} (st : St C env ns ρ s H) (hc : o.cls = .type T) (hT : ¬ (T = "tuple" ∨ T = "list" ∨ T = "range")) (hf : o.isFreed = false) : Aside C env (s.heap.push o) H s.heap.objs.size := by
  have h0 := size_none s.heap
  obtain ⟨m, cm, En⟩ := st.env
  refine ⟨⟨o, T, Heap.get?_push_size _ hf, hc, hT⟩, st.rep.off h0, fun q => ?_, ?_, ?_⟩
  · obtain ⟨o', _, _, ho, _⟩ := st.live.dicts _ q; rw [h0] at ho; cases ho
  · rintro (q | ⟨n, q⟩)
    · obtain ⟨o', _, _, ho, _⟩ := En.loc; rw [← q, h0] at ho; cases ho
    · obtain ⟨⟨o', ho, _⟩, _⟩ := En.cell n _ q; rw [h0] at ho; cases ho
  · cases q : C.S.base.get? s.heap.objs.size with
    | none => rfl
    | some o' => have := st.live.stays _ _ q; rw [h0] at this; cases this
end Mine
namespace Mine
inductive ItrAt (h : Heap) (H : AH) (it : Addr) : AV → List AV → Nat → Prop
  | lst {l : Addr} {a : AV} {xs : List AV} {k : Nat} : h.IsListIter it l k → VRel h (foot H) (.ref l) a → lsOf H a = some xs → ItrAt h H it a xs k
  | tup {t : Addr} {xs : List AV} {k : Nat} : h.IsTupleIter it t k → VRel h (foot H) (.ref t) (.tup xs) → ItrAt h H it (.tup xs) xs k
  | str {x : Str} {t : Tok} {k : Nat} : h.IsStrIter it (strIterType x) x t k → PyData.strOk x = true → ItrAt h H it (.str x) (signs x) k
  | rng {a b : Int} {k : Nat} : IsRangeIter h it (a + k) (((b - a).toNat : Int) - k) 1 → ItrAt h H it (.rng a b) (span a b) k
theorem ItrAt.obj {h : Heap} {H : AH} {it : Addr} {a : AV} {xs : List AV} {k : Nat} (x : ItrAt h H it a xs k) : ∃ o T, h.get? it = some o ∧ o.cls = .type T ∧ ¬ (T = "tuple" ∨ T = "list" ∨ T = "range") := by
  cases x with
  | lst hi _ _ => obtain ⟨o, ho, hc, _⟩ := hi; exact ⟨o, _, ho, hc, by decide⟩
  | tup hi _ => obtain ⟨o, ho, hc, _⟩ := hi; exact ⟨o, _, ho, hc, by decide⟩
  | str hi _ => obtain ⟨o, ho, hc, _⟩ := hi; exact ⟨o, _, ho, hc, by unfold strIterType; split <;> decide⟩
  | rng hi => exact ⟨_, _, hi, rfl, by decide⟩
theorem sign_at {x : Str} {k : Nat} {a : AV} (h : (signs x)[k]? = some a) : ∃ c, x.cps[k]? = some c ∧ a = .str ⟨#[c]⟩ := by
  unfold signs at h
  rw [List.getElem?_map] at h
  cases e : x.cps.toList[k]? with
  | none => rw [e] at h; cases h
  | some c => rw [e] at h; cases h; exact ⟨c, by rw [← Array.getElem?_toList]; exact e, rfl⟩
theorem sign_none {x : Str} {k : Nat} (h : (signs x)[k]? = none) : x.cps[k]? = none := by
  unfold signs at h
  rw [List.getElem?_map] at h
  rw [← Array.getElem?_toList]
  cases e : x.cps.toList[k]? with
  | none => rfl
  | some c => rw [e] at h; cases h
theorem span_at {a b : Int} {k : Nat} {v : AV} (h : (span a b)[k]? = some v) : k < (b - a).toNat ∧ v = .int (a + k) := by
  unfold span at h
  rw [List.getElem?_map] at h
  by_cases q : k < (b - a).toNat
  · rw [List.getElem?_range q] at h
    cases h
    exact ⟨q, rfl⟩
  · rw [List.getElem?_eq_none (by rw [List.length_range]; omega)] at h
    cases h
theorem span_none {a b : Int} {k : Nat} (h : (span a b)[k]? = none) : (b - a).toNat ≤ k := by
  have := List.getElem?_eq_none_iff.mp h
  unfold span at this
  simpa using this
section
variable {C : Cx} {env : Env} {ns : List (Option Str)} {ρ : RE} {s : Shared} {H : AH} {it : Addr} {src : AV} {xs : List AV} {k : Nat}
theorem itr_next {P : Option Value → Shared → Prop} {E : Value → Shared → Prop} (st : St C env ns ρ s H) (x : Aside C env s.heap H it) (i : ItrAt s.heap H it src xs k)
    (hitem : ∀ v a h' tk, xs[k]? = some a → VRel h' (foot H) v a → ItrAt h' H it src xs (k + 1) → (∀ b o, b ≠ it → s.heap.get? b = some o → h'.get? b = some o) → P (some v) { s with heap := h', toks := tk })
    (hend : ∀ h', xs[k]? = none → (∀ b o, b ≠ it → s.heap.get? b = some o → h'.get? b = some o) → P none { s with heap := h' }) : wpAny C.S.M C.A (pyNext (.ref it)) P E s := by
  have hh := st.live.handled
  have kp : ∀ {h' : Heap}, Heap.SameBut it s.heap h' → ∀ b o, b ≠ it → s.heap.get? b = some o → h'.get? b = some o := fun q b o ne e => (q.2 b ne).trans e
  have vk : ∀ {h' : Heap} {v : Value} {a : AV}, (∀ b o, b ≠ it → s.heap.get? b = some o → h'.get? b = some o) → VRel s.heap (foot H) v a → VRel h' (foot H) v a :=
    fun q r => r.keep (fun b o e _ hd => q b o (x.held e hd) e) fun _ _ _ n => n
  cases i with
  | lst hi hl hx =>
    obtain ⟨l, vs, n, el, hL, rl⟩ := ls_of st.rep hl hx
    cases el
    cases e : xs[k]? with
    | none =>
      refine wpAny_pyNext_list_end hh hi hL.isList ?_ fun h' q => hend h' e q
      rw [← Array.getElem?_toList]
      exact List.getElem?_eq_none (by rw [rl.length]; exact List.getElem?_eq_none_iff.mp e)
    | some a =>
      obtain ⟨v, hv, r⟩ := rl.get k e
      exact wpAny_pyNext_list_item hi hL.isList (by rw [← Array.getElem?_toList]; exact hv) fun h' q1 q2 => hitem v a h' s.toks e (vk (kp q2) r) (.lst q1 (vk (kp q2) hl) hx) (kp q2)
  | tup hi ht =>
    rename_i t
    cases ht with
    | tup ho nf rl =>
      have hT : s.heap.IsTuple t _ := ⟨_, ho, rfl, _, rfl⟩
      cases e : xs[k]? with
      | none =>
        refine wpAny_pyNext_tuple_end hh hi hT ?_ fun h' q => hend h' e q
        rw [← Array.getElem?_toList]
        exact List.getElem?_eq_none (by rw [rl.length]; exact List.getElem?_eq_none_iff.mp e)
      | some a =>
        obtain ⟨v, hv, r⟩ := rl.get k e
        exact wpAny_pyNext_tuple_item hi hT (by rw [← Array.getElem?_toList]; exact hv) fun h' q1 q2 => hitem v a h' s.toks e (vk (kp q2) r) (.tup q1 (vk (kp q2) (.tup ho nf rl))) (kp q2)
  | str hi ok =>
    rename_i y t
    cases e : (signs y)[k]? with
    | none =>
      by_cases ha : y.cps.all (· < 128) = true
      · have eT : strIterType y = "str_ascii_iterator" := by unfold strIterType; rw [if_pos ha]
        rw [eT] at hi
        exact wpAny_pyNext_ascii_end hh hi (sign_none e) fun h' q => hend h' e q
      · have eT : strIterType y = "str_iterator" := by unfold strIterType; rw [if_neg ha]
        rw [eT] at hi
        exact wpAny_pyNext_wide_end hh hi (sign_none e) fun h' q => hend h' e q
    | some a =>
      obtain ⟨c, hc, rfl⟩ := sign_at e
      have okc : PyData.strOk (⟨#[c]⟩ : Str) = true := strOk_sub ok (by
        intro d hd
        simp only [List.mem_singleton] at hd
        subst hd
        exact List.mem_of_getElem? (i := k) (by rw [Array.getElem?_toList]; exact hc))
      by_cases ha : y.cps.all (· < 128) = true
      · have eT : strIterType y = "str_ascii_iterator" := by unfold strIterType; rw [if_pos ha]
        rw [eT] at hi
        exact wpAny_pyNext_ascii_item hi hc fun h' q1 q2 => hitem _ _ h' _ e (.str _ _ okc) (.str (by rw [eT]; exact q1) ok) (kp q2)
      · have eT : strIterType y = "str_iterator" := by unfold strIterType; rw [if_neg ha]
        rw [eT] at hi
        exact wpAny_pyNext_wide_item hi hc fun h' q1 q2 => hitem _ _ h' _ e (.str _ _ okc) (.str (by rw [eT]; exact q1) ok) (kp q2)
  | rng hi =>
    rename_i a b
    cases e : (span a b)[k]? with
    | none =>
      have := span_none e
      exact wpAny_pyNext_range_end hh hi (by omega) fun h' q => hend h' e q
    | some v =>
      obtain ⟨h1, rfl⟩ := span_at e
      refine wpAny_pyNext_range_item hi (by omega) fun h' q1 q2 => hitem _ _ h' _ e (.int _ _) (.rng ?_) (kp q2)
      have e1 : a + ((k + 1 : Nat) : Int) = a + k + 1 := by omega
      have e2 : ((b - a).toNat : Int) - ((k + 1 : Nat) : Int) = ((b - a).toNat : Int) - k - 1 := by omega
      rw [e1, e2]; exact q1
end
theorem rng_size {a b : Int} : Builtin.Range.rangeSize a b 1 = ((b - a).toNat : Int) := by
  unfold Builtin.Range.rangeSize
  rw [if_pos (by decide)]
  split <;> omega
theorem rng_small {a b : Int} (h : -(2 ^ 62 : Int) < a ∧ a < 2 ^ 62 ∧ -(2 ^ 62 : Int) < b ∧ b < 2 ^ 62) : Builtin.Range.small a b 1 = true := by
  unfold Builtin.Range.small
  rw [rng_size]
  simp [Builtin.Range.rangeFitsLong]
  omega
theorem iter_ls {H0 H : AH} {src : AV} {xs ys : List AV} {same : AH → Prop} (h : iterOf H0 src = some (xs, same)) (hs : same H) (hl : ∃ H', lsOf H' src = some ys) : lsOf H src = some xs := by
  obtain ⟨H', hl⟩ := hl
  cases src <;> simp only [lsOf, reduceCtorEq] at hl
  · simp only [iterOf, Option.some.injEq, Prod.mk.injEq] at h
    rw [← h.1]; rfl
  · rename_i r
    simp only [iterOf] at h
    split at h
    · simp only [Option.some.injEq, Prod.mk.injEq] at h
      obtain ⟨rfl, rfl⟩ := h
      simp only [lsOf, hs]
    · cases h
section
variable {C : Cx} {env : Env} {ns : List (Option Str)} {ρ : RE} {s : Shared} {H : AH} {it : Addr} {src : AV} {xs : List AV} {k : Nat}
theorem itr_start {v : Value} {same : AH → Prop} {P : Value → Shared → Prop} {E : Value → Shared → Prop} (st : St C env ns ρ s H) (hi : iterOf H src = some (xs, same)) (hs : same H) (rv : VRel s.heap (foot H) v src)
    (h : ∀ h', (∀ b o, s.heap.get? b = some o → h'.get? b = some o) → Aside C env h' H s.heap.objs.size → ItrAt h' H s.heap.objs.size src xs 0 → P (.ref s.heap.objs.size) { s with heap := h' }) : wpAny C.S.M C.A (pyIter v) P E s := by
  have kp : ∀ o : Obj, ∀ b q, s.heap.get? b = some q → (s.heap.push o).get? b = some q := fun o b q e => Heap.get?_push_of_some _ e
  have vk : ∀ o : Obj, ∀ {v : Value} {a : AV}, VRel s.heap (foot H) v a → VRel (s.heap.push o) (foot H) v a := fun o v a r => r.stays (Stays.of_ext (kp o))
  have ls : lsOf H src = some xs → wpAny C.S.M C.A (pyIter v) P E s := fun hl => by
    obtain ⟨l, vs, n, rfl, hL, rl⟩ := ls_of st.rep rv hl
    exact wpAny_pyIter_list hL.isList (h _ (kp _) (Aside.new st rfl (by decide) rfl) (.lst ⟨_, Heap.get?_push_size _ rfl, rfl, rfl⟩ (vk _ rv) hl))
  cases src with
  | none => cases hi
  | bool b => cases hi
  | int i => cases hi
  | exc c => cases hi
  | lst ys => exact ls (iter_ls hi hs ⟨H, rfl⟩)
  | ref r =>
    refine ls ?_
    simp only [iterOf] at hi
    split at hi
    · rename_i ys e
      simp only [Option.some.injEq, Prod.mk.injEq] at hi
      obtain ⟨rfl, rfl⟩ := hi
      simp only [lsOf, e]
    · cases hi
  | tup ys =>
    simp only [iterOf, Option.some.injEq, Prod.mk.injEq] at hi
    obtain ⟨rfl, rfl⟩ := hi
    cases rv with
    | tup ho nf rl =>
      exact wpAny_pyIter_tuple ⟨_, ho, rfl, _, rfl⟩ (h _ (kp _) (Aside.new st rfl (by decide) rfl) (.tup ⟨_, Heap.get?_push_size _ rfl, rfl, rfl⟩ (vk _ (.tup ho nf rl))))
  | str x =>
    simp only [iterOf, Option.some.injEq, Prod.mk.injEq] at hi
    obtain ⟨rfl, rfl⟩ := hi
    cases rv with
    | str _ t ok =>
      exact wpAny_pyIter_strU (h _ (kp _) (Aside.new st rfl (by unfold strIterType; split <;> decide) rfl) (.str ⟨_, Heap.get?_push_size _ rfl, rfl, rfl⟩ ok))
  | rng a b =>
    simp only [iterOf, Option.some.injEq, Prod.mk.injEq] at hi
    obtain ⟨rfl, rfl⟩ := hi
    cases rv with
    | rng ho nf =>
      refine wpAny_pyIter_range ho (rng_small hs) (h _ (kp _) (Aside.new st rfl (by decide) rfl) (.rng ?_))
      rw [rng_size]
      have e1 : a + ((0 : Nat) : Int) = a := by omega
      have e2 : ((b - a).toNat : Int) - ((0 : Nat) : Int) = ((b - a).toNat : Int) := by omega
      rw [e1, e2]
      exact Heap.get?_push_size _ rfl
theorem ItrAt.after {W : Addr → Prop} {s' : Shared} {H0 H' : AH} {same : AH → Prop} (i : ItrAt s.heap H it src xs k) (k1 : ∀ o, s.heap.get? it = some o → s'.heap.get? it = some o) (y : Step C W s H s' H') (L : Live C s.heap H) (hw : VarsOnly s.heap W)
    (hi : iterOf H0 src = some (xs, same)) (hs : same H') : ItrAt s'.heap H' it src xs k := by
  cases i with
  | lst h1 h2 h3 => obtain ⟨o, ho, r⟩ := h1; exact .lst ⟨o, k1 o ho, r⟩ (h2.step y L hw) (iter_ls hi hs ⟨H, h3⟩)
  | tup h1 h2 => obtain ⟨o, ho, r⟩ := h1; exact .tup ⟨o, k1 o ho, r⟩ (h2.step y L hw)
  | str h1 ok => obtain ⟨o, ho, r⟩ := h1; exact .str ⟨o, k1 o ho, r⟩ ok
  | rng h1 => exact .rng (k1 _ h1)
end
end Mine
namespace Mine
theorem del_some {H : AH} {D a : Addr} {ao : AO} (h : del H D a = some ao) : H a = some ao := by
  unfold del at h
  split at h
  · cases h
  · exact h
theorem foot_del {H : AH} {D a : Addr} (h : foot (del H D) a) : foot H a := fun q => h (by unfold del; split; rfl; exact q)
theorem del_stays {h : Heap} {H : AH} {D : Addr} : Stays (foot H) (foot (del H D)) h h := ⟨fun _ _ e _ => e, fun a q => .inl (foot_del q)⟩
theorem Rep.del {S : Stat} {h : Heap} {H : AH} {D : Addr} (R : Rep S h H) : Rep S h (del H D) := ⟨fun a ao e => (R.obj a ao (del_some e)).ext (fun _ _ q => q) (fun a q => .inl (foot_del q))⟩
theorem offDel {H : AH} {D : Addr} : ¬ foot (del H D) D := fun q => q (if_pos rfl)
theorem Step.delD {C : Cx} {W : Addr → Prop} {s s' : Shared} {H H' : AH} {D : Addr} (x : Step C W s H s' H') : Step C W s H s' (del H' D) :=
  ⟨x.keep, x.slots, x.alive, fun a q => x.grow a (foot_del q), x.gens, x.os⟩
theorem Step.thenNew {C : Cx} {W W' : Addr → Prop} {s s₁ s₂ : Shared} {H H₁ H₂ : AH} (x : Step C W s H s₁ H₁) (y : Step C W' s₁ H₁ s₂ H₂) (hn : ∀ a, W' a → s.heap.get? a = none) : Step C W s H s₂ H₂ where
  keep := fun b o e n m f => y.keep b o (x.keep b o e n m f) (x.not e n) (fun q => by have := hn b q; rw [e] at this; cases this) f
  slots := fun b o e f m => by
    obtain ⟨sl, h1⟩ := x.slots b o e f m
    obtain ⟨sl', h2⟩ := y.slots b _ h1 f (fun q => by have := hn b q; rw [e] at this; cases this)
    exact ⟨sl', h2⟩
  alive := fun b o e => by
    obtain ⟨o', e'⟩ := x.alive b o e
    exact y.alive b o' e'
  grow := fun a q => (y.grow a q).elim (fun p => x.grow a p) fun l => by
    cases e : s.heap.get? a with
    | none => exact .inr rfl
    | some o => obtain ⟨o', e'⟩ := x.alive a o e; rw [l] at e'; cases e'
  gens := y.gens.trans x.gens
  os := y.os.trans x.os
theorem forIn_pure {α β : Type} (f : α → β → Sem (ForInStep β)) (g : β → α → β) : ∀ (l : List α) (b : β), (∀ x ∈ l, ∀ r, f x r = pure (.yield (g r x))) → forIn l b f = (pure (l.foldl g b) : Sem β)
  | [], b, h => rfl
  | x :: l, b, h => by
    rw [List.forIn_cons, h x List.mem_cons_self, pure_bind]
    exact forIn_pure f g l _ fun y hy => h y (List.mem_cons_of_mem _ hy)
noncomputable def closAdd (env : Env) (cs : List (Str × Addr)) (y : Str × NameKind) : List (Str × Addr) := if y.2 == .free then (match env.cells.lookup y.1 with | some c => (y.1, c) :: cs | none => cs) else cs
noncomputable def closOf (env : Env) (names : List (Str × NameKind)) : List (Str × Addr) := names.foldl (closAdd env) []
theorem clos_eq {scope : Scope} {env : Env} (h : ∀ y ∈ scope.names, y.2 = .free → ∃ c, env.cells.lookup y.1 = some c) : closureFor scope env = pure (closOf env scope.names) := by
  simp only [closureFor]
  rw [forIn_pure _ (closAdd env) scope.names [] (fun x hx c => by
    obtain ⟨n, kind⟩ := x
    by_cases q : kind = .free
    · subst q
      obtain ⟨a, ha⟩ := h _ hx rfl
      simp [closAdd, cellOf, ha]
    · have : (kind == NameKind.free) = false := by simpa using q
      simp [closAdd, this])]
  rfl
theorem clos_sub {env : Env} : ∀ (names : List (Str × NameKind)) (cs : List (Str × Addr)), (∀ n c, cs.lookup n = some c → env.cells.lookup n = some c) → ∀ n c, (names.foldl (closAdd env) cs).lookup n = some c → env.cells.lookup n = some c
  | [], cs, h, n, c, e => h n c e
  | y :: r, cs, h, n, c, e => by
    refine clos_sub r (closAdd env cs y) (fun n c e => ?_) n c e
    unfold closAdd at e
    split at e
    · split at e
      · rename_i a ha
        rw [List.lookup_cons] at e
        split at e
        · rename_i q
          rw [beq_iff_eq] at q; subst q; cases e; exact ha
        · exact h n c e
      · exact h n c e
    · exact h n c e
theorem clos_keeps {env : Env} : ∀ (names : List (Str × NameKind)) (cs : List (Str × Addr)) (n : Str), (∃ c, cs.lookup n = some c) → ∃ c, (names.foldl (closAdd env) cs).lookup n = some c
  | [], cs, n, h => h
  | y :: r, cs, n, h => by
    refine clos_keeps r (closAdd env cs y) n ?_
    unfold closAdd
    split
    · split
      · rw [List.lookup_cons]
        split
        · exact ⟨_, rfl⟩
        · exact h
      · exact h
    · exact h
theorem clos_has {env : Env} {n : Str} {c : Addr} (hc : env.cells.lookup n = some c) : ∀ (names : List (Str × NameKind)) (cs : List (Str × Addr)), (n, NameKind.free) ∈ names → ∃ c, (names.foldl (closAdd env) cs).lookup n = some c
  | [], cs, h => nomatch h
  | y :: r, cs, h => by
    rcases List.mem_cons.mp h with rfl | h
    · refine clos_keeps r _ n ?_
      refine ⟨c, ?_⟩
      unfold closAdd
      rw [if_pos (by rfl)]
      simp only [hc, List.lookup_cons, beq_self_eq_true]
    · exact clos_has hc r _ h
theorem relN_lookup {sc : List (Str × NameKind)} {y : Str} : ∀ (names : List (Str × NameKind)), (relN sc names).lookup y = (names.lookup y).map fun k => if (k == .free && sc.lookup y == some .cell) then .cell else k
  | [] => rfl
  | (n, k) :: r => by
    have ih := relN_lookup (sc := sc) (y := y) r
    show List.lookup y ((if (k == .free && sc.lookup n == some .cell) = true then (n, NameKind.cell) else (n, k)) :: relN sc r) = _
    by_cases q : y = n
    · subst q
      split <;> rename_i z <;> simp only [List.lookup_cons, beq_self_eq_true, Option.map_some]
      · rw [if_pos z]
      · rw [if_neg z]
    · have q' : (y == n) = false := by simpa using q
      split <;> simp [List.lookup_cons, q', ih]
theorem nsC_at {ns : List (Option Str)} {names : List (Str × NameKind)} {j i : Nat} {x y : Str} (h : (nsC ns names j x)[i]? = some (some y)) : (i = j ∧ y = x) ∨ (i ≠ j ∧ ns[i]? = some (some y) ∧ names.lookup y = some .free) := by
  unfold nsC at h
  rw [List.getElem?_map] at h
  by_cases q : i < ns.length
  · rw [List.getElem?_range q] at h
    simp only [Option.map_some, Option.some.injEq] at h
    split at h
    · rename_i z; cases h; exact .inl ⟨z, rfl⟩
    · rename_i z
      refine .inr ⟨z, ?_⟩
      cases e : ns[i]? with
      | none => rw [e] at h; cases h
      | some o =>
        cases o with
        | none => rw [e] at h; cases h
        | some w =>
          rw [e] at h
          simp only [Option.bind_some, id] at h
          split at h
          · rename_i z2; cases h; exact ⟨rfl, by simpa using z2⟩
          · cases h
  · rw [List.getElem?_eq_none (by rw [List.length_range]; omega)] at h
    cases h
theorem nsC_len {ns : List (Option Str)} {names : List (Str × NameKind)} {j : Nat} {x : Str} : (nsC ns names j x).length = ns.length := by
  unfold nsC; simp
theorem nsC_j {ns : List (Option Str)} {names : List (Str × NameKind)} {j : Nat} {x : Str} (h : j < ns.length) : (nsC ns names j x)[j]? = some (some x) := by
  unfold nsC
  rw [List.getElem?_map, List.getElem?_range h]
  simp
structure CompAt (env : Env) (ns : List (Option Str)) (j : Nat) (x : Str) (sc : Scope) : Prop where
  kind : sc.kind = .function
  lt : j < ns.length
  loc : sc.names.lookup x = some .local
  nocell : ∀ y ∈ sc.names, y.2 ≠ .cell
  locs : ∀ y ∈ sc.names, y.2 = .local → sc.names.lookup y.1 = some .local
  free : ∀ y ∈ sc.names, y.2 = .free → env.kindOf y.1 = some .cell ∨ env.kindOf y.1 = some .free
theorem compAt_of {D : Dl} {env : Env} {j : Nat} {x : Str} {sc : Scope} (he : env.scope.names = D.sc) (h : compOK D j x sc = true) : CompAt env D.ns j x sc := by
  unfold compOK at h
  simp only [Bool.and_eq_true, beq_iff_eq, decide_eq_true_eq, List.all_eq_true, bne_iff_ne, Bool.or_eq_true] at h
  obtain ⟨⟨⟨⟨⟨⟨h1, h2⟩, h3⟩, h4⟩, h5⟩, h6⟩, h7⟩ := h
  refine ⟨h1, h2, h3, h4, fun y hy q => (h5 y hy).resolve_left fun z => z q, fun y hy q => ?_⟩
  unfold Env.kindOf
  rw [he]
  rcases h6 y hy with (z | z) | z
  · exact absurd q z
  · exact .inl z
  · exact .inr z
theorem relabel_names {sc : Scope} {env : Env} (h : env.scope.kind = .function) : (relabel sc env).names = relN env.scope.names sc.names := by
  unfold relabel relN Env.kindOf
  rw [h]
  simp
theorem EnvAt.inner {C : Cx} {env : Env} {ns : List (Option Str)} {ρ : RE} {h : Heap} {H : AH} {m cm : Str → Option Value} (E : EnvAt C env ns ρ h H m cm) {j : Nat} {x : Str} {sc : Scope} (Y : CompAt env ns j x sc) {c : Addr} (hn : h.Ns c (fun _ => none)) (hf : ¬ foot H c) (hb : C.S.base.get? c = none) (hne : ∀ n a, env.cells.lookup n = some a → a ≠ c) :
    EnvAt C (compEnvC sc (closOf env sc.names) c env) (nsC ns sc.names j x) (ρ.set j none) h H (fun _ => none) cm := by
  have hsub : ∀ n a, (closOf env sc.names).lookup n = some a → env.cells.lookup n = some a := clos_sub sc.names [] (fun _ _ q => nomatch q)
  have hkind : ∀ y, (compEnvC sc (closOf env sc.names) c env).kindOf y = (relN env.scope.names sc.names).lookup y := fun y => by
    show (relabel sc env).names.lookup y = _
    rw [relabel_names E.fn]
  have hfree : ∀ y, sc.names.lookup y = some .free → ∃ a, env.cells.lookup y = some a := fun y hy => E.has y (Y.free _ (mem_of_lookup hy) rfl)
  have hcl : ∀ y, sc.names.lookup y = some .free → ∃ a, (closOf env sc.names).lookup y = some a := fun y hy => by
    obtain ⟨a, ha⟩ := hfree y hy
    exact clos_has ha sc.names [] (mem_of_lookup hy)
  refine ⟨Y.kind, E.glob, E.bns, hn, hf, fun i k y h1 h2 => ?_, by rw [List.length_set, nsC_len]; exact E.len, fun y hy => ?_, hb, fun n a ha => ?_, fun n n' a h1 h2 => E.apart n n' a (hsub _ _ h1) (hsub _ _ h2), fun i y a h1 h2 => ?_⟩
  · rcases nsC_at h1 with ⟨rfl, rfl⟩ | ⟨_, q1, q2⟩ <;> rcases nsC_at h2 with ⟨rfl, e⟩ | ⟨_, p1, p2⟩
    · rfl
    · rw [Y.loc] at p2; cases p2
    · rw [e, Y.loc] at q2; cases q2
    · exact E.inj i k y q1 p1
  · refine hcl y ?_
    rw [hkind, relN_lookup] at hy
    cases q : sc.names.lookup y with
    | none => rw [q] at hy; rcases hy with hy | hy <;> cases hy
    | some k =>
      rw [q] at hy
      simp only [Option.map_some, Option.some.injEq] at hy
      have hk : k ≠ .cell := Y.nocell _ (mem_of_lookup q)
      by_cases z : k = .free
      · rw [z]
      · have z' : (k == NameKind.free) = false := by simpa using z
        simp only [z', Bool.false_and, Bool.false_eq_true, if_false] at hy
        rcases hy with hy | hy
        · exact absurd hy hk
        · exact absurd hy z
  · obtain ⟨c1, c2, c3, c4, c5⟩ := E.cell n a (hsub _ _ ha)
    exact ⟨c1, c2, c3, hne n a (hsub _ _ ha), c5⟩
  · rcases nsC_at h1 with ⟨rfl, rfl⟩ | ⟨hij, q1, q2⟩
    · rw [List.getElem?_set] at h2
      simp at h2
    · rw [List.getElem?_set_ne (fun q => hij q.symm)] at h2
      obtain ⟨v, rv, hv⟩ := E.var i y a q1 h2
      refine ⟨v, rv, .inr ?_⟩
      have hk := Y.free _ (mem_of_lookup q2) rfl
      rcases hv with ⟨z, _⟩ | ⟨_, _, z⟩
      · rcases hk with hk | hk <;> rw [z] at hk <;> cases hk
      · refine ⟨?_, hcl y q2, z⟩
        rw [hkind, relN_lookup, q2]
        simp only [Option.map_some, Option.some.injEq]
        split
        · exact .inl rfl
        · exact .inr rfl
noncomputable def TestsOK (C : Cx) (d : Nat) (names : List (Str × NameKind)) (ns : List (Option Str)) (cond : IE) (ifs : List Expr) : Prop :=
  ∀ (env : Env) {ρ : RE} {s : Shared} {H : AH} {Q : Bool → AH → Prop} {X : Value → AH → Prop}, env.scope.names = names → St C env ns ρ s H → wpE C.S d cond ρ H (fun a H₁ => ∃ b, a = .bool b ∧ Q b H₁) X →
    Ev EqR C (forIn ifs true fun c r => if r = true then do let ok ← isTrue c env (eval c env); pure (ForInStep.yield ok) else pure (ForInStep.yield r)) s H Q X
theorem tests_nil {C : Cx} {d : Nat} {names : List (Str × NameKind)} {ns : List (Option Str)} : TestsOK C d names ns (.cst (.bool true)) [] := by
  intro env ρ s H Q X _ st w
  unfold wpE at w
  obtain ⟨b, e, q⟩ := w
  cases e
  exact Ev.pure st.rep rfl q
theorem tests_one {C : Cx} {d : Nat} {names : List (Str × NameKind)} {ns : List (Option Str)} {cond : IE} {c : Expr} (h : ∀ env, env.scope.names = names → SndT C d env ns cond c) : TestsOK C d names ns cond [c] := by
  intro env ρ s H Q X he st w
  exact wpAny_tests_one (h env he (fun _ _ z => z) st w)
theorem wpCompL_same {D : Addr} {same : AH → Prop} {T : AV → AH → (Bool → AH → Prop) → Prop} {E : AV → AH → (AV → AH → Prop) → Prop} {xs acc : List AV} {H : AH} {Q : List AV → AH → Prop} (h : wpCompL D same T E xs acc H Q) : same H := by
  cases xs <;> exact h.1
theorem drop_at {α : Type} {xs : List α} {k : Nat} {a : α} (h : xs[k]? = some a) : xs.drop k = a :: xs.drop (k + 1) := by
  obtain ⟨h1, h2⟩ := List.getElem?_eq_some_iff.mp h
  rw [List.drop_eq_getElem_cons h1, h2]
theorem fold_no {e : Expr} {env : Env} (h : notSet e = true) : ∀ x, foldedSetIterable e env x = pure x := by
  intro x
  cases e <;> first | rfl | (simp [notSet] at h)
theorem itr_self {C : Cx} {s : Shared} {H : AH} {it : Addr} {src : AV} {xs : List AV} {k : Nat} {P : Value → Shared → Prop} {E : Value → Shared → Prop} (i : ItrAt s.heap H it src xs k) (h : P (.ref it) s) : wpAny C.S.M C.A (pyIter (.ref it)) P E s := by
  cases i with
  | lst hi _ _ => exact wpAny_pyIter_listiter hi h
  | tup hi _ => exact wpAny_pyIter_tupleiter hi h
  | rng hi => exact wpAny_pyIter_rangeiter hi h
  | str hi ok =>
    rename_i y t
    by_cases ha : y.cps.all (· < 128) = true
    · have eT : strIterType y = "str_ascii_iterator" := by unfold strIterType; rw [if_pos ha]
      rw [eT] at hi
      exact wpAny_pyIter_striter_ascii hi h
    · have eT : strIterType y = "str_iterator" := by unfold strIterType; rw [if_neg ha]
      rw [eT] at hi
      exact wpAny_pyIter_striter_wide hi h
section
variable {C : Cx} {d : Nat} {env : Env} {ns : List (Option Str)}
theorem comp_core {mt : Bool} {j : Nat} {elt it cond : IE} {elt' it' : Expr} {ifs : List Expr} {x : Str} {px pos p0 : Pos} {sc : Scope} {use : Option (Value → Sem Unit)} {ρ : RE} {s : Shared} {H : AH} {Q : AV → AH → Prop} {X : Value → AH → Prop} {QQ : Value → Shared → Prop} {E : Value → Shared → Prop}
    (st : St C env ns ρ s H) (hit : Snd C d env ns it it') (hf : notSet it' = true) (Y : CompAt env ns j x sc) (helt : ∀ env' : Env, env'.scope.names = relN env.scope.names sc.names → Snd C d env' (nsC ns sc.names j x) elt elt') (hcond : TestsOK C d (relN env.scope.names sc.names) (nsC ns sc.names j x) cond ifs)
    (w : wpE C.S d (.comp mt j elt it cond) ρ H Q X) (hE : ∀ ev s', PostX C noW s H X ev s' → E ev s')
    (hQ : ∀ r y c s' H' m, Step C noW s H s' H' → Rep C.S s'.heap H' → VRel s'.heap (foot H') r y → Q y H' → s.heap.get? c = none → s'.heap.Ns c m → ¬ foot H' c → compPost C.S.M C.A E use QQ r c (.ok .next) s') :
    wpAny C.S.M C.A (comprehension (.ListComp elt' [⟨.Name x px, it', ifs, 0⟩] sc pos) sc env p0 (newList []) false (eval it' env) use) QQ E s := by
  unfold wpE at w
  obtain ⟨m, cm, En0⟩ := st.env
  have hfree : ∀ y ∈ sc.names, y.2 = .free → ∃ c, env.cells.lookup y.1 = some c := fun y hy q => En0.has y.1 (Y.free y hy q)
  refine wpAny_comprehension_free (use := use) rfl (fold_no hf) (clos_eq hfree) Y.kind Y.locs ?_
  refine wpAny_mono (hit st w) (fun v s₁ po => ?_) hE
  obtain ⟨a, H₁, x1, rp1, ra, xs, same, hi, w⟩ := po
  have st1 := st.step x1 rp1
  have h0 : s₁.heap.get? s₁.heap.objs.size = none := size_none _
  have hs1 : same H₁ := by
    obtain ⟨D, nf⟩ : ∃ D, ¬ foot H₁ D := ⟨s₁.heap.objs.size, fun q => absurd (rp1.lt q) (Nat.lt_irrefl _)⟩
    have hw := wpCompL_same (w D nf)
    cases a <;> simp only [iterOf, Option.some.injEq, Prod.mk.injEq, reduceCtorEq] at hi <;> try (obtain ⟨rfl, rfl⟩ := hi; exact hw)
    rename_i r
    split at hi
    · rename_i ys e
      simp only [Option.some.injEq, Prod.mk.injEq] at hi
      obtain ⟨rfl, rfl⟩ := hi
      exact e
    · cases hi
  refine itr_start st1 hi hs1 ra fun h2 hk2 ha2 hit2 => ?_
  generalize hI : s₁.heap.objs.size = I at *
  have st2 : St C env ns ρ { s₁ with heap := h2 } H₁ := st1.step (Step.ext (t := s₁.toks) hk2) (rp1.ext hk2)
  refine wpAny_newList (items := []) ?_ (Nat.zero_le _)
  have hD0 : h2.get? h2.objs.size = none := size_none _
  have hDI : s₁.heap.get? h2.objs.size = none := by
    cases q : s₁.heap.get? h2.objs.size with
    | none => rfl
    | some o => rw [hk2 _ _ q] at hD0; cases hD0
  generalize hDe : h2.objs.size = D at *
  have nfD : ¬ foot H₁ D := st2.rep.off hD0
  replace w := w D nfD
  have hk3 : ∀ b o, h2.get? b = some o → (h2.push { cls := .type "list", dict := none, data := .seq ([] : List Value).toArray }).get? b = some o := fun b o e => Heap.get?_push_of_some _ e
  have po3 : Post VRel C noW { s₁ with heap := h2 } H₁ (fun y H' => ∃ r, y = .ref r ∧ H' = upd H₁ r (.lst [])) (.ref D) { s₁ with heap := h2.push { cls := .type "list", dict := none, data := .seq ([] : List Value).toArray } } :=
    post_newL (mt := true) (s := { s₁ with heap := h2 }) (tk := s₁.toks) (vs := #[]) (n := 0) (xs := []) st2.rep hk3 hD0 (by rw [← hDe]; exact Heap.get?_push_size _ rfl) .nil ⟨Nat.zero_le _, fun r nf => ⟨r, rfl, rfl⟩⟩
  obtain ⟨_, _, x3, rp3, rr, r, rfl, rfl⟩ := po3
  cases rr
  have st3 := st2.step x3 rp3
  generalize h2.push { cls := .type "list", dict := none, data := .seq ([] : List Value).toArray } = h3 at *
  refine wpAny_newFunctionEnv Y.nocell (by intro y hy; simp at hy) (fun h4 hn4 hsb4 => ?_) Y.kind
  have hc3 : h3.get? h3.objs.size = none := size_none _
  have hk4 : ∀ b o, h3.get? b = some o → h4.get? b = some o := fun b o e => (hsb4.2 b (Nat.ne_of_lt (Heap.lt_size e))).trans (Heap.get?_push_of_some _ e)
  have hk14 : ∀ b o, s₁.heap.get? b = some o → h3.get? b = some o := fun b o e => hk3 b o (hk2 b o e)
  replace hn4 : h4.Ns h3.objs.size (fun _ => none) := hn4
  clear hsb4
  generalize h3.objs.size = c at *
  have hc1 : s₁.heap.get? c = none := by
    cases q : s₁.heap.get? c with
    | none => rfl
    | some o => rw [hk14 _ _ q] at hc3; cases hc3
  have hcs : s.heap.get? c = none := by
    cases q : s.heap.get? c with
    | none => rfl
    | some o => obtain ⟨o', e'⟩ := x1.alive _ _ q; rw [hc1] at e'; cases e'
  have y4 : Step C noW { s₁ with heap := h3 } (upd H₁ D (.lst [])) { s₁ with heap := h4, toks := s₁.toks + ([] : List (Str × Value)).length } (upd H₁ D (.lst [])) := Step.ext hk4
  have st4 := st3.step y4 (st3.rep.ext hk4)
  obtain ⟨m4, cm4, En4⟩ := st4.env
  have En : EnvAt C (compEnvC sc (closOf env sc.names) c env) (nsC ns sc.names j x) (ρ.set j none) h4 (upd H₁ D (.lst [])) (fun _ => none) cm4 := by
    refine En4.inner Y hn4 (st3.rep.off hc3) ?_ ?_
    · cases q : C.S.base.get? c with
      | none => rfl
      | some o => have := st3.live.stays _ _ q; rw [hc3] at this; cases this
    · obtain ⟨m3, cm3, En3⟩ := st3.env
      rintro n b hb rfl
      obtain ⟨⟨o, ho, _⟩, _⟩ := En3.cell n b hb
      rw [hc3] at ho; cases ho
  have stI : St C (compEnvC sc (closOf env sc.names) c env) (nsC ns sc.names j x) (ρ.set j none) { s₁ with heap := h4, toks := s₁.toks + ([] : List (Str × Value)).length } (upd H₁ D (.lst [])) := ⟨st4.live, st4.rep, _, _, En⟩
  have it4 : ItrAt h4 (upd H₁ D (.lst [])) I a xs 0 := hit2.after (s := { s₁ with heap := h2 }) (s' := { s₁ with heap := h4, toks := s₁.toks + ([] : List (Str × Value)).length }) (fun o e => hk4 _ _ (hk3 _ _ e)) (x3.trans y4) st2.live noW_seq hi (wpCompL_same w)
  have hI2 : ∃ o, h2.get? I = some o := let ⟨o, _, e, _⟩ := hit2.obj; ⟨o, e⟩
  have hID : I ≠ D := by
    rintro rfl
    obtain ⟨o, e⟩ := hI2
    rw [hD0] at e; cases e
  have haI : Aside C (compEnvC sc (closOf env sc.names) c env) h4 (upd H₁ D (.lst [])) I := by
    refine ⟨it4.obj, fun q => (foot_upd q).elim ha2.foot hID, ha2.fs, ?_, ha2.base⟩
    rintro (q | ⟨n, q⟩)
    · replace q : I = c := q
      obtain ⟨o, e⟩ := hI2
      rw [q] at e
      rw [hk3 _ _ e] at hc3; cases hc3
    · exact ha2.own (.inr ⟨n, clos_sub sc.names [] (fun _ _ q => nomatch q) n I q⟩)
  have hnames : (compEnvC sc (closOf env sc.names) c env).scope.names = relN env.scope.names sc.names := relabel_names En0.fn
  have hxk : (compEnvC sc (closOf env sc.names) c env).kindOf x = some .local := lookup_relabel_local Y.loc
  have y14 : Step C noW s₁ H₁ { s₁ with heap := h4, toks := s₁.toks + ([] : List (Str × Value)).length } (upd H₁ D (.lst [])) := ((Step.ext (t := s₁.toks) hk2).trans x3).trans y4
  show codeAny C.S.M C.A (.compStart _ 0 (.ref I) (.ref D) (compEnvC sc (closOf env sc.names) c env)) (compPost C.S.M C.A E use QQ (.ref D) c) _
  have hloc : (compEnvC sc (closOf env sc.names) c env).locals = c := rfl
  generalize compEnvC sc (closOf env sc.names) c env = cenv at *
  have key : codeAny C.S.M C.A (.compLoop (.ListComp elt' [⟨.Name x px, it', ifs, 0⟩] sc pos) 0 (.ref I) (.ref D) cenv) (compPost C.S.M C.A E use QQ (.ref D) c) { s₁ with heap := h4, toks := s₁.toks + ([] : List (Str × Value)).length } := by
    refine codeAny_compLoop_tests (fun n s' => ∃ ov H' k acc, n + k = xs.length ∧ Step C noW s₁ H₁ s' H' ∧ St C cenv (nsC ns sc.names j x) (ρ.set j ov) s' H' ∧ Aside C cenv s'.heap H' I ∧ ItrAt s'.heap H' I a xs k ∧
      wpCompL D same (fun v H' Q' => wpE C.S d cond (ρ.set j (some v)) H' (fun c H₂ => ∃ b, c = .bool b ∧ Q' b H₂) noX) (fun v H' Q' => wpE C.S d elt (ρ.set j (some v)) H' Q' noX) (xs.drop k) acc H' (fun ys H₂ => if mt then Q (.ref D) H₂ else Q (.lst ys) (del H₂ D)))
      (fun n s' I' => ?_) xs.length ⟨none, _, 0, [], rfl, y14, stI, haI, it4, w⟩
    obtain ⟨ov, H', k, acc, hnk, y, st', ha', hi', w'⟩ := I'
    refine itr_next st' ha' hi' (fun u bv h' tk e rv i2 kp => ?_) (fun h' e kp => ?_)
    · rw [drop_at e] at w'
      obtain ⟨sm, wT⟩ := w'
      have hlt : k < xs.length := (List.getElem?_eq_some_iff.mp e).1
      have z2 : Step C noW s₁ H₁ { s' with heap := h', toks := tk } H' := y.but h0 kp
      have s2 := st'.but (tk := tk) ha' kp
      have a2 : Aside C cenv h' H' I := ⟨i2.obj, ha'.foot, ha'.fs, ha'.own, ha'.base⟩
      refine wpAny_assign_Name (store_local s2 (nsC_j Y.lt) hxk rv fun s3 y3 st3 => ?_)
      rw [List.set_set] at st3
      obtain ⟨m2, cm2, E2⟩ := s2.env
      have y3' : Step C (OwnW cenv) { s' with heap := h', toks := tk } H' s3 H' := y3.wider fun _ q => .inl q
      have z3 := z2.thenNew y3 (fun b q => by rw [q, hloc]; exact hc1)
      have i3 := ItrAt.after (s := { s' with heap := h', toks := tk }) i2 (fun o ho => Aside.keepObj (s := { s' with heap := h', toks := tk }) a2 y3' ho) y3' s2.live E2.vars hi sm
      have a3 := Aside.step (s := { s' with heap := h', toks := tk }) a2 y3'
      refine wpAny_mono (hcond cenv hnames st3 wT) (fun ok s4 po => ?_) fun _ _ ⟨_, _, _, _, _, q⟩ => q.elim
      obtain ⟨b, H4, z4, rp4, eb, q⟩ := po
      obtain rfl : ok = b := eb
      have s4' := st3.step z4 rp4
      have a4 := a3.step (Step.ofNo z4)
      cases ok with
      | false =>
        exact ⟨n - 1, by omega, some bv, H4, k + 1, acc, by omega, z3.trans z4, s4', a4, i3.after (fun o ho => a3.keepObj (Step.ofNo z4) ho) z4 st3.live noW_seq hi (wpCompL_same (show wpCompL _ _ _ _ _ _ _ _ from q)), q⟩
      | true =>
        refine wpAny_mono (helt cenv hnames s4' q) (fun xv s5 po => ?_) fun _ _ ⟨_, _, _, _, _, q⟩ => q.elim
        obtain ⟨yv, H5, z5, rp5, rx, hD5, hz, q⟩ := po
        have s5' := s4'.step z5 rp5
        have a5 := a4.step (Step.ofNo z5)
        refine wpAny_mono (prim_methB (o := .ref D) (m := "append") (id := "list.append") (as := [yv]) (v := .ref D) (vals := [xv]) (X := noX) (Q := fun r H' => H' = upd H5 D (.lst (acc ++ [yv]))) s5'.live s5'.rep (.ref D) (.cons rx .nil) (by simp [biM, hD5]) (.inl ⟨rfl, D, acc, yv, rfl, rfl, hD5, hz, rfl⟩)) (fun _ s6 po => ?_) fun _ _ ⟨_, _, _, _, _, q⟩ => q.elim
        obtain ⟨_, _, z6, rp6, _, rfl⟩ := po
        have z46 := (z4.trans z5).trans z6
        exact ⟨n - 1, by omega, some bv, _, k + 1, _, by omega, z3.trans z46, s5'.step z6 rp6, a5.step (Step.ofNo z6), i3.after (fun o ho => a3.keepObj (Step.ofNo z46) ho) z46 st3.live noW_seq hi (wpCompL_same q), q⟩
    · have hk2 : xs.length ≤ k := List.getElem?_eq_none_iff.mp e
      rw [List.drop_eq_nil_of_le hk2] at w'
      obtain ⟨sm, eD, q⟩ := w'
      have s2 := st'.but (tk := s'.toks) ha' kp
      have z2 : Step C noW s H { s' with heap := h', toks := s'.toks } H' := x1.trans (y.but h0 kp)
      obtain ⟨m2, cm2, E2⟩ := s2.env
      have hNs := E2.loc
      have hOff := E2.locOff
      rw [hloc] at hNs hOff
      cases mt with
      | true => exact hQ (.ref D) (.ref D) c _ H' m2 z2 s2.rep (.ref D) q hcs hNs hOff
      | false =>
        obtain ⟨vs, n', hl, rl⟩ := s2.rep.obj D _ eD
        exact hQ (.ref D) (.lst acc) c _ (del H' D) m2 z2.delD s2.rep.del (.lst hl offDel (rl.stays del_stays)) q hcs hNs (fun f => hOff (foot_del f))
  exact codeAny_compStart_list key (itr_self it4 key)
theorem dictOff {h : Heap} {c : Addr} {m : Str → Option Value} (hn : h.Ns c m) : ∀ b o, h.get? b = some o → Held o → b ≠ c := by
  rintro b o e hh rfl
  obtain ⟨o', es, ep, ho, hd, _⟩ := hn
  rw [e] at ho; cases ho
  exact hh.nd es ep hd
theorem snd_comp {mt : Bool} {j : Nat} {elt it cond : IE} {elt' it' : Expr} {ifs : List Expr} {x : Str} {px pos : Pos} {sc : Scope} (hit : Snd C d env ns it it') (hf : notSet it' = true) (Y : CompAt env ns j x sc)
    (helt : ∀ env' : Env, env'.scope.names = relN env.scope.names sc.names → Snd C d env' (nsC ns sc.names j x) elt elt') (hcond : TestsOK C d (relN env.scope.names sc.names) (nsC ns sc.names j x) cond ifs) :
    Snd C d env ns (.comp mt j elt it cond) (.ListComp elt' [⟨.Name x px, it', ifs, 0⟩] sc pos) := by
  intro ρ s H Q X st w
  refine comp_core (use := none) (p0 := it'.pos) (QQ := Post VRel C noW s H Q) st hit hf Y helt hcond w (fun _ _ z => z) fun r y c s' H' m x rp rv q hc hn nf => ⟨m, hn, fun h' sb => ?_⟩
  have k : ∀ b o, b ≠ c → s'.heap.get? b = some o → h'.get? b = some o := fun b o ne e => (sb.2 b ne).trans e
  exact ⟨y, H', x.but (tk := s'.toks) hc k, rp.but nf (dictOff hn) k, rv.keep (fun b o e _ hh => k b o (dictOff hn b o e hh) e) (fun _ _ _ n => n), q⟩
end
end Mine
namespace Mine
theorem no_tf {P : Prop} (h : false = true) : P := nomatch h
theorem glob_env {env : Env} {D : Dl} {x : Str} (he : env.scope.names = D.sc) (h : glob D x = true) : env.kindOf x = some .globalImplicit ∧ (x == ("__debug__" : Str)) = false ∧ x ≠ "__name__" := by
  obtain ⟨a, b, c⟩ := glob_parts h
  exact ⟨by unfold Env.kindOf; rw [he]; exact a, b, c⟩
theorem isTrue_value {e : Expr} {env : Env} (h1 : ∀ x p, e ≠ .UnaryOp .Not x p) (h2 : ∀ o vs p, e ≠ .BoolOp o vs p) (h3 : ∀ t b o p, e ≠ .IfExp t b o p) (h4 : ∀ l ops rs p, e ≠ .Compare l ops rs p) (w : Sem Value) :
    isTrue e env w = (w >>= fun v => standAt e.pos >>= fun _ => holding [v] (truthy v)) := by
  cases e <;> first | rfl | skip
  · exact absurd rfl (h2 _ _ _)
  · rename_i op x p
    cases op <;> first | rfl | exact absurd rfl (h1 _ _)
  · exact absurd rfl (h3 _ _ _ _)
  · exact absurd rfl (h4 _ _ _ _)
theorem val_T {C : Cx} {d : Nat} {env : Env} {ns : List (Option Str)} {ir : IE} {e : Expr} (h : Snd C d env ns ir e) (h1 : ∀ x p, e ≠ .UnaryOp .Not x p) (h2 : ∀ o vs p, e ≠ .BoolOp o vs p) (h3 : ∀ t b o p, e ≠ .IfExp t b o p) (h4 : ∀ l ops rs p, e ≠ .Compare l ops rs p) : Snd C d env ns ir e ∧ SndT C d env ns ir e :=
  ⟨h, sndT_value h (isTrue_value h1 h2 h3 h4)⟩
mutual
theorem chk_ok {C : Cx} {d : Nat} (hd : d ≤ C.d) : ∀ (ir : IE) (e : Expr) (D : Dl) (env : Env), env.scope.names = D.sc → chk D ir e = true → Snd C d env D.ns ir e ∧ SndT C d env D.ns ir e
  | .cst c, e, D, env, he, h => by
    cases e with
    | Constant k kd p =>
      replace h : (match constA k with | some a => eqC c a | none => false) = true := h
      split at h
      · rename_i a e1
        exact val_T (snd_cst e1 (eqC_eq h)) (fun _ _ q => nomatch q) (fun _ _ _ q => nomatch q) (fun _ _ _ _ q => nomatch q) (fun _ _ _ _ q => nomatch q)
      · cases h
    | _ => exact no_tf h
  | .var i, e, D, env, he, h => by
    cases e with
    | Name x p =>
      replace h : (D.ns[i]? == some (some x) && !(x == ("__debug__" : Str)) && !(x == ("__classdict__" : Str))) = true := h
      simp only [Bool.and_eq_true, beq_iff_eq, Bool.not_eq_true'] at h
      exact val_T (snd_var h.1.1 h.1.2 h.2) (fun _ _ q => nomatch q) (fun _ _ _ q => nomatch q) (fun _ _ _ _ q => nomatch q) (fun _ _ _ _ q => nomatch q)
    | _ => exact no_tf h
  | .gv x, e, D, env, he, h => by
    cases e with
    | Name y p =>
      replace h : (x == y && glob D x) = true := h
      simp only [Bool.and_eq_true, beq_iff_eq] at h
      obtain ⟨rfl, h⟩ := h
      obtain ⟨g1, g2, g3⟩ := glob_env he h
      exact val_T (snd_gv g1 g2) (fun _ _ q => nomatch q) (fun _ _ _ q => nomatch q) (fun _ _ _ _ q => nomatch q) (fun _ _ _ _ q => nomatch q)
    | _ => exact no_tf h
  | .bin op l r, e, D, env, he, h => by
    cases e with
    | BinOp l' op' r' p =>
      replace h : (decide (op = op') && chk D l l' && chk D r r') = true := h
      simp only [Bool.and_eq_true, decide_eq_true_eq] at h
      obtain ⟨⟨rfl, h1⟩, h2⟩ := h
      exact val_T (snd_bin (chk_ok hd l l' D env he h1).1 (chk_ok hd r r' D env he h2).1) (fun _ _ q => nomatch q) (fun _ _ _ q => nomatch q) (fun _ _ _ _ q => nomatch q) (fun _ _ _ _ q => nomatch q)
    | _ => exact no_tf h
  | .neg x, e, D, env, he, h => by
    cases e with
    | UnaryOp op x' p =>
      replace h : (decide (op = .USub) && chk D x x') = true := h
      simp only [Bool.and_eq_true, decide_eq_true_eq] at h
      obtain ⟨rfl, h1⟩ := h
      exact val_T (snd_neg (chk_ok hd x x' D env he h1).1) (fun _ _ q => nomatch q) (fun _ _ _ q => nomatch q) (fun _ _ _ _ q => nomatch q) (fun _ _ _ _ q => nomatch q)
    | _ => exact no_tf h
  | .nt x, e, D, env, he, h => by
    cases e with
    | UnaryOp op x' p =>
      replace h : (decide (op = .Not) && chk D x x') = true := h
      simp only [Bool.and_eq_true, decide_eq_true_eq] at h
      obtain ⟨rfl, h1⟩ := h
      have := chk_ok hd x x' D env he h1
      exact ⟨snd_nt this.1, sndT_nt this.2⟩
    | _ => exact no_tf h
  | .bop k es, e, D, env, he, h => by
    cases e with
    | BoolOp op es' p =>
      replace h : (decide (op = if k then .And else .Or) && chks D es es') = true := h
      simp only [Bool.and_eq_true, decide_eq_true_eq] at h
      obtain ⟨rfl, h1⟩ := h
      have := chks_ok hd es es' D env he h1
      exact ⟨snd_bop this, sndT_bop this⟩
    | _ => exact no_tf h
  | .cmp l ops rs, e, D, env, he, h => by
    cases e with
    | Compare l' ops' rs' p =>
      replace h : (decide (ops = ops') && chk D l l' && chks D rs rs' && rs'.all notSet && decide (ops.length = rs'.length)) = true := h
      simp only [Bool.and_eq_true, decide_eq_true_eq] at h
      obtain ⟨⟨⟨⟨rfl, h1⟩, h2⟩, h3⟩, h4⟩ := h
      have a := chk_ok hd l l' D env he h1
      have b := chks_ok hd rs rs' D env he h2
      exact ⟨snd_cmp a.1 b h3 h4, sndT_cmp a.1 b h3 h4⟩
    | _ => exact no_tf h
  | .call f args, e, D, env, he, h => by
    cases e with
    | Call g as ks p =>
      cases g with
      | Name f' p' =>
        cases ks with
        | nil =>
          replace h : (f == f' && glob D f && chks D args as && as.all notStar) = true := h
          simp only [Bool.and_eq_true, beq_iff_eq] at h
          obtain ⟨⟨⟨rfl, h1⟩, h2⟩, h3⟩ := h
          obtain ⟨g1, g2, g3⟩ := glob_env he h1
          exact val_T (snd_call g1 g2 hd (chks_ok hd args as D env he h2) h3) (fun _ _ q => nomatch q) (fun _ _ _ q => nomatch q) (fun _ _ _ _ q => nomatch q) (fun _ _ _ _ q => nomatch q)
        | cons _ _ => exact no_tf h
      | _ => exact no_tf h
    | _ => exact no_tf h
  | .bi f args, e, D, env, he, h => by
    cases e with
    | Call g as ks p =>
      cases g with
      | Name f' p' =>
        cases ks with
        | nil =>
          replace h : (f == f' && isBi f && glob D f && chks D args as && as.all notStar) = true := h
          simp only [Bool.and_eq_true, beq_iff_eq] at h
          obtain ⟨⟨⟨⟨rfl, h0⟩, h1⟩, h2⟩, h3⟩ := h
          obtain ⟨g1, g2, g3⟩ := glob_env he h1
          exact val_T (snd_bi g1 g2 g3 h0 (chks_ok hd args as D env he h2) h3) (fun _ _ q => nomatch q) (fun _ _ _ q => nomatch q) (fun _ _ _ _ q => nomatch q) (fun _ _ _ _ q => nomatch q)
        | cons _ _ => exact no_tf h
      | _ => exact no_tf h
    | _ => exact no_tf h
  | .isi x ts tp, e, D, env, he, h => by
    cases e with
    | Call g as ks p =>
      cases g with
      | Name f' p' =>
        cases ks with
        | nil =>
          rcases as with _ | ⟨x', _ | ⟨T, _ | ⟨y, z⟩⟩⟩
          · exact no_tf h
          · exact no_tf h
          · replace h : (f' == ("isinstance" : Str) && glob D f' && chk D x x' && notStar x' && notStar T && typeNames T == some (ts, tp) && ts.all (glob D) && decide (ts.length ≤ 20)) = true := h
            simp only [Bool.and_eq_true, beq_iff_eq, decide_eq_true_eq, List.all_eq_true] at h
            obtain ⟨⟨⟨⟨⟨⟨⟨rfl, h0⟩, a1⟩, a2⟩, a3⟩, a4⟩, a5⟩, a6⟩ := h
            obtain ⟨g1, g2, g3⟩ := glob_env he h0
            exact val_T (snd_isi g1 (chk_ok hd x x' D env he a1).1 a2 a3 a4 a6 fun y hy => glob_env he (a5 y hy)) (fun _ _ q => nomatch q) (fun _ _ _ q => nomatch q) (fun _ _ _ _ q => nomatch q) (fun _ _ _ _ q => nomatch q)
          · exact no_tf h
        | cons _ _ => exact no_tf h
      | _ => exact no_tf h
    | _ => exact no_tf h
  | .meth o m args, e, D, env, he, h => by
    cases e with
    | Call g as ks p =>
      cases g with
      | Attribute o' m' ap =>
        cases ks with
        | nil =>
          replace h : (m == m' && plainBase o' && chk D o o' && chks D args as && as.all notStar && ap.endLine == p.line && decide (as.length < 20)) = true := h
          simp only [Bool.and_eq_true, beq_iff_eq, decide_eq_true_eq] at h
          obtain ⟨⟨⟨⟨⟨⟨rfl, h0⟩, h1⟩, h2⟩, h3⟩, h4⟩, h5⟩ := h
          exact val_T (snd_meth hd (chk_ok hd o o' D env he h1).1 h0 (chks_ok hd args as D env he h2) h3 h5 (by simpa using h4)) (fun _ _ q => nomatch q) (fun _ _ _ q => nomatch q) (fun _ _ _ _ q => nomatch q) (fun _ _ _ _ q => nomatch q)
        | cons _ _ => exact no_tf h
      | _ => exact no_tf h
    | _ => exact no_tf h
  | .sub x i, e, D, env, he, h => by
    cases e with
    | Subscript x' i' p =>
      replace h : (chk D x x' && chk D i i' && notSlice i') = true := h
      simp only [Bool.and_eq_true] at h
      exact val_T (snd_sub (chk_ok hd x x' D env he h.1.1).1 (chk_ok hd i i' D env he h.1.2).1 h.2) (fun _ _ q => nomatch q) (fun _ _ _ q => nomatch q) (fun _ _ _ _ q => nomatch q) (fun _ _ _ _ q => nomatch q)
    | _ => exact no_tf h
  | .slc x lo hi st, e, D, env, he, h => by
    cases e with
    | Subscript x' i' p =>
      cases i' with
      | Slice lo' hi' st' p' =>
        replace h : (chk D x x' && chkO D lo lo' && chkO D hi hi' && chkO D st st') = true := h
        simp only [Bool.and_eq_true] at h
        exact val_T (snd_slc (chk_ok hd x x' D env he h.1.1.1).1 (chkO_ok hd lo lo' D env he h.1.1.2) (chkO_ok hd hi hi' D env he h.1.2) (chkO_ok hd st st' D env he h.2)) (fun _ _ q => nomatch q) (fun _ _ _ q => nomatch q) (fun _ _ _ _ q => nomatch q) (fun _ _ _ _ q => nomatch q)
      | _ => exact no_tf h
    | _ => exact no_tf h
  | .lst mt es, e, D, env, he, h => by
    cases e with
    | List es' p =>
      replace h : (chks D es es' && es'.all notStar) = true := h
      simp only [Bool.and_eq_true] at h
      exact val_T (snd_lst (sndL_of (chks_ok hd es es' D env he h.1) h.2)) (fun _ _ q => nomatch q) (fun _ _ _ q => nomatch q) (fun _ _ _ _ q => nomatch q) (fun _ _ _ _ q => nomatch q)
    | _ => exact no_tf h
  | .tup es, e, D, env, he, h => by
    cases e with
    | Tuple es' k p =>
      replace h : (chks D es es' && es'.all notStar) = true := h
      simp only [Bool.and_eq_true] at h
      exact val_T (snd_tup (sndL_of (chks_ok hd es es' D env he h.1) h.2)) (fun _ _ q => nomatch q) (fun _ _ _ q => nomatch q) (fun _ _ _ _ q => nomatch q) (fun _ _ _ _ q => nomatch q)
    | _ => exact no_tf h
  | .comp mt j elt it cond, e, D, env, he, h => by
    cases e with
    | ListComp elt' gens sc p =>
      rcases gens with _ | ⟨⟨t, it', ifs, a⟩, _ | ⟨_, _⟩⟩
      · exact no_tf h
      · cases t with
        | Name x px =>
          have h' : (decide (a = 0) && compOK D j x sc && chk D it it' && notSet it' && chk ⟨relN D.sc sc.names, nsC D.ns sc.names j x⟩ elt elt') = true ∧ TestsOK C d (relN D.sc sc.names) (nsC D.ns sc.names j x) cond ifs := by
            rcases ifs with _ | ⟨c, _ | ⟨_, _⟩⟩
            · cases cond with
              | cst c =>
                replace h : (decide (a = 0) && compOK D j x sc && chk D it it' && notSet it' && chk ⟨relN D.sc sc.names, nsC D.ns sc.names j x⟩ elt elt' && eqC c (.bool true)) = true := h
                rw [Bool.and_eq_true] at h
                exact ⟨h.1, by rw [eqC_eq h.2]; exact tests_nil⟩
              | _ => exact absurd (show (_ && false) = true from h) (by rw [Bool.and_false]; decide)
            · replace h : (decide (a = 0) && compOK D j x sc && chk D it it' && notSet it' && chk ⟨relN D.sc sc.names, nsC D.ns sc.names j x⟩ elt elt' && chk ⟨relN D.sc sc.names, nsC D.ns sc.names j x⟩ cond c) = true := h
              rw [Bool.and_eq_true] at h
              exact ⟨h.1, tests_one fun env' he' => (chk_ok hd cond c ⟨relN D.sc sc.names, nsC D.ns sc.names j x⟩ env' he' h.2).2⟩
            · exact absurd (show (_ && false) = true from h) (by rw [Bool.and_false]; decide)
          obtain ⟨h', hcond⟩ := h'
          simp only [Bool.and_eq_true, decide_eq_true_eq] at h'
          obtain ⟨⟨⟨⟨rfl, h1⟩, h2⟩, h3⟩, h4⟩ := h'
          have hit := chk_ok hd it it' D env he h2
          have helt : ∀ env' : Env, env'.scope.names = relN D.sc sc.names → Snd C d env' (nsC D.ns sc.names j x) elt elt' := fun env' he' => (chk_ok hd elt elt' ⟨relN D.sc sc.names, nsC D.ns sc.names j x⟩ env' he' h4).1
          exact val_T (snd_comp hit.1 h3 (compAt_of he h1) (by rw [he]; exact helt) (by rw [he]; exact hcond)) (fun _ _ q => nomatch q) (fun _ _ _ q => nomatch q) (fun _ _ _ _ q => nomatch q) (fun _ _ _ _ q => nomatch q)
        | _ => exact no_tf h
      · cases t <;> exact no_tf h
    | _ => exact no_tf h
theorem chks_ok {C : Cx} {d : Nat} (hd : d ≤ C.d) : ∀ (irs : IEs) (es : List Expr) (D : Dl) (env : Env), env.scope.names = D.sc → chks D irs es = true → AllSnd C d env D.ns irs es
  | .nil, [], D, env, he, h => trivial
  | .nil, _ :: _, D, env, he, h => by exact no_tf h
  | .cons _ _, [], D, env, he, h => by exact no_tf h
  | .cons e r, e' :: r', D, env, he, h => by
    replace h : (chk D e e' && chks D r r') = true := h
    simp only [Bool.and_eq_true] at h
    exact ⟨chk_ok hd e e' D env he h.1, chks_ok hd r r' D env he h.2⟩
theorem chkO_ok {C : Cx} {d : Nat} (hd : d ≤ C.d) : ∀ (ir : IE) (e : Option Expr) (D : Dl) (env : Env), env.scope.names = D.sc → chkO D ir e = true → SndO C d env D.ns ir e
  | ir, none, D, env, he, h => by
    cases ir with
    | cst c =>
      replace h : eqC c .none = true := h
      rw [eqC_eq h]
      exact sndO_none
    | _ => exact no_tf h
  | ir, some e, D, env, he, h => by
    have h' : chk D ir e = true := by cases ir <;> exact h
    exact sndO_some (chk_ok hd ir e D env he h').1
end
structure CompSnd (C : Cx) (d : Nat) (env : Env) (ns : List (Option Str)) (j : Nat) (elt it cond : IE) (elt' it' : Expr) (ifs : List Expr) (x : Str) (sc : Scope) : Prop where
  itr : Snd C d env ns it it'
  nset : notSet it' = true
  names : CompAt env ns j x sc
  item : ∀ env' : Env, env'.scope.names = relN env.scope.names sc.names → Snd C d env' (nsC ns sc.names j x) elt elt'
  tests : TestsOK C d (relN env.scope.names sc.names) (nsC ns sc.names j x) cond ifs
theorem comp_parts {C : Cx} {d : Nat} (hd : d ≤ C.d) {ir : IE} {elt' : Expr} {gens : List Comprehension} {sc : Scope} {p : Pos} {D : Dl} {env : Env} (he : env.scope.names = D.sc) (h : chk D ir (.ListComp elt' gens sc p) = true) :
    ∃ mt j elt it cond x px it' ifs, ir = .comp mt j elt it cond ∧ gens = [⟨.Name x px, it', ifs, 0⟩] ∧ CompSnd C d env D.ns j elt it cond elt' it' ifs x sc := by
  cases ir with
  | comp mt j elt it cond =>
    rcases gens with _ | ⟨⟨t, it', ifs, a⟩, _ | ⟨_, _⟩⟩
    · exact no_tf h
    · cases t with
      | Name x px =>
        have h' : (decide (a = 0) && compOK D j x sc && chk D it it' && notSet it' && chk ⟨relN D.sc sc.names, nsC D.ns sc.names j x⟩ elt elt') = true ∧ TestsOK C d (relN D.sc sc.names) (nsC D.ns sc.names j x) cond ifs := by
          rcases ifs with _ | ⟨c, _ | ⟨_, _⟩⟩
          · cases cond with
            | cst c =>
              replace h : (decide (a = 0) && compOK D j x sc && chk D it it' && notSet it' && chk ⟨relN D.sc sc.names, nsC D.ns sc.names j x⟩ elt elt' && eqC c (.bool true)) = true := h
              rw [Bool.and_eq_true] at h
              exact ⟨h.1, by rw [eqC_eq h.2]; exact tests_nil⟩
            | _ => exact absurd (show (_ && false) = true from h) (by rw [Bool.and_false]; decide)
          · replace h : (decide (a = 0) && compOK D j x sc && chk D it it' && notSet it' && chk ⟨relN D.sc sc.names, nsC D.ns sc.names j x⟩ elt elt' && chk ⟨relN D.sc sc.names, nsC D.ns sc.names j x⟩ cond c) = true := h
            rw [Bool.and_eq_true] at h
            exact ⟨h.1, tests_one fun env' he' => (chk_ok hd cond c ⟨relN D.sc sc.names, nsC D.ns sc.names j x⟩ env' he' h.2).2⟩
          · exact absurd (show (_ && false) = true from h) (by rw [Bool.and_false]; decide)
        obtain ⟨h', hcond⟩ := h'
        simp only [Bool.and_eq_true, decide_eq_true_eq] at h'
        obtain ⟨⟨⟨⟨rfl, h1⟩, h2⟩, h3⟩, h4⟩ := h'
        exact ⟨mt, j, elt, it, cond, x, px, it', ifs, rfl, rfl, (chk_ok hd it it' D env he h2).1, h3, compAt_of he h1, fun env' he' => (chk_ok hd elt elt' ⟨relN D.sc sc.names, nsC D.ns sc.names j x⟩ env' (by rw [he', he]) h4).1, by rw [he]; exact hcond⟩
      | _ => exact no_tf h
    · cases t <;> exact no_tf h
  | _ => exact no_tf h
end Mine
namespace Mine
theorem Exn.not {C : Cx} {W : Addr → Prop} {s s' : Shared} {H H' : AH} {e : Addr} {c : Value} (k : Exn C W s H e c s' H') {b : Addr} {o : Obj} (q : s.heap.get? b = some o) (n : ¬ foot H b) : ¬ foot H' b :=
  fun z => (k.grow b z).elim n fun l => by rw [l] at q; cases q
theorem Exn.keep {C : Cx} {W : Addr → Prop} {s s' : Shared} {H H' : AH} {e : Addr} {c : Value} (k : Exn C W s H e c s' H') {b : Addr} {o : Obj} (q : s.heap.get? b = some o) (n : ¬ foot H b) (w : ¬ W b) (f : b ∉ C.fs) : s'.heap.get? b = some o := by
  obtain ⟨B, L, h0, h1, h2, h3, h4⟩ := k.wit
  exact h4.stays b o (h1 b o q n w f)
theorem EnvOK.exn {C : Cx} {env : Env} {ns : List (Option Str)} {ρ : RE} {s s' : Shared} {H H' : AH} {e : Addr} {c : Value} (E : EnvOK C env ns ρ s.heap H) (L : Live C s.heap H) (x : Exn C noW s H e c s' H') : EnvOK C env ns ρ s'.heap H' := by
  obtain ⟨m, cm, E⟩ := E
  refine ⟨m, cm, E.fn, E.glob, E.bns, ?_, ?_, E.inj, E.len, E.has, E.locNew, fun n c hc => ?_, E.apart, fun i y a h1 h2 => ?_⟩
  · obtain ⟨o, es, ep, ho, hd, r⟩ := E.loc
    by_cases f : env.locals ∈ C.fs
    · obtain ⟨sl, h1⟩ := x.slots _ o ho f (fun q => q)
      exact ⟨_, es, ep, h1, hd, r⟩
    · exact ⟨_, es, ep, x.keep ho E.locOff (fun q => q) f, hd, r⟩
  · obtain ⟨o, es, ep, ho, hd, r⟩ := E.loc
    exact x.not ho E.locOff
  · obtain ⟨⟨o, ho, hd⟩, h2, h3, h4⟩ := E.cell n c hc
    exact ⟨⟨o, x.keep ho h2 (fun q => q) h3, hd⟩, x.not ho h2, h3, h4⟩
  · obtain ⟨v, hv, r⟩ := E.var i y a h1 h2
    exact ⟨v, hv.keep (fun b o ho nf hn => x.keep ho nf (fun q => q) (L.offFs ho hn.nd)) (fun b o ho nf => x.not ho nf), r⟩
inductive FlowR (h : Heap) (F : Addr → Prop) : Flow → AF → Prop
  | next : FlowR h F .next .next
  | brk : FlowR h F .brk .brk
  | cont : FlowR h F .cont .cont
  | ret {v : Value} {a : AV} : VRel h F v a → FlowR h F (.ret v) (.ret a)
noncomputable def PostS (C : Cx) (env : Env) (ns : List (Option Str)) (s : Shared) (H : AH) (Q : AF → RE → AH → Prop) (fl : Flow) (s' : Shared) : Prop :=
  ∃ af ρ' H', Step C (OwnW env) s H s' H' ∧ St C env ns ρ' s' H' ∧ FlowR s'.heap (foot H') fl af ∧ Q af ρ' H'
noncomputable def PostSX (C : Cx) (env : Env) (ns : List (Option Str)) (s : Shared) (H : AH) (X : Value → RE → AH → Prop) (ev : Value) (s' : Shared) : Prop :=
  ∃ e c ρ' H', ev = .ref e ∧ Exn C (OwnW env) s H e c s' H' ∧ EnvOK C env ns ρ' s'.heap H' ∧ X c ρ' H'
noncomputable def EvS (C : Cx) (env : Env) (ns : List (Option Str)) (t : Sem Flow) (s : Shared) (H : AH) (Q : AF → RE → AH → Prop) (X : Value → RE → AH → Prop) : Prop :=
  wpAny C.S.M C.A t (PostS C env ns s H Q) (PostSX C env ns s H X) s
section
variable {C : Cx} {d : Nat} {env : Env} {ns : List (Option Str)} {s : Shared} {H : AH} {Q : AF → RE → AH → Prop} {X : Value → RE → AH → Prop}
theorem PostS.back {s₁ s' : Shared} {H₁ : AH} {fl : Flow} (x : Step C (OwnW env) s H s₁ H₁) (p : PostS C env ns s₁ H₁ Q fl s') : PostS C env ns s H Q fl s' := by
  obtain ⟨af, ρ', H', st, a, b, q⟩ := p
  exact ⟨af, ρ', H', x.trans st, a, b, q⟩
theorem PostSX.back {s₁ s' : Shared} {H₁ : AH} {ev : Value} (x : Step C (OwnW env) s H s₁ H₁) (p : PostSX C env ns s₁ H₁ X ev s') : PostSX C env ns s H X ev s' := by
  obtain ⟨e, c, ρ', H', a, st, b, q⟩ := p
  exact ⟨e, c, ρ', H', a, st.after x, b, q⟩
theorem EvS.back {t : Sem Flow} {s₁ : Shared} {H₁ : AH} (x : Step C (OwnW env) s H s₁ H₁) (h : EvS C env ns t s₁ H₁ Q X) : wpAny C.S.M C.A t (PostS C env ns s H Q) (PostSX C env ns s H X) s₁ :=
  wpAny_mono h (fun _ _ p => p.back x) fun _ _ p => p.back x
theorem PostX.toS {ρ : RE} {X₁ : Value → AH → Prop} (st : St C env ns ρ s H) (hx : ∀ c H₁, X₁ c H₁ → X c ρ H₁) {ev : Value} {s' : Shared} (p : PostX C noW s H X₁ ev s') : PostSX C env ns s H X ev s' := by
  obtain ⟨e, c, H', a, x, q⟩ := p
  exact ⟨e, c, ρ, H', a, x.wider (fun _ z => z.elim), st.env.exn st.live x, hx _ _ q⟩
theorem EvS.expr {α β : Type} {R : RelT α β} {ρ : RE} {t : Sem α} {k : α → Sem Flow} {Q₁ : β → AH → Prop} {X₁ : Value → AH → Prop} (st : St C env ns ρ s H) (h : Ev R C t s H Q₁ X₁) (hx : ∀ c H₁, X₁ c H₁ → X c ρ H₁)
    (hk : ∀ y H₁ x s₁, Step C noW s H s₁ H₁ → St C env ns ρ s₁ H₁ → R s₁.heap (foot H₁) x y → Q₁ y H₁ → EvS C env ns (k x) s₁ H₁ Q X) : EvS C env ns (t >>= k) s H Q X :=
  wpAny_bind (wpAny_mono h (fun x s₁ ⟨y, H₁, x1, rp, r, q⟩ => (hk y H₁ x s₁ x1 (st.step x1 rp) r q).back x1.ofNo) fun _ _ p => PostX.toS st hx p)
theorem EvS.stand {t : Sem Flow} {pos : Pos} (h : EvS C env ns t s H Q X) : EvS C env ns (standAt pos >>= fun _ => t) s H Q X := wpAny_bind (wpAny_standAt h)
theorem EvS.pure {ρ : RE} {fl : Flow} {af : AF} (st : St C env ns ρ s H) (r : FlowR s.heap (foot H) fl af) (q : Q af ρ H) : EvS C env ns (pure fl) s H Q X := wpAny_pure ⟨af, ρ, H, Step.refl .., st, r, q⟩
theorem EvS.mono {t : Sem Flow} {Q' : AF → RE → AH → Prop} {X' : Value → RE → AH → Prop} (h : EvS C env ns t s H Q X) (hq : ∀ a ρ H, Q a ρ H → Q' a ρ H) (hx : ∀ c ρ H, X c ρ H → X' c ρ H) : EvS C env ns t s H Q' X' :=
  wpAny_mono h (fun _ _ ⟨af, ρ', H', a, b, c, q⟩ => ⟨af, ρ', H', a, b, c, hq _ _ _ q⟩) fun _ _ ⟨e, c, ρ', H', a, b, f, q⟩ => ⟨e, c, ρ', H', a, b, f, hx _ _ _ q⟩
theorem EvS.seq {t : Sem Flow} {k : Flow → Sem Flow} {Q₁ : AF → RE → AH → Prop} (h : EvS C env ns t s H Q₁ X)
    (hk : ∀ af ρ₁ H₁ fl s₁, St C env ns ρ₁ s₁ H₁ → FlowR s₁.heap (foot H₁) fl af → Q₁ af ρ₁ H₁ → EvS C env ns (k fl) s₁ H₁ Q X) : EvS C env ns (t >>= k) s H Q X :=
  wpAny_bind (wpAny_mono h (fun fl s₁ ⟨af, ρ₁, H₁, x1, st1, r, q⟩ => (hk af ρ₁ H₁ fl s₁ st1 r q).back x1) fun _ _ p => p)
theorem EvS.store {ρ : RE} {i : Nat} {x : Str} {v : Value} {a : AV} {k : Unit → Sem Flow} (st : St C env ns ρ s H) (hx : ns[i]? = some (some x)) (hk : env.kindOf x = some .local ∨ env.kindOf x = some .cell)
    (rv : VRel s.heap (foot H) v a) (h : ∀ s', St C env ns (ρ.set i (some a)) s' H → EvS C env ns (k ()) s' H Q X) : EvS C env ns (storeName env x v >>= k) s H Q X :=
  wpAny_bind (store_ok st hx hk rv fun s' x1 st' => (h s' st').back x1)
noncomputable def SndS (C : Cx) (d : Nat) (env : Env) (ns : List (Option Str)) (ir : IS) (t : Stmt) : Prop :=
  ∀ {ρ : RE} {s : Shared} {H : AH} {Q : AF → RE → AH → Prop} {X : Value → RE → AH → Prop}, St C env ns ρ s H → wpS C.S d ir ρ H Q X → EvS C env ns (exec t env) s H Q X
noncomputable def SndB (C : Cx) (d : Nat) (env : Env) (ns : List (Option Str)) (irs : ISs) (ts : List Stmt) : Prop :=
  ∀ {ρ : RE} {s : Shared} {H : AH} {Q : AF → RE → AH → Prop} {X : Value → RE → AH → Prop}, St C env ns ρ s H → wpSs C.S d irs ρ H Q X → EvS C env ns (execs ts env) s H Q X
end
noncomputable def notComp : Expr → Bool
  | .ListComp .. => false
  | .SetComp .. => false
  | .DictComp .. => false
  | _ => true
theorem swaps_no {e : Expr} {t : Option Expr} {l : Nat} {env : Env} (h : notComp e = true) : swapsWith e t l env = pure false := by
  cases e <;> first | rfl | (simp [notComp] at h)
section
variable {C : Cx} {d : Nat} {env : Env} {ns : List (Option Str)}
theorem sndS_assign {i : Nat} {e : IE} {e' : Expr} {x : Str} {p p' : Pos} (h : Snd C d env ns e e') (hx : ns[i]? = some (some x)) (hk : env.kindOf x = some .local ∨ env.kindOf x = some .cell) (hs : swapsWith e' (some (.Name x p')) p.line env = pure false) : SndS C d env ns (.assign i e) (.Assign [.Name x p'] e' p) := by
  intro ρ s H Q X st w
  unfold wpS at w
  refine wpAny_Assign_Name ?_ hs
  refine wpAny_mono (h st w) (fun v s₁ po => ?_) fun _ _ po => PostX.toS st (fun _ _ z => z) po
  obtain ⟨a, H₁, x1, rp1, ra, q⟩ := po
  refine store_ok (st.step x1 rp1) hx hk ra fun s' x2 st' => ?_
  exact ⟨.next, _, H₁, x1.ofNo.trans x2, st', .next, q⟩
theorem sndS_ret {e : IE} {e' : Expr} {p : Pos} (h : Snd C d env ns e e') : SndS C d env ns (.ret e) (.Return (some e') p) := by
  intro ρ s H Q X st w
  unfold wpS at w
  show EvS C env ns (standAt p >>= fun _ => eval e' env >>= fun x => pure (.ret x)) s H Q X
  exact EvS.stand (EvS.expr st (h st w) (fun _ _ z => z) fun a H₁ v s₁ x1 st1 ra q => EvS.pure st1 (.ret ra) q)
theorem sndS_ret0 {p : Pos} : SndS C d env ns (.ret (.cst .none)) (.Return none p) := by
  intro ρ s H Q X st w
  unfold wpS wpE at w
  show EvS C env ns (standAt p >>= fun _ => pure (.ret .none)) s H Q X
  exact EvS.stand (EvS.pure st (.ret .none) w)
theorem sndS_pass {p : Pos} : SndS C d env ns .pass (.Pass p) := by
  intro ρ s H Q X st w
  unfold wpS at w
  show EvS C env ns (standAt p >>= fun _ => pure .next) s H Q X
  exact EvS.stand (EvS.pure st .next w)
theorem sndS_if {t : IE} {t' : Expr} {b o : ISs} {b' o' : List Stmt} {p : Pos} (h : SndT C d env ns t t') (hb : SndB C d env ns b b') (ho : SndB C d env ns o o') : SndS C d env ns (.ifs t b o) (.If t' b' o' p) := by
  intro ρ s H Q X st w
  unfold wpS at w
  show EvS C env ns (standAt p >>= fun _ => isTrue t' env (eval t' env) >>= fun c => if c = true then execs b' env else execs o' env) s H Q X
  refine EvS.stand (EvS.expr st (h (fun _ _ z => z) st w) (fun _ _ z => z) fun c H₁ v s₁ x1 st1 rc q => ?_)
  cases rc
  cases c
  · exact ho st1 q
  · exact hb st1 q
theorem sndS_expr {e : IE} {e' : Expr} {p : Pos} (h : Snd C d env ns e e') (hc : notComp e' = true) : SndS C d env ns (.expr e) (.Expr e' p) := by
  intro ρ s H Q X st w
  unfold wpS at w
  obtain ⟨m, cm, En⟩ := st.env
  have hi : interactive env = false := by unfold interactive; rw [En.fn]; rfl
  refine wpAny_Expr_any ?_ hi (swaps_no hc)
  refine wpAny_mono (h st w) (fun v s₁ po => ?_) fun _ _ po => PostX.toS st (fun _ _ z => z) po
  obtain ⟨a, H₁, x1, rp1, ra, q⟩ := po
  exact ⟨.next, ρ, H₁, x1.ofNo, st.step x1 rp1, .next, q⟩
theorem sndB_nil : SndB C d env ns .nil [] := by
  intro ρ s H Q X st w
  unfold wpSs at w
  exact EvS.pure st .next w
theorem sndB_cons {a : IS} {t : Stmt} {r : ISs} {ts : List Stmt} (h : SndS C d env ns a t) (hr : SndB C d env ns r ts) : SndB C d env ns (.cons a r) (t :: ts) := by
  intro ρ s H Q X st w
  unfold wpSs at w
  show EvS C env ns (exec t env >>= fun f => match f with | .next => execs ts env | f => pure f) s H Q X
  refine EvS.seq (h st w) fun af ρ₁ H₁ fl s₁ st1 r q => ?_
  cases r with
  | next => exact hr st1 q
  | brk => exact EvS.pure st1 .brk q
  | cont => exact EvS.pure st1 .cont q
  | ret rv => exact EvS.pure st1 (.ret rv) q
end
end Mine
namespace Mine
theorem wpForL_same {same : AH → Prop} {B : AV → RE → AH → (AF → RE → AH → Prop) → Prop} {xs : List AV} {ρ : RE} {H : AH} {Q : AF → RE → AH → Prop} (h : wpForL same B xs ρ H Q) : same H := by
  cases xs <;> exact h.1
section
variable {C : Cx} {d : Nat} {env : Env} {ns : List (Option Str)}
theorem sndS_for {i : Nat} {x : Str} {px : Pos} {it : IE} {it' : Expr} {b : ISs} {b' : List Stmt} {p : Pos} (h : Snd C d env ns it it') (hx : ns[i]? = some (some x)) (hk : env.kindOf x = some .local ∨ env.kindOf x = some .cell) (hb : SndB C d env ns b b') (hf : notSet it' = true) : SndS C d env ns (.for_ i it b) (.For (.Name x px) it' b' [] p) := by
  intro ρ s H Q X st w
  unfold wpS at w
  refine wpAny_For ?_ (fold_no hf)
  refine wpAny_mono (h st w) (fun v s₁ po => ?_) fun _ _ po => PostX.toS st (fun _ _ z => z) po
  obtain ⟨a, H₁, x1, rp1, ra, xs, same, hi, w⟩ := po
  have st1 := st.step x1 rp1
  refine itr_start st1 hi (wpForL_same w) ra fun h0 hk0 ha hit => ?_
  have hn := size_none s₁.heap
  generalize s₁.heap.objs.size = I at ha hit hn
  refine codeAny_forLoop (fun n s' => ∃ ρ' H' k, n + k = xs.length ∧ Step C (OwnW env) s₁ H₁ s' H' ∧ St C env ns ρ' s' H' ∧ Aside C env s'.heap H' I ∧ ItrAt s'.heap H' I a xs k ∧
    wpForL same (fun v ρ' H' Q' => wpSs C.S d b (ρ'.set i (some v)) H' Q' fun _ _ _ => False) (xs.drop k) ρ' H' Q) (fun n s' I' => ?_) xs.length
    ⟨ρ, H₁, 0, rfl, Step.ext (t := s₁.toks) hk0, st1.step (Step.ext (t := s₁.toks) hk0) (rp1.ext hk0), ha, hit, w⟩
  obtain ⟨ρ', H', k, hnk, y, st', ha', hi', w'⟩ := I'
  refine itr_next st' ha' hi' (fun u c h' tk e rv i2 kp => ?_) (fun h' e kp => ?_)
  · rw [drop_at e] at w'
    obtain ⟨sm, w''⟩ := w'
    have y2 : Step C (OwnW env) s₁ H₁ { s' with heap := h', toks := tk } H' := y.but hn kp
    have st2 := st'.but (tk := tk) ha' kp
    have ha2 : Aside C env h' H' I := ⟨i2.obj, ha'.foot, ha'.fs, ha'.own, ha'.base⟩
    refine wpAny_assign_Name (store_ok st2 hx hk rv fun s3 y3 st3 => ?_)
    obtain ⟨m2, cm2, En2⟩ := st2.env
    have i3 := i2.after (fun o ho => Aside.keepObj (s := { s' with heap := h', toks := tk }) ha2 y3 ho) y3 st2.live En2.vars hi sm
    have ha3 := Aside.step (s := { s' with heap := h', toks := tk }) ha2 y3
    have hlt : k < xs.length := (List.getElem?_eq_some_iff.mp e).1
    refine wpAny_mono (hb st3 w'') (fun fl s4 po => ?_) (fun _ _ po => ?_)
    · obtain ⟨af, ρ4, H4, y4, st4, r, q⟩ := po
      obtain ⟨m3, cm3, En3⟩ := st3.env
      have y5 := (y2.trans y3).trans y4
      have go : wpForL same (fun v ρ' H' Q' => wpSs C.S d b (ρ'.set i (some v)) H' Q' fun _ _ _ => False) (xs.drop (k + 1)) ρ4 H4 Q → ∃ m, m < n ∧ ∃ ρ' H' k, m + k = xs.length ∧ Step C (OwnW env) s₁ H₁ s4 H' ∧ St C env ns ρ' s4 H' ∧ Aside C env s4.heap H' I ∧ ItrAt s4.heap H' I a xs k ∧
          wpForL same (fun v ρ' H' Q' => wpSs C.S d b (ρ'.set i (some v)) H' Q' fun _ _ _ => False) (xs.drop k) ρ' H' Q := fun q =>
        ⟨n - 1, by omega, ρ4, H4, k + 1, by omega, y5, st4, ha3.step y4, i3.after (fun o ho => ha3.keepObj y4 ho) y4 st3.live En3.vars hi (wpForL_same q), q⟩
      cases r with
      | next => exact go q
      | cont => exact go q
      | brk => exact ⟨.next, ρ4, H4, x1.ofNo.trans y5, st4, .next, q⟩
      | ret rv => exact ⟨_, ρ4, H4, x1.ofNo.trans y5, st4, .ret rv, q⟩
    · obtain ⟨e, c, ρ', H', _, _, _, q⟩ := po
      exact q.elim
  · have hk2 : xs.length ≤ k := List.getElem?_eq_none_iff.mp e
    rw [List.drop_eq_nil_of_le hk2] at w'
    exact wpAny_pure ⟨.next, ρ', H', x1.ofNo.trans (y.but (tk := s'.toks) hn kp), st'.but (tk := s'.toks) ha' kp, .next, w'.2⟩
theorem sndS_setitem {o i e : IE} {o' i' e' : Expr} {p p' : Pos} (ho : Snd C d env ns o o') (hi : Snd C d env ns i i') (he : Snd C d env ns e e') : SndS C d env ns (.setitem o i e) (.Assign [.Subscript o' i' p'] e' p) := by
  intro ρ s H Q X st w
  unfold wpS at w
  refine wpAny_Assign_Subscript ?_ (by cases e' <;> rfl)
  refine wpAny_mono (he st w) (fun v s₁ po => ?_) fun _ _ po => PostX.toS st (fun _ _ z => z) po
  obtain ⟨a, H₁, x1, rp1, ra, q⟩ := po
  have st1 := st.step x1 rp1
  refine wpAny_mono (ho st1 q) (fun ov s₂ po => ?_) fun _ _ po => (PostX.toS st1 (fun _ _ z => z) po).back x1.ofNo
  obtain ⟨b, H₂, x2, rp2, rb, q⟩ := po
  have st2 := st1.step x2 rp2
  refine wpAny_mono (hi st2 q) (fun iv s₃ po => ?_) fun _ _ po => (PostX.toS st2 (fun _ _ z => z) po).back (x1.trans x2).ofNo
  obtain ⟨k, H₃, x3, rp3, rk, q⟩ := po
  have st3 := st2.step x3 rp3
  refine wpAny_mono (prim_setItem (Q := fun _ H' => Q .next ρ H') (X := noX) st3.live st3.rep (rb.step x3 st2.live noW_seq) rk ((ra.step x2 st1.live noW_seq).step x3 st2.live noW_seq) q) (fun _ s₄ po => ?_) fun _ _ ⟨_, _, _, _, _, q⟩ => q.elim
  obtain ⟨_, H₄, x4, rp4, _, q⟩ := po
  exact ⟨.next, ρ, H₄, (((x1.trans x2).trans x3).trans x4).ofNo, st3.step x4 rp4, .next, q⟩
theorem sndS_assignC {i j : Nat} {mt : Bool} {elt it cond : IE} {elt' it' : Expr} {ifs : List Expr} {x y : Str} {px py pos spos : Pos} {sc : Scope} (Y : CompSnd C d env ns j elt it cond elt' it' ifs x sc) (hx : ns[i]? = some (some y)) (hk : env.kindOf y = some .local)
    (hsw : swapsWith (.ListComp elt' [⟨.Name x px, it', ifs, 0⟩] sc pos) (some (.Name y py)) spos.line env = pure true) : SndS C d env ns (.assign i (.comp mt j elt it cond)) (.Assign [.Name y py] (.ListComp elt' [⟨.Name x px, it', ifs, 0⟩] sc pos) spos) := by
  intro ρ s H Q X st w
  unfold wpS at w
  show wpAny C.S.M C.A (exec (.Assign [.Name y py] (.ListComp elt' [⟨.Name x px, it', ifs, 0⟩] sc pos) spos) env) _ _ s
  rw [exec_Assign_Name_used _ _ _ _ hsw]
  refine wpAny_bind (wpAny_standAt (wpAny_bind ?_))
  show wpAny _ C.A (do let _ ← comprehension (.ListComp elt' [⟨.Name x px, it', ifs, 0⟩] sc pos) sc env _ (newList []) false (eval it' env) (some (assign (.Name y py) env))) _ _ s
  refine wpAny_bind (wpAny_mono (comp_core (use := some (assign (.Name y py) env)) (QQ := fun _ s' => PostS C env ns s H Q .next s') (E := PostSX C env ns s H X) st Y.itr Y.nset Y.names Y.item Y.tests w (fun ev s' po => PostX.toS st (fun _ _ z => z) po) ?_) (fun _ s' hq => wpAny_pure (wpAny_pure hq)) fun _ _ e => e)
  intro r yv c s' H' m x1 rp rv q hc hn nf
  show wpAny _ _ (assign (.Name y py) env r) _ _ s'
  have st' := st.step x1 rp
  refine wpAny_assign_Name (store_ok st' hx (.inl hk) rv fun s2 x2 st2 => ?_)
  have hcW : ¬ OwnW env c := by
    obtain ⟨m0, cm0, E0⟩ := st.env
    rintro (q | ⟨n, q⟩)
    · obtain ⟨o, _, _, ho, _⟩ := E0.loc; rw [← q, hc] at ho; cases ho
    · obtain ⟨⟨o, ho, _⟩, _⟩ := E0.cell n c q; rw [hc] at ho; cases ho
  have hcf : c ∉ C.fs := fun q => by obtain ⟨o, _, _, ho, _⟩ := st.live.dicts c q; rw [hc] at ho; cases ho
  have hcb : C.S.base.get? c = none := by
    cases q : C.S.base.get? c with
    | none => rfl
    | some o => have := st.live.stays _ _ q; rw [hc] at this; cases this
  have hn2 : s2.heap.Ns c m := by obtain ⟨o, es, ep, ho, hd, r⟩ := hn; exact ⟨o, es, ep, x2.keep c o ho nf hcW hcf, hd, r⟩
  refine ⟨m, hn2, fun h' sb => ?_⟩
  have k : ∀ b o, b ≠ c → s2.heap.get? b = some o → h'.get? b = some o := fun b o ne e => (sb.2 b ne).trans e
  exact ⟨.next, _, H', ((Step.ofNo x1).trans x2).but (tk := s2.toks) hc k, ⟨st2.live.but hcf hcb k, st2.rep.but nf (dictOff hn2) k, st2.env.but nf hcW (dictOff hn2) k⟩, .next, q⟩
theorem sndS_raise0 {a b : Str} {t : Stmt} : SndS C d env ns (.raise a b) t := by
  intro ρ s H Q X st w
  unfold wpS at w
  exact w.elim
theorem swaps_comp {e : Expr} {g : List Comprehension} {sc : Scope} {pos p : Pos} {t : Str} {l : Nat} {env : Env} : swapsWith (.ListComp e g sc pos) (some (.Name t p)) l env = pure (env.blockKind == .function && env.kindOf t == some .local && p.line == pos.line
      && !(sc.names.any fun (n, k) => n == t && (k == .local || k == .cell))) := rfl
end
end Mine
namespace Mine
noncomputable def stOK (D : Dl) (i : Nat) (x : Str) : Bool := D.ns[i]? == some (some x) && (D.sc.lookup x == some .local || D.sc.lookup x == some .cell)
noncomputable def asgE : Expr → Bool
  | .ListComp .. => true
  | e => notComp e
mutual
noncomputable def chkS (D : Dl) : IS → Stmt → Bool
  | .expr e, .Expr e' _ => chk D e e' && notComp e'
  | .assign i e, .Assign ts e' _ => match ts with
    | [.Name x _] => stOK D i x && chk D e e' && asgE e'
    | _ => false
  | .setitem o i e, .Assign ts e' _ => match ts with
    | [.Subscript o' i' _] => chk D o o' && chk D i i' && chk D e e'
    | _ => false
  | .for_ i it b, .For t' it' b' els _ => match t' with
    | .Name x _ => stOK D i x && chk D it it' && chkB D b b' && notSet it' && els.isEmpty
    | _ => false
  | .ret e, .Return v _ => match v with
    | some e' => chk D e e'
    | none => match e with
      | .cst c => eqC c .none
      | _ => false
  | .pass, .Pass _ => true
  | .raise _ _, .Raise .. => true
  | .ifs t b o, .If t' b' o' _ => chk D t t' && chkB D b b' && chkB D o o'
  | _, _ => false
noncomputable def chkB (D : Dl) : ISs → List Stmt → Bool
  | .nil, [] => true
  | .cons s r, t :: ts => chkS D s t && chkB D r ts
  | _, _ => false
end
theorem stOK_env {D : Dl} {env : Env} {i : Nat} {x : Str} (he : env.scope.names = D.sc) (h : stOK D i x = true) : D.ns[i]? = some (some x) ∧ (env.kindOf x = some .local ∨ env.kindOf x = some .cell) := by
  unfold stOK at h
  simp only [Bool.and_eq_true, beq_iff_eq, Bool.or_eq_true] at h
  unfold Env.kindOf
  rw [he]
  exact h
theorem asg_ok {C : Cx} {d : Nat} (hd : d ≤ C.d) {i : Nat} {e : IE} {e' : Expr} {x : Str} {p p' : Pos} {D : Dl} {env : Env} (he : env.scope.names = D.sc) (hs : stOK D i x = true) (h : chk D e e' = true) (ha : asgE e' = true) : SndS C d env D.ns (.assign i e) (.Assign [.Name x p'] e' p) := by
  obtain ⟨h1, h2⟩ := stOK_env he hs
  by_cases hn : notComp e' = true
  · exact sndS_assign (chk_ok hd e e' D env he h).1 h1 h2 (swaps_no hn)
  cases e' with
  | ListComp elt' gens sc pos =>
    cases hb : (env.blockKind == .function && env.kindOf x == some .local && p'.line == pos.line && !(sc.names.any fun (n, k) => n == x && (k == .local || k == .cell))) with
    | false => exact sndS_assign (chk_ok hd e _ D env he h).1 h1 h2 (swaps_comp.trans (congrArg pure hb))
    | true =>
      have hk : env.kindOf x = some .local := by
        simp only [Bool.and_eq_true, beq_iff_eq] at hb
        exact hb.1.1.2
      obtain ⟨mt, j, elt, it, cond, y, px, it', ifs, rfl, rfl, Y⟩ := comp_parts hd he h
      exact sndS_assignC Y h1 hk (swaps_comp.trans (congrArg pure hb))
  | _ => exact absurd ha hn
mutual
theorem chkS_ok {C : Cx} {d : Nat} (hd : d ≤ C.d) : ∀ (ir : IS) (t : Stmt) (D : Dl) (env : Env), env.scope.names = D.sc → chkS D ir t = true → SndS C d env D.ns ir t
  | .expr e, t, D, env, he, h => by
    cases t with
    | Expr e' p =>
      replace h : (chk D e e' && notComp e') = true := h
      rw [Bool.and_eq_true] at h
      exact sndS_expr (chk_ok hd e e' D env he h.1).1 h.2
    | _ => exact no_tf h
  | .assign i e, t, D, env, he, h => by
    cases t with
    | Assign ts e' p =>
      rcases ts with _ | ⟨x, _ | ⟨y, z⟩⟩
      · exact no_tf h
      · cases x with
        | Name x p' =>
          replace h : (stOK D i x && chk D e e' && asgE e') = true := h
          rw [Bool.and_eq_true, Bool.and_eq_true] at h
          exact asg_ok hd he h.1.1 h.1.2 h.2
        | _ => exact no_tf h
      · cases x <;> exact no_tf h
    | _ => exact no_tf h
  | .ret e, t, D, env, he, h => by
    cases t with
    | Return v p =>
      cases v with
      | some e' => exact sndS_ret (chk_ok hd e e' D env he h).1
      | none =>
        cases e with
        | cst c =>
          rw [eqC_eq (show eqC c .none = true from h)]
          exact sndS_ret0
        | _ => exact no_tf h
    | _ => exact no_tf h
  | .pass, t, D, env, he, h => by
    cases t with
    | Pass p => exact sndS_pass
    | _ => exact no_tf h
  | .ifs t b o, t', D, env, he, h => by
    cases t' with
    | If t' b' o' p =>
      replace h : (chk D t t' && chkB D b b' && chkB D o o') = true := h
      rw [Bool.and_eq_true, Bool.and_eq_true] at h
      exact sndS_if (chk_ok hd t t' D env he h.1.1).2 (chkB_ok hd b b' D env he h.1.2) (chkB_ok hd o o' D env he h.2)
    | _ => exact no_tf h
  | .setitem o i e, t, D, env, he, h => by
    cases t with
    | Assign ts e' p =>
      rcases ts with _ | ⟨t, _ | ⟨y, z⟩⟩
      · exact no_tf h
      · cases t with
        | Subscript o' i' p' =>
          replace h : (chk D o o' && chk D i i' && chk D e e') = true := h
          rw [Bool.and_eq_true, Bool.and_eq_true] at h
          exact sndS_setitem (chk_ok hd o o' D env he h.1.1).1 (chk_ok hd i i' D env he h.1.2).1 (chk_ok hd e e' D env he h.2).1
        | _ => exact no_tf h
      · cases t <;> exact no_tf h
    | _ => exact no_tf h
  | .for_ i it b, t', D, env, he, h => by
    cases t' with
    | For t' it' b' els p =>
      cases t' with
      | Name x px =>
        replace h : (stOK D i x && chk D it it' && chkB D b b' && notSet it' && els.isEmpty) = true := h
        simp only [Bool.and_eq_true, List.isEmpty_iff] at h
        obtain ⟨⟨⟨⟨h1, h2⟩, h3⟩, h4⟩, rfl⟩ := h
        obtain ⟨g1, g2⟩ := stOK_env he h1
        exact sndS_for (chk_ok hd it it' D env he h2).1 g1 g2 (chkB_ok hd b b' D env he h3) h4
      | _ => exact no_tf h
    | _ => exact no_tf h
  | .raise a b, t, D, env, he, h => by
    exact sndS_raise0
  | .trys a b, t, D, env, he, h => by cases t <;> exact no_tf h
theorem chkB_ok {C : Cx} {d : Nat} (hd : d ≤ C.d) : ∀ (irs : ISs) (ts : List Stmt) (D : Dl) (env : Env), env.scope.names = D.sc → chkB D irs ts = true → SndB C d env D.ns irs ts
  | .nil, [], D, env, he, h => by
    exact sndB_nil
  | .nil, _ :: _, D, env, he, h => by exact no_tf h
  | .cons _ _, [], D, env, he, h => by exact no_tf h
  | .cons a r, t :: ts, D, env, he, h => by
    replace h : (chkS D a t && chkB D r ts) = true := h
    rw [Bool.and_eq_true] at h
    exact sndB_cons (chkS_ok hd a t D env he h.1) (chkB_ok hd r ts D env he h.2)
end
theorem lookup_zip : ∀ (ns : List Str) (vs : List Value), vs.length = ns.length → ∀ n ∈ ns, ((ns.zip vs).lookup n).isSome = true
  | [], _, _, n, h => nomatch h
  | a :: r, [], h, _, _ => by simp at h
  | a :: r, v :: vs, h, n, hn => by
    simp only [List.zip_cons_cons, List.lookup_cons]
    cases q : n == a with
    | true => rfl
    | false =>
      cases hn with
      | head => simp at q
      | tail _ hn => exact lookup_zip r vs (by simpa using h) n hn
theorem fm_congr {α β : Type} {f g : α → Option β} : ∀ (l : List α), (∀ x ∈ l, f x = g x) → l.filterMap f = l.filterMap g
  | [], _ => rfl
  | a :: r, h => by
    simp only [List.filterMap_cons]
    rw [h a (.head _), fm_congr r fun x hx => h x (.tail _ hx)]
theorem filterMap_zip : ∀ (ns : List Str) (vs : List Value), ns.Nodup → vs.length = ns.length → ns.filterMap (fun n => ((ns.zip vs).lookup n).map (n, ·)) = ns.zip vs
  | [], vs, _, h => by simp
  | a :: r, [], _, h => by simp at h
  | a :: r, v :: vs, hn, h => by
    obtain ⟨h1, h2⟩ := List.nodup_cons.mp hn
    simp only [List.zip_cons_cons, List.filterMap_cons, List.lookup_cons, beq_self_eq_true, Option.map_some]
    congr 1
    refine (fm_congr r fun n hn' => ?_).trans (filterMap_zip r vs h2 (by simpa using h))
    have : (n == a) = false := by
      cases q : n == a with
      | false => rfl
      | true => rw [beq_iff_eq] at q; subst q; exact absurd hn' h1
    rw [this]
noncomputable def plainPrm (p : Arguments) (names : List Str) : Bool := p.posonlyargs.isEmpty && p.kwonlyargs.isEmpty && p.vararg.isNone && p.kwarg.isNone && decide (p.args.map (·.arg) = names) && decide names.Nodup
theorem bind_plain {fd : FuncData} {names : List Str} {vals : List Value} (h : plainPrm fd.params names = true) (hd : fd.defaults = .none) (hl : vals.length = names.length) : bindArgs fd ⟨vals, []⟩ = pure (names.zip vals) := by
  unfold plainPrm at h
  simp only [Bool.and_eq_true, decide_eq_true_eq, List.isEmpty_iff, Option.isNone_iff_eq_none] at h
  obtain ⟨⟨⟨⟨⟨h1, h2⟩, h3⟩, h4⟩, h5⟩, h6⟩ := h
  unfold bindArgs
  have hs : seqItems? Value.none = pure none := rfl
  simp only [h1, h2, h3, h4, h5, hd, hs, List.map_nil, List.nil_append]
  simp [hl, filterMap_zip names vals h6 hl]
  intro x hx hno
  have := lookup_zip names vals hl x hx
  cases q : (names.zip vals).lookup x with
  | none => rw [q] at this; cases this
  | some v => exact absurd (mem_of_lookup q) (hno v)
end Mine
namespace Mine
noncomputable def scopeOK (sc : Scope) (prm : List Str) : Bool :=
  sc.kind == .function && !sc.isCoroutine && !sc.isGenerator && (prm.all fun x => sc.names.lookup x == some .local || sc.names.lookup x == some .cell) && (sc.names.all fun y => y.2 != .free)
noncomputable def nsOK (ns : List (Option Str)) (prm : List Str) : Bool := decide (ns.take prm.length = prm.map some) && decide (ns.filterMap id).Nodup && decide (prm.length ≤ ns.length)
noncomputable def bodyOK (names : List (Str × NameKind)) (ns : List (Option Str)) (irs : ISs) : FuncBody → Bool
  | .stmts b => chkB ⟨names, ns⟩ irs b
  | _ => false
noncomputable def noDef : Value → Bool
  | .none => true
  | _ => false
noncomputable def fdOK (K : Frag) (prm : List Str) (ns : List (Option Str)) (irs : ISs) (fd : FuncData) : Bool :=
  decide (fd.globals = mainGlobals) && decide (fd.builtins = builtinsNs) && fd.closure.isEmpty && codeIn K fd.code fd.qualname && plainPrm fd.params prm && noDef fd.defaults && scopeOK fd.scope prm && nsOK ns prm && bodyOK fd.scope.names ns irs fd.body
noncomputable def fnChk (K : Frag) (f : Addr) (prm : List Str) (ns : List (Option Str)) (irs : ISs) : Bool := match K.lookup f with
  | some ⟨_, _, .func fd, _⟩ => fdOK K prm ns irs fd
  | _ => false
structure FdOK (K : Frag) (prm : List Str) (ns : List (Option Str)) (irs : ISs) (fd : FuncData) (body : List Stmt) : Prop where
  glob : fd.globals = mainGlobals
  bns : fd.builtins = builtinsNs
  clo : fd.closure = []
  code : codeIn K fd.code fd.qualname = true
  ppar : plainPrm fd.params prm = true
  dflt : fd.defaults = .none
  kind : fd.scope.kind = .function
  co : fd.scope.isCoroutine = false
  gen : fd.scope.isGenerator = false
  par : ∀ x ∈ prm, fd.scope.names.lookup x = some .local ∨ fd.scope.names.lookup x = some .cell
  free : ∀ y ∈ fd.scope.names, y.2 ≠ .free
  ns1 : ns.take prm.length = prm.map some
  ns2 : (ns.filterMap id).Nodup
  ns3 : prm.length ≤ ns.length
  bod : fd.body = .stmts body
  chk : chkB ⟨fd.scope.names, ns⟩ irs body = true
theorem fdOK_of {K : Frag} {prm : List Str} {ns : List (Option Str)} {irs : ISs} {fd : FuncData} (h : fdOK K prm ns irs fd = true) : ∃ body, FdOK K prm ns irs fd body := by
  unfold fdOK scopeOK nsOK at h
  simp only [Bool.and_eq_true, decide_eq_true_eq, List.isEmpty_iff, beq_iff_eq, Bool.not_eq_true', List.all_eq_true, Bool.or_eq_true, bne_iff_ne] at h
  obtain ⟨⟨⟨⟨⟨⟨⟨⟨a1, a2⟩, a3⟩, a4⟩, a5⟩, a6⟩, ⟨⟨⟨⟨b1, b2⟩, b3⟩, b4⟩, b5⟩⟩, ⟨⟨c1, c2⟩, c3⟩⟩, a8⟩ := h
  unfold bodyOK at a8
  split at a8
  · rename_i body e
    refine ⟨body, a1, a2, a3, a4, a5, ?_, b1, b2, b3, b4, b5, c1, c2, c3, e, a8⟩
    cases q : fd.defaults <;> rw [q] at a6 <;> first | rfl | cases a6
  · cases a8
theorem bindL_out {kindOf : Str → Option NameKind} {x : Str} : ∀ (ns : List Str) (vs : List Value) (m : Str → Option Value), x ∉ ns → bindL kindOf (ns.zip vs) m x = m x
  | [], _, _, _ => rfl
  | _ :: _, [], _, _ => rfl
  | n :: r, v :: vs, m, h => by
    simp only [List.zip_cons_cons, bindL]
    rw [bindL_out r vs _ fun q => h (.tail _ q)]
    split
    · have : x ≠ n := fun q => h (q ▸ .head _)
      simp [this]
    · rfl
theorem bindC_out {kindOf : Str → Option NameKind} {x : Str} : ∀ (ns : List Str) (vs : List Value) (m : Str → Option Value), x ∉ ns → bindC kindOf (ns.zip vs) m x = m x
  | [], _, _, _ => rfl
  | _ :: _, [], _, _ => rfl
  | n :: r, v :: vs, m, h => by
    simp only [List.zip_cons_cons, bindC]
    rw [bindC_out r vs _ fun q => h (.tail _ q)]
    split
    · rfl
    · have : x ≠ n := fun q => h (q ▸ .head _)
      simp [this]
theorem bindL_in {kindOf : Str → Option NameKind} {x : Str} {v : Value} (hk : kindOf x = some .local) : ∀ (ns : List Str) (vs : List Value) (m : Str → Option Value) (i : Nat), ns.Nodup → ns[i]? = some x → vs[i]? = some v → bindL kindOf (ns.zip vs) m x = some v
  | [], _, _, _, _, h, _ => by simp at h
  | _ :: _, [], _, _, _, _, h => by simp at h
  | n :: r, u :: vs, m, 0, hn, h1, h2 => by
    simp at h1 h2
    subst h1; subst h2
    simp only [List.zip_cons_cons, bindL]
    rw [bindL_out r vs _ (List.nodup_cons.mp hn).1, if_pos hk]
    simp
  | n :: r, u :: vs, m, i + 1, hn, h1, h2 => by
    simp at h1 h2
    simp only [List.zip_cons_cons, bindL]
    exact bindL_in hk r vs _ i (List.nodup_cons.mp hn).2 h1 h2
theorem bindC_in {kindOf : Str → Option NameKind} {x : Str} {v : Value} (hk : ¬ kindOf x = some .local) : ∀ (ns : List Str) (vs : List Value) (m : Str → Option Value) (i : Nat), ns.Nodup → ns[i]? = some x → vs[i]? = some v → bindC kindOf (ns.zip vs) m x = some v
  | [], _, _, _, _, h, _ => by simp at h
  | _ :: _, [], _, _, _, _, h => by simp at h
  | n :: r, u :: vs, m, 0, hn, h1, h2 => by
    simp at h1 h2
    subst h1; subst h2
    simp only [List.zip_cons_cons, bindC]
    rw [bindC_out r vs _ (List.nodup_cons.mp hn).1, if_neg hk]
    simp
  | n :: r, u :: vs, m, i + 1, hn, h1, h2 => by
    simp at h1 h2
    simp only [List.zip_cons_cons, bindC]
    exact bindC_in hk r vs _ i (List.nodup_cons.mp hn).2 h1 h2
theorem apart_of {cs : List (Str × Addr)} (h : cs.Pairwise fun x y => x.2 ≠ y.2) : ∀ n n' c, (n, c) ∈ cs → (n', c) ∈ cs → n = n' := by
  induction cs with
  | nil => intro n n' c h; cases h
  | cons a r ih =>
    obtain ⟨h1, h2⟩ := List.pairwise_cons.mp h
    intro n n' c m1 m2
    cases m1 with
    | head =>
      cases m2 with
      | head => rfl
      | tail _ m2 => exact absurd rfl (h1 (n', _) m2)
    | tail _ m1 =>
      cases m2 with
      | head => exact absurd rfl (h1 (n, _) m1)
      | tail _ m2 => exact ih h2 n n' c m1 m2
theorem nodup_inj : ∀ {ns : List (Option Str)}, (ns.filterMap id).Nodup → ∀ (i j : Nat) (x : Str), ns[i]? = some (some x) → ns[j]? = some (some x) → i = j
  | [], _, i, j, x, h, _ => by simp at h
  | a :: r, hn, i, j, x, h1, h2 => by
    have key : ∀ {k : Nat}, (a :: r)[k+1]? = some (some x) → a = some x → False := fun {k} h e => by
      subst e
      simp only [List.filterMap_cons, id] at hn
      refine (List.nodup_cons.mp hn).1 ?_
      simp at h
      exact List.mem_filterMap.mpr ⟨some x, List.mem_of_getElem? h, rfl⟩
    have hn' : (r.filterMap id).Nodup := by
      cases a with
      | none => simpa [List.filterMap_cons] using hn
      | some y => simp only [List.filterMap_cons, id] at hn; exact (List.nodup_cons.mp hn).2
    match i, j with
    | 0, 0 => rfl
    | 0, j + 1 => simp at h1; exact (key h2 h1).elim
    | i + 1, 0 => simp at h2; exact (key h1 h2).elim
    | i + 1, j + 1 => simp at h1 h2; rw [nodup_inj hn' i j x h1 h2]
noncomputable def rho0 (args : List AV) (ns : List (Option Str)) : RE := args.map some ++ List.replicate (ns.length - args.length) none
theorem enter_ok {C : Cx} {s s₁ : Shared} {H : AH} {f : Addr} {prm : List Str} {ns : List (Option Str)} {irs : ISs} {fd : FuncData} {body : List Stmt} {args : List AV} {vals : List Value} (Y : FdOK C.S.K prm ns irs fd body) (L : Live C s.heap H) (R : Rep C.S s.heap H) (rv : VRels s.heap (foot H) vals args) (hl : args.length = prm.length) (hd : 0 < C.d)
    (x : InCallC s (callEnvC fd s.heap.objs.size f).locals (bindL (callEnvC fd s.heap.objs.size f).kindOf (prm.zip vals) fun _ => none) (callEnvC fd s.heap.objs.size f).cells (bindC (callEnvC fd s.heap.objs.size f).kindOf (prm.zip vals) fun _ => none) s₁) :
    St { S := C.S, A := C.A.deeper (callEnvC fd s.heap.objs.size f), fe := callEnvC fd s.heap.objs.size f :: C.fe, d := C.d - 1 } (callEnvC fd s.heap.objs.size f) ns (rho0 args ns) s₁ H := by
  obtain ⟨h', tk, rfl, hk⟩ := x.done
  have hLl : (callEnvC fd s.heap.objs.size f).locals = s.heap.objs.size := rfl
  have hfresh : ∀ b, s.heap.objs.size ≤ b → s.heap.get? b = none := fun b hb => by
    cases q : s.heap.get? b with
    | none => rfl
    | some o => exact absurd (Heap.lt_size q) (Nat.not_lt.mpr hb)
  have base0 : ∀ b, s.heap.get? b = none → C.S.base.get? b = none := fun b hb => by
    cases q : C.S.base.get? b with
    | none => rfl
    | some o => have := L.stays b o q; rw [hb] at this; cases this
  have hfs : ∀ b ∈ C.fs, ∃ o, s.heap.get? b = some o := fun b hb => let ⟨o, _, _, ho, _⟩ := L.dicts b hb; ⟨o, ho⟩
  have hL0 := hfresh s.heap.objs.size (Nat.le_refl _)
  have hc0 : ∀ n c, (n, c) ∈ (callEnvC fd s.heap.objs.size f).cells → s.heap.get? c = none := fun n c hm => hfresh c (Nat.le_of_lt (x.above n c hm))
  have hfs' : ∀ b, b ∈ ({ S := C.S, A := C.A.deeper (callEnvC fd s.heap.objs.size f), fe := callEnvC fd s.heap.objs.size f :: C.fe, d := C.d - 1 } : Cx).fs → b = s.heap.objs.size ∨ b ∈ C.fs := fun b hb => by
    unfold Cx.fs at hb
    rw [List.filterMap_cons] at hb
    cases hb with
    | head => exact .inl rfl
    | tail _ hb => exact .inr hb
  have hns := x.toInCall.ns
  refine ⟨⟨?_, ?_, fun b o e => hk b o (L.stays b o e), fun b hb f' => ?_, L.new, L.handled, fun b hb => ?_, ?_, ?_⟩, R.ext hk, _, (bindC (callEnvC fd s.heap.objs.size f).kindOf (prm.zip vals) fun _ => none), Y.kind, Y.glob, Y.bns, hns, R.off hL0, nodup_inj Y.ns2, ?_, ?_, base0 _ hL0, fun n c hc => ?_, ?_, ?_⟩
  · show C.A.frames.map _ = _
    rw [L.frames]; rfl
  · refine Heap.FunFrames.cons (m := _) (L := s.heap.objs.size) ?_ rfl hns (base0 _ hL0) (L.funs.of_keeps fun b o hb _ => ⟨o, hk b o hb, rfl⟩)
    show fd.scope.kind ≠ .module
    rw [Y.kind]; exact fun q => nomatch q
  · rcases hfs' b hb with rfl | hb
    · exact R.off hL0 f'
    · exact L.off b hb f'
  · rcases hfs' b hb with rfl | hb
    · obtain ⟨o, es, ep, h1, h2, _⟩ := hns; exact ⟨o, es, ep, h1, h2⟩
    · obtain ⟨o, es, ep, h1, h2⟩ := L.dicts b hb; exact ⟨o, es, ep, hk b o h1, h2⟩
  · show C.A.depth + 1 + (C.d - 1) < recursionLimit
    have := L.depth; omega
  · show C.A.units + 3 + 20 * (C.d - 1) + 100 < cLine
    have := L.units; omega
  · unfold rho0
    rw [List.length_append, List.length_map, List.length_replicate]
    have := Y.ns3; omega
  · rintro y (hy | hy)
    · have := cellsFrom_some fd.scope.names (s.heap.objs.size + 1) [] (.inl hy)
      exact Option.isSome_iff_exists.mp this
    · exact absurd rfl (Y.free _ (mem_of_lookup hy))
  · have hm := mem_of_lookup hc
    have h0 := hc0 n c hm
    refine ⟨x.cell n c hc, R.off h0, fun q => ?_, Nat.ne_of_gt (x.above n c hm), base0 _ h0⟩
    rcases hfs' c q with rfl | q
    · exact absurd (x.above n _ hm) (Nat.lt_irrefl _)
    · obtain ⟨o, ho⟩ := hfs c q; rw [h0] at ho; cases ho
  · intro n n' c h1 h2
    exact apart_of x.apart n n' c (mem_of_lookup h1) (mem_of_lookup h2)
  · intro i y a h1 h2
    have hi : i < args.length := by
      unfold rho0 at h2
      rw [List.getElem?_append] at h2
      split at h2
      · rename_i q; simpa using q
      · rw [List.getElem?_replicate] at h2
        split at h2 <;> simp at h2
    have ha : args[i]? = some a := by
      unfold rho0 at h2
      rw [List.getElem?_append_left (by simpa using hi)] at h2
      simp at h2
      exact h2
    have hy : prm[i]? = some y := by
      have : (ns.take prm.length)[i]? = some (some y) := by rw [List.getElem?_take, if_pos (by omega)]; exact h1
      rw [Y.ns1] at this
      simp at this
      exact this
    obtain ⟨v, hv, r⟩ := rv.get i ha
    have hnd : prm.Nodup := by
      have := Y.ppar
      unfold plainPrm at this
      simp only [Bool.and_eq_true, decide_eq_true_eq] at this
      exact this.2
    refine ⟨v, r.stays ⟨fun b o e _ => hk b o e, fun _ q => .inl q⟩, ?_⟩
    rcases Y.par y (List.mem_of_getElem? hy) with q | q
    · exact .inl ⟨q, bindL_in q prm vals _ i hnd hy hv⟩
    · have := cellsFrom_some fd.scope.names (s.heap.objs.size + 1) [] (.inl q)
      refine .inr ⟨.inl q, Option.isSome_iff_exists.mp this, bindC_in ?_ prm vals _ i hnd hy hv⟩
      show ¬ fd.scope.names.lookup y = some .local
      rw [q]; exact fun z => nomatch z
end Mine
namespace Mine
noncomputable def Back (Q : AV → AH → Prop) : AF → RE → AH → Prop := fun fl _ H => match fl with
  | .ret a => Q a H
  | .next => Q .none H
  | _ => False
theorem leave_ok {C : Cx} {s s₁ s' : Shared} {H H' : AH} {f : Addr} {fd : FuncData} {m cm : Str → Option Value} (L : Live C s.heap H)
    (x : InCallC s (callEnvC fd s.heap.objs.size f).locals m (callEnvC fd s.heap.objs.size f).cells cm s₁)
    (y : Step { S := C.S, A := C.A.deeper (callEnvC fd s.heap.objs.size f), fe := callEnvC fd s.heap.objs.size f :: C.fe, d := C.d - 1 } (OwnW (callEnvC fd s.heap.objs.size f)) s₁ H s' H') : Step C noW s H s' H' := by
  obtain ⟨h', tk, rfl, hk⟩ := x.done
  have nW : ∀ b o, s.heap.get? b = some o → ¬ OwnW (callEnvC fd s.heap.objs.size f) b := by
    rintro b o e (rfl | ⟨n, hc⟩)
    · exact absurd (Heap.lt_size e) (Nat.lt_irrefl _)
    · exact absurd (Nat.lt_trans (Heap.lt_size e) (x.above n b (mem_of_lookup hc))) (Nat.lt_irrefl _)
  refine ⟨fun b o e nf _ nfs => ?_, fun b o e hb _ => ?_, fun b o e => y.alive b o (hk b o e), fun a fa => ?_, y.gens, y.os⟩
  · refine y.keep b o (hk b o e) nf (nW b o e) fun q => ?_
    unfold Cx.fs at q
    rw [List.filterMap_cons] at q
    cases q with
    | head => exact absurd (Heap.lt_size e) (Nat.lt_irrefl _)
    | tail _ q => exact nfs q
  · refine y.slots b o (hk b o e) ?_ (nW b o e)
    unfold Cx.fs
    rw [List.filterMap_cons]
    exact .tail _ hb
  · refine (y.grow a fa).imp id fun q => ?_
    cases z : s.heap.get? a with
    | none => rfl
    | some o => rw [hk a o z] at q; cases q
theorem fnChk_of {K : Frag} {f : Addr} {prm : List Str} {ns : List (Option Str)} {irs : ISs} (h : fnChk K f prm ns irs = true) : ∃ o fd body, K.lookup f = some o ∧ o.data = .func fd ∧ FdOK K prm ns irs fd body := by
  unfold fnChk at h
  split at h
  · rename_i c dd fd sl e
    obtain ⟨body, Y⟩ := fdOK_of h
    exact ⟨_, fd, body, e, rfl, Y⟩
  · cases h
theorem call_ok {S : Stat} {d : Nat} {f : Addr} {prm : List Str} {ns : List (Option Str)} {irs : ISs} {args : List AV} {H : AH} {Q : AV → AH → Prop} {X : Value → AH → Prop} (h : fnChk S.K f prm ns irs = true) (hd : 0 < d) (hl : args.length = prm.length)
    (w : wpSs S (d - 1) irs (rho0 args ns) H (Back Q) fun _ _ _ => False) : CallOK S d f args H Q X := by
  intro C s vals e1 e2 L R rv
  subst e1
  obtain ⟨o, fd, body, ho, hdata, Y⟩ := fnChk_of h
  have hroom : C.A.depth < recursionLimit := by have := L.depth; omega
  refine codeAny_call_cells (body := body) (binds := prm.zip vals) hroom (L.K f o ho) hdata (C.S.hT.nolimit.keeps L.stays) (codeRec_of L.K Y.code) Y.bod (bind_plain Y.ppar Y.dflt (by rw [rv.length, hl])) Y.clo (fun y hy => ?_) (fun s₁ x => ?_) Y.co Y.gen Y.kind
  · rcases Y.par y.1 (List.of_mem_zip hy).1 with q | q
    · exact .inl q
    · exact .inr ⟨q, cellsFrom_some fd.scope.names (s.heap.objs.size + 1) [] (.inl q)⟩
  have st := enter_ok Y L R rv hl (by omega) x
  refine wpAny_mono (chkB_ok (C := { S := C.S, A := C.A.deeper (callEnvC fd s.heap.objs.size f), fe := callEnvC fd s.heap.objs.size f :: C.fe, d := C.d - 1 }) (d := d - 1) (by show d - 1 ≤ C.d - 1; omega) irs body ⟨fd.scope.names, ns⟩ (callEnvC fd s.heap.objs.size f) rfl Y.chk st w) (fun fl s' po => ?_) fun e s' po => ?_
  · obtain ⟨af, ρ', H', y, st', r, q⟩ := po
    have y' := leave_ok L x y
    cases r with
    | next => exact ⟨.none, H', y', st'.rep, .none, q⟩
    | brk => exact q.elim
    | cont => exact q.elim
    | ret rv => exact ⟨_, H', y', st'.rep, rv, q⟩
  · obtain ⟨e, c, ρ', H', _, _, _, q⟩ := po
    exact q.elim
theorem ints_rel {h : Heap} {F : Addr → Prop} : ∀ {vs : List Value} {xs : List Int}, IntsAre vs xs → VRels h F vs (xs.map .int)
  | _, _, .nil => .nil
  | _, _, .cons i t r => .cons (.int i t) (ints_rel r)
theorem law_ok {l : OpenLaw} {w : World} {s₁ : Shared} {cl : Str → Option Addr} {mean : ExcName → Option Value} {mg : Str → Option Value} {args : List WData} {vs : List Value} {xs : List Int} {fa f a : Addr} (S : Stat) (hp : S.prog = l.row.prog) (hw : S.w = w) (hb : S.base = s₁.heap) (hm : S.mg = mg) (hg : s₁.gens = #[])
    (hmg : mg l.name = some (.ref fa)) (hf : S.fn l.name = some f) (hI : IntsAre vs xs) (hL : s₁.heap.IsList a vs.toArray) (hW : Well w.params s₁.heap (.ref a) (ofPy (.list (xs.map .int)))) (hn : ¬ (63 : Int) < xs.length)
    (h : ∀ xs : List Int, xs.length ≤ 63 → CallOK S 40 f [.lst (xs.map .int)] (fun _ => none) (fun a _ => a = .bool true) noX) :
    wpAny (model l.row.prog w) callerA (call (.ref fa) [.ref a]) (fun v s' => GoodWG l.row.claim cl mean args s₁ (.ok (.ret v)) s')
      (fun e s' => GoodWG l.row.claim cl mean args s₁ (.error e) s') s₁ := by
  have e1 := (fn_parts hf).1
  have e2 : mg l.name = some (.ref f) := by rw [← hm]; exact mg_of S.hK S.hT.g e1
  rw [hmg] at e2
  cases e2
  have nof : ∀ b, ¬ foot (fun _ => none) b := fun b f => f rfl
  have hargs : VRels s₁.heap (foot fun _ => none) [.ref a] [.lst (xs.map .int)] := by
    obtain ⟨o, ho, hc, n, hd⟩ := hL
    have : ∃ us : List Value, s₁.heap.get? a = some { cls := .type "list", data := .seq us.toArray } := by
      generalize hv : Value.ref a = v at hW
      generalize hdd : ofPy (.list (xs.map .int)) = dd at hW
      cases hW with
      | list q _ => cases hv; exact ⟨_, q⟩
      | _ => cases hdd
    obtain ⟨us, hu⟩ := this
    rw [hu] at ho
    cases ho
    have : us.toArray = vs.toArray := by injection hd
    refine .cons (.lst (vs := us.toArray) (n := 0) hu (nof a) ?_) .nil
    rw [this]
    simpa using ints_rel hI
  rw [← hp, ← hw]
  have L : Live { S := S, A := callerA, fe := [], d := 40 } s₁.heap (fun _ => none) := by
    refine ⟨rfl, trivial, ?_, ?_, ?_, rfl, ?_, ?_, ?_⟩
    · intro b o e
      have e' : S.base.get? b = some o := e
      rw [hb] at e'; exact e'
    · intro b q; cases q
    · intro b q; exact (nof b q).elim
    · intro b q; cases q
    · show callerA.depth + 40 < recursionLimit
      decide +kernel
    · show callerA.units + 20 * 40 + 100 < cLine
      decide +kernel
  have R : Rep S s₁.heap (fun _ => none) := ⟨fun _ _ e => nomatch e⟩
  refine wpAny_call (codeAny_mono (h xs (by omega) { S := S, A := callerA, fe := [], d := 40 } s₁ [.ref a] rfl (Nat.le_refl _) L R hargs) fun r s' z => ?_)
  rcases r with e | (_ | _ | _ | v)
  · obtain ⟨_, _, _, _, _, q⟩ := z; exact q.elim
  · exact z
  · exact z
  · exact z
  · obtain ⟨y, H', x, rp, r, q⟩ := z
    subst q
    cases r
    have keep : ∀ b o, s₁.heap.get? b = some o → s'.heap.get? b = some o := fun b o e => x.keep b o e (nof b) (fun q => q) (fun q => by cases q)
    refine ⟨.inl ⟨_, .bool true, [], rfl, fun _ => rfl, .bool true, by first | with_unfolding_all rfl | kernel_rfl, fun _ => ⟨.nil, fun _ h => by cases h⟩⟩, .of_keep keep, x.os, .of_eq (x.gens.trans hg)⟩
end Mine
namespace Mine
noncomputable def FnIs (S : Stat) (x : Str) (prm : List Str) (ns : List (Option Str)) (irs : ISs) : Prop := ∃ f, S.fn x = some f ∧ fnChk S.K f prm ns irs = true
noncomputable def fnB (K : Frag) (x : Str) (prm : List Str) (ns : List (Option Str)) (irs : ISs) : Bool := match nsIn K mainGlobals x with
  | some (some (.ref a)) => fnIn K a && fnChk K a prm ns irs
  | _ => false
theorem fnIs_of {S : Stat} {x : Str} {prm : List Str} {ns : List (Option Str)} {irs : ISs} (h : fnB S.K x prm ns irs = true) : FnIs S x prm ns irs := by
  unfold fnB at h
  split at h
  · rename_i a e
    rw [Bool.and_eq_true] at h
    refine ⟨a, ?_, h.2⟩
    unfold Stat.fn Stat.gref
    rw [e]
    simp [h.1]
  · cases h
theorem isi_of {S : Stat} {H : AH} {a : AV} {ts : List Str} {t : Value} {vs : List Value} {b : Bool} (h1 : clsOf H a = some t) (h3 : S.typesV ts = some vs) (h4 : kitAny S.K t vs = some b) : isiA S H a ts = some b := by
  unfold isiA
  rw [h1, Option.bind_some, h3, Option.bind_some, h4]
theorem FnIs.chk {S : Stat} {x : Str} {prm : List Str} {ns : List (Option Str)} {irs : ISs} {f : Addr} (F : FnIs S x prm ns irs) (hf : S.fn x = some f) : fnChk S.K f prm ns irs = true := by
  obtain ⟨f', h1, h2⟩ := F
  rw [hf] at h1; cases h1; exact h2
theorem den_int {H : AH} {i : Int} {d : PyData} : Den H (.int i) d ↔ d = .int i := ⟨fun h => by cases h; rfl, fun h => h ▸ .int i⟩
theorem den_str {H : AH} {i : Str} {d : PyData} : Den H (.str i) d ↔ d = .str i := ⟨fun h => by cases h; rfl, fun h => h ▸ .str i⟩
theorem eq_int {H : AH} {i j : Int} {Q : Bool → Prop} : EqOk H (.int i) (.int j) Q ↔ Q (decide (i = j)) := by
  unfold EqOk
  simp only [den_int]
  have e : PyData.eqv (.int i) (.int j) = decide (i = j) := by rfl
  have e2 : min (PyData.int i).depth (PyData.int j).depth ≤ 50 := by simp [PyData.depth]
  constructor
  · rintro ⟨da, db, rfl, rfl, _, q⟩; rw [e] at q; exact q
  · intro q; exact ⟨_, _, rfl, rfl, e2, by rw [e]; exact q⟩
theorem eq_str {H : AH} {i j : Str} {Q : Bool → Prop} : EqOk H (.str i) (.str j) Q ↔ Q (decide (i = j)) := by
  unfold EqOk
  simp only [den_str]
  have e : PyData.eqv (.str i) (.str j) = decide (i = j) := by
    show (i == j) = decide (i = j)
    by_cases q : i = j
    · subst q; simp
    · simp [q]
  have e2 : min (PyData.str i).depth (PyData.str j).depth ≤ 50 := by simp [PyData.depth]
  constructor
  · rintro ⟨da, db, rfl, rfl, _, q⟩; rw [e] at q; exact q
  · intro q; exact ⟨_, _, rfl, rfl, e2, by rw [e]; exact q⟩
theorem sub_lst {H : AH} {xs : List AV} {k : Int} {Q : AV → Prop} : wpSub H (.lst xs) (.int k) Q ↔ (-(2 ^ 62 : Int) < k ∧ k < 2 ^ 62) ∧ ∃ n v, idxA k xs.length = some n ∧ xs[n]? = some v ∧ Q v := by
  unfold wpSub
  constructor
  · rintro (⟨ys, k', n, v, h1, h2, h3, h4, h5, h6, q⟩ | ⟨xs, k, n, v, h1, _⟩ | ⟨xs, k, n, v, h1, _⟩)
    · cases h1; cases h2; exact ⟨⟨h3, h4⟩, n, v, h5, h6, q⟩
    · cases h1
    · cases h1
  · rintro ⟨⟨h3, h4⟩, n, v, h5, h6, q⟩
    exact .inl ⟨xs, k, n, v, rfl, rfl, h3, h4, h5, h6, q⟩
theorem sub_tup {H : AH} {xs : List AV} {k : Int} {Q : AV → Prop} : wpSub H (.tup xs) (.int k) Q ↔ (-(2 ^ 62 : Int) < k ∧ k < 2 ^ 62) ∧ ∃ n v, idxA k xs.length = some n ∧ xs[n]? = some v ∧ Q v := by
  unfold wpSub
  constructor
  · rintro (⟨ys, k', n, v, h1, _⟩ | ⟨ys, k', n, v, h1, h2, h3, h4, h5, h6, q⟩ | ⟨xs, k, n, v, h1, _⟩)
    · cases h1
    · cases h1; cases h2; exact ⟨⟨h3, h4⟩, n, v, h5, h6, q⟩
    · cases h1
  · rintro ⟨⟨h3, h4⟩, n, v, h5, h6, q⟩
    exact .inr (.inl ⟨xs, k, n, v, rfl, rfl, h3, h4, h5, h6, q⟩)
theorem sub_lst_lit {H : AH} {xs : List AV} {k : Nat} {v : AV} {Q : AV → Prop} (hk : k < 2 ^ 62) (hx : xs[k]? = some v) (q : Q v) : wpSub H (.lst xs) (.int k) Q := by
  refine sub_lst.mpr ⟨⟨by omega, by omega⟩, k, v, ?_, hx, q⟩
  have := (List.getElem?_eq_some_iff.mp hx).1
  unfold idxA
  rw [if_pos (by omega), if_pos (by omega)]
  simp
theorem sub_lst0 {H : AH} {a : AV} {r : List AV} {Q : AV → Prop} : wpSub H (.lst (a :: r)) (.int 0) Q ↔ Q a := by
  rw [sub_lst]
  have e : idxA 0 (a :: r).length = some 0 := by
    unfold idxA
    rw [if_pos (by decide), if_pos (by simp only [List.length_cons]; omega)]
    rfl
  rw [e]
  simp
theorem sub_lst1 {H : AH} {a z0 : AV} {r : List AV} {Q : AV → Prop} : wpSub H (.lst (z0 :: a :: r)) (.int 1) Q ↔ Q a := by
  rw [sub_lst]
  have e : idxA 1 (z0 :: a :: r).length = some 1 := by
    unfold idxA
    rw [if_pos (by decide), if_pos (by simp only [List.length_cons]; omega)]
    rfl
  rw [e]
  simp
theorem sub_lst2 {H : AH} {a z0 z1 : AV} {r : List AV} {Q : AV → Prop} : wpSub H (.lst (z0 :: z1 :: a :: r)) (.int 2) Q ↔ Q a := by
  rw [sub_lst]
  have e : idxA 2 (z0 :: z1 :: a :: r).length = some 2 := by
    unfold idxA
    rw [if_pos (by decide), if_pos (by simp only [List.length_cons]; omega)]
    rfl
  rw [e]
  simp
theorem sub_tup0 {H : AH} {a : AV} {r : List AV} {Q : AV → Prop} : wpSub H (.tup (a :: r)) (.int 0) Q ↔ Q a := by
  rw [sub_tup]
  have e : idxA 0 (a :: r).length = some 0 := by
    unfold idxA
    rw [if_pos (by decide), if_pos (by simp only [List.length_cons]; omega)]
    rfl
  rw [e]
  simp
theorem sub_tup1 {H : AH} {a z0 : AV} {r : List AV} {Q : AV → Prop} : wpSub H (.tup (z0 :: a :: r)) (.int 1) Q ↔ Q a := by
  rw [sub_tup]
  have e : idxA 1 (z0 :: a :: r).length = some 1 := by
    unfold idxA
    rw [if_pos (by decide), if_pos (by simp only [List.length_cons]; omega)]
    rfl
  rw [e]
  simp
theorem sub_tup2 {H : AH} {a z0 z1 : AV} {r : List AV} {Q : AV → Prop} : wpSub H (.tup (z0 :: z1 :: a :: r)) (.int 2) Q ↔ Q a := by
  rw [sub_tup]
  have e : idxA 2 (z0 :: z1 :: a :: r).length = some 2 := by
    unfold idxA
    rw [if_pos (by decide), if_pos (by simp only [List.length_cons]; omega)]
    rfl
  rw [e]
  simp
theorem ite_of {c : Prop} [Decidable c] {A B : Prop} (h1 : c → A) (h2 : ¬ c → B) : if c then A else B := by
  split
  · exact h1 (by assumption)
  · exact h2 (by assumption)
theorem chain1 {S : Stat} {d : Nat} {a : AV} {op : CmpOp} {e : IE} {ρ : RE} {H : AH} {Q : AV → AH → Prop} {X : Value → AH → Prop} : wpChain S d a [op] (.cons e .nil) ρ H Q X ↔ wpE S d e ρ H (fun b H₁ => wpCmp H₁ op a b fun c => Q (.bool c) H₁) X := by
  rw [wpChain]
  constructor
  · rintro ⟨op', e, w⟩; cases e; exact w
  · intro w; exact ⟨op, rfl, w⟩
theorem chain2 {S : Stat} {d : Nat} {a : AV} {op : CmpOp} {ops : List CmpOp} {e e' : IE} {r : IEs} {ρ : RE} {H : AH} {Q : AV → AH → Prop} {X : Value → AH → Prop} : wpChain S d a (op :: ops) (.cons e (.cons e' r)) ρ H Q X ↔
    wpE S d e ρ H (fun b H₁ => wpCmp H₁ op a b fun c => if c then wpChain S d b ops (.cons e' r) ρ H₁ Q X else Q (.bool false) H₁) X := by
  rw [wpChain]
  constructor
  · rintro ⟨op', ops', e, w⟩; cases e; exact w
  · intro w; exact ⟨op, ops, rfl, w⟩
theorem lt_int {H : AH} {i j : Int} {Q : Bool → Prop} : wpCmp H .Lt (.int i) (.int j) Q ↔ Q (decide (i < j)) := by
  show (∃ r, _ = some r ∧ Q r) ↔ _
  constructor
  · rintro ⟨r, e, q⟩; cases e; exact q
  · intro q; exact ⟨_, rfl, q⟩
theorem le_int {H : AH} {i j : Int} {Q : Bool → Prop} : wpCmp H .LtE (.int i) (.int j) Q ↔ Q (decide (i ≤ j)) := by
  show (∃ r, _ = some r ∧ Q r) ↔ _
  constructor
  · rintro ⟨r, e, q⟩; cases e; exact q
  · intro q; exact ⟨_, rfl, q⟩
theorem gt_int {H : AH} {i j : Int} {Q : Bool → Prop} : wpCmp H .Gt (.int i) (.int j) Q ↔ Q (decide (j < i)) := by
  show (∃ r, _ = some r ∧ Q r) ↔ _
  constructor
  · rintro ⟨r, e, q⟩; cases e; exact q
  · intro q; exact ⟨_, rfl, q⟩
theorem ge_int {H : AH} {i j : Int} {Q : Bool → Prop} : wpCmp H .GtE (.int i) (.int j) Q ↔ Q (decide (j ≤ i)) := by
  show (∃ r, _ = some r ∧ Q r) ↔ _
  constructor
  · rintro ⟨r, e, q⟩; cases e; exact q
  · intro q; exact ⟨_, rfl, q⟩
theorem lt_str {H : AH} {i j : Str} {Q : Bool → Prop} : wpCmp H .Lt (.str i) (.str j) Q ↔ Q (decide (i.cps.toList < j.cps.toList)) := by
  show (∃ r, _ = some r ∧ Q r) ↔ _
  constructor
  · rintro ⟨r, e, q⟩; cases e; exact q
  · intro q; exact ⟨_, rfl, q⟩
theorem le_str {H : AH} {i j : Str} {Q : Bool → Prop} : wpCmp H .LtE (.str i) (.str j) Q ↔ Q (!decide (j.cps.toList < i.cps.toList)) := by
  show (∃ r, _ = some r ∧ Q r) ↔ _
  constructor
  · rintro ⟨r, e, q⟩; cases e; exact q
  · intro q; exact ⟨_, rfl, q⟩
theorem cmp_eq {H : AH} {a b : AV} {Q : Bool → Prop} : wpCmp H .Eq a b Q ↔ EqOk H a b Q := Iff.rfl
theorem cmp_ne {H : AH} {a b : AV} {Q : Bool → Prop} : wpCmp H .NotEq a b Q ↔ EqOk H a b fun r => Q (!r) := Iff.rfl
theorem bin_add {H : AH} {i j : Int} {Q : AV → Prop} : wpBin H .Add (.int i) (.int j) Q ↔ Q (.int (i + j)) := Iff.rfl
theorem bin_adds {H : AH} {x y : Str} {Q : AV → Prop} : wpBin H .Add (.str x) (.str y) Q ↔ x.length + y.length ≤ sizeLine ∧ Q (.str (x ++ y)) := Iff.rfl
theorem bin_int {H : AH} {op : Operator} {i j : Int} {Q : AV → Prop} (h : op ≠ .Add) : wpBin H op (.int i) (.int j) Q ↔ wpInt op i j Q := by
  have : wpBin H op (.int i) (.int j) Q ↔ ∃ i' j', AV.int i = .int i' ∧ AV.int j = .int j' ∧ wpInt op i' j' Q := by cases op <;> first | exact absurd rfl h | exact Iff.rfl
  rw [this]
  constructor
  · rintro ⟨_, _, e1, e2, h⟩; cases e1; cases e2; exact h
  · exact fun h => ⟨_, _, rfl, rfl, h⟩
theorem bin_mul {H : AH} {i j : Int} {Q : AV → Prop} : wpBin H .Mult (.int i) (.int j) Q ↔ IntMulOk i j ∧ Q (.int (i * j)) := bin_int (by decide)
theorem bin_div {H : AH} {i j : Int} {Q : AV → Prop} : wpBin H .FloorDiv (.int i) (.int j) Q ↔ 0 < j ∧ j < 1073741824 ∧ Q (.int (i / j)) := bin_int (by decide)
theorem bin_mod {H : AH} {i j : Int} {Q : AV → Prop} : wpBin H .Mod (.int i) (.int j) Q ↔ 0 < j ∧ j < 1073741824 ∧ Q (.int (i % j)) := bin_int (by decide)
theorem len_ne : ("len" : Str) ≠ "range" ∧ ("len" : Str) ≠ "list" ∧ ("range" : Str) ≠ "len" ∧ ("range" : Str) ≠ "list" := by decide
theorem bi_len_iff {a : AV} {H : AH} {Q : AV → AH → Prop} : wpBi "len" [a] H Q ↔ ∃ n, lenA H a = some n ∧ n < 2 ^ 62 ∧ Q (.int n) H := by
  constructor
  · rintro (⟨_, a', n, e, h⟩ | ⟨e, _⟩ | ⟨e, _⟩)
    · cases e; exact ⟨n, h⟩
    · exact absurd e len_ne.1
    · exact absurd e len_ne.2.1
  · rintro ⟨n, h⟩
    exact .inl ⟨rfl, a, n, rfl, h⟩
theorem bi_range_iff {n : Int} {H : AH} {Q : AV → AH → Prop} : wpBi "range" [.int n] H Q ↔ Q (.rng 0 n) H := by
  constructor
  · rintro (⟨e, _⟩ | ⟨_, n', e, h⟩ | ⟨e, _⟩)
    · exact absurd e len_ne.2.2.1
    · cases e; exact h
    · exact absurd e len_ne.2.2.2
  · exact fun h => .inr (.inl ⟨rfl, n, rfl, h⟩)
theorem optI_int {k : Int} (h1 : -(2 ^ 62 : Int) < k) (h2 : k < 2 ^ 62) : optI (.int k) = some (some k) := if_pos ⟨h1, h2⟩
noncomputable def prm_law_cell : List Str := ["_law_script", "_law_k"]
noncomputable def ns_law_cell : List (Option Str) := [some "_law_script", some "_law_k"]
noncomputable def ir_law_cell : ISs :=
  (.cons (.ret (.sub (.bin .Add (.slc (.var 0) (.var 1) (.bin .Add (.var 1) (.cst (.int 1))) (.cst .none)) (.lst false (.cons (.cst (.int 0)) .nil))) (.cst (.int 0)))) .nil)
noncomputable def iL (xs : List Int) : AV := .lst (xs.map .int)
noncomputable def cellN (xs : List Int) (k : Nat) : Int := xs.getD k 0
noncomputable def cell (xs : List Int) (k : Int) : Int := xs.getD k.toNat 0
theorem clip_nat (k n d : Nat) : clip (some (k : Int)) n d = min k n := by
  unfold clip
  simp only
  rw [if_neg (by omega)]
  split <;> omega
theorem cut_nat {α : Type} (xs : List α) (k l : Nat) : cut xs (some (k : Int)) (some (l : Int)) = (xs.drop k).take (l - k) := by
  unfold cut
  rw [clip_nat, clip_nat]
  by_cases h : k ≤ xs.length
  · rw [Nat.min_eq_left h]
    by_cases h' : l ≤ xs.length
    · rw [Nat.min_eq_left h']
    · rw [Nat.min_eq_right (by omega)]
      rw [List.take_of_length_le (by rw [List.length_drop]; omega), List.take_of_length_le (by rw [List.length_drop]; omega)]
  · have e : min k xs.length = xs.length := by omega
    rw [e, List.drop_of_length_le (Nat.le_refl _), List.drop_of_length_le (by omega)]
    simp
theorem cut_one (xs : List Int) (k : Nat) : ((cut (xs.map AV.int) (some (k : Int)) (some ((k : Int) + 1))) ++ [AV.int 0])[0]? = some (.int (cellN xs k)) := by
  have e : (k : Int) + 1 = ((k + 1 : Nat) : Int) := by omega
  rw [e, cut_nat]
  have e2 : k + 1 - k = 1 := by omega
  rw [e2]
  unfold cellN
  by_cases h : k < xs.length
  · have hd : List.drop k (xs.map AV.int) = AV.int xs[k] :: List.drop (k + 1) (xs.map AV.int) := by
      rw [List.drop_eq_getElem_cons (by simpa using h)]; simp
    rw [hd]
    simp [List.getD_eq_getElem?_getD, h]
  · rw [List.drop_of_length_le (by simp; omega)]
    have : xs[k]? = none := by simp; omega
    simp [List.getD_eq_getElem?_getD, this]
theorem cell_call {S : Stat} {d : Nat} {f : Addr} (F : FnIs S "_law_cell" prm_law_cell ns_law_cell ir_law_cell) (hf : S.fn "_law_cell" = some f) (hd : 0 < d) {xs : List Int} (hx : xs.length ≤ 63) {k : Int} (hk0 : 0 ≤ k) (hk : k < 1000000) {H : AH} {Q : AV → AH → Prop} {X : Value → AH → Prop} (q : Q (.int (cell xs k)) H) :
    CallOK S d f [iL xs, .int k] H Q X := by
  have hc := F.chk hf
  refine call_ok hc hd rfl ?_
  obtain ⟨k, rfl⟩ := Int.eq_ofNat_of_zero_le hk0
  have q : Q (.int (cellN xs k)) H := q
  have hcut := cut_one xs k
  have hlen : (cut (xs.map AV.int) (some (k : Int)) (some ((k : Int) + 1))).length ≤ 63 := by
    unfold cut
    rw [List.length_take, List.length_drop, List.length_map]; omega
  have hsz : 100 ≤ sizeLine := by decide
  simp only [ir_law_cell, wpSs, wpS, wpE, wpEs, rho0, iL, ns_law_cell, wpBin]
  refine ⟨_, rfl, _, rfl, _, rfl, .inl ⟨_, some (k : Int), some ((k : Int) + 1), rfl, ?_, ?_, rfl, ?_, ⟨by decide, _, _, rfl, rfl, ?_, ?_⟩⟩⟩
  · exact optI_int (by omega) (by omega)
  · exact optI_int (by omega) (by omega)
  · rw [List.length_map]; omega
  · simp only [List.length_cons, List.length_nil]; omega
  · exact sub_lst_lit (k := 0) (by decide) hcut q
section
variable {S : Stat} {d : Nat} {ρ : RE} {H : AH} {Q : AF → RE → AH → Prop} {X : Value → RE → AH → Prop} {r : ISs}
theorem run_assign {i : Nat} {e : IE} (w : wpE S d e ρ H (fun a H₁ => wpSs S d r (ρ.set i (some a)) H₁ Q X) fun c H₁ => X c ρ H₁) : wpSs S d (.cons (.assign i e) r) ρ H Q X := by
  unfold wpSs wpS; exact w
theorem run_expr {e : IE} (w : wpE S d e ρ H (fun a H₁ => wpSs S d r ρ H₁ Q X) fun c H₁ => X c ρ H₁) : wpSs S d (.cons (.expr e) r) ρ H Q X := by
  unfold wpSs wpS; exact w
theorem run_ret {e : IE} (w : wpE S d e ρ H (fun a H₁ => Q (.ret a) ρ H₁) fun c H₁ => X c ρ H₁) : wpSs S d (.cons (.ret e) r) ρ H Q X := by
  unfold wpSs wpS; exact w
theorem run_nil (w : Q .next ρ H) : wpSs S d .nil ρ H Q X := by
  unfold wpSs; exact w
theorem run_if {t : IE} {b o : ISs} (w : wpE S d t ρ H (fun a H₁ => ∃ c, a = .bool c ∧
      if c then wpSs S d b ρ H₁ (fun fl ρ₁ H₁ => match fl with | .next => wpSs S d r ρ₁ H₁ Q X | fl => Q fl ρ₁ H₁) X
      else wpSs S d o ρ H₁ (fun fl ρ₁ H₁ => match fl with | .next => wpSs S d r ρ₁ H₁ Q X | fl => Q fl ρ₁ H₁) X) fun c H₁ => X c ρ H₁) : wpSs S d (.cons (.ifs t b o) r) ρ H Q X := by
  rw [wpSs, wpS]; exact w
end
end Mine
namespace Mine
theorem upd_upd {H : AH} {D : Addr} {a b : AO} : upd (upd H D a) D b = upd H D b := by
  funext x; unfold upd; split <;> rfl
theorem upd_self {H : AH} {D : Addr} {a : AO} : upd H D a D = some a := if_pos rfl
theorem upd_ne {H : AH} {D r : Addr} {a : AO} (h : r ≠ D) : upd H D a r = H r := if_neg h
theorem none_of {H : AH} {D : Addr} (h : ¬ foot H D) : H D = none := by
  cases e : H D with
  | none => rfl
  | some a => exact absurd (by unfold foot; rw [e]; exact fun q => nomatch q) h
theorem del_upd {H : AH} {D : Addr} {a : AO} (h : ¬ foot H D) : del (upd H D a) D = H := by
  funext x
  unfold del upd
  split
  · rename_i q; rw [q, none_of h]
  · rfl
theorem forL_inv {same : AH → Prop} {B : AV → RE → AH → (AF → RE → AH → Prop) → Prop} {Q : AF → RE → AH → Prop} (I : List AV → RE → AH → Prop) (hs : ∀ xs ρ H, I xs ρ H → same H)
    (step : ∀ v xs ρ H, I (v :: xs) ρ H → ∀ K : RE → AH → Prop, (∀ ρ' H', I xs ρ' H' → K ρ' H') → B v ρ H fun fl ρ₁ H₁ => match fl with | .next => K ρ₁ H₁ | .cont => K ρ₁ H₁ | .brk => Q .next ρ₁ H₁ | .ret a => Q (.ret a) ρ₁ H₁)
    (fin : ∀ ρ H, I [] ρ H → Q .next ρ H) : ∀ (xs : List AV) (ρ : RE) (H : AH), I xs ρ H → wpForL same B xs ρ H Q
  | [], ρ, H, h => ⟨hs _ _ _ h, fin ρ H h⟩
  | v :: xs, ρ, H, h => ⟨hs _ _ _ h, step v xs ρ H h _ fun ρ' H' h' => forL_inv I hs step fin xs ρ' H' h'⟩
theorem comp_go {D : Addr} {same : AH → Prop} {T : AV → AH → (Bool → AH → Prop) → Prop} {E : AV → AH → (AV → AH → Prop) → Prop} {H₀ : AH} {Q : List AV → AH → Prop} (t : AV → Bool) (f : AV → AV) (hs : ∀ ys, same (upd H₀ D (.lst ys))) :
    ∀ (xs acc : List AV), (∀ v ∈ xs, ∀ ys K, K (t v) (upd H₀ D (.lst ys)) → T v (upd H₀ D (.lst ys)) K) → (∀ v ∈ xs, t v = true → ∀ ys K, K (f v) (upd H₀ D (.lst ys)) → E v (upd H₀ D (.lst ys)) K) → acc.length + xs.length ≤ sizeLine →
      Q (acc ++ (xs.filter t).map f) (upd H₀ D (.lst (acc ++ (xs.filter t).map f))) → wpCompL D same T E xs acc (upd H₀ D (.lst acc)) Q
  | [], acc, hT, hE, hl, q => by
    simp only [List.filter_nil, List.map_nil, List.append_nil] at q
    exact ⟨hs _, upd_self, q⟩
  | v :: xs, acc, hT, hE, hl, q => by
    rw [List.length_cons] at hl
    refine ⟨hs _, hT v (by simp) _ _ ?_⟩
    by_cases ht : t v = true
    · rw [if_pos ht]
      refine hE v (by simp) ht _ _ ⟨upd_self, by omega, ?_⟩
      rw [upd_upd]
      refine comp_go t f hs xs (acc ++ [f v]) (fun w hw => hT w (by simp [hw])) (fun w hw => hE w (by simp [hw])) (by simp; omega) ?_
      rw [List.filter_cons_of_pos ht] at q
      simpa using q
    · rw [if_neg ht]
      refine comp_go t f hs xs acc (fun w hw => hT w (by simp [hw])) (fun w hw => hE w (by simp [hw])) (by omega) ?_
      rw [List.filter_cons_of_neg ht] at q
      exact q
theorem comp_pure {D : Addr} {same : AH → Prop} {T : AV → AH → (Bool → AH → Prop) → Prop} {E : AV → AH → (AV → AH → Prop) → Prop} {H₀ : AH} {Q : List AV → AH → Prop} {xs : List AV} (f : AV → AV) (hs : ∀ ys, same (upd H₀ D (.lst ys)))
    (hT : ∀ v ∈ xs, ∀ ys K, K true (upd H₀ D (.lst ys)) → T v (upd H₀ D (.lst ys)) K) (hE : ∀ v ∈ xs, ∀ ys K, K (f v) (upd H₀ D (.lst ys)) → E v (upd H₀ D (.lst ys)) K) (hl : xs.length ≤ sizeLine)
    (q : Q (xs.map f) (upd H₀ D (.lst (xs.map f)))) : wpCompL D same T E xs [] (upd H₀ D (.lst [])) Q := by
  refine comp_go (fun _ => true) f hs xs [] hT (fun v hv _ => hE v hv) (by simpa using hl) ?_
  have e : xs.filter (fun _ => true) = xs := List.filter_eq_self.mpr fun _ _ => rfl
  rw [e]
  exact q
section
variable {S : Stat} {d : Nat} {ρ : RE} {H : AH} {Q : AF → RE → AH → Prop} {X : Value → RE → AH → Prop} {r : ISs}
theorem run_for {i : Nat} {it : IE} {b : ISs} (w : wpE S d it ρ H (fun a H₁ => ∃ xs same, iterOf H₁ a = some (xs, same) ∧ wpForL same (fun v ρ' H' Q' => wpSs S d b (ρ'.set i (some v)) H' Q' fun _ _ _ => False) xs ρ H₁
      (fun fl ρ₁ H₁ => match fl with | .next => wpSs S d r ρ₁ H₁ Q X | fl => Q fl ρ₁ H₁)) fun c H₁ => X c ρ H₁) : wpSs S d (.cons (.for_ i it b) r) ρ H Q X := by
  rw [wpSs, wpS]; exact w
end
noncomputable def one (c : Nat) : AV := .str ⟨#[c]⟩
theorem strsOf_one : ∀ cs : List Nat, strsOf (cs.map one) = some (cs.map fun c => (⟨#[c]⟩ : Str))
  | [] => rfl
  | c :: cs => by
    show (strsOf (cs.map one)).map (_ :: ·) = _
    rw [strsOf_one cs]; rfl
theorem fold_ones : ∀ (cs : List Nat) (a : Array Nat), (cs.map fun c => (⟨#[c]⟩ : Str)).foldl (fun acc p => acc ++ (Str.ofString "").cps ++ p.cps) a = a ++ cs.toArray
  | [], a => by simp
  | c :: cs, a => by
    have e : (Str.ofString "").cps = #[] := by decide
    rw [List.map_cons, List.foldl_cons, fold_ones cs, e]
    simp
theorem join_one (cs : List Nat) : Txt.join (Str.ofString "") (cs.map fun c => (⟨#[c]⟩ : Str)) = ⟨cs.toArray⟩ := by
  unfold Txt.join Builtin.Str.glued
  congr 1
  cases cs with
  | nil => decide
  | cons c cs =>
    show ((cs.map fun c => (⟨#[c]⟩ : Str)).foldl (fun acc p => acc ++ (Str.ofString "").cps ++ p.cps) #[c]) = _
    rw [fold_ones]
    simp
theorem joinOk_one {cs : List Nat} (h : cs.length ≤ 100000) : JoinOk (Str.ofString "") (cs.map fun c => (⟨#[c]⟩ : Str)) = true := by
  refine joinOk_of_weight ?_ (by decide)
  have : ∀ cs : List Nat, ((cs.map fun c => (⟨#[c]⟩ : Str)).map (·.length)).sum = cs.length := by
    intro cs
    induction cs with
    | nil => rfl
    | cons c cs ih => rw [List.map_cons, List.map_cons, List.sum_cons, ih, List.length_cons]; show 1 + _ = _; omega
  rw [this, List.length_map]; omega
noncomputable def BiFin (o : AV) (m : Str) (id : String) (Q : AV → AH → Prop) (as : List AV) (H : AH) : Prop := biM o m H = some id ∧ wpMethB o m as H Q
theorem meth_bi {H : AH} {o : AV} {m : Str} {id : String} {W : (List AV → AH → Prop) → Prop} {Q : AV → AH → Prop} (h : biM o m H = some id) (w : W (BiFin o m id Q)) : wpMeth H o m W Q := ⟨id, h, w⟩
theorem bi_join {x : Str} {H : AH} : biM (.str x) "join" H = some "str.join" := by simp [biM]
theorem join_fin {x : Str} {a : AV} {xs : List AV} {ys : List Str} {H : AH} {Q : AV → AH → Prop} (h1 : lsOf H a = some xs) (h2 : strsOf xs = some ys) (h3 : JoinOk x ys = true) (q : Q (.str (Txt.join x ys)) H) : BiFin (.str x) "join" "str.join" Q [a] H :=
  ⟨bi_join, .inr (.inl ⟨rfl, x, a, xs, ys, rfl, rfl, h1, h2, h3, q⟩)⟩
theorem sub_str {H : AH} {x : Str} {k : Nat} {c : Nat} {Q : AV → Prop} (hk : k < 2 ^ 62) (hc : x.cps[k]? = some c) (q : Q (one c)) : wpSub H (.str x) (.int k) Q := by
  have hl : k < x.length := (Array.getElem?_eq_some_iff.mp hc).1
  refine .inr (.inr ⟨x, k, k, c, rfl, rfl, by omega, by omega, ?_, hc, q⟩)
  unfold idxA
  rw [if_pos (by omega), if_pos (by omega)]
  simp
noncomputable def okc (c : Nat) : Bool := decide (33 ≤ c) && decide (c ≤ 126)
noncomputable def nameOK (x : Str) : Bool := decide (1 ≤ x.length) && decide (x.length ≤ 20) && x.cps.toList.all okc
noncomputable def prm_is_name : List Str := ["text"]
noncomputable def ns_is_name : List (Option Str) := [some "text", some "sign"]
noncomputable def ir_is_name : ISs :=
  (.cons (.ifs (.nt (.cmp (.cst (.int 1)) [.LtE, .LtE] (.cons (.bi "len" (.cons (.var 0) .nil)) (.cons (.gv "LONGEST") .nil)))) (.cons (.ret (.cst (.bool false))) .nil) .nil)
  (.cons (.for_ 1 (.var 0) (.cons (.ifs (.nt (.cmp (.cst (.str "!")) [.LtE, .LtE] (.cons (.var 1) (.cons (.cst (.str "~")) .nil)))) (.cons (.ret (.cst (.bool false))) .nil) .nil) .nil))
  (.cons (.ret (.cst (.bool true))) .nil)))
structure NameF (S : Stat) : Prop where
  is_name : FnIs S "is_name" prm_is_name ns_is_name ir_is_name
  nslen : nsIn S.K mainGlobals "len" = some none
  longest : S.gint "LONGEST" = some 20
theorem lt_ones {a b : Nat} : ([a] < [b]) ↔ a < b := by
  constructor
  · intro q
    cases q with
    | rel q => exact q
    | cons q => cases q
  · exact fun h => List.Lex.rel h
theorem bang : (("!" : Str)) = ⟨#[33]⟩ := by decide
theorem tilde : (("~" : Str)) = ⟨#[126]⟩ := by decide
theorem isname_call {S : Stat} {d : Nat} {f : Addr} (F : NameF S) (hf : S.fn "is_name" = some f) (hd : 0 < d) {x : Str} (hx : x.length ≤ 1000000) {H : AH} {Q : AV → AH → Prop} {X : Value → AH → Prop} (q : Q (.bool (nameOK x)) H) : CallOK S d f [.str x] H Q X := by
  refine call_ok (F.is_name.chk hf) hd rfl ?_
  refine run_if ?_
  simp only [wpE, wpEs, chain1, chain2, le_int, bi_len_iff, F.nslen, F.longest, lenA, rho0, ns_is_name, Back, List.map_cons, List.map_nil, List.cons_append, List.nil_append, List.getElem?_cons_zero, Option.some.injEq, exists_eq_left', AV.bool.injEq, true_and, decide_eq_true_eq]
  refine ⟨by omega, ite_of (fun h1 => ?_) fun h1 => ?_⟩
  · by_cases h2 : (x.length : Int) ≤ 20
    · rw [decide_eq_true h2, if_neg (by decide)]
      refine run_nil (run_for ?_)
      simp only [wpE, List.getElem?_cons_zero, Option.some.injEq, exists_eq_left']
      refine ⟨_, _, rfl, ?_⟩
      refine forL_inv (fun xs ρ H' => H' = H ∧ (∃ o, ρ = [some (.str x), o]) ∧ ∃ cs : List Nat, xs = cs.map one ∧ nameOK x = cs.all okc) (fun _ _ _ _ => trivial) ?_ ?_ _ _ _ ⟨rfl, ⟨_, rfl⟩, _, rfl, ?_⟩
      · rintro v xs ρ H' ⟨rfl, ⟨o, rfl⟩, cs, e, hn⟩ K hK
        rcases cs with _ | ⟨c, cs⟩
        · cases e
        simp only [List.map_cons, List.cons.injEq] at e
        obtain ⟨rfl, rfl⟩ := e
        refine run_if ?_
        simp only [wpE, wpEs, chain1, chain2, le_str, one, bang, tilde, lt_ones, List.set_cons_succ, List.set_cons_zero, List.getElem?_cons_succ, List.getElem?_cons_zero, Option.some.injEq, exists_eq_left', AV.bool.injEq]
        have ek : ∀ {p : Prop} [Decidable p], (!decide p) = true ↔ ¬ p := by intro p _; simp
        refine ite_of (fun g1 => ?_) fun g1 => ?_
        · rw [ek] at g1
          by_cases g2 : 126 < c
          · rw [decide_eq_true g2, if_pos (by decide)]
            refine run_ret ?_
            have : nameOK x = false := by
              rw [hn, List.all_cons]
              have : okc c = false := by unfold okc; simp; omega
              rw [this]; rfl
            rw [this] at q
            exact q
          · rw [decide_eq_false g2, if_neg (by decide)]
            refine run_nil (run_nil (hK _ _ ⟨rfl, ⟨_, rfl⟩, cs, rfl, ?_⟩))
            rw [hn, List.all_cons]
            have : okc c = true := by unfold okc; simp; omega
            rw [this]; rfl
        · rw [ek] at g1
          rw [if_pos (by decide)]
          refine run_ret ?_
          have : nameOK x = false := by
            rw [hn, List.all_cons]
            have : okc c = false := by unfold okc; simp; omega
            rw [this]; rfl
          rw [this] at q
          exact q
      · rintro ρ H' ⟨rfl, ⟨o, rfl⟩, cs, e, hn⟩
        have : cs = [] := by cases cs with | nil => rfl | cons _ _ => cases e
        subst this
        refine run_ret ?_
        rw [hn] at q
        exact q
      · unfold nameOK
        have a1 : 1 ≤ x.length := by omega
        have a2 : x.length ≤ 20 := by omega
        rw [decide_eq_true a1, decide_eq_true a2]; rfl
    · rw [decide_eq_false h2, if_pos (by decide)]
      refine run_ret ?_
      have : nameOK x = false := by
        unfold nameOK
        have a2 : ¬ x.length ≤ 20 := by omega
        rw [decide_eq_false a2]; simp
      rw [this] at q
      exact q
  · rw [if_pos (by decide)]
    refine run_ret ?_
    have : nameOK x = false := by
      unfold nameOK
      have a2 : ¬ 1 ≤ x.length := by omega
      rw [decide_eq_false a2]; simp
    rw [this] at q
    exact q
noncomputable def sgc (i : Int) : Nat := if (i % 93).toNat < 4 then (i % 93).toNat + 33 else (i % 93).toNat + 34
theorem sgc_ok (i : Int) : okc (sgc i) = true := by
  unfold okc sgc
  split <;> simp <;> omega
noncomputable def prm_law_sign : List Str := ["_law_cell_here"]
noncomputable def ns_law_sign : List (Option Str) := [some "_law_cell_here", some "_law_small", some "_law_great"]
noncomputable def ir_law_sign : ISs :=
  (.cons (.assign 1 (.cst (.str "abcdefghijklmnopqrstuvwxyz{|}~")))
  (.cons (.assign 2 (.cst (.str "@ABCDEFGHIJKLMNOPQRSTUVWXYZ[\\]^_`")))
  (.cons (.ret (.sub (.bin .Add (.bin .Add (.cst (.str "!\"#$&'()*+,-./0123456789:;<=>?")) (.var 2)) (.var 1)) (.bin .Mod (.var 0) (.cst (.int 93))))) .nil)))
theorem alpha_at : ∀ n < 93, ((("!\"#$&'()*+,-./0123456789:;<=>?" : Str) ++ ("@ABCDEFGHIJKLMNOPQRSTUVWXYZ[\\]^_`" : Str)) ++ ("abcdefghijklmnopqrstuvwxyz{|}~" : Str)).cps[n]? = some (if n < 4 then n + 33 else n + 34) := by
  decide +kernel
theorem sign_call {S : Stat} {d : Nat} {f : Addr} (F : FnIs S "_law_sign" prm_law_sign ns_law_sign ir_law_sign) (hf : S.fn "_law_sign" = some f) (hd : 0 < d) {i : Int} {H : AH} {Q : AV → AH → Prop} {X : Value → AH → Prop} (q : Q (one (sgc i)) H) : CallOK S d f [.int i] H Q X := by
  refine call_ok (F.chk hf) hd rfl ?_
  refine run_assign ?_
  simp only [wpE, rho0, ns_law_sign, Back]
  refine run_assign ?_
  simp only [wpE]
  refine run_ret ?_
  have hsz : 1000 ≤ sizeLine := by decide
  have l1 : (("!\"#$&'()*+,-./0123456789:;<=>?" : Str)).length = 30 := by decide +kernel
  have l2 : (("@ABCDEFGHIJKLMNOPQRSTUVWXYZ[\\]^_`" : Str)).length = 33 := by decide +kernel
  have l3 : (("abcdefghijklmnopqrstuvwxyz{|}~" : Str)).length = 30 := by decide +kernel
  simp only [wpE, bin_adds, bin_mod, rho0, ns_law_sign, Back, List.map_cons, List.map_nil, List.cons_append, List.nil_append, List.set_cons_succ, List.set_cons_zero, List.length_cons, List.length_nil, List.replicate, List.getElem?_cons_succ, List.getElem?_cons_zero, Option.some.injEq, exists_eq_left', Str.length_append, l1, l2, l3]
  refine ⟨by omega, by omega, by decide, by decide, ?_⟩
  have e : i % 93 = ((i % 93).toNat : Int) := by omega
  have hlt : (i % 93).toNat < 93 := by omega
  rw [e]
  exact sub_str (by omega) (alpha_at _ hlt) q
end Mine
namespace Mine
theorem str_ext {x y : Str} (h : x.cps.toList = y.cps.toList) : x = y := by
  cases x; cases y; congr 1; exact Array.toList_inj.mp h
theorem app_list (x y : Str) : (x ++ y).cps.toList = x.cps.toList ++ y.cps.toList := by
  rw [Str.cps_append, Array.toList_append]
noncomputable def joinL (c : Nat) : List (List Nat) → List Nat
  | [] => []
  | [x] => x
  | x :: y :: r => x ++ c :: joinL c (y :: r)
theorem join_list (c : Nat) : ∀ ps : List Str, (Str.join ⟨#[c]⟩ ps).cps.toList = joinL c (ps.map fun p => p.cps.toList)
  | [] => by rfl
  | [x] => by rfl
  | x :: y :: r => by
    have ih := join_list c (y :: r)
    show (x ++ (⟨#[c]⟩ : Str) ++ Str.join ⟨#[c]⟩ (y :: r)).cps.toList = _
    rw [app_list, app_list, ih]
    simp [joinL]
theorem cut_inj {c : Nat} : ∀ {p q a b : List Nat}, c ∉ p → c ∉ q → p ++ c :: a = q ++ c :: b → p = q ∧ a = b
  | [], [], a, b, _, _, h => by simp at h; exact ⟨rfl, h⟩
  | [], y :: q, a, b, _, hq, h => by
    simp only [List.nil_append, List.cons_append, List.cons.injEq] at h
    exact absurd (by rw [h.1]; simp) hq
  | x :: p, [], a, b, hp, _, h => by
    simp only [List.nil_append, List.cons_append, List.cons.injEq] at h
    exact absurd (by rw [h.1]; simp) hp
  | x :: p, y :: q, a, b, hp, hq, h => by
    simp only [List.cons_append, List.cons.injEq] at h
    obtain ⟨rfl, h⟩ := h
    obtain ⟨rfl, rfl⟩ := cut_inj (fun z => hp (by simp [z])) (fun z => hq (by simp [z])) h
    exact ⟨rfl, rfl⟩
theorem joinL_inj {c : Nat} : ∀ {ps qs : List (List Nat)}, ps ≠ [] → qs ≠ [] → (∀ p ∈ ps, c ∉ p) → (∀ q ∈ qs, c ∉ q) → joinL c ps = joinL c qs → ps = qs
  | [], _, h, _, _, _, _ => absurd rfl h
  | _ :: _, [], _, h, _, _, _ => absurd rfl h
  | [p], [q], _, _, _, _, h => by simp only [joinL] at h; rw [h]
  | [p], q :: q' :: s, _, _, hp, _, h => by
    simp only [joinL] at h
    exact absurd (by rw [h]; simp) (hp p (by simp))
  | p :: p' :: r, [q], _, _, _, hq, h => by
    simp only [joinL] at h
    exact absurd (by rw [← h]; simp) (hq q (by simp))
  | p :: p' :: r, q :: q' :: s, _, _, hp, hq, h => by
    simp only [joinL] at h
    obtain ⟨e, h'⟩ := cut_inj (hp p (by simp)) (hq q (by simp)) h
    rw [e, joinL_inj (by simp) (by simp) (fun x hx => hp x (List.mem_cons_of_mem _ hx)) (fun x hx => hq x (List.mem_cons_of_mem _ hx)) h']
theorem split_ne (x y : Str) : Txt.split x y ≠ [] := by
  unfold Txt.split
  split
  · simp
  split
  · simp
  · intro h
    have := congrArg List.length h
    rw [length_partsBetween] at this
    simp at this
theorem split_eq {c : Nat} {x : Str} {ps : List Str} (hne : ps ≠ []) (hf : ∀ p ∈ ps, c ∉ p.cps.toList) (h : x.cps.toList = joinL c (ps.map fun p => p.cps.toList)) : Txt.split x ⟨#[c]⟩ = ps := by
  have e1 := StrLaws.join_split x ⟨#[c]⟩
  have e2 : joinL c ((Txt.split x ⟨#[c]⟩).map fun p => p.cps.toList) = joinL c (ps.map fun p => p.cps.toList) := by
    rw [← join_list, e1, h]
  have e3 := joinL_inj (by simpa using split_ne x ⟨#[c]⟩) (by simpa using hne) (by
    intro p hp
    simp only [List.mem_map] at hp
    obtain ⟨q, hq, rfl⟩ := hp
    exact StrLaws.split_free x c q hq) (by
    intro p hp
    simp only [List.mem_map] at hp
    obtain ⟨q, hq, rfl⟩ := hp
    exact hf q hq) e2
  have inj : ∀ {l₁ l₂ : List Str}, (l₁.map fun p => p.cps.toList) = (l₂.map fun p => p.cps.toList) → l₁ = l₂ := by
    intro l₁
    induction l₁ with
    | nil => intro l₂ h; cases l₂ with | nil => rfl | cons _ _ => cases h
    | cons a l ih =>
      intro l₂ h
      cases l₂ with
      | nil => cases h
      | cons b m =>
        simp only [List.map_cons, List.cons.injEq] at h
        rw [str_ext h.1, ih h.2]
  exact inj e3
theorem join0_list : ∀ ps : List Str, (Txt.join (Str.ofString "") ps).cps.toList = (ps.map fun p => p.cps.toList).flatten := by
  intro ps
  show (Builtin.Str.glued (Str.ofString "") ps).cps.toList = _
  rw [StrLaws.glued_eq_join]
  have z : (Str.ofString "").cps.toList = [] := by decide
  have : ∀ ps : List Str, (Str.join (Str.ofString "") ps).cps.toList = (ps.map fun p => p.cps.toList).flatten := by
    intro ps
    induction ps with
    | nil => rfl
    | cons x r ih =>
      cases r with
      | nil => simp [Str.join]
      | cons y r =>
        show (x ++ Str.ofString "" ++ Str.join (Str.ofString "") (y :: r)).cps.toList = _
        rw [app_list, app_list, ih, z]
        simp
  exact this ps
theorem blank : ((" " : Str)) = ⟨#[32]⟩ := by decide
theorem feed : (("\n" : Str)) = ⟨#[10]⟩ := by decide
theorem nameOK_len {x : Str} (h : nameOK x = true) : 1 ≤ x.length ∧ x.length ≤ 20 := by
  unfold nameOK at h
  simp only [Bool.and_eq_true, decide_eq_true_eq] at h
  exact h.1
theorem nameOK_all {x : Str} (h : nameOK x = true) : ∀ c ∈ x.cps.toList, 33 ≤ c ∧ c ≤ 126 := by
  unfold nameOK at h
  simp only [Bool.and_eq_true, decide_eq_true_eq, List.all_eq_true] at h
  intro c hc
  have := h.2 c hc
  unfold okc at this
  simpa using this
abbrev Row := Str × Str × Str
noncomputable def Row.ok (r : Row) : Prop := nameOK r.1 = true ∧ nameOK r.2.1 = true ∧ nameOK r.2.2 = true
noncomputable def rowAV (r : Row) : AV := .tup [.str r.1, .str r.2.1, .str r.2.2]
noncomputable def lineL (r : Row) : List Nat := r.1.cps.toList ++ 32 :: (r.2.1.cps.toList ++ 32 :: r.2.2.cps.toList)
noncomputable def textL (rows : List Row) : List Nat := (rows.map fun r => lineL r ++ [10]).flatten
noncomputable def textS (rows : List Row) : Str := ⟨(textL rows).toArray⟩
noncomputable def lineS (r : Row) : Str := ⟨(lineL r).toArray⟩
theorem len_list (x : Str) : x.cps.toList.length = x.length := by show _ = x.cps.size; simp
theorem lineL_len {r : Row} (h : r.ok) : (lineL r).length ≤ 62 := by
  have h1 := (nameOK_len h.1).2
  have h2 := (nameOK_len h.2.1).2
  have h3 := (nameOK_len h.2.2).2
  unfold lineL
  simp only [List.length_append, List.length_cons, len_list]
  omega
theorem textL_len : ∀ {rows : List Row}, (∀ r ∈ rows, r.ok) → (textL rows).length ≤ 63 * rows.length
  | [], _ => by simp [textL]
  | r :: rows, h => by
    have ih := textL_len (rows := rows) fun r hr => h r (by simp [hr])
    have := lineL_len (h r (by simp))
    unfold textL at ih ⊢
    simp only [List.map_cons, List.flatten_cons, List.length_append, List.length_cons, List.length_nil]
    omega
theorem textL_join : ∀ {rows : List Row}, rows ≠ [] → textL rows = joinL 10 (rows.map lineL) ++ [10]
  | [], h => absurd rfl h
  | [r], _ => by simp [textL, joinL]
  | r :: s :: rows, _ => by
    have ih := textL_join (rows := s :: rows) (by simp)
    have : textL (r :: s :: rows) = (lineL r ++ [10]) ++ textL (s :: rows) := by simp [textL]
    rw [this, ih]
    simp [joinL]
theorem lineL_free {r : Row} (h : r.ok) : 10 ∉ lineL r := by
  unfold lineL
  simp only [List.mem_append, List.mem_cons]
  rintro (q | q | q | q | q)
  · have := nameOK_all h.1 _ q; omega
  · cases q
  · have := nameOK_all h.2.1 _ q; omega
  · cases q
  · have := nameOK_all h.2.2 _ q; omega
theorem split_line {r : Row} (h : r.ok) : Txt.split (lineS r) ⟨#[32]⟩ = [r.1, r.2.1, r.2.2] := by
  refine split_eq (by simp) ?_ ?_
  · intro p hp hc
    simp only [List.mem_cons, List.not_mem_nil, or_false] at hp
    rcases hp with rfl | rfl | rfl
    · have := nameOK_all h.1 _ hc; omega
    · have := nameOK_all h.2.1 _ hc; omega
    · have := nameOK_all h.2.2 _ hc; omega
  · simp [lineS, lineL, joinL]
theorem split_text {rows : List Row} (hne : rows ≠ []) (h : ∀ r ∈ rows, r.ok) {x : Str} (hx : x.cps.toList ++ [10] = textL rows) : Txt.split x ⟨#[10]⟩ = rows.map lineS := by
  refine split_eq (by simpa using hne) ?_ ?_
  · intro p hp
    simp only [List.mem_map] at hp
    obtain ⟨r, hr, rfl⟩ := hp
    simpa [lineS] using lineL_free (h r hr)
  · rw [textL_join hne] at hx
    have := List.append_cancel_right hx
    rw [this]
    simp [lineS, List.map_map, Function.comp_def]
theorem textS_nil {rows : List Row} : textS rows = (⟨#[]⟩ : Str) ↔ rows = [] := by
  constructor
  · intro h
    cases rows with
    | nil => rfl
    | cons r rows =>
      have : (textL (r :: rows)).toArray = #[] := by unfold textS at h; injection h
      simp [textL] at this
  · rintro rfl; rfl
theorem dens_rows (H : AH) : ∀ rows : List Row, Dens H (rows.map rowAV) (rows.map fun r => .tuple [.str r.1, .str r.2.1, .str r.2.2])
  | [] => .nil
  | r :: rows => .cons (.tup (.cons (.str _) (.cons (.str _) (.cons (.str _) .nil)))) (dens_rows H rows)
theorem eqv_rows : ∀ rows : List Row, PyData.eqvAll (rows.map fun r => .tuple [.str r.1, .str r.2.1, .str r.2.2]) (rows.map fun r => .tuple [.str r.1, .str r.2.1, .str r.2.2]) = true
  | [] => by simp [PyData.eqvAll]
  | r :: rows => by
    have ih := eqv_rows rows
    simp only [List.map_cons, PyData.eqvAll, PyData.eqv, ih]
    simp
theorem depth_rows : ∀ rows : List Row, PyData.depthAll (rows.map fun r => .tuple [.str r.1, .str r.2.1, .str r.2.2]) ≤ 1
  | [] => by simp [PyData.depthAll]
  | r :: rows => by
    have ih := depth_rows rows
    simp only [List.map_cons, PyData.depthAll, PyData.depth]
    omega
theorem eq_rows {H : AH} {a b : AV} {rows : List Row} {Q : Bool → Prop} (ha : lsOf H a = some (rows.map rowAV)) (hb : lsOf H b = some (rows.map rowAV)) (q : Q true) : EqOk H a b Q := by
  have den : ∀ {a : AV}, lsOf H a = some (rows.map rowAV) → Den H a (.list (rows.map fun r => .tuple [.str r.1, .str r.2.1, .str r.2.2])) := by
    intro a ha
    cases a <;> simp only [lsOf, reduceCtorEq] at ha
    · cases ha; exact .lst (dens_rows H rows)
    · split at ha
      · rename_i e; cases ha; exact .ref e (dens_rows H rows)
      · cases ha
  refine ⟨_, _, den ha, den hb, ?_, ?_⟩
  · have := depth_rows rows
    simp only [PyData.depth]
    omega
  · have : PyData.eqv (.list (rows.map fun r => .tuple [.str r.1, .str r.2.1, .str r.2.2])) (.list (rows.map fun r => .tuple [.str r.1, .str r.2.1, .str r.2.2])) = true := by
      simp only [PyData.eqv, eqv_rows]
    rw [this]; exact q
theorem bi_split {x : Str} {H : AH} : biM (.str x) "split" H = some "str.split" := by
  show (if ("split" : Str) = "join" then some "str.join" else if ("split" : Str) = "split" then some "str.split" else none) = _
  rw [if_neg (by decide), if_pos rfl]
theorem split_fin {x y : Str} {H : AH} {Q : AV → AH → Prop} (h1 : 0 < y.length) (h2 : x.length ≤ 100000) (q : Q (.lst ((Txt.split x y).map .str)) H) : BiFin (.str x) "split" "str.split" Q [.str y] H :=
  ⟨bi_split, .inr (.inr ⟨rfl, x, y, rfl, rfl, h1, h2, q⟩)⟩
theorem bi_append {r : Addr} {H : AH} {xs : List AV} (h : H r = some (.lst xs)) : biM (.ref r) "append" H = some "list.append" := by
  show (match H r with | some _ => if ("append" : Str) = "append" then some "list.append" else none | none => none) = _
  rw [h]
  exact if_pos rfl
theorem append_fin {r : Addr} {xs : List AV} {v : AV} {H : AH} {Q : AV → AH → Prop} (h1 : H r = some (.lst xs)) (h2 : xs.length ≤ sizeLine) (q : Q .none (upd H r (.lst (xs ++ [v])))) : BiFin (.ref r) "append" "list.append" Q [v] H :=
  ⟨bi_append h1, .inl ⟨rfl, r, xs, v, rfl, rfl, h1, h2, q⟩⟩
theorem sub_last {H : AH} {x : Str} {c : Nat} {Q : AV → Prop} (hl : x.length ≤ 1000000) (hc : x.cps.toList.getLast? = some c) (q : Q (one c)) : wpSub H (.str x) (.int (-1)) Q := by
  have hn : 0 < x.length := by
    rw [← len_list]
    cases h : x.cps.toList with
    | nil => rw [h] at hc; cases hc
    | cons _ _ => simp
  refine .inr (.inr ⟨x, -1, x.length - 1, c, rfl, rfl, by decide, by decide, ?_, ?_, q⟩)
  · unfold idxA
    rw [if_neg (by decide), if_pos (by omega)]
    congr 1
    omega
  · rw [List.getLast?_eq_getElem?, len_list] at hc
    rw [← Array.getElem?_toList]
    exact hc
theorem cut_init {α : Type} (xs : List α) : cut xs none (some (-1)) = xs.dropLast := by
  unfold cut clip
  simp only [List.drop_zero, Nat.sub_zero]
  rw [List.dropLast_eq_take]
  congr 1
  split
  · split <;> omega
  · omega
theorem slc_init {H : AH} {x : Str} {Q : AV → Prop} (hl : x.length ≤ sizeLine) (q : Q (.str ⟨x.cps.toList.dropLast.toArray⟩)) : wpSlc H (.str x) .none (.int (-1)) .none Q := by
  refine .inr ⟨x, none, some (-1), rfl, rfl, optI_int (by decide) (by decide), rfl, hl, ?_⟩
  rw [cut_init]
  exact q
theorem strsOf_map {α : Type} (g : α → Str) : ∀ l : List α, strsOf (l.map fun a => .str (g a)) = some (l.map g)
  | [] => rfl
  | a :: l => by
    show (strsOf (l.map fun a => .str (g a))).map (_ :: ·) = _
    rw [strsOf_map g l]; rfl
theorem bi_list {H : AH} {a : AV} {xs : List AV} {Q : AV → AH → Prop} (h : lsOf H a = some xs) (hl : xs.length ≤ sizeLine) (q : Q (.lst xs) H) : wpBi "list" [a] H Q :=
  .inr (.inr ⟨rfl, a, xs, rfl, h, hl, q⟩)
theorem ls_ref {H : AH} {r : Addr} {xs : List AV} (h : H r = some (.lst xs)) : lsOf H (.ref r) = some xs := by simp only [lsOf, h]
theorem iter_ref {H : AH} {r : Addr} {xs : List AV} (h : H r = some (.lst xs)) : iterOf H (.ref r) = some (xs, fun H' => H' r = some (.lst xs)) := by simp only [iterOf, h]
end Mine
namespace Mine
noncomputable def prm_shown : List Str := ["rows"]
noncomputable def ns_shown : List (Option Str) := [some "rows", none]
noncomputable def ir_shown : ISs :=
  (.cons (.ret (.meth (.cst (.str "")) "join" (.cons (.comp false 1 (.bin .Add (.bin .Add (.bin .Add (.bin .Add (.bin .Add (.sub (.var 1) (.cst (.int 0))) (.cst (.str " "))) (.sub (.var 1) (.cst (.int 1)))) (.cst (.str " "))) (.sub (.var 1) (.cst (.int 2)))) (.cst (.str "\n"))) (.var 0) (.cst (.bool true))) .nil))) .nil)
noncomputable def prm_read : List Str := ["text"]
noncomputable def ns_read : List (Option Str) := [some "text", some "found", some "line", some "words"]
noncomputable def ir_read : ISs :=
  (.cons (.ifs (.cmp (.var 0) [.Eq] (.cons (.cst (.str "")) .nil)) (.cons (.ret (.lst false .nil)) .nil) .nil)
  (.cons (.ifs (.cmp (.sub (.var 0) (.neg (.cst (.int 1)))) [.NotEq] (.cons (.cst (.str "\n")) .nil)) (.cons (.raise "BadLine" "no line end") .nil) .nil)
  (.cons (.assign 1 (.lst true .nil))
  (.cons (.for_ 2 (.meth (.slc (.var 0) (.cst .none) (.neg (.cst (.int 1))) (.cst .none)) "split" (.cons (.cst (.str "\n")) .nil)) (.cons (.assign 3 (.meth (.var 2) "split" (.cons (.cst (.str " ")) .nil)))
    (.cons (.ifs (.bop false (.cons (.cmp (.bi "len" (.cons (.var 3) .nil)) [.NotEq] (.cons (.cst (.int 3)) .nil)) (.cons (.nt (.call "is_name" (.cons (.sub (.var 3) (.cst (.int 0))) .nil))) (.cons (.nt (.call "is_name" (.cons (.sub (.var 3) (.cst (.int 1))) .nil))) (.cons (.nt (.call "is_name" (.cons (.sub (.var 3) (.cst (.int 2))) .nil))) .nil))))) (.cons (.raise "BadLine" "no row") .nil) .nil)
    (.cons (.expr (.meth (.var 1) "append" (.cons (.tup (.cons (.sub (.var 3) (.cst (.int 0))) (.cons (.sub (.var 3) (.cst (.int 1))) (.cons (.sub (.var 3) (.cst (.int 2))) .nil)))) .nil))) .nil))))
  (.cons (.ret (.var 1)) .nil)))))
noncomputable def prm_law_name_by : List Str := ["_law_place", "_law_cell_here"]
noncomputable def ns_law_name_by : List (Option Str) := [some "_law_place", some "_law_cell_here", some "_law_tail", none]
noncomputable def ir_law_name_by : ISs :=
  (.cons (.assign 2 (.comp false 3 (.call "_law_sign" (.cons (.bin .Add (.bin .FloorDiv (.var 1) (.cst (.int 20))) (.bin .Mult (.bin .Mult (.cst (.int 5)) (.var 3)) (.bin .Mod (.var 1) (.cst (.int 7))))) .nil)) (.bi "range" (.cons (.bin .Mod (.var 1) (.cst (.int 20))) .nil)) (.cst (.bool true))))
  (.cons (.ret (.bin .Add (.meth (.cst (.str "")) "join" (.cons (.var 2) .nil)) (.call "_law_sign" (.cons (.var 0) .nil)))) .nil))
noncomputable def prm_law : List Str := ["_law_script"]
noncomputable def ns_law : List (Option Str) := [some "_law_script", some "_law_size", some "_law_rows", some "_law_text", some "_law_k", some "_law_cell_here", some "_law_row", some "_law_handed", some "_law_found", some "_law_back", none]
noncomputable def ir_law_t7 : ISs :=
  (.cons (.ifs (.bop false (.cons (.nt (.isi (.var 8) ["str"] false)) (.cons (.cmp (.var 8) [.NotEq] (.cons (.var 3) .nil)) (.cons (.cmp (.var 7) [.NotEq] (.cons (.var 2) .nil)) .nil)))) (.cons (.ret (.cst (.bool false))) .nil) .nil)
  (.cons (.assign 9 (.call "read" (.cons (.var 8) .nil)))
  (.cons (.ret (.bop true (.cons (.isi (.var 9) ["list"] false) (.cons (.cmp (.var 9) [.Eq] (.cons (.var 2) .nil)) (.cons (.cmp (.comp false 10 (.cst (.int 1)) (.var 9) (.nt (.isi (.var 10) ["tuple"] false))) [.Eq] (.cons (.lst false .nil) .nil)) .nil))))) .nil)))
noncomputable def ir_law_t5 : ISs :=
  (.cons (.assign 7 (.bi "list" (.cons (.var 2) .nil)))
  (.cons (.assign 8 (.call "shown" (.cons (.var 7) .nil))) ir_law_t7))
noncomputable def ir_law_t2 : ISs :=
  (.cons (.assign 2 (.lst true .nil))
  (.cons (.assign 3 (.cst (.str "")))
  (.cons (.for_ 4 (.bi "range" (.cons (.var 1) .nil)) (.cons (.assign 5 (.bin .Add (.call "_law_cell" (.cons (.var 0) (.cons (.bin .Add (.cst (.int 1)) (.bin .Mod (.var 4) (.cst (.int 20)))) .nil))) (.bin .FloorDiv (.var 4) (.cst (.int 20)))))
    (.cons (.assign 6 (.tup (.cons (.call "_law_name_by" (.cons (.var 5) (.cons (.var 5) .nil))) (.cons (.call "_law_name_by" (.cons (.bin .FloorDiv (.var 5) (.cst (.int 93))) (.cons (.bin .FloorDiv (.var 5) (.cst (.int 7))) .nil))) (.cons (.call "_law_name_by" (.cons (.bin .FloorDiv (.var 5) (.cst (.int 8649))) (.cons (.bin .FloorDiv (.var 5) (.cst (.int 49))) .nil))) .nil)))))
    (.cons (.expr (.meth (.var 2) "append" (.cons (.var 6) .nil)))
    (.cons (.assign 3 (.bin .Add (.bin .Add (.bin .Add (.bin .Add (.bin .Add (.bin .Add (.var 3) (.sub (.var 6) (.cst (.int 0)))) (.cst (.str " "))) (.sub (.var 6) (.cst (.int 1)))) (.cst (.str " "))) (.sub (.var 6) (.cst (.int 2)))) (.cst (.str "\n")))) .nil))))) ir_law_t5)))
noncomputable def ir_law : ISs :=
  (.cons (.assign 1 (.bin .Mod (.call "_law_cell" (.cons (.var 0) (.cons (.cst (.int 0)) .nil))) (.cst (.int 10))))
  (.cons (.ifs (.cmp (.bin .Mod (.bin .FloorDiv (.call "_law_cell" (.cons (.var 0) (.cons (.cst (.int 0)) .nil))) (.cst (.int 10))) (.cst (.int 8))) [.Eq] (.cons (.cst (.int 1)) .nil)) (.cons (.assign 1 (.bin .Add (.var 1) (.bin .Mod (.bin .FloorDiv (.call "_law_cell" (.cons (.var 0) (.cons (.cst (.int 0)) .nil))) (.cst (.int 80))) (.cst (.int 61))))) .nil) .nil) ir_law_t2))
structure Facts06 (S : Stat) : Prop extends NameF S where
  cell : FnIs S "_law_cell" prm_law_cell ns_law_cell ir_law_cell
  sign : FnIs S "_law_sign" prm_law_sign ns_law_sign ir_law_sign
  name_by : FnIs S "_law_name_by" prm_law_name_by ns_law_name_by ir_law_name_by
  shown : FnIs S "shown" prm_shown ns_shown ir_shown
  read : FnIs S "read" prm_read ns_read ir_read
  law : FnIs S "law" prm_law ns_law ir_law
  nsrange : nsIn S.K mainGlobals "range" = some none
  nslist : nsIn S.K mainGlobals "list" = some none
  nsisi : nsIn S.K mainGlobals "isinstance" = some none
  str : ∀ H x, isiA S H (.str x) ["str"] = some true
  list : ∀ H xs, isiA S H (.lst xs) ["list"] = some true
  listr : ∀ H r xs, H r = some (.lst xs) → isiA S H (.ref r) ["list"] = some true
  tuple : ∀ H xs, isiA S H (.tup xs) ["tuple"] = some true
noncomputable def nmL (p c : Int) : List Nat := ((List.range (c % 20).toNat).map fun (k : Nat) => sgc (c / 20 + 5 * k * (c % 7))) ++ [sgc p]
noncomputable def nm (p c : Int) : Str := ⟨(nmL p c).toArray⟩
theorem nm_ok (p c : Int) : nameOK (nm p c) = true := by
  unfold nameOK
  have h1 : (nm p c).length = (c % 20).toNat + 1 := by
    show (nmL p c).toArray.size = _
    simp [nmL]
  have h2 : (nm p c).cps.toList.all okc = true := by
    show (nmL p c).all okc = true
    rw [List.all_eq_true]
    intro x hx
    unfold nmL at hx
    simp only [List.mem_append, List.mem_map, List.mem_singleton] at hx
    rcases hx with ⟨k, _, rfl⟩ | rfl <;> exact sgc_ok _
  rw [h1, h2]
  simp
  omega
theorem name_call {S : Stat} {d : Nat} {f : Addr} (F : Facts06 S) (hf : S.fn "_law_name_by" = some f) (hd : 1 < d) {p c : Int} {H : AH} {Q : AV → AH → Prop} {X : Value → AH → Prop} (q : Q (.str (nm p c)) H) : CallOK S d f [.int p, .int c] H Q X := by
  obtain ⟨f2, hf2, -⟩ := F.sign
  refine call_ok (F.name_by.chk hf) (by omega) rfl ?_
  refine run_assign ?_
  have h0 : 0 ≤ c % 20 := by omega
  have h1 : c % 20 < 20 := by omega
  simp only [wpE, wpEs, hf2, bi_range_iff, bin_mod, F.nsrange, rho0, ns_law_name_by, true_and, List.map_cons, List.map_nil, List.cons_append, List.nil_append, List.length_cons, List.length_nil, List.replicate, List.set_cons_succ, List.set_cons_zero, List.getElem?_cons_succ, List.getElem?_cons_zero, Option.some.injEq, exists_eq_left', if_true]
  refine ⟨by decide, by decide, _, _, rfl, fun D nf => ?_⟩
  have hsp : (span 0 (c % 20)).length = (c % 20).toNat := by unfold span; simp
  have hsz : 1000 ≤ sizeLine := by decide
  refine comp_pure (fun a => match a with | .int k => one (sgc (c / 20 + 5 * k * (c % 7))) | a => a) (fun _ => by omega) ?_ ?_ (by omega) ?_
  · intro v hv ys K q
    exact ⟨_, rfl, q⟩
  · intro v hv ys K q
    obtain ⟨i, hi, rfl⟩ : ∃ i : Nat, i < (c % 20).toNat ∧ v = .int i := by
      unfold span at hv
      simp only [List.mem_map, List.mem_range] at hv
      obtain ⟨i, hi, rfl⟩ := hv
      exact ⟨i, by omega, by simp⟩
    simp only [List.getElem?_set, List.length_set, List.length_cons, List.length_nil, List.set_cons_succ, List.set_cons_zero, List.getElem?_cons_succ, List.getElem?_cons_zero, Option.some.injEq, exists_eq_left', bin_div, bin_mod, bin_mul, bin_add]
    refine ⟨by decide, by decide, IntMulOk.of_left (by decide), by decide, by decide, IntMulOk.of_right (intBits_le_64 (by omega) (by omega)), ?_⟩
    exact sign_call F.sign hf2 (by omega) q
  · rw [if_neg (by decide), del_upd nf]
    have hc : (span 0 (c % 20)).map (fun a => match a with | .int k => one (sgc (c / 20 + 5 * k * (c % 7))) | a => a) = ((List.range (c % 20).toNat).map fun (k : Nat) => sgc (c / 20 + 5 * k * (c % 7))).map one := by
      unfold span
      simp [List.map_map, Function.comp_def]
    rw [hc]
    refine run_ret ?_
    simp only [wpE, wpEs, hf2, List.getElem?_cons_succ, List.getElem?_cons_zero, Option.some.injEq, exists_eq_left']
    generalize hcs : ((List.range (c % 20).toNat).map fun (k : Nat) => sgc (c / 20 + 5 * k * (c % 7))) = cs
    have hl : cs.length < 20 := by rw [← hcs]; simp; omega
    refine meth_bi bi_join (join_fin rfl (strsOf_one cs) (joinOk_one (by omega)) ?_)
    refine sign_call F.sign hf2 (by omega) ?_
    rw [show (("" : Str)) = Str.ofString "" from rfl, join_one]
    show wpBin _ .Add (.str _) (.str _) _
    refine ⟨?_, ?_⟩
    · show cs.toArray.size + 1 ≤ _
      simp; omega
    · have e : (⟨cs.toArray⟩ : Str) ++ (⟨#[sgc p]⟩ : Str) = nm p c := by
        refine str_ext ?_
        rw [app_list]
        show cs ++ [sgc p] = nmL p c
        unfold nmL
        rw [hcs]
      rw [e]
      exact q
noncomputable def lineT (r : Row) : Str := r.1 ++ (⟨#[32]⟩ : Str) ++ r.2.1 ++ (⟨#[32]⟩ : Str) ++ r.2.2 ++ (⟨#[10]⟩ : Str)
theorem lineT_list (r : Row) : (lineT r).cps.toList = lineL r ++ [10] := by
  unfold lineT lineL
  simp only [app_list]
  simp
theorem shown_call {S : Stat} {d : Nat} {f : Addr} (F : Facts06 S) (hf : S.fn "shown" = some f) (hd : 0 < d) {rows : List Row} (hr : ∀ r ∈ rows, r.ok) (hl : rows.length ≤ 1000) {H : AH} {Q : AV → AH → Prop} {X : Value → AH → Prop} (q : Q (.str (textS rows)) H) : CallOK S d f [.lst (rows.map rowAV)] H Q X := by
  refine call_ok (F.shown.chk hf) hd rfl ?_
  refine run_ret ?_
  simp only [wpE, wpEs, rho0, ns_shown, Back, List.map_cons, List.map_nil, List.cons_append, List.nil_append, List.length_cons, List.length_nil, List.replicate, List.getElem?_cons_zero, Option.some.injEq, exists_eq_left']
  have hsz : 100000 ≤ sizeLine := by decide
  refine meth_bi bi_join ⟨_, _, rfl, fun D nf => ?_⟩
  · refine comp_pure (fun a => match a with | .tup [.str x, .str y, .str z] => .str (lineT (x, y, z)) | a => a) (fun _ => trivial) ?_ ?_ (by rw [List.length_map]; omega) ?_
    · intro v hv ys K q
      exact ⟨_, rfl, q⟩
    · intro v hv ys K q
      simp only [List.mem_map] at hv
      obtain ⟨⟨x, y, z⟩, hr', rfl⟩ := hv
      have ok := hr _ hr'
      have h1 := (nameOK_len ok.1).2
      have h2 := (nameOK_len ok.2.1).2
      have h3 := (nameOK_len ok.2.2).2
      simp only at h1 h2 h3
      simp only [rowAV, sub_tup0, sub_tup1, sub_tup2, bin_adds, blank, feed, List.set_cons_succ, List.set_cons_zero, List.getElem?_cons_succ, List.getElem?_cons_zero, Option.some.injEq, exists_eq_left', Str.length_append]
      have l1 : (⟨#[32]⟩ : Str).length = 1 := rfl
      have l2 : (⟨#[10]⟩ : Str).length = 1 := rfl
      rw [l1, l2]
      exact ⟨by omega, by omega, by omega, by omega, by omega, q⟩
    · rw [if_neg (by decide), del_upd nf]
      have e : (rows.map rowAV).map (fun a => match a with | .tup [.str x, .str y, .str z] => .str (lineT (x, y, z)) | a => a) = rows.map fun r => AV.str (lineT r) := by
        rw [List.map_map]; rfl
      rw [e]
      have hle : ∀ r ∈ rows, (lineT r).length ≤ 63 := fun r hr' => by
        rw [← len_list, lineT_list]
        have := lineL_len (hr r hr')
        simp; omega
      refine join_fin rfl (strsOf_map lineT rows) (joinOk_of_weight ?_ (by decide)) ?_
      · have : ∀ l : List Row, (∀ r ∈ l, (lineT r).length ≤ 63) → ((l.map lineT).map (·.length)).sum ≤ 63 * l.length := by
          intro l
          induction l with
          | nil => intro _; simp
          | cons r l ih =>
            intro h
            have h1 := ih fun r hr => h r (by simp [hr])
            have h2 := h r (by simp)
            simp only [List.map_cons, List.sum_cons, List.length_cons]
            omega
        have := this rows hle
        rw [List.length_map]
        omega
      · have e2 : Txt.join (("" : Str)) (rows.map lineT) = textS rows := by
          refine str_ext ?_
          rw [show (("" : Str)) = Str.ofString "" from rfl, join0_list]
          show _ = textL rows
          unfold textL
          rw [List.map_map]
          congr 1
          refine List.map_congr_left fun r _ => ?_
          exact lineT_list r
        rw [e2]
        exact q
theorem read_call {S : Stat} {d : Nat} {f : Addr} (F : Facts06 S) (hf : S.fn "read" = some f) (hd : 1 < d) {rows : List Row} (hr : ∀ r ∈ rows, r.ok) (hl : rows.length ≤ 1000) {H : AH} {Q : AV → AH → Prop} {X : Value → AH → Prop}
    (q0 : rows = [] → Q (.lst []) H) (q : rows ≠ [] → ∀ D, ¬ foot H D → Q (.ref D) (upd H D (.lst (rows.map rowAV)))) : CallOK S d f [.str (textS rows)] H Q X := by
  obtain ⟨f1, hf1, -⟩ := F.is_name
  have hlen : (textS rows).length ≤ 63000 := by
    have := textL_len hr
    show (textL rows).toArray.size ≤ _
    simp; omega
  have hsz : 100000 ≤ sizeLine := by decide
  refine call_ok (F.read.chk hf) (by omega) rfl ?_
  refine run_if ?_
  simp only [wpE, wpEs, chain1, cmp_eq, eq_str, rho0, ns_read, Back, List.map_cons, List.map_nil, List.cons_append, List.nil_append, List.length_cons, List.length_nil, List.replicate, List.getElem?_cons_zero, Option.some.injEq, exists_eq_left', AV.bool.injEq, decide_eq_true_eq]
  have hem : (("" : Str)) = ⟨#[]⟩ := by decide
  refine ite_of (fun h0 => ?_) fun h0 => ?_
  · refine run_ret ?_
    simp only [wpE, wpEs, newL]
    exact ⟨Nat.zero_le _, q0 (textS_nil.mp (h0.trans hem))⟩
  · replace h0 : rows ≠ [] := fun z => h0 ((textS_nil.mpr z).trans hem.symm)
    refine run_nil (run_if ?_)
    have hx : (textS rows).cps.toList = joinL 10 (rows.map lineL) ++ [10] := textL_join h0
    simp only [wpE, wpEs, chain1, cmp_ne, List.getElem?_cons_zero, Option.some.injEq, exists_eq_left', AV.int.injEq]
    refine sub_last (by omega) (c := 10) (by rw [hx]; simp) ?_
    show EqOk H (one 10) (.str "\n") _
    rw [feed]
    simp only [one, eq_str]
    refine ⟨_, rfl, ?_⟩
    rw [if_neg (by simp)]
    refine run_nil (run_assign ?_)
    simp only [wpE, wpEs, newL]
    refine ⟨Nat.zero_le _, fun D nf => ?_⟩
    refine run_for ?_
    simp only [wpE, wpEs, List.set_cons_succ, List.set_cons_zero, List.getElem?_cons_zero, Option.some.injEq, exists_eq_left', AV.int.injEq]
    refine slc_init (by omega) ?_
    have hin : (⟨(textS rows).cps.toList.dropLast.toArray⟩ : Str).cps.toList ++ [10] = textL rows := by
      show (textS rows).cps.toList.dropLast ++ [10] = textL rows
      rw [hx, textL_join h0]
      simp
    refine meth_bi bi_split (split_fin (by decide) ?_ ?_)
    · have h1 : (⟨(textS rows).cps.toList.dropLast.toArray⟩ : Str).length + 1 = (textL rows).length := by
        rw [← hin, List.length_append, len_list]; rfl
      have h2 := textL_len hr
      omega
    · rw [split_text h0 hr hin]
      refine ⟨_, _, rfl, ?_⟩
      refine forL_inv (fun xs ρ H' => ∃ done rem, rows = done ++ rem ∧ xs = (rem.map lineS).map .str ∧ H' = upd H D (.lst (done.map rowAV)) ∧ ∃ o2 o3, ρ = [some (.str (textS rows)), some (.ref D), o2, o3]) (fun _ _ _ _ => trivial) ?_ ?_ _ _ _ ⟨[], rows, rfl, rfl, rfl, _, _, rfl⟩
      · rintro v xs ρ H' ⟨done, rem, er, ex, rfl, o2, o3, rfl⟩ K hK
        rcases rem with _ | ⟨r, rem⟩
        · cases ex
        simp only [List.map_cons, List.cons.injEq] at ex
        obtain ⟨rfl, rfl⟩ := ex
        have ok : r.ok := hr r (by rw [er]; simp)
        have h1 := (nameOK_len ok.1).2
        have h2 := (nameOK_len ok.2.1).2
        have h3 := (nameOK_len ok.2.2).2
        refine run_assign ?_
        simp only [wpE, wpEs, List.set_cons_succ, List.set_cons_zero, List.getElem?_cons_succ, List.getElem?_cons_zero, Option.some.injEq, exists_eq_left']
        refine meth_bi bi_split (split_fin (by decide) ?_ ?_)
        · have := lineL_len ok
          show (lineL r).toArray.size ≤ _
          simp; omega
        rw [blank, split_line ok]
        refine run_if ?_
        simp only [wpE, wpEs, wpBop, chain1, cmp_ne, eq_int, bi_len_iff, F.nslen, lenA, hf1, sub_lst0, sub_lst1, sub_lst2, true_and, List.map_cons, List.map_nil, List.length_cons, List.length_nil, List.set_cons_succ, List.set_cons_zero, List.getElem?_cons_succ, List.getElem?_cons_zero, Option.some.injEq, exists_eq_left', AV.bool.injEq]
        refine ⟨by decide, ?_⟩
        rw [if_pos (by decide)]
        refine isname_call F.toNameF hf1 (by omega) (by omega) ?_
        rw [ok.1]
        refine ⟨_, rfl, ?_⟩
        rw [if_pos (by decide)]
        refine isname_call F.toNameF hf1 (by omega) (by omega) ?_
        rw [ok.2.1]
        refine ⟨_, rfl, ?_⟩
        rw [if_pos (by decide)]
        refine isname_call F.toNameF hf1 (by omega) (by omega) ?_
        rw [ok.2.2]
        refine ⟨_, rfl, ?_⟩
        rw [if_neg (by decide)]
        refine run_nil (run_expr ?_)
        simp only [wpE, wpEs, sub_lst0, sub_lst1, sub_lst2, List.map_cons, List.map_nil, List.length_cons, List.length_nil, List.set_cons_succ, List.set_cons_zero, List.getElem?_cons_succ, List.getElem?_cons_zero, Option.some.injEq, exists_eq_left']
        refine meth_bi (bi_append upd_self) ⟨by omega, append_fin upd_self ?_ ?_⟩
        · rw [List.length_map]
          have := congrArg List.length er
          rw [List.length_append] at this
          omega
        · rw [upd_upd]
          refine run_nil (hK _ _ ⟨done ++ [r], rem, by rw [er]; simp, rfl, ?_, _, _, rfl⟩)
          rw [List.map_append]
          rfl
      · rintro ρ H' ⟨done, rem, er, ex, rfl, o2, o3, rfl⟩
        have : rem = [] := by cases rem with | nil => rfl | cons _ _ => cases ex
        subst this
        rw [List.append_nil] at er
        subst er
        refine run_ret ?_
        simp only [wpE, List.getElem?_cons_succ, List.getElem?_cons_zero, Option.some.injEq, exists_eq_left']
        exact q h0 D nf
theorem law_end {S : Stat} {d : Nat} (F : Facts06 S) {rows : List Row} {H : AH} {b : AV} {D : Addr} {o0 o1 o3 o4 o5 o6 o7 o8 o10 : Option AV} (hD : H D = some (.lst (rows.map rowAV))) (hl : rows.length ≤ 1000) (hb : lsOf H b = some (rows.map rowAV)) (hi : isiA S H b ["list"] = some true) (hit : ∃ same, iterOf H b = some (rows.map rowAV, same) ∧ ∀ D ys, ¬ foot H D → same (upd H D (.lst ys))) {X : Value → RE → AH → Prop} :
    wpSs S d (.cons (.ret (.bop true (.cons (.isi (.var 9) ["list"] false) (.cons (.cmp (.var 9) [.Eq] (.cons (.var 2) .nil)) (.cons (.cmp (.comp false 10 (.cst (.int 1)) (.var 9) (.nt (.isi (.var 10) ["tuple"] false))) [.Eq] (.cons (.lst false .nil) .nil)) .nil))))) .nil) [o0, o1, some (.ref D), o3, o4, o5, o6, o7, o8, some b, o10] H (Back fun a _ => a = .bool true) X := by
  obtain ⟨same, hit, hsm⟩ := hit
  have hsz : 100000 ≤ sizeLine := by decide
  refine run_ret ?_
  simp only [wpE, wpEs, wpBop, chain1, cmp_eq, F.nsisi, hi, Back, true_and, List.set_cons_succ, List.set_cons_zero, List.getElem?_cons_succ, List.getElem?_cons_zero, Option.some.injEq, exists_eq_left', AV.bool.injEq, if_true]
  refine eq_rows hb (ls_ref hD) ?_
  rw [if_pos rfl]
  refine ⟨_, _, hit, fun D' nf => ?_⟩
  refine comp_go (fun _ => false) id (fun ys => hsm D' ys nf) _ [] ?_ (fun _ _ z => nomatch z) (by rw [List.length_map, List.length_nil]; omega) ?_
  · intro v hv ys K q
    simp only [List.mem_map] at hv
    obtain ⟨r, _, rfl⟩ := hv
    simp only [rowAV, F.tuple, Option.some.injEq, exists_eq_left', AV.bool.injEq]
    exact q
  · have e : (rows.map rowAV).filter (fun _ => false) = [] := List.filter_eq_nil_iff.mpr fun _ _ => by decide
    rw [e, if_neg (by decide), List.map_nil, List.append_nil, del_upd nf]
    simp only [newL]
    exact ⟨Nat.zero_le _, eq_rows (rows := []) rfl rfl rfl⟩
theorem law_t7 {S : Stat} {d : Nat} (F : Facts06 S) (hd : 3 ≤ d) {rows : List Row} (hr : ∀ r ∈ rows, r.ok) (hl : rows.length ≤ 1000) {H : AH} {D : Addr} {o0 o1 o4 o5 o6 o9 o10 : Option AV} (hD : H D = some (.lst (rows.map rowAV))) {X : Value → RE → AH → Prop} :
    wpSs S d ir_law_t7 [o0, o1, some (.ref D), some (.str (textS rows)), o4, o5, o6, some (.lst (rows.map rowAV)), some (.str (textS rows)), o9, o10] H (Back fun a _ => a = .bool true) X := by
  obtain ⟨f1, hf1, -⟩ := F.read
  refine run_if ?_
  simp only [wpE, wpEs, wpBop, chain1, cmp_ne, eq_str, F.nsisi, F.str, true_and, List.getElem?_cons_succ, List.getElem?_cons_zero, Option.some.injEq, exists_eq_left', AV.bool.injEq]
  rw [if_pos (by decide), if_pos (by simp)]
  refine eq_rows rfl (ls_ref hD) ?_
  rw [if_neg (by decide)]
  refine run_nil (run_assign ?_)
  simp only [wpE, wpEs, hf1, List.getElem?_cons_succ, List.getElem?_cons_zero, Option.some.injEq, exists_eq_left']
  refine read_call F hf1 (by omega) hr hl (fun h0 => ?_) fun h0 D2 nf => ?_
  · subst h0
    exact law_end F (rows := []) hD (by simp) rfl (F.list _ _) ⟨_, rfl, fun _ _ _ => trivial⟩
  · have hne : D ≠ D2 := fun z => by
      have := none_of nf
      rw [← z, hD] at this; cases this
    refine law_end F (rows := rows) (by rw [upd_ne hne]; exact hD) hl (ls_ref upd_self) (F.listr _ _ _ upd_self) ⟨_, iter_ref upd_self, fun D' ys nf' => ?_⟩
    have : D2 ≠ D' := fun z => nf' (by unfold foot; rw [← z, upd_self]; exact fun q => nomatch q)
    rw [upd_ne this, upd_self]
theorem law_t5 {S : Stat} {d : Nat} (F : Facts06 S) (hd : 3 ≤ d) {rows : List Row} (hr : ∀ r ∈ rows, r.ok) (hl : rows.length ≤ 1000) {H : AH} {D : Addr} {o0 o1 o4 o5 o6 o7 o8 o9 o10 : Option AV} (hD : H D = some (.lst (rows.map rowAV))) {X : Value → RE → AH → Prop} :
    wpSs S d ir_law_t5 [o0, o1, some (.ref D), some (.str (textS rows)), o4, o5, o6, o7, o8, o9, o10] H (Back fun a _ => a = .bool true) X := by
  obtain ⟨f1, hf1, -⟩ := F.shown
  have hsz : 100000 ≤ sizeLine := by decide
  refine run_assign ?_
  simp only [wpE, wpEs, F.nslist, true_and, List.getElem?_cons_succ, List.getElem?_cons_zero, Option.some.injEq, exists_eq_left']
  refine bi_list (ls_ref hD) (by rw [List.length_map]; omega) ?_
  refine run_assign ?_
  simp only [wpE, wpEs, hf1, List.set_cons_succ, List.set_cons_zero, List.getElem?_cons_succ, List.getElem?_cons_zero, Option.some.injEq, exists_eq_left']
  exact shown_call F hf1 (by omega) hr hl (law_t7 F hd hr hl hD)
theorem text_snoc (rows : List Row) (r : Row) : textS rows ++ r.1 ++ (⟨#[32]⟩ : Str) ++ r.2.1 ++ (⟨#[32]⟩ : Str) ++ r.2.2 ++ (⟨#[10]⟩ : Str) = textS (rows ++ [r]) := by
  refine str_ext ?_
  simp only [app_list]
  show textL rows ++ _ ++ _ ++ _ ++ _ ++ _ ++ _ = textL (rows ++ [r])
  unfold textL lineL
  simp
theorem law_t2 {S : Stat} {d : Nat} (F : Facts06 S) (hd : 3 ≤ d) {xs : List Int} (hx : xs.length ≤ 63) {n : Int} (h0 : 0 ≤ n) (h1 : n < 100) {H : AH} {o2 o3 o4 o5 o6 o7 o8 o9 o10 : Option AV} :
    wpSs S d ir_law_t2 [some (iL xs), some (.int n), o2, o3, o4, o5, o6, o7, o8, o9, o10] H (Back fun a _ => a = .bool true) fun _ _ _ => False := by
  obtain ⟨f1, hf1, -⟩ := F.cell
  obtain ⟨f2, hf2, -⟩ := F.name_by
  have hsz : 100000 ≤ sizeLine := by decide
  refine run_assign ?_
  simp only [wpE, wpEs, newL]
  refine ⟨Nat.zero_le _, fun D nf => ?_⟩
  refine run_assign ?_
  simp only [wpE]
  refine run_for ?_
  simp only [wpE, wpEs, bi_range_iff, F.nsrange, true_and, List.set_cons_succ, List.set_cons_zero, List.getElem?_cons_succ, List.getElem?_cons_zero, Option.some.injEq, exists_eq_left']
  refine ⟨_, _, rfl, ?_⟩
  refine forL_inv (fun vs ρ H' => ∃ rows : List Row, (∀ r ∈ rows, r.ok) ∧ rows.length + vs.length ≤ 100 ∧ (∀ v ∈ vs, ∃ k : Int, v = .int k ∧ 0 ≤ k ∧ k < 100) ∧ H' = upd H D (.lst (rows.map rowAV)) ∧ ∃ o4 o5 o6 o7 o8 o9 o10, ρ = [some (iL xs), some (.int n), some (.ref D), some (.str (textS rows)), o4, o5, o6, o7, o8, o9, o10]) (fun _ _ _ _ => by omega) ?_ ?_ _ _ _ ⟨[], ?_, ?_, ?_, rfl, _, _, _, _, _, _, _, rfl⟩
  · rintro v vs ρ H' ⟨rows, hr, hl, hv, rfl, o4, o5, o6, o7, o8, o9, o10, rfl⟩ K hK
    obtain ⟨k, rfl, k0, k1⟩ := hv v (by simp)
    rw [List.length_cons] at hl
    refine run_assign ?_
    simp only [wpE, wpEs, hf1, bin_add, bin_mod, bin_div, List.set_cons_succ, List.set_cons_zero, List.getElem?_cons_succ, List.getElem?_cons_zero, Option.some.injEq, exists_eq_left']
    refine ⟨by decide, by decide, cell_call F.cell hf1 (by omega) hx (by omega) (by omega) ⟨by decide, by decide, ?_⟩⟩
    simp only [bin_add]
    generalize cell xs (1 + k % 20) + k / 20 = c
    refine run_assign ?_
    simp only [wpE, wpEs, hf2, bin_div, List.set_cons_succ, List.set_cons_zero, List.getElem?_cons_succ, List.getElem?_cons_zero, Option.some.injEq, exists_eq_left']
    refine name_call F hf2 (by omega) ⟨by decide, by decide, by decide, by decide, name_call F hf2 (by omega) ⟨by decide, by decide, by decide, by decide, name_call F hf2 (by omega) ⟨by simp only [List.length_cons, List.length_nil]; omega, ?_⟩⟩⟩
    have ok : Row.ok (nm c c, nm (c / 93) (c / 7), nm (c / 8649) (c / 49)) := ⟨nm_ok _ _, nm_ok _ _, nm_ok _ _⟩
    generalize hra : nm c c = a at ok
    generalize hrb : nm (c / 93) (c / 7) = b at ok
    generalize hrc : nm (c / 8649) (c / 49) = e at ok
    refine run_expr ?_
    simp only [wpE, wpEs, List.set_cons_succ, List.set_cons_zero, List.getElem?_cons_succ, List.getElem?_cons_zero, Option.some.injEq, exists_eq_left']
    refine meth_bi (bi_append upd_self) (append_fin upd_self (by rw [List.length_map]; omega) ?_)
    rw [upd_upd]
    refine run_assign ?_
    have e1 := (nameOK_len ok.1).2
    have e2 := (nameOK_len ok.2.1).2
    have e3 := (nameOK_len ok.2.2).2
    simp only at e1 e2 e3
    have hlen : (textS rows).length ≤ 63 * 100 := by
      have := textL_len hr
      show (textL rows).toArray.size ≤ _
      simp; omega
    have l1 : (⟨#[32]⟩ : Str).length = 1 := rfl
    have l2 : (⟨#[10]⟩ : Str).length = 1 := rfl
    simp only [wpE, sub_tup0, sub_tup1, sub_tup2, bin_adds, blank, feed, List.set_cons_succ, List.set_cons_zero, List.getElem?_cons_succ, List.getElem?_cons_zero, Option.some.injEq, exists_eq_left', Str.length_append, l1, l2]
    have et := text_snoc rows (a, b, e)
    simp only at et
    rw [et]
    refine ⟨by omega, by omega, by omega, by omega, by omega, by omega, run_nil (hK _ _ ⟨rows ++ [(a, b, e)], ?_, ?_, fun v hv' => hv v (by simp [hv']), ?_, _, _, _, _, _, _, _, rfl⟩)⟩
    · intro r hr'
      simp only [List.mem_append, List.mem_singleton] at hr'
      rcases hr' with hr' | rfl
      · exact hr r hr'
      · exact ok
    · simp; omega
    · rw [List.map_append]; rfl
  · rintro ρ H' ⟨rows, hr, hl, hv, rfl, o4, o5, o6, o7, o8, o9, o10, rfl⟩
    exact law_t5 F hd hr (by omega) upd_self
  · intro r hr; cases hr
  · unfold span; simp; omega
  · intro v hv
    unfold span at hv
    simp only [List.mem_map, List.mem_range] at hv
    obtain ⟨i, hi, rfl⟩ := hv
    exact ⟨_, rfl, by omega, by omega⟩
theorem law_06 {S : Stat} (F : Facts06 S) (xs : List Int) (hx : xs.length ≤ 63) : ∃ f, S.fn "law" = some f ∧ CallOK S 40 f [iL xs] (fun _ => none) (fun a _ => a = .bool true) noX := by
  obtain ⟨f, hf, -⟩ := F.law
  obtain ⟨f1, hf1, -⟩ := F.cell
  refine ⟨f, hf, call_ok (F.law.chk hf) (by decide) rfl ?_⟩
  refine run_assign ?_
  simp only [wpE, wpEs, hf1, rho0, ns_law, List.map_cons, List.map_nil, List.cons_append, List.nil_append, List.length_cons, List.length_nil, List.replicate, List.getElem?_cons_zero, Option.some.injEq, exists_eq_left']
  refine cell_call F.cell hf1 (by decide) hx (by decide) (by decide) (bin_mod.mpr ⟨by decide, by decide, ?_⟩)
  refine run_if ?_
  simp only [wpE, wpEs, chain1, cmp_eq, hf1, List.set_cons_succ, List.set_cons_zero, List.getElem?_cons_succ, List.getElem?_cons_zero, Option.some.injEq, exists_eq_left']
  refine cell_call F.cell hf1 (by decide) hx (by decide) (by decide) (bin_div.mpr ⟨by decide, by decide, bin_mod.mpr ⟨by decide, by decide, ?_⟩⟩)
  simp only [eq_int, AV.bool.injEq, exists_eq_left', decide_eq_true_eq]
  refine ite_of (fun h => ?_) fun h => ?_
  · refine run_assign ?_
    simp only [wpE, wpEs, hf1, List.set_cons_succ, List.set_cons_zero, List.getElem?_cons_succ, List.getElem?_cons_zero, Option.some.injEq, exists_eq_left']
    refine cell_call F.cell hf1 (by decide) hx (by decide) (by decide) (bin_div.mpr ⟨by decide, by decide, bin_mod.mpr ⟨by decide, by decide, ?_⟩⟩)
    simp only [bin_add]
    exact run_nil (law_t2 F (by decide) hx (by omega) (by omega))
  · exact run_nil (law_t2 F (by decide) hx (by omega) (by omega))
end Mine
set_option Elab.async false
namespace Mine
set_option maxRecDepth 100000
set_option maxHeartbeats 8000000
open_top hd06 for PySem.Challenge.rw_uf030014_06
end Mine
set_option maxRecDepth 100000 in
set_option maxHeartbeats 8000000 in
theorem PySem.Challenge.cw_uf030014_06_holds : PySem.Challenge.rw_uf030014_06.Holds := by
  refine Mine.hd06 ?_
  intro w s₀ s₁ mg mb G Y fa o pm cd doc dV kV ho hd hcd hD hmg hg args vals as hpre hlay hrd hwl hlo
  have KX := kIn_of Y
  refine Ground.open G ?_
  intro T B D TE TW
  have T' := topRead_of T
  have sr := T.seer (by kernel_rfl)
  clear hd hcd hD TE TW D B Y G ho T
  wrow_args hpre hlay hrd hwl hlo
  rename_i xs _ _ _ _ _ _ _ l vs _ hL _ hW _ hI _ hn _
  let S : Mine.Stat := { prog := PySem.Challenge.rw_uf030014_06.row.prog, w := w, base := s₁.heap, K := Mine.hd06.heap_39 w.params, pr := _, loose := _, mg := mg, mb := mb, hK := KX, hT := T', seer := sr }
  have F : Mine.Facts06 S := by
    have isv : ∀ (H : Mine.AH) (a : Mine.AV) (t : String) (x : PySem.Str), Mine.clsOf H a = some (.type t) → Mine.Stat.typesV S [x] = some [.type t] → kitAny S.K (.type t) [.type t] = some true → Mine.isiA S H a [x] = some true :=
      fun H a t x h1 h2 h3 => Mine.isi_of h1 h2 h3
    refine ⟨⟨Mine.fnIs_of ?_, ?_, ?_⟩, Mine.fnIs_of ?_, Mine.fnIs_of ?_, Mine.fnIs_of ?_, Mine.fnIs_of ?_, Mine.fnIs_of ?_, Mine.fnIs_of ?_, ?_, ?_, ?_, fun H x => isv H _ "str" _ rfl ?_ ?_, fun H x => isv H _ "list" _ rfl ?_ ?_, fun H r x h => isv H _ "list" _ (by simp only [Mine.clsOf, h]) ?_ ?_, fun H x => isv H _ "tuple" _ rfl ?_ ?_⟩
    · show Mine.fnB (Mine.hd06.heap_39 w.params) _ _ _ _ = true
      kernel_rfl
    · show nsIn (Mine.hd06.heap_39 w.params) _ _ = _
      kernel_rfl
    · show Mine.Stat.gint _ _ = _
      kernel_rfl
    iterate 6
      · show Mine.fnB (Mine.hd06.heap_39 w.params) _ _ _ _ = true
        kernel_rfl
    iterate 3
      · show nsIn (Mine.hd06.heap_39 w.params) _ _ = _
        kernel_rfl
    iterate 4
      · show Mine.Stat.typesV _ _ = _
        kernel_rfl
      · show kitAny (Mine.hd06.heap_39 w.params) _ _ = _
        kernel_rfl
  obtain ⟨f, hf, _⟩ := Mine.law_06 F [] (by decide)
  refine Mine.law_ok (l := PySem.Challenge.rw_uf030014_06) S rfl rfl rfl rfl hg hmg hf hI hL hW hn fun ys hy => ?_
  obtain ⟨f', hf', h⟩ := Mine.law_06 F ys hy
  rw [hf] at hf'
  cases hf'
  exact h
